/- A part of it. -/
import Derived.Test.YtlabamnhpgoekaaGreatDoorL2
import Derived.Orders
import Derived.LoopN
import Derived.Scope
set_option linter.unusedVariables false
set_option linter.unusedSimpArgs false
namespace Go.Proofs.YtlabamnhpgoekaaGreatDoor.Le
open Go.RowKit (Below)
structure Dk (E:Env) (B:Nat) (w0:Start) (σ:Sg) (st:St) (a:Act) (w:World):Prop where
 inv:Inv B w0 σ st.H w
 Ci:CW E σ w
 slots:AL σ w st.s a.tmps.toList
 calm:a.defers=[]
theorem XI {σ w s x u} {a:Act} (h:AL σ w s a.tmps.toList) (hx:AL σ w [x] [u]) (d:Option Tmp):AL σ w (setSlot s d x) (a.put d u).tmps.toList:=by
 cases d with
 | none=>exact h
 | some d=>
  simp only [setSlot,Act.put,Array.toList_setIfInBounds]
  exact h.set d hx
theorem Xc {a:Act} (h:a.defers=[]) (d:Option Tmp) (u:Value):(a.put d u).defers=[]:=by
 cases d<;>exact h
theorem ZfQ {σ w s} {a:Act} {ops:Array Oper} (h:AL σ w s a.tmps.toList) {j d:Nat} {want r:Bool} (hd:(ops[j]?).bind (·.dst)=some d) (hg:Ig (s.getD d .und) want=some r) :
  (yielded ops a.tmps j==some want)=r:=by
 unfold yielded
 rw [hd]
 have hcase:∀x,s.getD d .und=x->x≠.und->∃v,a.tmps[d]? = some v/\AL σ w [x] [v]:=by
  intro x hx hne
  cases hs:s[d]? with
  | none=>simp_all
  | some y=>
   simp [List.getD,hs] at hx
   subst hx
   obtain⟨v,hv,hr⟩:=h.get hs
   simp_all
 unfold Ig at hg
 split at hg
 ·rename_i b hb
  obtain⟨v,hv,hr⟩:=hcase _ hb (by simp)
  simp only [Option.some.injEq] at hg
  have:v = .bool b:=by cases hr;rfl
  simp_all
 ·rename_i hb
  obtain⟨v,hv,hr⟩:=hcase _ hb (by simp)
  simp only [Option.some.injEq] at hg
  have:v=undef:=by cases hr;rfl
  subst this
  simp only [Option.bind_some,hv]
  rw [<- hg]
  rfl
 ·cases hg
section
variable {E:Env} {B:Nat} {w0:Start} {σ:Sg} {P:Program} {call:CS} {ops:Array Oper} {st st' : St} {a:Act} {w:World}
theorem Z2o (hE:BP E) (hP:E.P=P) (hcall:IV P E B w0 call) {k i:Nat} (hk:EL st.H k=true) (h:Dk E B w0 σ st a w) (hs:Ic call E ops k i st=some st')
  {K:Act->World->Prop} {Q:Exit->Act->World->Prop} (hn:∀a' w' σ',Dk E B w0 σ' st' a' w' -> Ext σ w σ' w' -> K a' w'):wpOp P ops Q i K a w:=by
 unfold Ic at hs
 unfold wpOp
 cases ho:ops[i]? with
 | none=>
  simp only [ho,Option.some.injEq] at hs ⊢
  subst hs
  exact hn a w σ h (Ext.refl σ w)
 | some o=>
  simp only [ho] at hs ⊢
  have hop:∀x H',Ak call E k st.H st.s o=some (x,H')->st' = ⟨setSlot st.s o.dst x,H'⟩->o.wp P a w K Q:=by
   intro x H' hx hst
   refine Zgv hE hP hcall h.inv h.Ci hk h.slots o x H' hx K Q (fun u w' σ' h1 h2 h3=>hn _ w' σ' ⟨?_,h.Ci.ext h2,?_,Xc h.calm _ _⟩ h2)
   ·rw [hst];exact h1
   ·rw [hst];exact XI (h.slots.ext h2) h3 o.dst
  have hskip:st' = ⟨setSlot st.s o.dst Ce,st.H⟩->K (a.put o.dst undef) w:=by
   intro hst
   refine hn _ w σ ⟨by rw [hst];exact h.inv,h.Ci,?_,Xc h.calm _ _⟩ (Ext.refl σ w)
   rw [hst]
   exact XI h.slots (.no .nil) o.dst
  cases hact:DW call E ops k o st with
  | none=>simp [hact] at hs
  | some r=>
   obtain⟨v,H'⟩:=r
   simp only [hact,Option.some.injEq] at hs
   unfold DW at hact
   unfold Region.wanted
   cases hgd:o.guard with
   | none=>
    simp_all
   | some jw=>
    obtain⟨j,want⟩:=jw
    simp only [hgd] at hact ⊢
    cases hd:(ops[j]?).bind (·.dst) with
    | none=>simp [hd] at hact
    | some d=>
     simp only [hd] at hact
     cases hg:Ig (st.s.getD d .und) want with
     | none=>simp_all
     | some r=>
      rw [hg] at hact
      simp only [ZfQ h.slots hd hg]
      grind
theorem Z3y (hE:BP E) (hP:E.P=P) (hcall:IV P E B w0 call):∀(is:List Nat) (st:St) (σ:Sg) (a:Act) (w:World),Dk E B w0 σ st a w->Js call E ops is st=some st' ->
  ∀{Q:Exit->Act->World->Prop},(∀a' w' σ',Dk E B w0 σ' st' a' w' -> Ext σ w σ' w' -> Q .normal a' w')->wpOps P ops Q is a w:=by
 intro is
 induction is with
 | nil=>
  intro st σ a w h hs Q hn
  simp only [Js,Option.some.injEq] at hs
  subst hs
  exact hn a w σ h (Ext.refl σ w)
 | cons i rest ih=>
  intro st σ a w h hs Q hn
  simp only [Js] at hs
  cases h1:stepD call E ops i st with
  | none=>simp [h1] at hs
  | some st1=>
   simp only [h1] at hs
   rw [wpOps_cons]
   exact Z2o hE hP hcall (UB st.H) h h1 (fun a1 w1 σ1 hr1 he1=>ih st1 σ1 a1 w1 hr1 hs (fun a' w' σ' hr he=>hn a' w' σ' hr (he1.trans he)))
end
end Go.Proofs.YtlabamnhpgoekaaGreatDoor.Le
namespace Go.Proofs.YtlabamnhpgoekaaGreatDoor.Le
open Go.RowKit (Below)
theorem getD_set_ne' {s:List V} {d t:Nat} (h:d≠t) (v u:V):(s.set d v).getD t u=s.getD t u:=by
 simp_all
theorem YJ {E:Env} {s:List V} {d:Option Tmp} {v:V} (x:Operand) (h:∀d',d=some d' -> x≠.tmp d'):ev E (setSlot s d v) x=ev E s x:=by
 cases d with
 | none=>rfl
 | some d=>
  cases x with
  | tmp t=>exact getD_set_ne' (fun e=>h d rfl (by rw [e])) v .und
  | _=>rfl
theorem iI {E:Env} {s s' : List V} (xs:List Operand) (h:∀x∈xs,ev E s x=ev E s' x):xs.map (ev E s)=xs.map (ev E s'):=List.map_congr_left h
theorem Z0n {E:Env} {s s' : List V} (ps:Array (Nat×Operand)) (h:∀x∈(ps.toList.map (·.2)).toArray,ev E s x=ev E s' x) :
  (ps.toList.map fun(i,x)=>(i,ev E s x))=(ps.toList.map fun(i,x)=>(i,ev E s' x)):=List.map_congr_left fun p hp=>by
 grind
theorem ZeL {call:CS} {E:Env} {k:Nat} {H:Heap} {s s' : List V} {o:Oper} (h:∀x∈o.op.operands,ev E s x=ev E s' x):Ak call E k H s o=Ak call E k H s' o:=by
 obtain⟨dst,op,type,pos,after,guard⟩:=o
 simp only at h
 cases op<;>simp only [Op.operands] at h<;>simp only [Ak]
 case assign x=>
  have hx:ev E s x=ev E s' x:=h x (by simp)
  split<;>simp_all
 case build t ps=>rw [Z0n ps h]
 case buildSlice t n ps=>rw [Z0n ps h]
 case makeFunc fn first captured=>
  have h1:evs E s first=evs E s' first:=iI _ fun x hx=>h x (by simp at hx;simp [hx])
  have h2:evs E s captured=evs E s' captured:=iI _ fun x hx=>h x (by simp at hx;simp [hx])
  cases fn<;>simp only [h1,h2]
 case call c=>
  have h1:evs E s c.args=evs E s' c.args:=iI _ fun x hx=>h x (by simp at hx;simp [Call.operands,hx])
  rw [h1]
  cases hc:c.callee with
  | value f=>have hf:ev E s f=ev E s' f:=h f (by simp [Call.operands,hc]);simp only [hf]
  | builtin b=>cases b<;>rfl
  | invoke r n=>rfl
 case slice t x lo hi mx=>
  have hx:ev E s x=ev E s' x:=h x (by simp)
  have hlo:lo.map (ev E s)=lo.map (ev E s'):=by cases lo<;>simp_all
  have hhi:hi.map (ev E s)=hi.map (ev E s'):=by cases hi<;>simp_all
  have hmx:mx.map (ev E s)=mx.map (ev E s'):=by cases mx<;>simp_all
  rw [hx,hlo,hhi,hmx]
 all_goals simp_all
theorem X3 {ops:Array Oper} {o:Oper} {d:Tmp} (h:d∉o.looksAt ops):∀x∈o.op.operands,x≠.tmp d:=fun x hx e=>h (by
 subst e
 exact List.mem_append_left _ (List.mem_filterMap.2 ⟨.tmp d,by simpa using hx,rfl⟩))
theorem Z3v {call:CS} {E:Env} {k:Nat} {H:Heap} {s:List V} {o:Oper} {ops:Array Oper} {d:Option Tmp} {v:V} (h:∀d',d=some d' -> d' ∉o.looksAt ops) :
  Ak call E k H (setSlot s d v) o=Ak call E k H s o:=
 ZeL fun x hx=>YJ x fun d' hd=>X3 (h d' hd) x hx
theorem XQ {E:Env} {s:List V} {o:Oper} {ops:Array Oper} {d:Option Tmp} {v:V} (h:∀d',d=some d' -> d' ∉o.looksAt ops):CY E (setSlot s d v) o=CY E s o:=by
 unfold CY
 rw [<- List.flatMap_map,<- List.flatMap_map (f:=ev E s)]
 congr 1
 exact List.map_congr_left fun x hx=>YJ x fun d' hd=>X3 (h d' hd) x (by simpa using hx)
theorem Z0r {E:Env} {s:List V} {o:Oper} {ops:Array Oper} {d:Option Tmp} {v:V} (h:∀d',d=some d' -> d' ∉o.looksAt ops):quietAt E (setSlot s d v) o=quietAt E s o:=by
 unfold quietAt
 cases hop:o.op with
 | call c=>
  simp only
  cases hcal:c.callee with
  | value f=>
   cases f with
   | tmp t=>
    have hx:Operand.tmp t∈o.op.operands:=by simp [hop,Op.operands,Call.operands,hcal]
    have:=YJ (E:=E) (s:=s) (v:=v) (.tmp t) fun d' hd=>X3 (h d' hd) _ hx
    simp only [show (setSlot s d v).getD t .und=s.getD t .und from this]
   | _=>rfl
  | _=>rfl
 | _=>rfl
theorem Z2w {call:CS} {E:Env} {k:Nat} {H:Heap} {s:List V} {o:Oper} {ops:Array Oper} {d:Option Tmp} {v:V} (h:∀d',d=some d' -> d' ∉o.looksAt ops) :
  DW call E ops k o ⟨setSlot s d v,H⟩=DW call E ops k o ⟨s,H⟩:=by
 unfold DW
 cases hg:o.guard with
 | none=>exact Z3v h
 | some jw=>
  obtain⟨j,want⟩:=jw
  simp only
  cases hd:(ops[j]?).bind (·.dst) with
  | none=>rfl
  | some g=>
   have hne:∀d',d=some d' -> d' ≠g:=fun d' hd' e=>h d' hd' (by
    subst e
    exact List.mem_append_right _ (by simp [hg,hd]))
   have:(setSlot s d v).getD g .und=s.getD g .und:=by
    cases d with
    | none=>rfl
    | some d=>exact getD_set_ne' (hne d rfl) v .und
   simp only [this]
   rw [Z3v h]
def Box.low (b:Box):Box:={ b with floor:=0 }
def Bi (R:List Nat) (H H' : Heap):Prop:=∀id∈R,(H[id]?).map Box.low=(H'[id]?).map Box.low
theorem ND {H H' : Heap} {id tot:Nat} {b:Box} (h:(H[id]?).map Box.low=(H'[id]?).map Box.low) (hb:CB H id tot=some b):∃b',CB H' id tot=some b' /\ b'.low=b.low:=by
 unfold CB at *
 cases h1:H[id]? with
 | none=>simp [h1] at hb
 | some b0=>
  simp only [h1] at hb h
  cases h2:H'[id]? with
  | none=>simp [h2] at h
  | some b1=>
   simp only [h2,Option.map_some,Option.some.injEq] at h
   split at hb
   ·rename_i hc
    simp only [Option.some.injEq] at hb
    subst hb
    refine⟨b1,?_,h.symm⟩
    have e1:b1.live=b0.live:=(congrArg Box.live h).symm
    have e2:b1.xs=b0.xs:=(congrArg Box.xs h).symm
    simp only [e1,e2,hc,if_true]
   ·cases hb
theorem PO {b b' : Box} (h:b'.low=b.low):b'.row=b.row/\b'.DZ=b.DZ/\b'.elem=b.elem/\b'.AZ=b.AZ/\b'.xs=b.xs:=
 ⟨congrArg (·.row) h,congrArg (·.DZ) h,congrArg (·.elem) h,congrArg (·.AZ) h,congrArg (·.xs) h⟩
theorem Ou {H H' : Heap} {id tot:Nat} (h:(H[id]?).map Box.low=(H'[id]?).map Box.low) (hb:CB H id tot=none):CB H' id tot=none:=by
 cases hb' : CB H' id tot with
 | none=>rfl
 | some b=>
  obtain⟨b',h1,_⟩:=ND h.symm hb'
  simp_all
section
variable {H H' : Heap}
theorem oC {x:V} (h:Bi (Cj x) H H'):Ee H' x=Ee H x:=by
 unfold Ee
 split<;>try rfl
 rename_i id off len tot
 cases hb:CB H id tot with
 | none=>rw [Ou (h id (by simp [Cj])) hb]
 | some b=>
  obtain⟨b',h1,h2⟩:=ND (h id (by simp [Cj])) hb
  obtain⟨e1,e2,e3,e4,e5⟩:=PO h2
  simp_all
theorem ZfR {xs:List V} (h:Bi (xs.flatMap Cj) H H'):I4 H' xs=I4 H xs:=by
 induction xs with
 | nil=>rfl
 | cons x xs ih=>
  simp only [I4]
  rw [oC (fun i hi=>h i (by simp [hi])),ih (fun i hi=>h i (by rw [List.flatMap_cons];exact List.mem_append_right _ hi))]
theorem Z3f {x:V} (h:Bi (Ba x) H H'):Fp H' x=Fp H x:=by
 unfold Fp
 split
 ·rw [ZfR (by simpa [Ba] using h)]
 ·rename_i hne
  refine oC (fun i hi=>h i ?_)
  cases x with
  | fn f a b=>simp [Cj] at hi
  | agg cs=>simp_all
  | _=>exact hi
theorem kH {xs:List V} (h:Bi (xs.flatMap Ba) H H'):EE H' xs=EE H xs:=by
 induction xs with
 | nil=>rfl
 | cons x xs ih=>
  simp only [EE]
  rw [Z3f (fun i hi=>h i (by simp [hi])),ih (fun i hi=>h i (by rw [List.flatMap_cons];exact List.mem_append_right _ hi))]
theorem nH {x:V} (h:Bi (Ba x) H H'):lenOf H' x=lenOf H x:=by
 unfold lenOf
 split<;>try rfl
 rename_i id off len tot
 cases hb:CB H id tot with
 | none=>rw [Ou (h id (by simp [Ba,Cj])) hb]
 | some b=>
  obtain⟨b',h1,h2⟩:=ND (h id (by simp [Ba,Cj])) hb
  simp only [h1]
theorem We {x:V} (h:Bi (Ba x) H H'):elemsOf H' x=elemsOf H x:=by
 unfold elemsOf
 split<;>try rfl
 rename_i id off len tot
 cases hb:CB H id tot with
 | none=>rw [Ou (h id (by simp [Ba,Cj])) hb]
 | some b=>
  obtain⟨b',h1,h2⟩:=ND (h id (by simp [Ba,Cj])) hb
  obtain⟨e1,e2,e3,e4,e5⟩:=PO h2
  simp only [h1,e1,e5]
theorem XU {x:V} {n:Nat} (h:Bi (Ba x) H H'):Df H' x n=Df H x n:=by
 unfold Df
 split<;>try rfl
 rename_i id off len tot
 cases hb:CB H id tot with
 | none=>rw [Ou (h id (by simp [Ba,Cj])) hb]
 | some b=>
  obtain⟨b',h1,h2⟩:=ND (h id (by simp [Ba,Cj])) hb
  obtain⟨e1,e2,e3,e4,e5⟩:=PO h2
  simp only [h1,e4]
theorem Z23 {E:Env} {t:TypeId} {a:V} (h:Bi (Ba a) H H'):Jf E H' t a=Jf E H t a:=by
 unfold Jf
 split
 ·rfl
 ·split<;>try rfl
  rename_i id j off tot
  cases hb:CB H id tot with
  | none=>rw [Ou (h id (by simp [Ba,Cj])) hb]
  | some b=>
   obtain⟨b',h1,h2⟩:=ND (h id (by simp [Ba,Cj])) hb
   obtain⟨e1,e2,e3,e4,e5⟩:=PO h2
   simp only [h1,e5]
theorem Z8P {E:Env} {t:TypeId} {x i:V} (h:Bi (Ba x) H H'):MX E H' t x i=MX E H t x i:=by
 unfold MX
 split<;>try rfl
 split<;>try rfl
 rename_i id off len tot hty
 cases hb:CB H id tot with
 | none=>rw [Ou (h id (by simp [Ba,Cj])) hb]
 | some b=>
  obtain⟨b',h1,h2⟩:=ND (h id (by simp [Ba,Cj])) hb
  obtain⟨e1,e2,e3,e4,e5⟩:=PO h2
  simp only [h1,e4]
theorem ZL {E:Env} {t:TypeId} {x:V} (h:Bi (Ba x) H H'):NC E H' t x=NC E H t x:=by
 unfold NC
 split<;>try rfl
 split<;>try rfl
 split<;>try rfl
 rw [XU h]
end
def eff (ids:List Nat) (nb:Option Box) (k:Nat) (H:Heap):Heap:=
 match nb with
 | none=>bump H ids
 | some b=>place (bump H ids) k b
def YK (E:Env) (call:CS):Prop:=
 ∀f,Ob E f=true->∀args H v H1,call f args H=some (v,H1) ->
  H1=bump H (args.flatMap CV)/\∀H',Bi (args.flatMap Ba) H H' -> call f args H' = some (v,bump H' (args.flatMap CV))
def YG (E:Env) (call:CS):Prop:=
 ∀f,O1 E f=true->∀args H v H1,call f args H=some (v,H1) ->
  ∃ids nbs,(∀i∈ids,i∈args.flatMap Ba)/\H1=bump H ids++nbs/\∀H',H'.length=H.length->Bi (args.flatMap Ba) H H' -> call f args H' = some (v,bump H' ids++nbs)
def Y2 (E:Env) (call:CS):Prop:=
 ∀f,Ob E f=false->O1 E f=false->MJ E f=true->∀args H v H1 n b0 b,call f args H=some (v,H1)->H[n]? = some b0->b0.row=false->b.row=false ->
  H1[n]? = some b0/\call f args (H.set n b)=some (v,H1.set n b)
structure La (E:Env) (call:CS):Prop where
 pure:YK E call
 free:YG E call
 row:Y2 E call
theorem ZdV {E:Env} {f:FuncId} (h:O1 E f=true):MJ E f=true:=by
 unfold O1 at h
 unfold MJ
 simp only [Bool.and_eq_true] at h ⊢
 refine⟨h.1,?_⟩
 cases hh:E.hm f [] with
 | none=>rw [hh] at h;exact h.2
 | some hs=>
  rw [hh] at h
  have:hs.fb=[]:=by simpa using h.2
  simp [this]
theorem Z32 {x:V} {i:Nat} (h:i∈Dn x):i∈Cj x:=by
 cases x<;>simp_all [Dn,Cj]
theorem Zfa {x:V} {i:Nat} (h:i∈CV x):i∈Ba x:=by
 cases x with
 | agg cs=>
  simp only [CV,Ba,List.mem_flatMap] at *
  obtain⟨c,hc,hi⟩:=h
  exact⟨c,hc,Z32 hi⟩
 | _=>simp_all [CV,Ba,Dn,Cj]
theorem kF {xs:List V} {i:Nat} (h:i∈xs.flatMap CV):i∈xs.flatMap Ba:=by
 simp only [List.mem_flatMap] at *
 obtain⟨c,hc,hi⟩:=h
 exact⟨c,hc,Zfa hi⟩
theorem pJ {y:Option V} {H H1:Heap} {v:V} (h:y.map (·,H)=some (v,H1)):y=some v/\H1=H:=by
 cases y with
 | none=>cases h
 | some x=>simp_all
def Eff (call:CS) (E:Env) (k:Nat) (H:Heap) (s:List V) (o:Oper) (v:V) (H1:Heap):Prop:=
 ∃ids nb,(∀i∈ids,i∈CY E s o)/\(nb.isSome=true->BF E o = .a)/\H1=eff ids nb k H /\
  ∀H' k',(BF E o = .a->k' = k)->Bi (CY E s o) H H' -> Ak call E k' H' s o=some (v,eff ids nb k' H')
theorem Xd {call:CS} {E:Env} {k:Nat} {H H1:Heap} {s:List V} {o:Oper} {v:V} {y:Heap->Option V} (he:∀H k,Ak call E k H s o=(y H).map (·,H))
  (h:Ak call E k H s o=some (v,H1)) (hy:∀H',Bi (CY E s o) H H' -> y H' = y H):Eff call E k H s o v H1:=by
 rw [he] at h
 obtain⟨h1,h2⟩:=pJ h
 exact⟨[],none,by simp,by simp,h2,fun H' k' _ hs=>by rw [he,hy H' hs,h1];rfl⟩
theorem Rf {E:Env} {s:List V} {o:Oper} {H H' : Heap} (h:Bi (CY E s o) H H') {x:Operand} (hx:x∈o.op.operands):Bi (Ba (ev E s x)) H H' :=fun i hi=>
 h i (List.mem_flatMap.2 ⟨x,by simpa using hx,hi⟩)
theorem rU {call:CS} {E:Env} {k:Nat} {H H1:Heap} {s:List V} {o:Oper} {v:V} (hc:BF E o = .s) (h:Ak call E k H s o=some (v,H1)) :
  H1=H/\∀H' k',Ak call E k' H' s o=some (v,H'):=by
 have key:∀y:Option V,(∀H k,Ak call E k H s o=y.map (·,H))->H1=H/\∀H' k',Ak call E k' H' s o=some (v,H'):=by
  intro y he
  rw [he] at h
  obtain⟨h1,h2⟩:=pJ h
  exact⟨h2,fun H' k' =>by rw [he,h1];rfl⟩
 obtain⟨dst,op,type,pos,after,guard⟩:=o
 cases op<;>simp only [BF] at hc<;>try (cases hc;done)
 case convert=>grind
 case move x=>exact key (some (ev E s x)) (fun H k=>rfl)
 case pick c x y=>
  refine key (match ev E s c with | .lit (.bool t)=>some (if t then ev E s x else ev E s y)|_=>none) (fun H k=>?_)
  simp only [Ak]
  split<;>simp_all
 case build t ps=>exact key (Rh E t (ps.toList.map fun(i,x)=>(i,ev E s x))) (fun H k=>rfl)
 case binOp op t x y z=>exact key (Ju E op t (ev E s x) (ev E s y)) (fun H k=>rfl)
 case unOp op t x=>exact key (VZ op (ev E s x)) (fun H k=>rfl)
 case sliceToArrayPointer t x=>exact key (SS E t (ev E s x)) (fun H k=>rfl)
 case field t x f=>exact key (RN E t (ev E s x) f) (fun H k=>rfl)
 case fieldAddr t x f=>exact key (Qe E t (ev E s x) f) (fun H k=>rfl)
 case index t x i=>exact key (RH E t (ev E s x) (ev E s i)) (fun H k=>rfl)
 case nilCheck x=>
  refine key (match P9 (ev E s x) with|some false=>some (ev E s x)|_=>none) (fun H k=>?_)
  simp only [Ak]
  split<;>simp_all
 case lookup t m x ok=>exact key (Rl E t ok (ev E s m) (ev E s x)) (fun H k=>rfl)
 case extract x i=>
  refine key (match ev E s x with | .Aw vs=>vs[i]? | _=>none) (fun H k=>?_)
  simp only [Ak]
  split<;>simp_all
 case makeFunc fn first caps=>
  cases fn with
  | func f=>exact key (some (.fn f (evs E s first) (evs E s caps))) (fun H k=>rfl)
  | _=>simp [Ak] at h
 case assign x=>
  by_cases hx:x = .const (.slice none 0 0)
  ·subst hx;cases hc
  ·refine key (some (ev E s x)) (fun H k=>?_)
   unfold Ak
   split<;>simp_all
 case call c=>
  split at hc
  ·cases hc
  ·rename_i hcal
   exact key (NU false (evs E s c.args)) (fun H k=>by simp only [Ak,hcal];rfl)
  ·rename_i hcal
   exact key (NU true (evs E s c.args)) (fun H k=>by simp only [Ak,hcal];rfl)
  ·grind
  ·grind
  ·cases hc
theorem Zd7 {E:Env} {H H' : Heap} {src dst:TypeId} {x r:V} (h:Gf E H src dst x=some (r,H')):H' = H:=by
 unfold Gf at h
 grind
theorem Z0y {E:Env} {H H' : Heap} {t:TypeId} {x r:V} {lo hi:Option V} (h:IQ E H t x lo hi none=some (r,H')):H' = H:=by
 unfold IQ at h
 grind
theorem oW {E:Env} {s:List V} {o:Oper} {c:Call} (hop:o.op = .call c) {H H' : Heap} (h:Bi (CY E s o) H H'):Bi ((evs E s c.args).flatMap Ba) H H' :=by
 intro i hi
 simp only [evs,List.mem_flatMap,List.mem_map] at hi
 obtain⟨v,⟨x,hx,rfl⟩,hi⟩:=hi
 refine h i (List.mem_flatMap.2 ⟨x,?_,hi⟩)
 simp at hx
 simp [hop,Op.operands,Call.operands,hx]
theorem mO {E:Env} {s:List V} {o:Oper} {c:Call} (hop:o.op = .call c) {i:Nat} (hi:i∈(evs E s c.args).flatMap Ba):i∈CY E s o:=by
 simp only [evs,List.mem_flatMap,List.mem_map] at hi
 obtain⟨v,⟨x,hx,rfl⟩,hi⟩:=hi
 refine List.mem_flatMap.2 ⟨x,?_,hi⟩
 simp at hx
 simp [hop,Op.operands,Call.operands,hx]
theorem Zds {E:Env} {s:List V} {o:Oper} {t:TypeId} {n:Nat} {ps:Array (Nat×Operand)} (hop:o.op = .buildSlice t n ps) {i:Nat}
  (hi:i∈((ps.toList.map fun(i,x)=>(i,ev E s x)).map (·.2)).flatMap Ba):i∈CY E s o:=by
 simp only [List.map_map,List.mem_flatMap,List.mem_map] at hi
 obtain⟨v,⟨p,hp,rfl⟩,hi⟩:=hi
 refine List.mem_flatMap.2 ⟨p.2,?_,hi⟩
 simp only [hop,Op.operands]
 grind
theorem Zjw {H H' : Heap} {id:Nat} (h:(H[id]?).map Box.low=(H'[id]?).map Box.low):(H'.getD id default).AZ=(H.getD id default).AZ:=by
 simp only [List.getD]
 cases h1:H[id]? with
 | none=>grind
 | some b=>cases h2:H'[id]? with
  | none=>simp [h1,h2] at h
  | some b' =>
   simp only [h1,h2,Option.map_some,Option.some.injEq] at h
   show b'.AZ=b.AZ
   exact(congrArg Box.AZ h).symm
theorem bump_nil (H:Heap):bump H []=H:=rfl
theorem ZdB {E:Env} {H H1:Heap} {t:TypeId} {x v:V} {lo hi mx:Option V} (h:IQ E H t x lo hi mx=some (v,H1)) :
  ∃ids,(∀i∈ids,i∈Ba x)/\H1=bump H ids/\∀H',Bi (Ba x) H H' -> IQ E H' t x lo hi mx=some (v,bump H' ids):=by
 cases mx with
 | none=>
  have:=Z0y h
  subst this
  refine⟨[],by simp,(bump_nil _).symm,fun H' hs=>?_⟩
  rw [bump_nil]
  have e:(IQ E H' t x lo hi none).map (·.1)=(IQ E H1 t x lo hi none).map (·.1):=by
   simp only [IQ]
   rw [ZL hs,nH hs]
   split
   ·split
    ·rfl
    ·split
     ·rfl
     grind
   ·rfl
  cases hc:IQ E H' t x lo hi none with
  | none=>simp_all
  | some r=>
   obtain⟨r,H2⟩:=r
   have:=Z0y hc
   simp_all
 | some m=>
  simp only [IQ] at h ⊢
  split at h
  ·rename_i hf
   split at h
   ·cases h
   ·rename_i n hn
    split at h
    ·cases h
    ·rename_i hh hbh
     split at h
     ·cases h
     ·rename_i l hbl
      have key:∀H',Bi (Ba x) H H' -> NC E H' t x=true/\lenOf H' x=some n/\elemsOf H' x=elemsOf H x:=fun H' hs=>⟨by rw [ZL hs];exact hf,by rw [nH hs];exact hn,We hs⟩
      split at h
      ·rename_i k xs b e hk hxs
       split at h
       ·rename_i hkh
        simp only [Option.some.injEq,Prod.mk.injEq] at h
        obtain⟨rfl,rfl⟩:=h
        refine⟨[],by simp,(bump_nil _).symm,fun H' hs=>?_⟩
        obtain⟨q1,q2,q3⟩:=key H' hs
        rw [if_pos q1,q2,bump_nil]
        simp only [hbh,hbl,hk,q3,hxs,if_pos hkh]
       ·cases h
      ·rename_i k xs b e hk hxs
       split at h
       ·rename_i hkh
        simp only [Option.some.injEq,Prod.mk.injEq] at h
        obtain⟨rfl,rfl⟩:=h
        refine⟨[],by simp,(bump_nil _).symm,fun H' hs=>?_⟩
        obtain⟨q1,q2,q3⟩:=key H' hs
        rw [if_pos q1,q2,bump_nil]
        simp only [hbh,hbl,hk,q3,hxs,if_pos hkh]
       ·cases h
      ·rename_i k xs id off len tot hk hxs
       split at h
       ·rename_i hkh
        simp only [Option.some.injEq,Prod.mk.injEq] at h
        obtain⟨rfl,rfl⟩:=h
        refine⟨[id],by simp [Ba,Cj],rfl,fun H' hs=>?_⟩
        obtain⟨q1,q2,q3⟩:=key H' hs
        rw [if_pos q1,q2]
        simp only [hbh,hbl,hk,q3,hxs,if_pos hkh,Zjw (hs id (by simp [Ba,Cj]))]
       ·cases h
      ·cases h
  ·cases h
theorem ZdA {E:Env} {H H1:Heap} {n:Nat} {e:TypeId} {x v:V} {lo hi mx:Option V} (h:Ll E H n e x lo hi mx=some (v,H1)) :
  ∃ids,(∀i∈ids,i∈Ba x)/\H1=bump H ids/\∀H',Bi (Ba x) H H' -> Ll E H' n e x lo hi mx=some (v,bump H' ids):=by
 unfold Ll at h
 split at h
 ·rename_i id i off tot m' hm'
  cases hb:CB H id tot with
  | none=>simp [hb] at h
  | some b=>
   simp only [hb] at h
   split at h
   ·rename_i cs hrow hxs
    split at h
    ·rename_i hc
     simp only [Option.some.injEq,Prod.mk.injEq] at h
     obtain⟨rfl,rfl⟩:=h
     refine⟨[id],by simp [Ba,Cj],rfl,fun H' hs=>?_⟩
     obtain⟨b',h1,h2⟩:=ND (hs id (by simp [Ba,Cj])) hb
     obtain⟨e1,e2,e3,e4,e5⟩:=PO h2
     unfold Ll
     simp_all
    ·cases h
   ·cases h
 ·cases h
theorem Z3d {call:CS} {E:Env} (hpure:YK E call) {k:Nat} {H H1:Heap} {s:List V} {o:Oper} {v:V} (hc:BF E o≠.w) (hcc:BF E o≠.c) (hq:quietAt E s o=true) (h:Ak call E k H s o=some (v,H1)) :
  Eff call E k H s o v H1:=by
 by_cases hs:BF E o = .s
 ·obtain⟨h1,h2⟩:=rU hs h
  exact⟨[],none,by simp,by simp,h1,fun H' k' _ _=>h2 H' k'⟩
 have mk:∀(nb:Option Box),BF E o = .a->(nb.isSome=true)->(∀H k,Ak call E k H s o=nb.map fun b=>((if b.row then V.Az k 0 b.xs.length b.xs.length else V.ptr k 0 0 1),place H k b))->Eff call E k H s o v H1:=by
  intro nb hca hnb he
  cases nb with
  | none=>cases hnb
  | some b=>
   rw [he] at h
   simp only [Option.map_some,Option.some.injEq,Prod.mk.injEq] at h
   obtain⟨h1,h2⟩:=h
   refine⟨[],some b,by simp,fun _=>hca,h2.symm,fun H' k' hk _=>?_⟩
   rw [he,hk hca]
   simp only [Option.map_some,h1]
   rfl
 obtain⟨dst,op,type,pos,after,guard⟩:=o
 cases op<;>try (refine absurd ?_ hs;simp [BF];done)
 case assign x=>
  by_cases hx:x = .const (.slice none 0 0)
  ·subst hx
   cases hti:E.ti type with
   | none=>simp [Ak,hti] at h
   | some i=>
    obtain⟨ty,sz,by',z0⟩:=i
    cases ty with
    | slice e=>exact mk (some (BH true false e ((E.size e).getD 0) [])) rfl rfl (fun H k=>by simp only [Ak,hti,Option.map_some];rfl)
    | _=>simp [Ak,hti] at h
  ·refine absurd ?_ hs
   unfold BF
   split<;>simp_all
 case alloc t=>
  cases hti:E.ti t with
  | none=>simp [Ak,hti] at h
  | some i=>
   cases hz:i.zero with
   | none=>simp [Ak,hti,hz] at h
   | some z=>
    by_cases hcond:z.cells.length=i.size/\okV z=true
    ·exact mk (some (BH false false t i.size [z])) rfl rfl (fun H k=>by simp only [Ak,hti,hz,hcond,and_self,if_true,Option.map_some];rfl)
    ·simp [Ak,hti,hz,hcond] at h
 case box t x=>
  cases hti:E.ti t with
  | none=>simp [Ak,hti] at h
  | some i=>
   by_cases hcond:(ev E s x).cells.length=i.size/\okV (ev E s x)=true
   ·exact mk (some (BH false false t i.size [ev E s x])) rfl rfl (fun H k=>by simp only [Ak,hti,hcond,and_self,if_true,Option.map_some];rfl)
   ·simp [Ak,hti,hcond] at h
 case makeSlice t l c=>
  have hlen:∀(n:Int) (z:V),(List.replicate n.toNat z).length=n.toNat:=fun n z=>by simp
  cases hti:E.ti t with
  | none=>simp [Ak,hti] at h
  | some i=>
   obtain⟨ty,sz,by',z0⟩:=i
   cases ty with
   | slice e=>
    cases hl:ev E s l with
    | lit lv=>
     cases lv with
     | int k1 n=>
      cases hcv:ev E s c with
      | lit cv=>
       cases cv with
       | int k2 m=>
        cases hei:E.ti e with
        | none=>simp [Ak,hti,hl,hcv,hei] at h
        | some ei=>
         cases hz:ei.zero with
         | none=>simp [Ak,hti,hl,hcv,hei,hz] at h
         | some z=>
          by_cases hcond:0<=n/\n<=m/\m.toNat*ei.bytes<=lim/\m<=maxLen/\0<ei.size/\z.cells.length=ei.size/\okV z=true
          ·refine mk (some (BH true false e ei.size (List.replicate n.toNat (DJ (E.rows e) z)))) rfl rfl (fun H k=>?_)
           simp only [Ak,hti,hl,hcv,hei,hz,Option.map_some]
           rw [if_pos hcond]
           simp [BH]
          ·simp only [Ak,hti,hl,hcv,hei,hz] at h
           rw [if_neg hcond] at h
           cases h
       | _=>simp [Ak,hti,hl,hcv] at h
      | _=>simp [Ak,hti,hl,hcv] at h
     | _=>simp [Ak,hti,hl] at h
    | _=>simp [Ak,hti,hl] at h
   | _=>simp [Ak,hti] at h
 case buildSlice t n ps=>
  have he:∀H k,Ak call E k H s { dst:=dst,op:=.buildSlice t n ps,type:=type,pos:=pos,after:=after,guard:=guard }=MV E k H t n (ps.toList.map fun(i,x)=>(i,ev E s x)):=fun H k=>rfl
  have hrefs:=fun i=>Zds (E:=E) (s:=s) (o:={ dst:=dst,op:=.buildSlice t n ps,type:=type,pos:=pos,after:=after,guard:=guard }) rfl (i:=i)
  rw [he] at h
  generalize (ps.toList.map fun(i,x)=>(i,ev E s x))=parts at he h hrefs
  unfold MV at h
  split at h
  ·rename_i e sz by' z0 hti
   split at h
   ·rename_i ei hei
    split at h
    ·rename_i z vs hz hf
     split at h
     ·rename_i hcond
      split at h
      ·rename_i xs hfe
       simp only [Option.some.injEq,Prod.mk.injEq] at h
       obtain⟨h1,h2⟩:=h
       refine⟨(parts.map (fun p:Nat×V=>p.2)).flatMap CV,some (BH true false e ei.size xs),fun i hi=>hrefs i (kF hi),fun _=>by simp [BF],h2.symm,fun H' k' hk hs=>?_⟩
       have hfr:EE H' (parts.map (·.2))=some vs:=by rw [kH (fun i hi=>hs i (hrefs i hi))];exact hf
       have hkk:k' = k:=hk (by simp [BF])
       rw [he,hkk,<- h1]
       simp only [MV,hti,hei,hz,hfr,hfe]
       rw [if_pos hcond]
       rfl
      ·cases h
     ·cases h
    ·cases h
   ·cases h
  ·cases h
 case load t x=>exact Xd (y:=fun H=>Jf E H t (ev E s x)) (fun H k=>rfl) h (fun H' hs=>Z23 (Rf hs (by simp [Op.operands])))
 case indexAddr t x i=>exact Xd (y:=fun H=>MX E H t (ev E s x) (ev E s i)) (fun H k=>rfl) h (fun H' hs=>Z8P (Rf hs (by simp [Op.operands])))
 case convert src dst2 x=>
  have hx:x∈(Op.convert src dst2 x).operands:=by simp [Op.operands]
  by_cases hb:(E.isStr src&&E.isBytes dst2)=true
  ·have hca:BF E { dst:=dst,op:=.convert src dst2 x,type:=type,pos:=pos,after:=after,guard:=guard } = .a:=by simp only [BF];rw [if_pos hb]
   have he:∀H k,Ak call E k H s { dst:=dst,op:=.convert src dst2 x,type:=type,pos:=pos,after:=after,guard:=guard }=Jn E k H dst2 (ev E s x):=fun H k=>by simp only [Ak];rw [if_pos hb]
   cases hev:ev E s x with
   | lit v=>
    cases v with
    | string st=>
     cases hti:E.ti dst2 with
     | none=>rw [he,hev] at h;simp [Jn,hti] at h
     | some i=>
      obtain⟨ty,sz,by',z0⟩:=i
      cases ty with
      | slice e=>
       by_cases h1:E.size e=some 1
       ·exact mk (some (BH true false e 1 (bytesV st))) hca rfl (fun H k=>by rw [he,hev];simp only [Jn,hti,h1,if_true,Option.map_some];rw [show (BH true false e 1 (bytesV st)).xs.length=st.size from by simp only [BH,bytesV,List.length_map];exact Array.length_toList];rfl)
       ·rw [he,hev] at h;simp [Jn,hti,h1] at h
      | _=>rw [he,hev] at h;simp [Jn,hti] at h
    | _=>rw [he,hev] at h;simp [Jn] at h
   | _=>rw [he,hev] at h;simp [Jn] at h
  have hcv0:∀H k,Ak call E k H s { dst:=dst,op:=.convert src dst2 x,type:=type,pos:=pos,after:=after,guard:=guard }=Gf E H src dst2 (ev E s x):=fun H k=>by simp only [Ak];rw [if_neg hb]
  refine Xd (y:=fun H=>(Gf E H src dst2 (ev E s x)).map (·.1)) (fun H k=>?_) h (fun H' hs=>?_)
  ·rw [hcv0]
   cases hcv:Gf E H src dst2 (ev E s x) with
   | none=>rfl
   | some r=>
    obtain⟨r,H2⟩:=r
    have:=Zd7 hcv
    subst this
    rfl
  ·have h1:=Rf hs hx
   simp only [Gf]
   generalize ev E s x=ex at h1 ⊢
   split
   ·grind
   ·split<;>rfl
   ·rw [XU h1,We h1]
    grind
 case slice t x lo hi mx=>
  have hx:x∈(Op.slice t x lo hi mx).operands:=by simp [Op.operands]
  by_cases harr:∃n e sz by' z0,E.ti t=some ⟨.array n e,sz,by',z0⟩
  ·obtain⟨n,e,sz,by',z0,hti⟩:=harr
   have he:∀H k,Ak call E k H s { dst:=dst,op:=.slice t x lo hi mx,type:=type,pos:=pos,after:=after,guard:=guard }=Ll E H n e (ev E s x) (lo.map (ev E s)) (hi.map (ev E s)) (mx.map (ev E s)):=fun H k=>by simp only [Ak,hti]
   rw [he] at h
   obtain⟨ids,g1,g2,g3⟩:=ZdA h
   exact⟨ids,none,fun i hi=>List.mem_flatMap.2 ⟨x,by simpa using hx,g1 i hi⟩,by simp,g2,fun H' k' _ hs=>by rw [he];exact g3 H' (Rf hs hx)⟩
  ·have he:∀H k,Ak call E k H s { dst:=dst,op:=.slice t x lo hi mx,type:=type,pos:=pos,after:=after,guard:=guard }=IQ E H t (ev E s x) (lo.map (ev E s)) (hi.map (ev E s)) (mx.map (ev E s)):=fun H k=>by
    simp only [Ak]
    simp_all
   rw [he] at h
   obtain⟨ids,g1,g2,g3⟩:=ZdB h
   exact⟨ids,none,fun i hi=>List.mem_flatMap.2 ⟨x,by simpa using hx,g1 i hi⟩,by simp,g2,fun H' k' _ hs=>by rw [he];exact g3 H' (Rf hs hx)⟩
 case call c=>
  cases hcal:c.callee with
  | invoke r n=>exact absurd (by simp [BF,hcal]) hc
  | builtin b=>
   by_cases hb:b = .len
   ·subst hb
    have he:∀H k,Ak call E k H s { dst:=dst,op:=.call c,type:=type,pos:=pos,after:=after,guard:=guard }=LZ E k H s .len (evs E s c.args) c.argTypes.toList:=fun H k=>by simp only [Ak,hcal]
    refine Xd (y:=fun H=>(LZ E 0 H s .len (evs E s c.args) c.argTypes.toList).map (·.1)) (fun H k=>?_) h (fun H' hs=>?_)
    ·rw [he]
     unfold LZ
     split<;>try rfl
     ·split
      ·cases lenOf H _<;>rfl
      ·rfl
     all_goals simp_all
    ·have h1:=oW rfl hs
     generalize evs E s c.args=xs at h1 ⊢
     simp only [LZ]
     split<;>try rfl
     ·split
      ·rw [nH (fun i hi=>h1 i (by simpa using hi))]
       rename_i x t _ _ _
       cases lenOf H x<;>rfl
      ·rfl
     all_goals simp_all
   ·exfalso
    revert hc hs
    unfold BF
    cases b<;>simp_all
  | value f=>
   cases f with
   | func f=>
    by_cases hp:Ob E f=true
    ·have he:∀H k,Ak call E k H s { dst:=dst,op:=.call c,type:=type,pos:=pos,after:=after,guard:=guard }=call f (evs E s c.args) H:=fun H k=>by simp [Ak,hcal,ev]
     rw [he] at h
     obtain⟨h1,h2⟩:=hpure f hp _ _ _ _ h
     refine⟨(evs E s c.args).flatMap CV,none,fun i hi=>mO rfl (kF hi),by simp,h1,fun H' k' _ hs=>?_⟩
     rw [he]
     exact h2 H' (oW rfl hs)
    ·by_cases hfr:O1 E f=true
     ·exact absurd (by unfold BF;simp only [hcal];rw [if_neg hp,if_pos hfr]) hcc
     ·exact absurd (by unfold BF;simp only [hcal];rw [if_neg hp,if_neg hfr]) hc
   | tmp t=>
    have hqt:(E.quiet&&type != 0)=true:=by
     cases hh:(E.quiet&&type != 0) with
     | true=>rfl
     | false=>exact absurd (by simp only [BF,hcal,hh];rfl) hc
    simp only [quietAt,hcal,hqt,Bool.not_true,Bool.false_or] at hq
    cases hv:s.getD t .und with
    | fn g a b=>
     rw [hv] at hq
     simp only [YH,Bool.and_eq_true] at hq
     have he:∀H k,Ak call E k H s { dst:=dst,op:=.call c,type:=type,pos:=pos,after:=after,guard:=guard }=call g (a++evs E s c.args++b) H:=fun H k=>by
      simp only [Ak,hcal,ev,hv]
     rw [he] at h
     obtain⟨h1,h2⟩:=hpure g hq.1 _ _ _ _ h
     have hin:∀i∈(a++evs E s c.args++b).flatMap Ba,i∈CY E s { dst:=dst,op:=.call c,type:=type,pos:=pos,after:=after,guard:=guard }:=by
      intro i hi
      obtain⟨x,hx,hix⟩:=List.mem_flatMap.1 hi
      have hab:x∈a++b->i∈CY E s { dst:=dst,op:=.call c,type:=type,pos:=pos,after:=after,guard:=guard }:=fun hm=>by
       have hnf:=List.all_eq_true.1 hq.2 x hm
       have hix' : i∈Us x:=by cases x<;>first|exact hix|(simp [YW] at hnf)
       refine List.mem_flatMap.2 ⟨.tmp t,by simp [Op.operands,Call.operands,hcal],?_⟩
       show i∈Ba (s.getD t .und)
       rw [hv]
       exact List.mem_flatMap.2 ⟨x,hm,hix'⟩
      rcases List.mem_append.1 hx with hx|hx
      ·rcases List.mem_append.1 hx with hx|hx
       ·simp_all
       ·exact mO rfl (List.mem_flatMap.2 ⟨x,hx,hix⟩)
      ·simp_all
     refine⟨(a++evs E s c.args++b).flatMap CV,none,fun i hi=>hin i (kF hi),by simp,h1,fun H' k' _ hs=>?_⟩
     rw [he]
     exact h2 H' fun i hi=>hs i (hin i hi)
    | _=>rw [hv] at hq;simp [YH] at hq
   | _=>exact absurd (by simp [BF,hcal]) hc
 all_goals (refine absurd ?_ hc;simp [BF];done)
theorem Z2W {call:CS} {E:Env} (hfree:YG E call) {k:Nat} {H H1:Heap} {s:List V} {o:Oper} {v:V} (hc:BF E o = .c) (h:Ak call E k H s o=some (v,H1)) :
  ∃ids nbs,(∀i∈ids,i∈CY E s o)/\H1=bump H ids++nbs/\∀H' k',H'.length=H.length->Bi (CY E s o) H H' -> Ak call E k' H' s o=some (v,bump H' ids++nbs):=by
 obtain⟨dst,op,type,pos,after,guard⟩:=o
 cases op<;>simp only [BF] at hc<;>first|(cases hc;done)|skip
 case convert=>split at hc<;>cases hc
 case assign x=>exfalso;revert hc;split<;>simp_all
 case call c=>
  cases hcal:c.callee with
  | builtin b=>exfalso;revert hc;simp only [hcal];cases b<;>simp
  | invoke r n=>exfalso;revert hc;simp [hcal]
  | value f=>
  cases f with
  | tmp _=>exfalso;revert hc;simp only [hcal];split<;>simp
  | const _=>exfalso;revert hc;simp [hcal]
  | global _=>exfalso;revert hc;simp [hcal]
  | func f=>
  simp only [hcal] at hc
  split at hc
  ·cases hc
  ·split at hc
   ·rename_i hfr
    have he:∀H k,Ak call E k H s { dst:=dst,op:=.call c,type:=type,pos:=pos,after:=after,guard:=guard }=call f (evs E s c.args) H:=fun H k=>by simp [Ak,hcal,ev]
    rw [he] at h
    obtain⟨ids,nbs,h1,h2,h3⟩:=hfree f hfr _ _ _ _ h
    exact⟨ids,nbs,fun i hi=>mO rfl (h1 i hi),h2,fun H' k' hl hs=>by rw [he];exact h3 H' hl (oW rfl hs)⟩
   ·cases hc
theorem Uj {E:Env} {o:Oper} (h:Fj E o=true):BF E o = .w/\I9 o=none:=by
 unfold Fj at h
 unfold BF I9
 split at h
 ·rename_i c hop
  split at h
  ·rename_i f hc
   simp only [Bool.and_eq_true,Bool.not_eq_true'] at h
   simp only [hop,hc]
   simp [h.1,h.2.1]
  ·cases h
 ·cases h
theorem Z3t {call:CS} {E:Env} (hrow:Y2 E call) {k:Nat} {H H1:Heap} {s:List V} {o:Oper} {v:V} (hc:Fj E o=true) (h:Ak call E k H s o=some (v,H1)) {n:Nat} {b0:Box} (h0:H[n]? = some b0) (hr0:b0.row=false) :
  H1[n]? = some b0/\∀b k',b.row=false->Ak call E k' (H.set n b) s o=some (v,H1.set n b):=by
 obtain⟨dst,op,type,pos,after,guard⟩:=o
 unfold Fj at hc
 split at hc
 ·rename_i c hop
  simp only at hop
  subst hop
  split at hc
  ·rename_i f hcal
   simp only [Bool.and_eq_true,Bool.not_eq_true'] at hc
   have he:∀H k,Ak call E k H s { dst:=dst,op:=.call c,type:=type,pos:=pos,after:=after,guard:=guard }=call f (evs E s c.args) H:=fun H k=>by simp [Ak,hcal,ev]
   rw [he] at h
   exact⟨(hrow f hc.1 hc.2.1 hc.2.2 _ _ _ _ _ _ b0 h h0 hr0 hr0).1,fun b k' hb=>by rw [he];exact(hrow f hc.1 hc.2.1 hc.2.2 _ _ _ _ _ _ b h h0 hr0 hb).2⟩
  ·cases hc
 ·cases hc
theorem Z3I {call:CS} {E:Env} {k:Nat} {H H1:Heap} {s:List V} {o:Oper} {v:V} (hc:MI o=true) (h:Ak call E k H s o=some (v,H1)) :
  ∃b,b.row=false/\H1=place H k b/\∀H',Ak call E k H' s o=some (v,place H' k b):=by
 obtain⟨dst,op,type,pos,after,guard⟩:=o
 unfold MI at hc
 split at hc
 ·rename_i t hop
  simp only at hop
  subst hop
  simp only [Ak] at h ⊢
  cases ht:E.ti t with
  | none=>simp [ht] at h
  | some i=>
   simp only [ht] at h ⊢
   cases hz:i.zero with
   | none=>simp [hz] at h
   | some z=>
    simp only [hz] at h ⊢
    split at h
    ·rename_i hok
     simp only [Option.some.injEq,Prod.mk.injEq] at h
     obtain⟨rfl,rfl⟩:=h
     exact⟨_,rfl,rfl,fun H' =>by rw [if_pos hok]⟩
    ·cases h
 ·cases hc
theorem Z41 {E:Env} {o:Oper} (h:MI o=true):BF E o = .a:=by
 unfold MI at h
 split at h
 ·rename_i t hop
  unfold BF
  rw [hop]
 ·cases h
end Go.Proofs.YtlabamnhpgoekaaGreatDoor.Le
namespace Go.Proofs.YtlabamnhpgoekaaGreatDoor.Le
def GI (ids:List Nat) (i:Nat) (b:Box):Box:=if i∈ids then { b with floor:=b.xs.length } else b
theorem NT {ids:List Nat} {nb:Option Box} {k:Nat} {H:Heap} (hk:nb.isSome=true->k<H.length) (i:Nat) :
  (eff ids nb k H)[i]? = match nb with|some b=>if i=k then some b else (H[i]?).map (GI ids i)|none=>(H[i]?).map (GI ids i):=by
 cases nb with
 | none=>simp only [eff];rw [Hl];rfl
 | some b=>
  have hk' : k<(bump H ids).length:=by rw [bump_length];exact hk rfl
  simp only [eff,place]
  rw [if_pos hk',List.getElem?_set]
  by_cases hi:i=k
  ·subst hi;simp [hk']
  ·rw [if_neg (fun e=>hi e.symm),if_neg hi,Hl];rfl
theorem Qg {ids:List Nat} {nb:Option Box} {k:Nat} {H:Heap} (hk:nb.isSome=true->k<H.length):(eff ids nb k H).length=H.length:=by
 cases nb with
 | none=>exact bump_length H ids
 | some b=>
  have hk' : k<(bump H ids).length:=by rw [bump_length];exact hk rfl
  simp only [eff,place]
  rw [if_pos hk',List.length_set,bump_length]
theorem XA (Dn ids2:List Nat) (i:Nat) (b:Box):GI Dn i (GI ids2 i b)=GI ids2 i (GI Dn i b):=by
 unfold GI
 grind
theorem oM {Dn ids2:List Nat} {nb1 nb2:Option Box} {k1 k2:Nat} {H:Heap} (h1:nb1.isSome=true->k1<H.length/\k1∉ids2) (h2:nb2.isSome=true->k2<H.length/\k2∉Dn)
  (hne:nb1.isSome=true->nb2.isSome=true->k1≠k2):eff Dn nb1 k1 (eff ids2 nb2 k2 H)=eff ids2 nb2 k2 (eff Dn nb1 k1 H):=by
 have l1:=Qg (ids:=Dn) (fun h=>(h1 h).1)
 have l2:=Qg (ids:=ids2) (fun h=>(h2 h).1)
 apply List.ext_getElem?
 intro i
 rw [NT (ids:=Dn) (H:=eff ids2 nb2 k2 H) (fun h=>by rw [l2];exact(h1 h).1),NT (ids:=ids2) (H:=eff Dn nb1 k1 H) (fun h=>by rw [l1];exact(h2 h).1),NT (ids:=Dn) (H:=H) (fun h=>(h1 h).1),NT (ids:=ids2) (H:=H) (fun h=>(h2 h).1)]
 cases nb1 with
 | none=>
  cases nb2 with
  | none=>
   simp only
   cases H[i]? with
   | none=>rfl
   | some b=>simp only [Option.map_some,XA]
  | some b2=>
   simp only
   by_cases hi:i=k2
   ·subst hi
    simp only [if_true,Option.map_some]
    simp [GI,(h2 rfl).2]
   ·simp only [hi,if_false]
    cases H[i]? with
    | none=>rfl
    | some b=>simp only [Option.map_some,XA]
 | some b1=>
  cases nb2 with
  | none=>
   simp only
   by_cases hi:i=k1
   ·subst hi
    simp only [if_true,Option.map_some]
    simp [GI,(h1 rfl).2]
   ·simp only [hi,if_false]
    cases H[i]? with
    | none=>rfl
    | some b=>simp only [Option.map_some,XA]
  | some b2=>
   have hkk:=hne rfl rfl
   simp only
   by_cases hi:i=k1
   ·subst hi
    rw [if_pos rfl,if_neg hkk,if_pos rfl]
    simp [GI,(h1 rfl).2]
   ·by_cases hj:i=k2
    ·subst hj
     rw [if_neg hi,if_pos rfl,if_pos rfl]
     simp [GI,(h2 rfl).2]
    ·rw [if_neg hi,if_neg hj,if_neg hj,if_neg hi]
     cases H[i]? with
     | none=>rfl
     | some b=>simp only [Option.map_some,XA]
theorem Z26 (ids:List Nat) (i:Nat) (b:Box):(GI ids i b).low=b.low:=by
 unfold GI
 split<;>rfl
theorem PH {R ids:List Nat} {nb:Option Box} {k:Nat} {H:Heap} (hk:nb.isSome=true->k<H.length/\k∉R):Bi R H (eff ids nb k H):=by
 intro i hi
 rw [NT (fun h=>(hk h).1)]
 cases nb with
 | none=>
  simp only
  cases H[i]? with
  | none=>rfl
  | some b=>simp only [Option.map_some,Z26]
 | some b=>
  have:i≠k:=fun e=>(hk rfl).2 (e▸hi)
  simp only [this,if_false]
  cases H[i]? with
  | none=>rfl
  | some b=>simp only [Option.map_some,Z26]
theorem Bi.symm {R:List Nat} {H H' : Heap} (h:Bi R H H'):Bi R H' H:=fun i hi=>(h i hi).symm
theorem Z34 {ids:List Nat} {nb:Option Box} {k j:Nat} {H:Heap} (hk:nb.isSome=true->k<H.length/\k≠j):(∃b,(eff ids nb k H)[j]? = some b/\(b.live=false/\b.row=false))↔∃b,H[j]? = some b/\(b.live=false/\b.row=false):=by
 rw [NT (fun h=>(hk h).1)]
 have hm:(∃b,(H[j]?).map (GI ids j)=some b/\(b.live=false/\b.row=false))↔∃b,H[j]? = some b/\(b.live=false/\b.row=false):=by
  cases H[j]? with
  | none=>simp
  | some b=>
   simp only [Option.map_some,Option.some.injEq,exists_eq_left']
   unfold GI
   split<;>rfl
 grind
section
variable {call:CS} {E:Env} {ops:Array Oper} {ms:List Nat} {lt:List (Nat×(Nat⊕Nat))} {s0:List V} {base m:Nat}
def Bc (E:Env) (o:Oper) (base i:Nat) (H:Heap):Nat:=if BF E o = .a then base+i else H.length
def NY (E:Env) (ops:Array Oper) (ms:List Nat) (lt:List (Nat×(Nat⊕Nat))) (s0:List V) (base m i:Nat) (s:List V) (o:Oper):Prop:=(∀id∈CY E s o,id<base\/(base+m<=id/\RZ E ops ms i=true)\/(id<base+m/\(ms.getD i 0).testBit (id - base)=true))/\quietAt E s o=true/\JK E ops ms lt s0 base i s o=true
def OZ (E:Env) (ops:Array Oper) (base m:Nat) (o:Oper) (H:Heap):Prop:=GM E o=true->base+m<=H.length/\(Fj E o=true->Jy ops base H=true)
theorem XO {i:Nat} {o:Oper} (ho:ops[i]? = some o) {st st' : St}:GL call E ops ms lt s0 base m i st=some st' ↔
  NY E ops ms lt s0 base m i st.s o/\(Eu E ms lt s0 base i st.s st.H o=true/\OZ E ops base m o st.H)/\(BF E o = .a->∃b,st.H[base+i]? = some b/\(b.live=false/\b.row=false))/\∃v H',DW call E ops (Bc E o base i st.H) o st=some (v,H')/\st' = ⟨setSlot st.s o.dst v,H'⟩:=by
 have hst:∀k,Ic call E ops k i st=some st' ↔∃v H',DW call E ops k o st=some (v,H')/\st' = ⟨setSlot st.s o.dst v,H'⟩:=by
  intro k
  unfold Ic
  simp only [ho]
  cases hact:DW call E ops k o st with
  | none=>simp
  | some r=>
   grind
 unfold GL
 simp only [ho]
 have hsee:(((CY E st.s o).all fun id=>decide (id<base)||(decide (base+m<=id)&&RZ E ops ms i)||(decide (id<base+m)&&(ms.getD i 0).testBit (id - base)))&&(quietAt E st.s o&&JK E ops ms lt s0 base i st.s o)&&(Eu E ms lt s0 base i st.s st.H o&&(!GM E o||(decide (base+m<=st.H.length)&&(!Fj E o||Jy ops base st.H)))))=true↔
   NY E ops ms lt s0 base m i st.s o/\Eu E ms lt s0 base i st.s st.H o=true/\OZ E ops base m o st.H:=by
  unfold NY
  rw [Bool.and_eq_true,Bool.and_eq_true,Bool.and_eq_true,Bool.and_eq_true,List.all_eq_true]
  have hc:(!GM E o||(decide (base+m<=st.H.length)&&(!Fj E o||Jy ops base st.H)))=true↔OZ E ops base m o st.H:=by
   unfold OZ;cases h:GM E o<;>cases h2:Fj E o<;>simp
  rw [hc]
  simp only [Bool.or_eq_true,Bool.and_eq_true,decide_eq_true_eq,or_assoc]
 by_cases hs:NY E ops ms lt s0 base m i st.s o/\Eu E ms lt s0 base i st.s st.H o=true/\OZ E ops base m o st.H
 ·rw [if_pos (hsee.2 hs)]
  unfold Bc
  grind
 grind
theorem Wh {o:Oper} {a:Operand} (h:I9 o=some a):(∃t v,o.op = .store t a v)\/∃c x,o.op = .call c/\c.callee = .builtin .append/\c.args.toList=[a,x]:=by
 unfold I9 at h
 grind
theorem Z08 {o:Oper} {a:Operand} (h:I9 o=some a):a∈o.op.operands:=by
 rcases Wh h with ⟨t,v,hop⟩|⟨c,x,hop,h1,h2⟩
 ·simp [hop,Op.operands]
 ·have:a∈c.args:=by
   have:a∈c.args.toList:=by rw [h2];simp
   simpa using this
  simp [hop,Op.operands,Call.operands,this]
theorem Xt {o:Oper} {t:Nat⊕Nat} (h:Pe E ops o=some t):BF E o = .w/\o.guard=none/\∃d,I9 o=some (.tmp d):=by
 unfold Pe at h
 split at h
 ·rename_i d hg hw
  refine⟨?_,hg,⟨d,hw⟩⟩
  rcases Wh hw with ⟨t,v,hop⟩|⟨c,x,hop,h1,h2⟩
  ·unfold BF;rw [hop]
  ·unfold BF;rw [hop];simp only [h1]
 ·cases h
theorem Ze6 {x:Nat} {t:Nat⊕Nat} (h:(x,t)∈Nc E ops):∃ox,ops[x]? = some ox/\Pe E ops ox=some t:=by
 unfold Nc at h
 grind
theorem Z3c {o:Oper} (h:needs E o=true):BF E o≠.w:=by
 unfold needs at h
 grind
theorem Z1d {s:List V} {o:Oper} {d:Option Tmp} {v:V} (h:∀d',d=some d' -> d' ∉o.looksAt ops):addrOf E (setSlot s d v) o=addrOf E s o:=by
 unfold addrOf
 split
 ·rename_i a hw
  exact YJ _ fun d' hd=>X3 (h d' hd) a (Z08 hw)
 ·rfl
theorem Z27 {s:List V} {H:Heap} {i:Nat} {o:Oper} {d:Option Tmp} {v:V} (h:∀d',d=some d' -> d' ∉o.looksAt ops):Eu E ms lt s0 base i (setSlot s d v) H o=Eu E ms lt s0 base i s H o:=by
 unfold Eu
 rw [Z1d h,XQ h]
theorem F9 {s:List V} {H H' : Heap} {i:Nat} {o:Oper} (h:∀t,(i,t)∉lt) (hl:Eu E ms lt s0 base i s H o=true):Eu E ms lt s0 base i s H' o=true:=by
 unfold Eu at *
 rw [List.all_eq_true] at *
 grind
theorem Z1g {s:List V} {H H' : Heap} {i:Nat} {o:Oper} (h:∀p∈lt,∀k,p.1=i->Na base s0 p.2=some k->H'[k]? = H[k]?) (hl:Eu E ms lt s0 base i s H o=true):Eu E ms lt s0 base i s H' o=true:=by
 unfold Eu at *
 rw [List.all_eq_true] at *
 intro p hp
 have hh:=hl p hp
 cases ht:Na base s0 p.2 with
 | none=>rw [ht] at hh;cases hh
 | some k=>
  rw [ht] at hh
  simp only at hh ⊢
  split
  ·rename_i he
   rw [if_pos he] at hh
   have hk:=h p hp k he ht
   unfold Ld at *
   split at hh
   ·rename_i id a b tot haddr
    simp only [Bool.and_eq_true,beq_iff_eq] at hh ⊢
    obtain⟨rfl,hh⟩:=hh
    refine⟨rfl,?_⟩
    unfold CB at *
    simp_all
   ·grind
   ·cases hh
  simp_all
theorem ZcT {H H1:Heap} {t:TypeId} {a v:V} {k:Nat} (hl:Ld H a k=true) (h:JZ E H t a v=some H1) :
  ∃b,k<H.length/\H1=H.set k b/\∀H',H'[k]? = H[k]? -> JZ E H' t a v=some (H'.set k b):=by
 unfold Ld at hl
 split at hl
 ·rename_i id i off tot
  simp only [Bool.and_eq_true,beq_iff_eq] at hl
  obtain⟨rfl,hl⟩:=hl
  cases hb:CB H id tot with
  | none=>rw [hb] at hl;cases hl
  | some b=>
   rw [hb] at hl
   simp only [Bool.not_eq_true'] at hl
   have hlt:id<H.length:=by
    unfold CB at hb
    cases hh:H[id]? with
    | none=>rw [hh] at hb;cases hb
    | some b0=>grind
   have hb' : ∀H' : Heap,H'[id]? = H[id]? -> CB H' id tot=some b:=fun H' he=>by
    unfold CB at *
    grind
   unfold JZ at h
   cases hti:E.ti t with
   | none=>simp_all
   | some ii=>
    simp only [hti,hb] at h
    cases hx:b.xs[i]? with
    | none=>simp_all
    | some x=>
     simp only [hx,hl,Bool.false_eq_true,if_false] at h
     split at h
     ·rename_i hc
      cases hs:JY x off v.cells with
      | none=>simp_all
      | some x' =>
       simp only [hs] at h
       split at h
       ·rename_i ho
        simp only [Option.some.injEq] at h
        refine⟨_,hlt,h.symm,fun H' he=>?_⟩
        unfold JZ
        simp_all
       ·cases h
     ·cases h
 ·unfold JZ at h
  split at h<;>cases h
 ·cases hl
theorem Zbo {H H1:Heap} {k0:Nat} {t u:TypeId} {a x r:V} {k:Nat} (hl:Ld H a k=true) (h:Ib E k0 H t u a x=some (r,H1)) :
  ∃b,k<H.length/\H1=H.set k b/\∀k' H',H'[k]? = H[k]? -> Bi (Ba x) H H' -> Ib E k' H' t u a x=some (r,H'.set k b):=by
 unfold Ld at hl
 split at hl
 ·unfold Ib at h
  grind
 ·rename_i id off len tot
  simp only [Bool.and_eq_true,beq_iff_eq] at hl
  obtain⟨rfl,hl⟩:=hl
  have hlt:id<H.length:=by
   cases hh:H[id]? with
   | none=>rw [hh] at hl;cases hl
   | some b0=>exact(List.getElem?_eq_some_iff.1 hh).1
  unfold Ib at h
  split at h
  ·rename_i e sz by' z0 hti
   split at h
   ·rename_i ei ys hei hut hys
    split at h
    ·rename_i hcond
     simp only at h
     cases hb:CB H id tot with
     | none=>rw [hb] at h;cases h
     | some b=>
      simp only [hb] at h
      split at h
      ·rename_i hc
       split at h
       ·rename_i hlim
        simp only [Option.some.injEq,Prod.mk.injEq] at h
        obtain⟨rfl,rfl⟩:=h
        refine⟨_,hlt,rfl,fun k' H' he hs=>?_⟩
        have hb' : CB H' id tot=some b:=by
         unfold CB at *
         rw [he]
         exact hb
        unfold Ib
        simp only [hti,hei,hut,We hs,hys,XU hs]
        simp_all
       ·cases h
      ·rename_i hc0
       split at h
       ·rename_i hc
        simp only [Option.some.injEq,Prod.mk.injEq] at h
        obtain⟨rfl,rfl⟩:=h
        refine⟨_,hlt,rfl,fun k' H' he hs=>?_⟩
        have hb' : CB H' id tot=some b:=by
         unfold CB at *
         rw [he]
         exact hb
        unfold Ib
        simp only [hti,hei,hut,We hs,hys,XU hs]
        simp_all
       ·cases h
    ·cases h
   ·cases h
  ·cases h
 ·cases hl
theorem Xi {ids:List Nat} {nb:Option Box} {k k' : Nat} {H:Heap} {b:Box} (hk:nb.isSome=true->k' < H.length/\k' ≠k) (hid:k∉ids):eff ids nb k' (H.set k b)=(eff ids nb k' H).set k b:=by
 apply List.ext_getElem?
 intro i
 rw [NT (H:=H.set k b) (fun h=>by simp_all),List.getElem?_set,List.getElem?_set,Qg (fun h=>(hk h).1),NT (fun h=>(hk h).1)]
 by_cases hki:k=i
 ·subst hki
  simp only [if_true]
  cases nb with
  | none=>
   simp only
   split
   ·simp [GI,hid]
   ·rfl
  | some b2=>
   have:¬k=k' :=fun e=>(hk rfl).2 e.symm
   simp only [this,if_false]
   split
   ·simp [GI,hid]
   ·rfl
 grind
theorem Z3V {ids:List Nat} {nb:Option Box} {k k' : Nat} {H:Heap} (hk:nb.isSome=true->k' < H.length/\k' ≠k) (hid:k∉ids):(eff ids nb k' H)[k]? = H[k]?:=by
 rw [NT (fun h=>(hk h).1)]
 cases nb with
 | none=>
  simp only
  cases H[k]? with
  | none=>rfl
  | some b=>simp [GI,hid]
 | some b2=>
  have:¬k=k' :=fun e=>(hk rfl).2 e.symm
  simp only [this,if_false]
  cases H[k]? with
  | none=>rfl
  | some b=>simp [GI,hid]
theorem Z1C {k i:Nat} {t:Nat⊕Nat} {o:Oper} {s:List V} {H H1:Heap} {v:V} (ht:Pe E ops o=some t) (hin:(i,t)∈lt) (hl:Eu E ms lt s0 base i s H o=true) (h:DW call E ops k o ⟨s,H⟩=some (v,H1)) :
  ∃b n,Na base s0 t=some n/\n∈CY E s o/\n<H.length/\H1=H.set n b/\∀k' H',H'[n]? = H[n]? -> Bi (CY E s o) H H' -> DW call E ops k' o ⟨s,H'⟩=some (v,H'.set n b):=by
 obtain⟨_,hg,⟨d,hw⟩⟩:=Xt ht
 unfold Eu at hl
 rw [List.all_eq_true] at hl
 have hl:=hl _ hin
 cases hn:Na base s0 t with
 | none=>simp_all
 | some n=>
  simp only [hn,if_true] at hl
  unfold addrOf at hl
  simp only [hw] at hl
  have haddr:n∈CY E s o:=by
   unfold CY
   rw [List.mem_flatMap]
   refine⟨.tmp d,by simpa using Z08 hw,?_⟩
   unfold Ld at hl
   split at hl
   ·rename_i he
    simp only [Bool.and_eq_true,beq_iff_eq] at hl
    rw [he,<- hl.1]
    simp [Ba,Cj]
   ·rename_i he
    simp only [Bool.and_eq_true,beq_iff_eq] at hl
    rw [he,<- hl.1]
    simp [Ba,Cj]
   ·cases hl
  unfold DW at h ⊢
  simp only [hg] at h ⊢
  rcases Wh hw with ⟨t',x,hop⟩|⟨c,x,hop,hc1,hc2⟩
  ·unfold Ak at h ⊢
   simp only [hop] at h ⊢
   cases hst:JZ E H t' (ev E s (.tmp d)) (ev E s x) with
   | none=>rw [hst] at h;cases h
   | some H2=>
    rw [hst] at h
    simp only [Option.map_some,Option.some.injEq,Prod.mk.injEq] at h
    obtain⟨rfl,rfl⟩:=h
    obtain⟨b,h1,h2,h3⟩:=ZcT hl hst
    grind
  ·have hargs:evs E s c.args=[ev E s (.tmp d),ev E s x]:=by unfold evs;rw [hc2];rfl
   unfold Ak at h ⊢
   simp only [hop,hc1,hargs] at h ⊢
   unfold LZ at h ⊢
   split at h
   ·rename_i h1 _;cases h1
   ·rename_i a y t' u' hb he1 he2
    simp only [List.cons.injEq,and_true] at he1
    obtain⟨rfl,rfl⟩:=he1
    obtain⟨b,h1,h2,h3⟩:=Zbo hl h
    refine⟨b,n,rfl,haddr,h1,h2,fun k' H' he hs=>h3 k' H' he (fun id hid=>hs id ?_)⟩
    unfold CY
    rw [List.mem_flatMap]
    have:x∈c.args:=by
     have:x∈c.args.toList:=by rw [hc2];simp
     simpa using this
    exact⟨x,by simp [hop,Op.operands,Call.operands,this],hid⟩
   ·simp_all
   ·rename_i h1;cases h1
   ·rename_i h1;cases h1
   ·cases h
theorem Z1P {i x n:Nat} {t:Nat⊕Nat} {o:Oper} {s:List V} {H:Heap} (hin:(x,t)∈lt) (hne:x≠i) (hn:needs E o=true) (hbit:(ms.getD i 0).testBit x=false) (hbit' : (ms.getD x 0).testBit i=false) (ht:Na base s0 t=some n)
  (hl:Eu E ms lt s0 base i s H o=true):n∉CY E s o:=by
 unfold Eu at hl
 rw [List.all_eq_true] at hl
 have hl:=hl _ hin
 simp only [ht,if_neg hne,hn,linked,hbit,hbit',Bool.or_self,Bool.not_true,Bool.false_or,Bool.not_eq_true'] at hl
 simpa using hl
theorem Z3H {k:Nat} {o:Oper} {s:List V} {H H1:Heap} {v:V} (hc:BF E o = .s) (h:DW call E ops k o ⟨s,H⟩=some (v,H1)):H1=H/\∀H' k',DW call E ops k' o ⟨s,H'⟩=some (v,H'):=by
 unfold DW at *
 cases hg:o.guard with
 | none=>simp only [hg] at h ⊢;exact rU hc h
 | some jw=>
  obtain⟨j,want⟩:=jw
  simp only [hg] at h ⊢
  cases hd:(ops[j]?).bind (·.dst) with
  | none=>simp [hd] at h
  | some d=>
   simp only [hd] at h ⊢
   cases hgd:Ig (s.getD d .und) want with
   | none=>rw [hgd] at h;cases h
   | some r=>
    rw [hgd] at h
    cases r with
    | true=>simp only at h ⊢;exact rU hc h
    | false=>
     simp_all
theorem Qv (hpure:YK E call) {k:Nat} {o:Oper} {s:List V} {H H1:Heap} {v:V} (hc:BF E o≠.w) (hcc:BF E o≠.c) (hq:quietAt E s o=true) (h:DW call E ops k o ⟨s,H⟩=some (v,H1)) :
  ∃ids nb,(∀i∈ids,i∈CY E s o)/\(nb.isSome=true->BF E o = .a)/\H1=eff ids nb k H /\
   ∀H' k',(BF E o = .a->k' = k)->Bi (CY E s o) H H' -> DW call E ops k' o ⟨s,H'⟩=some (v,eff ids nb k' H'):=by
 unfold DW at *
 cases hg:o.guard with
 | none=>simp only [hg] at h ⊢;exact Z3d hpure hc hcc hq h
 | some jw=>
  obtain⟨j,want⟩:=jw
  simp only [hg] at h ⊢
  cases hd:(ops[j]?).bind (·.dst) with
  | none=>simp [hd] at h
  | some d=>
   simp only [hd] at h ⊢
   cases hgd:Ig (s.getD d .und) want with
   | none=>rw [hgd] at h;cases h
   | some r=>
    rw [hgd] at h
    cases r with
    | true=>simp only at h ⊢;exact Z3d hpure hc hcc hq h
    | false=>
     simp only [Option.some.injEq,Prod.mk.injEq] at h ⊢
     exact⟨[],none,by simp,by simp,h.2.symm,fun H' k' _ _=>⟨h.1,rfl⟩⟩
theorem XR (hfree:YG E call) {k:Nat} {o:Oper} {s:List V} {H H1:Heap} {v:V} (hc:BF E o = .c) (h:DW call E ops k o ⟨s,H⟩=some (v,H1)) :
  ∃ids nbs,(∀i∈ids,i∈CY E s o)/\H1=bump H ids++nbs/\∀H' k',H'.length=H.length->Bi (CY E s o) H H' -> DW call E ops k' o ⟨s,H'⟩=some (v,bump H' ids++nbs):=by
 unfold DW at *
 cases hg:o.guard with
 | none=>simp only [hg] at h ⊢;exact Z2W hfree hc h
 | some jw=>
  obtain⟨j,want⟩:=jw
  simp only [hg] at h ⊢
  cases hd:(ops[j]?).bind (·.dst) with
  | none=>simp [hd] at h
  | some d=>
   simp only [hd] at h ⊢
   cases hgd:Ig (s.getD d .und) want with
   | none=>rw [hgd] at h;cases h
   | some r=>
    rw [hgd] at h
    cases r with
    | true=>simp only at h ⊢;exact Z2W hfree hc h
    | false=>
     simp only [Option.some.injEq,Prod.mk.injEq] at h ⊢
     exact⟨[],[],by simp,by rw [List.append_nil];exact h.2.symm,fun H' k' _ _=>⟨h.1,by rw [List.append_nil];rfl⟩⟩
theorem Z0w {ids:List Nat} {H:Heap} (ys:List Box) (h:∀i∈ids,i<H.length):bump (H++ys) ids=bump H ids++ys:=by
 apply List.ext_getElem?
 intro i
 rw [Hl,List.getElem?_append,List.getElem?_append,bump_length,Hl]
 grind
theorem Z0V {ids:List Nat} {nb:Option Box} {k:Nat} {H:Heap} (ys:List Box) (h:∀i∈ids,i<H.length) (hk:nb.isSome=true->k<H.length):eff ids nb k (H++ys)=eff ids nb k H++ys:=by
 cases nb with
 | none=>exact Z0w ys h
 | some b=>
  have hk:=hk rfl
  simp only [eff,place,Z0w ys h,List.length_append,bump_length]
  rw [if_pos (by omega),if_pos hk,List.set_append_left _ _ (by rw [bump_length];exact hk)]
theorem Ws {R:List Nat} {H H' : Heap} (ys:List Box) (h:Bi R H H') (hR:∀i∈R,i<H'.length):Bi R H (H' ++ys):=by
 intro i hi
 rw [List.getElem?_append_left (hR i hi)]
 exact h i hi
theorem OJ (R ids:List Nat) (H:Heap):Bi R H (bump H ids):=by
 have:=PH (R:=R) (ids:=ids) (nb:=none) (k:=0) (H:=H) (fun h=>by cases h)
 exact this
theorem Z3o {R:List Nat} {H:Heap} {n:Nat} {b:Box} (h:n∉R):Bi R H (H.set n b):=by
 intro i hi
 grind
theorem Bi.trans {R:List Nat} {H H' H2:Heap} (h:Bi R H H') (k:Bi R H' H2):Bi R H H2:=fun i hi=>(h i hi).trans (k i hi)
theorem ZaO {s:List V} {d e:Option Tmp} {v u:V} (h:∀x,d=some x->e≠some x):setSlot (setSlot s d v) e u=setSlot (setSlot s e u) d v:=by
 cases d with
 | none=>rfl
 | some d=>
  cases e with
  | none=>rfl
  | some e=>
   have:d≠e:=fun hh=>h d rfl (by rw [hh])
   simp only [setSlot]
   exact List.set_comm v u this
theorem YA {o:Oper} (h:BF E o = .c):GM E o=true:=by simp [GM,h]
theorem oD {o:Oper} (h:Fj E o=true):GM E o=true:=by simp [GM,h]
theorem Z2C {o:Oper} (h:GM E o=true) (hc:BF E o≠.c):Fj E o=true:=by simpa [GM,hc] using h
theorem Zjq {o:Oper} (hc:BF E o≠.c) (hw:BF E o≠.w):GM E o=false:=by
 cases h:GM E o with
 | false=>rfl
 | true=>exact absurd (Uj (Z2C h hc)).1 hw
theorem oP (hrow:Y2 E call) {k:Nat} {o:Oper} {s:List V} {H H1:Heap} {v:V} (hc:Fj E o=true) (h:DW call E ops k o ⟨s,H⟩=some (v,H1)) {n:Nat} {b0:Box} (h0:H[n]? = some b0) (hr0:b0.row=false) :
  H1[n]? = some b0/\∀b k',b.row=false->DW call E ops k' o ⟨s,H.set n b⟩=some (v,H1.set n b):=by
 unfold DW at *
 cases hg:o.guard with
 | none=>simp only [hg] at h ⊢;exact Z3t hrow hc h h0 hr0
 | some jw=>
  obtain⟨j,want⟩:=jw
  simp only [hg] at h ⊢
  cases hd:(ops[j]?).bind (·.dst) with
  | none=>simp [hd] at h
  | some d=>
   simp only [hd] at h ⊢
   cases hgd:Ig (s.getD d .und) want with
   | none=>rw [hgd] at h;cases h
   | some r=>
    rw [hgd] at h
    cases r with
    | true=>simp only at h ⊢;exact Z3t hrow hc h h0 hr0
    | false=>
     simp only [Option.some.injEq,Prod.mk.injEq] at h ⊢
     obtain⟨rfl,rfl⟩:=h
     exact⟨h0,fun b k' _=>⟨rfl,rfl⟩⟩
theorem Z3j {k:Nat} {o:Oper} {s:List V} {H H1:Heap} {v:V} (hc:MI o=true) (h:DW call E ops k o ⟨s,H⟩=some (v,H1)) :
  (∃b,b.row=false/\H1=place H k b/\∀H',DW call E ops k o ⟨s,H'⟩=some (v,place H' k b))\/(H1=H/\∀H',DW call E ops k o ⟨s,H'⟩=some (v,H')):=by
 unfold DW at *
 cases hg:o.guard with
 | none=>simp only [hg] at h ⊢;exact .inl (Z3I hc h)
 | some jw=>
  obtain⟨j,want⟩:=jw
  simp only [hg] at h ⊢
  cases hd:(ops[j]?).bind (·.dst) with
  | none=>simp [hd] at h
  | some d=>
   simp only [hd] at h ⊢
   cases hgd:Ig (s.getD d .und) want with
   | none=>rw [hgd] at h;cases h
   | some r=>
    rw [hgd] at h
    cases r with
    | true=>simp only at h ⊢;exact .inl (Z3I hc h)
    | false=>
     simp only [Option.some.injEq,Prod.mk.injEq] at h ⊢
     exact .inr ⟨h.2.symm,fun H' =>⟨h.1,trivial⟩⟩
theorem YU {o:Oper} (h:Fj E o=true) (hc:BF E o = .c):False:=by
 have:=(Uj h).1
 rw [hc] at this
 cases this
theorem I8 {o:Oper} {H:Heap} (hc:BF E o≠.c) (hw:BF E o≠.w):OZ E ops base m o H:=fun h=>by
 rw [Zjq hc hw] at h
 cases h
theorem oV {o:Oper} {t:Nat⊕Nat} (ht:Pe E ops o=some t) (h:GM E o=true):False:=by
 obtain⟨h1,_,d,hd⟩:=Xt ht
 have:=(Uj (Z2C h (by rw [h1];simp))).2
 rw [hd] at this
 cases this
theorem Zhs {H:Heap} {y:Nat} {oy:Oper} (hy:ops[y]? = some oy) (ha:MI oy=true) (h:Jy ops base H=true):∃b,H[base+y]? = some b/\b.row=false:=by
 unfold Jy at h
 rw [List.all_eq_true] at h
 have h:=h y (by simpa using (Array.getElem?_eq_some_iff.1 hy).1)
 simp only [hy,ha,Bool.not_true,Bool.false_or] at h
 cases hb:H[base+y]? with
 | none=>rw [hb] at h;cases h
 | some b=>rw [hb] at h;exact⟨b,rfl,by simpa using h⟩
theorem Z2L {H:Heap} {n:Nat} {b:Box} (hr:b.row=false) (h:Jy ops base H=true):Jy ops base (H.set n b)=true:=by
 unfold Jy at *
 rw [List.all_eq_true] at h ⊢
 intro j hj
 have h:=h j hj
 cases ho:ops[j]? with
 | none=>rfl
 | some o=>
  rw [ho] at h
  simp only [Bool.or_eq_true,Bool.not_eq_true'] at h ⊢
  rcases h with h|h
  ·exact .inl h
  ·refine .inr ?_
   cases hb:H[base+j]? with
   | none=>rw [hb] at h;cases h
   | some c=>
    rw [hb] at h
    have hlt:=(List.getElem?_eq_some_iff.1 hb).1
    by_cases e:n=base+j
    ·subst e
     rw [List.getElem?_set_self hlt]
     simp [hr]
    ·rw [List.getElem?_set_ne e,hb]
     exact h
theorem qL {o:Oper} (h:H9 o=true):BF E o = .n:=by
 unfold H9 at h
 split at h
 ·rename_i t a hop
  unfold BF
  rw [hop]
 ·cases h
theorem Z0Z {o:Oper} (h:H9 o=true):needs E o=true:=by
 unfold needs
 rw [qL h]
theorem Z3l {o:Oper} (h:isApp o=true):BF E o = .w:=by
 unfold isApp at h
 split at h
 ·rename_i c hop
  split at h
  ·rename_i hc
   unfold BF
   simp only [hop,hc]
  ·cases h
 ·cases h
theorem Zci {x y:Oper} (h:x.apart ops y=true):y.apart ops x=true:=by
 unfold Oper.apart at *
 grind
theorem Z2m {s:List V} {i:Nat} {o:Oper} {d:Option Tmp} {v:V} (h:∀d',d=some d' -> d' ∉o.looksAt ops):JK E ops ms lt s0 base i (setSlot s d v) o=JK E ops ms lt s0 base i s o:=by
 unfold JK
 rw [Z1d h,XQ h]
theorem Z2b {i j:Nat} {s:List V} {o oj:Oper} (hj:ops[j]? = some oj) (ha:isApp o=true) (hl:H9 oj=true) (hlt:lt.any (fun p=>p.1==i)=false) (hk:linked ms i j=false) (h:JK E ops ms lt s0 base i s o=true) :
  ∃n id,S9 E ops base s0 oj=some n/\(∃a b c,addrOf E s o = .Az id a b c)/\n≠id:=by
 unfold JK at h
 rw [List.all_eq_true] at h
 have h:=h j (by simpa using (Array.getElem?_eq_some_iff.1 hj).1)
 simp only [hj,ha,hl,hlt,hk,Bool.and_self,Bool.not_true,Bool.false_or,Bool.and_eq_true] at h
 obtain⟨h,_⟩:=h
 split at h
 ·rename_i n id a b c hn hq
  exact⟨n,id,hn,⟨a,b,c,hq⟩,fun e=>by simp [e] at h⟩
 ·cases h
theorem Z2y {i j:Nat} {s:List V} {o oj:Oper} (hj:ops[j]? = some oj) (ha:isApp oj=true) (hl:H9 o=true) (hlt:lt.any (fun p=>p.1==j)=false) (hk:linked ms i j=false) (h:JK E ops ms lt s0 base i s o=true) :
  ∃n,S9 E ops base s0 o=some n/\∀k∈CY E s o,k=n:=by
 unfold JK at h
 rw [List.all_eq_true] at h
 have h:=h j (by simpa using (Array.getElem?_eq_some_iff.1 hj).1)
 simp only [hj,ha,hl,hlt,hk,Bool.and_self,Bool.not_true,Bool.false_or,Bool.and_eq_true] at h
 obtain⟨_,h⟩:=h
 split at h
 ·rename_i n hn
  exact⟨n,hn,fun k hk=>by simpa using List.all_eq_true.1 h k hk⟩
 ·cases h
theorem Z3s {k:Nat} {o:Oper} {s:List V} {H H1:Heap} {v:V} (hc:H9 o=true) (h:DW call E ops k o ⟨s,H⟩=some (v,H1)) :
  H1=H/\∀H' k',Bi (CY E s o) H H' -> DW call E ops k' o ⟨s,H'⟩=some (v,H'):=by
 have key:∀{k:Nat} {H H1:Heap},Ak call E k H s o=some (v,H1)->H1=H/\∀H' k',Bi (CY E s o) H H' -> Ak call E k' H' s o=some (v,H'):=by
  intro k H H1 h
  obtain⟨dst,op,type,pos,after,guard⟩:=o
  unfold H9 at hc
  split at hc
  ·rename_i t a hop
   simp only at hop
   subst hop
   simp only [Ak] at h ⊢
   obtain⟨h1,h2⟩:=pJ h
   exact⟨h2,fun H' k' hs=>by rw [Z23 (Rf hs (by simp [Op.operands])),h1];rfl⟩
  ·cases hc
 unfold DW at *
 cases hg:o.guard with
 | none=>simp only [hg] at h ⊢;exact key h
 | some jw=>
  obtain⟨j,want⟩:=jw
  simp only [hg] at h ⊢
  cases hd:(ops[j]?).bind (·.dst) with
  | none=>simp [hd] at h
  | some d=>
   simp only [hd] at h ⊢
   cases hgd:Ig (s.getD d .und) want with
   | none=>rw [hgd] at h;cases h
   | some r=>
    rw [hgd] at h
    cases r with
    | true=>simp only at h ⊢;exact key h
    | false=>
     simp only [Option.some.injEq,Prod.mk.injEq] at h ⊢
     exact⟨h.2.symm,fun H' k' _=>⟨h.1,trivial⟩⟩
theorem Zax {k:Nat} {H H1:Heap} {t u:TypeId} {x v:V} {id a b c:Nat} (h:Ib E k H t u (.Az id a b c) x=some (v,H1)):∀i,i≠id->H1[i]? = H[i]?:=by
 intro i hi
 unfold Ib at h
 split at h
 ·split at h
  ·split at h
   ·simp only at h
    split at h
    ·split at h
     ·split at h
      ·simp only [Option.some.injEq,Prod.mk.injEq] at h
       rw [<- h.2,List.getElem?_set_ne (Ne.symm hi)]
      ·cases h
     ·split at h
      ·simp only [Option.some.injEq,Prod.mk.injEq] at h
       rw [<- h.2,List.getElem?_set_ne (Ne.symm hi)]
      ·cases h
    ·cases h
   ·cases h
  ·cases h
 ·cases h
theorem Z2R {k:Nat} {o:Oper} {s:List V} {H H1:Heap} {v:V} {id:Nat} (hc:isApp o=true) (ha:∃a b c,addrOf E s o = .Az id a b c) (h:DW call E ops k o ⟨s,H⟩=some (v,H1)):∀i,i≠id->H1[i]? = H[i]?:=by
 have key:Ak call E k H s o=some (v,H1)->∀i,i≠id->H1[i]? = H[i]?:=by
  intro h
  obtain⟨q1,q2,q3,ha⟩:=ha
  have hwa:∃a,I9 o=some a:=by
   unfold addrOf at ha
   cases hw:I9 o with
   | none=>rw [hw] at ha;cases ha
   | some a=>exact⟨a,rfl⟩
  obtain⟨wa,hwa⟩:=hwa
  have hae:ev E s wa = .Az id q1 q2 q3:=by
   unfold addrOf at ha
   rw [hwa] at ha
   exact ha
  rcases Wh hwa with ⟨t,v',hop⟩|⟨c,x,hop,hcal,hargs⟩
  ·unfold isApp at hc
   rw [hop] at hc
   cases hc
  ·have hargs' : evs E s c.args=[ev E s wa,ev E s x]:=by unfold evs;rw [hargs];rfl
   unfold Ak at h
   simp only [hop,hcal,hargs'] at h
   unfold LZ at h
   split at h
   ·rename_i h1 _;cases h1
   ·rename_i a y t' u' hb he1 he2
    simp only [List.cons.injEq,and_true] at he1
    obtain⟨rfl,rfl⟩:=he1
    rw [hae] at h
    exact Zax h
   ·simp_all
   ·rename_i h1;cases h1
   ·rename_i h1;cases h1
   ·cases h
 unfold DW at *
 cases hg:o.guard with
 | none=>simp only [hg] at h;exact key h
 | some jw=>
  obtain⟨j,want⟩:=jw
  simp only [hg] at h
  cases hd:(ops[j]?).bind (·.dst) with
  | none=>simp [hd] at h
  | some d=>
   simp only [hd] at h
   cases hgd:Ig (s.getD d .und) want with
   | none=>rw [hgd] at h;cases h
   | some r=>
    rw [hgd] at h
    cases r with
    | true=>simp only at h;exact key h
    | false=>
     simp only [Option.some.injEq,Prod.mk.injEq] at h
     rw [h.2]
     exact fun i _=>rfl
theorem Zcp (hcalls:La E call) (hm:∀i o,ops[i]? = some o->BF E o = .a->i<m) {x y:Nat} {ox oy:Oper} (hx:ops[x]? = some ox) (hy:ops[y]? = some oy) (hxy:x≠y)
  (hpass:(UY E ops ox oy||(IM E ops lt x ox oy||IM E ops lt y oy ox))=true) (hlt:∀x t,(x,t)∈lt->∃ox,ops[x]? = some ox/\Pe E ops ox=some t) (hbit:(ms.getD y 0).testBit x=false) (hbit' : (ms.getD x 0).testBit y=false) {st st1 st2:St}
  (h1:GL call E ops ms lt s0 base m x st=some st1) (h2:GL call E ops ms lt s0 base m y st1=some st2) :
  ∃st1',GL call E ops ms lt s0 base m y st=some st1' /\ GL call E ops ms lt s0 base m x st1' = some st2:=by
 have hpure:=hcalls.pure
 have hfree:=hcalls.free
 have hap:ox.apart ops oy=true\/oy.apart ops ox=true:=by
  simp only [Bool.or_eq_true,UY,IM,Bool.and_eq_true] at hpass
  rcases hpass with h|h|h
  ·exact .inl h.2
  ·exact .inl h.1
  ·exact .inr h.1
 have hsp:(∀d,ox.dst=some d->d∉oy.looksAt ops)/\(∀d,ox.dst=some d->oy.dst≠some d)/\(∀d,oy.dst=some d->d∉ox.looksAt ops):=by
  rcases hap with h|h
  ·exact Oper.apart_spec h
  ·obtain⟨b1,b2,b3⟩:=Oper.apart_spec h
   grind
 obtain⟨a1,a2,a3⟩:=hsp
 obtain⟨s1,⟨l1,c1⟩,d1,vx,Hx,e1,rfl⟩:=(XO hx).1 h1
 obtain⟨s2,⟨l2,c2⟩,d2,vy,Hy,e2,rfl⟩:=(XO hy).1 h2
 obtain⟨s,H⟩:=st
 simp only at *
 rw [Z2w a1] at e2
 rw [Z27 a1] at l2
 have s2' : NY E ops ms lt s0 base m y s oy:=by unfold NY at *;rw [XQ a1,Z0r a1,Z2m a1] at s2;exact s2
 have s1' : NY E ops ms lt s0 base m x (setSlot s oy.dst vy) ox:=by unfold NY at *;rw [XQ a3,Z0r a3,Z2m a3];exact s1
 have keptx:BF E ox = .a->base+x<H.length:=fun hc=>by
  grind
 have nox:BF E ox = .a->base+x∉CY E s oy:=fun hc hin=>by
  rcases s2'.1 _ hin with h|⟨h,_⟩|⟨_,h⟩
  ·omega
  ·grind
  simp_all
 have noy:BF E oy = .a->base+y∉CY E s ox:=fun hc hin=>by
  rcases s1.1 _ hin with h|⟨h,_⟩|⟨_,h⟩
  ·omega
  ·grind
  simp_all
 have seex:BF E oy = .c->∀id∈CY E s ox,id<base+m:=fun hc id hid=>by
  rcases s1.1 id hid with h|⟨_,h⟩|⟨h,_⟩
  ·omega
  ·exfalso
   unfold RZ at h
   rw [List.all_eq_true] at h
   have:=h y (by grind)
   simp only [hy,hc,linked,hbit,hbit',decide_true,Bool.not_true,Bool.or_self,Bool.or_false,beq_iff_eq] at this
   exact hxy this.symm
  ·exact h
 have seey:BF E ox = .c->∀id∈CY E s oy,id<base+m:=fun hc id hid=>by
  rcases s2'.1 id hid with h|⟨_,h⟩|⟨h,_⟩
  ·omega
  ·exfalso
   unfold RZ at h
   rw [List.all_eq_true] at h
   have:=h x (by simpa using (Array.getElem?_eq_some_iff.1 hx).1)
   simp only [hx,hc,linked,hbit,hbit',decide_true,Bool.not_true,Bool.or_self,Bool.or_false,beq_iff_eq] at this
   exact hxy this
  ·exact h
 have fin:∀(Hy' : Heap),NY E ops ms lt s0 base m y s oy->(Eu E ms lt s0 base y s H oy=true/\OZ E ops base m oy H)->(BF E oy = .a->∃b,H[base+y]? = some b/\(b.live=false/\b.row=false))->DW call E ops (Bc E oy base y H) oy ⟨s,H⟩=some (vy,Hy') ->
   (Eu E ms lt s0 base x s Hy' ox=true/\OZ E ops base m ox Hy')->(BF E ox = .a->∃b,Hy'[base+x]? = some b/\(b.live=false/\b.row=false))->DW call E ops (Bc E ox base x Hy') ox ⟨s,Hy'⟩=some (vx,Hy) ->
   ∃st1',GL call E ops ms lt s0 base m y ⟨s,H⟩=some st1' /\ GL call E ops ms lt s0 base m x st1' = some ⟨setSlot (setSlot s ox.dst vx) oy.dst vy,Hy⟩:=by
  intro Hy' g1 l3 g2 g3 l4 g4 g5
  refine⟨⟨setSlot s oy.dst vy,Hy'⟩,(XO hy).2 ⟨g1,l3,g2,vy,Hy',g3,rfl⟩,(XO hx).2 ⟨s1',⟨(by rw [Z27 a3];exact l4.1),l4.2⟩,g4,vx,Hy,?_,?_⟩⟩
  ·rw [Z2w a3];exact g5
  ·rw [ZaO a2]
 have notin:∀(z:Nat) (oz:Oper),ops[z]? = some oz->BF E oz≠.w->∀t,(z,t)∉lt:=by
  intro z oz hz hc t hin
  obtain⟨o',ho',ht'⟩:=hlt z t hin
  rw [hz] at ho'
  cases ho'
  exact hc (Xt ht').1
 cases hlx:IM E ops lt x ox oy with
 | true=>
  unfold IM at hlx
  simp only [Bool.and_eq_true,List.any_eq_true,beq_iff_eq] at hlx
  obtain⟨_,hny,⟨x',t⟩,hin,hx'⟩:=hlx
  simp only at hx'
  subst hx'
  obtain⟨ox',hox',htx⟩:=hlt _ t hin
  rw [hx] at hox'
  cases hox'
  have hnw:=Z3c hny
  obtain⟨b,n,hn,hnin,hnlt,rfl,f3⟩:=Z1C htx hin l1 e1
  have hjy:n∉CY E s oy:=Z1P hin hxy hny hbit hbit' hn l2
  have late1:∀Hy' : Heap,Hy'[n]? = H[n]? -> Eu E ms lt s0 base x' s Hy' ox=true:=fun Hy' hat=>by
   refine Z1g (fun p hp k he hk=>?_) l1
   grind
  have ncx:GM E ox=true->False:=fun hc=>oV htx hc
  by_cases hyc:BF E oy = .c
  ·obtain⟨idy,nbs,y1,rfl,y4⟩:=XR hfree hyc e2
   have hl:base+m<=H.length:=by have:=(c2 (YA hyc)).1;rw [List.length_set] at this;exact this
   have hjid:n∉idy:=fun h=>hjy (y1 _ h)
   have g3:=y4 H (Bc E oy base y H) (by rw [List.length_set]) (Z3o hjy).symm
   have hat:(bump H idy++nbs)[n]? = H[n]?:=by
    rw [List.getElem?_append_left (by rw [bump_length];exact hnlt),Hl]
    cases H[n]? with
    | none=>rfl
    | some b=>simp [hjid]
   refine fin _ s2' ⟨F9 (notin y oy hy hnw) l2,fun _=>⟨hl,fun h=>(YU h hyc).elim⟩⟩ (fun hc=>by simp_all) g3 ⟨late1 _ hat,fun hc=>(ncx hc).elim⟩ (fun hc=>by simp_all) ?_
   rw [f3 _ _ hat (Ws nbs (OJ _ _ _) (fun i hi=>by rw [bump_length];exact Nat.lt_of_lt_of_le (seex hyc i hi) hl))]
   congr 2
   rw [List.set_append_left _ _ (by rw [bump_length];exact hnlt)]
   congr 1
   have:=Xi (ids:=idy) (nb:=none) (k' :=0) (H:=H) (b:=b) (k:=n) (fun h=>by cases h) hjid
   exact this.symm
  have hne:BF E oy = .a->base+y≠n:=fun hc e=>noy hc (by rw [e];exact hnin)
  obtain⟨idy,nby,y1,y2,rfl,y4⟩:=Qv hpure hnw hyc s2'.2.1 e2
  have hkH:Bc E oy base y (H.set n b)=Bc E oy base y H:=by unfold Bc;rw [List.length_set]
  have deady:BF E oy = .a->∃b,H[base+y]? = some b/\(b.live=false/\b.row=false):=fun hc=>by
   grind
  have hyl:nby.isSome=true->Bc E oy base y H<H.length/\Bc E oy base y H≠n:=fun h=>by
   have hc:=y2 h
   obtain⟨b',hb',_⟩:=deady hc
   have:=(List.getElem?_eq_some_iff.1 hb').1
   unfold Bc
   grind
  have hjid:n∉idy:=fun h=>hjy (y1 _ h)
  have g3:=y4 H (Bc E oy base y H) (fun hc=>by rw [hkH]) (fun i hi=>by grind)
  have hat:=Z3V (H:=H) hyl hjid
  refine fin _ s2' ⟨F9 (notin y oy hy hnw) l2,I8 hyc hnw⟩ deady g3 ⟨late1 _ hat,fun hc=>(ncx hc).elim⟩ (fun hc=>by simp_all) ?_
  rw [f3 _ _ hat (PH (fun h=>⟨(hyl h).1,by
    have hk:Bc E oy base y H=base+y:=by simp [Bc,y2 h]
    rw [hk]
    exact noy (y2 h)⟩)),hkH,Xi hyl hjid]
 | false=>
 cases hly:IM E ops lt y oy ox with
 | true=>
  unfold IM at hly
  simp only [Bool.and_eq_true,List.any_eq_true,beq_iff_eq] at hly
  obtain⟨_,hnx,⟨y',t⟩,hin,hy'⟩:=hly
  simp only at hy'
  subst hy'
  obtain⟨oy',hoy',hty⟩:=hlt _ t hin
  rw [hy] at hoy'
  cases hoy'
  have hnw:=Z3c hnx
  obtain⟨b,n,hn,hnin,hnlt,rfl,f3⟩:=Z1C hty hin l2 e2
  have hjx:n∉CY E s ox:=Z1P hin (Ne.symm hxy) hnx hbit' hbit hn l1
  have late2:Hx[n]? = H[n]? -> Eu E ms lt s0 base y' s H oy=true:=fun hat=>by
   refine Z1g (fun p hp k he hk=>?_) l2
   grind
  have ncy:GM E oy=true->False:=fun hc=>oV hty hc
  by_cases hxc:BF E ox = .c
  ·obtain⟨idx,nbs,x1,rfl,x4⟩:=XR hfree hxc e1
   have hl:base+m<=H.length:=(c1 (YA hxc)).1
   have hnl:n<H.length:=Nat.lt_of_lt_of_le (seey hxc n hnin) hl
   have hjid:n∉idx:=fun h=>hjx (x1 _ h)
   have hat:(bump H idx++nbs)[n]? = H[n]?:=by
    rw [List.getElem?_append_left (by rw [bump_length];exact hnl),Hl]
    cases H[n]? with
    | none=>rfl
    | some b=>simp [hjid]
   refine fin _ s2' ⟨late2 hat,fun hc=>(ncy hc).elim⟩ (fun hc=>by rw [(Xt hty).1] at hc;cases hc) (f3 _ H hat.symm (Ws nbs (OJ _ _ _) (fun i hi=>by rw [bump_length];exact Nat.lt_of_lt_of_le (seey hxc i hi) hl)).symm)
    ⟨F9 (notin x ox hx hnw) l1,fun _=>⟨by grind,fun h=>(YU h hxc).elim⟩⟩ (fun hc=>by simp_all) ?_
   rw [x4 _ _ (by rw [List.length_set]) (Z3o hjx)]
   congr 2
   rw [List.set_append_left _ _ (by rw [bump_length];exact hnl)]
   congr 1
   have:=Xi (ids:=idx) (nb:=none) (k' :=0) (H:=H) (b:=b) (k:=n) (fun h=>by cases h) hjid
   exact this
  obtain⟨idx,nbx,x1,x2,rfl,x4⟩:=Qv hpure hnw hxc s1.2.1 e1
  have hne:BF E ox = .a->base+x≠n:=fun hc e=>nox hc (by rw [e];exact hnin)
  have hxl:nbx.isSome=true->Bc E ox base x H<H.length/\Bc E ox base x H≠n:=fun h=>by
   have hc:=x2 h
   have:=keptx hc
   unfold Bc
   grind
  have hjid:n∉idx:=fun h=>hjx (x1 _ h)
  have hat:=Z3V (H:=H) hxl hjid
  have hkS:Bc E ox base x (H.set n b)=Bc E ox base x H:=by unfold Bc;rw [List.length_set]
  have hsy:Bi (CY E s oy) (eff idx nbx (Bc E ox base x H) H) H:=(PH (fun h=>⟨(hxl h).1,by
   have hk:Bc E ox base x H=base+x:=by simp [Bc,x2 h]
   grind⟩)).symm
  refine fin _ s2' ⟨late2 hat,fun hc=>(ncy hc).elim⟩ (fun hc=>by simp_all) (f3 _ H hat.symm hsy) ⟨F9 (notin x ox hx hnw) l1,I8 hxc hnw⟩ (fun hc=>?_) ?_
  ·grind
  ·rw [x4 _ _ (fun hc=>by rw [hkS]) (fun i hi=>by rw [List.getElem?_set_ne (fun e=>hjx (by rw [e];exact hi))]),hkS,Xi hxl hjid]
 | false=>
 rw [hlx,hly,Bool.or_false,Bool.or_false] at hpass
 unfold UY at hpass
 simp only [Bool.and_eq_true] at hpass
 have hcomp:=hpass.1
 simp only [Bool.or_eq_true,Bool.and_eq_true] at hcomp
 have norow:∀(z:Nat) (oz:Oper),ops[z]? = some oz->Fj E oz=true->∀t,(z,t)∉lt:=by
  intro z oz hz hc t hin
  obtain⟨o',ho',ht'⟩:=hlt z t hin
  rw [hz] at ho'
  cases ho'
  exact oV ht' (oD hc)
 have nolt:lt.any (fun p=>p.1==x)=false\/isApp ox=false\/H9 oy=false:=by
  cases h1:H9 oy with
  | false=>exact .inr (.inr rfl)
  | true=>
   refine .inl ?_
   have hn:needs E oy=true:=Z0Z h1
   have:IM E ops lt x ox oy=false:=hlx
   unfold IM at this
   rw [hpass.2,hn,Bool.true_and,Bool.true_and] at this
   exact this
 have nolt' : lt.any (fun p=>p.1==y)=false\/isApp oy=false\/H9 ox=false:=by
  cases h1:H9 ox with
  | false=>exact .inr (.inr rfl)
  | true=>
   refine .inl ?_
   have hn:needs E ox=true:=Z0Z h1
   have:IM E ops lt y oy ox=false:=hly
   unfold IM at this
   rw [Zci hpass.2,hn,Bool.true_and,Bool.true_and] at this
   exact this
 have hxs:x<ops.size:=(Array.getElem?_eq_some_iff.1 hx).1
 have hys:y<ops.size:=(Array.getElem?_eq_some_iff.1 hy).1
 rcases hcomp with (hcomp|⟨hrx,hay⟩|⟨hry,hax⟩)|⟨hpx,hldy⟩|⟨hpy,hldx⟩
 rotate_left
 ·have hya:=Z41 (E:=E) hay
  have hny:BF E oy≠.w:=by rw [hya];simp
  have hnc:BF E oy≠.c:=by rw [hya];simp
  have hrw:=(Uj hrx).1
  have hk:∀H',Bc E oy base y H' = base+y:=fun H' =>by simp [Bc,hya]
  obtain⟨hl,hal⟩:=c1 (oD hrx)
  obtain⟨b0,hb0,hr0⟩:=Zhs hy hay (hal hrx)
  have hlt0:=(List.getElem?_eq_some_iff.1 hb0).1
  obtain⟨r1,r2⟩:=oP hcalls.row hrx e1 hb0 hr0
  have d2' : BF E oy = .a->∃b,H[base+y]? = some b/\(b.live=false/\b.row=false):=fun hc=>by
   obtain⟨b,hb,hd⟩:=d2 hc
   rw [r1] at hb
   cases hb
   exact⟨b0,hb0,hd⟩
  rw [hk] at e2
  rcases Z3j hay e2 with ⟨b,hbr,rfl,f⟩|⟨rfl,f⟩
  ·have hp:place H (base+y) b=H.set (base+y) b:=by unfold place;rw [if_pos hlt0]
   have hp' : place Hx (base+y) b=Hx.set (base+y) b:=by unfold place;rw [if_pos (List.getElem?_eq_some_iff.1 r1).1]
   refine fin (H.set (base+y) b) s2' ⟨F9 (notin y oy hy hny) l2,I8 hnc hny⟩ d2' (by rw [hk,f,hp]) ⟨F9 (norow x ox hx hrx) l1,fun _=>⟨by rw [List.length_set];exact hl,fun _=>Z2L hbr (hal hrx)⟩⟩ (fun hc=>by rw [hrw] at hc;cases hc) ?_
   rw [hp']
   exact r2 b _ hbr
  ·exact fin H s2' ⟨F9 (notin y oy hy hny) l2,I8 hnc hny⟩ d2' (by rw [hk];exact f H) ⟨l1,c1⟩ (fun hc=>by rw [hrw] at hc;cases hc) e1
 ·have hxa:=Z41 (E:=E) hax
  have hnx:BF E ox≠.w:=by rw [hxa];simp
  have hnc:BF E ox≠.c:=by rw [hxa];simp
  have hrw:=(Uj hry).1
  have hk:∀H',Bc E ox base x H' = base+x:=fun H' =>by simp [Bc,hxa]
  obtain⟨bd,hbd,hdl,hdr⟩:=d1 hxa
  have hlt0:=(List.getElem?_eq_some_iff.1 hbd).1
  rw [hk] at e1
  rcases Z3j hax e1 with ⟨b,hbr,rfl,f⟩|⟨rfl,f⟩
  ·have hp:place H (base+x) b=H.set (base+x) b:=by unfold place;rw [if_pos hlt0]
   rw [hp] at e2 c2
   obtain⟨hl,hal⟩:=c2 (oD hry)
   rw [List.length_set] at hl
   have hback:(H.set (base+x) b).set (base+x) bd=H:=by
    rw [List.set_set]
    apply List.ext_getElem?
    intro i
    rw [List.getElem?_set]
    grind
   obtain⟨r1,r2⟩:=oP hcalls.row hry e2 (List.getElem?_set_self hlt0) hbr
   have hlty:=(List.getElem?_eq_some_iff.1 r1).1
   have r3:=r2 bd (Bc E oy base y H) hdr
   rw [hback] at r3
   have hal' :=Z2L (n:=base+x) hdr (hal hry)
   rw [hback] at hal'
   refine fin (Hy.set (base+x) bd) s2' ⟨F9 (norow y oy hy hry) l2,fun _=>⟨hl,fun _=>hal'⟩⟩ (fun hc=>by rw [hrw] at hc;cases hc) r3 ⟨F9 (notin x ox hx hnx) l1,I8 hnc hnx⟩ (fun _=>⟨bd,List.getElem?_set_self hlty,hdl,hdr⟩) ?_
   rw [hk,f]
   have hq:place (Hy.set (base+x) bd) (base+x) b=Hy:=by
    unfold place
    rw [if_pos (by rw [List.length_set];exact hlty),List.set_set]
    apply List.ext_getElem?
    intro i
    rw [List.getElem?_set]
    grind
   rw [hq]
  ·obtain⟨r1,r2⟩:=oP hcalls.row hry e2 hbd hdr
   exact fin Hy s2' ⟨l2,c2⟩ (fun hc=>by rw [hrw] at hc;cases hc) e2 ⟨F9 (notin x ox hx hnx) l1,I8 hnc hnx⟩ (fun _=>⟨bd,r1,hdl,hdr⟩) (by rw [hk];exact f Hy)
 ·have hln:=qL (E:=E) hldy
  have hw:=Z3l (E:=E) hpx
  have hlt1:lt.any (fun p=>p.1==x)=false:=by
   rcases nolt with h|h|h
   ·exact h
   ·rw [hpx] at h;cases h
   ·rw [hldy] at h;cases h
  obtain⟨n,id,hn1,hn2,hn3⟩:=Z2b hy hpx hldy hlt1 (by unfold linked;rw [hbit,hbit'];rfl) s1.2.2
  obtain⟨n',hn1',hn4⟩:=Z2y hx hpx hldy hlt1 (by unfold linked;rw [hbit,hbit'];rfl) s2'.2.2
  rw [hn1] at hn1'
  cases hn1'
  obtain⟨q1,q2⟩:=Z3s hldy e2
  subst q1
  have hsim:Bi (CY E s oy) Hy H:=fun i hi=>by
   rw [Z2R hpx hn2 e1 i (by rw [hn4 i hi];exact hn3)]
  refine fin H s2' ⟨F9 (notin y oy hy (by rw [hln];simp)) l2,I8 (by rw [hln];simp) (by rw [hln];simp)⟩ (fun hc=>by rw [hln] at hc;cases hc) (q2 _ _ hsim) ⟨l1,c1⟩ (fun hc=>by rw [hw] at hc;cases hc) e1
 ·have hln:=qL (E:=E) hldx
  have hw:=Z3l (E:=E) hpy
  have hlt1:lt.any (fun p=>p.1==y)=false:=by
   rcases nolt' with h|h|h
   ·exact h
   ·rw [hpy] at h;cases h
   ·rw [hldx] at h;cases h
  obtain⟨n,id,hn1,hn2,hn3⟩:=Z2b hx hpy hldx hlt1 (by unfold linked;rw [hbit,hbit'];rfl) s2'.2.2
  obtain⟨n',hn1',hn4⟩:=Z2y hy hpy hldx hlt1 (by unfold linked;rw [hbit,hbit'];rfl) s1.2.2
  rw [hn1] at hn1'
  cases hn1'
  obtain⟨q1,q2⟩:=Z3s hldx e1
  subst q1
  have hsim:Bi (CY E s ox) Hx Hy:=fun i hi=>by
   rw [Z2R hpy hn2 e2 i (by rw [hn4 i hi];exact hn3)]
  exact fin Hy s2' ⟨l2,c2⟩ (fun hc=>by rw [hw] at hc;cases hc) e2 ⟨F9 (notin x ox hx (by rw [hln];simp)) l1,I8 (by rw [hln];simp) (by rw [hln];simp)⟩ (fun hc=>by rw [hln] at hc;cases hc) (q2 _ _ hsim)
 by_cases hcx:BF E ox = .s
 ·obtain⟨f1,f2⟩:=Z3H hcx e1
  subst f1
  exact fin Hy s2' ⟨l2,c2⟩ d2 e2 ⟨F9 (notin x ox hx (by simp_all)) l1,I8 (by rw [hcx];simp) (by rw [hcx];simp)⟩ (fun hc=>by simp_all) (f2 _ _)
 by_cases hcy:BF E oy = .s
 ·obtain⟨f1,f2⟩:=Z3H hcy e2
  subst f1
  exact fin H s2' ⟨F9 (notin y oy hy (by simp_all)) l2,I8 (by rw [hcy];simp) (by rw [hcy];simp)⟩ (fun hc=>by simp_all) (f2 _ _) ⟨l1,c1⟩ d1 e1
 have hwx:BF E ox≠.w:=fun hw=>by rw [hw] at hcomp;cases hh:BF E oy<;>simp_all [qX]
 have hwy:BF E oy≠.w:=fun hw=>by rw [hw] at hcomp;cases hh:BF E ox<;>simp_all [qX]
 by_cases hxc:BF E ox = .c
 ·have hyc:BF E oy≠.c:=fun hc=>by rw [hxc,hc] at hcomp;cases hcomp
  obtain⟨idx,nbs,x1,rfl,x4⟩:=XR hfree hxc e1
  obtain⟨idy,nby,y1,y2,rfl,y4⟩:=Qv hpure hwy hyc s2'.2.1 e2
  have hl:base+m<=H.length:=(c1 (YA hxc)).1
  have hry:∀i∈CY E s oy,i<H.length:=fun i hi=>Nat.lt_of_lt_of_le (seey hxc i hi) hl
  have kyl:nby.isSome=true->base+y<H.length:=fun h=>by grind
  have g3:=y4 H (Bc E oy base y H) (fun hc=>by simp [Bc,hc]) (Ws nbs (OJ _ _ _) (fun i hi=>by rw [bump_length];exact hry i hi)).symm
  have hke:∀H' : Heap,eff idy nby (Bc E oy base y H')=eff idy nby (base+y):=fun H' =>by
   cases hnb:nby with
   | none=>rfl
   | some b=>simp [Bc,y2 (by rw [hnb];rfl)]
  rw [hke] at g3
  have kyn:nby.isSome=true->base+y∉CY E s ox:=fun h=>noy (y2 h)
  have hlen:(eff idy nby (base+y) H).length=H.length:=Qg kyl
  have dy:BF E oy = .a->∃b,H[base+y]? = some b/\(b.live=false/\b.row=false):=fun hc=>by
   obtain⟨b,hb,hd⟩:=d2 hc
   have hlt:base+y<H.length:=by have:=hm y oy hy hc;omega
   rw [List.getElem?_append_left (by rw [bump_length];exact hlt),Hl] at hb
   grind
  refine fin _ s2' ⟨F9 (notin y oy hy hwy) l2,I8 hyc hwy⟩ dy g3 ⟨F9 (notin x ox hx hwx) l1,fun _=>⟨by rw [hlen];exact hl,fun h=>(YU h hxc).elim⟩⟩ (fun hc=>by simp_all) ?_
  rw [x4 _ _ hlen (PH (fun h=>⟨kyl h,kyn h⟩)),hke]
  congr 2
  rw [Z0V nbs (fun i hi=>by rw [bump_length];exact hry i (y1 i hi)) (fun h=>by rw [bump_length];exact kyl h)]
  congr 1
  have:=oM (Dn:=idx) (ids2:=idy) (nb1:=none) (nb2:=nby) (k1:=0) (k2:=base+y) (H:=H) (fun h=>by cases h) (fun h=>⟨kyl h,fun hin=>kyn h (x1 _ hin)⟩) (fun h=>by cases h)
  exact this
 by_cases hyc:BF E oy = .c
 ·obtain⟨idx,nbx,x1,x2,rfl,x4⟩:=Qv hpure hwx hxc s1.2.1 e1
  obtain⟨idy,nbs,y1,rfl,y4⟩:=XR hfree hyc e2
  have kxl:nbx.isSome=true->base+x<H.length:=fun h=>keptx (x2 h)
  have hke:∀H' : Heap,eff idx nbx (Bc E ox base x H')=eff idx nbx (base+x):=fun H' =>by
   cases hnb:nbx with
   | none=>rfl
   | some b=>simp [Bc,x2 (by rw [hnb];rfl)]
  rw [hke] at c2 y4
  have hlen:(eff idx nbx (base+x) H).length=H.length:=Qg kxl
  have hl:base+m<=H.length:=by have:=(c2 (YA hyc)).1;rw [hlen] at this;exact this
  have hrx:∀i∈CY E s ox,i<H.length:=fun i hi=>Nat.lt_of_lt_of_le (seex hyc i hi) hl
  have g3:=y4 H (Bc E oy base y H) hlen.symm (PH (fun h=>⟨kxl h,nox (x2 h)⟩)).symm
  refine fin _ s2' ⟨F9 (notin y oy hy hwy) l2,fun _=>⟨hl,fun h=>(YU h hyc).elim⟩⟩ (fun hc=>by simp_all) g3 ⟨F9 (notin x ox hx hwx) l1,I8 hxc hwx⟩ (fun hc=>?_) ?_
  ·obtain⟨b,hb,hd⟩:=d1 hc
   have hlt:=keptx hc
   rw [List.getElem?_append_left (by rw [bump_length];exact hlt),Hl,hb]
   grind
  ·rw [x4 _ (Bc E ox base x (bump H idy++nbs)) (fun hc=>by simp [Bc,hc]) (Ws nbs (OJ _ _ _) (fun i hi=>by rw [bump_length];exact hrx i hi)),hke,hke]
   congr 2
   rw [Z0V nbs (fun i hi=>by rw [bump_length];exact hrx i (x1 i hi)) (fun h=>by rw [bump_length];exact kxl h)]
   congr 1
   have:=oM (Dn:=idx) (ids2:=idy) (nb1:=nbx) (nb2:=none) (k1:=base+x) (k2:=0) (H:=H) (fun h=>⟨kxl h,fun hin=>nox (x2 h) (y1 _ hin)⟩) (fun h=>by cases h) (fun _ h=>by cases h)
   exact this
 obtain⟨idx,nbx,x1,x2,rfl,x4⟩:=Qv hpure hwx hxc s1.2.1 e1
 obtain⟨idy,nby,y1,y2,rfl,y4⟩:=Qv hpure hwy hyc s2'.2.1 e2
 have kx:nbx.isSome=true->Bc E ox base x H=base+x:=fun h=>by simp [Bc,x2 h]
 have hxlt:nbx.isSome=true->Bc E ox base x H<H.length:=fun h=>by grind
 have hlen:=Qg (ids:=idx) hxlt
 have ky:nby.isSome=true->∀H',Bc E oy base y H' = base+y:=fun h H' =>by simp [Bc,y2 h]
 have simx:Bi (CY E s oy) (eff idx nbx (Bc E ox base x H) H) H:=(PH (fun h=>⟨hxlt h,by grind⟩)).symm
 have deady:BF E oy = .a->∃b,H[base+y]? = some b/\(b.live=false/\b.row=false):=fun hc=>
  (Z34 (fun h=>⟨hxlt h,by rw [kx h];omega⟩)).1 (d2 hc)
 have hylt:BF E oy = .a->base+y<H.length:=fun hc=>by
  grind
 have g3:=y4 H (Bc E oy base y H) (fun hc=>by simp [Bc,hc]) simx
 have hylt' : nby.isSome=true->Bc E oy base y H<H.length:=fun h=>by grind
 refine fin _ s2' ⟨F9 (notin y oy hy hwy) l2,I8 hyc hwy⟩ deady g3 ⟨F9 (notin x ox hx hwx) l1,I8 hxc hwx⟩ (fun hc=>(Z34 (fun h=>⟨hylt' h,by rw [ky h];omega⟩)).2 (d1 hc)) ?_
 have simy:Bi (CY E s ox) H (eff idy nby (Bc E oy base y H) H):=PH (fun h=>⟨hylt' h,by grind⟩)
 have g5:=x4 _ (Bc E ox base x (eff idy nby (Bc E oy base y H) H)) (fun hc=>by simp [Bc,hc]) simy
 rw [g5]
 have hk1:nbx.isSome=true->Bc E ox base x (eff idy nby (Bc E oy base y H) H)=base+x:=fun h=>by simp [Bc,x2 h]
 have hkx:eff idx nbx (Bc E ox base x (eff idy nby (Bc E oy base y H) H)) (eff idy nby (Bc E oy base y H) H)=eff idx nbx (Bc E ox base x H) (eff idy nby (Bc E oy base y H) H):=by
  cases nbx with
  | none=>rfl
  | some b=>rw [hk1 rfl,kx rfl]
 have hky:eff idy nby (Bc E oy base y (eff idx nbx (Bc E ox base x H) H)) (eff idx nbx (Bc E ox base x H) H)=eff idy nby (Bc E oy base y H) (eff idx nbx (Bc E ox base x H) H):=by
  cases nby with
  | none=>rfl
  | some b=>rw [ky rfl,ky rfl]
 rw [hkx,hky]
 congr 2
 exact oM (fun h=>⟨hxlt h,by grind⟩) (fun h=>⟨hylt' h,by grind⟩) (fun h1 h2=>by grind)
end
end Go.Proofs.YtlabamnhpgoekaaGreatDoor.Le
namespace Go.Proofs.YtlabamnhpgoekaaGreatDoor.Le
open Go.RowKit (Below)
theorem Zey (acc:List Nat) (j:Nat):∀(es:List Edge) (m:Nat),(es.foldl (fun m e=>if Region.binds .any e then m ||| (1 <<< e.on) ||| acc.getD e.on 0 else m) m).testBit j=true↔
  m.testBit j=true\/∃e∈es,Region.binds .any e=true/\(j=e.on\/(acc.getD e.on 0).testBit j=true):=by
 intro es
 induction es with
 | nil=>intro m;simp
 | cons e es ih=>
  intro m
  rw [List.foldl_cons,ih]
  by_cases hb:Region.binds .any e=true
  ·simp only [hb,if_true,Nat.testBit_or,Bool.or_eq_true,Nat.one_shiftLeft,Nat.testBit_two_pow,decide_eq_true_eq,List.mem_cons,exists_eq_or_imp,true_and]
   grind
  simp_all
theorem Zcw (acc:List Nat) (o:Oper) (j:Nat):(RJ acc o).testBit j=true↔∃e∈o.after,Region.binds .any e=true/\(j=e.on\/(acc.getD e.on 0).testBit j=true):=by
 unfold RJ
 rw [Zey]
 simp
theorem Z1f:∀(os:List Oper) (acc:List Nat) (i:Nat),i<acc.length->(Ec acc os)[i]? = acc[i]?:=by
 intro os
 induction os with
 | nil=>intro acc i hi;rfl
 | cons o os ih=>
  intro acc i hi
  simp only [Ec]
  grind
theorem Zen:∀(os:List Oper) (acc:List Nat) (i:Nat) (o:Oper),os[i]? = some o ->
  ∃acc',(Ec acc os)[acc.length+i]? = some (RJ acc' o)/\acc'.length=acc.length+i/\∀j,j<acc'.length->(Ec acc os)[j]? = acc'[j]?:=by
 intro os
 induction os with
 | nil=>intro acc i o h;simp at h
 | cons p os ih=>
  intro acc i o h
  cases i with
  | zero=>
   simp at h
   subst h
   refine⟨acc,?_,rfl,fun j hj=>?_⟩
   ·simp only [Ec]
    rw [Z1f _ _ _ (by simp)]
    simp
   ·simp only [Ec]
    rw [Z1f _ _ _ (by simp;omega),List.getElem?_append_left hj]
  | succ i=>
   simp at h
   obtain⟨acc',h1,h2,h3⟩:=ih (acc++[RJ acc p]) i o h
   refine⟨acc',?_,by rw [h2];simp;omega,h3⟩
   simp only [Ec]
   grind
section
variable {E:Env} {ops:Array Oper}
structure Z1L (E:Env) (ops:Array Oper):Prop where
 low:∀(i:Nat) (o:Oper),ops[i]? = some o->∀e∈o.after,Region.binds .any e=true->e.on<i
 bit:∀(i:Nat) (o:Oper),ops[i]? = some o->∀j,((Ec [] ops.toList).getD i 0).testBit j=true↔∃e∈o.after,Region.binds .any e=true/\(j=e.on\/((Ec [] ops.toList).getD e.on 0).testBit j=true)
 lt:∀(i j:Nat),i<ops.size->((Ec [] ops.toList).getD i 0).testBit j=true->j<i
 pass:∀(x y:Nat) (ox oy:Oper),ops[x]? = some ox->ops[y]? = some oy->x<y->((Ec [] ops.toList).getD y 0).testBit x=true\/(UY E ops ox oy||(IM E ops (Nc E ops) x ox oy||IM E ops (Nc E ops) y oy ox))=true
theorem Z9R (h:YE E ops=true):Z1L E ops:=by
 unfold YE at h
 simp only [List.all_eq_true,List.mem_range] at h
 have hlow:∀(i:Nat) (o:Oper),ops[i]? = some o->∀e∈o.after,Region.binds .any e=true->e.on<i:=by
  intro i o ho e he
  have:=h i (Array.getElem?_eq_some_iff.1 ho).1
  simp only [ho,Bool.and_eq_true,Array.all_eq_true_iff_forall_mem,Bool.or_eq_true,Bool.not_eq_true',decide_eq_true_eq] at this
  intro hb
  rcases this.1 e he with hh|hh
  ·rw [hb] at hh;cases hh
  ·exact hh
 have hbit:∀(i:Nat) (o:Oper),ops[i]? = some o->∀j,((Ec [] ops.toList).getD i 0).testBit j=true↔∃e∈o.after,Region.binds .any e=true/\(j=e.on\/((Ec [] ops.toList).getD e.on 0).testBit j=true):=by
  intro i o ho j
  obtain⟨acc',h1,h2,h3⟩:=Zen ops.toList [] i o (by simpa using ho)
  simp only [List.length_nil,Nat.zero_add] at h1 h2
  have hi:(Ec [] ops.toList).getD i 0=RJ acc' o:=by simp [List.getD,h1]
  rw [hi,Zcw]
  constructor
  ·grind
  ·grind
 refine⟨hlow,hbit,?_,?_⟩
 ·intro i
  induction i using Nat.strongRecOn with
  | _ i ih=>
   intro j hi hj
   have ho:ops[i]? = some ops[i]:=by simp [hi]
   grind
 grind
end
section
variable {call:CS} {E:Env} {ops:Array Oper} {ms:List Nat} {lt:List (Nat×(Nat⊕Nat))} {s0:List V} {base m:Nat}
theorem Zca {i:Nat} {r:St}:∀(M1 M2:List Nat) (st:St),(∀y∈M1,∀st st1 st2,GL call E ops ms lt s0 base m y st=some st1->GL call E ops ms lt s0 base m i st1=some st2 ->
      ∃st1',GL call E ops ms lt s0 base m i st=some st1' /\ GL call E ops ms lt s0 base m y st1' = some st2) ->
  J4 call E ops ms lt s0 base m (M1++i::M2) st=some r->∃st1,GL call E ops ms lt s0 base m i st=some st1/\J4 call E ops ms lt s0 base m (M1++M2) st1=some r:=by
 intro M1
 induction M1 with
 | nil=>
  intro M2 st _ h
  simp only [List.nil_append,J4] at h
  grind
 | cons y M1 ih=>
  intro M2 st hsw h
  simp only [List.cons_append,J4] at h
  cases h1:GL call E ops ms lt s0 base m y st with
  | none=>simp [h1] at h
  | some sa=>
   simp only [h1] at h
   obtain⟨sb,h2,h3⟩:=ih M2 sa (fun z hz=>hsw z (List.mem_cons_of_mem _ hz)) h
   obtain⟨sc,h4,h5⟩:=hsw y (by simp) st sa sb h1 h2
   exact⟨sc,h4,by simp only [List.cons_append,J4,h5];exact h3⟩
theorem Zgy {B:Nat} {w0:Start} {σ:Sg} {P:Program} {st st' : St} {a:Act} {w:World} (hE:BP E) (hP:E.P=P) (hcall:IV P E B w0 call) {i:Nat} (h:Dk E B w0 σ st a w) (hs:GL call E ops ms lt s0 base m i st=some st')
  {K:Act->World->Prop} {Q:Exit->Act->World->Prop} (hn:∀a' w' σ',Dk E B w0 σ' st' a' w' -> Ext σ w σ' w' -> K a' w'):wpOp P ops Q i K a w:=by
 have hat:∃k,EL st.H k=true/\Ic call E ops k i st=some st' :=by
  unfold GL at hs
  cases ho:ops[i]? with
  | none=>
   simp only [ho] at hs
   exact⟨st.H.length,UB _,by unfold Ic;simp only [ho];exact hs⟩
  | some o=>
   simp only [ho] at hs
   split at hs
   ·split at hs
    ·split at hs
     ·rename_i b hb
      split at hs
      ·cases hs
      ·rename_i hl
       exact⟨base+i,by unfold EL;simp only [hb];simpa using hl,hs⟩
     ·cases hs
    ·exact⟨st.H.length,UB _,hs⟩
   ·cases hs
 obtain⟨k,hk,hat⟩:=hat
 exact Z2o hE hP hcall hk h hat hn
theorem Zg4 {B:Nat} {w0:Start} {P:Program} {r:St} (hE:BP E) (hP:E.P=P) (hcall:IV P E B w0 call) (hpure:La E call) (hf:Z1L E ops) (hm:∀(i:Nat) (o:Oper),ops[i]? = some o->BF E o = .a->i<m)
  {Q:Exit->Act->World->Prop}:∀(fuel:Nat) (M:List Nat) (listed:Array Bool) (st:St) (σ:Sg) (a:Act) (w:World),M.length<=fuel->listed.size=ops.size ->
  (∀j,j∈M↔listed.getD j true=false)->M.Pairwise (· < ·)->(∀k j,listed.getD k false=true->((Ec [] ops.toList).getD k 0).testBit j=true->listed.getD j false=true) ->
  J4 call E ops (Ec [] ops.toList) (Nc E ops) s0 base m M st=some r->Dk E B w0 σ st a w->(∀a' w' σ',Dk E B w0 σ' r a' w' -> Ext σ w σ' w' -> Q .normal a' w')->wpAny P .any ops Q fuel listed a w:=by
 intro fuel
 induction fuel with
 | zero=>
  intro M listed st σ a w hl hsz hM hsort hdown hs hr hn
  have hnil:M=[]:=List.eq_nil_of_length_eq_zero (by omega)
  subst hnil
  simp only [J4,Option.some.injEq] at hs
  subst hs
  refine⟨?_,hn a w σ hr (Ext.refl σ w)⟩
  cases hrd:Region.ready .any ops listed with
  | nil=>rfl
  | cons i rest=>
   have hi:i∈Region.ready .any ops listed:=by rw [hrd];simp
   have:=(hM i).2 (mem_ready.1 hi).1
   cases this
 | succ fuel ih=>
  intro M listed st σ a w hl hsz hM hsort hdown hs hr hn
  have hlist:∀j,j<ops.size->j∉M->listed.getD j false=true:=by
   intro j hj hn
   have:¬listed.getD j true=false:=fun h=>hn ((hM j).2 h)
   have hjl:j<listed.size:=by omega
   simp [hjl] at this ⊢
   exact this
  refine⟨fun hready=>?_,fun i hi=>?_⟩
  ·
   cases M with
   | nil=>
    simp only [J4,Option.some.injEq] at hs
    subst hs
    exact hn a w σ hr (Ext.refl σ w)
   | cons i rest=>
    exfalso
    have hun:=(hM i).1 (by simp)
    have hilt:i<ops.size:=by
     rcases Nat.lt_or_ge i listed.size with h|h
     ·omega
     ·simp [Array.getElem?_eq_none h] at hun
    have ho:ops[i]? = some ops[i]:=by simp [hilt]
    have:i∈Region.ready .any ops listed:=mem_ready.2 ⟨hun,_,ho,fun e he hb=>by
     have hlt:=hf.low i _ ho e he hb
     refine hlist e.on (by omega) (fun hin=>?_)
     rcases List.mem_cons.1 hin with h|h
     ·omega
     ·have:=(List.pairwise_cons.1 hsort).1 _ h
      omega⟩
    grind
  ·obtain⟨hun,oi,hoi,hall⟩:=mem_ready.1 hi
   have hin:=(hM i).2 hun
   obtain⟨M1,M2,rfl⟩:=List.append_of_mem hin
   have hilt:i<ops.size:=(Array.getElem?_eq_some_iff.1 hoi).1
   have hM1:∀y∈M1,y<i:=fun y hy=>(List.pairwise_append.1 hsort).2.2 y hy i (by simp)
   have hmask:∀j,((Ec [] ops.toList).getD i 0).testBit j=true->listed.getD j false=true:=by
    intro j hj
    obtain⟨e,he,hb,hh⟩:=(hf.bit i oi hoi j).1 hj
    rcases hh with hh|hh
    ·grind
    ·grind
   have hunl:∀y,listed.getD y true=false->listed.getD y false=false:=by
    intro y hy
    rcases Nat.lt_or_ge y listed.size with h|h
    ·simp [h] at hy ⊢;exact hy
    ·simp [Array.getElem?_eq_none h] at hy
   obtain⟨st1,h1,h2⟩:=Zca M1 M2 st (fun y hy sa sb sc hsa hsb=>by
    have hyun:listed.getD y true=false:=(hM y).1 (by simp [hy])
    have hylt:y<ops.size:=by have:=hM1 y hy;omega
    have hoy:ops[y]? = some ops[y]:=by simp [hylt]
    have hbit:((Ec [] ops.toList).getD i 0).testBit y=false:=by
     cases hb:((Ec [] ops.toList).getD i 0).testBit y with
     | false=>rfl
     | true=>have:=hmask y hb;rw [hunl y hyun] at this;cases this
    have hbit' : ((Ec [] ops.toList).getD y 0).testBit i=false:=by
     cases hb:((Ec [] ops.toList).getD y 0).testBit i with
     | false=>rfl
     | true=>have:=hf.lt y i hylt hb;have:=hM1 y hy;omega
    have hp:=(hf.pass y i _ oi hoy hoi (hM1 y hy)).resolve_left (by rw [hbit];simp)
    exact Zcp hpure hm hoy hoi (by have:=hM1 y hy;omega) hp (fun x t h=>Ze6 h) hbit hbit' hsa hsb) hs
   refine Zgy hE hP hcall hr h1 (fun a1 w1 σ1 hr1 he1=>?_)
   have hget:∀j d,(listed.setIfInBounds i true).getD j d=if j=i then true else listed.getD j d:=by
    intro j d
    by_cases hji:j=i
    ·subst hji
     have:j<listed.size:=by omega
     simp [this]
    ·rw [if_neg hji,getD_set_ne d (fun e=>hji e.symm)]
   have hnot:i∉M1++M2:=by
    intro h
    rcases List.mem_append.1 h with h|h
    ·have:=hM1 i h;omega
    ·have:=(List.pairwise_cons.1 (List.pairwise_append.1 hsort).2.1).1 i h;omega
   refine ih (M1++M2) (listed.setIfInBounds i true) st1 σ1 a1 w1 (by simp at hl ⊢;omega) (by simpa using hsz) (fun j=>?_) ?_ (fun k j hk hj=>?_) h2 hr1 (fun a' w' σ' hr' he' =>hn a' w' σ' hr' (he1.trans he'))
   ·rw [hget]
    by_cases hji:j=i
    ·grind
    ·rw [if_neg hji,<- hM j]
     simp [hji]
   ·grind
   ·rw [hget] at hk ⊢
    by_cases hji:j=i
    ·rw [if_pos hji]
    ·rw [if_neg hji]
     by_cases hki:k=i
     ·grind
     grind
theorem Inv.reserve {B:Nat} {w0:Start} {σ:Sg} {H:Heap} {w:World} (h:Inv B w0 σ H w) (n:Nat):Inv B w0 σ (H++List.replicate n NQ) w:=by
 have hold:∀(i:Nat) (b:Box),(H++List.replicate n NQ)[i]? = some b->b.live=true->H[i]? = some b:=by
  intro i b hb hl
  rw [List.getElem?_append] at hb
  split at hb
  ·exact hb
  ·have:=(List.mem_replicate.1 (List.mem_of_getElem? hb)).2
   subst this
   cases hl
 refine⟨h.below,h.size,fun id L hL=>?_,fun i b hb hl=>h.boxes i b (hold i b hb hl) hl,fun i j b1 b2 L1 L2 g h1 h2 l1 l2=>h.apart i j b1 b2 L1 L2 g (hold i b1 h1 l1) (hold j b2 h2 l2) l1 l2,h.cells,
  fun b c hc i bx L hb hl=>h.floor b c hc i bx L (hold i bx hb hl) hl,fun i b hb hl=>h.low i b (hold i b hb hl) hl,h.old,h.kept⟩
 obtain⟨b,h1,h2⟩:=h.dom id L hL
 grind
theorem Z3A {B:Nat} {w0:Start} {σ:Sg} {P:Program} {st st' : St} {a:Act} {w:World} (hE:BP E) (hP:E.P=P) (hmix:P.follows .mixedOrders=true) (hcall:IV P E B w0 call) (hpure:La E call) (hd:YE E ops=true)
  (h:Dk E B w0 σ st a w) (hs:Po call E ops st=some st') {id:Nat} {Q:Exit->Act->World->Prop} (hn:∀a' w' σ',Dk E B w0 σ' st' a' w' -> Ext σ w σ' w' -> Q .normal a' w'):(Code.region id ops true).wp P Q a w:=by
 have hg:w.grownBy { w with drawn:=w.drawn+1 } none:=⟨rfl,rfl,rfl,Nat.le_refl _,fun _ _ _=>rfl⟩
 obtain⟨hI,hEx⟩:=h.inv.grown hg
 refine wp_region_any hmix ?_
 unfold Po at hs
 refine Zg4 hE hP hcall hpure (Z9R hd) (m:=if ops.any (fun o=>decide (BF E o = .a)) then ops.size else 0) (fun i o ho hc=>?_) ops.size (List.range ops.size) _ _ σ a _ (by simp) (by simp) (fun j=>?_) List.pairwise_lt_range (fun k j hk=>?_) hs
  ⟨hI.reserve _,h.Ci.ext hEx,h.slots.ext hEx,h.calm⟩ (fun a' w' σ' hr he=>hn a' w' σ' hr (hEx.trans he))
 ·grind
 ·rw [List.mem_range]
  rcases Nat.lt_or_ge j ops.size with hj|hj
  ·simp [hj]
  simp_all
 ·exfalso
  rcases Nat.lt_or_ge k ops.size with hj|hj
  ·simp [hj] at hk
  ·simp [hj] at hk
end
end Go.Proofs.YtlabamnhpgoekaaGreatDoor.Le
namespace Go.Proofs.YtlabamnhpgoekaaGreatDoor.Le
open Go.RowKit (Below)
def Ex.out:Ex->Exit
 | .normal=>.normal
 | .ret=>.ret
 | .exit id=>.exit id
def qH (P:Program) (E:Env) (B:Nat) (w0:Start) (f:FuncId) (lp:Code->St->Option (Ex×St)):Prop:=
 ∀b st ex st',DD E f b=true->lp b st=some (ex,st')->∀(Q:Exit->Act->World->Prop) σ a w,Dk E B w0 σ st a w ->
  (∀a' w' σ',Dk E B w0 σ' st' a' w' -> Ext σ w σ' w' -> Q ex.out a' w')->(Code.loop b).wp P Q a w
section
variable {P:Program} {E:Env} {B:Nat} {w0:Start} {call:CS} {f:FuncId}
theorem PN (hE:BP E) (hP:E.P=P) (hcall:IV P E B w0 call) (hpure:La E call) {lp:Code->St->Option (Ex×St)} (hlp:qH P E B w0 f lp) :
  ∀(c:Code) (st:St) (ex:Ex) (st' : St),DD E f c=true->Em call lp E f c st=some (ex,st')->∀(Q:Exit->Act->World->Prop) (σ:Sg) (a:Act) (w:World),Dk E B w0 σ st a w ->
   (∀a' w' σ',Dk E B w0 σ' st' a' w' -> Ext σ w σ' w' -> Q ex.out a' w')->c.wp P Q a w:=by
 intro c
 induction c with
 | skip=>
  intro st ex st' hc h Q σ a w hr hn
  simp only [Em,Option.some.injEq,Prod.mk.injEq] at h
  obtain⟨rfl,rfl⟩:=h
  exact wp_skip (hn a w σ hr (Ext.refl σ w))
 | region id ops draw=>
  intro st ex st' hc h Q σ a w hr hn
  cases draw with
  | false=>
   simp only [Em] at h
   cases hs:Js call E ops (List.range ops.size) st with
   | none=>simp [hs] at h
   | some r=>
    simp only [hs,Option.map_some,Option.some.injEq,Prod.mk.injEq] at h
    obtain⟨rfl,rfl⟩:=h
    exact wp_region (Z3y hE hP hcall _ st σ a w hr hs hn)
  | true=>
   simp only [Em] at h
   split at h
   ·rename_i hcalm
    cases hs:Po call E ops st with
    | none=>simp [hs] at h
    | some r=>
     simp only [hs,Option.map_some,Option.some.injEq,Prod.mk.injEq] at h
     obtain⟨rfl,rfl⟩:=h
     refine Z3A hE hP (by rw [<- hP];exact hE.mix) hcall hpure ?_ hr hs hn
     simpa [DD,hcalm] using hc
   ·cases h
 | seq x y ihx ihy=>
  intro st ex st' hc h Q σ a w hr hn
  simp only [DD,Bool.and_eq_true] at hc
  simp only [Em] at h
  split at h
  ·rename_i st1 h1
   exact wp_seq (ihx st .normal st1 hc.1 h1 _ σ a w hr (fun a1 w1 σ1 hr1 he1=>ihy st1 ex st' hc.2 h Q σ1 a1 w1 hr1 (fun a' w' σ' hr' he' =>hn a' w' σ' hr' (he1.trans he'))))
  ·rename_i hne
   refine wp_seq (ihx st ex st' hc.1 h _ σ a w hr (fun a1 w1 σ1 hr1 he1=>?_))
   have:=hn a1 w1 σ1 hr1 he1
   cases ex with
   | normal=>exact absurd h (hne _)
   | ret=>exact this
   | exit id=>exact this
 | cond c x y ihx ihy=>
  intro st ex st' hc h Q σ a w hr hn
  simp only [DD,Bool.and_eq_true] at hc
  simp only [Em] at h
  split at h
  ·rename_i t ht
   have hv:=D8 (a:=a) hr.Ci hr.slots c
   rw [ht] at hv
   have hb:a.eval c = .bool t:=by generalize a.eval c=v at hv;cases hv;rfl
   refine wp_cond hb ?_
   grind
  ·cases h
 | block id b ih=>
  intro st ex st' hc h Q σ a w hr hn
  simp only [DD] at hc
  simp only [Em] at h
  split at h
  ·rename_i i st1 h1
   refine wp_block (ih st (.exit i) st1 hc h1 _ σ a w hr (fun a1 w1 σ1 hr1 he1=>?_))
   simp only [Ex.out,Exit.inBlock]
   split at h
   ·rename_i hi
    cases h
    rw [if_pos hi]
    exact hn a1 w1 σ1 hr1 he1
   ·rename_i hi
    cases h
    rw [if_neg hi]
    exact hn a1 w1 σ1 hr1 he1
  ·rename_i hne
   refine wp_block (ih st ex st' hc h _ σ a w hr (fun a1 w1 σ1 hr1 he1=>?_))
   have:=hn a1 w1 σ1 hr1 he1
   cases ex with
   | normal=>exact this
   | ret=>exact this
   | exit i=>simp_all
 | loop b ih=>
  intro st ex st' hc h Q σ a w hr hn
  exact hlp b st ex st' hc h Q σ a w hr hn
 | scope b ih=>
  intro st ex st' hc h Q σ a w hr hn
  simp only [DD] at hc
  simp only [Em] at h
  refine wp_scope_straight (ih st ex st' hc h _ σ a w hr (fun a1 w1 σ1 hr1 he1=>?_))
  have:=hn a1 w1 σ1 hr1 he1
  cases ex with
  | normal=>exact this
  | ret=>exact this
  | exit i=>exact this
 | label l=>
  intro st ex st' hc h Q σ a w hr hn
  simp only [Em,Option.some.injEq,Prod.mk.injEq] at h
  obtain⟨rfl,rfl⟩:=h
  exact wp_label (hn a w σ hr (Ext.refl σ w))
 | exit id=>
  intro st ex st' hc h Q σ a w hr hn
  simp only [Em,Option.some.injEq,Prod.mk.injEq] at h
  obtain⟨rfl,rfl⟩:=h
  exact wp_exit (hn a w σ hr (Ext.refl σ w))
 | ret=>
  intro st ex st' hc h Q σ a w hr hn
  simp only [Em,Option.some.injEq,Prod.mk.injEq] at h
  obtain⟨rfl,rfl⟩:=h
  exact wp_ret (hn a w σ hr (Ext.refl σ w))
 | _=>
  intro st ex st' hc h
  cases h
theorem pW (hE:BP E) (hP:E.P=P) (hcall:IV P E B w0 call) (hpure:La E call):∀n,qH P E B w0 f (Pj call E f n):=by
 have key:∀n,∀b st ex st',DD E f b=true->Pj call E f n b st=some (ex,st')->∀(Q:Exit->Act->World->Prop) σ a w,Dk E B w0 σ st a w ->
  (∀a' w' σ',Dk E B w0 σ' st' a' w' -> Ext σ w σ' w' -> Q ex.out a' w')->Code.rounds P b Q n a w:=by
  intro n
  induction n with
  | zero=>intro b st ex st' hc h;cases h
  | succ n ih=>
   intro b st ex st' hc h Q σ a w hr hn
   rw [rounds_succ]
   have hlp:qH P E B w0 f (Pj call E f n):=fun b st ex st' hc h Q σ a w hr hn=>wp_loop_rounds n (ih b st ex st' hc h Q σ a w hr hn)
   simp only [Pj] at h
   split at h
   ·rename_i st1 h1
    exact PN hE hP hcall hpure hlp b st .normal st1 hc h1 _ σ a w hr (fun a1 w1 σ1 hr1 he1=>ih b st1 ex st' hc h Q σ1 a1 w1 hr1 (fun a' w' σ' hr' he' =>hn a' w' σ' hr' (he1.trans he')))
   ·rename_i hne
    refine PN hE hP hcall hpure hlp b st ex st' hc h _ σ a w hr (fun a1 w1 σ1 hr1 he1=>?_)
    have:=hn a1 w1 σ1 hr1 he1
    cases ex with
    | normal=>exact absurd h (hne _)
    | ret=>exact this
    | exit id=>exact this
 exact fun n b st ex st' hc h Q σ a w hr hn=>wp_loop_rounds n (key n b st ex st' hc h Q σ a w hr hn)
theorem Zd6 {σ:Sg} {H:Heap} {w:World} (hE:BP E) (hP:E.P=P) (hI:Inv B w0 σ H w) {t:TypeId} {x r:V} {v:Value} (hx:AL σ w [x] [v]) (h:Jf E H t x=some r) :
  ∃u,(do loadVar t (<- asAddr v):Sem Value).run P w = .ok u w/\AL σ w [r] [u]:=by
 obtain⟨u,hu,hr⟩:=Z3n (P:=P) hE hP hI hx h
 refine⟨u,?_,hr⟩
 have hv:∃A,v = .pointer (some A):=by
  unfold Jf at h
  split at h
  ·cases h
  ·split at h
   ·cases hx;exact⟨_,rfl⟩
   ·cases hx with
    | ptr g _ _ _ h4 _=>exact⟨_,h4⟩
   ·cases h
 obtain⟨A,rfl⟩:=hv
 rw [<- hu]
 simp [Instr.loadAt,asAddr,Instr.sureAddr]
theorem Zk3 {σ:Sg} {H:Heap} {w:World} {s:List V} {tmps:Array Value} (hE:BP E) (hP:E.P=P) (hI:Inv B w0 σ H w) (hs:AL σ w s tmps.toList):∀(rs:List ResultVar) (xs:List V),rs.mapM (resD E H s)=some xs ->
  ∃vs,(rs.mapM (fun(r:ResultVar)=>(match r with | .tmp t=>pure (tmps.getD t undef) | .cell a t=>do loadVar t (<- asAddr (tmps.getD a undef)):Sem Value))).run P w = .ok vs w/\AL σ w xs vs:=by
 have hget:∀t,AL σ w [s.getD t .und] [tmps.getD t undef]:=fun t=>by
  have:=Z1K hs t
  simpa using this
 intro rs
 induction rs with
 | nil=>
  intro xs h
  simp at h
  subst h
  exact⟨[],rfl,.nil⟩
 | cons r rs ih=>
  intro xs h
  rw [List.mapM_cons] at h
  cases hr:resD E H s r with
  | none=>simp [hr] at h
  | some x=>
   cases hrs:rs.mapM (resD E H s) with
   | none=>simp [hr,hrs] at h
   | some xs' =>
    simp [hr,hrs] at h
    subst h
    obtain⟨vs,hv,hx⟩:=ih xs' hrs
    have h1:∃u,((match r with | .tmp t=>pure (tmps.getD t undef) | .cell a t=>do loadVar t (<- asAddr (tmps.getD a undef)):Sem Value)).run P w = .ok u w/\AL σ w [x] [u]:=by
     cases r with
     | tmp t=>
      simp only [resD,Option.some.injEq] at hr
      subst hr
      simp_all
     | cell a t=>exact Zd6 hE hP hI (hget a) hr
    obtain⟨u,hu,hur⟩:=h1
    refine⟨u::vs,?_,AL.ED.2 ⟨hur,hx⟩⟩
    simp_all
theorem Tn {σ:Sg} {H:Heap} {w:World} {s:List V} {tmps:Array Value} (hE:BP E) (hP:E.P=P) (hI:Inv B w0 σ H w) (hs:AL σ w s tmps.toList) {fn:Func} {x:V} (h:JD E H s fn.results.toList=some x) :
  ∃u,(results fn tmps).run P w = .ok u w/\AL σ w [x] [u]:=by
 unfold JD at h
 cases hm:fn.results.toList.mapM (resD E H s) with
 | none=>simp [hm] at h
 | some xs=>
  obtain⟨vs,hv,hr⟩:=Zk3 (P:=P) hE hP hI hs _ xs hm
  have hrun:(results fn tmps).run P w = .ok (if h:vs.toArray.size=1 then vs.toArray[0] else .tuple vs.toArray) w:=by
   unfold results
   rw [Sem.run_bind]
   have hm2:(fn.results.mapM (fun(r:ResultVar)=>(match r with | .tmp t=>pure (tmps.getD t undef) | .cell a t=>do loadVar t (<- asAddr (tmps.getD a undef)):Sem Value))).run P w = .ok vs.toArray w:=by
    rw [Array.mapM_eq_mapM_toList,map_eq_pure_bind,Sem.run_bind,hv,Result.andThen_ok]
    rfl
   have:=congrArg (fun r=>Result.andThen r fun(vs:Array Value) (w' : World)=>(pure (if h:vs.size=1 then vs[0] else .tuple vs):Sem Value).run P w') hm2
   exact this
  refine⟨_,hrun,?_⟩
  rw [hm] at h
  have hlen:=hr.length
  split at h
  ·rename_i v hh
   cases hh
   simp only [Option.some.injEq] at h
   subst h
   obtain⟨u,vs',rfl,h1,h2⟩:=hr.Cf
   simp_all
  ·rename_i ys hne hh
   cases hh
   simp only [Option.some.injEq] at h
   subst h
   have:¬vs.toArray.size=1:=by
    intro hh
    simp at hh
    rw [<- hlen] at hh
    obtain⟨y,rfl⟩:=List.length_eq_one_iff.1 hh
    exact hne y rfl
   rw [dif_neg this]
   exact .Aw hr .nil
  simp_all
end
end Go.Proofs.YtlabamnhpgoekaaGreatDoor.Le
namespace Go.Proofs.YtlabamnhpgoekaaGreatDoor.Le
open Go.RowKit (Below)
def bare (fz:Nat->Nat->Prop):Sg:=⟨fun _=>none,fz⟩
theorem Lies.bare {σ σ' : Sg} {w w' : World} {b o:Nat} {us:List Value} (h:Lies σ w b o us) (hfz:∀b c,σ.fz b c->σ'.fz b c/\w'.cell? ⟨b,c,none⟩=w.cell? ⟨b,c,none⟩):Lies σ' w' b o us:=fun j u hu=>by
 obtain⟨h1,h2⟩:=h j u hu
 simp_all
theorem AL.bare {σ σ' : Sg} {w w' : World} {xs:List V} {vs:List Value} (h:AL σ w xs vs) (hfz:∀b c,σ.fz b c->σ'.fz b c/\w'.cell? ⟨b,c,none⟩=w.cell? ⟨b,c,none⟩) (hmp:DF w w') :
  BJ xs=true->AL σ' w' xs vs:=by
 induction h with
 | nil=>intro _;exact .nil
 | und u _ ih=>intro hn;simp [BJ] at hn;exact .und u (ih hn.2)
 | no _ ih=>intro hn;simp [BJ] at hn;exact .no (ih hn.2)
 | lit hl _ ih=>intro hn;simp [BJ] at hn;exact .lit hl (ih hn.2)
 | agg _ ho _ ih1 ih2=>intro hn;simp [BJ,BQ] at hn;exact .agg (ih1 hn.1) ho (ih2 hn.2)
 | Aw _ _ ih1 ih2=>intro hn;simp [BJ,BQ] at hn;exact .Aw (ih1 hn.1) (ih2 hn.2)
 | Dj _ ih=>intro hn;simp [BJ] at hn;exact .Dj (ih hn.2)
 | Eg _ ih=>intro hn;simp [BJ] at hn;exact .Eg (ih hn.2)
 | EG a _ ih=>intro hn;simp [BJ] at hn;exact .EG a (ih hn.2)
 | Es a _ ih=>intro hn;simp [BJ] at hn;exact .Es a (ih hn.2)
 | sl b o c e' _ h0 h1 h2 h3 h4 h5 _ ih1 ih2=>intro hn;simp [BJ,BQ] at hn;exact .sl b o c e' (ih1 hn.1) h0 h1 h2 h3 h4 (h5.bare hfz) (ih2 hn.2)
 | BR b o e' _ h0 h1 h2 h3 h4 _ ih1 ih2=>intro hn;simp [BJ,BQ] at hn;exact .BR b o e' (ih1 hn.1) h0 h1 h2 h3 (h4.bare hfz) (ih2 hn.2)
 | Az h1 h2 h3 h4 _ ih=>intro hn;simp [BJ,BQ] at hn
 | ptr g h1 h2 h3 h4 _ ih=>intro hn;simp [BJ,BQ] at hn
 | BK b o e' i off _ h0 h1 h2 h3 _ ih1 ih2=>intro hn;simp [BJ,BQ] at hn;exact .BK b o e' i off (ih1 hn.1) h0 h1 h2 (h3.bare hfz) (ih2 hn.2)
 | fn _ _ _ ih1 ih2 ih3=>intro hn;simp [BJ,BQ] at hn;exact .fn (ih1 hn.1.1) (ih2 hn.1.2) (ih3 hn.2)
 | FD _ _ ih1 ih2=>intro hn;simp [BJ,BQ] at hn;exact .FD (ih1 (by simp [BJ,hn.1])) (ih2 hn.2)
 | FI g es c _ h1 h2 _ ih1 ih2=>intro hn;simp [BJ,BQ] at hn;exact .FI g es c (ih1 hn.1) (hmp _ _ _ h1) h2 (ih2 hn.2)
theorem CW.bare {E:Env} {σ σ' : Sg} {w w' : World} (h:CW E σ w) (hfz:∀b c,σ.fz b c->σ'.fz b c/\w'.cell? ⟨b,c,none⟩=w.cell? ⟨b,c,none⟩) (hmp:DF w w'):CW E σ' w' :=by
 intro g r hg
 have hr:=h g r hg
 generalize hv:Value.pointer (some ⟨g,0,none⟩)=v at hr ⊢
 cases hr with
 | BK b o e' i off k0 k1 k2 k3 k4 _=>exact .BK b o _ _ _ (k0.bare hfz hmp (MZ k1)) k1 k2 k3 (k4.bare hfz) .nil
theorem mG (ρ:Nat->Nat) (xs:List V):Eh ρ xs=xs.map (Du ρ):=by
 induction xs with
 | nil=>rfl
 | cons x xs ih=>simp [Eh,ih]
theorem iV (ρ:Nat->Nat) (xs:List V):(Eh ρ xs).length=xs.length:=by rw [mG];simp
theorem Z3D (ρ:Nat->Nat) (x:V):okV (Du ρ x)=okV x:=by cases x<;>simp [Du,okV]
theorem kU {σ σ' : Sg} {w w' : World} {ρ:Nat->Nat} {xs:List V} {vs:List Value} (h:AL σ w xs vs) (hfz:∀b c,σ.fz b c->σ'.fz b c/\w'.cell? ⟨b,c,none⟩=w.cell? ⟨b,c,none⟩) (hmp:DF w w') :
  (∀id∈CJ xs,σ'.box (ρ id)=σ.box id)->AL σ' w' (Eh ρ xs) vs:=by
 induction h with
 | nil=>intro _;exact .nil
 | und u _ ih=>intro hn;exact .und u (ih fun id h=>hn id (by simp [CJ,h]))
 | no _ ih=>intro hn;exact .no (ih fun id h=>hn id (by simp [CJ,h]))
 | lit hl _ ih=>intro hn;exact .lit hl (ih fun id h=>hn id (by simp [CJ,h]))
 | agg _ ho _ ih1 ih2=>intro hn;exact .agg (ih1 fun id h=>hn id (by simp [CJ,DU,h])) ho (ih2 fun id h=>hn id (by simp [CJ,h]))
 | Aw _ _ ih1 ih2=>intro hn;exact .Aw (ih1 fun id h=>hn id (by simp [CJ,DU,h])) (ih2 fun id h=>hn id (by simp [CJ,h]))
 | Dj _ ih=>intro hn;exact .Dj (ih fun id h=>hn id (by simp [CJ,h]))
 | Eg _ ih=>intro hn;exact .Eg (ih fun id h=>hn id (by simp [CJ,h]))
 | EG a _ ih=>intro hn;exact .EG a (ih fun id h=>hn id (by simp [CJ,h]))
 | Es a _ ih=>intro hn;exact .Es a (ih fun id h=>hn id (by simp [CJ,h]))
 | sl b o c e' h h0 h1 h2 h3 h4 h5 _ _ ih2=>intro hn;exact .sl b o c e' (h.bare hfz hmp (MZ h0)) h0 h1 h2 h3 h4 (h5.bare hfz) (ih2 fun id h=>hn id (by simp [CJ,h]))
 | BR b o e' h h0 h1 h2 h3 h4 _ _ ih2=>intro hn;exact .BR b o e' (h.bare hfz hmp (MZ h0)) h0 h1 h2 h3 (h4.bare hfz) (ih2 fun id h=>hn id (by simp [CJ,h]))
 | Az h1 h2 h3 h4 _ ih=>intro hn;exact .Az ((hn _ (by simp [CJ,DU])).trans h1) h2 h3 h4 (ih fun id h=>hn id (by simp [CJ,h]))
 | ptr g h1 h2 h3 h4 _ ih=>intro hn;exact .ptr g ((hn _ (by simp [CJ,DU])).trans h1) h2 h3 h4 (ih fun id h=>hn id (by simp [CJ,h]))
 | BK b o e' i off h h0 h1 h2 h3 _ _ ih2=>intro hn;exact .BK b o e' i off (h.bare hfz hmp (MZ h0)) h0 h1 h2 (h3.bare hfz) (ih2 fun id h=>hn id (by simp [CJ,h]))
 | fn _ _ _ ih1 ih2 ih3=>intro hn;exact .fn (ih1 fun id h=>hn id (by simp [CJ,DU,h])) (ih2 fun id h=>hn id (by simp [CJ,DU,h])) (ih3 fun id h=>hn id (by simp [CJ,h]))
 | FD _ _ ih1 ih2=>intro hn;exact .FD (ih1 fun id h=>hn id (by simp [CJ,DU] at h ⊢;simp [h])) (ih2 fun id h=>hn id (by simp [CJ,h]))
 | FI g es c _ h1 h2 _ ih1 ih2=>intro hn;exact .FI g es c (ih1 fun id h=>hn id (by simp [CJ,DU,h])) (hmp _ _ _ h1) h2 (ih2 fun id h=>hn id (by simp [CJ,h]))
theorem Z2c {σ σ' : Sg} {w w' : World} {ρ:Nat->Nat} {x:V} {v:Value} (h:AL σ w [x] [v]) (hfz:∀b c,σ.fz b c->σ'.fz b c/\w'.cell? ⟨b,c,none⟩=w.cell? ⟨b,c,none⟩) (hmp:DF w w')
  (hn:∀id∈DU x,σ'.box (ρ id)=σ.box id):AL σ' w' [Du ρ x] [v]:=kU h hfz hmp (by simpa [CJ] using hn)
structure Ej (H H1:Heap):Prop where
 len:H.length<=H1.length
 at_:∀(id:Nat) (b:Box),H[id]? = some b->∃b',H1[id]? = some b' /\ b'.live=b.live/\b'.row=b.row/\b'.xs=b.xs
theorem Ej.refl (H:Heap):Ej H H:=⟨Nat.le_refl _,fun id b h=>⟨b,h,rfl,rfl,rfl⟩⟩
theorem Ej.trans {A B C:Heap} (h:Ej A B) (k:Ej B C):Ej A C:=
 ⟨Nat.le_trans h.len k.len,fun id b hb=>by
  obtain⟨b1,h1,h2,h3,h4⟩:=h.at_ id b hb
  obtain⟨b2,k1,k2,k3,k4⟩:=k.at_ id b1 h1
  simp_all⟩
theorem Ej.bump (H:Heap) (ids:List Nat):Ej H (bump H ids):=
 ⟨by rw [bump_length];exact Nat.le_refl _,fun id b hb=>⟨_,by rw [Hl,hb];rfl,by split<;>rfl,by split<;>rfl,by split<;>rfl⟩⟩
theorem Ej.push (H:Heap) (b:Box):Ej H (H++[b]):=
 ⟨by simp,fun id b' hb=>⟨b',by grind,rfl,rfl,rfl⟩⟩
section
variable {B:Nat} {w0:Start} {σ:Sg} {H H1:Heap} {w:World}
theorem Z2U (h:Inv B w0 σ H w) {f:Fk} {x y:V} {v:Value} (hr:AL σ w [x] [v]) (hp:EW f H x=some (y,H1)):Ej H H1/\∃σ',Inv B w0 σ' H1 w/\Ext σ w σ' w/\AL σ' w [y] [v]:=by
 have mk:∀(e:TypeId) (sz:Nat),∃σ',Inv B w0 σ' (H++[BH true false e sz []]) w/\Ext σ w σ' w/\AL σ' w [.Az H.length 0 0 0] [.slice none 0 0]:=by
  intro e sz
  obtain⟨σ',h1,h2,h3⟩:=KQ (e:=e) (AZ:=sz) (v' :=.slice none 0 0) h (UB H) (grownBy_refl w none) (xs:=[]) (us:=[]) .nil (by simp) (by simp) (by simp [flat]) ⟨by simp [flat],.inl ⟨rfl,rfl⟩⟩ (by simp [Value.ownBlock]) false (by simp)
  exact⟨σ',by rw [Zft] at h1;exact h1,h2,h3⟩
 cases f with
 | s e sz=>
  simp only [EW] at hp
  cases hf:Ee H x with
  | none=>simp [hf] at hp
  | some y0=>
   simp only [hf,Option.map_some,Option.some.injEq,Prod.mk.injEq] at hp
   obtain⟨rfl,rfl⟩:=hp
   obtain⟨h1,h2⟩:=h.freeze (Dn x)
   exact⟨Ej.bump _ _,_,h1,h2,iZ sz (XN h hr hf (Dn x) (fun i hi=>hi))⟩
 | own e sz=>
  simp only [EW] at hp
  unfold Rt at hp
  split at hp
  ·simp only [Option.some.injEq,Prod.mk.injEq] at hp
   obtain⟨rfl,rfl⟩:=hp
   cases hr with
   | Dj _=>exact⟨Ej.push _ _,mk e sz⟩
  ·simp only [Option.some.injEq,Prod.mk.injEq] at hp
   obtain⟨rfl,rfl⟩:=hp
   cases hr with
   | Eg _=>exact⟨Ej.push _ _,mk e sz⟩
  ·split at hp
   ·simp only [Option.some.injEq,Prod.mk.injEq] at hp
    obtain⟨rfl,rfl⟩:=hp
    exact⟨Ej.refl _,σ,h,Ext.refl _ _,hr⟩
   ·cases hp
  ·cases hp
 | keep=>
  simp only [EW,Option.some.injEq,Prod.mk.injEq] at hp
  obtain⟨rfl,rfl⟩:=hp
  exact⟨Ej.refl _,σ,h,Ext.refl _ _,hr⟩
 | drop=>
  simp only [EW,Option.some.injEq,Prod.mk.injEq] at hp
  obtain⟨rfl,rfl⟩:=hp
  exact⟨Ej.refl _,σ,h,Ext.refl _ _,.und _ .nil⟩
theorem ZfK:∀{fl:List Fk} {H:Heap} {σ:Sg} {xs ys:List V} {vs:List Value} {H1:Heap},Inv B w0 σ H w->AL σ w xs vs->ER fl H xs=some (ys,H1)->Ej H H1/\∃σ',Inv B w0 σ' H1 w/\Ext σ w σ' w/\AL σ' w ys vs:=by
 intro fl
 induction fl with
 | nil=>
  intro H σ xs ys vs H1 h hr hp
  cases xs with
  | nil=>
   simp only [ER,Option.some.injEq,Prod.mk.injEq] at hp
   obtain⟨rfl,rfl⟩:=hp
   exact⟨Ej.refl _,σ,h,Ext.refl _ _,hr⟩
  | cons=>simp [ER] at hp
 | cons f fl ih=>
  intro H σ xs ys vs H1 h hr hp
  cases xs with
  | nil=>simp [ER] at hp
  | cons x xs=>
   obtain⟨v,vs',rfl,hr1,hr2⟩:=hr.Cf
   simp only [ER] at hp
   cases h1:EW f H x with
   | none=>simp [h1] at hp
   | some r=>
    obtain⟨y,Ha⟩:=r
    simp only [h1] at hp
    cases h2:ER fl Ha xs with
    | none=>simp [h2] at hp
    | some r=>
     obtain⟨ys',Hb⟩:=r
     simp only [h2,Option.some.injEq,Prod.mk.injEq] at hp
     obtain⟨rfl,rfl⟩:=hp
     obtain⟨k1,σ1,i1,e1,r1⟩:=Z2U h hr1 h1
     obtain⟨k2,σ2,i2,e2,r2⟩:=ih i1 (hr2.ext e1) h2
     exact⟨k1.trans k2,σ2,i2,e1.trans e2,AL.ED.2 ⟨r1.ext e2,r2⟩⟩
theorem Z2x (h:Inv B w0 σ H w) {fl:List Fk} {x y:V} {v:Value} (hr:AL σ w [x] [v]) (hp:Gg fl H x=some (y,H1)):Ej H H1/\∃σ',Inv B w0 σ' H1 w/\Ext σ w σ' w/\AL σ' w [y] [v]:=by
 unfold Gg at hp
 split at hp
 ·rename_i cs
  cases hl:ER fl H cs with
  | none=>simp [hl] at hp
  | some r=>
   obtain⟨ys,Ha⟩:=r
   simp only [hl,Option.map_some,Option.some.injEq,Prod.mk.injEq] at hp
   obtain⟨rfl,rfl⟩:=hp
   cases hr with
   | agg h1 ho _=>
    obtain⟨k1,σ1,i1,e1,r1⟩:=ZfK h h1 hl
    exact⟨k1,σ1,i1,e1,.agg r1 ho .nil⟩
 ·split at hp
  ·exact Z2U h hr hp
  ·cases hp
theorem ZfH:∀{fl:List (List Fk)} {H:Heap} {σ:Sg} {xs ys:List V} {vs:List Value} {H1:Heap},Inv B w0 σ H w->AL σ w xs vs->EU fl H xs=some (ys,H1)->Ej H H1/\∃σ',Inv B w0 σ' H1 w/\Ext σ w σ' w/\AL σ' w ys vs:=by
 intro fl
 induction fl with
 | nil=>
  intro H σ xs ys vs H1 h hr hp
  cases xs with
  | nil=>
   simp only [EU,Option.some.injEq,Prod.mk.injEq] at hp
   obtain⟨rfl,rfl⟩:=hp
   exact⟨Ej.refl _,σ,h,Ext.refl _ _,hr⟩
  | cons=>simp [EU] at hp
 | cons f fl ih=>
  intro H σ xs ys vs H1 h hr hp
  cases xs with
  | nil=>simp [EU] at hp
  | cons x xs=>
   obtain⟨v,vs',rfl,hr1,hr2⟩:=hr.Cf
   simp only [EU] at hp
   cases h1:Gg f H x with
   | none=>simp [h1] at hp
   | some r=>
    obtain⟨y,Ha⟩:=r
    simp only [h1] at hp
    cases h2:EU fl Ha xs with
    | none=>simp [h2] at hp
    | some r=>
     obtain⟨ys',Hb⟩:=r
     simp only [h2,Option.some.injEq,Prod.mk.injEq] at hp
     obtain⟨rfl,rfl⟩:=hp
     obtain⟨k1,σ1,i1,e1,r1⟩:=Z2x h hr1 h1
     obtain⟨k2,σ2,i2,e2,r2⟩:=ih i1 (hr2.ext e1) h2
     exact⟨k1.trans k2,σ2,i2,e1.trans e2,AL.ED.2 ⟨r1.ext e2,r2⟩⟩
structure YV (ids:List Nat) (H:Heap):Prop where
 nodup:ids.Nodup
 at_:∀id∈ids,∃b,H[id]? = some b/\b.live=true/\(b.row=false->∀r∈CJ b.xs,r∈ids)
theorem Zg7:∀(n:Nat) {fb:List Bf} {H:Heap} {σ:Sg} {todo seen ids:List Nat} {H2:Heap},Inv B w0 σ H w->GK n fb H todo seen=some (H2,ids)->seen.Nodup ->
  (∀id∈seen,∃b,H[id]? = some b/\b.live=true/\(b.row=false->∀r∈CJ b.xs,r∈seen++todo)) ->
  H.length<=H2.length/\(∀id∈seen++todo,id∈ids)/\YV ids H2/\∃σ',Inv B w0 σ' H2 w/\Ext σ w σ' w:=by
 intro n
 induction n with
 | zero=>intro fb H σ todo seen ids H2 _ h;cases h
 | succ n ih=>
  intro fb H σ todo seen ids H2 hI h hnd hcl
  cases todo with
  | nil=>
   simp only [GK,Option.some.injEq,Prod.mk.injEq] at h
   obtain⟨rfl,rfl⟩:=h
   exact⟨Nat.le_refl _,by simp,⟨hnd,by simpa using hcl⟩,σ,hI,Ext.refl _ _⟩
  | cons id todo=>
   unfold GK at h
   by_cases hin:seen.contains id=true
   ·grind
   ·rw [if_neg hin] at h
    have hin' : id∉seen:=by simpa using hin
    have hnd' : (seen++[id]).Nodup:=by
     rw [List.nodup_append]
     exact⟨hnd,by simp,fun a ha b hb=>by simp at hb;subst hb;intro e;subst e;exact hin' ha⟩
    have hmem:∀{i:Nat} {t:List Nat},i∈seen++id::todo->i∈(seen++[id])++(todo++t):=by
     intro i t hi
     simp only [List.mem_append,List.mem_cons] at hi ⊢
     rcases hi with hx|hx|hx
     ·exact .inl (.inl hx)
     ·exact .inl (.inr (.inl hx))
     ·exact .inr (.inl hx)
    split at h
    ·rename_i b fresh fb' hb
     split at h
     ·rename_i hc
      simp only [Bool.and_eq_true] at hc
      generalize hH' : (if fresh then H else bump H [id])=H' at h
      have hk:Ej H H' /\ ∃σ',Inv B w0 σ' H' w/\Ext σ w σ' w:=by
       cases fresh with
       | true=>rw [if_pos rfl] at hH';subst hH';exact⟨Ej.refl _,σ,hI,Ext.refl _ _⟩
       | false=>
        rw [if_neg (by simp)] at hH'
        subst hH'
        obtain⟨i1,i2⟩:=hI.freeze [id]
        exact⟨Ej.bump _ _,_,i1,i2⟩
      obtain⟨hk,σ1,hI1,hE1⟩:=hk
      obtain⟨h1,h2,h3,σ2,h4,h5⟩:=ih hI1 h hnd' (fun i hi=>by
       simp only [List.mem_append,List.mem_singleton] at hi
       have key:∃b0,H[i]? = some b0/\b0.live=true/\(b0.row=false->∀r∈CJ b0.xs,r∈seen++id::todo):=by
        rcases hi with hi|rfl
        ·exact hcl i hi
        ·exact⟨b,hb,hc.1,fun hr=>by rw [hc.2] at hr;cases hr⟩
       obtain⟨b0,k1,k2,k3⟩:=key
       obtain⟨b',m1,m2,m3,m4⟩:=hk.at_ i b0 k1
       grind)
      refine⟨Nat.le_trans hk.len h1,fun i hi=>h2 i ?_,h3,σ2,h4,hE1.trans h5⟩
      grind
     ·cases h
    ·rename_i b fl fb' hb
     split at h
     ·rename_i hc
      simp only [Bool.and_eq_true,Bool.not_eq_true'] at hc
      split at h
      ·rename_i x hx
       split at h
       ·rename_i y H1 hp
        split at h
        ·rename_i b1 hb1
         split at h
         ·rename_i hoky
          obtain⟨L,hL,hok⟩:=hI.boxes id b hb hc.1
          obtain⟨us,r1,r2,r3,r4⟩:=hok.CU
          rw [hx] at r1
          obtain⟨u,us',rfl,r5,r6⟩:=r1.Cf
          obtain⟨hk,σ1,hI1,hE1,hy⟩:=Z2x hI r5 hp
          obtain⟨b1',m1,m2,m3,m4⟩:=hk.at_ id b hb
          rw [hb1] at m1
          cases m1
          have hlive1:b1.live=true:=m2.trans hc.1
          have hrow1:b1.row=false:=m3.trans hc.2
          have hx1:b1.xs=[x]:=m4.trans hx
          have hsw:∃σ2,Inv B w0 σ2 (H1.set id { b1 with xs:=[y] }) w/\Ext σ1 w σ2 w:=by
           obtain⟨L1,hL1,hok1⟩:=hI1.boxes id b1 hb1 hlive1
           obtain⟨us1,s1,s2,s3,s4⟩:=hok1.CU
           rw [hx1] at s1
           obtain⟨u1,us1',rfl,s5,s6⟩:=s1.Cf
           cases s6.EN
           cases r6.EN
           have hu:u1.cells.toList=u.cells.toList:=by
            obtain⟨L',hL',he,hLL⟩:=hE1.box id L hL
            rw [hL1] at hL'
            cases hL'
            have ht1:L1.tot=1:=by rw [hok1.tot,hx1];rfl
            have ht:L.tot=1:=by rw [hok.tot,hx];rfl
            have hLe:L1=L:=by
             rcases hLL with e|e
             ·exact e
             ·omega
            subst hLe
            rcases r4.2 with ⟨hv,hn⟩|⟨g,cap,cur,tg,hv,_,hg,_,_,_,_,hcur⟩
            ·grind
            ·rcases s4.2 with ⟨hv',hn'⟩|⟨g',cap',cur',tg',hv',_,hg',_,_,_,_,hcur'⟩
             ·grind
             ·rw [hv] at hv'
              simp only [Value.slice.injEq,Option.some.injEq,Addr.mk.injEq,and_true] at hv'
              obtain⟨rfl,_,_⟩:=hv'
              rw [hg] at hg'
              simp only [Option.some.injEq,Obj.cells.injEq] at hg'
              obtain⟨rfl,_⟩:=hg'
              rw [KI] at hcur hcur'
              grind
           obtain⟨i1,i2⟩:=hI1.upd hb1 hlive1 hL1 (grownBy_refl w _) { b1 with xs:=[y] } hlive1 L1 rfl (.inl rfl) rfl (by simp [hx1]) (fun g hg=>.inl hg) (fun _ _ _ _=>rfl)
            (fun ex=>⟨by rw [hok1.tot,hx1];rfl,⟨[u],hy.ext ex,fun z hz=>by simp at hz;subst hz;rw [<- s2 u1 (by simp)];exact(congrArg List.length hu).symm,fun z hz=>s3 z (by rw [KI] at hz ⊢;rw [hu];exact hz),by
             rw [KI,<- hu,<- KI];simpa [hx1] using s4⟩,hok1.DZ,hok1.AZ,by simpa using hoky,fun hh=>by simp only at hh;rw [hrow1] at hh;cases hh⟩)
           exact⟨_,i1,i2⟩
          obtain⟨σ2,hI2,hE2⟩:=hsw
          have hlen1:id<H1.length:=(List.getElem?_eq_some_iff.1 hb1).1
          obtain⟨h1,h2,h3,σ3,h4,h5⟩:=ih hI2 h hnd' (fun i hi=>by
           simp only [List.mem_append,List.mem_singleton] at hi
           by_cases hid:i=id
           ·subst hid
            refine⟨{ b1 with xs:=[y] },by simp [hlen1],hlive1,fun _ r hh=>?_⟩
            simp only [CJ,List.append_nil] at hh
            simp [hh]
           ·have hi' : i∈seen:=by rcases hi with hi|hi;exact hi;exact absurd hi hid
            obtain⟨b0,k1,k2,k3⟩:=hcl i hi'
            obtain⟨b',q1,q2,q3,q4⟩:=hk.at_ i b0 k1
            grind)
          refine⟨Nat.le_trans hk.len (by simpa using h1),fun i hi=>h2 i (hmem hi),h3,σ3,h4,hE1.trans (hE2.trans h5)⟩
         ·cases h
        ·cases h
       ·cases h
      ·cases h
     ·cases h
    ·cases h
end
end Go.Proofs.YtlabamnhpgoekaaGreatDoor.Le
namespace Go.Proofs.YtlabamnhpgoekaaGreatDoor.Le
open Go.RowKit (Below)
def Sg.ren (σ:Sg) (ids:List Nat):Sg:=⟨fun j=>(ids[j]?).bind σ.box,σ.fz⟩
theorem Z3p {ids:List Nat} {id:Nat} (h:id∈ids):ids[ids.idxOf id]? = some id:=by
 grind
theorem o5 {σ:Sg} {ids:List Nat} {id:Nat} (h:id∈ids):(σ.ren ids).box (ids.idxOf id)=σ.box id:=by
 simp [Sg.ren,Z3p h]
theorem ZJ {w w' : World} {B e sz n:Nat} {v:Value} {us:List Value} (h:E5 w B e sz v n us) (hb:∀g,v.ownBlock=some g->w'.heap[g]? = w.heap[g]?):E5 w' B e sz v n us:=by
 refine⟨h.1,?_⟩
 rcases h.2 with hn|⟨g,cap,cur,tg,rfl,h1,h2,rest⟩
 ·exact .inl hn
 ·exact .inr ⟨g,cap,cur,tg,rfl,h1,by rw [hb g (by simp [Value.ownBlock])];exact h2,rest⟩
theorem G6 (ρ:Nat->Nat) (b:Box):(EF ρ b).live=b.live/\(EF ρ b).row=b.row/\(EF ρ b).DZ=b.DZ/\(EF ρ b).elem=b.elem/\(EF ρ b).AZ=b.AZ/\(EF ρ b).floor=b.floor/\(EF ρ b).xs.length=b.xs.length:=by
 unfold EF
 split
 ·simp_all
 ·exact⟨rfl,rfl,rfl,rfl,rfl,rfl,iV _ _⟩
theorem Ik.ren {σ σ' : Sg} {w w' : World} {B:Nat} {b:Box} {L:Loc} (ρ:Nat->Nat) (h:Ik σ w B b L) (hfz:∀b c,σ.fz b c->σ'.fz b c/\w'.cell? ⟨b,c,none⟩=w.cell? ⟨b,c,none⟩) (hmp:DF w w')
  (hn:b.row=false->∀id∈CJ b.xs,σ'.box (ρ id)=σ.box id) (hb:∀g,L.v.ownBlock=some g->w'.heap[g]? = w.heap[g]?):Ik σ' w' B (EF ρ b) L:=by
 obtain⟨e1,e2,e3,e4,e5,e6,e7⟩:=G6 ρ b
 obtain⟨us,r1,r2,r3,r4⟩:=h.CU
 have hr:AL σ' w' (EF ρ b).xs us:=by
  unfold EF
  split
  ·rename_i hrow;exact r1.bare hfz hmp ((JA _).2 (h.F7 hrow))
  ·rename_i hrow;exact kU r1 hfz hmp (hn (by simpa using hrow))
 refine⟨by rw [e7];exact h.tot,⟨us,hr,r2,r3,by rw [e4,e7];exact ZJ r4 hb⟩,by rw [e3];exact h.DZ,by rw [e5];exact h.AZ,?_,?_⟩
 ·intro x hx
  unfold EF at hx
  split at hx
  ·exact h.oks x hx
  ·simp only [mG,List.mem_map] at hx
   obtain⟨y,hy,rfl⟩:=hx
   rw [Z3D]
   exact h.oks y hy
 ·intro hrow x hx
  rw [e2] at hrow
  unfold EF at hx
  rw [if_pos hrow] at hx
  exact h.F7 hrow x hx
section
variable {B:Nat} {w0:Start} {σ:Sg} {H:Heap} {w:World} {ids:List Nat}
theorem Z2F (H:Heap) (ids:List Nat) (j:Nat):(FW H ids)[j]? = (ids[j]?).map fun id=>EF (ids.idxOf ·) ((H[id]?).getD NQ):=by
 simp [FW]
theorem Z1S {l:List Nat} (h:l.Nodup) {i j x:Nat} (hi:l[i]? = some x) (hj:l[j]? = some x):i=j:=by
 obtain⟨h1,e1⟩:=List.getElem?_eq_some_iff.1 hi
 obtain⟨h2,e2⟩:=List.getElem?_eq_some_iff.1 hj
 exact(List.getElem_inj h).1 (e1.trans e2.symm)
theorem Qx {xs:List V} {vs:List Value} (hr:AL σ w xs vs) (hm:∀id∈CJ xs,id∈ids):AL (σ.ren ids) w (Eh (ids.idxOf ·) xs) vs:=
 kU hr (fun b c hh=>⟨hh,rfl⟩) (DF.refl _) fun id hid=>o5 (hm id hid)
theorem YI (h:Inv B w0 σ H w) (hs:YV ids H) (w1:Start) (hbelow:Below B w1.w w) (hold:∀b c,σ.fz b c->b<B->w1.fz b c)
  (hk:∀b,w1.keep b->b<w.heap.size/\w.heap[b]? = w1.w.heap[b]? /\ (∀id∈ids,∀L,σ.box id=some L->L.v.ownBlock≠some b)/\∀c,σ.fz b c->w1.fz b c):Inv B w1 (σ.ren ids) (FW H ids) w:=by
 have hbox:∀{j:Nat} {L:Loc},(σ.ren ids).box j=some L->∃id,ids[j]? = some id/\σ.box id=some L:=by
  intro j L hL
  simp only [Sg.ren] at hL
  cases hj:ids[j]? with
  | none=>simp [hj] at hL
  | some id=>simp_all
 have hget:∀{j:Nat} {b' : Box},(FW H ids)[j]? = some b' -> ∃id b,ids[j]? = some id/\H[id]? = some b/\b.live=true/\(b.row=false->∀r∈CJ b.xs,r∈ids)/\b' = EF (ids.idxOf ·) b:=by
  intro j b' hb
  rw [Z2F] at hb
  cases hj:ids[j]? with
  | none=>simp [hj] at hb
  | some id=>
   obtain⟨b,k1,k2,k3⟩:=hs.at_ id (List.mem_of_getElem? hj)
   simp_all
 refine⟨hbelow,h.size,?_,?_,?_,h.cells,?_,?_,hold,fun b hb=>?_⟩
 ·intro j L hL
  obtain⟨id,h1,h2⟩:=hbox hL
  obtain⟨b,k1,k2,k3⟩:=hs.at_ id (List.mem_of_getElem? h1)
  refine⟨EF (ids.idxOf ·) b,by rw [Z2F,h1];simp [k1],.inl ?_⟩
  rw [(G6 _ b).1];exact k2
 ·intro j b' hb hl
  obtain⟨id,b,h1,h2,h3,h4,rfl⟩:=hget hb
  obtain⟨L,hL,hok⟩:=h.boxes id b h2 h3
  refine⟨L,by simp [Sg.ren,h1,hL],hok.ren _ (fun b c hh=>⟨hh,rfl⟩) (DF.refl _) (fun hr r hh=>o5 (h4 hr r hh)) (fun _ _=>rfl)⟩
 ·intro j j' b1 b2 L1 L2 g h1 h2 l1 l2 s1 s2 g1 g2
  obtain⟨i1,e1,t1⟩:=hbox s1
  obtain⟨i2,e2,t2⟩:=hbox s2
  obtain⟨i1',c1,f1,p1,p2,_⟩:=hget h1
  obtain⟨i2',c2,f2,q1,q2,_⟩:=hget h2
  rw [e1] at f1;cases f1
  rw [e2] at f2;cases f2
  have:=h.apart i1 i2 c1 c2 L1 L2 g p1 q1 p2 q2 t1 t2 g1 g2
  subst this
  exact Z1S hs.nodup e1 e2
 ·intro b c hc j b' L hb hl hL hg
  obtain⟨id,hid,hL'⟩:=hbox hL
  obtain⟨id',b0,f1,p1,p2,_,rfl⟩:=hget hb
  rw [hid] at f1;cases f1
  rw [(G6 _ b0).2.2.2.2.2.1]
  exact h.floor b c hc id b0 L p1 p2 hL' hg
 ·intro j b' hb hl
  obtain⟨id,b0,f1,p1,p2,_,rfl⟩:=hget hb
  obtain⟨_,_,_,_,_,e6,e7⟩:=G6 (ids.idxOf ·) b0
  rw [e6,e7]
  exact h.low id b0 p1 p2
 ·obtain⟨k1,k2,k3,k4⟩:=hk b hb
  refine⟨k1,k2,fun j L hL hg=>?_,k4⟩
  grind
def F6 (ids:List Nat) (n i:Nat):Option Nat:=if i<n then (if i∈ids then some (ids.idxOf i) else none) else some (ids.length+(i - n))
theorem Zgm:∀{ids:List Nat} {H bs:Heap} (i:Nat),ids.Nodup->(∀id∈ids,id<H.length)->ids.length<=bs.length ->
  (Iq H ids bs)[i]? = match F6 ids H.length i with|some j=>bs[j]? | none=>H[i]?:=by
 intro ids
 induction ids with
 | nil=>
  intro H bs i _ _ _
  unfold F6
  simp only [Iq,List.getElem?_append,List.not_mem_nil,if_false,List.length_nil,Nat.zero_add]
  split<;>rfl
 | cons id ids ih=>
  intro H bs i hn hl hb
  cases bs with
  | nil=>simp at hb
  | cons b bs=>
   rw [List.nodup_cons] at hn
   rw [Iq,ih i hn.2 (fun j hj=>by simp_all) (by simpa using hb)]
   have hid:=hl id (by simp)
   unfold F6
   simp only [List.length_set,List.mem_cons,List.length_cons]
   grind
theorem ZbH {H3:Heap} (i:Nat) (hn:ids.Nodup) (hl:∀id∈ids,id<H.length) (hb:ids.length<=H3.length) :
  (KT H ids H3)[i]? = match F6 ids H.length i with|some j=>(H3[j]?).map (EF (Hw ids H.length))|none=>H[i]?:=by
 unfold KT
 rw [Zgm i hn hl (by simpa using hb)]
 split<;>simp
theorem ZiW {n i i' j:Nat} (hn:ids.Nodup) (h1:F6 ids n i=some j) (h2:F6 ids n i' = some j):i=i' :=by
 unfold F6 at h1 h2
 have key:∀{x:Nat},x∈ids->ids.idxOf x<ids.length:=fun h=>List.idxOf_lt_length_of_mem h
 split at h1<;>split at h2
 ·split at h1<;>split at h2
  ·rename_i m1 m2
   simp only [Option.some.injEq] at h1 h2
   have e1:=Z3p m1
   grind
  ·cases h2
  ·cases h1
  ·cases h1
 ·grind
 ·grind
 grind
theorem ZfS {n:Nat} (hn:ids.Nodup) (hl:∀id∈ids,id<n) (j:Nat):F6 ids n (Hw ids n j)=some j:=by
 unfold Hw F6
 grind
def Sg.back (σ σ1:Sg) (ids:List Nat) (n:Nat):Sg:=⟨fun i=>match F6 ids n i with|some j=>σ1.box j|none=>σ.box i,σ1.fz⟩
theorem Z2Y {σ1:Sg} {n:Nat} (hn:ids.Nodup) (hl:∀id∈ids,id<n) (j:Nat):(σ.back σ1 ids n).box (Hw ids n j)=σ1.box j:=by
 simp only [Sg.back,ZfS hn hl]
def outer (σ:Sg) (H:Heap) (ids:List Nat) (w0:Start) (b:Nat):Prop:=w0.keep b\/∃id L bx,id∉ids/\H[id]? = some bx/\bx.live=true/\σ.box id=some L/\L.v.ownBlock=some b
theorem Zjr {σ1:Sg} {H3:Heap} {w' : World} (h:Inv B w0 σ H w) (hs:YV ids H) (h1:Inv B ⟨w,σ.fz,outer σ H ids w0⟩ σ1 H3 w') (hE:Ext (σ.ren ids) w σ1 w') (hlen:ids.length<=H3.length) :
  Inv B w0 (σ.back σ1 ids H.length) (KT H ids H3) w' /\ Ext σ w (σ.back σ1 ids H.length) w' :=by
 have hlt:∀id∈ids,id<H.length:=fun id hid=>by
  obtain⟨b,k1,_⟩:=hs.at_ id hid
  grind
 have hfz:∀b c,σ.fz b c->σ1.fz b c/\w'.cell? ⟨b,c,none⟩=w.cell? ⟨b,c,none⟩:=hE.fz
 have e:Ext σ w (σ.back σ1 ids H.length) w' :=by
  refine⟨fun i L hL=>?_,hfz,hE.mp⟩
  have hi:=h.Xy hL
  simp only [Sg.back]
  by_cases hm:i∈ids
  ·have ht:F6 ids H.length i=some (ids.idxOf i):=by simp [F6,hi,hm]
   simp only [ht]
   exact hE.box _ L (by rw [o5 hm];exact hL)
  ·have ht:F6 ids H.length i=none:=by simp [F6,hi,hm]
   simp_all
 have hget:∀i,(KT H ids H3)[i]? = match F6 ids H.length i with|some j=>(H3[j]?).map (EF (Hw ids H.length))|none=>H[i]?:=fun i=>ZbH i hs.nodup hlt hlen
 have hout:∀{i:Nat} {bx:Box} {L:Loc} {g:Nat},F6 ids H.length i=none->H[i]? = some bx->bx.live=true->σ.box i=some L->L.v.ownBlock=some g->outer σ H ids w0 g:=by
  intro i bx L g ht hb hl hL hg
  refine .inr ⟨i,L,bx,?_,hb,hl,hL,hg⟩
  intro hm
  simp [F6,hlt i hm,hm] at ht
 have hcase:∀{i:Nat} {b' : Box},(KT H ids H3)[i]? = some b' -> (∃j b,F6 ids H.length i=some j/\H3[j]? = some b/\b' = EF (Hw ids H.length) b)\/(F6 ids H.length i=none/\H[i]? = some b'):=by
  intro i b' hb
  rw [hget] at hb
  cases ht:F6 ids H.length i with
  | none=>rw [ht] at hb;exact .inr ⟨rfl,hb⟩
  | some j=>
   rw [ht] at hb
   simp only [Option.map_eq_some_iff] at hb
   obtain⟨b,h2,h3⟩:=hb
   exact .inl ⟨j,b,rfl,h2,h3.symm⟩
 refine⟨⟨h.below.trans h1.below,h1.size,?_,?_,?_,h1.cells,?_,?_,fun b c hc hlt' =>h.old b c (h1.old b c hc hlt') hlt',fun b hb=>?_⟩,e⟩
 ·intro i L hL
  simp only [Sg.back] at hL
  rw [hget]
  cases ht:F6 ids H.length i with
  | none=>rw [ht] at hL;exact h.dom i L hL
  | some j=>
   rw [ht] at hL
   obtain⟨b,k1,k2⟩:=h1.dom j L hL
   exact⟨EF (Hw ids H.length) b,by simp [k1],by rw [(G6 _ b).1,(G6 _ b).2.1];exact k2⟩
 ·intro i b' hb hl
  rcases hcase hb with ⟨j,b,ht,hj,rfl⟩|⟨ht,hi⟩
  ·rw [(G6 _ b).1] at hl
   obtain⟨L,hL,hok⟩:=h1.boxes j b hj hl
   refine⟨L,by simp only [Sg.back,ht];exact hL,hok.ren _ (fun b c hh=>⟨hh,rfl⟩) (DF.refl _) (fun _ r _=>Z2Y hs.nodup hlt r) (fun _ _=>rfl)⟩
  ·obtain⟨L,hL,hok⟩:=h.boxes i b' hi hl
   obtain⟨us,r1,r2,r3,r4⟩:=hok.CU
   refine⟨L,by simp only [Sg.back,ht];exact hL,hok.tot,⟨us,r1.ext e,r2,r3,ZJ r4 fun g hg=>?_⟩,hok.DZ,hok.AZ,hok.oks,hok.F7⟩
   exact(h1.kept g (hout ht hi hl hL hg)).2.1
 ·intro i i' b1 b2 L1 L2 g p1 p2 l1 l2 s1 s2 g1 g2
  simp only [Sg.back] at s1 s2
  rcases hcase p1 with ⟨j,c1,t1,q1,rfl⟩|⟨t1,q1⟩<;>rcases hcase p2 with ⟨j',c2,t2,q2,rfl⟩|⟨t2,q2⟩
  ·rw [t1] at s1;rw [t2] at s2
   rw [(G6 _ _).1] at l1 l2
   have:=h1.apart j j' c1 c2 L1 L2 g q1 q2 l1 l2 s1 s2 g1 g2
   subst this
   exact ZiW hs.nodup t1 t2
  ·rw [t1] at s1;rw [t2] at s2
   exact absurd g1 ((h1.kept g (hout t2 q2 l2 s2 g2)).2.2.1 j L1 s1)
  ·rw [t1] at s1;rw [t2] at s2
   exact absurd g2 ((h1.kept g (hout t1 q1 l1 s1 g1)).2.2.1 j' L2 s2)
  ·rw [t1] at s1;rw [t2] at s2
   exact h.apart i i' b1 b2 L1 L2 g q1 q2 l1 l2 s1 s2 g1 g2
 ·intro b c hc i b' L hb hl hL hg
  simp only [Sg.back] at hL hc
  rcases hcase hb with ⟨j,b0,ht,hj,rfl⟩|⟨ht,hi⟩
  ·rw [ht] at hL
   rw [(G6 _ b0).1] at hl
   rw [(G6 _ b0).2.2.2.2.2.1]
   exact h1.floor b c hc j b0 L hj hl hL hg
  ·rw [ht] at hL
   exact h.floor b c ((h1.kept b (hout ht hi hl hL hg)).2.2.2 c hc) i b' L hi hl hL hg
 ·intro i b' hb hl
  rcases hcase hb with ⟨j,b0,ht,hj,rfl⟩|⟨ht,hi⟩
  ·obtain⟨e1,_,_,_,_,e6,e7⟩:=G6 (Hw ids H.length) b0
   rw [e6,e7]
   rw [e1] at hl
   exact h1.low j b0 hj hl
  ·exact h.low i b' hi hl
 ·obtain⟨k1,k2,k3,k4⟩:=h.kept b hb
  obtain⟨m1,m2,m3,m4⟩:=h1.kept b (.inl hb)
  refine⟨m1,m2.trans k2,fun i L hL hg=>?_,fun c hc=>k4 c (m4 c hc)⟩
  simp only [Sg.back] at hL
  grind
end
def PU (P:Program) (E:Env) (f:FuncId) (as:List V) (H0:Heap) (r:V) (H1:Heap):Prop:=
 ∀(B:Nat) (w0:Start) (σ:Sg) (w:World) (vs:List Value),Inv B w0 σ H0 w->CW E σ w->AL σ w as vs ->
  Calls P f vs.toArray w fun e w' =>∃u σ',e = .returned u/\Inv B w0 σ' H1 w' /\ Ext σ w σ' w' /\ AL σ' w' [r] [u]
theorem Xr {B:Nat} {w0:Start} {σ:Sg} {H H2:Heap} {w:World} {fa:List (List Fk)} {fb:List Bf} {k:Nat} {args as:List V} {vs:List Value} {ids:List Nat} (h:Inv B w0 σ H w) (hr:AL σ w args vs)
  (hp:pack fa fb k args H=some (ids,as,H2)):YV ids H2/\(∀id∈CJ as,id∈ids)/\H.length<=H2.length/\∃σ',Inv B w0 σ' H2 w/\Ext σ w σ' w/\AL σ' w as vs:=by
 unfold pack at hp
 split at hp
 ·rename_i as' H1 ha
  split at hp
  ·rename_i H2' ids' hh
   simp only [Option.some.injEq,Prod.mk.injEq] at hp
   obtain⟨rfl,rfl,rfl⟩:=hp
   obtain⟨k1,σ1,i1,e1,r1⟩:=ZfH h hr ha
   obtain⟨q1,q2,q3,σ2,i2,e2⟩:=Zg7 1000 i1 hh (by simp) (by simp)
   exact⟨q3,fun id hid=>q2 id (by simp [hid]),Nat.le_trans k1.len q1,σ2,i2,e1.trans e2,r1.ext e2⟩
  ·cases hp
 ·cases hp
theorem Zfw {P:Program} {E:Env} {B:Nat} {w0:Start} {σ:Sg} {H H' : Heap} {w:World} {f:FuncId} {hs:Ph} {args:List V} {vs:List Value} {x:V} (hh:∀as H0 r H1,hs.run as H0=some (r,H1)->PU P E f as H0 r H1)
  (hc:Ij hs args H=some (x,H')) (h:Inv B w0 σ H w) (hg:CW E σ w) (hr:AL σ w args vs) :
  Calls P f vs.toArray w fun e w' =>∃u σ',e = .returned u/\Inv B w0 σ' H' w' /\ Ext σ w σ' w' /\ AL σ' w' [x] [u]:=by
 unfold Ij at hc
 split at hc
 ·rename_i ids as H2 hp
  split at hc
  ·rename_i r H3 hrun
   split at hc
   ·rename_i hlen
    simp only [Option.some.injEq,Prod.mk.injEq] at hc
    obtain⟨rfl,rfl⟩:=hc
    obtain⟨hs',hm,_,σ1,hI1,hE1,hr1⟩:=Xr h hr hp
    have hlt:∀id∈ids,id<H2.length:=fun id hid=>by
     obtain⟨b,k1,_⟩:=hs'.at_ id hid
     grind
    have hsub:Inv B ⟨w,σ1.fz,outer σ1 H2 ids w0⟩ (σ1.ren ids) (FW H2 ids) w:=by
     refine YI hI1 hs' _ (Below.refl _ _) (fun b c hc _=>hc) (fun b hb=>?_)
     rcases hb with hb|⟨id,L,bx,hid,m1,m2,hL,hgL⟩
     ·obtain⟨k1,k2,k3,k4⟩:=hI1.kept b hb
      grind
     ·obtain⟨L',hL',hok⟩:=hI1.boxes id bx m1 m2
      rw [hL] at hL';cases hL'
      refine⟨(hok.block_lt hgL).2,rfl,fun i hi L' hL' hg' =>?_,fun c hc=>hc⟩
      obtain⟨bx',n1,n2,_⟩:=hs'.at_ i hi
      have:=hI1.apart id i bx bx' L L' b m1 n1 m2 n2 hL hL' hgL hg'
      subst this
      exact hid hi
    have hg1:CW E (σ1.ren ids) w:=(hg.ext hE1).bare (fun b c hh=>⟨hh,rfl⟩) (DF.refl _)
    refine(hh _ _ _ _ hrun B _ (σ1.ren ids) w vs hsub hg1 (Qx hr1 hm)).mono ?_
    rintro e w' ⟨u,σ2,rfl,hI2,hE2,hr2⟩
    obtain⟨hI3,hE3⟩:=Zjr hI1 hs' hI2 hE2 hlen
    exact⟨u,_,rfl,hI3,hE1.trans hE3,Z2c hr2 (fun b c hh=>⟨hh,rfl⟩) (DF.refl _) (fun id _=>Z2Y hs'.nodup hlt id)⟩
   ·cases hc
  ·cases hc
 ·cases hc
end Go.Proofs.YtlabamnhpgoekaaGreatDoor.Le
