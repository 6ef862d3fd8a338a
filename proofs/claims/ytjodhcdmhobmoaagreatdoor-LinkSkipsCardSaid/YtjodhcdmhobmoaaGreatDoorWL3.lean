/- A part of it. -/
import Derived.Test.YtjodhcdmhobmoaaGreatDoorWL2
import Derived.Orders
import Derived.LoopN
import Derived.Scope
set_option linter.unusedVariables false
set_option linter.unusedSimpArgs false
namespace Go.Proofs.YtjodhcdmhobmoaaGreatDoor.Le
open Go.RowKit (Below)
structure F5 (E:Env) (B:Nat) (w0:Start) (σ:Sg) (st:St) (a:Act) (w:World):Prop where
 inv:Inv B w0 σ st.H w
 FM:EK E σ w
 slots:AV σ w st.s a.tmps.toList
 calm:a.defers=[]
theorem uH {σ w s x u} {a:Act} (h:AV σ w s a.tmps.toList) (q:AV σ w [x] [u]) (d:Option Tmp):AV σ w (setSlot s d x) (a.put d u).tmps.toList:=by
 cases d with
 | none=>exact h
 | some d=>
  simp only[setSlot,Act.put,Array.toList_setIfInBounds];exact h.set d q
theorem wC {a:Act} (h:a.defers=[]) (d:Option Tmp) (u:Value):(a.put d u).defers=[]:=by
 cases d<;>exact h
theorem ZCz {σ w s} {a:Act} {ops:Array Oper} (h:AV σ w s a.tmps.toList) {j d:Nat} {z r:Bool} (G:(ops[j]?).bind (·.dst)=some d) (A:PI (s.getD d .und) z=some r) :
  (yielded ops a.tmps j==some z)=r:=by
 unfold yielded;rw[G];have q:∀x,s.getD d .und=x->x≠.und->∃v,a.tmps[d]? = some v/\AV σ w [x] [v]:=by
  intro x F I;cases hs:s[d]? with
  | none=>simp_all
  | some y=>
   simp[List.getD,hs]at F;subst F;obtain⟨v,D,C⟩:=h.get hs
   simp_all
 unfold PI at A;split at A
 ·rename_i b hb;obtain⟨v,D,C⟩:=q _ hb (by simp);simp only[Option.some.injEq]at A;have:v = .bool b:=by cases C;rfl
  simp_all
 ·rename_i hb;obtain⟨v,D,C⟩:=q _ hb (by simp);simp only[Option.some.injEq]at A;have:v=undef:=by cases C;rfl
  subst this;simp only[Option.bind_some,D];rw[<- A];rfl
 ·cases A
section
variable {E:Env} {B:Nat} {w0:Start} {σ:Sg} {P:Program} {call:EO} {ops:Array Oper} {st st' : St} {a:Act} {w:World}
theorem Zfz (hE:DV E) (hP:E.P=P) (A:Jo P E B w0 call) {k i:Nat} (hk:GH st.H k=true) (h:F5 E B w0 σ st a w) (hs:KT call E ops k i st=some st')
  {K:Act->World->Prop} {Q:Exit->Act->World->Prop} (I:∀M w' σ',F5 E B w0 σ' st' M w' -> Ext σ w σ' w' -> K M w'):wpOp P ops Q i K a w:=by
 unfold KT at hs;unfold wpOp;cases O:ops[i]? with
 | none=>
  simp only[O,Option.some.injEq]at hs ⊢;subst hs;exact I a w σ h (Ext.refl σ w)
 | some o=>
  simp only[O]at hs ⊢;have hop:∀x H',BU call E k st.H st.s o=some (x,H')->st' = ⟨setSlot st.s o.dst x,H'⟩->o.wp P a w K Q:=by
   intro x H' hx z;refine ZDV hE hP A h.inv h.FM hk h.slots o x H' hx K Q (fun u w' σ' S D Y=>I _ w' σ' ⟨?_,h.FM.ext D,?_,wC h.calm _ _⟩ D)
   ·rw[z];exact S
   ·rw[z];exact uH (h.slots.ext D) Y o.dst
  have J:st' = ⟨setSlot st.s o.dst Ef,st.H⟩->K (a.put o.dst undef) w:=by
   intro z;refine I _ w σ ⟨by rw[z];exact h.inv,h.FM,?_,wC h.calm _ _⟩ (Ext.refl σ w);rw[z];exact uH h.slots (.no .nil) o.dst
  cases q:GV call E ops k o st with
  | none=>simp[q]at hs
  | some r=>
   obtain⟨v,H'⟩:=r;simp only[q,Option.some.injEq]at hs;unfold GV at q;unfold Region.wanted;cases G:o.guard with
   | none=>
    simp_all
   | some jw=>
    obtain⟨j,C⟩:=jw;simp only[G]at q ⊢;cases F:(ops[j]?).bind (·.dst) with
    | none=>simp[F]at q
    | some d=>
     simp only[F]at q;cases N:PI (st.s.getD d .und) C with
     | none=>simp_all
     | some r=>
      rw[N]at q;simp only[ZCz h.slots F N]
      grind
theorem ZgR (O:DV E) (S:E.P=P) (q:Jo P E B w0 call):∀(A:List Nat) (st:St) (σ:Sg) (a:Act) (w:World),F5 E B w0 σ st a w->Nl call E ops A st=some st' ->
  ∀{Q:Exit->Act->World->Prop},(∀z w' σ',F5 E B w0 σ' st' z w' -> Ext σ w σ' w' -> Q .normal z w')->wpOps P ops Q A a w:=by
 intro A;induction A with
 | nil=>
  intro st σ a w h hs Q F;simp only[Nl,Option.some.injEq]at hs;subst hs;exact F a w σ h (Ext.refl σ w)
 | cons i M ih=>
  intro st σ a w h hs Q F;simp only[Nl]at hs;cases C:stepD call E ops i st with
  | none=>simp[C]at hs
  | some I=>
   simp only[C]at hs;rw[wpOps_cons];exact Zfz O S q (gK st.H) h C (fun N w1 J G D=>ih I J N w1 G hs (fun z w' σ' hr Y=>F z w' σ' hr (D.trans Y)))
end
end Go.Proofs.YtjodhcdmhobmoaaGreatDoor.Le
namespace Go.Proofs.YtjodhcdmhobmoaaGreatDoor.Le
open Go.RowKit (Below)
theorem getD_set_ne' {s:List V} {d t:Nat} (h:d≠t) (v u:V):(s.set d v).getD t u=s.getD t u:=by
 simp_all
theorem xO {E:Env} {s:List V} {d:Option Tmp} {v:V} (x:Operand) (h:∀q,d=some q -> x≠.tmp q):ev E (setSlot s d v) x=ev E s x:=by
 cases d with
 | none=>rfl
 | some d=>
  cases x with
  | tmp t=>exact getD_set_ne' (fun e=>h d rfl (by rw[e])) v .und
  | _=>rfl
theorem Z1g {E:Env} {s q : List V} (xs:List Operand) (h:∀x∈xs,ev E s x=ev E q x):xs.map (ev E s)=xs.map (ev E q):=List.map_congr_left h
theorem ZcL {E:Env} {s q : List V} (ps:Array (Nat×Operand)) (h:∀x∈(ps.toList.map (·.2)).toArray,ev E s x=ev E q x) :
  (ps.toList.map fun(i,x)=>(i,ev E s x))=(ps.toList.map fun(i,x)=>(i,ev E q x)):=List.map_congr_left fun p hp=>by
 grind
theorem ZB8 {call:EO} {E:Env} {k:Nat} {H:Heap} {s z : List V} {o:Oper} (h:∀x∈o.op.operands,ev E s x=ev E z x):BU call E k H s o=BU call E k H z o:=by
 obtain⟨dst,op,type,pos,after,guard⟩:=o;simp only at h;cases op<;>simp only[Op.operands]at h<;>simp only[BU]
 case assign x=>
  have q:ev E s x=ev E z x:=h x (by simp);split<;>simp_all
 case build t ps=>rw[ZcL ps h]
 case buildSlice t n ps=>rw[ZcL ps h]
 case makeFunc fn first captured=>
  have A:evs E s first=evs E z first:=Z1g _ fun x q=>h x (by simp at q;simp[q])
  have G:evs E s captured=evs E z captured:=Z1g _ fun x q=>h x (by simp at q;simp[q]);cases fn<;>simp only[A,G]
 case call c=>
  have A:evs E s c.args=evs E z c.args:=Z1g _ fun x q=>h x (by simp at q;simp[Call.operands,q]);rw[A];cases hc:c.callee with
  | value f=>have hf:ev E s f=ev E z f:=h f (by simp[Call.operands,hc]);simp only[hf]
  | builtin b=>cases b<;>rfl
  | invoke r n=>rfl
 case slice t x lo hi mx=>
  have q:ev E s x=ev E z x:=h x (by simp);have D:lo.map (ev E s)=lo.map (ev E z):=by cases lo<;>simp_all
  have C:hi.map (ev E s)=hi.map (ev E z):=by cases hi<;>simp_all
  have F:mx.map (ev E s)=mx.map (ev E z):=by cases mx<;>simp_all
  rw[q,D,C,F]
 all_goals simp_all
theorem vV {ops:Array Oper} {o:Oper} {d:Tmp} (h:d∉o.looksAt ops):∀x∈o.op.operands,x≠.tmp d:=fun x q e=>h (by
 subst e;exact List.mem_append_left _ (List.mem_filterMap.2 ⟨.tmp d,by simpa using q,rfl⟩))
theorem Zhl {call:EO} {E:Env} {k:Nat} {H:Heap} {s:List V} {o:Oper} {ops:Array Oper} {d:Option Tmp} {v:V} (h:∀q,d=some q -> q ∉o.looksAt ops) :
  BU call E k H (setSlot s d v) o=BU call E k H s o:=
 ZB8 fun x A=>xO x fun q z=>vV (h q z) x A
theorem Z35 {E:Env} {s:List V} {o:Oper} {ops:Array Oper} {d:Option Tmp} {v:V} (h:∀q,d=some q -> q ∉o.looksAt ops):Ea E (setSlot s d v) o=Ea E s o:=by
 unfold Ea;rw[<- List.flatMap_map,<- List.flatMap_map (f:=ev E s)];congr 1;exact List.map_congr_left fun x A=>xO x fun q z=>vV (h q z) x (by simpa using A)
theorem ZdA {E:Env} {s:List V} {o:Oper} {ops:Array Oper} {d:Option Tmp} {v:V} (h:∀z,d=some z -> z ∉o.looksAt ops):quietAt E (setSlot s d v) o=quietAt E s o:=by
 unfold quietAt;cases A:o.op with
 | call c=>
  simp only;cases q:c.callee with
  | value f=>
   cases f with
   | tmp t=>
    have D:Operand.tmp t∈o.op.operands:=by simp[A,Op.operands,Call.operands,q]
    have:=xO (E:=E) (s:=s) (v:=v) (.tmp t) fun z C=>vV (h z C) _ D;simp only[show (setSlot s d v).getD t .und=s.getD t .und from this]
   | _=>rfl
  | _=>rfl
 | _=>rfl
theorem Zgi {call:EO} {E:Env} {k:Nat} {H:Heap} {s:List V} {o:Oper} {ops:Array Oper} {d:Option Tmp} {v:V} (h:∀q,d=some q -> q ∉o.looksAt ops) :
  GV call E ops k o ⟨setSlot s d v,H⟩=GV call E ops k o ⟨s,H⟩:=by
 unfold GV;cases F:o.guard with
 | none=>exact Zhl h
 | some G=>
  obtain⟨j,C⟩:=G;simp only;cases D:(ops[j]?).bind (·.dst) with
  | none=>rfl
  | some g=>
   have A:∀q,d=some q -> q ≠g:=fun q z e=>h q z (by
    subst e;exact List.mem_append_right _ (by simp[F,D]))
   have:(setSlot s d v).getD g .und=s.getD g .und:=by
    cases d with
    | none=>rfl
    | some d=>exact getD_set_ne' (A d rfl) v .und
   simp only[this];rw[Zhl h]
def Box.low (b:Box):Box:={ b with floor:=0 }
def Dl (R:List Nat) (H H' : Heap):Prop:=∀id∈R,(H[id]?).map Box.low=(H'[id]?).map Box.low
theorem QQ {H H' : Heap} {id tot:Nat} {b:Box} (h:(H[id]?).map Box.low=(H'[id]?).map Box.low) (hb:Dt H id tot=some b):∃q,Dt H' id tot=some q /\ q.low=b.low:=by
 unfold Dt at *;cases z:H[id]? with
 | none=>simp[z]at hb
 | some b0=>
  simp only[z]at hb h;cases A:H'[id]? with
  | none=>simp[A]at h
  | some b1=>
   simp only[A,Option.map_some,Option.some.injEq]at h;split at hb
   ·rename_i hc;simp only[Option.some.injEq]at hb;subst hb;refine⟨b1,?_,h.symm⟩;have C:b1.live=b0.live:=(congrArg Box.live h).symm;have D:b1.xs=b0.xs:=(congrArg Box.xs h).symm;simp only[C,D,hc,if_true]
   ·cases hb
theorem Uc {b q : Box} (h:q.low=b.low):q.row=b.row/\q.Ey=b.Ey/\q.elem=b.elem/\q.BA=b.BA/\q.xs=b.xs:=
 ⟨congrArg (·.row) h,congrArg (·.Ey) h,congrArg (·.elem) h,congrArg (·.BA) h,congrArg (·.xs) h⟩
theorem UZ {H H' : Heap} {id tot:Nat} (h:(H[id]?).map Box.low=(H'[id]?).map Box.low) (hb:Dt H id tot=none):Dt H' id tot=none:=by
 cases q : Dt H' id tot with
 | none=>rfl
 | some b=>
  obtain⟨z,A,_⟩:=QQ h.symm q
  simp_all
section
variable {H H' : Heap}
theorem Z3t {x:V} (h:Dl (Ec x) H H'):Ia H' x=Ia H x:=by
 unfold Ia;split<;>try rfl
 rename_i id off len tot;cases hb:Dt H id tot with
 | none=>rw[UZ (h id (by simp[Ec])) hb]
 | some b=>
  obtain⟨z,I,q⟩:=QQ (h id (by simp[Ec])) hb;obtain⟨A,C,D,F,G⟩:=Uc q
  simp_all
theorem ZCL {xs:List V} (h:Dl (xs.flatMap Ec) H H'):Jw H' xs=Jw H xs:=by
 induction xs with
 | nil=>rfl
 | cons x xs z=>
  simp only[Jw];rw[Z3t (fun i q=>h i (by simp[q])),z (fun i q=>h i (by rw[List.flatMap_cons];exact List.mem_append_right _ q))]
theorem Zh3 {x:V} (h:Dl (D5 x) H H'):Ie H' x=Ie H x:=by
 unfold Ie;split
 ·rw[ZCL (by simpa[D5]using h)]
 ·rename_i z;refine Z3t (fun i q=>h i ?_);cases x with
  | fn f a b=>simp[Ec]at q
  | agg cs=>simp_all
  | _=>exact q
theorem Z2C {xs:List V} (h:Dl (xs.flatMap D5) H H'):Fp H' xs=Fp H xs:=by
 induction xs with
 | nil=>rfl
 | cons x xs z=>
  simp only[Fp];rw[Zh3 (fun i q=>h i (by simp[q])),z (fun i q=>h i (by rw[List.flatMap_cons];exact List.mem_append_right _ q))]
theorem Z38 {x:V} (h:Dl (D5 x) H H'):lenOf H' x=lenOf H x:=by
 unfold lenOf;split<;>try rfl
 rename_i id off len tot;cases hb:Dt H id tot with
 | none=>rw[UZ (h id (by simp[D5,Ec])) hb]
 | some b=>
  obtain⟨z,q,A⟩:=QQ (h id (by simp[D5,Ec])) hb;simp only[q]
theorem rH {x:V} (h:Dl (D5 x) H H'):elemsOf H' x=elemsOf H x:=by
 unfold elemsOf;split<;>try rfl
 rename_i id off len tot;cases hb:Dt H id tot with
 | none=>rw[UZ (h id (by simp[D5,Ec])) hb]
 | some b=>
  obtain⟨D,A,C⟩:=QQ (h id (by simp[D5,Ec])) hb;obtain⟨q,F,G,I,z⟩:=Uc C;simp only[A,q,z]
theorem vG {x:V} {n:Nat} (h:Dl (D5 x) H H'):FD H' x n=FD H x n:=by
 unfold FD;split<;>try rfl
 rename_i id off len tot;cases hb:Dt H id tot with
 | none=>rw[UZ (h id (by simp[D5,Ec])) hb]
 | some b=>
  obtain⟨C,z,A⟩:=QQ (h id (by simp[D5,Ec])) hb;obtain⟨D,F,G,q,I⟩:=Uc A;simp only[z,q]
theorem ZBs {E:Env} {t:TypeId} {a:V} (h:Dl (D5 a) H H'):Nb E H' t a=Nb E H t a:=by
 unfold Nb;split
 ·rfl
 ·split<;>try rfl
  rename_i id j off tot;cases hb:Dt H id tot with
  | none=>rw[UZ (h id (by simp[D5,Ec])) hb]
  | some b=>
   obtain⟨C,z,A⟩:=QQ (h id (by simp[D5,Ec])) hb;obtain⟨D,F,G,I,q⟩:=Uc A;simp only[z,q]
theorem Zqf {E:Env} {t:TypeId} {x i:V} (h:Dl (D5 x) H H'):QI E H' t x i=QI E H t x i:=by
 unfold QI;split<;>try rfl
 split<;>try rfl
 rename_i id off len tot C;cases hb:Dt H id tot with
 | none=>rw[UZ (h id (by simp[D5,Ec])) hb]
 | some b=>
  obtain⟨D,z,A⟩:=QQ (h id (by simp[D5,Ec])) hb;obtain⟨F,G,I,q,J⟩:=Uc A;simp only[z,q]
theorem Zax {E:Env} {t:TypeId} {x:V} (h:Dl (D5 x) H H'):QM E H' t x=QM E H t x:=by
 unfold QM;split<;>try rfl
 split<;>try rfl
 split<;>try rfl
 rw[vG h]
end
def eff (ids:List Nat) (nb:Option Box) (k:Nat) (H:Heap):Heap:=
 match nb with
 | none=>bump H ids
 | some b=>place (bump H ids) k b
def xE (E:Env) (call:EO):Prop:=
 ∀f,Xg E f=true->∀args H v H1,call f args H=some (v,H1) ->
  H1=bump H (args.flatMap EH)/\∀H',Dl (args.flatMap D5) H H' -> call f args H' = some (v,bump H' (args.flatMap EH))
def xK (E:Env) (call:EO):Prop:=
 ∀f,Qk E f=true->∀args H v H1,call f args H=some (v,H1) ->
  ∃ids q,(∀i∈ids,i∈args.flatMap D5)/\H1=bump H ids++q/\∀H',H'.length=H.length->Dl (args.flatMap D5) H H' -> call f args H' = some (v,bump H' ids++q)
structure Ou (E:Env) (call:EO):Prop where
 pure:xE E call
 free:xK E call
theorem ZgI {x:V} {i:Nat} (h:i∈Fb x):i∈Ec x:=by
 cases x<;>simp_all [Fb,Ec]
theorem ZCa {x:V} {i:Nat} (h:i∈EH x):i∈D5 x:=by
 cases x with
 | agg cs=>
  simp only[EH,D5,List.mem_flatMap]at *;obtain⟨c,hc,q⟩:=h;exact⟨c,hc,ZgI q⟩
 | _=>simp_all [EH,D5,Fb,Ec]
theorem Z2G {xs:List V} {i:Nat} (h:i∈xs.flatMap EH):i∈xs.flatMap D5:=by
 simp only[List.mem_flatMap]at *;obtain⟨c,hc,q⟩:=h;exact⟨c,hc,ZCa q⟩
theorem ZgO {y:Option V} {H H1:Heap} {v:V} (h:y.map (·,H)=some (v,H1)):y=some v/\H1=H:=by
 cases y with
 | none=>cases h
 | some x=>simp_all
def Eff (call:EO) (E:Env) (k:Nat) (H:Heap) (s:List V) (o:Oper) (v:V) (H1:Heap):Prop:=
 ∃ids nb,(∀i∈ids,i∈Ea E s o)/\(nb.isSome=true->CS E o = .a)/\H1=eff ids nb k H /\
  ∀H' k',(CS E o = .a->k' = k)->Dl (Ea E s o) H H' -> BU call E k' H' s o=some (v,eff ids nb k' H')
theorem vS {call:EO} {E:Env} {k:Nat} {H H1:Heap} {s:List V} {o:Oper} {v:V} {y:Heap->Option V} (q:∀H k,BU call E k H s o=(y H).map (·,H))
  (h:BU call E k H s o=some (v,H1)) (C:∀H',Dl (Ea E s o) H H' -> y H' = y H):Eff call E k H s o v H1:=by
 rw[q]at h;obtain⟨z,A⟩:=ZgO h;exact⟨[],none,by simp,by simp,A,fun H' k' _ hs=>by rw[q,C H' hs,z];rfl⟩
theorem jH {E:Env} {s:List V} {o:Oper} {H H' : Heap} (h:Dl (Ea E s o) H H') {x:Operand} (z:x∈o.op.operands):Dl (D5 (ev E s x)) H H' :=fun i q=>
 h i (List.mem_flatMap.2 ⟨x,by simpa using z,q⟩)
theorem Z4X {call:EO} {E:Env} {k:Nat} {H H1:Heap} {s:List V} {o:Oper} {v:V} (hc:CS E o = .s) (h:BU call E k H s o=some (v,H1)) :
  H1=H/\∀H' k',BU call E k' H' s o=some (v,H'):=by
 have key:∀y:Option V,(∀H k,BU call E k H s o=y.map (·,H))->H1=H/\∀H' k',BU call E k' H' s o=some (v,H'):=by
  intro y A;rw[A]at h;obtain⟨C,D⟩:=ZgO h;exact⟨D,fun H' k' =>by rw[A,C];rfl⟩
 obtain⟨dst,op,type,pos,after,guard⟩:=o;cases op<;>simp only[CS]at hc<;>try (cases hc;done)
 case convert=>grind
 case move x=>exact key (some (ev E s x)) (fun H k=>rfl)
 case pick c x y=>
  refine key (match ev E s c with | .lit (.bool t)=>some (if t then ev E s x else ev E s y)|_=>none) (fun H k=>?_);simp only[BU];split<;>simp_all
 case build t ps=>exact key (XM E t (ps.toList.map fun(i,x)=>(i,ev E s x))) (fun H k=>rfl)
 case binOp op t x y z=>exact key (Nr E op t (ev E s x) (ev E s y)) (fun H k=>rfl)
 case unOp op t x=>exact key (kX op (ev E s x)) (fun H k=>rfl)
 case sliceToArrayPointer t x=>exact key (X9 E t (ev E s x)) (fun H k=>rfl)
 case field t x f=>exact key (XK E t (ev E s x) f) (fun H k=>rfl)
 case fieldAddr t x f=>exact key (WQ E t (ev E s x) f) (fun H k=>rfl)
 case index t x i=>exact key (XF E t (ev E s x) (ev E s i)) (fun H k=>rfl)
 case nilCheck x=>
  refine key (match Uo (ev E s x) with|some false=>some (ev E s x)|_=>none) (fun H k=>?_);simp only[BU];split<;>simp_all
 case lookup t m x ok=>exact key (XU E t ok (ev E s m) (ev E s x)) (fun H k=>rfl)
 case extract x i=>
  refine key (match ev E s x with | .BK vs=>vs[i]? | _=>none) (fun H k=>?_);simp only[BU];split<;>simp_all
 case makeFunc fn first caps=>
  cases fn with
  | func f=>exact key (some (.fn f (evs E s first) (evs E s caps))) (fun H k=>rfl)
  | _=>simp[BU]at h
 case assign x=>
  by_cases F:x = .const (.slice none 0 0)
  ·subst F;cases hc
  ·refine key (some (ev E s x)) (fun H k=>?_);unfold BU;split<;>simp_all
 case call c=>
  split at hc
  ·cases hc
  ·rename_i q;exact key (Qa false (evs E s c.args)) (fun H k=>by simp only[BU,q];rfl)
  ·rename_i q;exact key (Qa true (evs E s c.args)) (fun H k=>by simp only[BU,q];rfl)
  ·grind
  ·grind
  ·cases hc
theorem ZA2 {E:Env} {H H' : Heap} {q dst:TypeId} {x r:V} (h:Iz E H q dst x=some (r,H')):H' = H:=by
 unfold Iz at h
 grind
theorem Zcy {E:Env} {H H' : Heap} {t:TypeId} {x r:V} {z q:Option V} (h:Jp E H t x z q none=some (r,H')):H' = H:=by
 unfold Jp at h
 grind
theorem Z3w {E:Env} {s:List V} {o:Oper} {c:Call} (z:o.op = .call c) {H H' : Heap} (h:Dl (Ea E s o) H H'):Dl ((evs E s c.args).flatMap D5) H H' :=by
 intro i q;simp only[evs,List.mem_flatMap,List.mem_map]at q;obtain⟨v,⟨x,A,rfl⟩,q⟩:=q;refine h i (List.mem_flatMap.2 ⟨x,?_,q⟩);simp at A;simp[z,Op.operands,Call.operands,A]
theorem Z2U {E:Env} {s:List V} {o:Oper} {c:Call} (z:o.op = .call c) {i:Nat} (q:i∈(evs E s c.args).flatMap D5):i∈Ea E s o:=by
 simp only[evs,List.mem_flatMap,List.mem_map]at q;obtain⟨v,⟨x,A,rfl⟩,q⟩:=q;refine List.mem_flatMap.2 ⟨x,?_,q⟩;simp at A;simp[z,Op.operands,Call.operands,A]
theorem Zzj {E:Env} {s:List V} {o:Oper} {t:TypeId} {n:Nat} {ps:Array (Nat×Operand)} (z:o.op = .buildSlice t n ps) {i:Nat}
  (q:i∈((ps.toList.map fun(i,x)=>(i,ev E s x)).map (·.2)).flatMap D5):i∈Ea E s o:=by
 simp only[List.map_map,List.mem_flatMap,List.mem_map]at q;obtain⟨v,⟨p,hp,rfl⟩,q⟩:=q;refine List.mem_flatMap.2 ⟨p.2,?_,q⟩;simp only[z,Op.operands]
 grind
theorem ZFY {H H' : Heap} {id:Nat} (h:(H[id]?).map Box.low=(H'[id]?).map Box.low):(H'.getD id default).BA=(H.getD id default).BA:=by
 simp only[List.getD];cases q:H[id]? with
 | none=>grind
 | some b=>cases z:H'[id]? with
  | none=>simp[q,z]at h
  | some A =>
   simp only[q,z,Option.map_some,Option.some.injEq]at h;show A.BA=b.BA;exact(congrArg Box.BA h).symm
theorem bump_nil (H:Heap):bump H []=H:=rfl
theorem Zzw {E:Env} {H H1:Heap} {t:TypeId} {x v:V} {F D G:Option V} (h:Jp E H t x F D G=some (v,H1)) :
  ∃ids,(∀i∈ids,i∈D5 x)/\H1=bump H ids/\∀H',Dl (D5 x) H H' -> Jp E H' t x F D G=some (v,bump H' ids):=by
 cases G with
 | none=>
  have:=Zcy h;subst this;refine⟨[],by simp,(bump_nil _).symm,fun H' hs=>?_⟩;rw[bump_nil];have e:(Jp E H' t x F D none).map (·.1)=(Jp E H1 t x F D none).map (·.1):=by
   simp only[Jp];rw[Zax hs,Z38 hs];split
   ·split
    ·rfl
    ·split
     ·rfl
     grind
   ·rfl
  cases hc:Jp E H' t x F D none with
  | none=>simp_all
  | some r=>
   obtain⟨r,J⟩:=r;have:=Zcy hc
   simp_all
 | some m=>
  simp only[Jp]at h ⊢;split at h
  ·rename_i hf;split at h
   ·cases h
   ·rename_i n I;split at h
    ·cases h
    ·rename_i M A;split at h
     ·cases h
     ·rename_i l C;have key:∀H',Dl (D5 x) H H' -> QM E H' t x=true/\lenOf H' x=some n/\elemsOf H' x=elemsOf H x:=fun H' hs=>⟨by rw[Zax hs];exact hf,by rw[Z38 hs];exact I,rH hs⟩;split at h
      ·rename_i k xs b e hk z;split at h
       ·rename_i q;simp only[Option.some.injEq,Prod.mk.injEq]at h;obtain⟨rfl,rfl⟩:=h;refine⟨[],by simp,(bump_nil _).symm,fun H' hs=>?_⟩;obtain⟨q1,q2,q3⟩:=key H' hs;rw[if_pos q1,q2,bump_nil];simp only[A,C,hk,q3,z,if_pos q]
       ·cases h
      ·rename_i k xs b e hk z;split at h
       ·rename_i q;simp only[Option.some.injEq,Prod.mk.injEq]at h;obtain⟨rfl,rfl⟩:=h;refine⟨[],by simp,(bump_nil _).symm,fun H' hs=>?_⟩;obtain⟨q1,q2,q3⟩:=key H' hs;rw[if_pos q1,q2,bump_nil];simp only[A,C,hk,q3,z,if_pos q]
       ·cases h
      ·rename_i k xs id off len tot hk z;split at h
       ·rename_i q;simp only[Option.some.injEq,Prod.mk.injEq]at h;obtain⟨rfl,rfl⟩:=h;refine⟨[id],by simp[D5,Ec],rfl,fun H' hs=>?_⟩;obtain⟨q1,q2,q3⟩:=key H' hs;rw[if_pos q1,q2];simp only[A,C,hk,q3,z,if_pos q,ZFY (hs id (by simp[D5,Ec]))]
       ·cases h
      ·cases h
  ·cases h
theorem Zy5 {E:Env} {H H1:Heap} {n:Nat} {e:TypeId} {x v:V} {A q C:Option V} (h:PK E H n e x A q C=some (v,H1)) :
  ∃ids,(∀i∈ids,i∈D5 x)/\H1=bump H ids/\∀H',Dl (D5 x) H H' -> PK E H' n e x A q C=some (v,bump H' ids):=by
 unfold PK at h;split at h
 ·rename_i id i off tot Y F;cases hb:Dt H id tot with
  | none=>simp[hb]at h
  | some b=>
   simp only[hb]at h;split at h
   ·rename_i cs z G;split at h
    ·rename_i hc;simp only[Option.some.injEq,Prod.mk.injEq]at h;obtain⟨rfl,rfl⟩:=h;refine⟨[id],by simp[D5,Ec],rfl,fun H' hs=>?_⟩;obtain⟨I,S,D⟩:=QQ (hs id (by simp[D5,Ec])) hb;obtain⟨J,M,N,O,Q⟩:=Uc D;unfold PK
     simp_all
    ·cases h
   ·cases h
 ·cases h
theorem Zho {call:EO} {E:Env} (O:xE E call) {k:Nat} {H H1:Heap} {s:List V} {o:Oper} {v:V} (hc:CS E o≠.w) (hcc:CS E o≠.c) (hq:quietAt E s o=true) (h:BU call E k H s o=some (v,H1)) :
  Eff call E k H s o v H1:=by
 by_cases hs:CS E o = .s
 ·obtain⟨G,S⟩:=Z4X hs h;exact⟨[],none,by simp,by simp,G,fun H' k' _ _=>S H' k'⟩
 have mk:∀(nb:Option Box),CS E o = .a->(nb.isSome=true)->(∀H k,BU call E k H s o=nb.map fun b=>((if b.row then V.Bl k 0 b.xs.length b.xs.length else V.ptr k 0 0 1),place H k b))->Eff call E k H s o v H1:=by
  intro nb Y hnb D;cases nb with
  | none=>cases hnb
  | some b=>
   rw[D]at h;simp only[Option.map_some,Option.some.injEq,Prod.mk.injEq]at h;obtain⟨G,S⟩:=h;refine⟨[],some b,by simp,fun _=>Y,S.symm,fun H' k' hk _=>?_⟩;rw[D,hk Y];simp only[Option.map_some,G];rfl
 obtain⟨dst,op,type,pos,after,guard⟩:=o;cases op<;>try (refine absurd ?_ hs;simp[CS];done)
 case assign x=>
  by_cases hx:x = .const (.slice none 0 0)
  ·subst hx;cases q:E.ti type with
   | none=>simp[BU,q]at h
   | some i=>
    obtain⟨ty,sz,by',z0⟩:=i;cases ty with
    | slice e=>exact mk (some (CJ true false e ((E.size e).getD 0) [])) rfl rfl (fun H k=>by simp only[BU,q,Option.map_some];rfl)
    | _=>simp[BU,q]at h
  ·refine absurd ?_ hs;unfold CS;split<;>simp_all
 case alloc t=>
  cases q:E.ti t with
  | none=>simp[BU,q]at h
  | some i=>
   cases hz:i.zero with
   | none=>simp[BU,q,hz]at h
   | some z=>
    by_cases A:z.cells.length=i.size/\okV z=true
    ·exact mk (some (CJ false false t i.size [z])) rfl rfl (fun H k=>by simp only[BU,q,hz,A,and_self,if_true,Option.map_some];rfl)
    ·simp[BU,q,hz,A]at h
 case box t x=>
  cases q:E.ti t with
  | none=>simp[BU,q]at h
  | some i=>
   by_cases A:(ev E s x).cells.length=i.size/\okV (ev E s x)=true
   ·exact mk (some (CJ false false t i.size [ev E s x])) rfl rfl (fun H k=>by simp only[BU,q,A,and_self,if_true,Option.map_some];rfl)
   ·simp[BU,q,A]at h
 case makeSlice t l c=>
  have hlen:∀(n:Int) (z:V),(List.replicate n.toNat z).length=n.toNat:=fun n z=>by simp
  cases q:E.ti t with
  | none=>simp[BU,q]at h
  | some i=>
   obtain⟨ty,sz,by',z0⟩:=i;cases ty with
   | slice e=>
    cases hl:ev E s l with
    | lit lv=>
     cases lv with
     | int k1 n=>
      cases I:ev E s c with
      | lit cv=>
       cases cv with
       | int k2 m=>
        cases M:E.ti e with
        | none=>simp[BU,q,hl,I,M]at h
        | some ei=>
         cases hz:ei.zero with
         | none=>simp[BU,q,hl,I,M,hz]at h
         | some z=>
          by_cases A:0<=n/\n<=m/\m.toNat*ei.bytes<=lim/\m<=maxLen/\0<ei.size/\z.cells.length=ei.size/\okV z=true
          ·refine mk (some (CJ true false e ei.size (List.replicate n.toNat (EU (E.rows e) z)))) rfl rfl (fun H k=>?_);simp only[BU,q,hl,I,M,hz,Option.map_some];rw[if_pos A];simp[CJ]
          ·simp only[BU,q,hl,I,M,hz]at h;rw[if_neg A]at h;cases h
       | _=>simp[BU,q,hl,I]at h
      | _=>simp[BU,q,hl,I]at h
     | _=>simp[BU,q,hl]at h
    | _=>simp[BU,q,hl]at h
   | _=>simp[BU,q]at h
 case buildSlice t n ps=>
  have D:∀H k,BU call E k H s { dst:=dst,op:=.buildSlice t n ps,type:=type,pos:=pos,after:=after,guard:=guard }=QF E k H t n (ps.toList.map fun(i,x)=>(i,ev E s x)):=fun H k=>rfl;have J:=fun i=>Zzj (E:=E) (s:=s) (o:={ dst:=dst,op:=.buildSlice t n ps,type:=type,pos:=pos,after:=after,guard:=guard }) rfl (i:=i);rw[D]at h;generalize (ps.toList.map fun(i,x)=>(i,ev E s x))=Q at D h J;unfold QF at h;split at h
  ·rename_i e sz by' z0 q;split at h
   ·rename_i ei M;split at h
    ·rename_i z vs hz hf;split at h
     ·rename_i A;split at h
      ·rename_i xs hfe;simp only[Option.some.injEq,Prod.mk.injEq]at h;obtain⟨G,S⟩:=h;refine⟨(Q.map (fun p:Nat×V=>p.2)).flatMap EH,some (CJ true false e ei.size xs),fun i F=>J i (Z2G F),fun _=>by simp[CS],S.symm,fun H' k' hk hs=>?_⟩;have hfr:Fp H' (Q.map (·.2))=some vs:=by rw[Z2C (fun i F=>hs i (J i F))];exact hf
       have hkk:k' = k:=hk (by simp[CS]);rw[D,hkk,<- G];simp only[QF,q,M,hz,hfr,hfe];rw[if_pos A];rfl
      ·cases h
     ·cases h
    ·cases h
   ·cases h
  ·cases h
 case load t x=>exact vS (y:=fun H=>Nb E H t (ev E s x)) (fun H k=>rfl) h (fun H' hs=>ZBs (jH hs (by simp[Op.operands])))
 case indexAddr t x i=>exact vS (y:=fun H=>QI E H t (ev E s x) (ev E s i)) (fun H k=>rfl) h (fun H' hs=>Zqf (jH hs (by simp[Op.operands])))
 case convert src dst2 x=>
  have hx:x∈(Op.convert src dst2 x).operands:=by simp[Op.operands]
  by_cases hb:(E.isStr src&&E.isBytes dst2)=true
  ·have Y:CS E { dst:=dst,op:=.convert src dst2 x,type:=type,pos:=pos,after:=after,guard:=guard } = .a:=by simp only[CS];rw[if_pos hb]
   have D:∀H k,BU call E k H s { dst:=dst,op:=.convert src dst2 x,type:=type,pos:=pos,after:=after,guard:=guard }=NY E k H dst2 (ev E s x):=fun H k=>by simp only[BU];rw[if_pos hb]
   cases N:ev E s x with
   | lit v=>
    cases v with
    | string st=>
     cases q:E.ti dst2 with
     | none=>rw[D,N]at h;simp[NY,q]at h
     | some i=>
      obtain⟨ty,sz,by',z0⟩:=i;cases ty with
      | slice e=>
       by_cases G:E.size e=some 1
       ·exact mk (some (CJ true false e 1 (bytesV st))) Y rfl (fun H k=>by rw[D,N];simp only[NY,q,G,if_true,Option.map_some];rw[show (CJ true false e 1 (bytesV st)).xs.length=st.size from by simp only[CJ,bytesV,List.length_map];exact Array.length_toList];rfl)
       ·rw[D,N]at h;simp[NY,q,G]at h
      | _=>rw[D,N]at h;simp[NY,q]at h
    | _=>rw[D,N]at h;simp[NY]at h
   | _=>rw[D,N]at h;simp[NY]at h
  have hcv0:∀H k,BU call E k H s { dst:=dst,op:=.convert src dst2 x,type:=type,pos:=pos,after:=after,guard:=guard }=Iz E H src dst2 (ev E s x):=fun H k=>by simp only[BU];rw[if_neg hb]
  refine vS (y:=fun H=>(Iz E H src dst2 (ev E s x)).map (·.1)) (fun H k=>?_) h (fun H' hs=>?_)
  ·rw[hcv0];cases I:Iz E H src dst2 (ev E s x) with
   | none=>rfl
   | some r=>
    obtain⟨r,H2⟩:=r;have:=ZA2 I;subst this;rfl
  ·have G:=jH hs hx;simp only[Iz];generalize ev E s x=ex at G ⊢;split
   ·grind
   ·split<;>rfl
   ·rw[vG G,rH G]
    grind
 case slice t x lo F mx=>
  have hx:x∈(Op.slice t x lo F mx).operands:=by simp[Op.operands]
  by_cases harr:∃n e sz by' z0,E.ti t=some ⟨.array n e,sz,by',z0⟩
  ·obtain⟨n,e,sz,by',z0,q⟩:=harr;have D:∀H k,BU call E k H s { dst:=dst,op:=.slice t x lo F mx,type:=type,pos:=pos,after:=after,guard:=guard }=PK E H n e (ev E s x) (lo.map (ev E s)) (F.map (ev E s)) (mx.map (ev E s)):=fun H k=>by simp only[BU,q]
   rw[D]at h;obtain⟨ids,g1,g2,g3⟩:=Zy5 h;exact⟨ids,none,fun i F=>List.mem_flatMap.2 ⟨x,by simpa using hx,g1 i F⟩,by simp,g2,fun H' k' _ hs=>by rw[D];exact g3 H' (jH hs hx)⟩
  ·have D:∀H k,BU call E k H s { dst:=dst,op:=.slice t x lo F mx,type:=type,pos:=pos,after:=after,guard:=guard }=Jp E H t (ev E s x) (lo.map (ev E s)) (F.map (ev E s)) (mx.map (ev E s)):=fun H k=>by
    simp only[BU]
    simp_all
   rw[D]at h;obtain⟨ids,g1,g2,g3⟩:=Zzw h;exact⟨ids,none,fun i F=>List.mem_flatMap.2 ⟨x,by simpa using hx,g1 i F⟩,by simp,g2,fun H' k' _ hs=>by rw[D];exact g3 H' (jH hs hx)⟩
 case call c=>
  cases C:c.callee with
  | invoke r n=>exact absurd (by simp[CS,C]) hc
  | builtin b=>
   by_cases hb:b = .len
   ·subst hb;have D:∀H k,BU call E k H s { dst:=dst,op:=.call c,type:=type,pos:=pos,after:=after,guard:=guard }=QS E k H s .len (evs E s c.args) c.argTypes.toList:=fun H k=>by simp only[BU,C]
    refine vS (y:=fun H=>(QS E 0 H s .len (evs E s c.args) c.argTypes.toList).map (·.1)) (fun H k=>?_) h (fun H' hs=>?_)
    ·rw[D];unfold QS;split<;>try rfl
     ·split
      ·cases lenOf H _<;>rfl
      ·rfl
     all_goals simp_all
    ·have G:=Z3w rfl hs;generalize evs E s c.args=xs at G ⊢;simp only[QS];split<;>try rfl
     ·split
      ·rw[Z38 (fun i F=>G i (by simpa using F))];rename_i x t _ _ _;cases lenOf H x<;>rfl
      ·rfl
     all_goals simp_all
   ·exfalso;revert hc hs;unfold CS;cases b<;>simp_all
  | value f=>
   cases f with
   | func f=>
    by_cases hp:Xg E f=true
    ·have D:∀H k,BU call E k H s { dst:=dst,op:=.call c,type:=type,pos:=pos,after:=after,guard:=guard }=call f (evs E s c.args) H:=fun H k=>by simp[BU,C,ev]
     rw[D]at h;obtain⟨G,S⟩:=O f hp _ _ _ _ h;refine⟨(evs E s c.args).flatMap EH,none,fun i F=>Z2U rfl (Z2G F),by simp,G,fun H' k' _ hs=>?_⟩;rw[D];exact S H' (Z3w rfl hs)
    ·by_cases hfr:Qk E f=true
     ·exact absurd (by unfold CS;simp only[C];rw[if_neg hp,if_pos hfr]) hcc
     ·exact absurd (by unfold CS;simp only[C];rw[if_neg hp,if_neg hfr]) hc
   | tmp t=>
    have hqt:(E.quiet&&type != 0)=true:=by
     cases hh:(E.quiet&&type != 0) with
     | true=>rfl
     | false=>exact absurd (by simp only[CS,C,hh];rfl) hc
    simp only[quietAt,C,hqt,Bool.not_true,Bool.false_or]at hq;cases hv:s.getD t .und with
    | fn g a b=>
     rw[hv]at hq;simp only[wZ,Bool.and_eq_true]at hq;have D:∀H k,BU call E k H s { dst:=dst,op:=.call c,type:=type,pos:=pos,after:=after,guard:=guard }=call g (a++evs E s c.args++b) H:=fun H k=>by
      simp only[BU,C,ev,hv]
     rw[D]at h;obtain⟨G,S⟩:=O g hq.1 _ _ _ _ h;have hin:∀i∈(a++evs E s c.args++b).flatMap D5,i∈Ea E s { dst:=dst,op:=.call c,type:=type,pos:=pos,after:=after,guard:=guard }:=by
      intro i F;obtain⟨x,hx,hix⟩:=List.mem_flatMap.1 F;have hab:x∈a++b->i∈Ea E s { dst:=dst,op:=.call c,type:=type,pos:=pos,after:=after,guard:=guard }:=fun hm=>by
       have hnf:=List.all_eq_true.1 hq.2 x hm;have hix' : i∈jX x:=by cases x<;>first|exact hix|(simp[yM]at hnf)
       refine List.mem_flatMap.2 ⟨.tmp t,by simp[Op.operands,Call.operands,C],?_⟩;show i∈D5 (s.getD t .und);rw[hv];exact List.mem_flatMap.2 ⟨x,hm,hix'⟩
      rcases List.mem_append.1 hx with hx|hx
      ·rcases List.mem_append.1 hx with hx|hx
       ·simp_all
       ·exact Z2U rfl (List.mem_flatMap.2 ⟨x,hx,hix⟩)
      ·simp_all
     refine⟨(a++evs E s c.args++b).flatMap EH,none,fun i F=>hin i (Z2G F),by simp,G,fun H' k' _ hs=>?_⟩;rw[D];exact S H' fun i F=>hs i (hin i F)
    | _=>rw[hv]at hq;simp[wZ]at hq
   | _=>exact absurd (by simp[CS,C]) hc
 all_goals (refine absurd ?_ hc;simp[CS];done)
theorem Zgc {call:EO} {E:Env} (A:xK E call) {k:Nat} {H H1:Heap} {s:List V} {o:Oper} {v:V} (hc:CS E o = .c) (h:BU call E k H s o=some (v,H1)) :
  ∃ids z,(∀i∈ids,i∈Ea E s o)/\H1=bump H ids++z/\∀H' k',H'.length=H.length->Dl (Ea E s o) H H' -> BU call E k' H' s o=some (v,bump H' ids++z):=by
 obtain⟨dst,op,type,pos,after,guard⟩:=o;cases op<;>simp only[CS]at hc<;>first|(cases hc;done)|skip
 case convert=>split at hc<;>cases hc
 case assign x=>exfalso;revert hc;split<;>simp_all
 case call c=>
  cases q:c.callee with
  | builtin b=>exfalso;revert hc;simp only[q];cases b<;>simp
  | invoke r n=>exfalso;revert hc;simp[q]
  | value f=>
  cases f with
  | tmp _=>exfalso;revert hc;simp only[q];split<;>simp
  | const _=>exfalso;revert hc;simp[q]
  | global _=>exfalso;revert hc;simp[q]
  | func f=>
  simp only[q]at hc;split at hc
  ·cases hc
  ·split at hc
   ·rename_i C;have D:∀H k,BU call E k H s { dst:=dst,op:=.call c,type:=type,pos:=pos,after:=after,guard:=guard }=call f (evs E s c.args) H:=fun H k=>by simp[BU,q,ev]
    rw[D]at h;obtain⟨ids,z,F,G,I⟩:=A f C _ _ _ _ h;exact⟨ids,z,fun i J=>Z2U rfl (F i J),G,fun H' k' hl hs=>by rw[D];exact I H' hl (Z3w rfl hs)⟩
   ·cases hc
end Go.Proofs.YtjodhcdmhobmoaaGreatDoor.Le
namespace Go.Proofs.YtjodhcdmhobmoaaGreatDoor.Le
def Ij (ids:List Nat) (i:Nat) (b:Box):Box:=if i∈ids then { b with floor:=b.xs.length } else b
theorem Q4 {ids:List Nat} {nb:Option Box} {k:Nat} {H:Heap} (hk:nb.isSome=true->k<H.length) (i:Nat) :
  (eff ids nb k H)[i]? = match nb with|some b=>if i=k then some b else (H[i]?).map (Ij ids i)|none=>(H[i]?).map (Ij ids i):=by
 cases nb with
 | none=>simp only[eff];rw[Ld];rfl
 | some b=>
  have q : k<(bump H ids).length:=by rw[bump_length];exact hk rfl
  simp only[eff,place];rw[if_pos q,List.getElem?_set]
  by_cases z:i=k
  ·subst z;simp[q]
  ·rw[if_neg (fun e=>z e.symm),if_neg z,Ld];rfl
theorem WO {ids:List Nat} {nb:Option Box} {k:Nat} {H:Heap} (hk:nb.isSome=true->k<H.length):(eff ids nb k H).length=H.length:=by
 cases nb with
 | none=>exact bump_length H ids
 | some b=>
  have q : k<(bump H ids).length:=by rw[bump_length];exact hk rfl
  simp only[eff,place];rw[if_pos q,List.length_set,bump_length]
theorem tK (Fb ids2:List Nat) (i:Nat) (b:Box):Ij Fb i (Ij ids2 i b)=Ij ids2 i (Ij Fb i b):=by
 unfold Ij
 grind
theorem Z3C {Fb ids2:List Nat} {nb1 nb2:Option Box} {k1 k2:Nat} {H:Heap} (z:nb1.isSome=true->k1<H.length/\k1∉ids2) (A:nb2.isSome=true->k2<H.length/\k2∉Fb)
  (F:nb1.isSome=true->nb2.isSome=true->k1≠k2):eff Fb nb1 k1 (eff ids2 nb2 k2 H)=eff ids2 nb2 k2 (eff Fb nb1 k1 H):=by
 have G:=WO (ids:=Fb) (fun h=>(z h).1);have I:=WO (ids:=ids2) (fun h=>(A h).1);apply List.ext_getElem?;intro i;rw[Q4 (ids:=Fb) (H:=eff ids2 nb2 k2 H) (fun h=>by rw[I];exact(z h).1),Q4 (ids:=ids2) (H:=eff Fb nb1 k1 H) (fun h=>by rw[G];exact(A h).1),Q4 (ids:=Fb) (H:=H) (fun h=>(z h).1),Q4 (ids:=ids2) (H:=H) (fun h=>(A h).1)];cases nb1 with
 | none=>
  cases nb2 with
  | none=>
   simp only;cases H[i]? with
   | none=>rfl
   | some b=>simp only[Option.map_some,tK]
  | some b2=>
   simp only
   by_cases q:i=k2
   ·subst q;simp only[if_true,Option.map_some];simp[Ij,(A rfl).2]
   ·simp only[q,if_false];cases H[i]? with
    | none=>rfl
    | some b=>simp only[Option.map_some,tK]
 | some b1=>
  cases nb2 with
  | none=>
   simp only
   by_cases q:i=k1
   ·subst q;simp only[if_true,Option.map_some];simp[Ij,(z rfl).2]
   ·simp only[q,if_false];cases H[i]? with
    | none=>rfl
    | some b=>simp only[Option.map_some,tK]
  | some b2=>
   have D:=F rfl rfl;simp only
   by_cases q:i=k1
   ·subst q;rw[if_pos rfl,if_neg D,if_pos rfl];simp[Ij,(z rfl).2]
   ·by_cases C:i=k2
    ·subst C;rw[if_neg q,if_pos rfl,if_pos rfl];simp[Ij,(A rfl).2]
    ·rw[if_neg q,if_neg C,if_neg C,if_neg q];cases H[i]? with
     | none=>rfl
     | some b=>simp only[Option.map_some,tK]
theorem ZfH (ids:List Nat) (i:Nat) (b:Box):(Ij ids i b).low=b.low:=by
 unfold Ij;split<;>rfl
theorem U8 {R ids:List Nat} {nb:Option Box} {k:Nat} {H:Heap} (hk:nb.isSome=true->k<H.length/\k∉R):Dl R H (eff ids nb k H):=by
 intro i q;rw[Q4 (fun h=>(hk h).1)];cases nb with
 | none=>
  simp only;cases H[i]? with
  | none=>rfl
  | some b=>simp only[Option.map_some,ZfH]
 | some b=>
  have:i≠k:=fun e=>(hk rfl).2 (e▸q);simp only[this,if_false];cases H[i]? with
  | none=>rfl
  | some b=>simp only[Option.map_some,ZfH]
theorem Dl.symm {R:List Nat} {H H' : Heap} (h:Dl R H H'):Dl R H' H:=fun i q=>(h i q).symm
theorem ZgG {ids:List Nat} {nb:Option Box} {k j:Nat} {H:Heap} (hk:nb.isSome=true->k<H.length/\k≠j):(∃b,(eff ids nb k H)[j]? = some b/\b.live=false)↔∃b,H[j]? = some b/\b.live=false:=by
 rw[Q4 (fun h=>(hk h).1)];have hm:(∃b,(H[j]?).map (Ij ids j)=some b/\b.live=false)↔∃b,H[j]? = some b/\b.live=false:=by
  cases H[j]? with
  | none=>simp
  | some b=>
   simp only[Option.map_some,Option.some.injEq,exists_eq_left'];unfold Ij;split<;>rfl
 grind
section
variable {call:EO} {E:Env} {ops:Array Oper} {ms:List Nat} {lt:List (Nat×(Nat⊕Nat))} {s0:List V} {base m:Nat}
def Dc (E:Env) (o:Oper) (base i:Nat) (H:Heap):Nat:=if CS E o = .a then base+i else H.length
def Q5 (E:Env) (ops:Array Oper) (ms:List Nat) (base m i:Nat) (s:List V) (o:Oper):Prop:=(∀id∈Ea E s o,id<base\/(base+m<=id/\XL E ops ms i=true)\/(id<base+m/\(ms.getD i 0).testBit (id - base)=true))/\quietAt E s o=true
theorem vF {i:Nat} {o:Oper} (A:ops[i]? = some o) {st st' : St}:Ik call E ops ms lt s0 base m i st=some st' ↔
  Q5 E ops ms base m i st.s o/\(Ho E ms lt s0 base i st.s st.H o=true/\(CS E o = .c->base+m<=st.H.length))/\(CS E o = .a->∃b,st.H[base+i]? = some b/\b.live=false)/\∃v H',GV call E ops (Dc E o base i st.H) o st=some (v,H')/\st' = ⟨setSlot st.s o.dst v,H'⟩:=by
 have C:∀k,KT call E ops k i st=some st' ↔∃v H',GV call E ops k o st=some (v,H')/\st' = ⟨setSlot st.s o.dst v,H'⟩:=by
  intro k;unfold KT;simp only[A];cases z:GV call E ops k o st with
  | none=>simp
  | some r=>
   grind
 unfold Ik;simp only[A];have q:(((Ea E st.s o).all fun id=>decide (id<base)||(decide (base+m<=id)&&XL E ops ms i)||(decide (id<base+m)&&(ms.getD i 0).testBit (id - base)))&&quietAt E st.s o&&(Ho E ms lt s0 base i st.s st.H o&&(!decide (CS E o = .c)||decide (base+m<=st.H.length))))=true↔
   Q5 E ops ms base m i st.s o/\Ho E ms lt s0 base i st.s st.H o=true/\(CS E o = .c->base+m<=st.H.length):=by
  unfold Q5;rw[Bool.and_eq_true,Bool.and_eq_true,Bool.and_eq_true,List.all_eq_true];have hc:(!decide (CS E o = .c)||decide (base+m<=st.H.length))=true↔(CS E o = .c->base+m<=st.H.length):=by
   by_cases h:CS E o = .c<;>simp[h]
  rw[hc];simp only[Bool.or_eq_true,Bool.and_eq_true,decide_eq_true_eq,or_assoc]
 by_cases hs:Q5 E ops ms base m i st.s o/\Ho E ms lt s0 base i st.s st.H o=true/\(CS E o = .c->base+m<=st.H.length)
 ·rw[if_pos (q.2 hs)];unfold Dc
  grind
 grind
theorem Z1Y {o:Oper} {a:Operand} (h:QT o=some a):(∃t v,o.op = .store t a v)\/∃c x,o.op = .call c/\c.callee = .builtin .append/\c.args.toList=[a,x]:=by
 unfold QT at h
 grind
theorem Zcc {o:Oper} {a:Operand} (h:QT o=some a):a∈o.op.operands:=by
 rcases Z1Y h with ⟨t,v,q⟩|⟨c,x,q,A,z⟩
 ·simp[q,Op.operands]
 ·have:a∈c.args:=by
   have:a∈c.args.toList:=by rw[z];simp
   simpa using this
  simp[q,Op.operands,Call.operands,this]
theorem wQ {o:Oper} {t:Nat⊕Nat} (h:X7 E ops o=some t):CS E o = .w/\o.guard=none/\∃d,QT o=some (.tmp d):=by
 unfold X7 at h;split at h
 ·rename_i d C z;refine⟨?_,C,⟨d,z⟩⟩;rcases Z1Y z with ⟨t,v,q⟩|⟨c,x,q,A,D⟩
  ·unfold CS;rw[q]
  ·unfold CS;rw[q];simp only[A]
 ·cases h
theorem ZBL {x:Nat} {t:Nat⊕Nat} (h:(x,t)∈Qh E ops):∃ox,ops[x]? = some ox/\X7 E ops ox=some t:=by
 unfold Qh at h
 grind
theorem ZgM {o:Oper} (h:needs E o=true):CS E o≠.w:=by
 unfold needs at h
 grind
theorem Zzc {s:List V} {o:Oper} {d:Option Tmp} {v:V} (h:∀q,d=some q -> q ∉o.looksAt ops):addrOf E (setSlot s d v) o=addrOf E s o:=by
 unfold addrOf;split
 ·rename_i a A;exact xO _ fun q z=>vV (h q z) a (Zcc A)
 ·rfl
theorem ZfX {s:List V} {H:Heap} {i:Nat} {o:Oper} {d:Option Tmp} {v:V} (h:∀q,d=some q -> q ∉o.looksAt ops):Ho E ms lt s0 base i (setSlot s d v) H o=Ho E ms lt s0 base i s H o:=by
 unfold Ho;rw[Zzc h,Z35 h]
theorem Mc {s:List V} {H H' : Heap} {i:Nat} {o:Oper} (h:∀t,(i,t)∉lt) (hl:Ho E ms lt s0 base i s H o=true):Ho E ms lt s0 base i s H' o=true:=by
 unfold Ho at *;rw[List.all_eq_true]at *
 grind
theorem Ze4 {s:List V} {H H' : Heap} {i:Nat} {o:Oper} (h:∀p∈lt,∀k,p.1=i->S9 base s0 p.2=some k->H'[k]? = H[k]?) (hl:Ho E ms lt s0 base i s H o=true):Ho E ms lt s0 base i s H' o=true:=by
 unfold Ho at *;rw[List.all_eq_true]at *;intro p hp;have q:=hl p hp;cases A:S9 base s0 p.2 with
 | none=>rw[A]at q;cases q
 | some k=>
  rw[A]at q;simp only at q ⊢;split
  ·rename_i C;rw[if_pos C]at q;have hk:=h p hp k C A;unfold PH at *;split at q
   ·rename_i id a b tot z;simp only[Bool.and_eq_true,beq_iff_eq]at q ⊢;obtain⟨rfl,q⟩:=q;refine⟨rfl,?_⟩;unfold Dt at *
    simp_all
   ·grind
   ·cases q
  simp_all
theorem Zz1 {H H1:Heap} {t:TypeId} {a v:V} {k:Nat} (hl:PH H a k=true) (h:NP E H t a v=some H1) :
  ∃b,k<H.length/\H1=H.set k b/\∀H',H'[k]? = H[k]? -> NP E H' t a v=some (H'.set k b):=by
 unfold PH at hl;split at hl
 ·rename_i id i off tot;simp only[Bool.and_eq_true,beq_iff_eq]at hl;obtain⟨rfl,hl⟩:=hl;cases hb:Dt H id tot with
  | none=>rw[hb]at hl;cases hl
  | some b=>
   rw[hb]at hl;simp only[Bool.not_eq_true']at hl;have q:id<H.length:=by
    unfold Dt at hb;cases D:H[id]? with
    | none=>rw[D]at hb;cases hb
    | some b0=>grind
   have A : ∀H' : Heap,H'[id]? = H[id]? -> Dt H' id tot=some b:=fun H' C=>by
    unfold Dt at *
    grind
   unfold NP at h;cases z:E.ti t with
   | none=>simp_all
   | some I=>
    simp only[z,hb]at h;cases F:b.xs[i]? with
    | none=>simp_all
    | some x=>
     simp only[F,hl,Bool.false_eq_true,if_false]at h;split at h
     ·rename_i hc;cases hs:NK x off v.cells with
      | none=>simp_all
      | some J =>
       simp only[hs]at h;split at h
       ·rename_i G;simp only[Option.some.injEq]at h;refine⟨_,q,h.symm,fun H' C=>?_⟩;unfold NP
        simp_all
       ·cases h
     ·cases h
 ·unfold NP at h;split at h<;>cases h
 ·cases hl
theorem ZvB {H H1:Heap} {k0:Nat} {t u:TypeId} {a x r:V} {k:Nat} (hl:PH H a k=true) (h:NL E k0 H t u a x=some (r,H1)) :
  ∃b,k<H.length/\H1=H.set k b/\∀k' H',H'[k]? = H[k]? -> Dl (D5 x) H H' -> NL E k' H' t u a x=some (r,H'.set k b):=by
 unfold PH at hl;split at hl
 ·unfold NL at h
  grind
 ·rename_i id off len tot;simp only[Bool.and_eq_true,beq_iff_eq]at hl;obtain⟨rfl,hl⟩:=hl;have z:id<H.length:=by
   cases J:H[id]? with
   | none=>rw[J]at hl;cases hl
   | some b0=>exact(List.getElem?_eq_some_iff.1 J).1
  unfold NL at h;split at h
  ·rename_i e sz by' Q A;split at h
   ·rename_i O ys q C D;split at h
    ·rename_i G;simp only at h;cases hb:Dt H id tot with
     | none=>rw[hb]at h;cases h
     | some b=>
      simp only[hb]at h;split at h
      ·rename_i hc;split at h
       ·rename_i M;simp only[Option.some.injEq,Prod.mk.injEq]at h;obtain⟨rfl,rfl⟩:=h;refine⟨_,z,rfl,fun k' H' I hs=>?_⟩;have F : Dt H' id tot=some b:=by
         unfold Dt at *;rw[I];exact hb
        unfold NL;simp only[A,q,C,rH hs,D,vG hs]
        simp_all
       ·cases h
      ·rename_i N;split at h
       ·rename_i hc;simp only[Option.some.injEq,Prod.mk.injEq]at h;obtain⟨rfl,rfl⟩:=h;refine⟨_,z,rfl,fun k' H' I hs=>?_⟩;have F : Dt H' id tot=some b:=by
         unfold Dt at *;rw[I];exact hb
        unfold NL;simp only[A,q,C,rH hs,D,vG hs]
        simp_all
       ·cases h
    ·cases h
   ·cases h
  ·cases h
 ·cases hl
theorem wF {ids:List Nat} {nb:Option Box} {k k' : Nat} {H:Heap} {b:Box} (hk:nb.isSome=true->k' < H.length/\k' ≠k) (q:k∉ids):eff ids nb k' (H.set k b)=(eff ids nb k' H).set k b:=by
 apply List.ext_getElem?;intro i;rw[Q4 (H:=H.set k b) (fun h=>by simp_all),List.getElem?_set,List.getElem?_set,WO (fun h=>(hk h).1),Q4 (fun h=>(hk h).1)]
 by_cases z:k=i
 ·subst z;simp only[if_true];cases nb with
  | none=>
   simp only;split
   ·simp[Ij,q]
   ·rfl
  | some b2=>
   have:¬k=k' :=fun e=>(hk rfl).2 e.symm;simp only[this,if_false];split
   ·simp[Ij,q]
   ·rfl
 grind
theorem Zi4 {ids:List Nat} {nb:Option Box} {k k' : Nat} {H:Heap} (hk:nb.isSome=true->k' < H.length/\k' ≠k) (q:k∉ids):(eff ids nb k' H)[k]? = H[k]?:=by
 rw[Q4 (fun h=>(hk h).1)];cases nb with
 | none=>
  simp only;cases H[k]? with
  | none=>rfl
  | some b=>simp[Ij,q]
 | some b2=>
  have:¬k=k' :=fun e=>(hk rfl).2 e.symm;simp only[this,if_false];cases H[k]? with
  | none=>rfl
  | some b=>simp[Ij,q]
theorem ZfI {k i:Nat} {t:Nat⊕Nat} {o:Oper} {s:List V} {H H1:Heap} {v:V} (ht:X7 E ops o=some t) (N:(i,t)∈lt) (hl:Ho E ms lt s0 base i s H o=true) (h:GV call E ops k o ⟨s,H⟩=some (v,H1)) :
  ∃b n,S9 base s0 t=some n/\n∈Ea E s o/\n<H.length/\H1=H.set n b/\∀k' H',H'[n]? = H[n]? -> Dl (Ea E s o) H H' -> GV call E ops k' o ⟨s,H'⟩=some (v,H'.set n b):=by
 obtain⟨_,hg,⟨d,O⟩⟩:=wQ ht;unfold Ho at hl;rw[List.all_eq_true]at hl;have hl:=hl _ N;cases hn:S9 base s0 t with
 | none=>simp_all
 | some n=>
  simp only[hn,if_true]at hl;unfold addrOf at hl;simp only[O]at hl;have A:n∈Ea E s o:=by
   unfold Ea;rw[List.mem_flatMap];refine⟨.tmp d,by simpa using Zcc O,?_⟩;unfold PH at hl;split at hl
   ·rename_i G;simp only[Bool.and_eq_true,beq_iff_eq]at hl;rw[G,<- hl.1];simp[D5,Ec]
   ·rename_i G;simp only[Bool.and_eq_true,beq_iff_eq]at hl;rw[G,<- hl.1];simp[D5,Ec]
   ·cases hl
  unfold GV at h ⊢;simp only[hg]at h ⊢;rcases Z1Y O with ⟨Y,x,q⟩|⟨c,x,q,J,F⟩
  ·unfold BU at h ⊢;simp only[q]at h ⊢;cases D:NP E H Y (ev E s (.tmp d)) (ev E s x) with
   | none=>rw[D]at h;cases h
   | some H2=>
    rw[D]at h;simp only[Option.map_some,Option.some.injEq,Prod.mk.injEq]at h;obtain⟨rfl,rfl⟩:=h;obtain⟨b,z,Q,S⟩:=Zz1 hl D
    grind
  ·have C:evs E s c.args=[ev E s (.tmp d),ev E s x]:=by unfold evs;rw[F];rfl
   unfold BU at h ⊢;simp only[q,J,C]at h ⊢;unfold QS at h ⊢;split at h
   ·rename_i z _;cases z
   ·rename_i a y Y u' hb I he2;simp only[List.cons.injEq,and_true]at I;obtain⟨rfl,rfl⟩:=I;obtain⟨b,z,Q,S⟩:=ZvB hl h;refine⟨b,n,rfl,A,z,Q,fun k' H' G hs=>S k' H' G (fun id M=>hs id ?_)⟩;unfold Ea;rw[List.mem_flatMap];have:x∈c.args:=by
     have:x∈c.args.toList:=by rw[F];simp
     simpa using this
    exact⟨x,by simp[q,Op.operands,Call.operands,this],M⟩
   ·simp_all
   ·rename_i z;cases z
   ·rename_i z;cases z
   ·cases h
theorem ZfY {i x n:Nat} {t:Nat⊕Nat} {o:Oper} {s:List V} {H:Heap} (A:(x,t)∈lt) (C:x≠i) (D:needs E o=true) (z:(ms.getD i 0).testBit x=false) (q : (ms.getD x 0).testBit i=false) (F:S9 base s0 t=some n)
  (hl:Ho E ms lt s0 base i s H o=true):n∉Ea E s o:=by
 unfold Ho at hl;rw[List.all_eq_true]at hl;have hl:=hl _ A;simp only[F,if_neg C,D,linked,z,q,Bool.or_self,Bool.not_true,Bool.false_or,Bool.not_eq_true']at hl;simpa using hl
theorem ZhJ {k:Nat} {o:Oper} {s:List V} {H H1:Heap} {v:V} (hc:CS E o = .s) (h:GV call E ops k o ⟨s,H⟩=some (v,H1)):H1=H/\∀H' k',GV call E ops k' o ⟨s,H'⟩=some (v,H'):=by
 unfold GV at *;cases C:o.guard with
 | none=>simp only[C]at h ⊢;exact Z4X hc h
 | some D=>
  obtain⟨j,z⟩:=D;simp only[C]at h ⊢;cases A:(ops[j]?).bind (·.dst) with
  | none=>simp[A]at h
  | some d=>
   simp only[A]at h ⊢;cases q:PI (s.getD d .und) z with
   | none=>rw[q]at h;cases h
   | some r=>
    rw[q]at h;cases r with
    | true=>simp only at h ⊢;exact Z4X hc h
    | false=>
     simp_all
theorem XA (q:xE E call) {k:Nat} {o:Oper} {s:List V} {H H1:Heap} {v:V} (hc:CS E o≠.w) (z:CS E o≠.c) (G:quietAt E s o=true) (h:GV call E ops k o ⟨s,H⟩=some (v,H1)) :
  ∃ids nb,(∀i∈ids,i∈Ea E s o)/\(nb.isSome=true->CS E o = .a)/\H1=eff ids nb k H /\
   ∀H' k',(CS E o = .a->k' = k)->Dl (Ea E s o) H H' -> GV call E ops k' o ⟨s,H'⟩=some (v,eff ids nb k' H'):=by
 unfold GV at *;cases F:o.guard with
 | none=>simp only[F]at h ⊢;exact Zho q hc z G h
 | some I=>
  obtain⟨j,C⟩:=I;simp only[F]at h ⊢;cases D:(ops[j]?).bind (·.dst) with
  | none=>simp[D]at h
  | some d=>
   simp only[D]at h ⊢;cases A:PI (s.getD d .und) C with
   | none=>rw[A]at h;cases h
   | some r=>
    rw[A]at h;cases r with
    | true=>simp only at h ⊢;exact Zho q hc z G h
    | false=>
     simp only[Option.some.injEq,Prod.mk.injEq]at h ⊢;exact⟨[],none,by simp,by simp,h.2.symm,fun H' k' _ _=>⟨h.1,rfl⟩⟩
theorem uM (q:xK E call) {k:Nat} {o:Oper} {s:List V} {H H1:Heap} {v:V} (hc:CS E o = .c) (h:GV call E ops k o ⟨s,H⟩=some (v,H1)) :
  ∃ids A,(∀i∈ids,i∈Ea E s o)/\H1=bump H ids++A/\∀H' k',H'.length=H.length->Dl (Ea E s o) H H' -> GV call E ops k' o ⟨s,H'⟩=some (v,bump H' ids++A):=by
 unfold GV at *;cases F:o.guard with
 | none=>simp only[F]at h ⊢;exact Zgc q hc h
 | some G=>
  obtain⟨j,C⟩:=G;simp only[F]at h ⊢;cases D:(ops[j]?).bind (·.dst) with
  | none=>simp[D]at h
  | some d=>
   simp only[D]at h ⊢;cases z:PI (s.getD d .und) C with
   | none=>rw[z]at h;cases h
   | some r=>
    rw[z]at h;cases r with
    | true=>simp only at h ⊢;exact Zgc q hc h
    | false=>
     simp only[Option.some.injEq,Prod.mk.injEq]at h ⊢;exact⟨[],[],by simp,by rw[List.append_nil];exact h.2.symm,fun H' k' _ _=>⟨h.1,by rw[List.append_nil];rfl⟩⟩
theorem ZcE {ids:List Nat} {H:Heap} (ys:List Box) (h:∀i∈ids,i<H.length):bump (H++ys) ids=bump H ids++ys:=by
 apply List.ext_getElem?;intro i;rw[Ld,List.getElem?_append,List.getElem?_append,bump_length,Ld]
 grind
theorem Ze8 {ids:List Nat} {nb:Option Box} {k:Nat} {H:Heap} (ys:List Box) (h:∀i∈ids,i<H.length) (hk:nb.isSome=true->k<H.length):eff ids nb k (H++ys)=eff ids nb k H++ys:=by
 cases nb with
 | none=>exact ZcE ys h
 | some b=>
  have hk:=hk rfl;simp only[eff,place,ZcE ys h,List.length_append,bump_length];rw[if_pos (by omega),if_pos hk,List.set_append_left _ _ (by rw[bump_length];exact hk)]
theorem sK {R:List Nat} {H H' : Heap} (ys:List Box) (h:Dl R H H') (z:∀i∈R,i<H'.length):Dl R H (H' ++ys):=by
 intro i q;rw[List.getElem?_append_left (z i q)];exact h i q
theorem Rw (R ids:List Nat) (H:Heap):Dl R H (bump H ids):=by
 have:=U8 (R:=R) (ids:=ids) (nb:=none) (k:=0) (H:=H) (fun h=>by cases h);exact this
theorem Zhq {R:List Nat} {H:Heap} {n:Nat} {b:Box} (h:n∉R):Dl R H (H.set n b):=by
 intro i q
 grind
theorem Dl.trans {R:List Nat} {H H' H2:Heap} (h:Dl R H H') (k:Dl R H' H2):Dl R H H2:=fun i q=>(h i q).trans (k i q)
theorem ZtX {s:List V} {d e:Option Tmp} {v u:V} (h:∀x,d=some x->e≠some x):setSlot (setSlot s d v) e u=setSlot (setSlot s e u) d v:=by
 cases d with
 | none=>rfl
 | some d=>
  cases e with
  | none=>rfl
  | some e=>
   have:d≠e:=fun q=>h d rfl (by rw[q]);simp only[setSlot];exact List.set_comm v u this
theorem ZyA (hcalls:Ou E call) (hm:∀i o,ops[i]? = some o->CS E o = .a->i<m) {x y:Nat} {ox oy:Oper} (hx:ops[x]? = some ox) (hy:ops[y]? = some oy) (hxy:x≠y)
  (O:(jD E ops ox oy||(OI E ops lt x ox oy||OI E ops lt y oy ox))=true) (hlt:∀x t,(x,t)∈lt->∃ox,ops[x]? = some ox/\X7 E ops ox=some t) (hbit:(ms.getD y 0).testBit x=false) (hbit' : (ms.getD x 0).testBit y=false) {st st1 st2:St}
  (h1:Ik call E ops ms lt s0 base m x st=some st1) (h2:Ik call E ops ms lt s0 base m y st1=some st2) :
  ∃st1',Ik call E ops ms lt s0 base m y st=some st1' /\ Ik call E ops ms lt s0 base m x st1' = some st2:=by
 have Q:=hcalls.pure;have hfree:=hcalls.free;have hap:ox.apart ops oy=true\/oy.apart ops ox=true:=by
  simp only[Bool.or_eq_true,jD,OI,Bool.and_eq_true]at O;rcases O with h|h|h
  ·exact .inl h.2
  ·exact .inl h.1
  ·exact .inr h.1
 have hsp:(∀d,ox.dst=some d->d∉oy.looksAt ops)/\(∀d,ox.dst=some d->oy.dst≠some d)/\(∀d,oy.dst=some d->d∉ox.looksAt ops):=by
  rcases hap with h|h
  ·exact Oper.apart_spec h
  ·obtain⟨b1,b2,b3⟩:=Oper.apart_spec h
   grind
 obtain⟨a1,a2,a3⟩:=hsp;obtain⟨s1,⟨l1,c1⟩,d1,vx,Hx,e1,rfl⟩:=(vF hx).1 h1;obtain⟨s2,⟨l2,c2⟩,d2,vy,Hy,e2,rfl⟩:=(vF hy).1 h2;obtain⟨s,H⟩:=st;simp only at *;rw[Zgi a1]at e2;rw[ZfX a1]at l2;have J : Q5 E ops ms base m y s oy:=by unfold Q5 at *;rw[Z35 a1,ZdA a1]at s2;exact s2
 have s1' : Q5 E ops ms base m x (setSlot s oy.dst vy) ox:=by unfold Q5 at *;rw[Z35 a3,ZdA a3];exact s1
 have keptx:CS E ox = .a->base+x<H.length:=fun hc=>by
  grind
 have nox:CS E ox = .a->base+x∉Ea E s oy:=fun hc D=>by
  rcases J.1 _ D with h|⟨h,_⟩|⟨_,h⟩
  ·omega
  ·grind
  simp_all
 have noy:CS E oy = .a->base+y∉Ea E s ox:=fun hc D=>by
  rcases s1.1 _ D with h|⟨h,_⟩|⟨_,h⟩
  ·omega
  ·grind
  simp_all
 have seex:CS E oy = .c->∀id∈Ea E s ox,id<base+m:=fun hc id hid=>by
  rcases s1.1 id hid with h|⟨_,h⟩|⟨h,_⟩
  ·omega
  ·exfalso;unfold XL at h;rw[List.all_eq_true]at h;have:=h y (by grind);simp only[hy,hc,linked,hbit,hbit',decide_true,Bool.not_true,Bool.or_self,Bool.or_false,beq_iff_eq]at this;exact hxy this.symm
  ·exact h
 have seey:CS E ox = .c->∀id∈Ea E s oy,id<base+m:=fun hc id hid=>by
  rcases J.1 id hid with h|⟨_,h⟩|⟨h,_⟩
  ·omega
  ·exfalso;unfold XL at h;rw[List.all_eq_true]at h;have:=h x (by simpa using (Array.getElem?_eq_some_iff.1 hx).1);simp only[hx,hc,linked,hbit,hbit',decide_true,Bool.not_true,Bool.or_self,Bool.or_false,beq_iff_eq]at this;exact hxy this
  ·exact h
 have fin:∀(M : Heap),Q5 E ops ms base m y s oy->(Ho E ms lt s0 base y s H oy=true/\(CS E oy = .c->base+m<=H.length))->(CS E oy = .a->∃b,H[base+y]? = some b/\b.live=false)->GV call E ops (Dc E oy base y H) oy ⟨s,H⟩=some (vy,M) ->
   (Ho E ms lt s0 base x s M ox=true/\(CS E ox = .c->base+m<=M.length))->(CS E ox = .a->∃b,M[base+x]? = some b/\b.live=false)->GV call E ops (Dc E ox base x M) ox ⟨s,M⟩=some (vx,Hy) ->
   ∃st1',Ik call E ops ms lt s0 base m y ⟨s,H⟩=some st1' /\ Ik call E ops ms lt s0 base m x st1' = some ⟨setSlot (setSlot s ox.dst vx) oy.dst vy,Hy⟩:=by
  intro M g1 l3 g2 g3 l4 g4 g5;refine⟨⟨setSlot s oy.dst vy,M⟩,(vF hy).2 ⟨g1,l3,g2,vy,M,g3,rfl⟩,(vF hx).2 ⟨s1',⟨(by rw[ZfX a3];exact l4.1),l4.2⟩,g4,vx,Hy,?_,?_⟩⟩
  ·rw[Zgi a3];exact g5
  ·rw[ZtX a2]
 have q:∀(z:Nat) (oz:Oper),ops[z]? = some oz->CS E oz≠.w->∀t,(z,t)∉lt:=by
  intro z oz hz hc t D;obtain⟨o',ho',ht'⟩:=hlt z t D;rw[hz]at ho';cases ho';exact hc (wQ ht').1
 cases hlx:OI E ops lt x ox oy with
 | true=>
  unfold OI at hlx;simp only[Bool.and_eq_true,List.any_eq_true,beq_iff_eq]at hlx;obtain⟨_,hny,⟨x',t⟩,D,hx'⟩:=hlx;simp only at hx';subst hx';obtain⟨ox',hox',htx⟩:=hlt _ t D;rw[hx]at hox';cases hox';have hnw:=ZgM hny;obtain⟨b,n,hn,hnin,hnlt,rfl,f3⟩:=ZfI htx D l1 e1;have hjy:n∉Ea E s oy:=ZfY D hxy hny hbit hbit' hn l2;have late1:∀M : Heap,M[n]? = H[n]? -> Ho E ms lt s0 base x' s M ox=true:=fun M N=>by
   refine Ze4 (fun p hp k he hk=>?_) l1
   grind
  have ncx:CS E ox = .c->False:=fun hc=>by rw[(wQ htx).1]at hc;cases hc
  by_cases I:CS E oy = .c
  ·obtain⟨idy,S,y1,rfl,y4⟩:=uM hfree I e2;have hl:base+m<=H.length:=by have:=c2 I;rw[List.length_set]at this;exact this
   have F:n∉idy:=fun h=>hjy (y1 _ h);have g3:=y4 H (Dc E oy base y H) (by rw[List.length_set]) (Zhq hjy).symm;have N:(bump H idy++S)[n]? = H[n]?:=by
    rw[List.getElem?_append_left (by rw[bump_length];exact hnlt),Ld];cases H[n]? with
    | none=>rfl
    | some b=>simp[F]
   refine fin _ J ⟨Mc (q y oy hy hnw) l2,fun _=>hl⟩ (fun hc=>by simp_all) g3 ⟨late1 _ N,fun hc=>(ncx hc).elim⟩ (fun hc=>by simp_all) ?_;rw[f3 _ _ N (sK S (Rw _ _ _) (fun i hi=>by rw[bump_length];exact Nat.lt_of_lt_of_le (seex I i hi) hl))];congr 2;rw[List.set_append_left _ _ (by rw[bump_length];exact hnlt)];congr 1;have:=wF (ids:=idy) (nb:=none) (k' :=0) (H:=H) (b:=b) (k:=n) (fun h=>by cases h) F;exact this.symm
  have hne:CS E oy = .a->base+y≠n:=fun hc e=>noy hc (by rw[e];exact hnin);obtain⟨idy,A,y1,y2,rfl,y4⟩:=XA Q hnw I J.2 e2;have hkH:Dc E oy base y (H.set n b)=Dc E oy base y H:=by unfold Dc;rw[List.length_set]
  have deady:CS E oy = .a->∃b,H[base+y]? = some b/\b.live=false:=fun hc=>by
   grind
  have hyl:A.isSome=true->Dc E oy base y H<H.length/\Dc E oy base y H≠n:=fun h=>by
   have hc:=y2 h;obtain⟨b',hb',_⟩:=deady hc;have:=(List.getElem?_eq_some_iff.1 hb').1;unfold Dc
   grind
  have F:n∉idy:=fun h=>hjy (y1 _ h);have g3:=y4 H (Dc E oy base y H) (fun hc=>by rw[hkH]) (fun i hi=>by grind);have N:=Zi4 (H:=H) hyl F;refine fin _ J ⟨Mc (q y oy hy hnw) l2,fun hc=>absurd hc I⟩ deady g3 ⟨late1 _ N,fun hc=>(ncx hc).elim⟩ (fun hc=>by simp_all) ?_;rw[f3 _ _ N (U8 (fun h=>⟨(hyl h).1,by
    have hk:Dc E oy base y H=base+y:=by simp[Dc,y2 h]
    rw[hk];exact noy (y2 h)⟩)),hkH,wF hyl F]
 | false=>
 cases hly:OI E ops lt y oy ox with
 | true=>
  unfold OI at hly;simp only[Bool.and_eq_true,List.any_eq_true,beq_iff_eq]at hly;obtain⟨_,hnx,⟨y',t⟩,D,hy'⟩:=hly;simp only at hy';subst hy';obtain⟨oy',hoy',hty⟩:=hlt _ t D;rw[hy]at hoy';cases hoy';have hnw:=ZgM hnx;obtain⟨b,n,hn,hnin,hnlt,rfl,f3⟩:=ZfI hty D l2 e2;have hjx:n∉Ea E s ox:=ZfY D (Ne.symm hxy) hnx hbit' hbit hn l1;have late2:Hx[n]? = H[n]? -> Ho E ms lt s0 base y' s H oy=true:=fun N=>by
   refine Ze4 (fun p hp k he hk=>?_) l2
   grind
  have ncy:CS E oy = .c->False:=fun hc=>by simp_all
  by_cases G:CS E ox = .c
  ·obtain⟨idx,S,x1,rfl,x4⟩:=uM hfree G e1;have hl:base+m<=H.length:=c1 G;have hnl:n<H.length:=Nat.lt_of_lt_of_le (seey G n hnin) hl;have F:n∉idx:=fun h=>hjx (x1 _ h);have N:(bump H idx++S)[n]? = H[n]?:=by
    rw[List.getElem?_append_left (by rw[bump_length];exact hnl),Ld];cases H[n]? with
    | none=>rfl
    | some b=>simp[F]
   refine fin _ J ⟨late2 N,fun hc=>(ncy hc).elim⟩ (fun hc=>by rw[(wQ hty).1]at hc;cases hc) (f3 _ H N.symm (sK S (Rw _ _ _) (fun i hi=>by rw[bump_length];exact Nat.lt_of_lt_of_le (seey G i hi) hl)).symm)
    ⟨Mc (q x ox hx hnw) l1,fun _=>by grind⟩ (fun hc=>by simp_all) ?_
   rw[x4 _ _ (by rw[List.length_set]) (Zhq hjx)];congr 2;rw[List.set_append_left _ _ (by rw[bump_length];exact hnl)];congr 1;have:=wF (ids:=idx) (nb:=none) (k' :=0) (H:=H) (b:=b) (k:=n) (fun h=>by cases h) F;exact this
  obtain⟨idx,C,x1,x2,rfl,x4⟩:=XA Q hnw G s1.2 e1;have hne:CS E ox = .a->base+x≠n:=fun hc e=>nox hc (by rw[e];exact hnin);have hxl:C.isSome=true->Dc E ox base x H<H.length/\Dc E ox base x H≠n:=fun h=>by
   have hc:=x2 h;have:=keptx hc;unfold Dc
   grind
  have F:n∉idx:=fun h=>hjx (x1 _ h);have N:=Zi4 (H:=H) hxl F;have hkS:Dc E ox base x (H.set n b)=Dc E ox base x H:=by unfold Dc;rw[List.length_set]
  have hsy:Dl (Ea E s oy) (eff idx C (Dc E ox base x H) H) H:=(U8 (fun h=>⟨(hxl h).1,by
   have hk:Dc E ox base x H=base+x:=by simp[Dc,x2 h]
   grind⟩)).symm
  refine fin _ J ⟨late2 N,fun hc=>(ncy hc).elim⟩ (fun hc=>by simp_all) (f3 _ H N.symm hsy) ⟨Mc (q x ox hx hnw) l1,fun hc=>absurd hc G⟩ (fun hc=>?_) ?_
  ·grind
  ·rw[x4 _ _ (fun hc=>by rw[hkS]) (fun i hi=>by rw[List.getElem?_set_ne (fun e=>hjx (by rw[e];exact hi))]),hkS,wF hxl F]
 | false=>
 rw[hlx,hly,Bool.or_false,Bool.or_false]at O;unfold jD at O;simp only[Bool.and_eq_true]at O;have hcomp:=O.1
 by_cases hcx:CS E ox = .s
 ·obtain⟨f1,f2⟩:=ZhJ hcx e1;subst f1;exact fin Hy J ⟨l2,c2⟩ d2 e2 ⟨Mc (q x ox hx (by simp_all)) l1,fun hc=>by simp_all⟩ (fun hc=>by simp_all) (f2 _ _)
 by_cases hcy:CS E oy = .s
 ·obtain⟨f1,f2⟩:=ZhJ hcy e2;subst f1;exact fin H J ⟨Mc (q y oy hy (by simp_all)) l2,fun hc=>by simp_all⟩ (fun hc=>by simp_all) (f2 _ _) ⟨l1,c1⟩ d1 e1
 have hwx:CS E ox≠.w:=fun hw=>by rw[hw]at hcomp;cases hh:CS E oy<;>simp_all [Z4G]
 have hwy:CS E oy≠.w:=fun hw=>by rw[hw]at hcomp;cases hh:CS E ox<;>simp_all [Z4G]
 by_cases G:CS E ox = .c
 ·have I:CS E oy≠.c:=fun hc=>by rw[G,hc]at hcomp;cases hcomp
  obtain⟨idx,S,x1,rfl,x4⟩:=uM hfree G e1;obtain⟨idy,A,y1,y2,rfl,y4⟩:=XA Q hwy I J.2 e2;have hl:base+m<=H.length:=c1 G;have hry:∀i∈Ea E s oy,i<H.length:=fun i hi=>Nat.lt_of_lt_of_le (seey G i hi) hl;have kyl:A.isSome=true->base+y<H.length:=fun h=>by grind
  have g3:=y4 H (Dc E oy base y H) (fun hc=>by simp[Dc,hc]) (sK S (Rw _ _ _) (fun i hi=>by rw[bump_length];exact hry i hi)).symm;have hke:∀H' : Heap,eff idy A (Dc E oy base y H')=eff idy A (base+y):=fun H' =>by
   cases hnb:A with
   | none=>rfl
   | some b=>simp[Dc,y2 (by rw[hnb];rfl)]
  rw[hke]at g3;have kyn:A.isSome=true->base+y∉Ea E s ox:=fun h=>noy (y2 h);have Y:(eff idy A (base+y) H).length=H.length:=WO kyl;have dy:CS E oy = .a->∃b,H[base+y]? = some b/\b.live=false:=fun hc=>by
   obtain⟨b,hb,hd⟩:=d2 hc;have hlt:base+y<H.length:=by have:=hm y oy hy hc;omega
   rw[List.getElem?_append_left (by rw[bump_length];exact hlt),Ld]at hb
   grind
  refine fin _ J ⟨Mc (q y oy hy hwy) l2,fun hc=>absurd hc I⟩ dy g3 ⟨Mc (q x ox hx hwx) l1,fun _=>by rw[Y];exact hl⟩ (fun hc=>by simp_all) ?_;rw[x4 _ _ Y (U8 (fun h=>⟨kyl h,kyn h⟩)),hke];congr 2;rw[Ze8 S (fun i hi=>by rw[bump_length];exact hry i (y1 i hi)) (fun h=>by rw[bump_length];exact kyl h)];congr 1;have:=Z3C (Fb:=idx) (ids2:=idy) (nb1:=none) (nb2:=A) (k1:=0) (k2:=base+y) (H:=H) (fun h=>by cases h) (fun h=>⟨kyl h,fun D=>kyn h (x1 _ D)⟩) (fun h=>by cases h);exact this
 by_cases I:CS E oy = .c
 ·obtain⟨idx,C,x1,x2,rfl,x4⟩:=XA Q hwx G s1.2 e1;obtain⟨idy,S,y1,rfl,y4⟩:=uM hfree I e2;have kxl:C.isSome=true->base+x<H.length:=fun h=>keptx (x2 h);have hke:∀H' : Heap,eff idx C (Dc E ox base x H')=eff idx C (base+x):=fun H' =>by
   cases hnb:C with
   | none=>rfl
   | some b=>simp[Dc,x2 (by rw[hnb];rfl)]
  rw[hke]at c2 y4;have Y:(eff idx C (base+x) H).length=H.length:=WO kxl;have hl:base+m<=H.length:=by have:=c2 I;rw[Y]at this;exact this
  have hrx:∀i∈Ea E s ox,i<H.length:=fun i hi=>Nat.lt_of_lt_of_le (seex I i hi) hl;have g3:=y4 H (Dc E oy base y H) Y.symm (U8 (fun h=>⟨kxl h,nox (x2 h)⟩)).symm;refine fin _ J ⟨Mc (q y oy hy hwy) l2,fun _=>hl⟩ (fun hc=>by simp_all) g3 ⟨Mc (q x ox hx hwx) l1,fun hc=>absurd hc G⟩ (fun hc=>?_) ?_
  ·obtain⟨b,hb,hd⟩:=d1 hc;have hlt:=keptx hc;rw[List.getElem?_append_left (by rw[bump_length];exact hlt),Ld,hb]
   grind
  ·rw[x4 _ (Dc E ox base x (bump H idy++S)) (fun hc=>by simp[Dc,hc]) (sK S (Rw _ _ _) (fun i hi=>by rw[bump_length];exact hrx i hi)),hke,hke];congr 2;rw[Ze8 S (fun i hi=>by rw[bump_length];exact hrx i (x1 i hi)) (fun h=>by rw[bump_length];exact kxl h)];congr 1;have:=Z3C (Fb:=idx) (ids2:=idy) (nb1:=C) (nb2:=none) (k1:=base+x) (k2:=0) (H:=H) (fun h=>⟨kxl h,fun D=>nox (x2 h) (y1 _ D)⟩) (fun h=>by cases h) (fun _ h=>by cases h);exact this
 obtain⟨idx,C,x1,x2,rfl,x4⟩:=XA Q hwx G s1.2 e1;obtain⟨idy,A,y1,y2,rfl,y4⟩:=XA Q hwy I J.2 e2;have kx:C.isSome=true->Dc E ox base x H=base+x:=fun h=>by simp[Dc,x2 h]
 have hxlt:C.isSome=true->Dc E ox base x H<H.length:=fun h=>by grind
 have Y:=WO (ids:=idx) hxlt;have ky:A.isSome=true->∀H',Dc E oy base y H' = base+y:=fun h H' =>by simp[Dc,y2 h]
 have simx:Dl (Ea E s oy) (eff idx C (Dc E ox base x H) H) H:=(U8 (fun h=>⟨hxlt h,by grind⟩)).symm;have deady:CS E oy = .a->∃b,H[base+y]? = some b/\b.live=false:=fun hc=>
  (ZgG (fun h=>⟨hxlt h,by rw[kx h];omega⟩)).1 (d2 hc)
 have hylt:CS E oy = .a->base+y<H.length:=fun hc=>by
  grind
 have g3:=y4 H (Dc E oy base y H) (fun hc=>by simp[Dc,hc]) simx;have hylt' : A.isSome=true->Dc E oy base y H<H.length:=fun h=>by grind
 refine fin _ J ⟨Mc (q y oy hy hwy) l2,fun hc=>absurd hc I⟩ deady g3 ⟨Mc (q x ox hx hwx) l1,fun hc=>absurd hc G⟩ (fun hc=>(ZgG (fun h=>⟨hylt' h,by rw[ky h];omega⟩)).2 (d1 hc)) ?_;have simy:Dl (Ea E s ox) H (eff idy A (Dc E oy base y H) H):=U8 (fun h=>⟨hylt' h,by grind⟩);have g5:=x4 _ (Dc E ox base x (eff idy A (Dc E oy base y H) H)) (fun hc=>by simp[Dc,hc]) simy;rw[g5];have hk1:C.isSome=true->Dc E ox base x (eff idy A (Dc E oy base y H) H)=base+x:=fun h=>by simp[Dc,x2 h]
 have hkx:eff idx C (Dc E ox base x (eff idy A (Dc E oy base y H) H)) (eff idy A (Dc E oy base y H) H)=eff idx C (Dc E ox base x H) (eff idy A (Dc E oy base y H) H):=by
  cases C with
  | none=>rfl
  | some b=>rw[hk1 rfl,kx rfl]
 have hky:eff idy A (Dc E oy base y (eff idx C (Dc E ox base x H) H)) (eff idx C (Dc E ox base x H) H)=eff idy A (Dc E oy base y H) (eff idx C (Dc E ox base x H) H):=by
  cases A with
  | none=>rfl
  | some b=>rw[ky rfl,ky rfl]
 rw[hkx,hky];congr 2;exact Z3C (fun h=>⟨hxlt h,by grind⟩) (fun h=>⟨hylt' h,by grind⟩) (fun h1 h2=>by grind)
end
end Go.Proofs.YtjodhcdmhobmoaaGreatDoor.Le
namespace Go.Proofs.YtjodhcdmhobmoaaGreatDoor.Le
open Go.RowKit (Below)
theorem ZBw (acc:List Nat) (j:Nat):∀(es:List Edge) (m:Nat),(es.foldl (fun m e=>if Region.binds .any e then m ||| (1 <<< e.on) ||| acc.getD e.on 0 else m) m).testBit j=true↔
  m.testBit j=true\/∃e∈es,Region.binds .any e=true/\(j=e.on\/(acc.getD e.on 0).testBit j=true):=by
 intro es;induction es with
 | nil=>intro m;simp
 | cons e es q=>
  intro m;rw[List.foldl_cons,q]
  by_cases hb:Region.binds .any e=true
  ·simp only[hb,if_true,Nat.testBit_or,Bool.or_eq_true,Nat.one_shiftLeft,Nat.testBit_two_pow,decide_eq_true_eq,List.mem_cons,exists_eq_or_imp,true_and]
   grind
  simp_all
theorem Zzh (acc:List Nat) (o:Oper) (j:Nat):(XG acc o).testBit j=true↔∃e∈o.after,Region.binds .any e=true/\(j=e.on\/(acc.getD e.on 0).testBit j=true):=by
 unfold XG;rw[ZBw];simp
theorem Zez:∀(os:List Oper) (acc:List Nat) (i:Nat),i<acc.length->(Gj acc os)[i]? = acc[i]?:=by
 intro os;induction os with
 | nil=>intro acc i q;rfl
 | cons o os z=>
  intro acc i q;simp only[Gj]
  grind
theorem ZCq:∀(os:List Oper) (acc:List Nat) (i:Nat) (o:Oper),os[i]? = some o ->
  ∃q,(Gj acc os)[acc.length+i]? = some (XG q o)/\q.length=acc.length+i/\∀j,j<q.length->(Gj acc os)[j]? = q[j]?:=by
 intro os;induction os with
 | nil=>intro acc i o h;simp at h
 | cons p os D=>
  intro acc i o h;cases i with
  | zero=>
   simp at h;subst h;refine⟨acc,?_,rfl,fun j C=>?_⟩
   ·simp only[Gj];rw[Zez _ _ _ (by simp)];simp
   ·simp only[Gj];rw[Zez _ _ _ (by simp;omega),List.getElem?_append_left C]
  | succ i=>
   simp at h;obtain⟨q,F,z,A⟩:=D (acc++[XG acc p]) i o h;refine⟨q,?_,by rw[z];simp;omega,A⟩;simp only[Gj]
   grind
section
variable {E:Env} {ops:Array Oper}
structure ZfD (E:Env) (ops:Array Oper):Prop where
 low:∀(i:Nat) (o:Oper),ops[i]? = some o->∀e∈o.after,Region.binds .any e=true->e.on<i
 bit:∀(i:Nat) (o:Oper),ops[i]? = some o->∀j,((Gj [] ops.toList).getD i 0).testBit j=true↔∃e∈o.after,Region.binds .any e=true/\(j=e.on\/((Gj [] ops.toList).getD e.on 0).testBit j=true)
 lt:∀(i j:Nat),i<ops.size->((Gj [] ops.toList).getD i 0).testBit j=true->j<i
 pass:∀(x y:Nat) (ox oy:Oper),ops[x]? = some ox->ops[y]? = some oy->x<y->((Gj [] ops.toList).getD y 0).testBit x=true\/(jD E ops ox oy||(OI E ops (Qh E ops) x ox oy||OI E ops (Qh E ops) y oy ox))=true
theorem ZsP (h:xW E ops=true):ZfD E ops:=by
 unfold xW at h;simp only[List.all_eq_true,List.mem_range]at h;have A:∀(i:Nat) (o:Oper),ops[i]? = some o->∀e∈o.after,Region.binds .any e=true->e.on<i:=by
  intro i o C e I;have:=h i (Array.getElem?_eq_some_iff.1 C).1;simp only[C,Bool.and_eq_true,Array.all_eq_true_iff_forall_mem,Bool.or_eq_true,Bool.not_eq_true',decide_eq_true_eq]at this;intro hb;rcases this.1 e I with hh|hh
  ·rw[hb]at hh;cases hh
  ·exact hh
 have z:∀(i:Nat) (o:Oper),ops[i]? = some o->∀j,((Gj [] ops.toList).getD i 0).testBit j=true↔∃e∈o.after,Region.binds .any e=true/\(j=e.on\/((Gj [] ops.toList).getD e.on 0).testBit j=true):=by
  intro i o C j;obtain⟨q,F,G,J⟩:=ZCq ops.toList [] i o (by simpa using C);simp only[List.length_nil,Nat.zero_add]at F G;have D:(Gj [] ops.toList).getD i 0=XG q o:=by simp[List.getD,F]
  rw[D,Zzh];constructor
  ·grind
  ·grind
 refine⟨A,z,?_,?_⟩
 ·intro i;induction i using Nat.strongRecOn with
  | _ i N=>
   intro j D M;have C:ops[i]? = some ops[i]:=by simp[D]
   grind
 grind
end
section
variable {call:EO} {E:Env} {ops:Array Oper} {ms:List Nat} {lt:List (Nat×(Nat⊕Nat))} {s0:List V} {base m:Nat}
theorem Zxh {i:Nat} {r:St}:∀(C D:List Nat) (st:St),(∀y∈C,∀st q G,Ik call E ops ms lt s0 base m y st=some q->Ik call E ops ms lt s0 base m i q=some G ->
      ∃A,Ik call E ops ms lt s0 base m i st=some A /\ Ik call E ops ms lt s0 base m y A = some G) ->
  NR call E ops ms lt s0 base m (C++i::D) st=some r->∃q,Ik call E ops ms lt s0 base m i st=some q/\NR call E ops ms lt s0 base m (C++D) q=some r:=by
 intro C;induction C with
 | nil=>
  intro D st _ h;simp only[List.nil_append,NR]at h
  grind
 | cons y C S=>
  intro D st F h;simp only[List.cons_append,NR]at h;cases I:Ik call E ops ms lt s0 base m y st with
  | none=>simp[I]at h
  | some J=>
   simp only[I]at h;obtain⟨sb,M,N⟩:=S D J (fun z hz=>F z (List.mem_cons_of_mem _ hz)) h;obtain⟨Y,O,Q⟩:=F y (by simp) st J sb I M;exact⟨Y,O,by simp only[List.cons_append,NR,Q];exact N⟩
theorem ZCD {B:Nat} {w0:Start} {σ:Sg} {P:Program} {st st' : St} {a:Act} {w:World} (D:DV E) (F:E.P=P) (z:Jo P E B w0 call) {i:Nat} (h:F5 E B w0 σ st a w) (hs:Ik call E ops ms lt s0 base m i st=some st')
  {K:Act->World->Prop} {Q:Exit->Act->World->Prop} (G:∀C w' σ',F5 E B w0 σ' st' C w' -> Ext σ w σ' w' -> K C w'):wpOp P ops Q i K a w:=by
 have q:∃k,GH st.H k=true/\KT call E ops k i st=some st' :=by
  unfold Ik at hs;cases A:ops[i]? with
  | none=>
   simp only[A]at hs;exact⟨st.H.length,gK _,by unfold KT;simp only[A];exact hs⟩
  | some o=>
   simp only[A]at hs;split at hs
   ·split at hs
    ·split at hs
     ·rename_i b hb;split at hs
      ·cases hs
      ·rename_i hl;exact⟨base+i,by unfold GH;simp only[hb];simpa using hl,hs⟩
     ·cases hs
    ·exact⟨st.H.length,gK _,hs⟩
   ·cases hs
 obtain⟨k,hk,q⟩:=q;exact Zfz D F z hk h q G
theorem ZD4 {B:Nat} {w0:Start} {P:Program} {r:St} (hE:DV E) (hP:E.P=P) (Y:Jo P E B w0 call) (hpure:Ou E call) (hf:ZfD E ops) (hm:∀(i:Nat) (o:Oper),ops[i]? = some o->CS E o = .a->i<m)
  {Q:Exit->Act->World->Prop}:∀(fuel:Nat) (M:List Nat) (listed:Array Bool) (st:St) (σ:Sg) (a:Act) (w:World),M.length<=fuel->listed.size=ops.size ->
  (∀j,j∈M↔listed.getD j true=false)->M.Pairwise (· < ·)->(∀k j,listed.getD k false=true->((Gj [] ops.toList).getD k 0).testBit j=true->listed.getD j false=true) ->
  NR call E ops (Gj [] ops.toList) (Qh E ops) s0 base m M st=some r->F5 E B w0 σ st a w->(∀a' w' σ',F5 E B w0 σ' r a' w' -> Ext σ w σ' w' -> Q .normal a' w')->wpAny P .any ops Q fuel listed a w:=by
 intro fuel;induction fuel with
 | zero=>
  intro M listed st σ a w hl hsz O z hdown hs hr hn;have hnil:M=[]:=List.eq_nil_of_length_eq_zero (by omega);subst hnil;simp only[NR,Option.some.injEq]at hs;subst hs;refine⟨?_,hn a w σ hr (Ext.refl σ w)⟩;cases hrd:Region.ready .any ops listed with
  | nil=>rfl
  | cons i rest=>
   have hi:i∈Region.ready .any ops listed:=by rw[hrd];simp
   have:=(O i).2 (mem_ready.1 hi).1;cases this
 | succ fuel ih=>
  intro M listed st σ a w hl hsz O z hdown hs hr hn;have hlist:∀j,j<ops.size->j∉M->listed.getD j false=true:=by
   intro j hj hn;have:¬listed.getD j true=false:=fun h=>hn ((O j).2 h);have hjl:j<listed.size:=by omega
   simp[hjl]at this ⊢;exact this
  refine⟨fun hready=>?_,fun i hi=>?_⟩
  ·
   cases M with
   | nil=>
    simp only[NR,Option.some.injEq]at hs;subst hs;exact hn a w σ hr (Ext.refl σ w)
   | cons i rest=>
    exfalso;have F:=(O i).1 (by simp);have J:i<ops.size:=by
     rcases Nat.lt_or_ge i listed.size with h|h
     ·omega
     ·simp[Array.getElem?_eq_none h]at F
    have ho:ops[i]? = some ops[i]:=by simp[J]
    have:i∈Region.ready .any ops listed:=mem_ready.2 ⟨F,_,ho,fun e he hb=>by
     have hlt:=hf.low i _ ho e he hb;refine hlist e.on (by omega) (fun hin=>?_);rcases List.mem_cons.1 hin with h|h
     ·omega
     ·have:=(List.pairwise_cons.1 z).1 _ h;omega⟩
    grind
  ·obtain⟨F,oi,D,hall⟩:=mem_ready.1 hi;have hin:=(O i).2 F;obtain⟨M1,M2,rfl⟩:=List.append_of_mem hin;have J:i<ops.size:=(Array.getElem?_eq_some_iff.1 D).1;have A:∀y∈M1,y<i:=fun y C=>(List.pairwise_append.1 z).2.2 y C i (by simp);have hmask:∀j,((Gj [] ops.toList).getD i 0).testBit j=true->listed.getD j false=true:=by
    intro j hj;obtain⟨e,he,hb,hh⟩:=(hf.bit i oi D j).1 hj;rcases hh with hh|hh
    ·grind
    ·grind
   have hunl:∀y,listed.getD y true=false->listed.getD y false=false:=by
    intro y C;rcases Nat.lt_or_ge y listed.size with h|h
    ·simp[h]at C ⊢;exact C
    ·simp[Array.getElem?_eq_none h]at C
   obtain⟨st1,h1,h2⟩:=Zxh M1 M2 st (fun y C sa sb sc hsa hsb=>by
    have hyun:listed.getD y true=false:=(O y).1 (by simp[C]);have N:y<ops.size:=by have:=A y C;omega
    have hoy:ops[y]? = some ops[y]:=by simp[N]
    have G:((Gj [] ops.toList).getD i 0).testBit y=false:=by
     cases hb:((Gj [] ops.toList).getD i 0).testBit y with
     | false=>rfl
     | true=>have:=hmask y hb;rw[hunl y hyun]at this;cases this
    have S : ((Gj [] ops.toList).getD y 0).testBit i=false:=by
     cases hb:((Gj [] ops.toList).getD y 0).testBit i with
     | false=>rfl
     | true=>have:=hf.lt y i N hb;have:=A y C;omega
    have hp:=(hf.pass y i _ oi hoy D (A y C)).resolve_left (by rw[G];simp);exact ZyA hpure hm hoy D (by have:=A y C;omega) hp (fun x t h=>ZBL h) G S hsa hsb) hs
   refine ZCD hE hP Y hr h1 (fun a1 w1 σ1 hr1 he1=>?_);have I:∀j d,(listed.setIfInBounds i true).getD j d=if j=i then true else listed.getD j d:=by
    intro j d
    by_cases q:j=i
    ·subst q;have:j<listed.size:=by omega
     simp[this]
    ·rw[if_neg q,getD_set_ne d (fun e=>q e.symm)]
   have hnot:i∉M1++M2:=by
    intro h;rcases List.mem_append.1 h with h|h
    ·have:=A i h;omega
    ·have:=(List.pairwise_cons.1 (List.pairwise_append.1 z).2.1).1 i h;omega
   refine ih (M1++M2) (listed.setIfInBounds i true) st1 σ1 a1 w1 (by simp at hl ⊢;omega) (by simpa using hsz) (fun j=>?_) ?_ (fun k j hk hj=>?_) h2 hr1 (fun a' w' σ' hr' he' =>hn a' w' σ' hr' (he1.trans he'))
   ·rw[I]
    by_cases q:j=i
    ·grind
    ·rw[if_neg q,<- O j];simp[q]
   ·grind
   ·rw[I]at hk ⊢
    by_cases q:j=i
    ·rw[if_pos q]
    ·rw[if_neg q]
     by_cases hki:k=i
     ·grind
     grind
theorem Inv.reserve {B:Nat} {w0:Start} {σ:Sg} {H:Heap} {w:World} (h:Inv B w0 σ H w) (n:Nat):Inv B w0 σ (H++List.replicate n SB) w:=by
 have q:∀(i:Nat) (b:Box),(H++List.replicate n SB)[i]? = some b->b.live=true->H[i]? = some b:=by
  intro i b hb hl;rw[List.getElem?_append]at hb;split at hb
  ·exact hb
  ·have:=(List.mem_replicate.1 (List.mem_of_getElem? hb)).2;subst this;cases hl
 refine⟨h.below,h.size,fun id L I=>?_,fun i b hb hl=>h.boxes i b (q i b hb hl) hl,fun i j b1 b2 F G g z A C D=>h.apart i j b1 b2 F G g (q i b1 z C) (q j b2 A D) C D,h.cells,
  fun b c hc i bx L hb hl=>h.floor b c hc i bx L (q i bx hb hl) hl,fun i b hb hl=>h.low i b (q i b hb hl) hl,h.old,h.kept⟩
 obtain⟨b,z,A⟩:=h.dom id L I
 grind
theorem Zhc {B:Nat} {w0:Start} {σ:Sg} {P:Program} {st st' : St} {a:Act} {w:World} (F:DV E) (I:E.P=P) (C:P.follows .mixedOrders=true) (z:Jo P E B w0 call) (A:Ou E call) (J:xW E ops=true)
  (h:F5 E B w0 σ st a w) (hs:Ut call E ops st=some st') {id:Nat} {Q:Exit->Act->World->Prop} (O:∀D w' σ',F5 E B w0 σ' st' D w' -> Ext σ w σ' w' -> Q .normal D w'):(Code.region id ops true).wp P Q a w:=by
 have N:w.grownBy { w with drawn:=w.drawn+1 } none:=⟨rfl,rfl,rfl,Nat.le_refl _,fun _ _ _=>rfl⟩;obtain⟨G,q⟩:=h.inv.grown N;refine wp_region_any C ?_;unfold Ut at hs;refine ZD4 F I z A (ZsP J) (m:=if ops.any (fun o=>decide (CS E o = .a)) then ops.size else 0) (fun i o Y hc=>?_) ops.size (List.range ops.size) _ _ σ a _ (by simp) (by simp) (fun j=>?_) List.pairwise_lt_range (fun k j hk=>?_) hs
  ⟨G.reserve _,h.FM.ext q,h.slots.ext q,h.calm⟩ (fun D w' σ' S M=>O D w' σ' S (q.trans M))
 ·grind
 ·rw[List.mem_range];rcases Nat.lt_or_ge j ops.size with hj|hj
  ·simp[hj]
  simp_all
 ·exfalso;rcases Nat.lt_or_ge k ops.size with hj|hj
  ·simp[hj]at hk
  ·simp[hj]at hk
end
end Go.Proofs.YtjodhcdmhobmoaaGreatDoor.Le
namespace Go.Proofs.YtjodhcdmhobmoaaGreatDoor.Le
open Go.RowKit (Below)
def Ex.out:Ex->Exit
 | .normal=>.normal
 | .ret=>.ret
 | .exit id=>.exit id
def Z4F (P:Program) (E:Env) (B:Nat) (w0:Start) (f:FuncId) (A:Code->St->Option (Ex×St)):Prop:=
 ∀b st z st',Eo E f b=true->A b st=some (z,st')->∀(Q:Exit->Act->World->Prop) σ a w,F5 E B w0 σ st a w ->
  (∀q w' σ',F5 E B w0 σ' st' q w' -> Ext σ w σ' w' -> Q z.out q w')->(Code.loop b).wp P Q a w
section
variable {P:Program} {E:Env} {B:Nat} {w0:Start} {call:EO} {f:FuncId}
theorem U7 (hE:DV E) (hP:E.P=P) (G:Jo P E B w0 call) (O:Ou E call) {lp:Code->St->Option (Ex×St)} (hlp:Z4F P E B w0 f lp) :
  ∀(c:Code) (st:St) (A:Ex) (st' : St),Eo E f c=true->Gu call lp E f c st=some (A,st')->∀(Q:Exit->Act->World->Prop) (σ:Sg) (a:Act) (w:World),F5 E B w0 σ st a w ->
   (∀a' w' σ',F5 E B w0 σ' st' a' w' -> Ext σ w σ' w' -> Q A.out a' w')->c.wp P Q a w:=by
 intro c;induction c with
 | skip=>
  intro st A st' hc h Q σ a w q z;simp only[Gu,Option.some.injEq,Prod.mk.injEq]at h;obtain⟨rfl,rfl⟩:=h;exact wp_skip (z a w σ q (Ext.refl σ w))
 | region id ops draw=>
  intro st A st' hc h Q σ a w q z;cases draw with
  | false=>
   simp only[Gu]at h;cases hs:Nl call E ops (List.range ops.size) st with
   | none=>simp[hs]at h
   | some r=>
    simp only[hs,Option.map_some,Option.some.injEq,Prod.mk.injEq]at h;obtain⟨rfl,rfl⟩:=h;exact wp_region (ZgR hE hP G _ st σ a w q hs z)
  | true=>
   simp only[Gu]at h;split at h
   ·rename_i N;cases hs:Ut call E ops st with
    | none=>simp[hs]at h
    | some r=>
     simp only[hs,Option.map_some,Option.some.injEq,Prod.mk.injEq]at h;obtain⟨rfl,rfl⟩:=h;refine Zhc hE hP (by rw[<- hP];exact hE.mix) G O ?_ q hs z;simpa[Eo,N]using hc
   ·cases h
 | seq x y S ihy=>
  intro st A st' hc h Q σ a w q z;simp only[Eo,Bool.and_eq_true]at hc;simp only[Gu]at h;split at h
  ·rename_i M h1;exact wp_seq (S st .normal M hc.1 h1 _ σ a w q (fun I J F D C=>ihy M A st' hc.2 h Q F I J D (fun a' w' σ' hr' he' =>z a' w' σ' hr' (C.trans he'))))
  ·rename_i Y;refine wp_seq (S st A st' hc.1 h _ σ a w q (fun I J F D C=>?_));have:=z I J F D C;cases A with
   | normal=>exact absurd h (Y _)
   | ret=>exact this
   | exit id=>exact this
 | cond c x y S ihy=>
  intro st A st' hc h Q σ a w q z;simp only[Eo,Bool.and_eq_true]at hc;simp only[Gu]at h;split at h
  ·rename_i t ht;have hv:=Et (a:=a) q.FM q.slots c;rw[ht]at hv;have hb:a.eval c = .bool t:=by generalize a.eval c=v at hv;cases hv;rfl
   refine wp_cond hb ?_
   grind
  ·cases h
 | block id b ih=>
  intro st A st' hc h Q σ a w q z;simp only[Eo]at hc;simp only[Gu]at h;split at h
  ·rename_i i M h1;refine wp_block (ih st (.exit i) M hc h1 _ σ a w q (fun I J F D C=>?_));simp only[Ex.out,Exit.inBlock];split at h
   ·rename_i hi;cases h;rw[if_pos hi];exact z I J F D C
   ·rename_i hi;cases h;rw[if_neg hi];exact z I J F D C
  ·rename_i Y;refine wp_block (ih st A st' hc h _ σ a w q (fun I J F D C=>?_));have:=z I J F D C;cases A with
   | normal=>exact this
   | ret=>exact this
   | exit i=>simp_all
 | loop b ih=>
  intro st A st' hc h Q σ a w q z;exact hlp b st A st' hc h Q σ a w q z
 | scope b ih=>
  intro st A st' hc h Q σ a w q z;simp only[Eo]at hc;simp only[Gu]at h;refine wp_scope_straight (ih st A st' hc h _ σ a w q (fun I J F D C=>?_));have:=z I J F D C;cases A with
  | normal=>exact this
  | ret=>exact this
  | exit i=>exact this
 | label l=>
  intro st A st' hc h Q σ a w q z;simp only[Gu,Option.some.injEq,Prod.mk.injEq]at h;obtain⟨rfl,rfl⟩:=h;exact wp_label (z a w σ q (Ext.refl σ w))
 | exit id=>
  intro st A st' hc h Q σ a w q z;simp only[Gu,Option.some.injEq,Prod.mk.injEq]at h;obtain⟨rfl,rfl⟩:=h;exact wp_exit (z a w σ q (Ext.refl σ w))
 | ret=>
  intro st A st' hc h Q σ a w q z;simp only[Gu,Option.some.injEq,Prod.mk.injEq]at h;obtain⟨rfl,rfl⟩:=h;exact wp_ret (z a w σ q (Ext.refl σ w))
 | _=>
  intro st A st' hc h;cases h
theorem Z46 (hE:DV E) (hP:E.P=P) (z:Jo P E B w0 call) (A:Ou E call):∀n,Z4F P E B w0 f (Ux call E f n):=by
 have key:∀n,∀b st q st',Eo E f b=true->Ux call E f n b st=some (q,st')->∀(Q:Exit->Act->World->Prop) σ a w,F5 E B w0 σ st a w ->
  (∀N w' σ',F5 E B w0 σ' st' N w' -> Ext σ w σ' w' -> Q q.out N w')->Code.rounds P b Q n a w:=by
  intro n;induction n with
  | zero=>intro b st q st' hc h;cases h
  | succ n ih=>
   intro b st q st' hc h Q σ a w I G;rw[rounds_succ];have J:Z4F P E B w0 f (Ux call E f n):=fun b st q st' hc h Q σ a w I G=>wp_loop_rounds n (ih b st q st' hc h Q σ a w I G);simp only[Ux]at h;split at h
   ·rename_i M h1;exact U7 hE hP z A J b st .normal M hc h1 _ σ a w I (fun O w1 F D C=>ih b M q st' hc h Q F O w1 D (fun N w' σ' hr' S =>G N w' σ' hr' (C.trans S)))
   ·rename_i Y;refine U7 hE hP z A J b st q st' hc h _ σ a w I (fun O w1 F D C=>?_);have:=G O w1 F D C;cases q with
    | normal=>exact absurd h (Y _)
    | ret=>exact this
    | exit id=>exact this
 exact fun n b st q st' hc h Q σ a w I G=>wp_loop_rounds n (key n b st q st' hc h Q σ a w I G)
theorem Zzn {σ:Sg} {H:Heap} {w:World} (C:DV E) (F:E.P=P) (D:Inv B w0 σ H w) {t:TypeId} {x r:V} {v:Value} (q:AV σ w [x] [v]) (h:Nb E H t x=some r) :
  ∃u,(do loadVar t (<- asAddr v):Sem Value).run P w = .ok u w/\AV σ w [r] [u]:=by
 obtain⟨u,hu,G⟩:=Zha (P:=P) C F D q h;refine⟨u,?_,G⟩;have I:∃A,v = .pointer (some A):=by
  unfold Nb at h;split at h
  ·cases h
  ·split at h
   ·cases q;exact⟨_,rfl⟩
   ·cases q with
    | ptr g _ _ _ z _=>exact⟨_,z⟩
   ·cases h
 obtain⟨A,rfl⟩:=I;rw[<- hu];simp[Instr.loadAt,asAddr,Instr.sureAddr]
theorem ZH0 {σ:Sg} {H:Heap} {w:World} {s:List V} {tmps:Array Value} (G:DV E) (J:E.P=P) (I:Inv B w0 σ H w) (hs:AV σ w s tmps.toList):∀(rs:List ResultVar) (xs:List V),rs.mapM (resD E H s)=some xs ->
  ∃vs,(rs.mapM (fun(r:ResultVar)=>(match r with | .tmp t=>pure (tmps.getD t undef) | .cell a t=>do loadVar t (<- asAddr (tmps.getD a undef)):Sem Value))).run P w = .ok vs w/\AV σ w xs vs:=by
 have A:∀t,AV σ w [s.getD t .und] [tmps.getD t undef]:=fun t=>by
  have:=ZfL hs t;simpa using this
 intro rs;induction rs with
 | nil=>
  intro xs h;simp at h;subst h;exact⟨[],rfl,.nil⟩
 | cons r rs N=>
  intro xs h;rw[List.mapM_cons]at h;cases z:resD E H s r with
  | none=>simp[z]at h
  | some x=>
   cases q:rs.mapM (resD E H s) with
   | none=>simp[z,q]at h
   | some D =>
    simp[z,q]at h;subst h;obtain⟨vs,O,M⟩:=N D q;have F:∃u,((match r with | .tmp t=>pure (tmps.getD t undef) | .cell a t=>do loadVar t (<- asAddr (tmps.getD a undef)):Sem Value)).run P w = .ok u w/\AV σ w [x] [u]:=by
     cases r with
     | tmp t=>
      simp only[resD,Option.some.injEq]at z;subst z
      simp_all
     | cell a t=>exact Zzn G J I (A a) z
    obtain⟨u,hu,C⟩:=F;refine⟨u::vs,?_,AV.F8.2 ⟨C,M⟩⟩
    simp_all
theorem tY {σ:Sg} {H:Heap} {w:World} {s:List V} {tmps:Array Value} (G:DV E) (J:E.P=P) (I:Inv B w0 σ H w) (hs:AV σ w s tmps.toList) {fn:Func} {x:V} (h:Lc E H s fn.results.toList=some x) :
  ∃u,(results fn tmps).run P w = .ok u w/\AV σ w [x] [u]:=by
 unfold Lc at h;cases hm:fn.results.toList.mapM (resD E H s) with
 | none=>simp[hm]at h
 | some xs=>
  obtain⟨vs,M,F⟩:=ZH0 (P:=P) G J I hs _ xs hm;have A:(results fn tmps).run P w = .ok (if h:vs.toArray.size=1 then vs.toArray[0] else .tuple vs.toArray) w:=by
   unfold results;rw[Sem.run_bind];have C:(fn.results.mapM (fun(r:ResultVar)=>(match r with | .tmp t=>pure (tmps.getD t undef) | .cell a t=>do loadVar t (<- asAddr (tmps.getD a undef)):Sem Value))).run P w = .ok vs.toArray w:=by
    rw[Array.mapM_eq_mapM_toList,map_eq_pure_bind,Sem.run_bind,M,Result.andThen_ok];rfl
   have:=congrArg (fun r=>Result.andThen r fun(vs:Array Value) (w' : World)=>(pure (if h:vs.size=1 then vs[0] else .tuple vs):Sem Value).run P w') C;exact this
  refine⟨_,A,?_⟩;rw[hm]at h;have z:=F.length;split at h
  ·rename_i v q;cases q;simp only[Option.some.injEq]at h;subst h;obtain⟨u,N,rfl,O,Q⟩:=F.EP
   simp_all
  ·rename_i ys D q;cases q;simp only[Option.some.injEq]at h;subst h;have:¬vs.toArray.size=1:=by
    intro q;simp at q;rw[<- z]at q;obtain⟨y,rfl⟩:=List.length_eq_one_iff.1 q;exact D y rfl
   rw[dif_neg this];exact .BK F .nil
  simp_all
end
end Go.Proofs.YtjodhcdmhobmoaaGreatDoor.Le
namespace Go.Proofs.YtjodhcdmhobmoaaGreatDoor.Le
open Go.RowKit (Below)
def bare (fz:Nat->Nat->Prop):Sg:=⟨fun _=>none,fz⟩
theorem Lies.bare {σ σ' : Sg} {w w' : World} {b o:Nat} {us:List Value} (h:Lies σ w b o us) (q:∀b c,σ.fz b c->σ'.fz b c/\w'.cell? ⟨b,c,none⟩=w.cell? ⟨b,c,none⟩):Lies σ' w' b o us:=fun j u hu=>by
 obtain⟨z,A⟩:=h j u hu
 simp_all
theorem AV.bare {σ σ' : Sg} {w w' : World} {xs:List V} {vs:List Value} (h:AV σ w xs vs) (I:∀b c,σ.fz b c->σ'.fz b c/\w'.cell? ⟨b,c,none⟩=w.cell? ⟨b,c,none⟩) (O:En w w') :
  CY xs=true->AV σ' w' xs vs:=by
 induction h with
 | nil=>intro _;exact .nil
 | und u _ C=>intro q;simp[CY]at q;exact .und u (C q.2)
 | no _ C=>intro q;simp[CY]at q;exact .no (C q.2)
 | lit hl _ C=>intro q;simp[CY]at q;exact .lit hl (C q.2)
 | agg _ Y _ z A=>intro q;simp[CY,DF]at q;exact .agg (z q.1) Y (A q.2)
 | BK _ _ z A=>intro q;simp[CY,DF]at q;exact .BK (z q.1) (A q.2)
 | Ew _ C=>intro q;simp[CY]at q;exact .Ew (C q.2)
 | Gq _ C=>intro q;simp[CY]at q;exact .Gq (C q.2)
 | GL a _ C=>intro q;simp[CY]at q;exact .GL a (C q.2)
 | Hf a _ C=>intro q;simp[CY]at q;exact .Hf a (C q.2)
 | sl b o c J _ M D F G N S _ z A=>intro q;simp[CY,DF]at q;exact .sl b o c J (z q.1) M D F G N (S.bare I) (A q.2)
 | DT b o J _ M D F G N _ z A=>intro q;simp[CY,DF]at q;exact .DT b o J (z q.1) M D F G (N.bare I) (A q.2)
 | Bl D F G N _ C=>intro q;simp[CY,DF]at q
 | ptr g D F G N _ C=>intro q;simp[CY,DF]at q
 | CX b o J i off _ M D F G _ z A=>intro q;simp[CY,DF]at q;exact .CX b o J i off (z q.1) M D F (G.bare I) (A q.2)
 | fn _ _ _ z A Q=>intro q;simp[CY,DF]at q;exact .fn (z q.1.1) (A q.1.2) (Q q.2)
 | IV _ _ z A=>intro q;simp[CY,DF]at q;exact .IV (z (by simp[CY,q.1])) (A q.2)
 | Gf g es c _ D F _ z A=>intro q;simp[CY,DF]at q;exact .Gf g es c (z q.1) (O _ _ _ D) F (A q.2)
theorem EK.bare {E:Env} {σ σ' : Sg} {w w' : World} (h:EK E σ w) (q:∀b c,σ.fz b c->σ'.fz b c/\w'.cell? ⟨b,c,none⟩=w.cell? ⟨b,c,none⟩) (z:En w w'):EK E σ' w' :=by
 intro g r C;have A:=h g r C;generalize F:Value.pointer (some ⟨g,0,none⟩)=v at A ⊢;cases A with
 | CX b o D i off k0 k1 k2 k3 k4 _=>exact .CX b o _ _ _ (k0.bare q z (QG k1)) k1 k2 k3 (k4.bare q) .nil
theorem Z3n (q:Nat->Nat) (xs:List V):IC q xs=xs.map (GI q):=by
 induction xs with
 | nil=>rfl
 | cons x xs z=>simp[IC,z]
theorem Z1s (q:Nat->Nat) (xs:List V):(IC q xs).length=xs.length:=by rw[Z3n];simp
theorem Zhm (q:Nat->Nat) (x:V):okV (GI q x)=okV x:=by cases x<;>simp[GI,okV]
theorem Z2n {σ σ' : Sg} {w w' : World} {S:Nat->Nat} {xs:List V} {vs:List Value} (h:AV σ w xs vs) (D:∀b c,σ.fz b c->σ'.fz b c/\w'.cell? ⟨b,c,none⟩=w.cell? ⟨b,c,none⟩) (J:En w w') :
  (∀id∈Dx xs,σ'.box (S id)=σ.box id)->AV σ' w' (IC S xs) vs:=by
 induction h with
 | nil=>intro _;exact .nil
 | und u _ C=>intro q;exact .und u (C fun id h=>q id (by simp[Dx,h]))
 | no _ C=>intro q;exact .no (C fun id h=>q id (by simp[Dx,h]))
 | lit hl _ C=>intro q;exact .lit hl (C fun id h=>q id (by simp[Dx,h]))
 | agg _ ho _ A z=>intro q;exact .agg (A fun id h=>q id (by simp[Dx,Ei,h])) ho (z fun id h=>q id (by simp[Dx,h]))
 | BK _ _ A z=>intro q;exact .BK (A fun id h=>q id (by simp[Dx,Ei,h])) (z fun id h=>q id (by simp[Dx,h]))
 | Ew _ C=>intro q;exact .Ew (C fun id h=>q id (by simp[Dx,h]))
 | Gq _ C=>intro q;exact .Gq (C fun id h=>q id (by simp[Dx,h]))
 | GL a _ C=>intro q;exact .GL a (C fun id h=>q id (by simp[Dx,h]))
 | Hf a _ C=>intro q;exact .Hf a (C fun id h=>q id (by simp[Dx,h]))
 | sl b o c O h M F G I N Y _ _ z=>intro q;exact .sl b o c O (h.bare D J (QG M)) M F G I N (Y.bare D) (z fun id h=>q id (by simp[Dx,h]))
 | DT b o O h M F G I N _ _ z=>intro q;exact .DT b o O (h.bare D J (QG M)) M F G I (N.bare D) (z fun id h=>q id (by simp[Dx,h]))
 | Bl F G I N _ C=>intro q;exact .Bl ((q _ (by simp[Dx,Ei])).trans F) G I N (C fun id h=>q id (by simp[Dx,h]))
 | ptr g F G I N _ C=>intro q;exact .ptr g ((q _ (by simp[Dx,Ei])).trans F) G I N (C fun id h=>q id (by simp[Dx,h]))
 | CX b o O i off h M F G I _ _ z=>intro q;exact .CX b o O i off (h.bare D J (QG M)) M F G (I.bare D) (z fun id h=>q id (by simp[Dx,h]))
 | fn _ _ _ A z Q=>intro q;exact .fn (A fun id h=>q id (by simp[Dx,Ei,h])) (z fun id h=>q id (by simp[Dx,Ei,h])) (Q fun id h=>q id (by simp[Dx,h]))
 | IV _ _ A z=>intro q;exact .IV (A fun id h=>q id (by simp[Dx,Ei]at h ⊢;simp[h])) (z fun id h=>q id (by simp[Dx,h]))
 | Gf g es c _ F G _ A z=>intro q;exact .Gf g es c (A fun id h=>q id (by simp[Dx,Ei,h])) (J _ _ _ F) G (z fun id h=>q id (by simp[Dx,h]))
theorem ZBe {σ σ' : Sg} {w w' : World} {A:Nat->Nat} {x:V} {v:Value} (h:AV σ w [x] [v]) (q:∀b c,σ.fz b c->σ'.fz b c/\w'.cell? ⟨b,c,none⟩=w.cell? ⟨b,c,none⟩) (z:En w w')
  (C:∀id∈Ei x,σ'.box (A id)=σ.box id):AV σ' w' [GI A x] [v]:=Z2n h q z (by simpa[Dx]using C)
structure Gt (H H1:Heap):Prop where
 len:H.length<=H1.length
 at_:∀(id:Nat) (b:Box),H[id]? = some b->∃b',H1[id]? = some b' /\ b'.live=b.live/\b'.row=b.row/\b'.xs=b.xs
theorem Gt.refl (H:Heap):Gt H H:=⟨Nat.le_refl _,fun id b h=>⟨b,h,rfl,rfl,rfl⟩⟩
theorem Gt.trans {A B C:Heap} (h:Gt A B) (k:Gt B C):Gt A C:=
 ⟨Nat.le_trans h.len k.len,fun id b hb=>by
  obtain⟨b1,q,z,D,F⟩:=h.at_ id b hb;obtain⟨b2,k1,k2,k3,k4⟩:=k.at_ id b1 q
  simp_all⟩
theorem Gt.bump (H:Heap) (ids:List Nat):Gt H (bump H ids):=
 ⟨by rw[bump_length];exact Nat.le_refl _,fun id b hb=>⟨_,by rw[Ld,hb];rfl,by split<;>rfl,by split<;>rfl,by split<;>rfl⟩⟩
theorem Gt.push (H:Heap) (b:Box):Gt H (H++[b]):=
 ⟨by simp,fun id q hb=>⟨q,by grind,rfl,rfl,rfl⟩⟩
section
variable {B:Nat} {w0:Start} {σ:Sg} {H H1:Heap} {w:World}
theorem Zgt (h:Inv B w0 σ H w) {f:Fk} {x y:V} {v:Value} (q:AV σ w [x] [v]) (hp:I9 f H x=some (y,H1)):Gt H H1/\∃σ',Inv B w0 σ' H1 w/\Ext σ w σ' w/\AV σ' w [y] [v]:=by
 have mk:∀(e:TypeId) (sz:Nat),∃σ',Inv B w0 σ' (H++[CJ true false e sz []]) w/\Ext σ w σ' w/\AV σ' w [.Bl H.length 0 0 0] [.slice none 0 0]:=by
  intro e sz;obtain⟨σ',z,A,C⟩:=OJ (e:=e) (BA:=sz) (v' :=.slice none 0 0) h (gK H) (grownBy_refl w none) (xs:=[]) (us:=[]) .nil (by simp) (by simp) (by simp[flat]) ⟨by simp[flat],.inl ⟨rfl,rfl⟩⟩ (by simp[Value.ownBlock]) false (by simp);exact⟨σ',by rw[ZBC]at z;exact z,A,C⟩
 cases f with
 | s e sz=>
  simp only[I9]at hp;cases hf:Ia H x with
  | none=>simp[hf]at hp
  | some F=>
   simp only[hf,Option.map_some,Option.some.injEq,Prod.mk.injEq]at hp;obtain⟨rfl,rfl⟩:=hp;obtain⟨z,A⟩:=h.freeze (Fb x);exact⟨Gt.bump _ _,_,z,A,Z1D sz (uX h q hf (Fb x) (fun i D=>D))⟩
 | own e sz=>
  simp only[I9]at hp;unfold jY at hp;split at hp
  ·simp only[Option.some.injEq,Prod.mk.injEq]at hp;obtain⟨rfl,rfl⟩:=hp;cases q with
   | Ew _=>exact⟨Gt.push _ _,mk e sz⟩
  ·simp only[Option.some.injEq,Prod.mk.injEq]at hp;obtain⟨rfl,rfl⟩:=hp;cases q with
   | Gq _=>exact⟨Gt.push _ _,mk e sz⟩
  ·split at hp
   ·simp only[Option.some.injEq,Prod.mk.injEq]at hp;obtain⟨rfl,rfl⟩:=hp;exact⟨Gt.refl _,σ,h,Ext.refl _ _,q⟩
   ·cases hp
  ·cases hp
 | keep=>
  simp only[I9,Option.some.injEq,Prod.mk.injEq]at hp;obtain⟨rfl,rfl⟩:=hp;exact⟨Gt.refl _,σ,h,Ext.refl _ _,q⟩
 | drop=>
  simp only[I9,Option.some.injEq,Prod.mk.injEq]at hp;obtain⟨rfl,rfl⟩:=hp;exact⟨Gt.refl _,σ,h,Ext.refl _ _,.und _ .nil⟩
theorem ZDh:∀{fl:List Fk} {H:Heap} {σ:Sg} {xs ys:List V} {vs:List Value} {H1:Heap},Inv B w0 σ H w->AV σ w xs vs->I8 fl H xs=some (ys,H1)->Gt H H1/\∃σ',Inv B w0 σ' H1 w/\Ext σ w σ' w/\AV σ' w ys vs:=by
 intro fl;induction fl with
 | nil=>
  intro H σ xs ys vs H1 h A hp;cases xs with
  | nil=>
   simp only[I8,Option.some.injEq,Prod.mk.injEq]at hp;obtain⟨rfl,rfl⟩:=hp;exact⟨Gt.refl _,σ,h,Ext.refl _ _,A⟩
  | cons=>simp[I8]at hp
 | cons f fl O=>
  intro H σ xs ys vs H1 h A hp;cases xs with
  | nil=>simp[I8]at hp
  | cons x xs=>
   obtain⟨v,Y,rfl,C,D⟩:=A.EP;simp only[I8]at hp;cases q:I9 f H x with
   | none=>simp[q]at hp
   | some r=>
    obtain⟨y,J⟩:=r;simp only[q]at hp;cases z:I8 fl J xs with
    | none=>simp[z]at hp
    | some r=>
     obtain⟨ys',Hb⟩:=r;simp only[z,Option.some.injEq,Prod.mk.injEq]at hp;obtain⟨rfl,rfl⟩:=hp;obtain⟨k1,σ1,M,G,Q⟩:=Zgt h C q;obtain⟨k2,F,N,I,S⟩:=O M (D.ext G) z;exact⟨k1.trans k2,F,N,G.trans I,AV.F8.2 ⟨Q.ext I,S⟩⟩
theorem Zg6 (h:Inv B w0 σ H w) {fl:List Fk} {x y:V} {v:Value} (z:AV σ w [x] [v]) (hp:KU fl H x=some (y,H1)):Gt H H1/\∃σ',Inv B w0 σ' H1 w/\Ext σ w σ' w/\AV σ' w [y] [v]:=by
 unfold KU at hp;split at hp
 ·rename_i cs;cases hl:I8 fl H cs with
  | none=>simp[hl]at hp
  | some r=>
   obtain⟨ys,I⟩:=r;simp only[hl,Option.map_some,Option.some.injEq,Prod.mk.injEq]at hp;obtain⟨rfl,rfl⟩:=hp;cases z with
   | agg C D _=>
    obtain⟨k1,q,F,A,G⟩:=ZDh h C hl;exact⟨k1,q,F,A,.agg G D .nil⟩
 ·split at hp
  ·exact Zgt h z hp
  ·cases hp
theorem ZDz:∀{fl:List (List Fk)} {H:Heap} {σ:Sg} {xs ys:List V} {vs:List Value} {H1:Heap},Inv B w0 σ H w->AV σ w xs vs->Ih fl H xs=some (ys,H1)->Gt H H1/\∃σ',Inv B w0 σ' H1 w/\Ext σ w σ' w/\AV σ' w ys vs:=by
 intro fl;induction fl with
 | nil=>
  intro H σ xs ys vs H1 h A hp;cases xs with
  | nil=>
   simp only[Ih,Option.some.injEq,Prod.mk.injEq]at hp;obtain⟨rfl,rfl⟩:=hp;exact⟨Gt.refl _,σ,h,Ext.refl _ _,A⟩
  | cons=>simp[Ih]at hp
 | cons f fl O=>
  intro H σ xs ys vs H1 h A hp;cases xs with
  | nil=>simp[Ih]at hp
  | cons x xs=>
   obtain⟨v,Y,rfl,C,D⟩:=A.EP;simp only[Ih]at hp;cases q:KU f H x with
   | none=>simp[q]at hp
   | some r=>
    obtain⟨y,J⟩:=r;simp only[q]at hp;cases z:Ih fl J xs with
    | none=>simp[z]at hp
    | some r=>
     obtain⟨ys',Hb⟩:=r;simp only[z,Option.some.injEq,Prod.mk.injEq]at hp;obtain⟨rfl,rfl⟩:=hp;obtain⟨k1,σ1,M,G,Q⟩:=Zg6 h C q;obtain⟨k2,F,N,I,S⟩:=O M (D.ext G) z;exact⟨k1.trans k2,F,N,G.trans I,AV.F8.2 ⟨Q.ext I,S⟩⟩
structure yD (ids:List Nat) (H:Heap):Prop where
 nodup:ids.Nodup
 at_:∀id∈ids,∃b,H[id]? = some b/\b.live=true/\(b.row=false->∀r∈Dx b.xs,r∈ids)
theorem ZCX:∀(n:Nat) {fb:List Bf} {H:Heap} {σ:Sg} {q seen ids:List Nat} {H2:Heap},Inv B w0 σ H w->KY n fb H q seen=some (H2,ids)->seen.Nodup ->
  (∀id∈seen,∃b,H[id]? = some b/\b.live=true/\(b.row=false->∀r∈Dx b.xs,r∈seen++q)) ->
  H.length<=H2.length/\(∀id∈seen++q,id∈ids)/\yD ids H2/\∃σ',Inv B w0 σ' H2 w/\Ext σ w σ' w:=by
 intro n;induction n with
 | zero=>intro fb H σ q seen ids H2 _ h;cases h
 | succ n ih=>
  intro fb H σ q seen ids H2 hI h hnd Q;cases q with
  | nil=>
   simp only[KY,Option.some.injEq,Prod.mk.injEq]at h;obtain⟨rfl,rfl⟩:=h;exact⟨Nat.le_refl _,by simp,⟨hnd,by simpa using Q⟩,σ,hI,Ext.refl _ _⟩
  | cons id q=>
   unfold KY at h
   by_cases hin:seen.contains id=true
   ·grind
   ·rw[if_neg hin]at h;have hin' : id∉seen:=by simpa using hin
    have O : (seen++[id]).Nodup:=by
     rw[List.nodup_append];exact⟨hnd,by simp,fun a ha b hb=>by simp at hb;subst hb;intro e;subst e;exact hin' ha⟩
    have hmem:∀{i:Nat} {t:List Nat},i∈seen++id::q->i∈(seen++[id])++(q++t):=by
     intro i t hi;simp only[List.mem_append,List.mem_cons]at hi ⊢;rcases hi with hx|hx|hx
     ·exact .inl (.inl hx)
     ·exact .inl (.inr (.inl hx))
     ·exact .inr (.inl hx)
    split at h
    ·rename_i b fresh fb' hb;split at h
     ·rename_i hc;simp only[Bool.and_eq_true]at hc;generalize I : (if fresh then H else bump H [id])=H' at h;have hk:Gt H H' /\ ∃σ',Inv B w0 σ' H' w/\Ext σ w σ' w:=by
       cases fresh with
       | true=>rw[if_pos rfl]at I;subst I;exact⟨Gt.refl _,σ,hI,Ext.refl _ _⟩
       | false=>
        rw[if_neg (by simp)]at I;subst I;obtain⟨i1,i2⟩:=hI.freeze [id];exact⟨Gt.bump _ _,_,i1,i2⟩
      obtain⟨hk,σ1,J,G⟩:=hk;obtain⟨h1,h2,h3,F,h4,h5⟩:=ih J h O (fun i hi=>by
       simp only[List.mem_append,List.mem_singleton]at hi;have key:∃b0,H[i]? = some b0/\b0.live=true/\(b0.row=false->∀r∈Dx b0.xs,r∈seen++id::q):=by
        rcases hi with hi|rfl
        ·exact Q i hi
        ·exact⟨b,hb,hc.1,fun hr=>by rw[hc.2]at hr;cases hr⟩
       obtain⟨b0,k1,k2,k3⟩:=key;obtain⟨b',m1,m2,m3,m4⟩:=hk.at_ i b0 k1
       grind)
      refine⟨Nat.le_trans hk.len h1,fun i hi=>h2 i ?_,h3,F,h4,G.trans h5⟩
      grind
     ·cases h
    ·rename_i b fl fb' hb;split at h
     ·rename_i hc;simp only[Bool.and_eq_true,Bool.not_eq_true']at hc;split at h
      ·rename_i x hx;split at h
       ·rename_i y H1 hp;split at h
        ·rename_i b1 M;split at h
         ·rename_i hoky;obtain⟨L,hL,hok⟩:=hI.boxes id b hb hc.1;obtain⟨us,r1,r2,r3,r4⟩:=hok.EF;rw[hx]at r1;obtain⟨u,us',rfl,r5,r6⟩:=r1.EP;obtain⟨hk,σ1,J,G,hy⟩:=Zg6 hI r5 hp;obtain⟨b1',m1,m2,m3,m4⟩:=hk.at_ id b hb;rw[M]at m1;cases m1;have A:b1.live=true:=m2.trans hc.1;have hrow1:b1.row=false:=m3.trans hc.2;have D:b1.xs=[x]:=m4.trans hx;have hsw:∃F,Inv B w0 F (H1.set id { b1 with xs:=[y] }) w/\Ext σ1 w F w:=by
           obtain⟨L1,hL1,C⟩:=J.boxes id b1 M A;obtain⟨us1,s1,s2,s3,s4⟩:=C.EF;rw[D]at s1;obtain⟨u1,us1',rfl,s5,s6⟩:=s1.EP;cases s6.Fj;cases r6.Fj;have hu:u1.cells.toList=u.cells.toList:=by
            obtain⟨L',hL',he,hLL⟩:=G.box id L hL;rw[hL1]at hL';cases hL';have ht1:L1.tot=1:=by rw[C.tot,D];rfl
            have ht:L.tot=1:=by rw[hok.tot,hx];rfl
            have hLe:L1=L:=by
             rcases hLL with e|e
             ·exact e
             ·omega
            subst hLe;rcases r4.2 with ⟨hv,hn⟩|⟨g,cap,cur,tg,hv,_,hg,_,_,_,_,hcur⟩
            ·grind
            ·rcases s4.2 with ⟨N,hn'⟩|⟨g',cap',cur',tg',N,_,Y,_,_,_,_,S⟩
             ·grind
             ·rw[hv]at N;simp only[Value.slice.injEq,Option.some.injEq,Addr.mk.injEq,and_true]at N;obtain⟨rfl,_,_⟩:=N;rw[hg]at Y;simp only[Option.some.injEq,Obj.cells.injEq]at Y;obtain⟨rfl,_⟩:=Y;rw[OD]at hcur S
              grind
           obtain⟨i1,i2⟩:=J.upd M A hL1 (grownBy_refl w _) { b1 with xs:=[y] } A L1 rfl (.inl rfl) rfl (by simp[D]) (fun g hg=>.inl hg) (fun _ _ _ _=>rfl)
            (fun ex=>⟨by rw[C.tot,D];rfl,⟨[u],hy.ext ex,fun z hz=>by simp at hz;subst hz;rw[<- s2 u1 (by simp)];exact(congrArg List.length hu).symm,fun z hz=>s3 z (by rw[OD]at hz ⊢;rw[hu];exact hz),by
             rw[OD,<- hu,<- OD];simpa[D]using s4⟩,C.Ey,C.BA,by simpa using hoky,fun hh=>by simp only at hh;rw[hrow1]at hh;cases hh⟩)
           exact⟨_,i1,i2⟩
          obtain⟨F,hI2,hE2⟩:=hsw;have hlen1:id<H1.length:=(List.getElem?_eq_some_iff.1 M).1;obtain⟨h1,h2,h3,σ3,h4,h5⟩:=ih hI2 h O (fun i hi=>by
           simp only[List.mem_append,List.mem_singleton]at hi
           by_cases hid:i=id
           ·subst hid;refine⟨{ b1 with xs:=[y] },by simp[hlen1],A,fun _ r hh=>?_⟩;simp only[Dx,List.append_nil]at hh;simp[hh]
           ·have hi' : i∈seen:=by rcases hi with hi|hi;exact hi;exact absurd hi hid
            obtain⟨b0,k1,k2,k3⟩:=Q i hi';obtain⟨b',q1,q2,q3,q4⟩:=hk.at_ i b0 k1
            grind)
          refine⟨Nat.le_trans hk.len (by simpa using h1),fun i hi=>h2 i (hmem hi),h3,σ3,h4,G.trans (hE2.trans h5)⟩
         ·cases h
        ·cases h
       ·cases h
      ·cases h
     ·cases h
    ·cases h
end
end Go.Proofs.YtjodhcdmhobmoaaGreatDoor.Le
namespace Go.Proofs.YtjodhcdmhobmoaaGreatDoor.Le
open Go.RowKit (Below)
def Sg.ren (σ:Sg) (ids:List Nat):Sg:=⟨fun j=>(ids[j]?).bind σ.box,σ.fz⟩
theorem ZgS {ids:List Nat} {id:Nat} (h:id∈ids):ids[ids.idxOf id]? = some id:=by
 grind
theorem Z4a {σ:Sg} {ids:List Nat} {id:Nat} (h:id∈ids):(σ.ren ids).box (ids.idxOf id)=σ.box id:=by
 simp[Sg.ren,ZgS h]
theorem Zay {w w' : World} {B e sz n:Nat} {v:Value} {us:List Value} (h:GZ w B e sz v n us) (hb:∀g,v.ownBlock=some g->w'.heap[g]? = w.heap[g]?):GZ w' B e sz v n us:=by
 refine⟨h.1,?_⟩;rcases h.2 with D|⟨g,cap,z,F,rfl,A,C,q⟩
 ·exact .inl D
 ·exact .inr ⟨g,cap,z,F,rfl,A,by rw[hb g (by simp[Value.ownBlock])];exact C,q⟩
theorem Oh (q:Nat->Nat) (b:Box):(Gs q b).live=b.live/\(Gs q b).row=b.row/\(Gs q b).Ey=b.Ey/\(Gs q b).elem=b.elem/\(Gs q b).BA=b.BA/\(Gs q b).floor=b.floor/\(Gs q b).xs.length=b.xs.length:=by
 unfold Gs;split
 ·simp_all
 ·exact⟨rfl,rfl,rfl,rfl,rfl,rfl,Z1s _ _⟩
theorem KX.ren {σ σ' : Sg} {w w' : World} {B:Nat} {b:Box} {L:Loc} (D:Nat->Nat) (h:KX σ w B b L) (A:∀b c,σ.fz b c->σ'.fz b c/\w'.cell? ⟨b,c,none⟩=w.cell? ⟨b,c,none⟩) (C:En w w')
  (O:b.row=false->∀id∈Dx b.xs,σ'.box (D id)=σ.box id) (hb:∀g,L.v.ownBlock=some g->w'.heap[g]? = w.heap[g]?):KX σ' w' B (Gs D b) L:=by
 obtain⟨e1,I,J,M,N,e6,F⟩:=Oh D b;obtain⟨us,G,Y,r3,r4⟩:=h.EF;have Q:AV σ' w' (Gs D b).xs us:=by
  unfold Gs;split
  ·rename_i q;exact G.bare A C ((LX _).2 (h.I5 q))
  ·rename_i q;exact Z2n G A C (O (by simpa using q))
 refine⟨by rw[F];exact h.tot,⟨us,Q,Y,r3,by rw[M,F];exact Zay r4 hb⟩,by rw[J];exact h.Ey,by rw[N];exact h.BA,?_,?_⟩
 ·intro x z;unfold Gs at z;split at z
  ·exact h.oks x z
  ·simp only[Z3n,List.mem_map]at z;obtain⟨y,S,rfl⟩:=z;rw[Zhm];exact h.oks y S
 ·intro q x z;rw[I]at q;unfold Gs at z;rw[if_pos q]at z;exact h.I5 q x z
section
variable {B:Nat} {w0:Start} {σ:Sg} {H:Heap} {w:World} {ids:List Nat}
theorem ZgH (H:Heap) (ids:List Nat) (j:Nat):(JP H ids)[j]? = (ids[j]?).map fun id=>Gs (ids.idxOf ·) ((H[id]?).getD SB):=by
 simp[JP]
theorem Zfi {l:List Nat} (h:l.Nodup) {i j x:Nat} (A:l[i]? = some x) (C:l[j]? = some x):i=j:=by
 obtain⟨D,q⟩:=List.getElem?_eq_some_iff.1 A;obtain⟨F,z⟩:=List.getElem?_eq_some_iff.1 C;exact(List.getElem_inj h).1 (q.trans z.symm)
theorem iU {xs:List V} {vs:List Value} (A:AV σ w xs vs) (hm:∀id∈Dx xs,id∈ids):AV (σ.ren ids) w (IC (ids.idxOf ·) xs) vs:=
 Z2n A (fun b c z=>⟨z,rfl⟩) (En.refl _) fun id q=>Z4a (hm id q)
theorem Z4s (h:Inv B w0 σ H w) (hs:yD ids H) (G:Start) (C:Below B G.w w) (I:∀b c,σ.fz b c->b<B->G.fz b c)
  (hk:∀b,G.keep b->b<w.heap.size/\w.heap[b]? = G.w.heap[b]? /\ (∀id∈ids,∀L,σ.box id=some L->L.v.ownBlock≠some b)/\∀c,σ.fz b c->G.fz b c):Inv B G (σ.ren ids) (JP H ids) w:=by
 have z:∀{j:Nat} {L:Loc},(σ.ren ids).box j=some L->∃id,ids[j]? = some id/\σ.box id=some L:=by
  intro j L A;simp only[Sg.ren]at A;cases O:ids[j]? with
  | none=>simp[O]at A
  | some id=>simp_all
 have q:∀{j:Nat} {D : Box},(JP H ids)[j]? = some D -> ∃id b,ids[j]? = some id/\H[id]? = some b/\b.live=true/\(b.row=false->∀r∈Dx b.xs,r∈ids)/\D = Gs (ids.idxOf ·) b:=by
  intro j D hb;rw[ZgH]at hb;cases O:ids[j]? with
  | none=>simp[O]at hb
  | some id=>
   obtain⟨b,k1,k2,k3⟩:=hs.at_ id (List.mem_of_getElem? O)
   simp_all
 refine⟨C,h.size,?_,?_,?_,h.cells,?_,?_,I,fun b hb=>?_⟩
 ·intro j L A;obtain⟨id,F,N⟩:=z A;obtain⟨b,k1,k2,k3⟩:=hs.at_ id (List.mem_of_getElem? F);refine⟨Gs (ids.idxOf ·) b,by rw[ZgH,F];simp[k1],?_⟩;rw[(Oh _ b).1];exact k2
 ·intro j D hb hl;obtain⟨id,b,F,N,h3,h4,rfl⟩:=q hb;obtain⟨L,A,hok⟩:=h.boxes id b N h3;refine⟨L,by simp[Sg.ren,F,A],hok.ren _ (fun b c S=>⟨S,rfl⟩) (En.refl _) (fun hr r S=>Z4a (h4 hr r S)) (fun _ _=>rfl)⟩
 ·intro j j' b1 b2 L1 L2 g F N l1 l2 s1 s2 g1 g2;obtain⟨i1,e1,t1⟩:=z s1;obtain⟨i2,e2,t2⟩:=z s2;obtain⟨i1',c1,f1,J,M,_⟩:=q F;obtain⟨i2',c2,f2,q1,q2,_⟩:=q N;rw[e1]at f1;cases f1;rw[e2]at f2;cases f2;have:=h.apart i1 i2 c1 c2 L1 L2 g J q1 M q2 t1 t2 g1 g2;subst this;exact Zfi hs.nodup e1 e2
 ·intro b c hc j D L hb hl A hg;obtain⟨id,Y,Q⟩:=z A;obtain⟨id',b0,f1,J,M,_,rfl⟩:=q hb;rw[Y]at f1;cases f1;rw[(Oh _ b0).2.2.2.2.2.1];exact h.floor b c hc id b0 L J M Q hg
 ·intro j D hb hl;obtain⟨id,b0,f1,J,M,_,rfl⟩:=q hb;obtain⟨_,_,_,_,_,e6,e7⟩:=Oh (ids.idxOf ·) b0;rw[e6,e7];exact h.low id b0 J M
 ·obtain⟨k1,k2,k3,k4⟩:=hk b hb;refine⟨k1,k2,fun j L A hg=>?_,k4⟩
  grind
def I4 (ids:List Nat) (n i:Nat):Option Nat:=if i<n then (if i∈ids then some (ids.idxOf i) else none) else some (ids.length+(i - n))
theorem ZDi:∀{ids:List Nat} {H q:Heap} (i:Nat),ids.Nodup->(∀id∈ids,id<H.length)->ids.length<=q.length ->
  (Qr H ids q)[i]? = match I4 ids H.length i with|some j=>q[j]? | none=>H[i]?:=by
 intro ids;induction ids with
 | nil=>
  intro H q i _ _ _;unfold I4;simp only[Qr,List.getElem?_append,List.not_mem_nil,if_false,List.length_nil,Nat.zero_add];split<;>rfl
 | cons id ids C=>
  intro H q i z hl hb;cases q with
  | nil=>simp at hb
  | cons b q=>
   rw[List.nodup_cons]at z;rw[Qr,C i z.2 (fun j D=>by simp_all) (by simpa using hb)];have A:=hl id (by simp);unfold I4;simp only[List.length_set,List.mem_cons,List.length_cons]
   grind
theorem Zwt {q:Heap} (i:Nat) (z:ids.Nodup) (hl:∀id∈ids,id<H.length) (hb:ids.length<=q.length) :
  (Ov H ids q)[i]? = match I4 ids H.length i with|some j=>(q[j]?).map (Gs (Jr ids H.length))|none=>H[i]?:=by
 unfold Ov;rw[ZDi i z hl (by simpa using hb)];split<;>simp
theorem ZFS {n i i' j:Nat} (D:ids.Nodup) (q:I4 ids n i=some j) (z:I4 ids n i' = some j):i=i' :=by
 unfold I4 at q z;have key:∀{x:Nat},x∈ids->ids.idxOf x<ids.length:=fun h=>List.idxOf_lt_length_of_mem h;split at q<;>split at z
 ·split at q<;>split at z
  ·rename_i A F;simp only[Option.some.injEq]at q z;have C:=ZgS A
   grind
  ·cases z
  ·cases q
  ·cases q
 ·grind
 ·grind
 grind
theorem ZCW {n:Nat} (q:ids.Nodup) (hl:∀id∈ids,id<n) (j:Nat):I4 ids n (Jr ids n j)=some j:=by
 unfold Jr I4
 grind
def Sg.back (σ q:Sg) (ids:List Nat) (n:Nat):Sg:=⟨fun i=>match I4 ids n i with|some j=>q.box j|none=>σ.box i,q.fz⟩
theorem Zg7 {q:Sg} {n:Nat} (z:ids.Nodup) (hl:∀id∈ids,id<n) (j:Nat):(σ.back q ids n).box (Jr ids n j)=q.box j:=by
 simp only[Sg.back,ZCW z hl]
def outer (σ:Sg) (ids:List Nat) (w0:Start) (b:Nat):Prop:=w0.keep b\/∃id L,id∉ids/\σ.box id=some L/\L.v.ownBlock=some b
theorem ZFf {G:Sg} {Q:Heap} {w' : World} (h:Inv B w0 σ H w) (hs:yD ids H) (D:Inv B ⟨w,σ.fz,outer σ ids w0⟩ G Q w') (hE:Ext (σ.ren ids) w G w') (hlen:ids.length<=Q.length) :
  Inv B w0 (σ.back G ids H.length) (Ov H ids Q) w' /\ Ext σ w (σ.back G ids H.length) w' :=by
 have S:∀id∈ids,id<H.length:=fun id hid=>by
  obtain⟨b,k1,_⟩:=hs.at_ id hid
  grind
 have hfz:∀b c,σ.fz b c->G.fz b c/\w'.cell? ⟨b,c,none⟩=w.cell? ⟨b,c,none⟩:=hE.fz;have e:Ext σ w (σ.back G ids H.length) w' :=by
  refine⟨fun i L q=>?_,hfz,hE.mp⟩;have N:=h.Z4C q;simp only[Sg.back]
  by_cases hm:i∈ids
  ·have A:I4 ids H.length i=some (ids.idxOf i):=by simp[I4,N,hm]
   simp only[A];exact hE.box _ L (by rw[Z4a hm];exact q)
  ·have A:I4 ids H.length i=none:=by simp[I4,N,hm]
   simp_all
 have M:∀i,(Ov H ids Q)[i]? = match I4 ids H.length i with|some j=>(Q[j]?).map (Gs (Jr ids H.length))|none=>H[i]?:=fun i=>Zwt i hs.nodup S hlen
 have F:∀{i:Nat} {L:Loc} {g:Nat},I4 ids H.length i=none->σ.box i=some L->L.v.ownBlock=some g->outer σ ids w0 g:=by
  intro i L g A q J;refine .inr ⟨i,L,?_,q,J⟩;intro hm;simp[I4,S i hm,hm]at A
 have z:∀{i:Nat} {I : Box},(Ov H ids Q)[i]? = some I -> (∃j b,I4 ids H.length i=some j/\Q[j]? = some b/\I = Gs (Jr ids H.length) b)\/(I4 ids H.length i=none/\H[i]? = some I):=by
  intro i I hb;rw[M]at hb;cases A:I4 ids H.length i with
  | none=>rw[A]at hb;exact .inr ⟨rfl,hb⟩
  | some j=>
   rw[A]at hb;simp only[Option.map_eq_some_iff]at hb;obtain⟨b,h2,h3⟩:=hb;exact .inl ⟨j,b,rfl,h2,h3.symm⟩
 refine⟨⟨h.below.trans D.below,D.size,?_,?_,?_,D.cells,?_,?_,fun b c hc O =>h.old b c (D.old b c hc O) O,fun b hb=>?_⟩,e⟩
 ·intro i L q;simp only[Sg.back]at q;rw[M];cases A:I4 ids H.length i with
  | none=>rw[A]at q;exact h.dom i L q
  | some j=>
   rw[A]at q;obtain⟨b,k1,k2⟩:=D.dom j L q;exact⟨Gs (Jr ids H.length) b,by simp[k1],by rw[(Oh _ b).1];exact k2⟩
 ·intro i I hb hl;rcases z hb with ⟨j,b,A,hj,rfl⟩|⟨A,N⟩
  ·rw[(Oh _ b).1]at hl;obtain⟨L,q,C⟩:=D.boxes j b hj hl;refine⟨L,by simp only[Sg.back,A];exact q,C.ren _ (fun b c hh=>⟨hh,rfl⟩) (En.refl _) (fun _ r _=>Zg7 hs.nodup S r) (fun _ _=>rfl)⟩
  ·obtain⟨L,q,C⟩:=h.boxes i I N hl;obtain⟨us,r1,r2,r3,r4⟩:=C.EF;refine⟨L,by simp only[Sg.back,A];exact q,C.tot,⟨us,r1.ext e,r2,r3,Zay r4 fun g J=>?_⟩,C.Ey,C.BA,C.oks,C.I5⟩;exact(D.kept g (F A q J)).2.1
 ·intro i i' b1 b2 L1 L2 g p1 p2 l1 l2 s1 s2 g1 g2;simp only[Sg.back]at s1 s2;rcases z p1 with ⟨j,c1,Y,q1,rfl⟩|⟨Y,q1⟩<;>rcases z p2 with ⟨j',c2,t2,q2,rfl⟩|⟨t2,q2⟩
  ·rw[Y]at s1;rw[t2]at s2;rw[(Oh _ _).1]at l1 l2;have:=D.apart j j' c1 c2 L1 L2 g q1 q2 l1 l2 s1 s2 g1 g2;subst this;exact ZFS hs.nodup Y t2
  ·rw[Y]at s1;rw[t2]at s2;exact absurd g1 ((D.kept g (F t2 s2 g2)).2.2.1 j L1 s1)
  ·rw[Y]at s1;rw[t2]at s2;exact absurd g2 ((D.kept g (F Y s1 g1)).2.2.1 j' L2 s2)
  ·rw[Y]at s1;rw[t2]at s2;exact h.apart i i' b1 b2 L1 L2 g q1 q2 l1 l2 s1 s2 g1 g2
 ·intro b c hc i I L hb hl q J;simp only[Sg.back]at q hc;rcases z hb with ⟨j,b0,A,hj,rfl⟩|⟨A,N⟩
  ·rw[A]at q;rw[(Oh _ b0).1]at hl;rw[(Oh _ b0).2.2.2.2.2.1];exact D.floor b c hc j b0 L hj hl q J
  ·rw[A]at q;exact h.floor b c ((D.kept b (F A q J)).2.2.2 c hc) i I L N hl q J
 ·intro i I hb hl;rcases z hb with ⟨j,b0,A,hj,rfl⟩|⟨A,N⟩
  ·obtain⟨e1,_,_,_,_,e6,e7⟩:=Oh (Jr ids H.length) b0;rw[e6,e7];rw[e1]at hl;exact D.low j b0 hj hl
  ·exact h.low i I N hl
 ·obtain⟨k1,k2,k3,k4⟩:=h.kept b hb;obtain⟨m1,m2,m3,m4⟩:=D.kept b (.inl hb);refine⟨m1,m2.trans k2,fun i L q J=>?_,fun c hc=>k4 c (m4 c hc)⟩;simp only[Sg.back]at q
  grind
end
def Uf (P:Program) (E:Env) (f:FuncId) (as:List V) (q:Heap) (r:V) (H1:Heap):Prop:=
 ∀(B:Nat) (w0:Start) (σ:Sg) (w:World) (vs:List Value),Inv B w0 σ q w->EK E σ w->AV σ w as vs ->
  Calls P f vs.toArray w fun e w' =>∃u σ',e = .returned u/\Inv B w0 σ' H1 w' /\ Ext σ w σ' w' /\ AV σ' w' [r] [u]
theorem Z4d {B:Nat} {w0:Start} {σ:Sg} {H q:Heap} {w:World} {fa:List (List Fk)} {fb:List Bf} {k:Nat} {args as:List V} {vs:List Value} {ids:List Nat} (h:Inv B w0 σ H w) (N:AV σ w args vs)
  (hp:pack fa fb k args H=some (ids,as,q)):yD ids q/\(∀id∈Dx as,id∈ids)/\H.length<=q.length/\∃σ',Inv B w0 σ' q w/\Ext σ w σ' w/\AV σ' w as vs:=by
 unfold pack at hp;split at hp
 ·rename_i G H1 J;split at hp
  ·rename_i F D M;simp only[Option.some.injEq,Prod.mk.injEq]at hp;obtain⟨rfl,rfl,rfl⟩:=hp;obtain⟨k1,Y,O,I,S⟩:=ZDz h N J;obtain⟨q1,q2,q3,A,Q,C⟩:=ZCX 1000 O M (by simp) (by simp);exact⟨q3,fun id z=>q2 id (by simp[z]),Nat.le_trans k1.len q1,A,Q,I.trans C,S.ext C⟩
  ·cases hp
 ·cases hp
theorem ZDP {P:Program} {E:Env} {B:Nat} {w0:Start} {σ:Sg} {H H' : Heap} {w:World} {f:FuncId} {hs:XR} {args:List V} {vs:List Value} {x:V} (I:∀as H0 r H1,hs.run as H0=some (r,H1)->Uf P E f as H0 r H1)
  (hc:PW hs args H=some (x,H')) (h:Inv B w0 σ H w) (hg:EK E σ w) (hr:AV σ w args vs) :
  Calls P f vs.toArray w fun e w' =>∃u σ',e = .returned u/\Inv B w0 σ' H' w' /\ Ext σ w σ' w' /\ AV σ' w' [x] [u]:=by
 unfold PW at hc;split at hc
 ·rename_i ids as H2 hp;split at hc
  ·rename_i r H3 M;split at hc
   ·rename_i J;simp only[Option.some.injEq,Prod.mk.injEq]at hc;obtain⟨rfl,rfl⟩:=hc;obtain⟨C,hm,_,A,q,F,hr1⟩:=Z4d h hr hp;have hlt:∀id∈ids,id<H2.length:=fun id D=>by
     obtain⟨b,k1,_⟩:=C.at_ id D
     grind
    have N:Inv B ⟨w,A.fz,outer A ids w0⟩ (A.ren ids) (JP H2 ids) w:=by
     refine Z4s q C _ (Below.refl _ _) (fun b c hc _=>hc) (fun b hb=>?_);rcases hb with hb|⟨id,L,D,hL,G⟩
     ·obtain⟨k1,k2,k3,k4⟩:=q.kept b hb
      grind
     ·obtain⟨bx,m1,m2⟩:=q.dom id L hL;obtain⟨O,z,hok⟩:=q.boxes id bx m1 m2;rw[hL]at z;cases z;refine⟨(hok.block_lt G).2,rfl,fun i hi O z hg' =>?_,fun c hc=>hc⟩;obtain⟨Q,n1,n2⟩:=q.dom i O z;have:=q.apart id i bx Q L O b m1 n1 m2 n2 hL z G hg';subst this;exact D hi
    have hg1:EK E (A.ren ids) w:=(hg.ext F).bare (fun b c I=>⟨I,rfl⟩) (En.refl _);refine(I _ _ _ _ M B _ (A.ren ids) w vs N hg1 (iU hr1 hm)).mono ?_
    rintro e w' ⟨u,σ2,rfl,hI2,S,hr2⟩
    obtain⟨hI3,Y⟩:=ZFf q C hI2 S J;exact⟨u,_,rfl,hI3,F.trans Y,ZBe hr2 (fun b c I=>⟨I,rfl⟩) (En.refl _) (fun id _=>Zg7 C.nodup hlt id)⟩
   ·cases hc
  ·cases hc
 ·cases hc
end Go.Proofs.YtjodhcdmhobmoaaGreatDoor.Le
