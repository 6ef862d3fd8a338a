/- A part of it. -/
import Derived.Test.YtjodhcdmhobmoaaGreatDoorVL2
import Derived.Orders
import Derived.LoopN
import Derived.Scope
set_option linter.unusedVariables false
set_option linter.unusedSimpArgs false
namespace Go.Proofs.YtjodhcdmhobmoaaGreatDoor.Le
open Go.RowKit (Below)
structure FU (E:Env) (B:Nat) (w0:Start) (σ:Sg) (st:St) (a:Act) (w:World):Prop where
 inv:Inv B w0 σ st.H w
 Ey:EH E σ w
 slots:AV σ w st.s a.tmps.toList
 calm:a.defers=[]
theorem vT {σ w s x u} {a:Act} (h:AV σ w s a.tmps.toList) (hx:AV σ w [x] [u]) (d:Option Tmp):AV σ w (setSlot s d x) (a.put d u).tmps.toList:=by
 cases d with
 | none=>exact h
 | some d=>
  simp only[setSlot,Act.put,Array.toList_setIfInBounds];exact h.set d hx
theorem wX {a:Act} (h:a.defers=[]) (d:Option Tmp) (u:Value):(a.put d u).defers=[]:=by
 cases d<;>exact h
theorem ZB9 {σ w s} {a:Act} {ops:Array Oper} (h:AV σ w s a.tmps.toList) {j d:Nat} {z r:Bool} (C:(ops[j]?).bind (·.dst)=some d) (A:Pg (s.getD d .und) z=some r) :
  (yielded ops a.tmps j==some z)=r:=by
 unfold yielded;rw[C];have q:∀x,s.getD d .und=x->x≠.und->∃v,a.tmps[d]? = some v/\AV σ w [x] [v]:=by
  intro x hx D;cases hs:s[d]? with
  | none=>simp_all
  | some y=>
   simp[List.getD,hs]at hx;subst hx;obtain⟨v,hv,hr⟩:=h.get hs
   simp_all
 unfold Pg at A;split at A
 ·rename_i b hb;obtain⟨v,hv,hr⟩:=q _ hb (by simp);simp only[Option.some.injEq]at A;have:v = .bool b:=by cases hr;rfl
  simp_all
 ·rename_i hb;obtain⟨v,hv,hr⟩:=q _ hb (by simp);simp only[Option.some.injEq]at A;have:v=undef:=by cases hr;rfl
  subst this;simp only[Option.bind_some,hv];rw[<- A];rfl
 ·cases A
section
variable {E:Env} {B:Nat} {w0:Start} {σ:Sg} {P:Program} {call:EM} {ops:Array Oper} {st st' : St} {a:Act} {w:World}
theorem Zfb (hE:DV E) (hP:E.P=P) (A:KA P E B w0 call) {k i:Nat} (hk:Fv st.H k=true) (h:FU E B w0 σ st a w) (hs:Ku call E ops k i st=some st')
  {K:Act->World->Prop} {Q:Exit->Act->World->Prop} (I:∀M w' σ',FU E B w0 σ' st' M w' -> Ext σ w σ' w' -> K M w'):wpOp P ops Q i K a w:=by
 unfold Ku at hs;unfold wpOp;cases O:ops[i]? with
 | none=>
  simp only[O,Option.some.injEq]at hs ⊢;subst hs;exact I a w σ h (Ext.refl σ w)
 | some o=>
  simp only[O]at hs ⊢;have hop:∀x H',BO call E k st.H st.s o=some (x,H')->st' = ⟨setSlot st.s o.dst x,H'⟩->o.wp P a w K Q:=by
   intro x H' hx z;refine ZBS hE hP A h.inv h.Ey hk h.slots o x H' hx K Q (fun u w' σ' S D Y=>I _ w' σ' ⟨?_,h.Ey.ext D,?_,wX h.calm _ _⟩ D)
   ·rw[z];exact S
   ·rw[z];exact vT (h.slots.ext D) Y o.dst
  have J:st' = ⟨setSlot st.s o.dst EZ,st.H⟩->K (a.put o.dst undef) w:=by
   intro z;refine I _ w σ ⟨by rw[z];exact h.inv,h.Ey,?_,wX h.calm _ _⟩ (Ext.refl σ w);rw[z];exact vT h.slots (.no .nil) o.dst
  cases q:GM call E ops k o st with
  | none=>simp[q]at hs
  | some r=>
   obtain⟨v,H'⟩:=r;simp only[q,Option.some.injEq]at hs;unfold GM at q;unfold Region.wanted;cases G:o.guard with
   | none=>
    simp_all
   | some jw=>
    obtain⟨j,C⟩:=jw;simp only[G]at q ⊢;cases F:(ops[j]?).bind (·.dst) with
    | none=>simp[F]at q
    | some d=>
     simp only[F]at q;cases N:Pg (st.s.getD d .und) C with
     | none=>simp_all
     | some r=>
      rw[N]at q;simp only[ZB9 h.slots F N]
      grind
theorem Zgp (O:DV E) (hP:E.P=P) (q:KA P E B w0 call):∀(A:List Nat) (st:St) (σ:Sg) (a:Act) (w:World),FU E B w0 σ st a w->OJ call E ops A st=some st' ->
  ∀{Q:Exit->Act->World->Prop},(∀z w' σ',FU E B w0 σ' st' z w' -> Ext σ w σ' w' -> Q .normal z w')->wpOps P ops Q A a w:=by
 intro A;induction A with
 | nil=>
  intro st σ a w h hs Q F;simp only[OJ,Option.some.injEq]at hs;subst hs;exact F a w σ h (Ext.refl σ w)
 | cons i M Y=>
  intro st σ a w h hs Q F;simp only[OJ]at hs;cases C:stepD call E ops i st with
  | none=>simp[C]at hs
  | some I=>
   simp only[C]at hs;rw[wpOps_cons];exact Zfb O hP q (jI st.H) h C (fun N w1 J G D=>Y I J N w1 G hs (fun z w' σ' hr S=>F z w' σ' hr (D.trans S)))
end
end Go.Proofs.YtjodhcdmhobmoaaGreatDoor.Le
namespace Go.Proofs.YtjodhcdmhobmoaaGreatDoor.Le
open Go.RowKit (Below)
theorem getD_set_ne' {s:List V} {d t:Nat} (h:d≠t) (v u:V):(s.set d v).getD t u=s.getD t u:=by
 simp_all
theorem yE {E:Env} {s:List V} {d:Option Tmp} {v:V} (x:Operand) (h:∀q,d=some q -> x≠.tmp q):ev E (setSlot s d v) x=ev E s x:=by
 cases d with
 | none=>rfl
 | some d=>
  cases x with
  | tmp t=>exact getD_set_ne' (fun e=>h d rfl (by rw[e])) v .und
  | _=>rfl
theorem Z2c {E:Env} {s q : List V} (xs:List Operand) (h:∀x∈xs,ev E s x=ev E q x):xs.map (ev E s)=xs.map (ev E q):=List.map_congr_left h
theorem Zcu {E:Env} {s q : List V} (ps:Array (Nat×Operand)) (h:∀x∈(ps.toList.map (·.2)).toArray,ev E s x=ev E q x) :
  (ps.toList.map fun(i,x)=>(i,ev E s x))=(ps.toList.map fun(i,x)=>(i,ev E q x)):=List.map_congr_left fun p hp=>by
 grind
theorem Zzb {call:EM} {E:Env} {k:Nat} {H:Heap} {s q : List V} {o:Oper} (h:∀x∈o.op.operands,ev E s x=ev E q x):BO call E k H s o=BO call E k H q o:=by
 obtain⟨dst,op,type,pos,after,guard⟩:=o;simp only at h;cases op<;>simp only[Op.operands]at h<;>simp only[BO]
 case assign x=>
  have hx:ev E s x=ev E q x:=h x (by simp);split<;>simp_all
 case build t ps=>rw[Zcu ps h]
 case buildSlice t n ps=>rw[Zcu ps h]
 case makeFunc fn first captured=>
  have z:evs E s first=evs E q first:=Z2c _ fun x hx=>h x (by simp at hx;simp[hx])
  have F:evs E s captured=evs E q captured:=Z2c _ fun x hx=>h x (by simp at hx;simp[hx]);cases fn<;>simp only[z,F]
 case call c=>
  have z:evs E s c.args=evs E q c.args:=Z2c _ fun x hx=>h x (by simp at hx;simp[Call.operands,hx]);rw[z];cases hc:c.callee with
  | value f=>have hf:ev E s f=ev E q f:=h f (by simp[Call.operands,hc]);simp only[hf]
  | builtin b=>cases b<;>rfl
  | invoke r n=>rfl
 case slice t x lo hi mx=>
  have hx:ev E s x=ev E q x:=h x (by simp);have C:lo.map (ev E s)=lo.map (ev E q):=by cases lo<;>simp_all
  have A:hi.map (ev E s)=hi.map (ev E q):=by cases hi<;>simp_all
  have D:mx.map (ev E s)=mx.map (ev E q):=by cases mx<;>simp_all
  rw[hx,C,A,D]
 all_goals simp_all
theorem wM {ops:Array Oper} {o:Oper} {d:Tmp} (h:d∉o.looksAt ops):∀x∈o.op.operands,x≠.tmp d:=fun x hx e=>h (by
 subst e;exact List.mem_append_left _ (List.mem_filterMap.2 ⟨.tmp d,by simpa using hx,rfl⟩))
theorem ZgR {call:EM} {E:Env} {k:Nat} {H:Heap} {s:List V} {o:Oper} {ops:Array Oper} {d:Option Tmp} {v:V} (h:∀q,d=some q -> q ∉o.looksAt ops) :
  BO call E k H (setSlot s d v) o=BO call E k H s o:=
 Zzb fun x hx=>yE x fun q z=>wM (h q z) x hx
theorem Z3z {E:Env} {s:List V} {o:Oper} {ops:Array Oper} {d:Option Tmp} {v:V} (h:∀q,d=some q -> q ∉o.looksAt ops):EX E (setSlot s d v) o=EX E s o:=by
 unfold EX;rw[<- List.flatMap_map,<- List.flatMap_map (f:=ev E s)];congr 1;exact List.map_congr_left fun x hx=>yE x fun q z=>wM (h q z) x (by simpa using hx)
theorem Zcm {E:Env} {s:List V} {o:Oper} {ops:Array Oper} {d:Option Tmp} {v:V} (h:∀z,d=some z -> z ∉o.looksAt ops):quietAt E (setSlot s d v) o=quietAt E s o:=by
 unfold quietAt;cases A:o.op with
 | call c=>
  simp only;cases q:c.callee with
  | value f=>
   cases f with
   | tmp t=>
    have hx:Operand.tmp t∈o.op.operands:=by simp[A,Op.operands,Call.operands,q]
    have:=yE (E:=E) (s:=s) (v:=v) (.tmp t) fun z C=>wM (h z C) _ hx;simp only[show (setSlot s d v).getD t .und=s.getD t .und from this]
   | _=>rfl
  | _=>rfl
 | _=>rfl
theorem ZfM {call:EM} {E:Env} {k:Nat} {H:Heap} {s:List V} {o:Oper} {ops:Array Oper} {d:Option Tmp} {v:V} (h:∀q,d=some q -> q ∉o.looksAt ops) :
  GM call E ops k o ⟨setSlot s d v,H⟩=GM call E ops k o ⟨s,H⟩:=by
 unfold GM;cases F:o.guard with
 | none=>exact ZgR h
 | some G=>
  obtain⟨j,C⟩:=G;simp only;cases D:(ops[j]?).bind (·.dst) with
  | none=>rfl
  | some g=>
   have A:∀q,d=some q -> q ≠g:=fun q z e=>h q z (by
    subst e;exact List.mem_append_right _ (by simp[F,D]))
   have:(setSlot s d v).getD g .und=s.getD g .und:=by
    cases d with
    | none=>rfl
    | some d=>exact getD_set_ne' (A d rfl) v .und
   simp only[this];rw[ZgR h]
def Box.low (b:Box):Box:={ b with floor:=0 }
def Dk (R:List Nat) (H H' : Heap):Prop:=∀id∈R,(H[id]?).map Box.low=(H'[id]?).map Box.low
theorem Qa {H H' : Heap} {id tot:Nat} {b:Box} (h:(H[id]?).map Box.low=(H'[id]?).map Box.low) (hb:Dn H id tot=some b):∃q,Dn H' id tot=some q /\ q.low=b.low:=by
 unfold Dn at *;cases z:H[id]? with
 | none=>simp[z]at hb
 | some b0=>
  simp only[z]at hb h;cases A:H'[id]? with
  | none=>simp[A]at h
  | some b1=>
   simp only[A,Option.map_some,Option.some.injEq]at h;split at hb
   ·rename_i hc;simp only[Option.some.injEq]at hb;subst hb;refine⟨b1,?_,h.symm⟩;have C:b1.live=b0.live:=(congrArg Box.live h).symm;have D:b1.xs=b0.xs:=(congrArg Box.xs h).symm;simp only[C,D,hc,if_true]
   ·cases hb
theorem VL {b q : Box} (h:q.low=b.low):q.row=b.row/\q.Ep=b.Ep/\q.elem=b.elem/\q.Au=b.Au/\q.xs=b.xs:=
 ⟨congrArg (·.row) h,congrArg (·.Ep) h,congrArg (·.elem) h,congrArg (·.Au) h,congrArg (·.xs) h⟩
theorem Ur {H H' : Heap} {id tot:Nat} (h:(H[id]?).map Box.low=(H'[id]?).map Box.low) (hb:Dn H id tot=none):Dn H' id tot=none:=by
 cases q : Dn H' id tot with
 | none=>rfl
 | some b=>
  obtain⟨z,A,_⟩:=Qa h.symm q
  simp_all
section
variable {H H' : Heap}
theorem Z4p {x:V} (h:Dk (EY x) H H'):Ia H' x=Ia H x:=by
 unfold Ia;split<;>try rfl
 rename_i id off len tot;cases hb:Dn H id tot with
 | none=>rw[Ur (h id (by simp[EY])) hb]
 | some b=>
  obtain⟨z,I,q⟩:=Qa (h id (by simp[EY])) hb;obtain⟨A,C,D,F,G⟩:=VL q
  simp_all
theorem ZBK {xs:List V} (h:Dk (xs.flatMap EY) H H'):KE H' xs=KE H xs:=by
 induction xs with
 | nil=>rfl
 | cons x xs z=>
  simp only[KE];rw[Z4p (fun i q=>h i (by simp[q])),z (fun i q=>h i (by rw[List.flatMap_cons];exact List.mem_append_right _ q))]
theorem Zgv {x:V} (h:Dk (DW x) H H'):Ic H' x=Ic H x:=by
 unfold Ic;split
 ·rw[ZBK (by simpa[DW]using h)]
 ·rename_i z;refine Z4p (fun i q=>h i ?_);cases x with
  | fn f a b=>simp[EY]at q
  | agg cs=>simp_all
  | _=>exact q
theorem Z3u {xs:List V} (h:Dk (xs.flatMap DW) H H'):Fg H' xs=Fg H xs:=by
 induction xs with
 | nil=>rfl
 | cons x xs z=>
  simp only[Fg];rw[Zgv (fun i q=>h i (by simp[q])),z (fun i q=>h i (by rw[List.flatMap_cons];exact List.mem_append_right _ q))]
theorem Z3Q {x:V} (h:Dk (DW x) H H'):lenOf H' x=lenOf H x:=by
 unfold lenOf;split<;>try rfl
 rename_i id off len tot;cases hb:Dn H id tot with
 | none=>rw[Ur (h id (by simp[DW,EY])) hb]
 | some b=>
  obtain⟨z,q,A⟩:=Qa (h id (by simp[DW,EY])) hb;simp only[q]
theorem tY {x:V} (h:Dk (DW x) H H'):elemsOf H' x=elemsOf H x:=by
 unfold elemsOf;split<;>try rfl
 rename_i id off len tot;cases hb:Dn H id tot with
 | none=>rw[Ur (h id (by simp[DW,EY])) hb]
 | some b=>
  obtain⟨D,A,C⟩:=Qa (h id (by simp[DW,EY])) hb;obtain⟨q,F,G,I,z⟩:=VL C;simp only[A,q,z]
theorem wI {x:V} {n:Nat} (h:Dk (DW x) H H'):Ew H' x n=Ew H x n:=by
 unfold Ew;split<;>try rfl
 rename_i id off len tot;cases hb:Dn H id tot with
 | none=>rw[Ur (h id (by simp[DW,EY])) hb]
 | some b=>
  obtain⟨C,z,A⟩:=Qa (h id (by simp[DW,EY])) hb;obtain⟨D,F,G,q,I⟩:=VL A;simp only[z,q]
theorem ZyG {E:Env} {t:TypeId} {a:V} (h:Dk (DW a) H H'):Nz E H' t a=Nz E H t a:=by
 unfold Nz;split
 ·rfl
 ·split<;>try rfl
  rename_i id j off tot;cases hb:Dn H id tot with
  | none=>rw[Ur (h id (by simp[DW,EY])) hb]
  | some b=>
   obtain⟨C,z,A⟩:=Qa (h id (by simp[DW,EY])) hb;obtain⟨D,F,G,I,q⟩:=VL A;simp only[z,q]
theorem Zpm {E:Env} {t:TypeId} {x i:V} (h:Dk (DW x) H H'):Q3 E H' t x i=Q3 E H t x i:=by
 unfold Q3;split<;>try rfl
 split<;>try rfl
 rename_i id off len tot C;cases hb:Dn H id tot with
 | none=>rw[Ur (h id (by simp[DW,EY])) hb]
 | some b=>
  obtain⟨D,z,A⟩:=Qa (h id (by simp[DW,EY])) hb;obtain⟨F,G,I,q,J⟩:=VL A;simp only[z,q]
theorem Zac {E:Env} {t:TypeId} {x:V} (h:Dk (DW x) H H'):Qb E H' t x=Qb E H t x:=by
 unfold Qb;split<;>try rfl
 split<;>try rfl
 split<;>try rfl
 rw[wI h]
end
def eff (ids:List Nat) (nb:Option Box) (k:Nat) (H:Heap):Heap:=
 match nb with
 | none=>bump H ids
 | some b=>place (bump H ids) k b
def yR (E:Env) (call:EM):Prop:=
 ∀f,Y5 E f=true->∀args H v H1,call f args H=some (v,H1) ->
  H1=bump H (args.flatMap EF)/\∀H',Dk (args.flatMap DW) H H' -> call f args H' = some (v,bump H' (args.flatMap EF))
def yX (E:Env) (call:EM):Prop:=
 ∀f,Qw E f=true->∀args H v H1,call f args H=some (v,H1) ->
  ∃ids q,(∀i∈ids,i∈args.flatMap DW)/\H1=bump H ids++q/\∀H',H'.length=H.length->Dk (args.flatMap DW) H H' -> call f args H' = some (v,bump H' ids++q)
structure PV (E:Env) (call:EM):Prop where
 pure:yR E call
 free:yX E call
theorem Zfv {x:V} {i:Nat} (h:i∈F7 x):i∈EY x:=by
 cases x<;>simp_all [F7,EY]
theorem ZAo {x:V} {i:Nat} (h:i∈EF x):i∈DW x:=by
 cases x with
 | agg cs=>
  simp only[EF,DW,List.mem_flatMap]at *;obtain⟨c,hc,q⟩:=h;exact⟨c,hc,Zfv q⟩
 | _=>simp_all [EF,DW,F7,EY]
theorem Z34 {xs:List V} {i:Nat} (h:i∈xs.flatMap EF):i∈xs.flatMap DW:=by
 simp only[List.mem_flatMap]at *;obtain⟨c,hc,q⟩:=h;exact⟨c,hc,ZAo q⟩
theorem Zgx {y:Option V} {H H1:Heap} {v:V} (h:y.map (·,H)=some (v,H1)):y=some v/\H1=H:=by
 cases y with
 | none=>cases h
 | some x=>simp_all
def Eff (call:EM) (E:Env) (k:Nat) (H:Heap) (s:List V) (o:Oper) (v:V) (H1:Heap):Prop:=
 ∃ids nb,(∀i∈ids,i∈EX E s o)/\(nb.isSome=true->CG E o = .a)/\H1=eff ids nb k H /\
  ∀H' k',(CG E o = .a->k' = k)->Dk (EX E s o) H H' -> BO call E k' H' s o=some (v,eff ids nb k' H')
theorem xA {call:EM} {E:Env} {k:Nat} {H H1:Heap} {s:List V} {o:Oper} {v:V} {y:Heap->Option V} (q:∀H k,BO call E k H s o=(y H).map (·,H))
  (h:BO call E k H s o=some (v,H1)) (C:∀H',Dk (EX E s o) H H' -> y H' = y H):Eff call E k H s o v H1:=by
 rw[q]at h;obtain⟨z,A⟩:=Zgx h;exact⟨[],none,by simp,by simp,A,fun H' k' _ hs=>by rw[q,C H' hs,z];rfl⟩
theorem kK {E:Env} {s:List V} {o:Oper} {H H' : Heap} (h:Dk (EX E s o) H H') {x:Operand} (hx:x∈o.op.operands):Dk (DW (ev E s x)) H H' :=fun i q=>
 h i (List.mem_flatMap.2 ⟨x,by simpa using hx,q⟩)
theorem Z5L {call:EM} {E:Env} {k:Nat} {H H1:Heap} {s:List V} {o:Oper} {v:V} (hc:CG E o = .s) (h:BO call E k H s o=some (v,H1)) :
  H1=H/\∀H' k',BO call E k' H' s o=some (v,H'):=by
 have key:∀y:Option V,(∀H k,BO call E k H s o=y.map (·,H))->H1=H/\∀H' k',BO call E k' H' s o=some (v,H'):=by
  intro y A;rw[A]at h;obtain⟨C,D⟩:=Zgx h;exact⟨D,fun H' k' =>by rw[A,C];rfl⟩
 obtain⟨dst,op,type,pos,after,guard⟩:=o;cases op<;>simp only[CG]at hc<;>try (cases hc;done)
 case convert=>grind
 case move x=>exact key (some (ev E s x)) (fun H k=>rfl)
 case pick c x y=>
  refine key (match ev E s c with | .lit (.bool t)=>some (if t then ev E s x else ev E s y)|_=>none) (fun H k=>?_);simp only[BO];split<;>simp_all
 case build t ps=>exact key (YE E t (ps.toList.map fun(i,x)=>(i,ev E s x))) (fun H k=>rfl)
 case binOp op t x y z=>exact key (OL E op t (ev E s x) (ev E s y)) (fun H k=>rfl)
 case unOp op t x=>exact key (mZ op (ev E s x)) (fun H k=>rfl)
 case sliceToArrayPointer t x=>exact key (Yg E t (ev E s x)) (fun H k=>rfl)
 case field t x f=>exact key (YK E t (ev E s x) f) (fun H k=>rfl)
 case fieldAddr t x f=>exact key (X5 E t (ev E s x) f) (fun H k=>rfl)
 case index t x i=>exact key (YD E t (ev E s x) (ev E s i)) (fun H k=>rfl)
 case nilCheck x=>
  refine key (match VN (ev E s x) with|some false=>some (ev E s x)|_=>none) (fun H k=>?_);simp only[BO];split<;>simp_all
 case lookup t m x ok=>exact key (YO E t ok (ev E s m) (ev E s x)) (fun H k=>rfl)
 case extract x i=>
  refine key (match ev E s x with | .BH vs=>vs[i]? | _=>none) (fun H k=>?_);simp only[BO];split<;>simp_all
 case makeFunc fn first caps=>
  cases fn with
  | func f=>exact key (some (.fn f (evs E s first) (evs E s caps))) (fun H k=>rfl)
  | _=>simp[BO]at h
 case assign x=>
  by_cases hx:x = .const (.slice none 0 0)
  ·subst hx;cases hc
  ·refine key (some (ev E s x)) (fun H k=>?_);unfold BO;split<;>simp_all
 case call c=>
  split at hc
  ·cases hc
  ·rename_i q;exact key (Qq false (evs E s c.args)) (fun H k=>by simp only[BO,q];rfl)
  ·rename_i q;exact key (Qq true (evs E s c.args)) (fun H k=>by simp only[BO,q];rfl)
  ·grind
  ·grind
  ·cases hc
theorem Zyd {E:Env} {H H' : Heap} {q dst:TypeId} {x r:V} (h:JH E H q dst x=some (r,H')):H' = H:=by
 unfold JH at h
 grind
theorem Zd5 {E:Env} {H H' : Heap} {t:TypeId} {x r:V} {z q:Option V} (h:Jz E H t x z q none=some (r,H')):H' = H:=by
 unfold Jz at h
 grind
theorem Z4q {E:Env} {s:List V} {o:Oper} {c:Call} (z:o.op = .call c) {H H' : Heap} (h:Dk (EX E s o) H H'):Dk ((evs E s c.args).flatMap DW) H H' :=by
 intro i q;simp only[evs,List.mem_flatMap,List.mem_map]at q;obtain⟨v,⟨x,hx,rfl⟩,q⟩:=q;refine h i (List.mem_flatMap.2 ⟨x,?_,q⟩);simp at hx;simp[z,Op.operands,Call.operands,hx]
theorem Z3G {E:Env} {s:List V} {o:Oper} {c:Call} (z:o.op = .call c) {i:Nat} (q:i∈(evs E s c.args).flatMap DW):i∈EX E s o:=by
 simp only[evs,List.mem_flatMap,List.mem_map]at q;obtain⟨v,⟨x,hx,rfl⟩,q⟩:=q;refine List.mem_flatMap.2 ⟨x,?_,q⟩;simp at hx;simp[z,Op.operands,Call.operands,hx]
theorem ZwD {E:Env} {s:List V} {o:Oper} {t:TypeId} {n:Nat} {ps:Array (Nat×Operand)} (z:o.op = .buildSlice t n ps) {i:Nat}
  (q:i∈((ps.toList.map fun(i,x)=>(i,ev E s x)).map (·.2)).flatMap DW):i∈EX E s o:=by
 simp only[List.map_map,List.mem_flatMap,List.mem_map]at q;obtain⟨v,⟨p,hp,rfl⟩,q⟩:=q;refine List.mem_flatMap.2 ⟨p.2,?_,q⟩;simp only[z,Op.operands]
 grind
theorem ZDp {H H' : Heap} {id:Nat} (h:(H[id]?).map Box.low=(H'[id]?).map Box.low):(H'.getD id default).Au=(H.getD id default).Au:=by
 simp only[List.getD];cases q:H[id]? with
 | none=>grind
 | some b=>cases z:H'[id]? with
  | none=>simp[q,z]at h
  | some A =>
   simp only[q,z,Option.map_some,Option.some.injEq]at h;show A.Au=b.Au;exact(congrArg Box.Au h).symm
theorem bump_nil (H:Heap):bump H []=H:=rfl
theorem Zyk {E:Env} {H H1:Heap} {t:TypeId} {x v:V} {F D G:Option V} (h:Jz E H t x F D G=some (v,H1)) :
  ∃ids,(∀i∈ids,i∈DW x)/\H1=bump H ids/\∀H',Dk (DW x) H H' -> Jz E H' t x F D G=some (v,bump H' ids):=by
 cases G with
 | none=>
  have:=Zd5 h;subst this;refine⟨[],by simp,(bump_nil _).symm,fun H' hs=>?_⟩;rw[bump_nil];have e:(Jz E H' t x F D none).map (·.1)=(Jz E H1 t x F D none).map (·.1):=by
   simp only[Jz];rw[Zac hs,Z3Q hs];split
   ·split
    ·rfl
    ·split
     ·rfl
     grind
   ·rfl
  cases hc:Jz E H' t x F D none with
  | none=>simp_all
  | some r=>
   obtain⟨r,J⟩:=r;have:=Zd5 hc
   simp_all
 | some m=>
  simp only[Jz]at h ⊢;split at h
  ·rename_i hf;split at h
   ·cases h
   ·rename_i n I;split at h
    ·cases h
    ·rename_i M A;split at h
     ·cases h
     ·rename_i l C;have key:∀H',Dk (DW x) H H' -> Qb E H' t x=true/\lenOf H' x=some n/\elemsOf H' x=elemsOf H x:=fun H' hs=>⟨by rw[Zac hs];exact hf,by rw[Z3Q hs];exact I,tY hs⟩;split at h
      ·rename_i k xs b e hk z;split at h
       ·rename_i q;simp only[Option.some.injEq,Prod.mk.injEq]at h;obtain⟨rfl,rfl⟩:=h;refine⟨[],by simp,(bump_nil _).symm,fun H' hs=>?_⟩;obtain⟨q1,q2,q3⟩:=key H' hs;rw[if_pos q1,q2,bump_nil];simp only[A,C,hk,q3,z,if_pos q]
       ·cases h
      ·rename_i k xs b e hk z;split at h
       ·rename_i q;simp only[Option.some.injEq,Prod.mk.injEq]at h;obtain⟨rfl,rfl⟩:=h;refine⟨[],by simp,(bump_nil _).symm,fun H' hs=>?_⟩;obtain⟨q1,q2,q3⟩:=key H' hs;rw[if_pos q1,q2,bump_nil];simp only[A,C,hk,q3,z,if_pos q]
       ·cases h
      ·rename_i k xs id off len tot hk z;split at h
       ·rename_i q;simp only[Option.some.injEq,Prod.mk.injEq]at h;obtain⟨rfl,rfl⟩:=h;refine⟨[id],by simp[DW,EY],rfl,fun H' hs=>?_⟩;obtain⟨q1,q2,q3⟩:=key H' hs;rw[if_pos q1,q2];simp only[A,C,hk,q3,z,if_pos q,ZDp (hs id (by simp[DW,EY]))]
       ·cases h
      ·cases h
  ·cases h
theorem ZwV {E:Env} {H H1:Heap} {n:Nat} {e:TypeId} {x v:V} {A q C:Option V} (h:P8 E H n e x A q C=some (v,H1)) :
  ∃ids,(∀i∈ids,i∈DW x)/\H1=bump H ids/\∀H',Dk (DW x) H H' -> P8 E H' n e x A q C=some (v,bump H' ids):=by
 unfold P8 at h;split at h
 ·rename_i id i off tot Y F;cases hb:Dn H id tot with
  | none=>simp[hb]at h
  | some b=>
   simp only[hb]at h;split at h
   ·rename_i cs z G;split at h
    ·rename_i hc;simp only[Option.some.injEq,Prod.mk.injEq]at h;obtain⟨rfl,rfl⟩:=h;refine⟨[id],by simp[DW,EY],rfl,fun H' hs=>?_⟩;obtain⟨I,S,D⟩:=Qa (hs id (by simp[DW,EY])) hb;obtain⟨J,M,N,O,Q⟩:=VL D;unfold P8
     simp_all
    ·cases h
   ·cases h
 ·cases h
theorem ZgC {call:EM} {E:Env} (O:yR E call) {k:Nat} {H H1:Heap} {s:List V} {o:Oper} {v:V} (hc:CG E o≠.w) (hcc:CG E o≠.c) (hq:quietAt E s o=true) (h:BO call E k H s o=some (v,H1)) :
  Eff call E k H s o v H1:=by
 by_cases hs:CG E o = .s
 ·obtain⟨G,S⟩:=Z5L hs h;exact⟨[],none,by simp,by simp,G,fun H' k' _ _=>S H' k'⟩
 have mk:∀(nb:Option Box),CG E o = .a->(nb.isSome=true)->(∀H k,BO call E k H s o=nb.map fun b=>((if b.row then V.Bi k 0 b.xs.length b.xs.length else V.ptr k 0 0 1),place H k b))->Eff call E k H s o v H1:=by
  intro nb Y hnb D;cases nb with
  | none=>cases hnb
  | some b=>
   rw[D]at h;simp only[Option.map_some,Option.some.injEq,Prod.mk.injEq]at h;obtain⟨G,S⟩:=h;refine⟨[],some b,by simp,fun _=>Y,S.symm,fun H' k' hk _=>?_⟩;rw[D,hk Y];simp only[Option.map_some,G];rfl
 obtain⟨dst,op,type,pos,after,guard⟩:=o;cases op<;>try (refine absurd ?_ hs;simp[CG];done)
 case assign x=>
  by_cases hx:x = .const (.slice none 0 0)
  ·subst hx;cases q:E.ti type with
   | none=>simp[BO,q]at h
   | some i=>
    obtain⟨ty,sz,by',z0⟩:=i;cases ty with
    | slice e=>exact mk (some (CB true false e ((E.size e).getD 0) [])) rfl rfl (fun H k=>by simp only[BO,q,Option.map_some];rfl)
    | _=>simp[BO,q]at h
  ·refine absurd ?_ hs;unfold CG;split<;>simp_all
 case alloc t=>
  cases q:E.ti t with
  | none=>simp[BO,q]at h
  | some i=>
   cases hz:i.zero with
   | none=>simp[BO,q,hz]at h
   | some z=>
    by_cases A:z.cells.length=i.size/\okV z=true
    ·exact mk (some (CB false false t i.size [z])) rfl rfl (fun H k=>by simp only[BO,q,hz,A,and_self,if_true,Option.map_some];rfl)
    ·simp[BO,q,hz,A]at h
 case box t x=>
  cases q:E.ti t with
  | none=>simp[BO,q]at h
  | some i=>
   by_cases A:(ev E s x).cells.length=i.size/\okV (ev E s x)=true
   ·exact mk (some (CB false false t i.size [ev E s x])) rfl rfl (fun H k=>by simp only[BO,q,A,and_self,if_true,Option.map_some];rfl)
   ·simp[BO,q,A]at h
 case makeSlice t l c=>
  have hlen:∀(n:Int) (z:V),(List.replicate n.toNat z).length=n.toNat:=fun n z=>by simp
  cases q:E.ti t with
  | none=>simp[BO,q]at h
  | some i=>
   obtain⟨ty,sz,by',z0⟩:=i;cases ty with
   | slice e=>
    cases hl:ev E s l with
    | lit lv=>
     cases lv with
     | int k1 n=>
      cases I:ev E s c with
      | lit cv=>
       cases cv with
       | int k2 m=>
        cases M:E.ti e with
        | none=>simp[BO,q,hl,I,M]at h
        | some ei=>
         cases hz:ei.zero with
         | none=>simp[BO,q,hl,I,M,hz]at h
         | some z=>
          by_cases A:0<=n/\n<=m/\m.toNat*ei.bytes<=lim/\m<=maxLen/\0<ei.size/\z.cells.length=ei.size/\okV z=true
          ·refine mk (some (CB true false e ei.size (List.replicate n.toNat (ES (E.rows e) z)))) rfl rfl (fun H k=>?_);simp only[BO,q,hl,I,M,hz,Option.map_some];rw[if_pos A];simp[CB]
          ·simp only[BO,q,hl,I,M,hz]at h;rw[if_neg A]at h;cases h
       | _=>simp[BO,q,hl,I]at h
      | _=>simp[BO,q,hl,I]at h
     | _=>simp[BO,q,hl]at h
    | _=>simp[BO,q,hl]at h
   | _=>simp[BO,q]at h
 case buildSlice t n ps=>
  have D:∀H k,BO call E k H s { dst:=dst,op:=.buildSlice t n ps,type:=type,pos:=pos,after:=after,guard:=guard }=QW E k H t n (ps.toList.map fun(i,x)=>(i,ev E s x)):=fun H k=>rfl;have J:=fun i=>ZwD (E:=E) (s:=s) (o:={ dst:=dst,op:=.buildSlice t n ps,type:=type,pos:=pos,after:=after,guard:=guard }) rfl (i:=i);rw[D]at h;generalize (ps.toList.map fun(i,x)=>(i,ev E s x))=Q at D h J;unfold QW at h;split at h
  ·rename_i e sz by' z0 q;split at h
   ·rename_i ei M;split at h
    ·rename_i z vs hz hf;split at h
     ·rename_i A;split at h
      ·rename_i xs hfe;simp only[Option.some.injEq,Prod.mk.injEq]at h;obtain⟨G,S⟩:=h;refine⟨(Q.map (fun p:Nat×V=>p.2)).flatMap EF,some (CB true false e ei.size xs),fun i F=>J i (Z34 F),fun _=>by simp[CG],S.symm,fun H' k' hk hs=>?_⟩;have hfr:Fg H' (Q.map (·.2))=some vs:=by rw[Z3u (fun i F=>hs i (J i F))];exact hf
       have hkk:k' = k:=hk (by simp[CG]);rw[D,hkk,<- G];simp only[QW,q,M,hz,hfr,hfe];rw[if_pos A];rfl
      ·cases h
     ·cases h
    ·cases h
   ·cases h
  ·cases h
 case load t x=>exact xA (y:=fun H=>Nz E H t (ev E s x)) (fun H k=>rfl) h (fun H' hs=>ZyG (kK hs (by simp[Op.operands])))
 case indexAddr t x i=>exact xA (y:=fun H=>Q3 E H t (ev E s x) (ev E s i)) (fun H k=>rfl) h (fun H' hs=>Zpm (kK hs (by simp[Op.operands])))
 case convert src dst2 x=>
  have hx:x∈(Op.convert src dst2 x).operands:=by simp[Op.operands]
  by_cases hb:(E.isStr src&&E.isBytes dst2)=true
  ·have Y:CG E { dst:=dst,op:=.convert src dst2 x,type:=type,pos:=pos,after:=after,guard:=guard } = .a:=by simp only[CG];rw[if_pos hb]
   have D:∀H k,BO call E k H s { dst:=dst,op:=.convert src dst2 x,type:=type,pos:=pos,after:=after,guard:=guard }=OC E k H dst2 (ev E s x):=fun H k=>by simp only[BO];rw[if_pos hb]
   cases N:ev E s x with
   | lit v=>
    cases v with
    | string st=>
     cases q:E.ti dst2 with
     | none=>rw[D,N]at h;simp[OC,q]at h
     | some i=>
      obtain⟨ty,sz,by',z0⟩:=i;cases ty with
      | slice e=>
       by_cases G:E.size e=some 1
       ·exact mk (some (CB true false e 1 (bytesV st))) Y rfl (fun H k=>by rw[D,N];simp only[OC,q,G,if_true,Option.map_some];rw[show (CB true false e 1 (bytesV st)).xs.length=st.size from by simp only[CB,bytesV,List.length_map];exact Array.length_toList];rfl)
       ·rw[D,N]at h;simp[OC,q,G]at h
      | _=>rw[D,N]at h;simp[OC,q]at h
    | _=>rw[D,N]at h;simp[OC]at h
   | _=>rw[D,N]at h;simp[OC]at h
  have hcv0:∀H k,BO call E k H s { dst:=dst,op:=.convert src dst2 x,type:=type,pos:=pos,after:=after,guard:=guard }=JH E H src dst2 (ev E s x):=fun H k=>by simp only[BO];rw[if_neg hb]
  refine xA (y:=fun H=>(JH E H src dst2 (ev E s x)).map (·.1)) (fun H k=>?_) h (fun H' hs=>?_)
  ·rw[hcv0];cases I:JH E H src dst2 (ev E s x) with
   | none=>rfl
   | some r=>
    obtain⟨r,H2⟩:=r;have:=Zyd I;subst this;rfl
  ·have G:=kK hs hx;simp only[JH];generalize ev E s x=ex at G ⊢;split
   ·grind
   ·split<;>rfl
   ·rw[wI G,tY G]
    grind
 case slice t x lo F mx=>
  have hx:x∈(Op.slice t x lo F mx).operands:=by simp[Op.operands]
  by_cases harr:∃n e sz by' z0,E.ti t=some ⟨.array n e,sz,by',z0⟩
  ·obtain⟨n,e,sz,by',z0,q⟩:=harr;have D:∀H k,BO call E k H s { dst:=dst,op:=.slice t x lo F mx,type:=type,pos:=pos,after:=after,guard:=guard }=P8 E H n e (ev E s x) (lo.map (ev E s)) (F.map (ev E s)) (mx.map (ev E s)):=fun H k=>by simp only[BO,q]
   rw[D]at h;obtain⟨ids,g1,g2,g3⟩:=ZwV h;exact⟨ids,none,fun i F=>List.mem_flatMap.2 ⟨x,by simpa using hx,g1 i F⟩,by simp,g2,fun H' k' _ hs=>by rw[D];exact g3 H' (kK hs hx)⟩
  ·have D:∀H k,BO call E k H s { dst:=dst,op:=.slice t x lo F mx,type:=type,pos:=pos,after:=after,guard:=guard }=Jz E H t (ev E s x) (lo.map (ev E s)) (F.map (ev E s)) (mx.map (ev E s)):=fun H k=>by
    simp only[BO]
    simp_all
   rw[D]at h;obtain⟨ids,g1,g2,g3⟩:=Zyk h;exact⟨ids,none,fun i F=>List.mem_flatMap.2 ⟨x,by simpa using hx,g1 i F⟩,by simp,g2,fun H' k' _ hs=>by rw[D];exact g3 H' (kK hs hx)⟩
 case call c=>
  cases C:c.callee with
  | invoke r n=>exact absurd (by simp[CG,C]) hc
  | builtin b=>
   by_cases hb:b = .len
   ·subst hb;have D:∀H k,BO call E k H s { dst:=dst,op:=.call c,type:=type,pos:=pos,after:=after,guard:=guard }=Qd E k H s .len (evs E s c.args) c.argTypes.toList:=fun H k=>by simp only[BO,C]
    refine xA (y:=fun H=>(Qd E 0 H s .len (evs E s c.args) c.argTypes.toList).map (·.1)) (fun H k=>?_) h (fun H' hs=>?_)
    ·rw[D];unfold Qd;split<;>try rfl
     ·split
      ·cases lenOf H _<;>rfl
      ·rfl
     all_goals simp_all
    ·have G:=Z4q rfl hs;generalize evs E s c.args=xs at G ⊢;simp only[Qd];split<;>try rfl
     ·split
      ·rw[Z3Q (fun i F=>G i (by simpa using F))];rename_i x t _ _ _;cases lenOf H x<;>rfl
      ·rfl
     all_goals simp_all
   ·exfalso;revert hc hs;unfold CG;cases b<;>simp_all
  | value f=>
   cases f with
   | func f=>
    by_cases hp:Y5 E f=true
    ·have D:∀H k,BO call E k H s { dst:=dst,op:=.call c,type:=type,pos:=pos,after:=after,guard:=guard }=call f (evs E s c.args) H:=fun H k=>by simp[BO,C,ev]
     rw[D]at h;obtain⟨G,S⟩:=O f hp _ _ _ _ h;refine⟨(evs E s c.args).flatMap EF,none,fun i F=>Z3G rfl (Z34 F),by simp,G,fun H' k' _ hs=>?_⟩;rw[D];exact S H' (Z4q rfl hs)
    ·by_cases hfr:Qw E f=true
     ·exact absurd (by unfold CG;simp only[C];rw[if_neg hp,if_pos hfr]) hcc
     ·exact absurd (by unfold CG;simp only[C];rw[if_neg hp,if_neg hfr]) hc
   | tmp t=>
    have hqt:(E.quiet&&type != 0)=true:=by
     cases hh:(E.quiet&&type != 0) with
     | true=>rfl
     | false=>exact absurd (by simp only[CG,C,hh];rfl) hc
    simp only[quietAt,C,hqt,Bool.not_true,Bool.false_or]at hq;cases hv:s.getD t .und with
    | fn g a b=>
     rw[hv]at hq;simp only[yC,Bool.and_eq_true]at hq;have D:∀H k,BO call E k H s { dst:=dst,op:=.call c,type:=type,pos:=pos,after:=after,guard:=guard }=call g (a++evs E s c.args++b) H:=fun H k=>by
      simp only[BO,C,ev,hv]
     rw[D]at h;obtain⟨G,S⟩:=O g hq.1 _ _ _ _ h;have hin:∀i∈(a++evs E s c.args++b).flatMap DW,i∈EX E s { dst:=dst,op:=.call c,type:=type,pos:=pos,after:=after,guard:=guard }:=by
      intro i F;obtain⟨x,hx,hix⟩:=List.mem_flatMap.1 F;have hab:x∈a++b->i∈EX E s { dst:=dst,op:=.call c,type:=type,pos:=pos,after:=after,guard:=guard }:=fun hm=>by
       have hnf:=List.all_eq_true.1 hq.2 x hm;have hix' : i∈lK x:=by cases x<;>first|exact hix|(simp[zB]at hnf)
       refine List.mem_flatMap.2 ⟨.tmp t,by simp[Op.operands,Call.operands,C],?_⟩;show i∈DW (s.getD t .und);rw[hv];exact List.mem_flatMap.2 ⟨x,hm,hix'⟩
      rcases List.mem_append.1 hx with hx|hx
      ·rcases List.mem_append.1 hx with hx|hx
       ·simp_all
       ·exact Z3G rfl (List.mem_flatMap.2 ⟨x,hx,hix⟩)
      ·simp_all
     refine⟨(a++evs E s c.args++b).flatMap EF,none,fun i F=>hin i (Z34 F),by simp,G,fun H' k' _ hs=>?_⟩;rw[D];exact S H' fun i F=>hs i (hin i F)
    | _=>rw[hv]at hq;simp[yC]at hq
   | _=>exact absurd (by simp[CG,C]) hc
 all_goals (refine absurd ?_ hc;simp[CG];done)
theorem Zg8 {call:EM} {E:Env} (A:yX E call) {k:Nat} {H H1:Heap} {s:List V} {o:Oper} {v:V} (hc:CG E o = .c) (h:BO call E k H s o=some (v,H1)) :
  ∃ids z,(∀i∈ids,i∈EX E s o)/\H1=bump H ids++z/\∀H' k',H'.length=H.length->Dk (EX E s o) H H' -> BO call E k' H' s o=some (v,bump H' ids++z):=by
 obtain⟨dst,op,type,pos,after,guard⟩:=o;cases op<;>simp only[CG]at hc<;>first|(cases hc;done)|skip
 case convert=>split at hc<;>cases hc
 case assign x=>exfalso;revert hc;split<;>simp_all
 case call c=>
  cases q:c.callee with
  | builtin b=>exfalso;revert hc;simp only[q];cases b<;>simp
  | invoke r n=>exfalso;revert hc;simp[q]
  | value f=>
  cases f with
  | tmp _=>exfalso;revert hc;simp only[q];split<;>simp
  | const _=>exfalso;revert hc;simp[q]
  | global _=>exfalso;revert hc;simp[q]
  | func f=>
  simp only[q]at hc;split at hc
  ·cases hc
  ·split at hc
   ·rename_i C;have D:∀H k,BO call E k H s { dst:=dst,op:=.call c,type:=type,pos:=pos,after:=after,guard:=guard }=call f (evs E s c.args) H:=fun H k=>by simp[BO,q,ev]
    rw[D]at h;obtain⟨ids,z,F,G,I⟩:=A f C _ _ _ _ h;exact⟨ids,z,fun i J=>Z3G rfl (F i J),G,fun H' k' hl hs=>by rw[D];exact I H' hl (Z4q rfl hs)⟩
   ·cases hc
end Go.Proofs.YtjodhcdmhobmoaaGreatDoor.Le
namespace Go.Proofs.YtjodhcdmhobmoaaGreatDoor.Le
def Iq (ids:List Nat) (i:Nat) (b:Box):Box:=if i∈ids then { b with floor:=b.xs.length } else b
theorem Qg {ids:List Nat} {nb:Option Box} {k:Nat} {H:Heap} (hk:nb.isSome=true->k<H.length) (i:Nat) :
  (eff ids nb k H)[i]? = match nb with|some b=>if i=k then some b else (H[i]?).map (Iq ids i)|none=>(H[i]?).map (Iq ids i):=by
 cases nb with
 | none=>simp only[eff];rw[ML];rfl
 | some b=>
  have q : k<(bump H ids).length:=by rw[bump_length];exact hk rfl
  simp only[eff,place];rw[if_pos q,List.getElem?_set]
  by_cases z:i=k
  ·subst z;simp[q]
  ·rw[if_neg (fun e=>z e.symm),if_neg z,ML];rfl
theorem X7 {ids:List Nat} {nb:Option Box} {k:Nat} {H:Heap} (hk:nb.isSome=true->k<H.length):(eff ids nb k H).length=H.length:=by
 cases nb with
 | none=>exact bump_length H ids
 | some b=>
  have q : k<(bump H ids).length:=by rw[bump_length];exact hk rfl
  simp only[eff,place];rw[if_pos q,List.length_set,bump_length]
theorem vO (F7 ids2:List Nat) (i:Nat) (b:Box):Iq F7 i (Iq ids2 i b)=Iq ids2 i (Iq F7 i b):=by
 unfold Iq
 grind
theorem Z4k {F7 ids2:List Nat} {nb1 nb2:Option Box} {k1 k2:Nat} {H:Heap} (z:nb1.isSome=true->k1<H.length/\k1∉ids2) (A:nb2.isSome=true->k2<H.length/\k2∉F7)
  (F:nb1.isSome=true->nb2.isSome=true->k1≠k2):eff F7 nb1 k1 (eff ids2 nb2 k2 H)=eff ids2 nb2 k2 (eff F7 nb1 k1 H):=by
 have G:=X7 (ids:=F7) (fun h=>(z h).1);have I:=X7 (ids:=ids2) (fun h=>(A h).1);apply List.ext_getElem?;intro i;rw[Qg (ids:=F7) (H:=eff ids2 nb2 k2 H) (fun h=>by rw[I];exact(z h).1),Qg (ids:=ids2) (H:=eff F7 nb1 k1 H) (fun h=>by rw[G];exact(A h).1),Qg (ids:=F7) (H:=H) (fun h=>(z h).1),Qg (ids:=ids2) (H:=H) (fun h=>(A h).1)];cases nb1 with
 | none=>
  cases nb2 with
  | none=>
   simp only;cases H[i]? with
   | none=>rfl
   | some b=>simp only[Option.map_some,vO]
  | some b2=>
   simp only
   by_cases q:i=k2
   ·subst q;simp only[if_true,Option.map_some];simp[Iq,(A rfl).2]
   ·simp only[q,if_false];cases H[i]? with
    | none=>rfl
    | some b=>simp only[Option.map_some,vO]
 | some b1=>
  cases nb2 with
  | none=>
   simp only
   by_cases q:i=k1
   ·subst q;simp only[if_true,Option.map_some];simp[Iq,(z rfl).2]
   ·simp only[q,if_false];cases H[i]? with
    | none=>rfl
    | some b=>simp only[Option.map_some,vO]
  | some b2=>
   have D:=F rfl rfl;simp only
   by_cases q:i=k1
   ·subst q;rw[if_pos rfl,if_neg D,if_pos rfl];simp[Iq,(z rfl).2]
   ·by_cases C:i=k2
    ·subst C;rw[if_neg q,if_pos rfl,if_pos rfl];simp[Iq,(A rfl).2]
    ·rw[if_neg q,if_neg C,if_neg C,if_neg q];cases H[i]? with
     | none=>rfl
     | some b=>simp only[Option.map_some,vO]
theorem ZeQ (ids:List Nat) (i:Nat) (b:Box):(Iq ids i b).low=b.low:=by
 unfold Iq;split<;>rfl
theorem VH {R ids:List Nat} {nb:Option Box} {k:Nat} {H:Heap} (hk:nb.isSome=true->k<H.length/\k∉R):Dk R H (eff ids nb k H):=by
 intro i q;rw[Qg (fun h=>(hk h).1)];cases nb with
 | none=>
  simp only;cases H[i]? with
  | none=>rfl
  | some b=>simp only[Option.map_some,ZeQ]
 | some b=>
  have:i≠k:=fun e=>(hk rfl).2 (e▸q);simp only[this,if_false];cases H[i]? with
  | none=>rfl
  | some b=>simp only[Option.map_some,ZeQ]
theorem Dk.symm {R:List Nat} {H H' : Heap} (h:Dk R H H'):Dk R H' H:=fun i q=>(h i q).symm
theorem Zfy {ids:List Nat} {nb:Option Box} {k j:Nat} {H:Heap} (hk:nb.isSome=true->k<H.length/\k≠j):(∃b,(eff ids nb k H)[j]? = some b/\b.live=false)↔∃b,H[j]? = some b/\b.live=false:=by
 rw[Qg (fun h=>(hk h).1)];have hm:(∃b,(H[j]?).map (Iq ids j)=some b/\b.live=false)↔∃b,H[j]? = some b/\b.live=false:=by
  cases H[j]? with
  | none=>simp
  | some b=>
   simp only[Option.map_some,Option.some.injEq,exists_eq_left'];unfold Iq;split<;>rfl
 grind
section
variable {call:EM} {E:Env} {ops:Array Oper} {ms:List Nat} {lt:List (Nat×(Nat⊕Nat))} {s0:List V} {base m:Nat}
def Dc (E:Env) (o:Oper) (base i:Nat) (H:Heap):Nat:=if CG E o = .a then base+i else H.length
def Qr (E:Env) (ops:Array Oper) (ms:List Nat) (base m i:Nat) (s:List V) (o:Oper):Prop:=(∀id∈EX E s o,id<base\/(base+m<=id/\Xy E ops ms i=true)\/(id<base+m/\(ms.getD i 0).testBit (id - base)=true))/\quietAt E s o=true
theorem wJ {i:Nat} {o:Oper} (A:ops[i]? = some o) {st st' : St}:Ip call E ops ms lt s0 base m i st=some st' ↔
  Qr E ops ms base m i st.s o/\(Gy E ms lt s0 base i st.s st.H o=true/\(CG E o = .c->base+m<=st.H.length))/\(CG E o = .a->∃b,st.H[base+i]? = some b/\b.live=false)/\∃v H',GM call E ops (Dc E o base i st.H) o st=some (v,H')/\st' = ⟨setSlot st.s o.dst v,H'⟩:=by
 have C:∀k,Ku call E ops k i st=some st' ↔∃v H',GM call E ops k o st=some (v,H')/\st' = ⟨setSlot st.s o.dst v,H'⟩:=by
  intro k;unfold Ku;simp only[A];cases z:GM call E ops k o st with
  | none=>simp
  | some r=>
   grind
 unfold Ip;simp only[A];have q:(((EX E st.s o).all fun id=>decide (id<base)||(decide (base+m<=id)&&Xy E ops ms i)||(decide (id<base+m)&&(ms.getD i 0).testBit (id - base)))&&quietAt E st.s o&&(Gy E ms lt s0 base i st.s st.H o&&(!decide (CG E o = .c)||decide (base+m<=st.H.length))))=true↔
   Qr E ops ms base m i st.s o/\Gy E ms lt s0 base i st.s st.H o=true/\(CG E o = .c->base+m<=st.H.length):=by
  unfold Qr;rw[Bool.and_eq_true,Bool.and_eq_true,Bool.and_eq_true,List.all_eq_true];have hc:(!decide (CG E o = .c)||decide (base+m<=st.H.length))=true↔(CG E o = .c->base+m<=st.H.length):=by
   by_cases h:CG E o = .c<;>simp[h]
  rw[hc];simp only[Bool.or_eq_true,Bool.and_eq_true,decide_eq_true_eq,or_assoc]
 by_cases hs:Qr E ops ms base m i st.s o/\Gy E ms lt s0 base i st.s st.H o=true/\(CG E o = .c->base+m<=st.H.length)
 ·rw[if_pos (q.2 hs)];unfold Dc
  grind
 grind
theorem Z2K {o:Oper} {a:Operand} (h:Qc o=some a):(∃t v,o.op = .store t a v)\/∃c x,o.op = .call c/\c.callee = .builtin .append/\c.args.toList=[a,x]:=by
 unfold Qc at h
 grind
theorem ZbH {o:Oper} {a:Operand} (h:Qc o=some a):a∈o.op.operands:=by
 rcases Z2K h with ⟨t,v,q⟩|⟨c,x,q,A,z⟩
 ·simp[q,Op.operands]
 ·have:a∈c.args:=by
   have:a∈c.args.toList:=by rw[z];simp
   simpa using this
  simp[q,Op.operands,Call.operands,this]
theorem xG {o:Oper} {t:Nat⊕Nat} (h:YN E ops o=some t):CG E o = .w/\o.guard=none/\∃d,Qc o=some (.tmp d):=by
 unfold YN at h;split at h
 ·rename_i d A hw;refine⟨?_,A,⟨d,hw⟩⟩;rcases Z2K hw with ⟨t,v,q⟩|⟨c,x,q,z,C⟩
  ·unfold CG;rw[q]
  ·unfold CG;rw[q];simp only[z]
 ·cases h
theorem ZAr {x:Nat} {t:Nat⊕Nat} (h:(x,t)∈Qx E ops):∃ox,ops[x]? = some ox/\YN E ops ox=some t:=by
 unfold Qx at h
 grind
theorem Zgw {o:Oper} (h:needs E o=true):CG E o≠.w:=by
 unfold needs at h
 grind
theorem Zwn {s:List V} {o:Oper} {d:Option Tmp} {v:V} (h:∀q,d=some q -> q ∉o.looksAt ops):addrOf E (setSlot s d v) o=addrOf E s o:=by
 unfold addrOf;split
 ·rename_i a hw;exact yE _ fun q z=>wM (h q z) a (ZbH hw)
 ·rfl
theorem Zfh {s:List V} {H:Heap} {i:Nat} {o:Oper} {d:Option Tmp} {v:V} (h:∀q,d=some q -> q ∉o.looksAt ops):Gy E ms lt s0 base i (setSlot s d v) H o=Gy E ms lt s0 base i s H o:=by
 unfold Gy;rw[Zwn h,Z3z h]
theorem NW {s:List V} {H H' : Heap} {i:Nat} {o:Oper} (h:∀t,(i,t)∉lt) (hl:Gy E ms lt s0 base i s H o=true):Gy E ms lt s0 base i s H' o=true:=by
 unfold Gy at *;rw[List.all_eq_true]at *
 grind
theorem Zdp {s:List V} {H H' : Heap} {i:Nat} {o:Oper} (h:∀p∈lt,∀k,p.1=i->TW base s0 p.2=some k->H'[k]? = H[k]?) (hl:Gy E ms lt s0 base i s H o=true):Gy E ms lt s0 base i s H' o=true:=by
 unfold Gy at *;rw[List.all_eq_true]at *;intro p hp;have q:=hl p hp;cases A:TW base s0 p.2 with
 | none=>rw[A]at q;cases q
 | some k=>
  rw[A]at q;simp only at q ⊢;split
  ·rename_i C;rw[if_pos C]at q;have hk:=h p hp k C A;unfold Ph at *;split at q
   ·rename_i id a b tot z;simp only[Bool.and_eq_true,beq_iff_eq]at q ⊢;obtain⟨rfl,q⟩:=q;refine⟨rfl,?_⟩;unfold Dn at *
    simp_all
   ·grind
   ·cases q
  simp_all
theorem ZwN {H H1:Heap} {t:TypeId} {a v:V} {k:Nat} (hl:Ph H a k=true) (h:Nl E H t a v=some H1) :
  ∃b,k<H.length/\H1=H.set k b/\∀H',H'[k]? = H[k]? -> Nl E H' t a v=some (H'.set k b):=by
 unfold Ph at hl;split at hl
 ·rename_i id i off tot;simp only[Bool.and_eq_true,beq_iff_eq]at hl;obtain⟨rfl,hl⟩:=hl;cases hb:Dn H id tot with
  | none=>rw[hb]at hl;cases hl
  | some b=>
   rw[hb]at hl;simp only[Bool.not_eq_true']at hl;have q:id<H.length:=by
    unfold Dn at hb;cases D:H[id]? with
    | none=>rw[D]at hb;cases hb
    | some b0=>grind
   have A : ∀H' : Heap,H'[id]? = H[id]? -> Dn H' id tot=some b:=fun H' C=>by
    unfold Dn at *
    grind
   unfold Nl at h;cases z:E.ti t with
   | none=>simp_all
   | some G=>
    simp only[z,hb]at h;cases hx:b.xs[i]? with
    | none=>simp_all
    | some x=>
     simp only[hx,hl,Bool.false_eq_true,if_false]at h;split at h
     ·rename_i hc;cases hs:Nk x off v.cells with
      | none=>simp_all
      | some I =>
       simp only[hs]at h;split at h
       ·rename_i F;simp only[Option.some.injEq]at h;refine⟨_,q,h.symm,fun H' C=>?_⟩;unfold Nl
        simp_all
       ·cases h
     ·cases h
 ·unfold Nl at h;split at h<;>cases h
 ·cases hl
theorem Zvd {H H1:Heap} {k0:Nat} {t u:TypeId} {a x r:V} {k:Nat} (hl:Ph H a k=true) (h:Nh E k0 H t u a x=some (r,H1)) :
  ∃b,k<H.length/\H1=H.set k b/\∀k' H',H'[k]? = H[k]? -> Dk (DW x) H H' -> Nh E k' H' t u a x=some (r,H'.set k b):=by
 unfold Ph at hl;split at hl
 ·unfold Nh at h
  grind
 ·rename_i id off len tot;simp only[Bool.and_eq_true,beq_iff_eq]at hl;obtain⟨rfl,hl⟩:=hl;have z:id<H.length:=by
   cases J:H[id]? with
   | none=>rw[J]at hl;cases hl
   | some b0=>exact(List.getElem?_eq_some_iff.1 J).1
  unfold Nh at h;split at h
  ·rename_i e sz by' Q A;split at h
   ·rename_i O ys q C D;split at h
    ·rename_i G;simp only at h;cases hb:Dn H id tot with
     | none=>rw[hb]at h;cases h
     | some b=>
      simp only[hb]at h;split at h
      ·rename_i hc;split at h
       ·rename_i M;simp only[Option.some.injEq,Prod.mk.injEq]at h;obtain⟨rfl,rfl⟩:=h;refine⟨_,z,rfl,fun k' H' I hs=>?_⟩;have F : Dn H' id tot=some b:=by
         unfold Dn at *;rw[I];exact hb
        unfold Nh;simp only[A,q,C,tY hs,D,wI hs]
        simp_all
       ·cases h
      ·rename_i N;split at h
       ·rename_i hc;simp only[Option.some.injEq,Prod.mk.injEq]at h;obtain⟨rfl,rfl⟩:=h;refine⟨_,z,rfl,fun k' H' I hs=>?_⟩;have F : Dn H' id tot=some b:=by
         unfold Dn at *;rw[I];exact hb
        unfold Nh;simp only[A,q,C,tY hs,D,wI hs]
        simp_all
       ·cases h
    ·cases h
   ·cases h
  ·cases h
 ·cases hl
theorem xW {ids:List Nat} {nb:Option Box} {k k' : Nat} {H:Heap} {b:Box} (hk:nb.isSome=true->k' < H.length/\k' ≠k) (q:k∉ids):eff ids nb k' (H.set k b)=(eff ids nb k' H).set k b:=by
 apply List.ext_getElem?;intro i;rw[Qg (H:=H.set k b) (fun h=>by simp_all),List.getElem?_set,List.getElem?_set,X7 (fun h=>(hk h).1),Qg (fun h=>(hk h).1)]
 by_cases z:k=i
 ·subst z;simp only[if_true];cases nb with
  | none=>
   simp only;split
   ·simp[Iq,q]
   ·rfl
  | some b2=>
   have:¬k=k' :=fun e=>(hk rfl).2 e.symm;simp only[this,if_false];split
   ·simp[Iq,q]
   ·rfl
 grind
theorem ZhI {ids:List Nat} {nb:Option Box} {k k' : Nat} {H:Heap} (hk:nb.isSome=true->k' < H.length/\k' ≠k) (q:k∉ids):(eff ids nb k' H)[k]? = H[k]?:=by
 rw[Qg (fun h=>(hk h).1)];cases nb with
 | none=>
  simp only;cases H[k]? with
  | none=>rfl
  | some b=>simp[Iq,q]
 | some b2=>
  have:¬k=k' :=fun e=>(hk rfl).2 e.symm;simp only[this,if_false];cases H[k]? with
  | none=>rfl
  | some b=>simp[Iq,q]
theorem ZeG {k i:Nat} {t:Nat⊕Nat} {o:Oper} {s:List V} {H H1:Heap} {v:V} (ht:YN E ops o=some t) (N:(i,t)∈lt) (hl:Gy E ms lt s0 base i s H o=true) (h:GM call E ops k o ⟨s,H⟩=some (v,H1)) :
  ∃b n,TW base s0 t=some n/\n∈EX E s o/\n<H.length/\H1=H.set n b/\∀k' H',H'[n]? = H[n]? -> Dk (EX E s o) H H' -> GM call E ops k' o ⟨s,H'⟩=some (v,H'.set n b):=by
 obtain⟨_,hg,⟨d,hw⟩⟩:=xG ht;unfold Gy at hl;rw[List.all_eq_true]at hl;have hl:=hl _ N;cases hn:TW base s0 t with
 | none=>simp_all
 | some n=>
  simp only[hn,if_true]at hl;unfold addrOf at hl;simp only[hw]at hl;have A:n∈EX E s o:=by
   unfold EX;rw[List.mem_flatMap];refine⟨.tmp d,by simpa using ZbH hw,?_⟩;unfold Ph at hl;split at hl
   ·rename_i G;simp only[Bool.and_eq_true,beq_iff_eq]at hl;rw[G,<- hl.1];simp[DW,EY]
   ·rename_i G;simp only[Bool.and_eq_true,beq_iff_eq]at hl;rw[G,<- hl.1];simp[DW,EY]
   ·cases hl
  unfold GM at h ⊢;simp only[hg]at h ⊢;rcases Z2K hw with ⟨S,x,q⟩|⟨c,x,q,J,F⟩
  ·unfold BO at h ⊢;simp only[q]at h ⊢;cases D:Nl E H S (ev E s (.tmp d)) (ev E s x) with
   | none=>rw[D]at h;cases h
   | some H2=>
    rw[D]at h;simp only[Option.map_some,Option.some.injEq,Prod.mk.injEq]at h;obtain⟨rfl,rfl⟩:=h;obtain⟨b,z,O,Q⟩:=ZwN hl D
    grind
  ·have C:evs E s c.args=[ev E s (.tmp d),ev E s x]:=by unfold evs;rw[F];rfl
   unfold BO at h ⊢;simp only[q,J,C]at h ⊢;unfold Qd at h ⊢;split at h
   ·rename_i z _;cases z
   ·rename_i a y S u' hb I Y;simp only[List.cons.injEq,and_true]at I;obtain⟨rfl,rfl⟩:=I;obtain⟨b,z,O,Q⟩:=Zvd hl h;refine⟨b,n,rfl,A,z,O,fun k' H' G hs=>Q k' H' G (fun id M=>hs id ?_)⟩;unfold EX;rw[List.mem_flatMap];have:x∈c.args:=by
     have:x∈c.args.toList:=by rw[F];simp
     simpa using this
    exact⟨x,by simp[q,Op.operands,Call.operands,this],M⟩
   ·simp_all
   ·rename_i z;cases z
   ·rename_i z;cases z
   ·cases h
theorem ZeS {i x n:Nat} {t:Nat⊕Nat} {o:Oper} {s:List V} {H:Heap} (A:(x,t)∈lt) (C:x≠i) (D:needs E o=true) (z:(ms.getD i 0).testBit x=false) (q : (ms.getD x 0).testBit i=false) (F:TW base s0 t=some n)
  (hl:Gy E ms lt s0 base i s H o=true):n∉EX E s o:=by
 unfold Gy at hl;rw[List.all_eq_true]at hl;have hl:=hl _ A;simp only[F,if_neg C,D,linked,z,q,Bool.or_self,Bool.not_true,Bool.false_or,Bool.not_eq_true']at hl;simpa using hl
theorem Zhd {k:Nat} {o:Oper} {s:List V} {H H1:Heap} {v:V} (hc:CG E o = .s) (h:GM call E ops k o ⟨s,H⟩=some (v,H1)):H1=H/\∀H' k',GM call E ops k' o ⟨s,H'⟩=some (v,H'):=by
 unfold GM at *;cases C:o.guard with
 | none=>simp only[C]at h ⊢;exact Z5L hc h
 | some D=>
  obtain⟨j,z⟩:=D;simp only[C]at h ⊢;cases A:(ops[j]?).bind (·.dst) with
  | none=>simp[A]at h
  | some d=>
   simp only[A]at h ⊢;cases q:Pg (s.getD d .und) z with
   | none=>rw[q]at h;cases h
   | some r=>
    rw[q]at h;cases r with
    | true=>simp only at h ⊢;exact Z5L hc h
    | false=>
     simp_all
theorem Xn (q:yR E call) {k:Nat} {o:Oper} {s:List V} {H H1:Heap} {v:V} (hc:CG E o≠.w) (z:CG E o≠.c) (G:quietAt E s o=true) (h:GM call E ops k o ⟨s,H⟩=some (v,H1)) :
  ∃ids nb,(∀i∈ids,i∈EX E s o)/\(nb.isSome=true->CG E o = .a)/\H1=eff ids nb k H /\
   ∀H' k',(CG E o = .a->k' = k)->Dk (EX E s o) H H' -> GM call E ops k' o ⟨s,H'⟩=some (v,eff ids nb k' H'):=by
 unfold GM at *;cases F:o.guard with
 | none=>simp only[F]at h ⊢;exact ZgC q hc z G h
 | some I=>
  obtain⟨j,C⟩:=I;simp only[F]at h ⊢;cases D:(ops[j]?).bind (·.dst) with
  | none=>simp[D]at h
  | some d=>
   simp only[D]at h ⊢;cases A:Pg (s.getD d .und) C with
   | none=>rw[A]at h;cases h
   | some r=>
    rw[A]at h;cases r with
    | true=>simp only at h ⊢;exact ZgC q hc z G h
    | false=>
     simp only[Option.some.injEq,Prod.mk.injEq]at h ⊢;exact⟨[],none,by simp,by simp,h.2.symm,fun H' k' _ _=>⟨h.1,rfl⟩⟩
theorem wF (q:yX E call) {k:Nat} {o:Oper} {s:List V} {H H1:Heap} {v:V} (hc:CG E o = .c) (h:GM call E ops k o ⟨s,H⟩=some (v,H1)) :
  ∃ids A,(∀i∈ids,i∈EX E s o)/\H1=bump H ids++A/\∀H' k',H'.length=H.length->Dk (EX E s o) H H' -> GM call E ops k' o ⟨s,H'⟩=some (v,bump H' ids++A):=by
 unfold GM at *;cases F:o.guard with
 | none=>simp only[F]at h ⊢;exact Zg8 q hc h
 | some G=>
  obtain⟨j,C⟩:=G;simp only[F]at h ⊢;cases D:(ops[j]?).bind (·.dst) with
  | none=>simp[D]at h
  | some d=>
   simp only[D]at h ⊢;cases z:Pg (s.getD d .und) C with
   | none=>rw[z]at h;cases h
   | some r=>
    rw[z]at h;cases r with
    | true=>simp only at h ⊢;exact Zg8 q hc h
    | false=>
     simp only[Option.some.injEq,Prod.mk.injEq]at h ⊢;exact⟨[],[],by simp,by rw[List.append_nil];exact h.2.symm,fun H' k' _ _=>⟨h.1,by rw[List.append_nil];rfl⟩⟩
theorem Zc6 {ids:List Nat} {H:Heap} (ys:List Box) (h:∀i∈ids,i<H.length):bump (H++ys) ids=bump H ids++ys:=by
 apply List.ext_getElem?;intro i;rw[ML,List.getElem?_append,List.getElem?_append,bump_length,ML]
 grind
theorem ZdM {ids:List Nat} {nb:Option Box} {k:Nat} {H:Heap} (ys:List Box) (h:∀i∈ids,i<H.length) (hk:nb.isSome=true->k<H.length):eff ids nb k (H++ys)=eff ids nb k H++ys:=by
 cases nb with
 | none=>exact Zc6 ys h
 | some b=>
  have hk:=hk rfl;simp only[eff,place,Zc6 ys h,List.length_append,bump_length];rw[if_pos (by omega),if_pos hk,List.set_append_left _ _ (by rw[bump_length];exact hk)]
theorem vI {R:List Nat} {H H' : Heap} (ys:List Box) (h:Dk R H H') (z:∀i∈R,i<H'.length):Dk R H (H' ++ys):=by
 intro i q;rw[List.getElem?_append_left (z i q)];exact h i q
theorem Sr (R ids:List Nat) (H:Heap):Dk R H (bump H ids):=by
 have:=VH (R:=R) (ids:=ids) (nb:=none) (k:=0) (H:=H) (fun h=>by cases h);exact this
theorem ZgU {R:List Nat} {H:Heap} {n:Nat} {b:Box} (h:n∉R):Dk R H (H.set n b):=by
 intro i q
 grind
theorem Dk.trans {R:List Nat} {H H' H2:Heap} (h:Dk R H H') (k:Dk R H' H2):Dk R H H2:=fun i q=>(h i q).trans (k i q)
theorem Zrf {s:List V} {d e:Option Tmp} {v u:V} (h:∀x,d=some x->e≠some x):setSlot (setSlot s d v) e u=setSlot (setSlot s e u) d v:=by
 cases d with
 | none=>rfl
 | some d=>
  cases e with
  | none=>rfl
  | some e=>
   have:d≠e:=fun q=>h d rfl (by rw[q]);simp only[setSlot];exact List.set_comm v u this
theorem Zxl (hcalls:PV E call) (hm:∀i o,ops[i]? = some o->CG E o = .a->i<m) {x y:Nat} {ox oy:Oper} (hx:ops[x]? = some ox) (hy:ops[y]? = some oy) (hxy:x≠y)
  (O:(kD E ops ox oy||(O7 E ops lt x ox oy||O7 E ops lt y oy ox))=true) (hlt:∀x t,(x,t)∈lt->∃ox,ops[x]? = some ox/\YN E ops ox=some t) (hbit:(ms.getD y 0).testBit x=false) (hbit' : (ms.getD x 0).testBit y=false) {st st1 st2:St}
  (h1:Ip call E ops ms lt s0 base m x st=some st1) (h2:Ip call E ops ms lt s0 base m y st1=some st2) :
  ∃st1',Ip call E ops ms lt s0 base m y st=some st1' /\ Ip call E ops ms lt s0 base m x st1' = some st2:=by
 have Q:=hcalls.pure;have hfree:=hcalls.free;have hap:ox.apart ops oy=true\/oy.apart ops ox=true:=by
  simp only[Bool.or_eq_true,kD,O7,Bool.and_eq_true]at O;rcases O with h|h|h
  ·exact .inl h.2
  ·exact .inl h.1
  ·exact .inr h.1
 have hsp:(∀d,ox.dst=some d->d∉oy.looksAt ops)/\(∀d,ox.dst=some d->oy.dst≠some d)/\(∀d,oy.dst=some d->d∉ox.looksAt ops):=by
  rcases hap with h|h
  ·exact Oper.apart_spec h
  ·obtain⟨b1,b2,b3⟩:=Oper.apart_spec h
   grind
 obtain⟨a1,a2,a3⟩:=hsp;obtain⟨s1,⟨l1,c1⟩,d1,vx,Hx,e1,rfl⟩:=(wJ hx).1 h1;obtain⟨s2,⟨l2,c2⟩,d2,vy,Hy,e2,rfl⟩:=(wJ hy).1 h2;obtain⟨s,H⟩:=st;simp only at *;rw[ZfM a1]at e2;rw[Zfh a1]at l2;have J : Qr E ops ms base m y s oy:=by unfold Qr at *;rw[Z3z a1,Zcm a1]at s2;exact s2
 have s1' : Qr E ops ms base m x (setSlot s oy.dst vy) ox:=by unfold Qr at *;rw[Z3z a3,Zcm a3];exact s1
 have keptx:CG E ox = .a->base+x<H.length:=fun hc=>by
  grind
 have nox:CG E ox = .a->base+x∉EX E s oy:=fun hc D=>by
  rcases J.1 _ D with h|⟨h,_⟩|⟨_,h⟩
  ·omega
  ·grind
  simp_all
 have noy:CG E oy = .a->base+y∉EX E s ox:=fun hc D=>by
  rcases s1.1 _ D with h|⟨h,_⟩|⟨_,h⟩
  ·omega
  ·grind
  simp_all
 have seex:CG E oy = .c->∀id∈EX E s ox,id<base+m:=fun hc id hid=>by
  rcases s1.1 id hid with h|⟨_,h⟩|⟨h,_⟩
  ·omega
  ·exfalso;unfold Xy at h;rw[List.all_eq_true]at h;have:=h y (by grind);simp only[hy,hc,linked,hbit,hbit',decide_true,Bool.not_true,Bool.or_self,Bool.or_false,beq_iff_eq]at this;exact hxy this.symm
  ·exact h
 have seey:CG E ox = .c->∀id∈EX E s oy,id<base+m:=fun hc id hid=>by
  rcases J.1 id hid with h|⟨_,h⟩|⟨h,_⟩
  ·omega
  ·exfalso;unfold Xy at h;rw[List.all_eq_true]at h;have:=h x (by simpa using (Array.getElem?_eq_some_iff.1 hx).1);simp only[hx,hc,linked,hbit,hbit',decide_true,Bool.not_true,Bool.or_self,Bool.or_false,beq_iff_eq]at this;exact hxy this
  ·exact h
 have fin:∀(M : Heap),Qr E ops ms base m y s oy->(Gy E ms lt s0 base y s H oy=true/\(CG E oy = .c->base+m<=H.length))->(CG E oy = .a->∃b,H[base+y]? = some b/\b.live=false)->GM call E ops (Dc E oy base y H) oy ⟨s,H⟩=some (vy,M) ->
   (Gy E ms lt s0 base x s M ox=true/\(CG E ox = .c->base+m<=M.length))->(CG E ox = .a->∃b,M[base+x]? = some b/\b.live=false)->GM call E ops (Dc E ox base x M) ox ⟨s,M⟩=some (vx,Hy) ->
   ∃st1',Ip call E ops ms lt s0 base m y ⟨s,H⟩=some st1' /\ Ip call E ops ms lt s0 base m x st1' = some ⟨setSlot (setSlot s ox.dst vx) oy.dst vy,Hy⟩:=by
  intro M g1 l3 g2 g3 l4 g4 g5;refine⟨⟨setSlot s oy.dst vy,M⟩,(wJ hy).2 ⟨g1,l3,g2,vy,M,g3,rfl⟩,(wJ hx).2 ⟨s1',⟨(by rw[Zfh a3];exact l4.1),l4.2⟩,g4,vx,Hy,?_,?_⟩⟩
  ·rw[ZfM a3];exact g5
  ·rw[Zrf a2]
 have q:∀(z:Nat) (oz:Oper),ops[z]? = some oz->CG E oz≠.w->∀t,(z,t)∉lt:=by
  intro z oz hz hc t D;obtain⟨o',ho',ht'⟩:=hlt z t D;rw[hz]at ho';cases ho';exact hc (xG ht').1
 cases hlx:O7 E ops lt x ox oy with
 | true=>
  unfold O7 at hlx;simp only[Bool.and_eq_true,List.any_eq_true,beq_iff_eq]at hlx;obtain⟨_,hny,⟨x',t⟩,D,hx'⟩:=hlx;simp only at hx';subst hx';obtain⟨ox',hox',htx⟩:=hlt _ t D;rw[hx]at hox';cases hox';have hnw:=Zgw hny;obtain⟨b,n,hn,hnin,hnlt,rfl,f3⟩:=ZeG htx D l1 e1;have hjy:n∉EX E s oy:=ZeS D hxy hny hbit hbit' hn l2;have late1:∀M : Heap,M[n]? = H[n]? -> Gy E ms lt s0 base x' s M ox=true:=fun M N=>by
   refine Zdp (fun p hp k he hk=>?_) l1
   grind
  have ncx:CG E ox = .c->False:=fun hc=>by rw[(xG htx).1]at hc;cases hc
  by_cases I:CG E oy = .c
  ·obtain⟨idy,S,y1,rfl,y4⟩:=wF hfree I e2;have hl:base+m<=H.length:=by have:=c2 I;rw[List.length_set]at this;exact this
   have F:n∉idy:=fun h=>hjy (y1 _ h);have g3:=y4 H (Dc E oy base y H) (by rw[List.length_set]) (ZgU hjy).symm;have N:(bump H idy++S)[n]? = H[n]?:=by
    rw[List.getElem?_append_left (by rw[bump_length];exact hnlt),ML];cases H[n]? with
    | none=>rfl
    | some b=>simp[F]
   refine fin _ J ⟨NW (q y oy hy hnw) l2,fun _=>hl⟩ (fun hc=>by simp_all) g3 ⟨late1 _ N,fun hc=>(ncx hc).elim⟩ (fun hc=>by simp_all) ?_;rw[f3 _ _ N (vI S (Sr _ _ _) (fun i hi=>by rw[bump_length];exact Nat.lt_of_lt_of_le (seex I i hi) hl))];congr 2;rw[List.set_append_left _ _ (by rw[bump_length];exact hnlt)];congr 1;have:=xW (ids:=idy) (nb:=none) (k' :=0) (H:=H) (b:=b) (k:=n) (fun h=>by cases h) F;exact this.symm
  have hne:CG E oy = .a->base+y≠n:=fun hc e=>noy hc (by rw[e];exact hnin);obtain⟨idy,A,y1,y2,rfl,y4⟩:=Xn Q hnw I J.2 e2;have hkH:Dc E oy base y (H.set n b)=Dc E oy base y H:=by unfold Dc;rw[List.length_set]
  have deady:CG E oy = .a->∃b,H[base+y]? = some b/\b.live=false:=fun hc=>by
   grind
  have hyl:A.isSome=true->Dc E oy base y H<H.length/\Dc E oy base y H≠n:=fun h=>by
   have hc:=y2 h;obtain⟨b',hb',_⟩:=deady hc;have:=(List.getElem?_eq_some_iff.1 hb').1;unfold Dc
   grind
  have F:n∉idy:=fun h=>hjy (y1 _ h);have g3:=y4 H (Dc E oy base y H) (fun hc=>by rw[hkH]) (fun i hi=>by grind);have N:=ZhI (H:=H) hyl F;refine fin _ J ⟨NW (q y oy hy hnw) l2,fun hc=>absurd hc I⟩ deady g3 ⟨late1 _ N,fun hc=>(ncx hc).elim⟩ (fun hc=>by simp_all) ?_;rw[f3 _ _ N (VH (fun h=>⟨(hyl h).1,by
    have hk:Dc E oy base y H=base+y:=by simp[Dc,y2 h]
    rw[hk];exact noy (y2 h)⟩)),hkH,xW hyl F]
 | false=>
 cases hly:O7 E ops lt y oy ox with
 | true=>
  unfold O7 at hly;simp only[Bool.and_eq_true,List.any_eq_true,beq_iff_eq]at hly;obtain⟨_,hnx,⟨y',t⟩,D,hy'⟩:=hly;simp only at hy';subst hy';obtain⟨oy',hoy',hty⟩:=hlt _ t D;rw[hy]at hoy';cases hoy';have hnw:=Zgw hnx;obtain⟨b,n,hn,hnin,hnlt,rfl,f3⟩:=ZeG hty D l2 e2;have hjx:n∉EX E s ox:=ZeS D (Ne.symm hxy) hnx hbit' hbit hn l1;have late2:Hx[n]? = H[n]? -> Gy E ms lt s0 base y' s H oy=true:=fun N=>by
   refine Zdp (fun p hp k he hk=>?_) l2
   grind
  have ncy:CG E oy = .c->False:=fun hc=>by simp_all
  by_cases G:CG E ox = .c
  ·obtain⟨idx,S,x1,rfl,x4⟩:=wF hfree G e1;have hl:base+m<=H.length:=c1 G;have hnl:n<H.length:=Nat.lt_of_lt_of_le (seey G n hnin) hl;have F:n∉idx:=fun h=>hjx (x1 _ h);have N:(bump H idx++S)[n]? = H[n]?:=by
    rw[List.getElem?_append_left (by rw[bump_length];exact hnl),ML];cases H[n]? with
    | none=>rfl
    | some b=>simp[F]
   refine fin _ J ⟨late2 N,fun hc=>(ncy hc).elim⟩ (fun hc=>by rw[(xG hty).1]at hc;cases hc) (f3 _ H N.symm (vI S (Sr _ _ _) (fun i hi=>by rw[bump_length];exact Nat.lt_of_lt_of_le (seey G i hi) hl)).symm)
    ⟨NW (q x ox hx hnw) l1,fun _=>by grind⟩ (fun hc=>by simp_all) ?_
   rw[x4 _ _ (by rw[List.length_set]) (ZgU hjx)];congr 2;rw[List.set_append_left _ _ (by rw[bump_length];exact hnl)];congr 1;have:=xW (ids:=idx) (nb:=none) (k' :=0) (H:=H) (b:=b) (k:=n) (fun h=>by cases h) F;exact this
  obtain⟨idx,C,x1,x2,rfl,x4⟩:=Xn Q hnw G s1.2 e1;have hne:CG E ox = .a->base+x≠n:=fun hc e=>nox hc (by rw[e];exact hnin);have hxl:C.isSome=true->Dc E ox base x H<H.length/\Dc E ox base x H≠n:=fun h=>by
   have hc:=x2 h;have:=keptx hc;unfold Dc
   grind
  have F:n∉idx:=fun h=>hjx (x1 _ h);have N:=ZhI (H:=H) hxl F;have hkS:Dc E ox base x (H.set n b)=Dc E ox base x H:=by unfold Dc;rw[List.length_set]
  have hsy:Dk (EX E s oy) (eff idx C (Dc E ox base x H) H) H:=(VH (fun h=>⟨(hxl h).1,by
   have hk:Dc E ox base x H=base+x:=by simp[Dc,x2 h]
   grind⟩)).symm
  refine fin _ J ⟨late2 N,fun hc=>(ncy hc).elim⟩ (fun hc=>by simp_all) (f3 _ H N.symm hsy) ⟨NW (q x ox hx hnw) l1,fun hc=>absurd hc G⟩ (fun hc=>?_) ?_
  ·grind
  ·rw[x4 _ _ (fun hc=>by rw[hkS]) (fun i hi=>by rw[List.getElem?_set_ne (fun e=>hjx (by rw[e];exact hi))]),hkS,xW hxl F]
 | false=>
 rw[hlx,hly,Bool.or_false,Bool.or_false]at O;unfold kD at O;simp only[Bool.and_eq_true]at O;have hcomp:=O.1
 by_cases hcx:CG E ox = .s
 ·obtain⟨f1,f2⟩:=Zhd hcx e1;subst f1;exact fin Hy J ⟨l2,c2⟩ d2 e2 ⟨NW (q x ox hx (by simp_all)) l1,fun hc=>by simp_all⟩ (fun hc=>by simp_all) (f2 _ _)
 by_cases hcy:CG E oy = .s
 ·obtain⟨f1,f2⟩:=Zhd hcy e2;subst f1;exact fin H J ⟨NW (q y oy hy (by simp_all)) l2,fun hc=>by simp_all⟩ (fun hc=>by simp_all) (f2 _ _) ⟨l1,c1⟩ d1 e1
 have hwx:CG E ox≠.w:=fun hw=>by rw[hw]at hcomp;cases hh:CG E oy<;>simp_all [Z5p]
 have hwy:CG E oy≠.w:=fun hw=>by rw[hw]at hcomp;cases hh:CG E ox<;>simp_all [Z5p]
 by_cases G:CG E ox = .c
 ·have I:CG E oy≠.c:=fun hc=>by rw[G,hc]at hcomp;cases hcomp
  obtain⟨idx,S,x1,rfl,x4⟩:=wF hfree G e1;obtain⟨idy,A,y1,y2,rfl,y4⟩:=Xn Q hwy I J.2 e2;have hl:base+m<=H.length:=c1 G;have hry:∀i∈EX E s oy,i<H.length:=fun i hi=>Nat.lt_of_lt_of_le (seey G i hi) hl;have kyl:A.isSome=true->base+y<H.length:=fun h=>by grind
  have g3:=y4 H (Dc E oy base y H) (fun hc=>by simp[Dc,hc]) (vI S (Sr _ _ _) (fun i hi=>by rw[bump_length];exact hry i hi)).symm;have hke:∀H' : Heap,eff idy A (Dc E oy base y H')=eff idy A (base+y):=fun H' =>by
   cases hnb:A with
   | none=>rfl
   | some b=>simp[Dc,y2 (by rw[hnb];rfl)]
  rw[hke]at g3;have kyn:A.isSome=true->base+y∉EX E s ox:=fun h=>noy (y2 h);have Y:(eff idy A (base+y) H).length=H.length:=X7 kyl;have dy:CG E oy = .a->∃b,H[base+y]? = some b/\b.live=false:=fun hc=>by
   obtain⟨b,hb,hd⟩:=d2 hc;have hlt:base+y<H.length:=by have:=hm y oy hy hc;omega
   rw[List.getElem?_append_left (by rw[bump_length];exact hlt),ML]at hb
   grind
  refine fin _ J ⟨NW (q y oy hy hwy) l2,fun hc=>absurd hc I⟩ dy g3 ⟨NW (q x ox hx hwx) l1,fun _=>by rw[Y];exact hl⟩ (fun hc=>by simp_all) ?_;rw[x4 _ _ Y (VH (fun h=>⟨kyl h,kyn h⟩)),hke];congr 2;rw[ZdM S (fun i hi=>by rw[bump_length];exact hry i (y1 i hi)) (fun h=>by rw[bump_length];exact kyl h)];congr 1;have:=Z4k (F7:=idx) (ids2:=idy) (nb1:=none) (nb2:=A) (k1:=0) (k2:=base+y) (H:=H) (fun h=>by cases h) (fun h=>⟨kyl h,fun D=>kyn h (x1 _ D)⟩) (fun h=>by cases h);exact this
 by_cases I:CG E oy = .c
 ·obtain⟨idx,C,x1,x2,rfl,x4⟩:=Xn Q hwx G s1.2 e1;obtain⟨idy,S,y1,rfl,y4⟩:=wF hfree I e2;have kxl:C.isSome=true->base+x<H.length:=fun h=>keptx (x2 h);have hke:∀H' : Heap,eff idx C (Dc E ox base x H')=eff idx C (base+x):=fun H' =>by
   cases hnb:C with
   | none=>rfl
   | some b=>simp[Dc,x2 (by rw[hnb];rfl)]
  rw[hke]at c2 y4;have Y:(eff idx C (base+x) H).length=H.length:=X7 kxl;have hl:base+m<=H.length:=by have:=c2 I;rw[Y]at this;exact this
  have hrx:∀i∈EX E s ox,i<H.length:=fun i hi=>Nat.lt_of_lt_of_le (seex I i hi) hl;have g3:=y4 H (Dc E oy base y H) Y.symm (VH (fun h=>⟨kxl h,nox (x2 h)⟩)).symm;refine fin _ J ⟨NW (q y oy hy hwy) l2,fun _=>hl⟩ (fun hc=>by simp_all) g3 ⟨NW (q x ox hx hwx) l1,fun hc=>absurd hc G⟩ (fun hc=>?_) ?_
  ·obtain⟨b,hb,hd⟩:=d1 hc;have hlt:=keptx hc;rw[List.getElem?_append_left (by rw[bump_length];exact hlt),ML,hb]
   grind
  ·rw[x4 _ (Dc E ox base x (bump H idy++S)) (fun hc=>by simp[Dc,hc]) (vI S (Sr _ _ _) (fun i hi=>by rw[bump_length];exact hrx i hi)),hke,hke];congr 2;rw[ZdM S (fun i hi=>by rw[bump_length];exact hrx i (x1 i hi)) (fun h=>by rw[bump_length];exact kxl h)];congr 1;have:=Z4k (F7:=idx) (ids2:=idy) (nb1:=C) (nb2:=none) (k1:=base+x) (k2:=0) (H:=H) (fun h=>⟨kxl h,fun D=>nox (x2 h) (y1 _ D)⟩) (fun h=>by cases h) (fun _ h=>by cases h);exact this
 obtain⟨idx,C,x1,x2,rfl,x4⟩:=Xn Q hwx G s1.2 e1;obtain⟨idy,A,y1,y2,rfl,y4⟩:=Xn Q hwy I J.2 e2;have kx:C.isSome=true->Dc E ox base x H=base+x:=fun h=>by simp[Dc,x2 h]
 have hxlt:C.isSome=true->Dc E ox base x H<H.length:=fun h=>by grind
 have Y:=X7 (ids:=idx) hxlt;have ky:A.isSome=true->∀H',Dc E oy base y H' = base+y:=fun h H' =>by simp[Dc,y2 h]
 have simx:Dk (EX E s oy) (eff idx C (Dc E ox base x H) H) H:=(VH (fun h=>⟨hxlt h,by grind⟩)).symm;have deady:CG E oy = .a->∃b,H[base+y]? = some b/\b.live=false:=fun hc=>
  (Zfy (fun h=>⟨hxlt h,by rw[kx h];omega⟩)).1 (d2 hc)
 have hylt:CG E oy = .a->base+y<H.length:=fun hc=>by
  grind
 have g3:=y4 H (Dc E oy base y H) (fun hc=>by simp[Dc,hc]) simx;have hylt' : A.isSome=true->Dc E oy base y H<H.length:=fun h=>by grind
 refine fin _ J ⟨NW (q y oy hy hwy) l2,fun hc=>absurd hc I⟩ deady g3 ⟨NW (q x ox hx hwx) l1,fun hc=>absurd hc G⟩ (fun hc=>(Zfy (fun h=>⟨hylt' h,by rw[ky h];omega⟩)).2 (d1 hc)) ?_;have simy:Dk (EX E s ox) H (eff idy A (Dc E oy base y H) H):=VH (fun h=>⟨hylt' h,by grind⟩);have g5:=x4 _ (Dc E ox base x (eff idy A (Dc E oy base y H) H)) (fun hc=>by simp[Dc,hc]) simy;rw[g5];have hk1:C.isSome=true->Dc E ox base x (eff idy A (Dc E oy base y H) H)=base+x:=fun h=>by simp[Dc,x2 h]
 have hkx:eff idx C (Dc E ox base x (eff idy A (Dc E oy base y H) H)) (eff idy A (Dc E oy base y H) H)=eff idx C (Dc E ox base x H) (eff idy A (Dc E oy base y H) H):=by
  cases C with
  | none=>rfl
  | some b=>rw[hk1 rfl,kx rfl]
 have hky:eff idy A (Dc E oy base y (eff idx C (Dc E ox base x H) H)) (eff idx C (Dc E ox base x H) H)=eff idy A (Dc E oy base y H) (eff idx C (Dc E ox base x H) H):=by
  cases A with
  | none=>rfl
  | some b=>rw[ky rfl,ky rfl]
 rw[hkx,hky];congr 2;exact Z4k (fun h=>⟨hxlt h,by grind⟩) (fun h=>⟨hylt' h,by grind⟩) (fun h1 h2=>by grind)
end
end Go.Proofs.YtjodhcdmhobmoaaGreatDoor.Le
namespace Go.Proofs.YtjodhcdmhobmoaaGreatDoor.Le
open Go.RowKit (Below)
theorem ZzP (acc:List Nat) (j:Nat):∀(es:List Edge) (m:Nat),(es.foldl (fun m e=>if Region.binds .any e then m ||| (1 <<< e.on) ||| acc.getD e.on 0 else m) m).testBit j=true↔
  m.testBit j=true\/∃e∈es,Region.binds .any e=true/\(j=e.on\/(acc.getD e.on 0).testBit j=true):=by
 intro es;induction es with
 | nil=>intro m;simp
 | cons e es q=>
  intro m;rw[List.foldl_cons,q]
  by_cases hb:Region.binds .any e=true
  ·simp only[hb,if_true,Nat.testBit_or,Bool.or_eq_true,Nat.one_shiftLeft,Nat.testBit_two_pow,decide_eq_true_eq,List.mem_cons,exists_eq_or_imp,true_and]
   grind
  simp_all
theorem Zwj (acc:List Nat) (o:Oper) (j:Nat):(Xx acc o).testBit j=true↔∃e∈o.after,Region.binds .any e=true/\(j=e.on\/(acc.getD e.on 0).testBit j=true):=by
 unfold Xx;rw[ZzP];simp
theorem Zeh:∀(os:List Oper) (acc:List Nat) (i:Nat),i<acc.length->(GY acc os)[i]? = acc[i]?:=by
 intro os;induction os with
 | nil=>intro acc i q;rfl
 | cons o os z=>
  intro acc i q;simp only[GY]
  grind
theorem Zzj:∀(os:List Oper) (acc:List Nat) (i:Nat) (o:Oper),os[i]? = some o ->
  ∃q,(GY acc os)[acc.length+i]? = some (Xx q o)/\q.length=acc.length+i/\∀j,j<q.length->(GY acc os)[j]? = q[j]?:=by
 intro os;induction os with
 | nil=>intro acc i o h;simp at h
 | cons p os D=>
  intro acc i o h;cases i with
  | zero=>
   simp at h;subst h;refine⟨acc,?_,rfl,fun j C=>?_⟩
   ·simp only[GY];rw[Zeh _ _ _ (by simp)];simp
   ·simp only[GY];rw[Zeh _ _ _ (by simp;omega),List.getElem?_append_left C]
  | succ i=>
   simp at h;obtain⟨q,F,z,A⟩:=D (acc++[Xx acc p]) i o h;refine⟨q,?_,by rw[z];simp;omega,A⟩;simp only[GY]
   grind
section
variable {E:Env} {ops:Array Oper}
structure ZeF (E:Env) (ops:Array Oper):Prop where
 low:∀(i:Nat) (o:Oper),ops[i]? = some o->∀e∈o.after,Region.binds .any e=true->e.on<i
 bit:∀(i:Nat) (o:Oper),ops[i]? = some o->∀j,((GY [] ops.toList).getD i 0).testBit j=true↔∃e∈o.after,Region.binds .any e=true/\(j=e.on\/((GY [] ops.toList).getD e.on 0).testBit j=true)
 lt:∀(i j:Nat),i<ops.size->((GY [] ops.toList).getD i 0).testBit j=true->j<i
 pass:∀(x y:Nat) (ox oy:Oper),ops[x]? = some ox->ops[y]? = some oy->x<y->((GY [] ops.toList).getD y 0).testBit x=true\/(kD E ops ox oy||(O7 E ops (Qx E ops) x ox oy||O7 E ops (Qx E ops) y oy ox))=true
theorem ZrP (h:yF E ops=true):ZeF E ops:=by
 unfold yF at h;simp only[List.all_eq_true,List.mem_range]at h;have A:∀(i:Nat) (o:Oper),ops[i]? = some o->∀e∈o.after,Region.binds .any e=true->e.on<i:=by
  intro i o C e I;have:=h i (Array.getElem?_eq_some_iff.1 C).1;simp only[C,Bool.and_eq_true,Array.all_eq_true_iff_forall_mem,Bool.or_eq_true,Bool.not_eq_true',decide_eq_true_eq]at this;intro hb;rcases this.1 e I with hh|hh
  ·rw[hb]at hh;cases hh
  ·exact hh
 have z:∀(i:Nat) (o:Oper),ops[i]? = some o->∀j,((GY [] ops.toList).getD i 0).testBit j=true↔∃e∈o.after,Region.binds .any e=true/\(j=e.on\/((GY [] ops.toList).getD e.on 0).testBit j=true):=by
  intro i o C j;obtain⟨q,F,G,J⟩:=Zzj ops.toList [] i o (by simpa using C);simp only[List.length_nil,Nat.zero_add]at F G;have D:(GY [] ops.toList).getD i 0=Xx q o:=by simp[List.getD,F]
  rw[D,Zwj];constructor
  ·grind
  ·grind
 refine⟨A,z,?_,?_⟩
 ·intro i;induction i using Nat.strongRecOn with
  | _ i N=>
   intro j D M;have C:ops[i]? = some ops[i]:=by simp[D]
   grind
 grind
end
section
variable {call:EM} {E:Env} {ops:Array Oper} {ms:List Nat} {lt:List (Nat×(Nat⊕Nat))} {s0:List V} {base m:Nat}
theorem Zvq {i:Nat} {r:St}:∀(C D:List Nat) (st:St),(∀y∈C,∀st q st2,Ip call E ops ms lt s0 base m y st=some q->Ip call E ops ms lt s0 base m i q=some st2 ->
      ∃A,Ip call E ops ms lt s0 base m i st=some A /\ Ip call E ops ms lt s0 base m y A = some st2) ->
  Np call E ops ms lt s0 base m (C++i::D) st=some r->∃q,Ip call E ops ms lt s0 base m i st=some q/\Np call E ops ms lt s0 base m (C++D) q=some r:=by
 intro C;induction C with
 | nil=>
  intro D st _ h;simp only[List.nil_append,Np]at h
  grind
 | cons y C Q=>
  intro D st F h;simp only[List.cons_append,Np]at h;cases G:Ip call E ops ms lt s0 base m y st with
  | none=>simp[G]at h
  | some I=>
   simp only[G]at h;obtain⟨sb,J,M⟩:=Q D I (fun z hz=>F z (List.mem_cons_of_mem _ hz)) h;obtain⟨S,N,O⟩:=F y (by simp) st I sb G J;exact⟨S,N,by simp only[List.cons_append,Np,O];exact M⟩
theorem ZBF {B:Nat} {w0:Start} {σ:Sg} {P:Program} {st st' : St} {a:Act} {w:World} (D:DV E) (hP:E.P=P) (z:KA P E B w0 call) {i:Nat} (h:FU E B w0 σ st a w) (hs:Ip call E ops ms lt s0 base m i st=some st')
  {K:Act->World->Prop} {Q:Exit->Act->World->Prop} (F:∀C w' σ',FU E B w0 σ' st' C w' -> Ext σ w σ' w' -> K C w'):wpOp P ops Q i K a w:=by
 have q:∃k,Fv st.H k=true/\Ku call E ops k i st=some st' :=by
  unfold Ip at hs;cases A:ops[i]? with
  | none=>
   simp only[A]at hs;exact⟨st.H.length,jI _,by unfold Ku;simp only[A];exact hs⟩
  | some o=>
   simp only[A]at hs;split at hs
   ·split at hs
    ·split at hs
     ·rename_i b hb;split at hs
      ·cases hs
      ·rename_i hl;exact⟨base+i,by unfold Fv;simp only[hb];simpa using hl,hs⟩
     ·cases hs
    ·exact⟨st.H.length,jI _,hs⟩
   ·cases hs
 obtain⟨k,hk,q⟩:=q;exact Zfb D hP z hk h q F
theorem ZBl {B:Nat} {w0:Start} {P:Program} {r:St} (hE:DV E) (hP:E.P=P) (Y:KA P E B w0 call) (hpure:PV E call) (hf:ZeF E ops) (hm:∀(i:Nat) (o:Oper),ops[i]? = some o->CG E o = .a->i<m)
  {Q:Exit->Act->World->Prop}:∀(fuel:Nat) (M:List Nat) (listed:Array Bool) (st:St) (σ:Sg) (a:Act) (w:World),M.length<=fuel->listed.size=ops.size ->
  (∀j,j∈M↔listed.getD j true=false)->M.Pairwise (· < ·)->(∀k j,listed.getD k false=true->((GY [] ops.toList).getD k 0).testBit j=true->listed.getD j false=true) ->
  Np call E ops (GY [] ops.toList) (Qx E ops) s0 base m M st=some r->FU E B w0 σ st a w->(∀a' w' σ',FU E B w0 σ' r a' w' -> Ext σ w σ' w' -> Q .normal a' w')->wpAny P .any ops Q fuel listed a w:=by
 intro fuel;induction fuel with
 | zero=>
  intro M listed st σ a w hl hsz O z hdown hs hr hn;have hnil:M=[]:=List.eq_nil_of_length_eq_zero (by omega);subst hnil;simp only[Np,Option.some.injEq]at hs;subst hs;refine⟨?_,hn a w σ hr (Ext.refl σ w)⟩;cases hrd:Region.ready .any ops listed with
  | nil=>rfl
  | cons i rest=>
   have hi:i∈Region.ready .any ops listed:=by rw[hrd];simp
   have:=(O i).2 (mem_ready.1 hi).1;cases this
 | succ fuel ih=>
  intro M listed st σ a w hl hsz O z hdown hs hr hn;have hlist:∀j,j<ops.size->j∉M->listed.getD j false=true:=by
   intro j hj hn;have:¬listed.getD j true=false:=fun h=>hn ((O j).2 h);have hjl:j<listed.size:=by omega
   simp[hjl]at this ⊢;exact this
  refine⟨fun hready=>?_,fun i hi=>?_⟩
  ·
   cases M with
   | nil=>
    simp only[Np,Option.some.injEq]at hs;subst hs;exact hn a w σ hr (Ext.refl σ w)
   | cons i rest=>
    exfalso;have F:=(O i).1 (by simp);have J:i<ops.size:=by
     rcases Nat.lt_or_ge i listed.size with h|h
     ·omega
     ·simp[Array.getElem?_eq_none h]at F
    have ho:ops[i]? = some ops[i]:=by simp[J]
    have:i∈Region.ready .any ops listed:=mem_ready.2 ⟨F,_,ho,fun e he hb=>by
     have hlt:=hf.low i _ ho e he hb;refine hlist e.on (by omega) (fun hin=>?_);rcases List.mem_cons.1 hin with h|h
     ·omega
     ·have:=(List.pairwise_cons.1 z).1 _ h;omega⟩
    grind
  ·obtain⟨F,oi,D,hall⟩:=mem_ready.1 hi;have hin:=(O i).2 F;obtain⟨M1,M2,rfl⟩:=List.append_of_mem hin;have J:i<ops.size:=(Array.getElem?_eq_some_iff.1 D).1;have A:∀y∈M1,y<i:=fun y C=>(List.pairwise_append.1 z).2.2 y C i (by simp);have hmask:∀j,((GY [] ops.toList).getD i 0).testBit j=true->listed.getD j false=true:=by
    intro j hj;obtain⟨e,he,hb,hh⟩:=(hf.bit i oi D j).1 hj;rcases hh with hh|hh
    ·grind
    ·grind
   have hunl:∀y,listed.getD y true=false->listed.getD y false=false:=by
    intro y C;rcases Nat.lt_or_ge y listed.size with h|h
    ·simp[h]at C ⊢;exact C
    ·simp[Array.getElem?_eq_none h]at C
   obtain⟨st1,h1,h2⟩:=Zvq M1 M2 st (fun y C sa sb sc hsa hsb=>by
    have hyun:listed.getD y true=false:=(O y).1 (by simp[C]);have N:y<ops.size:=by have:=A y C;omega
    have hoy:ops[y]? = some ops[y]:=by simp[N]
    have G:((GY [] ops.toList).getD i 0).testBit y=false:=by
     cases hb:((GY [] ops.toList).getD i 0).testBit y with
     | false=>rfl
     | true=>have:=hmask y hb;rw[hunl y hyun]at this;cases this
    have S : ((GY [] ops.toList).getD y 0).testBit i=false:=by
     cases hb:((GY [] ops.toList).getD y 0).testBit i with
     | false=>rfl
     | true=>have:=hf.lt y i N hb;have:=A y C;omega
    have hp:=(hf.pass y i _ oi hoy D (A y C)).resolve_left (by rw[G];simp);exact Zxl hpure hm hoy D (by have:=A y C;omega) hp (fun x t h=>ZAr h) G S hsa hsb) hs
   refine ZBF hE hP Y hr h1 (fun a1 w1 σ1 hr1 he1=>?_);have I:∀j d,(listed.setIfInBounds i true).getD j d=if j=i then true else listed.getD j d:=by
    intro j d
    by_cases q:j=i
    ·subst q;have:j<listed.size:=by omega
     simp[this]
    ·rw[if_neg q,getD_set_ne d (fun e=>q e.symm)]
   have hnot:i∉M1++M2:=by
    intro h;rcases List.mem_append.1 h with h|h
    ·have:=A i h;omega
    ·have:=(List.pairwise_cons.1 (List.pairwise_append.1 z).2.1).1 i h;omega
   refine ih (M1++M2) (listed.setIfInBounds i true) st1 σ1 a1 w1 (by simp at hl ⊢;omega) (by simpa using hsz) (fun j=>?_) ?_ (fun k j hk hj=>?_) h2 hr1 (fun a' w' σ' hr' he' =>hn a' w' σ' hr' (he1.trans he'))
   ·rw[I]
    by_cases q:j=i
    ·grind
    ·rw[if_neg q,<- O j];simp[q]
   ·grind
   ·rw[I]at hk ⊢
    by_cases q:j=i
    ·rw[if_pos q]
    ·rw[if_neg q]
     by_cases hki:k=i
     ·grind
     grind
theorem Inv.reserve {B:Nat} {w0:Start} {σ:Sg} {H:Heap} {w:World} (h:Inv B w0 σ H w) (n:Nat):Inv B w0 σ (H++List.replicate n Sv) w:=by
 have q:∀(i:Nat) (b:Box),(H++List.replicate n Sv)[i]? = some b->b.live=true->H[i]? = some b:=by
  intro i b hb hl;rw[List.getElem?_append]at hb;split at hb
  ·exact hb
  ·have:=(List.mem_replicate.1 (List.mem_of_getElem? hb)).2;subst this;cases hl
 refine⟨h.below,h.size,fun id L I=>?_,fun i b hb hl=>h.boxes i b (q i b hb hl) hl,fun i j b1 b2 F G g z A C D=>h.apart i j b1 b2 F G g (q i b1 z C) (q j b2 A D) C D,h.cells,
  fun b c hc i bx L hb hl=>h.floor b c hc i bx L (q i bx hb hl) hl,fun i b hb hl=>h.low i b (q i b hb hl) hl,h.old,h.kept⟩
 obtain⟨b,z,A⟩:=h.dom id L I
 grind
theorem ZgO {B:Nat} {w0:Start} {σ:Sg} {P:Program} {st st' : St} {a:Act} {w:World} (F:DV E) (hP:E.P=P) (C:P.follows .mixedOrders=true) (z:KA P E B w0 call) (A:PV E call) (I:yF E ops=true)
  (h:FU E B w0 σ st a w) (hs:V6 call E ops st=some st') {id:Nat} {Q:Exit->Act->World->Prop} (N:∀D w' σ',FU E B w0 σ' st' D w' -> Ext σ w σ' w' -> Q .normal D w'):(Code.region id ops true).wp P Q a w:=by
 have M:w.grownBy { w with drawn:=w.drawn+1 } none:=⟨rfl,rfl,rfl,Nat.le_refl _,fun _ _ _=>rfl⟩;obtain⟨G,q⟩:=h.inv.grown M;refine wp_region_any C ?_;unfold V6 at hs;refine ZBl F hP z A (ZrP I) (m:=if ops.any (fun o=>decide (CG E o = .a)) then ops.size else 0) (fun i o O hc=>?_) ops.size (List.range ops.size) _ _ σ a _ (by simp) (by simp) (fun j=>?_) List.pairwise_lt_range (fun k j hk=>?_) hs
  ⟨G.reserve _,h.Ey.ext q,h.slots.ext q,h.calm⟩ (fun D w' σ' hr J=>N D w' σ' hr (q.trans J))
 ·grind
 ·rw[List.mem_range];rcases Nat.lt_or_ge j ops.size with hj|hj
  ·simp[hj]
  simp_all
 ·exfalso;rcases Nat.lt_or_ge k ops.size with hj|hj
  ·simp[hj]at hk
  ·simp[hj]at hk
end
end Go.Proofs.YtjodhcdmhobmoaaGreatDoor.Le
namespace Go.Proofs.YtjodhcdmhobmoaaGreatDoor.Le
open Go.RowKit (Below)
def Ex.out:Ex->Exit
 | .normal=>.normal
 | .ret=>.ret
 | .exit id=>.exit id
def Z50 (P:Program) (E:Env) (B:Nat) (w0:Start) (f:FuncId) (A:Code->St->Option (Ex×St)):Prop:=
 ∀b st z st',Ef E f b=true->A b st=some (z,st')->∀(Q:Exit->Act->World->Prop) σ a w,FU E B w0 σ st a w ->
  (∀q w' σ',FU E B w0 σ' st' q w' -> Ext σ w σ' w' -> Q z.out q w')->(Code.loop b).wp P Q a w
section
variable {P:Program} {E:Env} {B:Nat} {w0:Start} {call:EM} {f:FuncId}
theorem VF (hE:DV E) (hP:E.P=P) (F:KA P E B w0 call) (N:PV E call) {lp:Code->St->Option (Ex×St)} (hlp:Z50 P E B w0 f lp) :
  ∀(c:Code) (st:St) (z:Ex) (st' : St),Ef E f c=true->Gp call lp E f c st=some (z,st')->∀(Q:Exit->Act->World->Prop) (σ:Sg) (a:Act) (w:World),FU E B w0 σ st a w ->
   (∀a' w' σ',FU E B w0 σ' st' a' w' -> Ext σ w σ' w' -> Q z.out a' w')->c.wp P Q a w:=by
 intro c;induction c with
 | skip=>
  intro st z st' hc h Q σ a w hr q;simp only[Gp,Option.some.injEq,Prod.mk.injEq]at h;obtain⟨rfl,rfl⟩:=h;exact wp_skip (q a w σ hr (Ext.refl σ w))
 | region id ops draw=>
  intro st z st' hc h Q σ a w hr q;cases draw with
  | false=>
   simp only[Gp]at h;cases hs:OJ call E ops (List.range ops.size) st with
   | none=>simp[hs]at h
   | some r=>
    simp only[hs,Option.map_some,Option.some.injEq,Prod.mk.injEq]at h;obtain⟨rfl,rfl⟩:=h;exact wp_region (Zgp hE hP F _ st σ a w hr hs q)
  | true=>
   simp only[Gp]at h;split at h
   ·rename_i M;cases hs:V6 call E ops st with
    | none=>simp[hs]at h
    | some r=>
     simp only[hs,Option.map_some,Option.some.injEq,Prod.mk.injEq]at h;obtain⟨rfl,rfl⟩:=h;refine ZgO hE hP (by rw[<- hP];exact hE.mix) F N ?_ hr hs q;simpa[Ef,M]using hc
   ·cases h
 | seq x y O ihy=>
  intro st z st' hc h Q σ a w hr q;simp only[Ef,Bool.and_eq_true]at hc;simp only[Gp]at h;split at h
  ·rename_i J h1;exact wp_seq (O st .normal J hc.1 h1 _ σ a w hr (fun G I D C A=>ihy J z st' hc.2 h Q D G I C (fun a' w' σ' hr' he' =>q a' w' σ' hr' (A.trans he'))))
  ·rename_i S;refine wp_seq (O st z st' hc.1 h _ σ a w hr (fun G I D C A=>?_));have:=q G I D C A;cases z with
   | normal=>exact absurd h (S _)
   | ret=>exact this
   | exit id=>exact this
 | cond c x y O ihy=>
  intro st z st' hc h Q σ a w hr q;simp only[Ef,Bool.and_eq_true]at hc;simp only[Gp]at h;split at h
  ·rename_i t ht;have hv:=En (a:=a) hr.Ey hr.slots c;rw[ht]at hv;have hb:a.eval c = .bool t:=by generalize a.eval c=v at hv;cases hv;rfl
   refine wp_cond hb ?_
   grind
  ·cases h
 | block id b Y=>
  intro st z st' hc h Q σ a w hr q;simp only[Ef]at hc;simp only[Gp]at h;split at h
  ·rename_i i J h1;refine wp_block (Y st (.exit i) J hc h1 _ σ a w hr (fun G I D C A=>?_));simp only[Ex.out,Exit.inBlock];split at h
   ·rename_i hi;cases h;rw[if_pos hi];exact q G I D C A
   ·rename_i hi;cases h;rw[if_neg hi];exact q G I D C A
  ·rename_i S;refine wp_block (Y st z st' hc h _ σ a w hr (fun G I D C A=>?_));have:=q G I D C A;cases z with
   | normal=>exact this
   | ret=>exact this
   | exit i=>simp_all
 | loop b Y=>
  intro st z st' hc h Q σ a w hr q;exact hlp b st z st' hc h Q σ a w hr q
 | scope b Y=>
  intro st z st' hc h Q σ a w hr q;simp only[Ef]at hc;simp only[Gp]at h;refine wp_scope_straight (Y st z st' hc h _ σ a w hr (fun G I D C A=>?_));have:=q G I D C A;cases z with
  | normal=>exact this
  | ret=>exact this
  | exit i=>exact this
 | label l=>
  intro st z st' hc h Q σ a w hr q;simp only[Gp,Option.some.injEq,Prod.mk.injEq]at h;obtain⟨rfl,rfl⟩:=h;exact wp_label (q a w σ hr (Ext.refl σ w))
 | exit id=>
  intro st z st' hc h Q σ a w hr q;simp only[Gp,Option.some.injEq,Prod.mk.injEq]at h;obtain⟨rfl,rfl⟩:=h;exact wp_exit (q a w σ hr (Ext.refl σ w))
 | ret=>
  intro st z st' hc h Q σ a w hr q;simp only[Gp,Option.some.injEq,Prod.mk.injEq]at h;obtain⟨rfl,rfl⟩:=h;exact wp_ret (q a w σ hr (Ext.refl σ w))
 | _=>
  intro st z st' hc h;cases h
theorem Z4Z (hE:DV E) (hP:E.P=P) (z:KA P E B w0 call) (A:PV E call):∀n,Z50 P E B w0 f (V5 call E f n):=by
 have key:∀n,∀b st q st',Ef E f b=true->V5 call E f n b st=some (q,st')->∀(Q:Exit->Act->World->Prop) σ a w,FU E B w0 σ st a w ->
  (∀M w' σ',FU E B w0 σ' st' M w' -> Ext σ w σ' w' -> Q q.out M w')->Code.rounds P b Q n a w:=by
  intro n;induction n with
  | zero=>intro b st q st' hc h;cases h
  | succ n ih=>
   intro b st q st' hc h Q σ a w hr G;rw[rounds_succ];have I:Z50 P E B w0 f (V5 call E f n):=fun b st q st' hc h Q σ a w hr G=>wp_loop_rounds n (ih b st q st' hc h Q σ a w hr G);simp only[V5]at h;split at h
   ·rename_i J h1;exact VF hE hP z A I b st .normal J hc h1 _ σ a w hr (fun N w1 F D C=>ih b J q st' hc h Q F N w1 D (fun M w' σ' Y O =>G M w' σ' Y (C.trans O)))
   ·rename_i S;refine VF hE hP z A I b st q st' hc h _ σ a w hr (fun N w1 F D C=>?_);have:=G N w1 F D C;cases q with
    | normal=>exact absurd h (S _)
    | ret=>exact this
    | exit id=>exact this
 exact fun n b st q st' hc h Q σ a w hr G=>wp_loop_rounds n (key n b st q st' hc h Q σ a w hr G)
theorem ZwZ {σ:Sg} {H:Heap} {w:World} (z:DV E) (hP:E.P=P) (C:Inv B w0 σ H w) {t:TypeId} {x r:V} {v:Value} (hx:AV σ w [x] [v]) (h:Nz E H t x=some r) :
  ∃u,(do loadVar t (<- asAddr v):Sem Value).run P w = .ok u w/\AV σ w [r] [u]:=by
 obtain⟨u,hu,hr⟩:=Zgk (P:=P) z hP C hx h;refine⟨u,?_,hr⟩;have hv:∃A,v = .pointer (some A):=by
  unfold Nz at h;split at h
  ·cases h
  ·split at h
   ·cases hx;exact⟨_,rfl⟩
   ·cases hx with
    | ptr g _ _ _ q _=>exact⟨_,q⟩
   ·cases h
 obtain⟨A,rfl⟩:=hv;rw[<- hu];simp[Instr.loadAt,asAddr,Instr.sureAddr]
theorem ZFn {σ:Sg} {H:Heap} {w:World} {s:List V} {tmps:Array Value} (F:DV E) (hP:E.P=P) (G:Inv B w0 σ H w) (hs:AV σ w s tmps.toList):∀(rs:List ResultVar) (xs:List V),rs.mapM (resD E H s)=some xs ->
  ∃vs,(rs.mapM (fun(r:ResultVar)=>(match r with | .tmp t=>pure (tmps.getD t undef) | .cell a t=>do loadVar t (<- asAddr (tmps.getD a undef)):Sem Value))).run P w = .ok vs w/\AV σ w xs vs:=by
 have z:∀t,AV σ w [s.getD t .und] [tmps.getD t undef]:=fun t=>by
  have:=Zeq hs t;simpa using this
 intro rs;induction rs with
 | nil=>
  intro xs h;simp at h;subst h;exact⟨[],rfl,.nil⟩
 | cons r rs I=>
  intro xs h;rw[List.mapM_cons]at h;cases hr:resD E H s r with
  | none=>simp[hr]at h
  | some x=>
   cases q:rs.mapM (resD E H s) with
   | none=>simp[hr,q]at h
   | some C =>
    simp[hr,q]at h;subst h;obtain⟨vs,hv,hx⟩:=I C q;have D:∃u,((match r with | .tmp t=>pure (tmps.getD t undef) | .cell a t=>do loadVar t (<- asAddr (tmps.getD a undef)):Sem Value)).run P w = .ok u w/\AV σ w [x] [u]:=by
     cases r with
     | tmp t=>
      simp only[resD,Option.some.injEq]at hr;subst hr
      simp_all
     | cell a t=>exact ZwZ F hP G (z a) hr
    obtain⟨u,hu,A⟩:=D;refine⟨u::vs,?_,AV.FZ.2 ⟨A,hx⟩⟩
    simp_all
theorem uO {σ:Sg} {H:Heap} {w:World} {s:List V} {tmps:Array Value} (F:DV E) (hP:E.P=P) (G:Inv B w0 σ H w) (hs:AV σ w s tmps.toList) {fn:Func} {x:V} (h:MK E H s fn.results.toList=some x) :
  ∃u,(results fn tmps).run P w = .ok u w/\AV σ w [x] [u]:=by
 unfold MK at h;cases hm:fn.results.toList.mapM (resD E H s) with
 | none=>simp[hm]at h
 | some xs=>
  obtain⟨vs,hv,hr⟩:=ZFn (P:=P) F hP G hs _ xs hm;have A:(results fn tmps).run P w = .ok (if h:vs.toArray.size=1 then vs.toArray[0] else .tuple vs.toArray) w:=by
   unfold results;rw[Sem.run_bind];have C:(fn.results.mapM (fun(r:ResultVar)=>(match r with | .tmp t=>pure (tmps.getD t undef) | .cell a t=>do loadVar t (<- asAddr (tmps.getD a undef)):Sem Value))).run P w = .ok vs.toArray w:=by
    rw[Array.mapM_eq_mapM_toList,map_eq_pure_bind,Sem.run_bind,hv,Result.andThen_ok];rfl
   have:=congrArg (fun r=>Result.andThen r fun(vs:Array Value) (w' : World)=>(pure (if h:vs.size=1 then vs[0] else .tuple vs):Sem Value).run P w') C;exact this
  refine⟨_,A,?_⟩;rw[hm]at h;have z:=hr.length;split at h
  ·rename_i v q;cases q;simp only[Option.some.injEq]at h;subst h;obtain⟨u,I,rfl,J,M⟩:=hr.EN
   simp_all
  ·rename_i ys D q;cases q;simp only[Option.some.injEq]at h;subst h;have:¬vs.toArray.size=1:=by
    intro q;simp at q;rw[<- z]at q;obtain⟨y,rfl⟩:=List.length_eq_one_iff.1 q;exact D y rfl
   rw[dif_neg this];exact .BH hr .nil
  simp_all
end
end Go.Proofs.YtjodhcdmhobmoaaGreatDoor.Le
namespace Go.Proofs.YtjodhcdmhobmoaaGreatDoor.Le
open Go.RowKit (Below)
def bare (fz:Nat->Nat->Prop):Sg:=⟨fun _=>none,fz⟩
theorem Lies.bare {σ σ' : Sg} {w w' : World} {b o:Nat} {us:List Value} (h:Lies σ w b o us) (q:∀b c,σ.fz b c->σ'.fz b c/\w'.cell? ⟨b,c,none⟩=w.cell? ⟨b,c,none⟩):Lies σ' w' b o us:=fun j u hu=>by
 obtain⟨z,A⟩:=h j u hu
 simp_all
theorem AV.bare {σ σ' : Sg} {w w' : World} {xs:List V} {vs:List Value} (h:AV σ w xs vs) (I:∀b c,σ.fz b c->σ'.fz b c/\w'.cell? ⟨b,c,none⟩=w.cell? ⟨b,c,none⟩) (O:Ec w w') :
  CS xs=true->AV σ' w' xs vs:=by
 induction h with
 | nil=>intro _;exact .nil
 | und u _ C=>intro q;simp[CS]at q;exact .und u (C q.2)
 | no _ C=>intro q;simp[CS]at q;exact .no (C q.2)
 | lit hl _ C=>intro q;simp[CS]at q;exact .lit hl (C q.2)
 | agg _ Y _ z A=>intro q;simp[CS,DC]at q;exact .agg (z q.1) Y (A q.2)
 | BH _ _ z A=>intro q;simp[CS,DC]at q;exact .BH (z q.1) (A q.2)
 | Eo _ C=>intro q;simp[CS]at q;exact .Eo (C q.2)
 | Gl _ C=>intro q;simp[CS]at q;exact .Gl (C q.2)
 | GI a _ C=>intro q;simp[CS]at q;exact .GI a (C q.2)
 | Gv a _ C=>intro q;simp[CS]at q;exact .Gv a (C q.2)
 | sl b o c J _ M D F G N S _ z A=>intro q;simp[CS,DC]at q;exact .sl b o c J (z q.1) M D F G N (S.bare I) (A q.2)
 | DU b o J _ M D F G N _ z A=>intro q;simp[CS,DC]at q;exact .DU b o J (z q.1) M D F G (N.bare I) (A q.2)
 | Bi D F G N _ C=>intro q;simp[CS,DC]at q
 | ptr g D F G N _ C=>intro q;simp[CS,DC]at q
 | CQ b o J i off _ M D F G _ z A=>intro q;simp[CS,DC]at q;exact .CQ b o J i off (z q.1) M D F (G.bare I) (A q.2)
 | fn _ _ _ z A Q=>intro q;simp[CS,DC]at q;exact .fn (z q.1.1) (A q.1.2) (Q q.2)
 | IG _ _ z A=>intro q;simp[CS,DC]at q;exact .IG (z (by simp[CS,q.1])) (A q.2)
 | GU g es c _ D F _ z A=>intro q;simp[CS,DC]at q;exact .GU g es c (z q.1) (O _ _ _ D) F (A q.2)
theorem EH.bare {E:Env} {σ σ' : Sg} {w w' : World} (h:EH E σ w) (q:∀b c,σ.fz b c->σ'.fz b c/\w'.cell? ⟨b,c,none⟩=w.cell? ⟨b,c,none⟩) (z:Ec w w'):EH E σ' w' :=by
 intro g r A;have hr:=h g r A;generalize hv:Value.pointer (some ⟨g,0,none⟩)=v at hr ⊢;cases hr with
 | CQ b o C i off k0 k1 k2 k3 k4 _=>exact .CQ b o _ _ _ (k0.bare q z (QZ k1)) k1 k2 k3 (k4.bare q) .nil
theorem Z3W (q:Nat->Nat) (xs:List V):Ho q xs=xs.map (Fz q):=by
 induction xs with
 | nil=>rfl
 | cons x xs z=>simp[Ho,z]
theorem Z2d (q:Nat->Nat) (xs:List V):(Ho q xs).length=xs.length:=by rw[Z3W];simp
theorem Zgq (q:Nat->Nat) (x:V):okV (Fz q x)=okV x:=by cases x<;>simp[Fz,okV]
theorem Z31 {σ σ' : Sg} {w w' : World} {S:Nat->Nat} {xs:List V} {vs:List Value} (h:AV σ w xs vs) (D:∀b c,σ.fz b c->σ'.fz b c/\w'.cell? ⟨b,c,none⟩=w.cell? ⟨b,c,none⟩) (J:Ec w w') :
  (∀id∈Dv xs,σ'.box (S id)=σ.box id)->AV σ' w' (Ho S xs) vs:=by
 induction h with
 | nil=>intro _;exact .nil
 | und u _ C=>intro q;exact .und u (C fun id h=>q id (by simp[Dv,h]))
 | no _ C=>intro q;exact .no (C fun id h=>q id (by simp[Dv,h]))
 | lit hl _ C=>intro q;exact .lit hl (C fun id h=>q id (by simp[Dv,h]))
 | agg _ ho _ A z=>intro q;exact .agg (A fun id h=>q id (by simp[Dv,Eb,h])) ho (z fun id h=>q id (by simp[Dv,h]))
 | BH _ _ A z=>intro q;exact .BH (A fun id h=>q id (by simp[Dv,Eb,h])) (z fun id h=>q id (by simp[Dv,h]))
 | Eo _ C=>intro q;exact .Eo (C fun id h=>q id (by simp[Dv,h]))
 | Gl _ C=>intro q;exact .Gl (C fun id h=>q id (by simp[Dv,h]))
 | GI a _ C=>intro q;exact .GI a (C fun id h=>q id (by simp[Dv,h]))
 | Gv a _ C=>intro q;exact .Gv a (C fun id h=>q id (by simp[Dv,h]))
 | sl b o c O h M F G I N Y _ _ z=>intro q;exact .sl b o c O (h.bare D J (QZ M)) M F G I N (Y.bare D) (z fun id h=>q id (by simp[Dv,h]))
 | DU b o O h M F G I N _ _ z=>intro q;exact .DU b o O (h.bare D J (QZ M)) M F G I (N.bare D) (z fun id h=>q id (by simp[Dv,h]))
 | Bi F G I N _ C=>intro q;exact .Bi ((q _ (by simp[Dv,Eb])).trans F) G I N (C fun id h=>q id (by simp[Dv,h]))
 | ptr g F G I N _ C=>intro q;exact .ptr g ((q _ (by simp[Dv,Eb])).trans F) G I N (C fun id h=>q id (by simp[Dv,h]))
 | CQ b o O i off h M F G I _ _ z=>intro q;exact .CQ b o O i off (h.bare D J (QZ M)) M F G (I.bare D) (z fun id h=>q id (by simp[Dv,h]))
 | fn _ _ _ A z Q=>intro q;exact .fn (A fun id h=>q id (by simp[Dv,Eb,h])) (z fun id h=>q id (by simp[Dv,Eb,h])) (Q fun id h=>q id (by simp[Dv,h]))
 | IG _ _ A z=>intro q;exact .IG (A fun id h=>q id (by simp[Dv,Eb]at h ⊢;simp[h])) (z fun id h=>q id (by simp[Dv,h]))
 | GU g es c _ F G _ A z=>intro q;exact .GU g es c (A fun id h=>q id (by simp[Dv,Eb,h])) (J _ _ _ F) G (z fun id h=>q id (by simp[Dv,h]))
theorem ZyL {σ σ' : Sg} {w w' : World} {A:Nat->Nat} {x:V} {v:Value} (h:AV σ w [x] [v]) (q:∀b c,σ.fz b c->σ'.fz b c/\w'.cell? ⟨b,c,none⟩=w.cell? ⟨b,c,none⟩) (z:Ec w w')
  (C:∀id∈Eb x,σ'.box (A id)=σ.box id):AV σ' w' [Fz A x] [v]:=Z31 h q z (by simpa[Dv]using C)
structure Gn (H H1:Heap):Prop where
 len:H.length<=H1.length
 at_:∀(id:Nat) (b:Box),H[id]? = some b->∃b',H1[id]? = some b' /\ b'.live=b.live/\b'.row=b.row/\b'.xs=b.xs
theorem Gn.refl (H:Heap):Gn H H:=⟨Nat.le_refl _,fun id b h=>⟨b,h,rfl,rfl,rfl⟩⟩
theorem Gn.trans {A B C:Heap} (h:Gn A B) (k:Gn B C):Gn A C:=
 ⟨Nat.le_trans h.len k.len,fun id b hb=>by
  obtain⟨b1,q,z,D,F⟩:=h.at_ id b hb;obtain⟨b2,k1,k2,k3,k4⟩:=k.at_ id b1 q
  simp_all⟩
theorem Gn.bump (H:Heap) (ids:List Nat):Gn H (bump H ids):=
 ⟨by rw[bump_length];exact Nat.le_refl _,fun id b hb=>⟨_,by rw[ML,hb];rfl,by split<;>rfl,by split<;>rfl,by split<;>rfl⟩⟩
theorem Gn.push (H:Heap) (b:Box):Gn H (H++[b]):=
 ⟨by simp,fun id q hb=>⟨q,by grind,rfl,rfl,rfl⟩⟩
section
variable {B:Nat} {w0:Start} {σ:Sg} {H H1:Heap} {w:World}
theorem ZfE (h:Inv B w0 σ H w) {f:Fk} {x y:V} {v:Value} (hr:AV σ w [x] [v]) (hp:I9 f H x=some (y,H1)):Gn H H1/\∃σ',Inv B w0 σ' H1 w/\Ext σ w σ' w/\AV σ' w [y] [v]:=by
 have mk:∀(e:TypeId) (sz:Nat),∃σ',Inv B w0 σ' (H++[CB true false e sz []]) w/\Ext σ w σ' w/\AV σ' w [.Bi H.length 0 0 0] [.slice none 0 0]:=by
  intro e sz;obtain⟨σ',q,z,A⟩:=O9 (e:=e) (Au:=sz) (v' :=.slice none 0 0) h (jI H) (grownBy_refl w none) (xs:=[]) (us:=[]) .nil (by simp) (by simp) (by simp[flat]) ⟨by simp[flat],.inl ⟨rfl,rfl⟩⟩ (by simp[Value.ownBlock]) false (by simp);exact⟨σ',by rw[Zzq]at q;exact q,z,A⟩
 cases f with
 | s e sz=>
  simp only[I9]at hp;cases hf:Ia H x with
  | none=>simp[hf]at hp
  | some D=>
   simp only[hf,Option.map_some,Option.some.injEq,Prod.mk.injEq]at hp;obtain⟨rfl,rfl⟩:=hp;obtain⟨q,z⟩:=h.freeze (F7 x);exact⟨Gn.bump _ _,_,q,z,Z23 sz (wL h hr hf (F7 x) (fun i C=>C))⟩
 | own e sz=>
  simp only[I9]at hp;unfold lF at hp;split at hp
  ·simp only[Option.some.injEq,Prod.mk.injEq]at hp;obtain⟨rfl,rfl⟩:=hp;cases hr with
   | Eo _=>exact⟨Gn.push _ _,mk e sz⟩
  ·simp only[Option.some.injEq,Prod.mk.injEq]at hp;obtain⟨rfl,rfl⟩:=hp;cases hr with
   | Gl _=>exact⟨Gn.push _ _,mk e sz⟩
  ·split at hp
   ·simp only[Option.some.injEq,Prod.mk.injEq]at hp;obtain⟨rfl,rfl⟩:=hp;exact⟨Gn.refl _,σ,h,Ext.refl _ _,hr⟩
   ·cases hp
  ·cases hp
 | keep=>
  simp only[I9,Option.some.injEq,Prod.mk.injEq]at hp;obtain⟨rfl,rfl⟩:=hp;exact⟨Gn.refl _,σ,h,Ext.refl _ _,hr⟩
 | drop=>
  simp only[I9,Option.some.injEq,Prod.mk.injEq]at hp;obtain⟨rfl,rfl⟩:=hp;exact⟨Gn.refl _,σ,h,Ext.refl _ _,.und _ .nil⟩
theorem ZBV:∀{fl:List Fk} {H:Heap} {σ:Sg} {xs ys:List V} {vs:List Value} {H1:Heap},Inv B w0 σ H w->AV σ w xs vs->I8 fl H xs=some (ys,H1)->Gn H H1/\∃σ',Inv B w0 σ' H1 w/\Ext σ w σ' w/\AV σ' w ys vs:=by
 intro fl;induction fl with
 | nil=>
  intro H σ xs ys vs H1 h hr hp;cases xs with
  | nil=>
   simp only[I8,Option.some.injEq,Prod.mk.injEq]at hp;obtain⟨rfl,rfl⟩:=hp;exact⟨Gn.refl _,σ,h,Ext.refl _ _,hr⟩
  | cons=>simp[I8]at hp
 | cons f fl N=>
  intro H σ xs ys vs H1 h hr hp;cases xs with
  | nil=>simp[I8]at hp
  | cons x xs=>
   obtain⟨v,S,rfl,A,C⟩:=hr.EN;simp only[I8]at hp;cases q:I9 f H x with
   | none=>simp[q]at hp
   | some r=>
    obtain⟨y,I⟩:=r;simp only[q]at hp;cases z:I8 fl I xs with
    | none=>simp[z]at hp
    | some r=>
     obtain⟨Y,Hb⟩:=r;simp only[z,Option.some.injEq,Prod.mk.injEq]at hp;obtain⟨rfl,rfl⟩:=hp;obtain⟨k1,σ1,J,F,O⟩:=ZfE h A q;obtain⟨k2,D,M,G,Q⟩:=N J (C.ext F) z;exact⟨k1.trans k2,D,M,F.trans G,AV.FZ.2 ⟨O.ext G,Q⟩⟩
theorem Zg5 (h:Inv B w0 σ H w) {fl:List Fk} {x y:V} {v:Value} (hr:AV σ w [x] [v]) (hp:Kw fl H x=some (y,H1)):Gn H H1/\∃σ',Inv B w0 σ' H1 w/\Ext σ w σ' w/\AV σ' w [y] [v]:=by
 unfold Kw at hp;split at hp
 ·rename_i cs;cases hl:I8 fl H cs with
  | none=>simp[hl]at hp
  | some r=>
   obtain⟨ys,G⟩:=r;simp only[hl,Option.map_some,Option.some.injEq,Prod.mk.injEq]at hp;obtain⟨rfl,rfl⟩:=hp;cases hr with
   | agg A C _=>
    obtain⟨k1,q,D,z,F⟩:=ZBV h A hl;exact⟨k1,q,D,z,.agg F C .nil⟩
 ·split at hp
  ·exact ZfE h hr hp
  ·cases hp
theorem ZCp:∀{fl:List (List Fk)} {H:Heap} {σ:Sg} {xs ys:List V} {vs:List Value} {H1:Heap},Inv B w0 σ H w->AV σ w xs vs->Io fl H xs=some (ys,H1)->Gn H H1/\∃σ',Inv B w0 σ' H1 w/\Ext σ w σ' w/\AV σ' w ys vs:=by
 intro fl;induction fl with
 | nil=>
  intro H σ xs ys vs H1 h hr hp;cases xs with
  | nil=>
   simp only[Io,Option.some.injEq,Prod.mk.injEq]at hp;obtain⟨rfl,rfl⟩:=hp;exact⟨Gn.refl _,σ,h,Ext.refl _ _,hr⟩
  | cons=>simp[Io]at hp
 | cons f fl N=>
  intro H σ xs ys vs H1 h hr hp;cases xs with
  | nil=>simp[Io]at hp
  | cons x xs=>
   obtain⟨v,S,rfl,A,C⟩:=hr.EN;simp only[Io]at hp;cases q:Kw f H x with
   | none=>simp[q]at hp
   | some r=>
    obtain⟨y,I⟩:=r;simp only[q]at hp;cases z:Io fl I xs with
    | none=>simp[z]at hp
    | some r=>
     obtain⟨Y,Hb⟩:=r;simp only[z,Option.some.injEq,Prod.mk.injEq]at hp;obtain⟨rfl,rfl⟩:=hp;obtain⟨k1,σ1,J,F,O⟩:=Zg5 h A q;obtain⟨k2,D,M,G,Q⟩:=N J (C.ext F) z;exact⟨k1.trans k2,D,M,F.trans G,AV.FZ.2 ⟨O.ext G,Q⟩⟩
structure zJ (ids:List Nat) (H:Heap):Prop where
 nodup:ids.Nodup
 at_:∀id∈ids,∃b,H[id]? = some b/\b.live=true/\(b.row=false->∀r∈Dv b.xs,r∈ids)
theorem ZCl:∀(n:Nat) {fb:List Bf} {H:Heap} {σ:Sg} {q seen ids:List Nat} {H2:Heap},Inv B w0 σ H w->LC n fb H q seen=some (H2,ids)->seen.Nodup ->
  (∀id∈seen,∃b,H[id]? = some b/\b.live=true/\(b.row=false->∀r∈Dv b.xs,r∈seen++q)) ->
  H.length<=H2.length/\(∀id∈seen++q,id∈ids)/\zJ ids H2/\∃σ',Inv B w0 σ' H2 w/\Ext σ w σ' w:=by
 intro n;induction n with
 | zero=>intro fb H σ q seen ids H2 _ h;cases h
 | succ n ih=>
  intro fb H σ q seen ids H2 hI h hnd Q;cases q with
  | nil=>
   simp only[LC,Option.some.injEq,Prod.mk.injEq]at h;obtain⟨rfl,rfl⟩:=h;exact⟨Nat.le_refl _,by simp,⟨hnd,by simpa using Q⟩,σ,hI,Ext.refl _ _⟩
  | cons id q=>
   unfold LC at h
   by_cases hin:seen.contains id=true
   ·grind
   ·rw[if_neg hin]at h;have hin' : id∉seen:=by simpa using hin
    have O : (seen++[id]).Nodup:=by
     rw[List.nodup_append];exact⟨hnd,by simp,fun a ha b hb=>by simp at hb;subst hb;intro e;subst e;exact hin' ha⟩
    have hmem:∀{i:Nat} {t:List Nat},i∈seen++id::q->i∈(seen++[id])++(q++t):=by
     intro i t hi;simp only[List.mem_append,List.mem_cons]at hi ⊢;rcases hi with hx|hx|hx
     ·exact .inl (.inl hx)
     ·exact .inl (.inr (.inl hx))
     ·exact .inr (.inl hx)
    split at h
    ·rename_i b fresh fb' hb;split at h
     ·rename_i hc;simp only[Bool.and_eq_true]at hc;generalize I : (if fresh then H else bump H [id])=H' at h;have hk:Gn H H' /\ ∃σ',Inv B w0 σ' H' w/\Ext σ w σ' w:=by
       cases fresh with
       | true=>rw[if_pos rfl]at I;subst I;exact⟨Gn.refl _,σ,hI,Ext.refl _ _⟩
       | false=>
        rw[if_neg (by simp)]at I;subst I;obtain⟨i1,i2⟩:=hI.freeze [id];exact⟨Gn.bump _ _,_,i1,i2⟩
      obtain⟨hk,σ1,J,G⟩:=hk;obtain⟨h1,h2,h3,F,h4,h5⟩:=ih J h O (fun i hi=>by
       simp only[List.mem_append,List.mem_singleton]at hi;have key:∃b0,H[i]? = some b0/\b0.live=true/\(b0.row=false->∀r∈Dv b0.xs,r∈seen++id::q):=by
        rcases hi with hi|rfl
        ·exact Q i hi
        ·exact⟨b,hb,hc.1,fun hr=>by rw[hc.2]at hr;cases hr⟩
       obtain⟨b0,k1,k2,k3⟩:=key;obtain⟨b',m1,m2,m3,m4⟩:=hk.at_ i b0 k1
       grind)
      refine⟨Nat.le_trans hk.len h1,fun i hi=>h2 i ?_,h3,F,h4,G.trans h5⟩
      grind
     ·cases h
    ·rename_i b fl fb' hb;split at h
     ·rename_i hc;simp only[Bool.and_eq_true,Bool.not_eq_true']at hc;split at h
      ·rename_i x hx;split at h
       ·rename_i y H1 hp;split at h
        ·rename_i b1 M;split at h
         ·rename_i hoky;obtain⟨L,hL,hok⟩:=hI.boxes id b hb hc.1;obtain⟨us,r1,r2,r3,r4⟩:=hok.ED;rw[hx]at r1;obtain⟨u,us',rfl,r5,r6⟩:=r1.EN;obtain⟨hk,σ1,J,G,hy⟩:=Zg5 hI r5 hp;obtain⟨b1',m1,m2,m3,m4⟩:=hk.at_ id b hb;rw[M]at m1;cases m1;have A:b1.live=true:=m2.trans hc.1;have hrow1:b1.row=false:=m3.trans hc.2;have D:b1.xs=[x]:=m4.trans hx;have hsw:∃F,Inv B w0 F (H1.set id { b1 with xs:=[y] }) w/\Ext σ1 w F w:=by
           obtain⟨L1,hL1,C⟩:=J.boxes id b1 M A;obtain⟨us1,s1,s2,s3,s4⟩:=C.ED;rw[D]at s1;obtain⟨u1,us1',rfl,s5,s6⟩:=s1.EN;cases s6.Fa;cases r6.Fa;have hu:u1.cells.toList=u.cells.toList:=by
            obtain⟨L',hL',he,hLL⟩:=G.box id L hL;rw[hL1]at hL';cases hL';have ht1:L1.tot=1:=by rw[C.tot,D];rfl
            have ht:L.tot=1:=by rw[hok.tot,hx];rfl
            have hLe:L1=L:=by
             rcases hLL with e|e
             ·exact e
             ·omega
            subst hLe;rcases r4.2 with ⟨hv,hn⟩|⟨g,cap,cur,tg,hv,_,hg,_,_,_,_,hcur⟩
            ·grind
            ·rcases s4.2 with ⟨N,hn'⟩|⟨g',cap',cur',tg',N,_,Y,_,_,_,_,S⟩
             ·grind
             ·rw[hv]at N;simp only[Value.slice.injEq,Option.some.injEq,Addr.mk.injEq,and_true]at N;obtain⟨rfl,_,_⟩:=N;rw[hg]at Y;simp only[Option.some.injEq,Obj.cells.injEq]at Y;obtain⟨rfl,_⟩:=Y;rw[O3]at hcur S
              grind
           obtain⟨i1,i2⟩:=J.upd M A hL1 (grownBy_refl w _) { b1 with xs:=[y] } A L1 rfl (.inl rfl) rfl (by simp[D]) (fun g hg=>.inl hg) (fun _ _ _ _=>rfl)
            (fun ex=>⟨by rw[C.tot,D];rfl,⟨[u],hy.ext ex,fun z hz=>by simp at hz;subst hz;rw[<- s2 u1 (by simp)];exact(congrArg List.length hu).symm,fun z hz=>s3 z (by rw[O3]at hz ⊢;rw[hu];exact hz),by
             rw[O3,<- hu,<- O3];simpa[D]using s4⟩,C.Ep,C.Au,by simpa using hoky,fun hh=>by simp only at hh;rw[hrow1]at hh;cases hh⟩)
           exact⟨_,i1,i2⟩
          obtain⟨F,hI2,hE2⟩:=hsw;have hlen1:id<H1.length:=(List.getElem?_eq_some_iff.1 M).1;obtain⟨h1,h2,h3,σ3,h4,h5⟩:=ih hI2 h O (fun i hi=>by
           simp only[List.mem_append,List.mem_singleton]at hi
           by_cases hid:i=id
           ·subst hid;refine⟨{ b1 with xs:=[y] },by simp[hlen1],A,fun _ r hh=>?_⟩;simp only[Dv,List.append_nil]at hh;simp[hh]
           ·have hi' : i∈seen:=by rcases hi with hi|hi;exact hi;exact absurd hi hid
            obtain⟨b0,k1,k2,k3⟩:=Q i hi';obtain⟨b',q1,q2,q3,q4⟩:=hk.at_ i b0 k1
            grind)
          refine⟨Nat.le_trans hk.len (by simpa using h1),fun i hi=>h2 i (hmem hi),h3,σ3,h4,G.trans (hE2.trans h5)⟩
         ·cases h
        ·cases h
       ·cases h
      ·cases h
     ·cases h
    ·cases h
end
end Go.Proofs.YtjodhcdmhobmoaaGreatDoor.Le
namespace Go.Proofs.YtjodhcdmhobmoaaGreatDoor.Le
open Go.RowKit (Below)
def Sg.ren (σ:Sg) (ids:List Nat):Sg:=⟨fun j=>(ids[j]?).bind σ.box,σ.fz⟩
theorem ZgH {ids:List Nat} {id:Nat} (h:id∈ids):ids[ids.idxOf id]? = some id:=by
 grind
theorem Z4B {σ:Sg} {ids:List Nat} {id:Nat} (h:id∈ids):(σ.ren ids).box (ids.idxOf id)=σ.box id:=by
 simp[Sg.ren,ZgH h]
theorem Zb4 {w w' : World} {B e sz n:Nat} {v:Value} {us:List Value} (h:GR w B e sz v n us) (hb:∀g,v.ownBlock=some g->w'.heap[g]? = w.heap[g]?):GR w' B e sz v n us:=by
 refine⟨h.1,?_⟩;rcases h.2 with D|⟨g,cap,z,F,rfl,A,C,q⟩
 ·exact .inl D
 ·exact .inr ⟨g,cap,z,F,rfl,A,by rw[hb g (by simp[Value.ownBlock])];exact C,q⟩
theorem PN (q:Nat->Nat) (b:Box):(Gi q b).live=b.live/\(Gi q b).row=b.row/\(Gi q b).Ep=b.Ep/\(Gi q b).elem=b.elem/\(Gi q b).Au=b.Au/\(Gi q b).floor=b.floor/\(Gi q b).xs.length=b.xs.length:=by
 unfold Gi;split
 ·simp_all
 ·exact⟨rfl,rfl,rfl,rfl,rfl,rfl,Z2d _ _⟩
theorem Ky.ren {σ σ' : Sg} {w w' : World} {B:Nat} {b:Box} {L:Loc} (C:Nat->Nat) (h:Ky σ w B b L) (z:∀b c,σ.fz b c->σ'.fz b c/\w'.cell? ⟨b,c,none⟩=w.cell? ⟨b,c,none⟩) (A:Ec w w')
  (N:b.row=false->∀id∈Dv b.xs,σ'.box (C id)=σ.box id) (hb:∀g,L.v.ownBlock=some g->w'.heap[g]? = w.heap[g]?):Ky σ' w' B (Gi C b) L:=by
 obtain⟨e1,G,I,J,M,e6,D⟩:=PN C b;obtain⟨us,F,Q,S,Y⟩:=h.ED;have hr:AV σ' w' (Gi C b).xs us:=by
  unfold Gi;split
  ·rename_i q;exact F.bare z A ((Lm _).2 (h.IZ q))
  ·rename_i q;exact Z31 F z A (N (by simpa using q))
 refine⟨by rw[D];exact h.tot,⟨us,hr,Q,S,by rw[J,D];exact Zb4 Y hb⟩,by rw[I];exact h.Ep,by rw[M];exact h.Au,?_,?_⟩
 ·intro x hx;unfold Gi at hx;split at hx
  ·exact h.oks x hx
  ·simp only[Z3W,List.mem_map]at hx;obtain⟨y,O,rfl⟩:=hx;rw[Zgq];exact h.oks y O
 ·intro q x hx;rw[G]at q;unfold Gi at hx;rw[if_pos q]at hx;exact h.IZ q x hx
section
variable {B:Nat} {w0:Start} {σ:Sg} {H:Heap} {w:World} {ids:List Nat}
theorem ZfG (H:Heap) (ids:List Nat) (j:Nat):(J9 H ids)[j]? = (ids[j]?).map fun id=>Gi (ids.idxOf ·) ((H[id]?).getD Sv):=by
 simp[J9]
theorem ZeY {l:List Nat} (h:l.Nodup) {i j x:Nat} (A:l[i]? = some x) (C:l[j]? = some x):i=j:=by
 obtain⟨D,q⟩:=List.getElem?_eq_some_iff.1 A;obtain⟨F,z⟩:=List.getElem?_eq_some_iff.1 C;exact(List.getElem_inj h).1 (q.trans z.symm)
theorem jV {xs:List V} {vs:List Value} (hr:AV σ w xs vs) (hm:∀id∈Dv xs,id∈ids):AV (σ.ren ids) w (Ho (ids.idxOf ·) xs) vs:=
 Z31 hr (fun b c z=>⟨z,rfl⟩) (Ec.refl _) fun id q=>Z4B (hm id q)
theorem Z56 (h:Inv B w0 σ H w) (hs:zJ ids H) (G:Start) (C:Below B G.w w) (I:∀b c,σ.fz b c->b<B->G.fz b c)
  (hk:∀b,G.keep b->b<w.heap.size/\w.heap[b]? = G.w.heap[b]? /\ (∀id∈ids,∀L,σ.box id=some L->L.v.ownBlock≠some b)/\∀c,σ.fz b c->G.fz b c):Inv B G (σ.ren ids) (J9 H ids) w:=by
 have z:∀{j:Nat} {L:Loc},(σ.ren ids).box j=some L->∃id,ids[j]? = some id/\σ.box id=some L:=by
  intro j L A;simp only[Sg.ren]at A;cases O:ids[j]? with
  | none=>simp[O]at A
  | some id=>simp_all
 have q:∀{j:Nat} {D : Box},(J9 H ids)[j]? = some D -> ∃id b,ids[j]? = some id/\H[id]? = some b/\b.live=true/\(b.row=false->∀r∈Dv b.xs,r∈ids)/\D = Gi (ids.idxOf ·) b:=by
  intro j D hb;rw[ZfG]at hb;cases O:ids[j]? with
  | none=>simp[O]at hb
  | some id=>
   obtain⟨b,k1,k2,k3⟩:=hs.at_ id (List.mem_of_getElem? O)
   simp_all
 refine⟨C,h.size,?_,?_,?_,h.cells,?_,?_,I,fun b hb=>?_⟩
 ·intro j L A;obtain⟨id,F,N⟩:=z A;obtain⟨b,k1,k2,k3⟩:=hs.at_ id (List.mem_of_getElem? F);refine⟨Gi (ids.idxOf ·) b,by rw[ZfG,F];simp[k1],?_⟩;rw[(PN _ b).1];exact k2
 ·intro j D hb hl;obtain⟨id,b,F,N,h3,h4,rfl⟩:=q hb;obtain⟨L,A,hok⟩:=h.boxes id b N h3;refine⟨L,by simp[Sg.ren,F,A],hok.ren _ (fun b c S=>⟨S,rfl⟩) (Ec.refl _) (fun hr r S=>Z4B (h4 hr r S)) (fun _ _=>rfl)⟩
 ·intro j j' b1 b2 L1 L2 g F N l1 l2 s1 s2 g1 g2;obtain⟨i1,e1,t1⟩:=z s1;obtain⟨i2,e2,t2⟩:=z s2;obtain⟨i1',c1,f1,J,M,_⟩:=q F;obtain⟨i2',c2,f2,q1,q2,_⟩:=q N;rw[e1]at f1;cases f1;rw[e2]at f2;cases f2;have:=h.apart i1 i2 c1 c2 L1 L2 g J q1 M q2 t1 t2 g1 g2;subst this;exact ZeY hs.nodup e1 e2
 ·intro b c hc j D L hb hl A hg;obtain⟨id,Y,Q⟩:=z A;obtain⟨id',b0,f1,J,M,_,rfl⟩:=q hb;rw[Y]at f1;cases f1;rw[(PN _ b0).2.2.2.2.2.1];exact h.floor b c hc id b0 L J M Q hg
 ·intro j D hb hl;obtain⟨id,b0,f1,J,M,_,rfl⟩:=q hb;obtain⟨_,_,_,_,_,e6,e7⟩:=PN (ids.idxOf ·) b0;rw[e6,e7];exact h.low id b0 J M
 ·obtain⟨k1,k2,k3,k4⟩:=hk b hb;refine⟨k1,k2,fun j L A hg=>?_,k4⟩
  grind
def IW (ids:List Nat) (n i:Nat):Option Nat:=if i<n then (if i∈ids then some (ids.idxOf i) else none) else some (ids.length+(i - n))
theorem ZCf:∀{ids:List Nat} {H q:Heap} (i:Nat),ids.Nodup->(∀id∈ids,id<H.length)->ids.length<=q.length ->
  (Qz H ids q)[i]? = match IW ids H.length i with|some j=>q[j]? | none=>H[i]?:=by
 intro ids;induction ids with
 | nil=>
  intro H q i _ _ _;unfold IW;simp only[Qz,List.getElem?_append,List.not_mem_nil,if_false,List.length_nil,Nat.zero_add];split<;>rfl
 | cons id ids C=>
  intro H q i z hl hb;cases q with
  | nil=>simp at hb
  | cons b q=>
   rw[List.nodup_cons]at z;rw[Qz,C i z.2 (fun j D=>by simp_all) (by simpa using hb)];have A:=hl id (by simp);unfold IW;simp only[List.length_set,List.mem_cons,List.length_cons]
   grind
theorem Zul {q:Heap} (i:Nat) (z:ids.Nodup) (hl:∀id∈ids,id<H.length) (hb:ids.length<=q.length) :
  (PY H ids q)[i]? = match IW ids H.length i with|some j=>(q[j]?).map (Gi (KC ids H.length))|none=>H[i]?:=by
 unfold PY;rw[ZCf i z hl (by simpa using hb)];split<;>simp
theorem ZE0 {n i i' j:Nat} (D:ids.Nodup) (q:IW ids n i=some j) (z:IW ids n i' = some j):i=i' :=by
 unfold IW at q z;have key:∀{x:Nat},x∈ids->ids.idxOf x<ids.length:=fun h=>List.idxOf_lt_length_of_mem h;split at q<;>split at z
 ·split at q<;>split at z
  ·rename_i A F;simp only[Option.some.injEq]at q z;have C:=ZgH A
   grind
  ·cases z
  ·cases q
  ·cases q
 ·grind
 ·grind
 grind
theorem ZCg {n:Nat} (q:ids.Nodup) (hl:∀id∈ids,id<n) (j:Nat):IW ids n (KC ids n j)=some j:=by
 unfold KC IW
 grind
def Sg.back (σ q:Sg) (ids:List Nat) (n:Nat):Sg:=⟨fun i=>match IW ids n i with|some j=>q.box j|none=>σ.box i,q.fz⟩
theorem ZfQ {q:Sg} {n:Nat} (z:ids.Nodup) (hl:∀id∈ids,id<n) (j:Nat):(σ.back q ids n).box (KC ids n j)=q.box j:=by
 simp only[Sg.back,ZCg z hl]
def outer (σ:Sg) (ids:List Nat) (w0:Start) (b:Nat):Prop:=w0.keep b\/∃id L,id∉ids/\σ.box id=some L/\L.v.ownBlock=some b
theorem ZDQ {G:Sg} {Q:Heap} {w' : World} (h:Inv B w0 σ H w) (hs:zJ ids H) (D:Inv B ⟨w,σ.fz,outer σ ids w0⟩ G Q w') (hE:Ext (σ.ren ids) w G w') (hlen:ids.length<=Q.length) :
  Inv B w0 (σ.back G ids H.length) (PY H ids Q) w' /\ Ext σ w (σ.back G ids H.length) w' :=by
 have S:∀id∈ids,id<H.length:=fun id hid=>by
  obtain⟨b,k1,_⟩:=hs.at_ id hid
  grind
 have hfz:∀b c,σ.fz b c->G.fz b c/\w'.cell? ⟨b,c,none⟩=w.cell? ⟨b,c,none⟩:=hE.fz;have e:Ext σ w (σ.back G ids H.length) w' :=by
  refine⟨fun i L q=>?_,hfz,hE.mp⟩;have N:=h.Z5a q;simp only[Sg.back]
  by_cases hm:i∈ids
  ·have A:IW ids H.length i=some (ids.idxOf i):=by simp[IW,N,hm]
   simp only[A];exact hE.box _ L (by rw[Z4B hm];exact q)
  ·have A:IW ids H.length i=none:=by simp[IW,N,hm]
   simp_all
 have M:∀i,(PY H ids Q)[i]? = match IW ids H.length i with|some j=>(Q[j]?).map (Gi (KC ids H.length))|none=>H[i]?:=fun i=>Zul i hs.nodup S hlen
 have F:∀{i:Nat} {L:Loc} {g:Nat},IW ids H.length i=none->σ.box i=some L->L.v.ownBlock=some g->outer σ ids w0 g:=by
  intro i L g A q J;refine .inr ⟨i,L,?_,q,J⟩;intro hm;simp[IW,S i hm,hm]at A
 have z:∀{i:Nat} {I : Box},(PY H ids Q)[i]? = some I -> (∃j b,IW ids H.length i=some j/\Q[j]? = some b/\I = Gi (KC ids H.length) b)\/(IW ids H.length i=none/\H[i]? = some I):=by
  intro i I hb;rw[M]at hb;cases A:IW ids H.length i with
  | none=>rw[A]at hb;exact .inr ⟨rfl,hb⟩
  | some j=>
   rw[A]at hb;simp only[Option.map_eq_some_iff]at hb;obtain⟨b,h2,h3⟩:=hb;exact .inl ⟨j,b,rfl,h2,h3.symm⟩
 refine⟨⟨h.below.trans D.below,D.size,?_,?_,?_,D.cells,?_,?_,fun b c hc O =>h.old b c (D.old b c hc O) O,fun b hb=>?_⟩,e⟩
 ·intro i L q;simp only[Sg.back]at q;rw[M];cases A:IW ids H.length i with
  | none=>rw[A]at q;exact h.dom i L q
  | some j=>
   rw[A]at q;obtain⟨b,k1,k2⟩:=D.dom j L q;exact⟨Gi (KC ids H.length) b,by simp[k1],by rw[(PN _ b).1];exact k2⟩
 ·intro i I hb hl;rcases z hb with ⟨j,b,A,hj,rfl⟩|⟨A,N⟩
  ·rw[(PN _ b).1]at hl;obtain⟨L,q,C⟩:=D.boxes j b hj hl;refine⟨L,by simp only[Sg.back,A];exact q,C.ren _ (fun b c hh=>⟨hh,rfl⟩) (Ec.refl _) (fun _ r _=>ZfQ hs.nodup S r) (fun _ _=>rfl)⟩
  ·obtain⟨L,q,C⟩:=h.boxes i I N hl;obtain⟨us,r1,r2,r3,r4⟩:=C.ED;refine⟨L,by simp only[Sg.back,A];exact q,C.tot,⟨us,r1.ext e,r2,r3,Zb4 r4 fun g J=>?_⟩,C.Ep,C.Au,C.oks,C.IZ⟩;exact(D.kept g (F A q J)).2.1
 ·intro i i' b1 b2 L1 L2 g p1 p2 l1 l2 s1 s2 g1 g2;simp only[Sg.back]at s1 s2;rcases z p1 with ⟨j,c1,Y,q1,rfl⟩|⟨Y,q1⟩<;>rcases z p2 with ⟨j',c2,t2,q2,rfl⟩|⟨t2,q2⟩
  ·rw[Y]at s1;rw[t2]at s2;rw[(PN _ _).1]at l1 l2;have:=D.apart j j' c1 c2 L1 L2 g q1 q2 l1 l2 s1 s2 g1 g2;subst this;exact ZE0 hs.nodup Y t2
  ·rw[Y]at s1;rw[t2]at s2;exact absurd g1 ((D.kept g (F t2 s2 g2)).2.2.1 j L1 s1)
  ·rw[Y]at s1;rw[t2]at s2;exact absurd g2 ((D.kept g (F Y s1 g1)).2.2.1 j' L2 s2)
  ·rw[Y]at s1;rw[t2]at s2;exact h.apart i i' b1 b2 L1 L2 g q1 q2 l1 l2 s1 s2 g1 g2
 ·intro b c hc i I L hb hl q J;simp only[Sg.back]at q hc;rcases z hb with ⟨j,b0,A,hj,rfl⟩|⟨A,N⟩
  ·rw[A]at q;rw[(PN _ b0).1]at hl;rw[(PN _ b0).2.2.2.2.2.1];exact D.floor b c hc j b0 L hj hl q J
  ·rw[A]at q;exact h.floor b c ((D.kept b (F A q J)).2.2.2 c hc) i I L N hl q J
 ·intro i I hb hl;rcases z hb with ⟨j,b0,A,hj,rfl⟩|⟨A,N⟩
  ·obtain⟨e1,_,_,_,_,e6,e7⟩:=PN (KC ids H.length) b0;rw[e6,e7];rw[e1]at hl;exact D.low j b0 hj hl
  ·exact h.low i I N hl
 ·obtain⟨k1,k2,k3,k4⟩:=h.kept b hb;obtain⟨m1,m2,m3,m4⟩:=D.kept b (.inl hb);refine⟨m1,m2.trans k2,fun i L q J=>?_,fun c hc=>k4 c (m4 c hc)⟩;simp only[Sg.back]at q
  grind
end
def VP (P:Program) (E:Env) (f:FuncId) (as:List V) (q:Heap) (r:V) (H1:Heap):Prop:=
 ∀(B:Nat) (w0:Start) (σ:Sg) (w:World) (vs:List Value),Inv B w0 σ q w->EH E σ w->AV σ w as vs ->
  Calls P f vs.toArray w fun e w' =>∃u σ',e = .returned u/\Inv B w0 σ' H1 w' /\ Ext σ w σ' w' /\ AV σ' w' [r] [u]
theorem Z4U {B:Nat} {w0:Start} {σ:Sg} {H q:Heap} {w:World} {fa:List (List Fk)} {fb:List Bf} {k:Nat} {args as:List V} {vs:List Value} {ids:List Nat} (h:Inv B w0 σ H w) (hr:AV σ w args vs)
  (hp:pack fa fb k args H=some (ids,as,q)):zJ ids q/\(∀id∈Dv as,id∈ids)/\H.length<=q.length/\∃σ',Inv B w0 σ' q w/\Ext σ w σ' w/\AV σ' w as vs:=by
 unfold pack at hp;split at hp
 ·rename_i G H1 J;split at hp
  ·rename_i F D M;simp only[Option.some.injEq,Prod.mk.injEq]at hp;obtain⟨rfl,rfl,rfl⟩:=hp;obtain⟨k1,S,N,I,Q⟩:=ZCp h hr J;obtain⟨q1,q2,q3,A,O,C⟩:=ZCl 1000 N M (by simp) (by simp);exact⟨q3,fun id z=>q2 id (by simp[z]),Nat.le_trans k1.len q1,A,O,I.trans C,Q.ext C⟩
  ·cases hp
 ·cases hp
theorem ZBj {P:Program} {E:Env} {B:Nat} {w0:Start} {σ:Sg} {H H' : Heap} {w:World} {f:FuncId} {hs:YS} {args:List V} {vs:List Value} {x:V} (I:∀as H0 r H1,hs.run as H0=some (r,H1)->VP P E f as H0 r H1)
  (hc:Pz hs args H=some (x,H')) (h:Inv B w0 σ H w) (hg:EH E σ w) (hr:AV σ w args vs) :
  Calls P f vs.toArray w fun e w' =>∃u σ',e = .returned u/\Inv B w0 σ' H' w' /\ Ext σ w σ' w' /\ AV σ' w' [x] [u]:=by
 unfold Pz at hc;split at hc
 ·rename_i ids as H2 hp;split at hc
  ·rename_i r H3 M;split at hc
   ·rename_i J;simp only[Option.some.injEq,Prod.mk.injEq]at hc;obtain⟨rfl,rfl⟩:=hc;obtain⟨C,hm,_,A,q,F,hr1⟩:=Z4U h hr hp;have hlt:∀id∈ids,id<H2.length:=fun id D=>by
     obtain⟨b,k1,_⟩:=C.at_ id D
     grind
    have N:Inv B ⟨w,A.fz,outer A ids w0⟩ (A.ren ids) (J9 H2 ids) w:=by
     refine Z56 q C _ (Below.refl _ _) (fun b c hc _=>hc) (fun b hb=>?_);rcases hb with hb|⟨id,L,D,hL,G⟩
     ·obtain⟨k1,k2,k3,k4⟩:=q.kept b hb
      grind
     ·obtain⟨bx,m1,m2⟩:=q.dom id L hL;obtain⟨O,z,hok⟩:=q.boxes id bx m1 m2;rw[hL]at z;cases z;refine⟨(hok.block_lt G).2,rfl,fun i hi O z hg' =>?_,fun c hc=>hc⟩;obtain⟨Q,n1,n2⟩:=q.dom i O z;have:=q.apart id i bx Q L O b m1 n1 m2 n2 hL z G hg';subst this;exact D hi
    have hg1:EH E (A.ren ids) w:=(hg.ext F).bare (fun b c I=>⟨I,rfl⟩) (Ec.refl _);refine(I _ _ _ _ M B _ (A.ren ids) w vs N hg1 (jV hr1 hm)).mono ?_
    rintro e w' ⟨u,σ2,rfl,hI2,S,hr2⟩
    obtain⟨hI3,Y⟩:=ZDQ q C hI2 S J;exact⟨u,_,rfl,hI3,F.trans Y,ZyL hr2 (fun b c I=>⟨I,rfl⟩) (Ec.refl _) (fun id _=>ZfQ C.nodup hlt id)⟩
   ·cases hc
  ·cases hc
 ·cases hc
end Go.Proofs.YtjodhcdmhobmoaaGreatDoor.Le
