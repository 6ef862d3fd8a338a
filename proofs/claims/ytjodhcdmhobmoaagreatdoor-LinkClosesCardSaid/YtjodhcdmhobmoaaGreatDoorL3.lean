/-
  A part of the proof.
-/
import Derived.Test.YtjodhcdmhobmoaaGreatDoorL2
import Derived.Orders
import Derived.LoopN
import Derived.Scope
set_option linter.unusedVariables false
set_option linter.unusedSimpArgs false
namespace Go.Proofs.YtjodhcdmhobmoaaGreatDoor.Le
open Go.RowKit (Below)
def Z9R (P:Program) (E:Env) (B:Nat) (w0:Start) (call:Z24):Prop:=
 ∀(f:FuncId) (args:List V) (H:Heap) (x:V) (H' : Heap) (σ:Sg) (w:World) (vs:List Value),call f args H=some (x,H')->Inv B w0 σ H w->Z0Q E σ w->Zx σ w args vs ->
  (∃fn,P.funcs[f]? = some fn/\fn.body.isNone=false/\(fn.name == "runtime.NumGoroutine")=false) /\
  Calls P f vs.toArray w fun e w' =>∃u σ',e = .returned u/\Inv B w0 σ' H' w' /\ Ext σ w σ' w' /\ Zx σ' w' [x] [u]
section
variable {P:Program} {o:Oper} {a:Act} {w:World} {next:Act->World->Prop} {Q:Exit->Act->World->Prop}
theorem Z2t {s:Sem Value} {u:Value} {w' : World} (he:execOp a.eval o=(do let x <- s;pure (Next.value x))) (hr:s.run P w = .ok u w') (hn:next (a.put o.dst u) w'):o.wp P a w next Q:=by
 unfold Oper.wp
 rw [he]
 simp only [Sem.run_bind,hr,Result.andThen_ok,Sem.run_pure]
 exact hn
theorem ZPY {s:Sem Unit} {w' : World} (he:execOp a.eval o=(do s;pure Next.skip)) (hr:s.run P w = .ok () w') (hn:next (a.put o.dst undef) w'):o.wp P a w next Q:=by
 unfold Oper.wp
 rw [he]
 simp only [Sem.run_bind,hr,Result.andThen_ok,Sem.run_pure]
 exact hn
end
theorem ZFD {E:Env} {σ w s} {a:Act} (hg:Z0Q E σ w) (h:Zx σ w s a.tmps.toList) (parts:List (Nat×Operand)) :
  Parts σ w (parts.map fun(i,x)=>(i,ev E s x)) (parts.map fun(i,x)=>(i,a.eval x)):=by
 induction parts with
 | nil=>exact .nil
 | cons p ps ih=>exact .cons (Z0P hg h p.2) ih
theorem ZbA {E:Env} {σ w s} {a:Act} (hg:Z0Q E σ w) (h:Zx σ w s a.tmps.toList) (x:Option Operand):ZaA σ w (x.map (ev E s)) (x.map a.eval):=by
 cases x with
 | none=>exact .none
 | some x=>exact .some (Z0P hg h x)
theorem Zpk {B w0 σ H w} (h:Inv B w0 σ H w) {x x' : V} {v:Value} (hr:Zx σ w [x] [v]) (hf:ZDF H x=some x') (ids:List Nat) (hids:∀i∈ZMD x,i∈ids) :
  Zx (σ.freeze H ids) w [x'] [v]:=by
 unfold ZDF at hf
 split at hf
 ·rename_i vs
  cases hr with
  | tup h1 _=>
   cases hl:Z2b H vs with
   | none=>simp [hl] at hf
   | some vs' =>
    simp only [hl,Option.map_some,Option.some.injEq] at hf
    subst hf
    exact .tup (Zd4 h h1 hl ids hids) .nil
 ·refine Zom h hr hf ids (fun i hi=>hids i ?_)
  cases x<;>simp_all [ZMD]
def Z5T (P:Program) (E:Env) (B:Nat) (w0:Start) (call:Z24) (σ:Sg) (k:Nat) (H:Heap) (w:World) (s:List V) (a:Act) (o:Oper):Prop:=
 ∀x H',opD call E k H s o=some (x,H')->∀(next:Act->World->Prop) (Q:Exit->Act->World->Prop),
  (∀u w' σ',Inv B w0 σ' H' w' -> Ext σ w σ' w' -> Zx σ' w' [x] [u]->next (a.put o.dst u) w')->o.wp P a w next Q
section
variable {E:Env} {B:Nat} {w0:Start} {σ:Sg} {H:Heap} {w:World} {P:Program} {call:Z24} {s:List V} {a:Act} {o:Oper} {k:Nat}
theorem Z2f {y:Option V} {m:Sem Value} (hI:Inv B w0 σ H w) (he:execOp a.eval o=(do let x <- m;pure (Next.value x))) (hd:opD call E k H s o=y.map (·,H))
  (h:∀x,y=some x->∃u,m.run P w = .ok u w/\Zx σ w [x] [u]):Z5T P E B w0 call σ k H w s a o:=by
 intro x H' ho next Q hn
 rw [hd] at ho
 cases y with
 | none=>cases ho
 | some x' =>
  simp only [Option.map_some,Option.some.injEq,Prod.mk.injEq] at ho
  obtain⟨rfl,rfl⟩:=ho
  obtain⟨u,hu,hr⟩:=h x' rfl
  exact Z2t he hu (hn _ w σ hI (Ext.refl σ w) hr)
theorem ZtV {y:V} {u:Value} (hI:Inv B w0 σ H w) (he:execOp a.eval o=pure (Next.value u)) (hd:opD call E k H s o=some (y,H)) (h:Zx σ w [y] [u]):Z5T P E B w0 call σ k H w s a o:=
 Z2f (m:=pure u) (y:=some y) hI (by rw [he];rfl) hd (fun x hx=>⟨u,rfl,by cases hx;exact h⟩)
theorem ZIv (hI:Inv B w0 σ H w) (hg:Z0Q E σ w) (hs:Zx σ w s a.tmps.toList) {y:Operand} (hop:o.op = .move y):Z5T P E B w0 call σ k H w s a o:=
 ZtV hI (u:=a.eval y) (y:=ev E s y) (by unfold execOp;rw [hop]) (by unfold opD;rw [hop]) (Z0P hg hs y)
theorem ZAj (hk0:Z5g H k=true) (hI:Inv B w0 σ H w) (hg:Z0Q E σ w) (hs:Zx σ w s a.tmps.toList) {y:Operand} (hop:o.op = .assign y):Z5T P E B w0 call σ k H w s a o:=by
 by_cases hy:y = .const (.slice none 0 0)
 ·subst hy
  intro x H' ho next Q hn
  unfold opD at ho
  rw [hop] at ho
  simp only at ho
  split at ho
  ·rename_i e sz by' z0 hti
   simp only [Option.some.injEq,Prod.mk.injEq] at ho
   obtain⟨rfl,rfl⟩:=ho
   obtain⟨σ',h1,h2,h3⟩:=Z97 (e:=e) (esz:=(E.size e).getD 0) hI hk0 (grownBy_refl w none) (xs:=[]) (us:=[]) .nil (by simp) (by simp) (by simp [flat]) (ZfL w B e _) (by simp [Value.ownBlock]) false (by simp)
   unfold Oper.wp execOp
   rw [hop]
   exact hn _ w σ' h1 h2 h3
  ·cases ho
 ·refine ZtV hI (u:=a.eval y) (y:=ev E s y) (by unfold execOp;rw [hop]) ?_ (Z0P hg hs y)
  unfold opD
  rw [hop]
  split<;>simp_all
theorem ZFP (hI:Inv B w0 σ H w) (hg:Z0Q E σ w) (hs:Zx σ w s a.tmps.toList) {c y z:Operand} (hop:o.op = .pick c y z):Z5T P E B w0 call σ k H w s a o:=by
 intro x H' ho next Q hn
 unfold opD at ho
 rw [hop] at ho
 simp only at ho
 split at ho
 ·rename_i t hc
  simp only [Option.some.injEq,Prod.mk.injEq] at ho
  obtain⟨rfl,rfl⟩:=ho
  have hcv:=Z0P hg hs c
  rw [hc] at hcv
  have hcb:a.eval c = .bool t:=by generalize a.eval c=cv at hcv;cases hcv;rfl
  unfold Oper.wp execOp
  rw [hop]
  simp only [hcb,asBool,Sem.run_bind,Sem.run_pure,Result.andThen_ok]
  refine hn _ w σ hI (Ext.refl σ w) ?_
  cases t
  ·exact Z0P hg hs z
  ·exact Z0P hg hs y
 ·cases ho
theorem ZD8 (hE:Z12 E) (hP:E.P=P) (hk0:Z5g H k=true) (hI:Inv B w0 σ H w) {t:TypeId} (hop:o.op = .alloc t):Z5T P E B w0 call σ k H w s a o:=by
 intro x H' ho next Q hn
 unfold opD at ho
 rw [hop] at ho
 simp only at ho
 split at ho
 ·rename_i i hti
  split at ho
  ·rename_i z hz
   split at ho
   ·rename_i hc
    simp only [Option.some.injEq,Prod.mk.injEq] at ho
    obtain⟨rfl,rfl⟩:=ho
    obtain⟨inf,zv,hi,hzv,hsz,hbz,hzr⟩:=ZoB hE hP hti hz σ w
    obtain⟨w',σ',hrun,h1,h2,h3⟩:=ZAf (P:=P) hI hk0 t hzr hc.2 hc.1
    refine Z2t (s:=Instr.alloc t true (.tuple #[])) (u:=.pointer (some ⟨w.heap.size,0,none⟩)) (w' :=w') (by unfold execOp;rw [hop]) ?_ (hn _ w' σ' h1 h2 h3)
    simp [Instr.alloc,zeroValue,typeInfo,hi,hzv,hrun]
   ·cases ho
  ·cases ho
 ·cases ho
theorem ZK3 (hk0:Z5g H k=true) (hI:Inv B w0 σ H w) (hg:Z0Q E σ w) (hs:Zx σ w s a.tmps.toList) {t:TypeId} {y:Operand} (hop:o.op = .box t y):Z5T P E B w0 call σ k H w s a o:=by
 intro x H' ho next Q hn
 unfold opD at ho
 rw [hop] at ho
 simp only at ho
 split at ho
 ·rename_i i hti
  split at ho
  ·rename_i hc
   simp only [Option.some.injEq,Prod.mk.injEq] at ho
   obtain⟨rfl,rfl⟩:=ho
   obtain⟨w',σ',hrun,h1,h2,h3⟩:=ZAf (P:=P) hI hk0 t (Z0P hg hs y) hc.2 hc.1
   refine Z2t (s:=Instr.box t (a.eval y)) (u:=.pointer (some ⟨w.heap.size,0,none⟩)) (w' :=w') (by unfold execOp;rw [hop]) ?_ (hn _ w' σ' h1 h2 h3)
   simp [Instr.box,hrun]
  ·cases ho
 ·cases ho
theorem ZDm (hE:Z12 E) (hP:E.P=P) (hI:Inv B w0 σ H w) (hg:Z0Q E σ w) (hs:Zx σ w s a.tmps.toList) {t:TypeId} {parts:Array (Nat×Operand)} (hop:o.op = .build t parts):Z5T P E B w0 call σ k H w s a o:=
 Z2f (m:=Instr.build t (parts.map fun(i,x)=>(i,a.eval x))) hI (by unfold execOp;rw [hop]) (by unfold opD;rw [hop])
  (fun x hx=>ZMZ hE hP (by simpa using ZFD hg hs parts.toList) hx)
theorem ZnK (hE:Z12 E) (hP:E.P=P) (hk0:Z5g H k=true) (hI:Inv B w0 σ H w) (hg:Z0Q E σ w) (hs:Zx σ w s a.tmps.toList) {t:TypeId} {n:Nat} {parts:Array (Nat×Operand)} (hop:o.op = .buildSlice t n parts):Z5T P E B w0 call σ k H w s a o:=by
 intro x H' ho next Q hn
 unfold opD at ho
 rw [hop] at ho
 simp only at ho
 obtain⟨vp,hvp⟩:∃vp:Array (Nat×Value),vp=parts.map (fun(i,x)=>(i,a.eval x)):=⟨_,rfl⟩
 obtain⟨u,w',σ',hu,h1,h2,h3⟩:=Zvs (P:=P) (vparts:=vp) hE hP hI hk0 (by rw [hvp];simpa using ZFD hg hs parts.toList) ho
 exact Z2t (s:=Instr.buildSlice t n vp) (by unfold execOp;rw [hop,hvp]) hu (hn _ w' σ' h1 h2 h3)
theorem ZGb (hE:Z12 E) (hP:E.P=P) (hI:Inv B w0 σ H w) (hg:Z0Q E σ w) (hs:Zx σ w s a.tmps.toList) {t:TypeId} {y:Operand} (hop:o.op = .load t y):Z5T P E B w0 call σ k H w s a o:=
 Z2f (m:=Instr.loadAt t (a.eval y)) hI (by unfold execOp;rw [hop]) (by unfold opD;rw [hop]) (fun x hx=>ZJi hE hP hI (Z0P hg hs y) hx)
theorem ZCI (hE:Z12 E) (hP:E.P=P) (hI:Inv B w0 σ H w) (hg:Z0Q E σ w) (hs:Zx σ w s a.tmps.toList) {t:TypeId} {y z:Operand} (hop:o.op = .store t y z):Z5T P E B w0 call σ k H w s a o:=by
 intro x H' ho next Q hn
 unfold opD at ho
 rw [hop] at ho
 simp only at ho
 cases hb:Zds E H t (ev E s y) (ev E s z) with
 | none=>simp [hb] at ho
 | some H2=>
  simp only [hb,Option.map_some,Option.some.injEq,Prod.mk.injEq] at ho
  obtain⟨rfl,rfl⟩:=ho
  obtain⟨w',σ',hu,h1,h2⟩:=ZML (P:=P) hE hP hI (Z0P hg hs y) (Z0P hg hs z) hb
  exact ZPY (s:=Instr.storeAt t (a.eval y) (a.eval z)) (by unfold execOp;rw [hop]) hu (hn _ w' σ' h1 h2 (.no .nil))
theorem ZrY (hI:Inv B w0 σ H w) (hg:Z0Q E σ w) (hs:Zx σ w s a.tmps.toList) {y:Operand} (hop:o.op = .nilCheck y):Z5T P E B w0 call σ k H w s a o:=by
 intro x H' ho next Q hn
 unfold opD at ho
 rw [hop] at ho
 simp only at ho
 split at ho
 ·rename_i hnil
  simp only [Option.some.injEq,Prod.mk.injEq] at ho
  obtain⟨rfl,rfl⟩:=ho
  have hv:=Z0P hg hs y
  have hrun:execOp a.eval o=pure (Next.value (a.eval y)):=by
   unfold execOp
   rw [hop]
   simp only
   generalize ev E s y=ey at hv hnil
   generalize a.eval y=vy at hv
   cases hv with
   | mpl _ _ _ _ _ _ _=>cases hnil
   | und _ _=>cases hnil
   | no _=>cases hnil
   | @lit v _ _ hl _=>unfold Zpm at hnil;split at hnil<;>simp_all
   | agg _ _ _=>cases hnil
   | tup _ _=>cases hnil
   | Z4u _=>rfl
   | Z6h a _=>rfl
   | Z3e _=>rfl
   | Z3H a _=>rfl
   | sl _ _ _ _ _ _ _ _ _ _ _ _=>rfl
   | slt _ _ _ _ _ _ _ _ _ _=>rfl
   | lsl _ _ _ _ _=>cases hnil
   | ptr g _ _ _ h4 _=>subst h4;rfl
   | ept _ _ _ _ _ _ _ _ _ _ _=>rfl
   | fn _ _ _=>rfl
   | ifc _ _=>rfl
  unfold Oper.wp
  rw [hrun]
  exact hn _ w σ hI (Ext.refl σ w) hv
 ·cases ho
theorem ZEv (hE:Z12 E) (hP:E.P=P) (hI:Inv B w0 σ H w) (hg:Z0Q E σ w) (hs:Zx σ w s a.tmps.toList) {op:BinOp} {t yt:TypeId} {y z:Operand} (hop:o.op = .binOp op t y z yt):Z5T P E B w0 call σ k H w s a o:=
 Z2f (m:=(do eqGuard op t y z (a.eval y) (a.eval z);binOp op t (a.eval y) (a.eval z))) hI (by unfold execOp;rw [hop]) (by unfold opD;rw [hop])
  (fun x hx=>by
   obtain⟨u,hu1,hu2,hr⟩:=ZQP (P:=P) hE hP y z (Z0P hg hs y) (Z0P hg hs z) hx
   exact⟨u,by simp only [Sem.run_bind,hu1,Result.andThen_ok,hu2],hr⟩)
theorem ZIq (hI:Inv B w0 σ H w) (hg:Z0Q E σ w) (hs:Zx σ w s a.tmps.toList) {op:UnOp} {t:TypeId} {y:Operand} (hop:o.op = .unOp op t y):Z5T P E B w0 call σ k H w s a o:=
 Z2f (m:=Op.unary op (a.eval y)) hI (by unfold execOp;rw [hop]) (by unfold opD;rw [hop]) (fun x hx=>un_ok (Z0P hg hs y) hx)
theorem Zwv (hE:Z12 E) (hP:E.P=P) (hk0:Z5g H k=true) (hI:Inv B w0 σ H w) (hg:Z0Q E σ w) (hs:Zx σ w s a.tmps.toList) {src dst:TypeId} {y:Operand} (hop:o.op = .convert src dst y):Z5T P E B w0 call σ k H w s a o:=by
 intro x H' ho next Q hn
 unfold opD at ho
 rw [hop] at ho
 simp only at ho
 split at ho
 ·rename_i hb
  simp only [Bool.and_eq_true] at hb
  obtain⟨u,w',σ',hu,i1,i2,i3⟩:=ZNq (P:=P) hE hP hI hk0 (Z0P hg hs y) hb.1 hb.2 ho
  exact Z2t (s:=convert src dst (a.eval y)) (by unfold execOp;rw [hop]) hu (hn _ w' σ' i1 i2 i3)
 obtain⟨rfl,u,hu,hr⟩:=ZPz (P:=P) hE hP hI (Z0P hg hs y) ho
 exact Z2t (s:=convert src dst (a.eval y)) (by unfold execOp;rw [hop]) hu (hn _ w σ hI (Ext.refl σ w) hr)
theorem Zrd (hE:Z12 E) (hP:E.P=P) (hk0:Z5g H k=true) (hI:Inv B w0 σ H w) (hg:Z0Q E σ w) (hs:Zx σ w s a.tmps.toList) {t:TypeId} {l c:Operand} (hop:o.op = .makeSlice t l c):Z5T P E B w0 call σ k H w s a o:=by
 intro x H' ho next Q hn
 unfold opD at ho
 rw [hop] at ho
 simp only at ho
 split at ho
 ·rename_i e sz by' z0 kl n kc m hti hl hc
  split at ho
  ·rename_i ei hei
   split at ho
   ·rename_i z hz
    split at ho
    ·rename_i hcond
     obtain⟨c1,c2,c3,c4,c5,c6,c7⟩:=hcond
     simp only [Option.some.injEq,Prod.mk.injEq] at ho
     obtain⟨rfl,rfl⟩:=ho
     obtain⟨inf,d,hi,hd,q1,q2,q3,q4⟩:=Z0m (hE.ti _ _ hti)
     have hd' : P.underlying t=some (.slice e):=by rw [hP] at hd;rw [hd,Z3t q1]
     have hlv:=Z0P hg hs l
     have hcv:=Z0P hg hs c
     rw [hl] at hlv
     rw [hc] at hcv
     have e1:a.eval l = .int kl n:=by generalize a.eval l=q at hlv;cases hlv;rfl
     have e2:a.eval c = .int kc m:=by generalize a.eval c=q at hcv;cases hcv;rfl
     obtain⟨u,w',σ',hu,h1,h2,h3⟩:=ZPK (P:=P) (kl:=kl) (kc:=kc) hE hP hI hk0 hd' hei hz c1 c2 c3 c4 c5 c6 c7 _
     exact Z2t (s:=Instr.makeSlice t (a.eval l) (a.eval c)) (by unfold execOp;rw [hop]) (by rw [e1,e2];exact hu) (hn _ w' σ' h1 h2 h3)
    ·cases ho
   ·cases ho
  ·cases ho
 ·cases ho
theorem ZCE (hE:Z12 E) (hP:E.P=P) (hI:Inv B w0 σ H w) (hg:Z0Q E σ w) (hs:Zx σ w s a.tmps.toList) {t:TypeId} {y:Operand} {lo hi mx:Option Operand} (hop:o.op = .slice t y lo hi mx):Z5T P E B w0 call σ k H w s a o:=by
 intro x H' ho next Q hn
 unfold opD at ho
 rw [hop] at ho
 simp only at ho
 split at ho
 ·rename_i n e sz by' z0 hti
  obtain⟨u,σ',hu,h1,h2,h3⟩:=ZJ9 (P:=P) (lo' :=lo.map a.eval) (hi' :=hi.map a.eval) (mx' :=mx.map a.eval) hE hP hI hti (Z0P hg hs y) (ZbA hg hs lo) (ZbA hg hs hi) (ZbA hg hs mx) ho
  exact Z2t (s:=Instr.sliceAt t (a.eval y) (lo.map a.eval) (hi.map a.eval) (mx.map a.eval)) (by unfold execOp;rw [hop]) hu (hn _ w σ' h1 h2 h3)
 obtain⟨u,σ',hu,h1,h2,h3⟩:=ZNy (P:=P) hE hP hI (Z0P hg hs y) (ZbA hg hs lo) (ZbA hg hs hi) (ZbA hg hs mx) ho
 exact Z2t (s:=Instr.sliceAt t (a.eval y) (lo.map a.eval) (hi.map a.eval) (mx.map a.eval)) (by unfold execOp;rw [hop]) hu (hn _ w σ' h1 h2 h3)
theorem ZKc (hE:Z12 E) (hP:E.P=P) (hI:Inv B w0 σ H w) (hg:Z0Q E σ w) (hs:Zx σ w s a.tmps.toList) {t:TypeId} {y:Operand} (hop:o.op = .sliceToArrayPointer t y):Z5T P E B w0 call σ k H w s a o:=
 Z2f (m:=Instr.arrayAt t (a.eval y)) hI (by unfold execOp;rw [hop]) (by unfold opD;rw [hop]) (fun x hx=>ZQe hE hP (Z0P hg hs y) hx)
theorem ZqP (hE:Z12 E) (hP:E.P=P) (hI:Inv B w0 σ H w) (hg:Z0Q E σ w) (hs:Zx σ w s a.tmps.toList) {t:TypeId} {y:Operand} {f:Nat} (hop:o.op = .fieldAddr t y f):Z5T P E B w0 call σ k H w s a o:=
 Z2f (m:=Instr.fieldAt t (a.eval y) f) hI (by unfold execOp;rw [hop]) (by unfold opD;rw [hop]) (fun x hx=>ZzU hE hP (Z0P hg hs y) hx)
theorem ZEB (hE:Z12 E) (hP:E.P=P) (hI:Inv B w0 σ H w) (hg:Z0Q E σ w) (hs:Zx σ w s a.tmps.toList) {t:TypeId} {y:Operand} {f:Nat} (hop:o.op = .field t y f):Z5T P E B w0 call σ k H w s a o:=
 Z2f (m:=Instr.field t (a.eval y) f) hI (by unfold execOp;rw [hop]) (by unfold opD;rw [hop]) (fun x hx=>ZNF hE hP (Z0P hg hs y) hx)
theorem Zqr (hE:Z12 E) (hP:E.P=P) (hI:Inv B w0 σ H w) (hg:Z0Q E σ w) (hs:Zx σ w s a.tmps.toList) {t:TypeId} {y i:Operand} (hop:o.op = .indexAddr t y i):Z5T P E B w0 call σ k H w s a o:=
 Z2f (m:=Instr.indexAt t (a.eval y) (a.eval i)) hI (by unfold execOp;rw [hop]) (by unfold opD;rw [hop]) (fun x hx=>Zzq hE hP hI (Z0P hg hs y) (Z0P hg hs i) hx)
theorem ZBO (hE:Z12 E) (hP:E.P=P) (hI:Inv B w0 σ H w) (hg:Z0Q E σ w) (hs:Zx σ w s a.tmps.toList) {t:TypeId} {y i:Operand} (hop:o.op = .index t y i):Z5T P E B w0 call σ k H w s a o:=
 Z2f (m:=Instr.index t (a.eval y) (a.eval i)) hI (by unfold execOp;rw [hop]) (by unfold opD;rw [hop]) (fun x hx=>ZNQ hE hP (Z0P hg hs y) (Z0P hg hs i) hx)
theorem ZtQ {σ:Sg} {w:World} {kd:IntKind} {n:Int}:∀(l:List MapEntry) (kvs:List V) (i:Nat),Zx σ w kvs (l.flatMap fun e=>[e.key,e.val]) ->
  (ZnT kd n kvs=some none->Instr.findNow (.int kd) (.int kd n) l i=some none)/\(∀v,ZnT kd n kvs=some (some v)->∃j u,Instr.findNow (.int kd) (.int kd n) l i=some (some (j,u))/\Zx σ w [v] [u])
 | [],kvs,i,h=>by
  cases h
  exact⟨fun _=>rfl,fun v hv=>by cases hv⟩
 | e::l,kvs,i,h=>by
  have h' : Zx σ w kvs (e.key::e.val::l.flatMap fun e=>[e.key,e.val]):=h
  cases kvs with
  | nil=>cases h'
  | cons x kvs=>
   obtain⟨h1,h2⟩:=Zx.Z0I.1 h'
   cases kvs with
   | nil=>cases h2
   | cons y kvs=>
    obtain⟨h3,h4⟩:=Zx.Z0I.1 h2
    have ih:=ZtQ (kd:=kd) (n:=n) l kvs (i+1) h4
    generalize hk:e.key=key at h1
    have no:(∀k a,x≠.lit (.int k a))->ZnT kd n (x::y::kvs)=none:=fun hx=>by
     unfold ZnT
     split
     ·rename_i heq;cases heq
     ·rename_i heq;simp only [List.cons.injEq] at heq;exact absurd heq.1 (hx _ _)
     ·rfl
    by_cases hx:∃k a,x = .lit (.int k a)
    ·obtain⟨k,a,rfl⟩:=hx
     cases h1 with
     | lit _ _=>
      unfold ZnT
      by_cases hkd:k=kd
      ·subst hkd
       simp only [if_true]
       unfold Instr.findNow
       rw [hk]
       simp only [Instr.sameNow,if_true]
       by_cases ha:n=a
       ·subst ha
        simp only [if_true,beq_self_eq_true]
        exact⟨fun hh=>by simp at hh,fun v hv=>by simp only [Option.some.injEq] at hv;subst hv;exact⟨i,e.val,rfl,h3⟩⟩
       ·rw [if_neg ha]
        have:(n==a)=false:=by simpa using ha
        simp only [this]
        exact ih
      ·rw [if_neg hkd]
       exact⟨fun hh=>(by cases hh),fun v hh=>(by cases hh)⟩
    ·rw [no (fun k a he=>hx ⟨k,a,he⟩)]
     exact⟨fun hh=>(by cases hh),fun v hh=>(by cases hh)⟩
theorem ZJR (hE:Z12 E) (hP:E.P=P) {t:TypeId} {ok:Bool} {m x r:V} {mv xv:Value} (hm:Zx σ w [m] [mv]) (hx:Zx σ w [x] [xv]) (h:ZIm E t ok m x=some r) :
  ∃v,(Instr.lookup t mv xv ok).run P w = .ok v w/\Zx σ w [r] [v]:=by
 unfold ZIm at h
 split at h
 ·rename_i k e sz by' z0 kvs kd n hti
  obtain⟨inf,d,hi,hd,q1,q2,q3,q4⟩:=Z0m (hE.ti _ _ hti)
  have hd' : P.underlying t=some (.map k e):=by
   rw [hP] at hd
   rw [hd]
   cases d<;>simp [ZHL] at q1
   exact congrArg some (by rw [q1.1,q1.2])
  split at h
  ·rename_i hkd
   have hk:P.underlying k=some (.int kd):=by rw [<- hP];exact hE.kind _ _ hkd
   cases hm with
   | mpl g es c h0 hg hus _=>
    subst hus
    cases hx with
    | lit _ _=>
     obtain⟨f1,f2⟩:=ZtQ (kd:=kd) (n:=n) es.toList kvs 0 h0
     have hck:(Instr.checkKey es.isEmpty 10000 k (.int kd n)).run P w = .ok () w:=MapKept.run_checkKey (k:=.int kd n) hk (by simp [MapKept.IsKey]) es.isEmpty 9999
     have hfk:∀q,Instr.findNow (.int kd) (.int kd n) es.toList 0=some q->(Instr.findKey k (.int kd n) es.toList).run P w = .ok q w:=fun q hq=>by simp [Instr.findKey,run_underlying hk,hq]
     split at h
     ·rename_i v hv
      obtain⟨j,u,h1,h2⟩:=f2 v hv
      simp only [Option.some.injEq] at h
      subst h
      refine⟨if ok then .tuple #[u,.bool true] else u,by simp [Instr.lookup,run_underlying hd',MapKept.run_getObj_map hg,hck,hfk _ h1,Result.andThen],?_⟩
      cases ok with
      | true=>exact .tup (Zx.Z0I.2 ⟨h2,.lit rfl .nil⟩) .nil
      | false=>exact h2
     ·rename_i hv
      have h1:=f1 hv
      split at h
      ·rename_i ei hei
       obtain⟨infe,de,hie,hde,e1,e2,e3,e4⟩:=Z0m (hE.ti _ _ hei)
       cases hz:ei.zero with
       | none=>simp [hz] at h
       | some z=>
        simp only [hz,Option.map_some,Option.some.injEq] at h
        subst h
        rw [hz] at e4
        cases hzz:infe.zero with
        | none=>simp [hzz] at e4
        | some zv=>
         simp only [hzz,Option.map_some,Option.some.injEq] at e4
         have hzr:(zeroValue e).run P w = .ok zv w:=by rw [hP] at hie;simp [zeroValue,typeInfo,hie,hzz]
         have h2:=Z7a σ w zv
         rw [<- e4] at h2
         refine⟨if ok then .tuple #[zv,.bool false] else zv,by simp [Instr.lookup,run_underlying hd',MapKept.run_getObj_map hg,hck,hfk _ h1,hzr,Result.andThen],?_⟩
         cases ok with
         | true=>exact .tup (Zx.Z0I.2 ⟨h2,.lit rfl .nil⟩) .nil
         | false=>exact h2
      ·cases h
     ·cases h
  ·cases h
 ·cases h
theorem ZyB (hE:Z12 E) (hP:E.P=P) (hI:Inv B w0 σ H w) (hg:Z0Q E σ w) (hs:Zx σ w s a.tmps.toList) {t:TypeId} {y i:Operand} {ok:Bool} (hop:o.op = .lookup t y i ok):Z5T P E B w0 call σ k H w s a o:=
 Z2f (m:=Instr.lookup t (a.eval y) (a.eval i) ok) hI (by unfold execOp;rw [hop]) (by unfold opD;rw [hop]) (fun x hx=>ZJR hE hP (Z0P hg hs y) (Z0P hg hs i) hx)
theorem Zug (hI:Inv B w0 σ H w) (hg:Z0Q E σ w) (hs:Zx σ w s a.tmps.toList) {y:Operand} {i:Nat} (hop:o.op = .extract y i):Z5T P E B w0 call σ k H w s a o:=by
 intro x H' ho next Q hn
 unfold opD at ho
 rw [hop] at ho
 simp only at ho
 split at ho
 ·rename_i vs hy
  cases hb:vs[i]? with
  | none=>simp [hb] at ho
  | some r=>
   simp only [hb,Option.map_some,Option.some.injEq,Prod.mk.injEq] at ho
   obtain⟨rfl,rfl⟩:=ho
   have hv:=Z0P hg hs y
   rw [hy] at hv
   have:∃ws,a.eval y = .tuple ws.toArray/\Zx σ w vs ws:=by
    generalize a.eval y=q at hv
    cases hv with
    | tup h1 _=>exact⟨_,rfl,h1⟩
   obtain⟨ws,e1,e2⟩:=this
   obtain⟨u,hu,hr⟩:=e2.get hb
   exact Z2t (s:=Instr.extract (a.eval y) i) (by unfold execOp;rw [hop]) (by rw [e1];simp [Instr.extract,hu]) (hn _ w σ hI (Ext.refl σ w) hr)
 ·cases ho
theorem Zsf (hI:Inv B w0 σ H w) (hg:Z0Q E σ w) (hs:Zx σ w s a.tmps.toList) {f:FuncId} {first caps:Array Operand} (hop:o.op = .makeFunc (.func f) first caps):Z5T P E B w0 call σ k H w s a o:=
 Z2f (m:=Instr.makeFunc (.func f) (first.map a.eval) (caps.map a.eval)) (y:=some (.fn f (evs E s first) (evs E s caps))) hI (by unfold execOp;rw [hop]) (by unfold opD;rw [hop];rfl)
  (fun x hx=>by
   cases hx
   refine⟨.func (.func f) (first.map a.eval) (caps.map a.eval),rfl,?_⟩
   have h1:(first.toList.map a.eval).toArray=first.map a.eval:=by rw [<- Array.toList_map]
   have h2:(caps.toList.map a.eval).toArray=caps.map a.eval:=by rw [<- Array.toList_map]
   rw [<- h1,<- h2]
   exact Zx.fn (f:=f) (Zos (a:=a) hg hs first.toList) (Zos (a:=a) hg hs caps.toList) (xs:=[]) (vs:=[]) .nil)
theorem ZzQ {P:Program} {f:FuncId} {fn:Func} (h:P.funcs[f]? = some fn) (hn:(fn.name == "runtime.NumGoroutine")=false) (hb:fn.body.isNone=false) (args:Array Value) (w:World) :
  (callFunc f args).run P w = .ok (.enter f args) w:=by
 unfold callFunc
 rw [Sem.run_bind]
 have hp:(Go.program).run P w = .ok P w:=rfl
 rw [hp]
 simp only [Result.andThen_ok,h,hn,hb,Bool.false_eq_true,if_false]
 rfl
theorem Zq8 (hcall:Z9R P E B w0 call) (hI:Inv B w0 σ H w) (hg:Z0Q E σ w) (hs:Zx σ w s a.tmps.toList) {c:Call} {f:Operand} (hop:o.op = .call c) (hc:c.callee = .value f):Z5T P E B w0 call σ k H w s a o:=by
 intro x H' ho next Q hn
 unfold opD at ho
 rw [hop] at ho
 simp only [hc] at ho
 split at ho
 ·rename_i g first caps hf
  have hv:=Z0P hg hs f
  rw [hf] at hv
  have:∃us ws,a.eval f = .func (.func g) us.toArray ws.toArray/\Zx σ w first us/\Zx σ w caps ws:=by
   generalize a.eval f=q at hv
   cases hv with
   | fn h1 h2 _=>exact⟨_,_,rfl,h1,h2⟩
  obtain⟨us,ws,e1,r1,r2⟩:=this
  have r3:=Zos (a:=a) hg hs c.args.toList
  obtain⟨⟨fn,hfn,hbody,hname⟩,hcalls⟩:=hcall g _ H x H' σ w _ ho hI hg ((r1.append r3).append r2)
  have hrun:(execOp a.eval o).run P w = .ok (.enter g (us++c.args.toList.map a.eval++ws).toArray) w:=by
   have hca:us.toArray++c.args.map a.eval++ws.toArray=(us++c.args.toList.map a.eval++ws).toArray:=by
    rw [<- Array.toList_map];simp
   have he:execOp a.eval o=callFunc g (us.toArray++c.args.map a.eval++ws.toArray):=by
    unfold execOp
    rw [hop]
    simp [resolve,hc,e1,Deferred.ofValue,invoke]
   rw [he,hca]
   exact ZzQ hfn hname hbody _ w
  unfold Oper.wp
  rw [hrun,Oper.upon_enter]
  refine hcalls.mono ?_
  rintro e w' ⟨u,σ',rfl,h1,h2,h3⟩
  exact hn _ w' σ' h1 h2 h3
 ·cases ho
theorem ZJE (h:Inv B w0 σ H w) {x:V} {v:Value} {n:Nat} (hr:Zx σ w [x] [v]) (hl:lenOf H x=some n):n<=maxLen:=by
 unfold lenOf at hl
 split at hl
 ·simp only [Option.some.injEq] at hl
  subst hl
  cases hr with
  | Z4u _=>exact Nat.zero_le _
  | Z6h a _=>exact Nat.zero_le _
  | sl b o c e k0 k1 k2 k3 k4 k5 k6 k7=>exact Nat.le_trans k4 k5
 ·simp only [Option.some.injEq] at hl
  subst hl
  cases hr with
  | Z3e _=>exact Nat.zero_le _
  | Z3H a _=>exact Nat.zero_le _
  | slt b o e k0 k1 k2 k3 k4 k5 k6=>exact k4
 ·rename_i id off len tot
  split at hl
  ·rename_i b hb
   simp only [Option.some.injEq] at hl
   subst hl
   obtain⟨L,us,m,hxl,hol,hs,hview⟩:=Z6L h hr hb
   rcases hview with ⟨hv,hvv,ho,hl,ht⟩|⟨g,cap,k,hv,hvv,hle,hmx,hk1,hk2⟩
   ·omega
   ·omega
  ·cases hl
 ·rename_i s
  simp only [Option.some.injEq] at hl
  subst hl
  cases hr with
  | lit hlf _=>simpa [leaf] using hlf
 ·cases hl
theorem ZFC (isMax:Bool) {b:Builtin} (hI:Inv B w0 σ H w) {c:Call} (hop:o.op = .call c) (hc:c.callee = .builtin b) {xs:List V} {vs:List Value} (hr:Zx σ w xs vs) (hargs:c.args.map a.eval=vs.toArray)
  (hb:b=if isMax then .max else .min) {x:V} {H' : Heap} (hm:(Zjk isMax xs).map (·,H)=some (x,H')) {next:Act->World->Prop} {Q:Exit->Act->World->Prop}
  (hn:∀u w' σ',Inv B w0 σ' H' w' -> Ext σ w σ' w' -> Zx σ' w' [x] [u]->next (a.put o.dst u) w'):o.wp P a w next Q:=by
 cases hm' : Zjk isMax xs with
 | none=>simp [hm'] at hm
 | some y=>
  simp only [hm',Option.map_some,Option.some.injEq,Prod.mk.injEq] at hm
  obtain⟨rfl,rfl⟩:=hm
  unfold Zjk at hm'
  split at hm'
  ·rename_i k n rest
   obtain⟨v,vs',rfl,h1,h2⟩:=hr.ZX
   have hlf:leaf (.int k n)=true/\v = .int k n:=by cases h1 with|lit l _=>exact⟨l,rfl⟩
   obtain⟨hlf,rfl⟩:=hlf
   obtain⟨u,hu,hru⟩:=ZPI (P:=P) isMax h2 hlf hm'
   cases isMax
   ·simp only [Bool.false_eq_true,if_false] at hb hu
    subst hb
    exact Z2t (s:=Builtin.min_ c.argTypes o.type (Value.int k n::vs').toArray) (by unfold execOp;rw [hop];simp only [resolve,hc,hargs];rfl) (by simpa [Builtin.min_] using hu) (hn _ w σ hI (Ext.refl σ w) hru)
   ·simp only [if_true] at hb hu
    subst hb
    exact Z2t (s:=Builtin.max_ c.argTypes o.type (Value.int k n::vs').toArray) (by unfold execOp;rw [hop];simp only [resolve,hc,hargs];rfl) (by simpa [Builtin.max_] using hu) (hn _ w σ hI (Ext.refl σ w) hru)
  ·cases hm'
theorem Zlz (hE:Z12 E) (hP:E.P=P) (hk0:Z5g H k=true) (hI:Inv B w0 σ H w) (hg:Z0Q E σ w) (hs:Zx σ w s a.tmps.toList) {c:Call} {b:Builtin} (hop:o.op = .call c) (hc:c.callee = .builtin b):Z5T P E B w0 call σ k H w s a o:=by
 intro x H' ho next Q hn
 unfold opD at ho
 rw [hop] at ho
 simp only [hc] at ho
 have hr:=Zos (a:=a) hg hs c.args.toList
 have hargs:c.args.map a.eval=(c.args.toList.map a.eval).toArray:=by rw [<- Array.toList_map]
 unfold evs at ho
 generalize c.args.toList.map (ev E s)=xs at ho hr
 generalize hvs:c.args.toList.map a.eval=vs at hr hargs
 generalize htys:c.argTypes.toList=tys at ho
 have htys' : c.argTypes=tys.toArray:=by rw [<- htys]
 unfold Z84 at ho
 split at ho
 ·rename_i x0 t
  obtain⟨v,vs',rfl,h1,h2⟩:=hr.ZX
  cases h2.Z0Y
  split at ho
  ·rename_i hfit
   cases hl:lenOf H x0 with
   | none=>simp [hl] at ho
   | some n=>
    simp only [hl] at ho
    cases ho
    have hlen:(Builtin.len_ #[t] o.type #[v]).run P w = .ok (.int .i64 n) w:=by
     unfold ZvA at hfit
     split at hfit
     ·rename_i st
      have:=hE.isStr _ hfit
      rw [hP] at this
      exact ZOv hI h1 hl this (.inr rfl) ⟨fun⟨e,he⟩=>(by cases he),fun hh=>absurd rfl (hh st)⟩
     ·rename_i hne
      split at hfit
      ·rename_i e sz by' z0 hti
       obtain⟨inf,d,hi,hd,q1,q2,q3,q4⟩:=Z0m (hE.ti _ _ hti)
       rw [hP] at hd
       exact ZOv hI h1 hl hd (.inl ⟨e,Z3t q1⟩) ⟨fun _=>hne,fun _=>⟨e,Z3t q1⟩⟩
      ·cases hfit
    have hbd:=hlen
    have hlf:leaf (.int .i64 (n:Int))=true:=by
     have:=ZJE hI h1 hl
     have:(Lit.int .i64 (n:Int)).wf=true:=by
      simp [Lit.wf,IntKind.min,IntKind.max,IntKind.signed,IntKind.bits,maxLen] at this ⊢
      omega
     simpa [leaf] using this
    exact Z2t (s:=Builtin.len_ #[t] o.type #[v]) (by unfold execOp;rw [hop];simp only [resolve,hc,hargs,htys'];rfl) hlen (hn _ w σ hI (Ext.refl σ w) (.lit hlf .nil))
  ·cases ho
 ·rename_i s0 x0 t u
  obtain⟨v,vs',rfl,h1,h2⟩:=hr.ZX
  obtain⟨v2,vs2,rfl,h3,h4⟩:=h2.ZX
  cases h4.Z0Y
  obtain⟨u',w',σ',hu,i1,i2,i3⟩:=ZMl (P:=P) hE hP hI hk0 o.type h1 h3 ho
  exact Z2t (s:=Builtin.append_ #[t,u] o.type #[v,v2]) (by unfold execOp;rw [hop];simp only [resolve,hc,hargs,htys'];rfl) hu (hn _ w' σ' i1 i2 i3)
 ·rename_i d0 x0 t u
  obtain⟨v,vs',rfl,h1,h2⟩:=hr.ZX
  obtain⟨v2,vs2,rfl,h3,h4⟩:=h2.ZX
  cases h4.Z0Y
  obtain⟨u',w',σ',hu,i1,i2,i3⟩:=ZPU (P:=P) hE hP hI o.type h1 h3 ho
  exact Z2t (s:=Builtin.copy_ #[t,u] o.type #[v,v2]) (by unfold execOp;rw [hop];simp only [resolve,hc,hargs,htys'];rfl) hu (hn _ w' σ' i1 i2 i3)
 ·rename_i tys0
  exact ZFC false hI hop hc hr hargs rfl (by simpa using ho) hn
 ·exact ZFC true hI hop hc hr hargs rfl (by simpa using ho) hn
 ·cases ho
end
theorem ZN3 {E B w0 σ H w} {P:Program} (hE:Z12 E) (hP:E.P=P) {call:Z24} (hcall:Z9R P E B w0 call) (hI:Inv B w0 σ H w) (hg:Z0Q E σ w) {k:Nat} (hk0:Z5g H k=true) {s:List V} {a:Act} (hs:Zx σ w s a.tmps.toList)
  (o:Oper):Z5T P E B w0 call σ k H w s a o:=by
 cases hop:o.op with
 | move y=>exact ZIv hI hg hs hop
 | assign y=>exact ZAj hk0 hI hg hs hop
 | pick c y z=>exact ZFP hI hg hs hop
 | alloc t=>exact ZD8 hE hP hk0 hI hop
 | box t y=>exact ZK3 hk0 hI hg hs hop
 | build t parts=>exact ZDm hE hP hI hg hs hop
 | buildSlice t n parts=>exact ZnK hE hP hk0 hI hg hs hop
 | load t y=>exact ZGb hE hP hI hg hs hop
 | store t y z=>exact ZCI hE hP hI hg hs hop
 | nilCheck y=>exact ZrY hI hg hs hop
 | binOp op t y z yt=>exact ZEv hE hP hI hg hs hop
 | unOp op t y=>exact ZIq hI hg hs hop
 | convert src dst y=>exact Zwv hE hP hk0 hI hg hs hop
 | makeSlice t l c=>exact Zrd hE hP hk0 hI hg hs hop
 | slice t y lo hi mx=>exact ZCE hE hP hI hg hs hop
 | sliceToArrayPointer t y=>exact ZKc hE hP hI hg hs hop
 | fieldAddr t y f=>exact ZqP hE hP hI hg hs hop
 | field t y f=>exact ZEB hE hP hI hg hs hop
 | indexAddr t y i=>exact Zqr hE hP hI hg hs hop
 | index t y i=>exact ZBO hE hP hI hg hs hop
 | extract y i=>exact Zug hI hg hs hop
 | lookup t y i ok=>exact ZyB hE hP hI hg hs hop
 | makeFunc fn first caps=>
  cases fn with
  | func f=>exact Zsf hI hg hs hop
  | _=>intro x H' ho;unfold opD at ho;rw [hop] at ho;cases ho
 | call c=>
  cases hc:c.callee with
  | value f=>exact Zq8 hcall hI hg hs hop hc
  | builtin b=>exact Zlz hE hP hk0 hI hg hs hop hc
  | _=>intro x H' ho;unfold opD at ho;rw [hop] at ho;simp only [hc] at ho;cases ho
 | _=>intro x H' ho;unfold opD at ho;rw [hop] at ho;cases ho
structure Rel (E:Env) (B:Nat) (w0:Start) (σ:Sg) (st:St) (a:Act) (w:World):Prop where
 inv:Inv B w0 σ st.H w
 ZdT:Z0Q E σ w
 slots:Zx σ w st.s a.tmps.toList
 calm:a.defers=[]
theorem ZjK {σ w s x u} {a:Act} (h:Zx σ w s a.tmps.toList) (hx:Zx σ w [x] [u]) (d:Option Tmp):Zx σ w (setSlot s d x) (a.put d u).tmps.toList:=by
 cases d with
 | none=>exact h
 | some d=>
  simp only [setSlot,Act.put,Array.toList_setIfInBounds]
  exact h.set d hx
theorem Zou {a:Act} (h:a.defers=[]) (d:Option Tmp) (u:Value):(a.put d u).defers=[]:=by
 cases d<;>exact h
theorem ZNm {σ w s} {a:Act} {ops:Array Oper} (h:Zx σ w s a.tmps.toList) {j d:Nat} {want r:Bool} (hd:(ops[j]?).bind (·.dst)=some d) (hg:Zgv (s.getD d .und) want=some r) :
  (yielded ops a.tmps j==some want)=r:=by
 unfold yielded
 rw [hd]
 have hcase:∀x,s.getD d .und=x->x≠.und->∃v,a.tmps[d]? = some v/\Zx σ w [x] [v]:=by
  intro x hx hne
  cases hs:s[d]? with
  | none=>simp [List.getD,hs] at hx;exact absurd hx.symm hne
  | some y=>
   simp [List.getD,hs] at hx
   subst hx
   obtain⟨v,hv,hr⟩:=h.get hs
   exact⟨v,by simpa using hv,hr⟩
 unfold Zgv at hg
 split at hg
 ·rename_i b hb
  obtain⟨v,hv,hr⟩:=hcase _ hb (by simp)
  simp only [Option.some.injEq] at hg
  have:v = .bool b:=by cases hr;rfl
  subst this
  simp only [Option.bind_some,hv]
  rw [<- hg]
  cases b<;>cases want<;>rfl
 ·rename_i hb
  obtain⟨v,hv,hr⟩:=hcase _ hb (by simp)
  simp only [Option.some.injEq] at hg
  have:v=undef:=by cases hr;rfl
  subst this
  simp only [Option.bind_some,hv]
  rw [<- hg]
  rfl
 ·cases hg
section
variable {E:Env} {B:Nat} {w0:Start} {σ:Sg} {P:Program} {call:Z24} {ops:Array Oper} {st st' : St} {a:Act} {w:World}
theorem ZzT (hE:Z12 E) (hP:E.P=P) (hcall:Z9R P E B w0 call) {k i:Nat} (hk:Z5g st.H k=true) (h:Rel E B w0 σ st a w) (hs:Zam call E ops k i st=some st')
  {K:Act->World->Prop} {Q:Exit->Act->World->Prop} (hn:∀a' w' σ',Rel E B w0 σ' st' a' w' -> Ext σ w σ' w' -> K a' w'):wpOp P ops Q i K a w:=by
 unfold Zam at hs
 unfold wpOp
 cases ho:ops[i]? with
 | none=>
  simp only [ho,Option.some.injEq] at hs ⊢
  subst hs
  exact hn a w σ h (Ext.refl σ w)
 | some o=>
  simp only [ho] at hs ⊢
  have hop:∀x H',opD call E k st.H st.s o=some (x,H')->st' = ⟨setSlot st.s o.dst x,H'⟩->o.wp P a w K Q:=by
   intro x H' hx hst
   refine ZN3 hE hP hcall h.inv h.ZdT hk h.slots o x H' hx K Q (fun u w' σ' h1 h2 h3=>hn _ w' σ' ⟨?_,h.ZdT.ext h2,?_,Zou h.calm _ _⟩ h2)
   ·rw [hst];exact h1
   ·rw [hst];exact ZjK (h.slots.ext h2) h3 o.dst
  have hskip:st' = ⟨setSlot st.s o.dst Z17,st.H⟩->K (a.put o.dst undef) w:=by
   intro hst
   refine hn _ w σ ⟨by rw [hst];exact h.inv,h.ZdT,?_,Zou h.calm _ _⟩ (Ext.refl σ w)
   rw [hst]
   exact ZjK h.slots (.no .nil) o.dst
  cases hact:ZmD call E ops k o st with
  | none=>simp [hact] at hs
  | some r=>
   obtain⟨v,H'⟩:=r
   simp only [hact,Option.some.injEq] at hs
   unfold ZmD at hact
   unfold Region.wanted
   cases hgd:o.guard with
   | none=>
    simp only [hgd] at hact ⊢
    exact .inl (hop v H' hact hs.symm)
   | some jw=>
    obtain⟨j,want⟩:=jw
    simp only [hgd] at hact ⊢
    cases hd:(ops[j]?).bind (·.dst) with
    | none=>simp [hd] at hact
    | some d=>
     simp only [hd] at hact
     cases hg:Zgv (st.s.getD d .und) want with
     | none=>rw [hg] at hact;cases hact
     | some r=>
      rw [hg] at hact
      simp only [ZNm h.slots hd hg]
      cases r with
      | false=>
       simp only [Option.some.injEq,Prod.mk.injEq] at hact
       obtain⟨rfl,rfl⟩:=hact
       simp only [Bool.false_eq_true,if_false]
       exact hskip hs.symm
      | true=>
       simp only at hact
       simp only [if_true]
       exact .inl (hop v H' hact hs.symm)
theorem ZJu (hE:Z12 E) (hP:E.P=P) (hcall:Z9R P E B w0 call):∀(is:List Nat) (st:St) (σ:Sg) (a:Act) (w:World),Rel E B w0 σ st a w->ZIY call E ops is st=some st' ->
  ∀{Q:Exit->Act->World->Prop},(∀a' w' σ',Rel E B w0 σ' st' a' w' -> Ext σ w σ' w' -> Q .normal a' w')->wpOps P ops Q is a w:=by
 intro is
 induction is with
 | nil=>
  intro st σ a w h hs Q hn
  simp only [ZIY,Option.some.injEq] at hs
  subst hs
  exact hn a w σ h (Ext.refl σ w)
 | cons i rest ih=>
  intro st σ a w h hs Q hn
  simp only [ZIY] at hs
  cases h1:stepD call E ops i st with
  | none=>simp [h1] at hs
  | some st1=>
   simp only [h1] at hs
   rw [wpOps_cons]
   exact ZzT hE hP hcall (Ze3 st.H) h h1 (fun a1 w1 σ1 hr1 he1=>ih st1 σ1 a1 w1 hr1 hs (fun a' w' σ' hr he=>hn a' w' σ' hr (he1.trans he)))
end
theorem getD_set_ne' {s:List V} {d t:Nat} (h:d≠t) (v u:V):(s.set d v).getD t u=s.getD t u:=by
 simp [List.getD,List.getElem?_set_ne h]
theorem ZMs {E:Env} {s:List V} {d:Option Tmp} {v:V} (x:Operand) (h:∀d',d=some d' -> x≠.tmp d'):ev E (setSlot s d v) x=ev E s x:=by
 cases d with
 | none=>rfl
 | some d=>
  cases x with
  | tmp t=>exact getD_set_ne' (fun e=>h d rfl (by rw [e])) v .und
  | _=>rfl
theorem Zeo {E:Env} {s s' : List V} (xs:List Operand) (h:∀x∈xs,ev E s x=ev E s' x):xs.map (ev E s)=xs.map (ev E s'):=List.map_congr_left h
theorem Zq7 {E:Env} {s s' : List V} (ps:Array (Nat×Operand)) (h:∀x∈(ps.toList.map (·.2)).toArray,ev E s x=ev E s' x) :
  (ps.toList.map fun(i,x)=>(i,ev E s x))=(ps.toList.map fun(i,x)=>(i,ev E s' x)):=List.map_congr_left fun p hp=>by
 obtain⟨i,x⟩:=p
 simp only [h x (by simpa using ⟨i,by simpa using hp⟩)]
theorem ZM9 {call:Z24} {E:Env} {k:Nat} {H:Heap} {s s' : List V} {o:Oper} (h:∀x∈o.op.operands,ev E s x=ev E s' x):opD call E k H s o=opD call E k H s' o:=by
 obtain⟨dst,op,type,pos,after,guard⟩:=o
 simp only at h
 cases op<;>simp only [Op.operands] at h<;>simp only [opD]
 case assign x=>
  have hx:ev E s x=ev E s' x:=h x (by simp)
  split<;>simp_all
 case build t ps=>rw [Zq7 ps h]
 case buildSlice t n ps=>rw [Zq7 ps h]
 case makeFunc fn first captured=>
  have h1:evs E s first=evs E s' first:=Zeo _ fun x hx=>h x (by simp at hx;simp [hx])
  have h2:evs E s captured=evs E s' captured:=Zeo _ fun x hx=>h x (by simp at hx;simp [hx])
  cases fn<;>simp only [h1,h2]
 case call c=>
  have h1:evs E s c.args=evs E s' c.args:=Zeo _ fun x hx=>h x (by simp at hx;simp [Call.operands,hx])
  rw [h1]
  cases hc:c.callee with
  | value f=>have hf:ev E s f=ev E s' f:=h f (by simp [Call.operands,hc]);simp only [hf]
  | builtin b=>cases b<;>rfl
  | invoke r n=>rfl
 case slice t x lo hi mx=>
  have hx:ev E s x=ev E s' x:=h x (by simp)
  have hlo:lo.map (ev E s)=lo.map (ev E s'):=by cases lo<;>simp_all
  have hhi:hi.map (ev E s)=hi.map (ev E s'):=by cases hi<;>simp_all
  have hmx:mx.map (ev E s)=mx.map (ev E s'):=by cases mx<;>simp_all
  rw [hx,hlo,hhi,hmx]
 all_goals (first|rfl|(simp_all;done))
theorem ZuX {ops:Array Oper} {o:Oper} {d:Tmp} (h:d∉o.looksAt ops):∀x∈o.op.operands,x≠.tmp d:=fun x hx e=>h (by
 subst e
 exact List.mem_append_left _ (List.mem_filterMap.2 ⟨.tmp d,by simpa using hx,rfl⟩))
theorem ZKy {call:Z24} {E:Env} {k:Nat} {H:Heap} {s:List V} {o:Oper} {ops:Array Oper} {d:Option Tmp} {v:V} (h:∀d',d=some d' -> d' ∉o.looksAt ops) :
  opD call E k H (setSlot s d v) o=opD call E k H s o:=
 ZM9 fun x hx=>ZMs x fun d' hd=>ZuX (h d' hd) x hx
theorem Zqu {E:Env} {s:List V} {o:Oper} {ops:Array Oper} {d:Option Tmp} {v:V} (h:∀d',d=some d' -> d' ∉o.looksAt ops):Z2N E (setSlot s d v) o=Z2N E s o:=by
 unfold Z2N
 rw [<- List.flatMap_map,<- List.flatMap_map (f:=ev E s)]
 congr 1
 exact List.map_congr_left fun x hx=>ZMs x fun d' hd=>ZuX (h d' hd) x (by simpa using hx)
theorem ZFj {call:Z24} {E:Env} {k:Nat} {H:Heap} {s:List V} {o:Oper} {ops:Array Oper} {d:Option Tmp} {v:V} (h:∀d',d=some d' -> d' ∉o.looksAt ops) :
  ZmD call E ops k o ⟨setSlot s d v,H⟩=ZmD call E ops k o ⟨s,H⟩:=by
 unfold ZmD
 cases hg:o.guard with
 | none=>exact ZKy h
 | some jw=>
  obtain⟨j,want⟩:=jw
  simp only
  cases hd:(ops[j]?).bind (·.dst) with
  | none=>rfl
  | some g=>
   have hne:∀d',d=some d' -> d' ≠g:=fun d' hd' e=>h d' hd' (by
    subst e
    exact List.mem_append_right _ (by simp [hg,hd]))
   have:(setSlot s d v).getD g .und=s.getD g .und:=by
    cases d with
    | none=>rfl
    | some d=>exact getD_set_ne' (hne d rfl) v .und
   simp only [this]
   rw [ZKy h]
def Box.low (b:Box):Box:={ b with floor:=0 }
def Z1x (R:List Nat) (H H' : Heap):Prop:=∀id∈R,(H[id]?).map Box.low=(H'[id]?).map Box.low
theorem Z5I {H H' : Heap} {id tot:Nat} {b:Box} (h:(H[id]?).map Box.low=(H'[id]?).map Box.low) (hb:Z1H H id tot=some b):∃b',Z1H H' id tot=some b' /\ b'.low=b.low:=by
 unfold Z1H at *
 cases h1:H[id]? with
 | none=>simp [h1] at hb
 | some b0=>
  simp only [h1] at hb h
  cases h2:H'[id]? with
  | none=>simp [h2] at h
  | some b1=>
   simp only [h2,Option.map_some,Option.some.injEq] at h
   split at hb
   ·rename_i hc
    simp only [Option.some.injEq] at hb
    subst hb
    refine⟨b1,?_,h.symm⟩
    have e1:b1.live=b0.live:=(congrArg Box.live h).symm
    have e2:b1.xs=b0.xs:=(congrArg Box.xs h).symm
    simp only [e1,e2,hc,if_true]
   ·cases hb
theorem Zha {b b' : Box} (h:b'.low=b.low):b'.row=b.row/\b'.ZdP=b.ZdP/\b'.elem=b.elem/\b'.esz=b.esz/\b'.xs=b.xs:=
 ⟨congrArg (·.row) h,congrArg (·.ZdP) h,congrArg (·.elem) h,congrArg (·.esz) h,congrArg (·.xs) h⟩
theorem Z6t {H H' : Heap} {id tot:Nat} (h:(H[id]?).map Box.low=(H'[id]?).map Box.low) (hb:Z1H H id tot=none):Z1H H' id tot=none:=by
 cases hb' : Z1H H' id tot with
 | none=>rfl
 | some b=>
  obtain⟨b',h1,_⟩:=Z5I h.symm hb'
  rw [hb] at h1
  cases h1
section
variable {H H' : Heap}
theorem Zvc {x:V} (h:Z1x (ZdA x) H H'):ZtK H' x=ZtK H x:=by
 unfold ZtK
 split<;>try rfl
 rename_i id off len tot
 cases hb:Z1H H id tot with
 | none=>rw [Z6t (h id (by simp [ZdA])) hb]
 | some b=>
  obtain⟨b',h1,h2⟩:=Z5I (h id (by simp [ZdA])) hb
  obtain⟨e1,e2,e3,e4,e5⟩:=Zha h2
  simp only [h1,e1,e4,e5]
theorem ZNI {xs:List V} (h:Z1x (xs.flatMap ZdA) H H'):ZB7 H' xs=ZB7 H xs:=by
 induction xs with
 | nil=>rfl
 | cons x xs ih=>
  simp only [ZB7]
  rw [Zvc (fun i hi=>h i (by simp [hi])),ih (fun i hi=>h i (by rw [List.flatMap_cons];exact List.mem_append_right _ hi))]
theorem ZKD {x:V} (h:Z1x (Z1e x) H H'):frz H' x=frz H x:=by
 unfold frz
 split
 ·rw [ZNI (by simpa [Z1e] using h)]
 ·rename_i hne
  refine Zvc (fun i hi=>h i ?_)
  cases x<;>simp_all [Z1e]
theorem Zlh {xs:List V} (h:Z1x (xs.flatMap Z1e) H H'):Z2b H' xs=Z2b H xs:=by
 induction xs with
 | nil=>rfl
 | cons x xs ih=>
  simp only [Z2b]
  rw [ZKD (fun i hi=>h i (by simp [hi])),ih (fun i hi=>h i (by rw [List.flatMap_cons];exact List.mem_append_right _ hi))]
theorem ZoL {x:V} (h:Z1x (Z1e x) H H'):lenOf H' x=lenOf H x:=by
 unfold lenOf
 split<;>try rfl
 rename_i id off len tot
 cases hb:Z1H H id tot with
 | none=>rw [Z6t (h id (by simp [Z1e,ZdA])) hb]
 | some b=>
  obtain⟨b',h1,h2⟩:=Z5I (h id (by simp [Z1e,ZdA])) hb
  simp only [h1]
theorem Zd3 {x:V} (h:Z1x (Z1e x) H H'):elemsOf H' x=elemsOf H x:=by
 unfold elemsOf
 split<;>try rfl
 rename_i id off len tot
 cases hb:Z1H H id tot with
 | none=>rw [Z6t (h id (by simp [Z1e,ZdA])) hb]
 | some b=>
  obtain⟨b',h1,h2⟩:=Z5I (h id (by simp [Z1e,ZdA])) hb
  obtain⟨e1,e2,e3,e4,e5⟩:=Zha h2
  simp only [h1,e1,e5]
theorem ZkH {x:V} {n:Nat} (h:Z1x (Z1e x) H H'):Z3K H' x n=Z3K H x n:=by
 unfold Z3K
 split<;>try rfl
 rename_i id off len tot
 cases hb:Z1H H id tot with
 | none=>rw [Z6t (h id (by simp [Z1e,ZdA])) hb]
 | some b=>
  obtain⟨b',h1,h2⟩:=Z5I (h id (by simp [Z1e,ZdA])) hb
  obtain⟨e1,e2,e3,e4,e5⟩:=Zha h2
  simp only [h1,e4]
theorem ZKs {E:Env} {t:TypeId} {a:V} (h:Z1x (Z1e a) H H'):ZnW E H' t a=ZnW E H t a:=by
 unfold ZnW
 split
 ·rfl
 ·split<;>try rfl
  rename_i id j off tot
  cases hb:Z1H H id tot with
  | none=>rw [Z6t (h id (by simp [Z1e,ZdA])) hb]
  | some b=>
   obtain⟨b',h1,h2⟩:=Z5I (h id (by simp [Z1e,ZdA])) hb
   obtain⟨e1,e2,e3,e4,e5⟩:=Zha h2
   simp only [h1,e5]
theorem ZsP {E:Env} {t:TypeId} {x i:V} (h:Z1x (Z1e x) H H'):Z47 E H' t x i=Z47 E H t x i:=by
 unfold Z47
 split<;>try rfl
 split<;>try rfl
 rename_i id off len tot hty
 cases hb:Z1H H id tot with
 | none=>rw [Z6t (h id (by simp [Z1e,ZdA])) hb]
 | some b=>
  obtain⟨b',h1,h2⟩:=Z5I (h id (by simp [Z1e,ZdA])) hb
  obtain⟨e1,e2,e3,e4,e5⟩:=Zha h2
  simp only [h1,e4]
theorem ZiQ {E:Env} {t:TypeId} {x:V} (h:Z1x (Z1e x) H H'):Z5K E H' t x=Z5K E H t x:=by
 unfold Z5K
 split<;>try rfl
 split<;>try rfl
 split<;>try rfl
 rw [ZkH h]
end
def eff (ids:List Nat) (nb:Option Box) (k:Nat) (H:Heap):Heap:=
 match nb with
 | none=>bump H ids
 | some b=>place (bump H ids) k b
def ZEX (E:Env) (call:Z24):Prop:=
 ∀f,((E.pure f||(E.env f).isSome)&&(E.own f).isNone)=true->∀args H v H1,call f args H=some (v,H1) ->
  H1=bump H (args.flatMap Z9g)/\∀H',Z1x (args.flatMap Z1e) H H' -> call f args H' = some (v,bump H' (args.flatMap Z9g))
def ZFc (E:Env) (call:Z24):Prop:=
 ∀f,Zu5 E f=true->∀args H v H1,call f args H=some (v,H1) ->
  ∃ids nbs,(∀i∈ids,i∈args.flatMap Z1e)/\H1=bump H ids++nbs/\∀H',H'.length=H.length->Z1x (args.flatMap Z1e) H H' -> call f args H' = some (v,bump H' ids++nbs)
structure ZaO (E:Env) (call:Z24):Prop where
 pure:ZEX E call
 free:ZFc E call
theorem ZFa {x:V} {i:Nat} (h:i∈ZgA x):i∈ZdA x:=by
 cases x<;>simp_all [ZgA,ZdA]
theorem ZJf {x:V} {i:Nat} (h:i∈Z9g x):i∈Z1e x:=by
 cases x with
 | agg cs=>
  simp only [Z9g,Z1e,List.mem_flatMap] at *
  obtain⟨c,hc,hi⟩:=h
  exact⟨c,hc,ZFa hi⟩
 | _=>simp_all [Z9g,Z1e,ZgA,ZdA]
theorem Zt1 {xs:List V} {i:Nat} (h:i∈xs.flatMap Z9g):i∈xs.flatMap Z1e:=by
 simp only [List.mem_flatMap] at *
 obtain⟨c,hc,hi⟩:=h
 exact⟨c,hc,ZJf hi⟩
theorem ZLq {y:Option V} {H H1:Heap} {v:V} (h:y.map (·,H)=some (v,H1)):y=some v/\H1=H:=by
 cases y with
 | none=>cases h
 | some x=>simp at h;exact⟨by rw [h.1],h.2.symm⟩
def Eff (call:Z24) (E:Env) (k:Nat) (H:Heap) (s:List V) (o:Oper) (v:V) (H1:Heap):Prop:=
 ∃ids nb,(∀i∈ids,i∈Z2N E s o)/\(nb.isSome=true->Z0t E o = .a)/\H1=eff ids nb k H /\
  ∀H' k',(Z0t E o = .a->k' = k)->Z1x (Z2N E s o) H H' -> opD call E k' H' s o=some (v,eff ids nb k' H')
theorem Zot {call:Z24} {E:Env} {k:Nat} {H H1:Heap} {s:List V} {o:Oper} {v:V} {y:Heap->Option V} (he:∀H k,opD call E k H s o=(y H).map (·,H))
  (h:opD call E k H s o=some (v,H1)) (hy:∀H',Z1x (Z2N E s o) H H' -> y H' = y H):Eff call E k H s o v H1:=by
 rw [he] at h
 obtain⟨h1,h2⟩:=ZLq h
 exact⟨[],none,by simp,by simp,h2,fun H' k' _ hs=>by rw [he,hy H' hs,h1];rfl⟩
theorem ZxS {E:Env} {s:List V} {o:Oper} {H H' : Heap} (h:Z1x (Z2N E s o) H H') {x:Operand} (hx:x∈o.op.operands):Z1x (Z1e (ev E s x)) H H' :=fun i hi=>
 h i (List.mem_flatMap.2 ⟨x,by simpa using hx,hi⟩)
theorem ZPq {call:Z24} {E:Env} {k:Nat} {H H1:Heap} {s:List V} {o:Oper} {v:V} (hc:Z0t E o = .s) (h:opD call E k H s o=some (v,H1)) :
  H1=H/\∀H' k',opD call E k' H' s o=some (v,H'):=by
 have key:∀y:Option V,(∀H k,opD call E k H s o=y.map (·,H))->H1=H/\∀H' k',opD call E k' H' s o=some (v,H'):=by
  intro y he
  rw [he] at h
  obtain⟨h1,h2⟩:=ZLq h
  exact⟨h2,fun H' k' =>by rw [he,h1];rfl⟩
 obtain⟨dst,op,type,pos,after,guard⟩:=o
 cases op<;>simp only [Z0t] at hc<;>try (cases hc;done)
 case convert=>split at hc<;>cases hc
 case move x=>exact key (some (ev E s x)) (fun H k=>rfl)
 case pick c x y=>
  refine key (match ev E s c with | .lit (.bool t)=>some (if t then ev E s x else ev E s y)|_=>none) (fun H k=>?_)
  simp only [opD]
  split<;>simp_all
 case build t ps=>exact key (ZtT E t (ps.toList.map fun(i,x)=>(i,ev E s x))) (fun H k=>rfl)
 case binOp op t x y z=>exact key (ZIZ E op t (ev E s x) (ev E s y)) (fun H k=>rfl)
 case unOp op t x=>exact key (unD op (ev E s x)) (fun H k=>rfl)
 case sliceToArrayPointer t x=>exact key (ZQH E t (ev E s x)) (fun H k=>rfl)
 case field t x f=>exact key (ZtO E t (ev E s x) f) (fun H k=>rfl)
 case fieldAddr t x f=>exact key (Z8t E t (ev E s x) f) (fun H k=>rfl)
 case index t x i=>exact key (ZtP E t (ev E s x) (ev E s i)) (fun H k=>rfl)
 case nilCheck x=>
  refine key (match Zpm (ev E s x) with|some false=>some (ev E s x)|_=>none) (fun H k=>?_)
  simp only [opD]
  split<;>simp_all
 case lookup t m x ok=>exact key (ZIm E t ok (ev E s m) (ev E s x)) (fun H k=>rfl)
 case extract x i=>
  refine key (match ev E s x with | .tup vs=>vs[i]? | _=>none) (fun H k=>?_)
  simp only [opD]
  split<;>simp_all
 case makeFunc fn first caps=>
  cases fn with
  | func f=>exact key (some (.fn f (evs E s first) (evs E s caps))) (fun H k=>rfl)
  | _=>simp [opD] at h
 case assign x=>
  by_cases hx:x = .const (.slice none 0 0)
  ·subst hx;cases hc
  ·refine key (some (ev E s x)) (fun H k=>?_)
   unfold opD
   split<;>simp_all
 case call c=>
  split at hc
  ·cases hc
  ·rename_i hcal
   exact key (Zjk false (evs E s c.args)) (fun H k=>by simp only [opD,hcal];rfl)
  ·rename_i hcal
   exact key (Zjk true (evs E s c.args)) (fun H k=>by simp only [opD,hcal];rfl)
  ·split at hc
   ·cases hc
   ·split at hc<;>cases hc
  ·cases hc
theorem ZIb {E:Env} {H H' : Heap} {src dst:TypeId} {x r:V} (h:ZdG E H src dst x=some (r,H')):H' = H:=by
 unfold ZdG at h
 split at h
 ·split at h
  ·split at h
   ·cases h;rfl
   ·cases h
  ·cases h
 ·split at h
  ·cases h;rfl
  ·cases h
 ·split at h
  ·split at h
   ·split at h
    ·split at h
     ·cases h;rfl
     ·cases h
    ·cases h
   ·cases h
  ·cases h
theorem Zpy {E:Env} {H H' : Heap} {t:TypeId} {x r:V} {lo hi:Option V} (h:Z9w E H t x lo hi none=some (r,H')):H' = H:=by
 unfold Z9w at h
 split at h
 ·split at h
  ·cases h
  ·split at h
   ·cases h
   ·split at h
    ·cases h
    ·split at h
     ·cases ‹none=some _›
     ·split at h<;>cases h<;>rfl
 ·cases h
theorem ZuD {E:Env} {s:List V} {o:Oper} {c:Call} (hop:o.op = .call c) {H H' : Heap} (h:Z1x (Z2N E s o) H H'):Z1x ((evs E s c.args).flatMap Z1e) H H' :=by
 intro i hi
 simp only [evs,List.mem_flatMap,List.mem_map] at hi
 obtain⟨v,⟨x,hx,rfl⟩,hi⟩:=hi
 refine h i (List.mem_flatMap.2 ⟨x,?_,hi⟩)
 simp at hx
 simp [hop,Op.operands,Call.operands,hx]
theorem ZyS {E:Env} {s:List V} {o:Oper} {c:Call} (hop:o.op = .call c) {i:Nat} (hi:i∈(evs E s c.args).flatMap Z1e):i∈Z2N E s o:=by
 simp only [evs,List.mem_flatMap,List.mem_map] at hi
 obtain⟨v,⟨x,hx,rfl⟩,hi⟩:=hi
 refine List.mem_flatMap.2 ⟨x,?_,hi⟩
 simp at hx
 simp [hop,Op.operands,Call.operands,hx]
theorem ZIc {E:Env} {s:List V} {o:Oper} {t:TypeId} {n:Nat} {ps:Array (Nat×Operand)} (hop:o.op = .buildSlice t n ps) {i:Nat}
  (hi:i∈((ps.toList.map fun(i,x)=>(i,ev E s x)).map (·.2)).flatMap Z1e):i∈Z2N E s o:=by
 simp only [List.map_map,List.mem_flatMap,List.mem_map] at hi
 obtain⟨v,⟨p,hp,rfl⟩,hi⟩:=hi
 refine List.mem_flatMap.2 ⟨p.2,?_,hi⟩
 simp only [hop,Op.operands]
 exact List.mem_map.2 ⟨p,hp,rfl⟩
theorem ZQa {H H' : Heap} {id:Nat} (h:(H[id]?).map Box.low=(H'[id]?).map Box.low):(H'.getD id default).esz=(H.getD id default).esz:=by
 simp only [List.getD]
 cases h1:H[id]? with
 | none=>cases h2:H'[id]? with
  | none=>rfl
  | some b=>simp [h1,h2] at h
 | some b=>cases h2:H'[id]? with
  | none=>simp [h1,h2] at h
  | some b' =>
   simp only [h1,h2,Option.map_some,Option.some.injEq] at h
   show b'.esz=b.esz
   exact(congrArg Box.esz h).symm
theorem bump_nil (H:Heap):bump H []=H:=rfl
theorem ZG2 {E:Env} {H H1:Heap} {t:TypeId} {x v:V} {lo hi mx:Option V} (h:Z9w E H t x lo hi mx=some (v,H1)) :
  ∃ids,(∀i∈ids,i∈Z1e x)/\H1=bump H ids/\∀H',Z1x (Z1e x) H H' -> Z9w E H' t x lo hi mx=some (v,bump H' ids):=by
 cases mx with
 | none=>
  have:=Zpy h
  subst this
  refine⟨[],by simp,(bump_nil _).symm,fun H' hs=>?_⟩
  rw [bump_nil]
  have e:(Z9w E H' t x lo hi none).map (·.1)=(Z9w E H1 t x lo hi none).map (·.1):=by
   simp only [Z9w]
   rw [ZiQ hs,ZoL hs]
   split
   ·split
    ·rfl
    ·split
     ·rfl
     ·split
      ·rfl
      ·split<;>rfl
   ·rfl
  cases hc:Z9w E H' t x lo hi none with
  | none=>rw [hc,h] at e;simp at e
  | some r=>
   obtain⟨r,H2⟩:=r
   have:=Zpy hc
   subst this
   rw [hc,h] at e
   simp only [Option.map_some,Option.some.injEq] at e
   rw [e]
 | some m=>
  simp only [Z9w] at h ⊢
  split at h
  ·rename_i hf
   split at h
   ·cases h
   ·rename_i n hn
    split at h
    ·cases h
    ·rename_i hh hbh
     split at h
     ·cases h
     ·rename_i l hbl
      have key:∀H',Z1x (Z1e x) H H' -> Z5K E H' t x=true/\lenOf H' x=some n/\elemsOf H' x=elemsOf H x:=fun H' hs=>⟨by rw [ZiQ hs];exact hf,by rw [ZoL hs];exact hn,Zd3 hs⟩
      split at h
      ·rename_i k xs b e hk hxs
       split at h
       ·rename_i hkh
        simp only [Option.some.injEq,Prod.mk.injEq] at h
        obtain⟨rfl,rfl⟩:=h
        refine⟨[],by simp,(bump_nil _).symm,fun H' hs=>?_⟩
        obtain⟨q1,q2,q3⟩:=key H' hs
        rw [if_pos q1,q2,bump_nil]
        simp only [hbh,hbl,hk,q3,hxs,if_pos hkh]
       ·cases h
      ·rename_i k xs b e hk hxs
       split at h
       ·rename_i hkh
        simp only [Option.some.injEq,Prod.mk.injEq] at h
        obtain⟨rfl,rfl⟩:=h
        refine⟨[],by simp,(bump_nil _).symm,fun H' hs=>?_⟩
        obtain⟨q1,q2,q3⟩:=key H' hs
        rw [if_pos q1,q2,bump_nil]
        simp only [hbh,hbl,hk,q3,hxs,if_pos hkh]
       ·cases h
      ·rename_i k xs id off len tot hk hxs
       split at h
       ·rename_i hkh
        simp only [Option.some.injEq,Prod.mk.injEq] at h
        obtain⟨rfl,rfl⟩:=h
        refine⟨[id],by simp [Z1e,ZdA],rfl,fun H' hs=>?_⟩
        obtain⟨q1,q2,q3⟩:=key H' hs
        rw [if_pos q1,q2]
        simp only [hbh,hbl,hk,q3,hxs,if_pos hkh,ZQa (hs id (by simp [Z1e,ZdA]))]
       ·cases h
      ·cases h
  ·cases h
theorem ZIN {E:Env} {H H1:Heap} {n:Nat} {e:TypeId} {x v:V} {lo hi mx:Option V} (h:Zh0 E H n e x lo hi mx=some (v,H1)) :
  ∃ids,(∀i∈ids,i∈Z1e x)/\H1=bump H ids/\∀H',Z1x (Z1e x) H H' -> Zh0 E H' n e x lo hi mx=some (v,bump H' ids):=by
 unfold Zh0 at h
 split at h
 ·rename_i id i off tot m' hm'
  cases hb:Z1H H id tot with
  | none=>simp [hb] at h
  | some b=>
   simp only [hb] at h
   split at h
   ·rename_i cs hrow hxs
    split at h
    ·rename_i hc
     simp only [Option.some.injEq,Prod.mk.injEq] at h
     obtain⟨rfl,rfl⟩:=h
     refine⟨[id],by simp [Z1e,ZdA],rfl,fun H' hs=>?_⟩
     obtain⟨b',h1,h2⟩:=Z5I (hs id (by simp [Z1e,ZdA])) hb
     obtain⟨e1,e2,e3,e4,e5⟩:=Zha h2
     unfold Zh0
     simp only [hm',h1,e1,e5,hrow,hxs]
     rw [if_pos hc]
    ·cases h
   ·cases h
 ·cases h
theorem ZLS {call:Z24} {E:Env} (hpure:ZEX E call) {k:Nat} {H H1:Heap} {s:List V} {o:Oper} {v:V} (hc:Z0t E o≠.w) (hcc:Z0t E o≠.c) (h:opD call E k H s o=some (v,H1)) :
  Eff call E k H s o v H1:=by
 by_cases hs:Z0t E o = .s
 ·obtain⟨h1,h2⟩:=ZPq hs h
  exact⟨[],none,by simp,by simp,h1,fun H' k' _ _=>h2 H' k'⟩
 have mk:∀(nb:Option Box),Z0t E o = .a->(nb.isSome=true)->(∀H k,opD call E k H s o=nb.map fun b=>((if b.row then V.lsl k 0 b.xs.length b.xs.length else V.ptr k 0 0 1),place H k b))->Eff call E k H s o v H1:=by
  intro nb hca hnb he
  cases nb with
  | none=>cases hnb
  | some b=>
   rw [he] at h
   simp only [Option.map_some,Option.some.injEq,Prod.mk.injEq] at h
   obtain⟨h1,h2⟩:=h
   refine⟨[],some b,by simp,fun _=>hca,h2.symm,fun H' k' hk _=>?_⟩
   rw [he,hk hca]
   simp only [Option.map_some,h1]
   rfl
 obtain⟨dst,op,type,pos,after,guard⟩:=o
 cases op<;>try (refine absurd ?_ hs;simp [Z0t];done)
 case assign x=>
  by_cases hx:x = .const (.slice none 0 0)
  ·subst hx
   cases hti:E.ti type with
   | none=>simp [opD,hti] at h
   | some i=>
    obtain⟨ty,sz,by',z0⟩:=i
    cases ty with
    | slice e=>exact mk (some (ZW true false e ((E.size e).getD 0) [])) rfl rfl (fun H k=>by simp only [opD,hti,Option.map_some];rfl)
    | _=>simp [opD,hti] at h
  ·refine absurd ?_ hs
   unfold Z0t
   split<;>simp_all
 case alloc t=>
  cases hti:E.ti t with
  | none=>simp [opD,hti] at h
  | some i=>
   cases hz:i.zero with
   | none=>simp [opD,hti,hz] at h
   | some z=>
    by_cases hcond:z.cells.length=i.size/\okV z=true
    ·exact mk (some (ZW false false t i.size [z])) rfl rfl (fun H k=>by simp only [opD,hti,hz,hcond,and_self,if_true,Option.map_some];rfl)
    ·simp [opD,hti,hz,hcond] at h
 case box t x=>
  cases hti:E.ti t with
  | none=>simp [opD,hti] at h
  | some i=>
   by_cases hcond:(ev E s x).cells.length=i.size/\okV (ev E s x)=true
   ·exact mk (some (ZW false false t i.size [ev E s x])) rfl rfl (fun H k=>by simp only [opD,hti,hcond,and_self,if_true,Option.map_some];rfl)
   ·simp [opD,hti,hcond] at h
 case makeSlice t l c=>
  have hlen:∀(n:Int) (z:V),(List.replicate n.toNat z).length=n.toNat:=fun n z=>by simp
  cases hti:E.ti t with
  | none=>simp [opD,hti] at h
  | some i=>
   obtain⟨ty,sz,by',z0⟩:=i
   cases ty with
   | slice e=>
    cases hl:ev E s l with
    | lit lv=>
     cases lv with
     | int k1 n=>
      cases hcv:ev E s c with
      | lit cv=>
       cases cv with
       | int k2 m=>
        cases hei:E.ti e with
        | none=>simp [opD,hti,hl,hcv,hei] at h
        | some ei=>
         cases hz:ei.zero with
         | none=>simp [opD,hti,hl,hcv,hei,hz] at h
         | some z=>
          by_cases hcond:0<=n/\n<=m/\m.toNat*ei.bytes<=lim/\m<=maxLen/\0<ei.size/\z.cells.length=ei.size/\okV z=true
          ·refine mk (some (ZW true false e ei.size (List.replicate n.toNat (Z18 (E.rows e) z)))) rfl rfl (fun H k=>?_)
           simp only [opD,hti,hl,hcv,hei,hz,Option.map_some]
           rw [if_pos hcond]
           simp [ZW]
          ·simp only [opD,hti,hl,hcv,hei,hz] at h
           rw [if_neg hcond] at h
           cases h
       | _=>simp [opD,hti,hl,hcv] at h
      | _=>simp [opD,hti,hl,hcv] at h
     | _=>simp [opD,hti,hl] at h
    | _=>simp [opD,hti,hl] at h
   | _=>simp [opD,hti] at h
 case buildSlice t n ps=>
  have he:∀H k,opD call E k H s { dst:=dst,op:=.buildSlice t n ps,type:=type,pos:=pos,after:=after,guard:=guard }=Z3a E k H t n (ps.toList.map fun(i,x)=>(i,ev E s x)):=fun H k=>rfl
  have hrefs:=fun i=>ZIc (E:=E) (s:=s) (o:={ dst:=dst,op:=.buildSlice t n ps,type:=type,pos:=pos,after:=after,guard:=guard }) rfl (i:=i)
  rw [he] at h
  generalize (ps.toList.map fun(i,x)=>(i,ev E s x))=parts at he h hrefs
  unfold Z3a at h
  split at h
  ·rename_i e sz by' z0 hti
   split at h
   ·rename_i ei hei
    split at h
    ·rename_i z vs hz hf
     split at h
     ·rename_i hcond
      split at h
      ·rename_i xs hfe
       simp only [Option.some.injEq,Prod.mk.injEq] at h
       obtain⟨h1,h2⟩:=h
       refine⟨(parts.map (fun p:Nat×V=>p.2)).flatMap Z9g,some (ZW true false e ei.size xs),fun i hi=>hrefs i (Zt1 hi),fun _=>by simp [Z0t],h2.symm,fun H' k' hk hs=>?_⟩
       have hfr:Z2b H' (parts.map (·.2))=some vs:=by rw [Zlh (fun i hi=>hs i (hrefs i hi))];exact hf
       have hkk:k' = k:=hk (by simp [Z0t])
       rw [he,hkk,<- h1]
       simp only [Z3a,hti,hei,hz,hfr,hfe]
       rw [if_pos hcond]
       rfl
      ·cases h
     ·cases h
    ·cases h
   ·cases h
  ·cases h
 case load t x=>exact Zot (y:=fun H=>ZnW E H t (ev E s x)) (fun H k=>rfl) h (fun H' hs=>ZKs (ZxS hs (by simp [Op.operands])))
 case indexAddr t x i=>exact Zot (y:=fun H=>Z47 E H t (ev E s x) (ev E s i)) (fun H k=>rfl) h (fun H' hs=>ZsP (ZxS hs (by simp [Op.operands])))
 case convert src dst2 x=>
  have hx:x∈(Op.convert src dst2 x).operands:=by simp [Op.operands]
  by_cases hb:(E.isStr src&&E.isBytes dst2)=true
  ·have hca:Z0t E { dst:=dst,op:=.convert src dst2 x,type:=type,pos:=pos,after:=after,guard:=guard } = .a:=by simp only [Z0t];rw [if_pos hb]
   have he:∀H k,opD call E k H s { dst:=dst,op:=.convert src dst2 x,type:=type,pos:=pos,after:=after,guard:=guard }=Zoe E k H dst2 (ev E s x):=fun H k=>by simp only [opD];rw [if_pos hb]
   cases hev:ev E s x with
   | lit v=>
    cases v with
    | string st=>
     cases hti:E.ti dst2 with
     | none=>rw [he,hev] at h;simp [Zoe,hti] at h
     | some i=>
      obtain⟨ty,sz,by',z0⟩:=i
      cases ty with
      | slice e=>
       by_cases h1:E.size e=some 1
       ·exact mk (some (ZW true false e 1 (bytesV st))) hca rfl (fun H k=>by rw [he,hev];simp only [Zoe,hti,h1,if_true,Option.map_some];rw [show (ZW true false e 1 (bytesV st)).xs.length=st.size from by simp only [ZW,bytesV,List.length_map];exact Array.length_toList];rfl)
       ·rw [he,hev] at h;simp [Zoe,hti,h1] at h
      | _=>rw [he,hev] at h;simp [Zoe,hti] at h
    | _=>rw [he,hev] at h;simp [Zoe] at h
   | _=>rw [he,hev] at h;simp [Zoe] at h
  have hcv0:∀H k,opD call E k H s { dst:=dst,op:=.convert src dst2 x,type:=type,pos:=pos,after:=after,guard:=guard }=ZdG E H src dst2 (ev E s x):=fun H k=>by simp only [opD];rw [if_neg hb]
  refine Zot (y:=fun H=>(ZdG E H src dst2 (ev E s x)).map (·.1)) (fun H k=>?_) h (fun H' hs=>?_)
  ·rw [hcv0]
   cases hcv:ZdG E H src dst2 (ev E s x) with
   | none=>rfl
   | some r=>
    obtain⟨r,H2⟩:=r
    have:=ZIb hcv
    subst this
    rfl
  ·have h1:=ZxS hs hx
   simp only [ZdG]
   generalize ev E s x=ex at h1 ⊢
   split
   ·split
    ·split<;>rfl
    ·rfl
   ·split<;>rfl
   ·rw [ZkH h1,Zd3 h1]
    split
    ·split
     ·split
      ·split<;>rfl
      ·rfl
     ·rfl
    ·rfl
 case slice t x lo hi mx=>
  have hx:x∈(Op.slice t x lo hi mx).operands:=by simp [Op.operands]
  by_cases harr:∃n e sz by' z0,E.ti t=some ⟨.array n e,sz,by',z0⟩
  ·obtain⟨n,e,sz,by',z0,hti⟩:=harr
   have he:∀H k,opD call E k H s { dst:=dst,op:=.slice t x lo hi mx,type:=type,pos:=pos,after:=after,guard:=guard }=Zh0 E H n e (ev E s x) (lo.map (ev E s)) (hi.map (ev E s)) (mx.map (ev E s)):=fun H k=>by simp only [opD,hti]
   rw [he] at h
   obtain⟨ids,g1,g2,g3⟩:=ZIN h
   exact⟨ids,none,fun i hi=>List.mem_flatMap.2 ⟨x,by simpa using hx,g1 i hi⟩,by simp,g2,fun H' k' _ hs=>by rw [he];exact g3 H' (ZxS hs hx)⟩
  ·have he:∀H k,opD call E k H s { dst:=dst,op:=.slice t x lo hi mx,type:=type,pos:=pos,after:=after,guard:=guard }=Z9w E H t (ev E s x) (lo.map (ev E s)) (hi.map (ev E s)) (mx.map (ev E s)):=fun H k=>by
    simp only [opD]
    split
    ·rename_i n e sz by' z0 hti
     exact absurd ⟨n,e,sz,by',z0,hti⟩ harr
    ·rfl
   rw [he] at h
   obtain⟨ids,g1,g2,g3⟩:=ZG2 h
   exact⟨ids,none,fun i hi=>List.mem_flatMap.2 ⟨x,by simpa using hx,g1 i hi⟩,by simp,g2,fun H' k' _ hs=>by rw [he];exact g3 H' (ZxS hs hx)⟩
 case call c=>
  cases hcal:c.callee with
  | invoke r n=>exact absurd (by simp [Z0t,hcal]) hc
  | builtin b=>
   by_cases hb:b = .len
   ·subst hb
    have he:∀H k,opD call E k H s { dst:=dst,op:=.call c,type:=type,pos:=pos,after:=after,guard:=guard }=Z84 E k H s .len (evs E s c.args) c.argTypes.toList:=fun H k=>by simp only [opD,hcal]
    refine Zot (y:=fun H=>(Z84 E 0 H s .len (evs E s c.args) c.argTypes.toList).map (·.1)) (fun H k=>?_) h (fun H' hs=>?_)
    ·rw [he]
     unfold Z84
     split<;>try rfl
     ·split
      ·cases lenOf H _<;>rfl
      ·rfl
     all_goals simp_all
    ·have h1:=ZuD rfl hs
     generalize evs E s c.args=xs at h1 ⊢
     simp only [Z84]
     split<;>try rfl
     ·split
      ·rw [ZoL (fun i hi=>h1 i (by simpa using hi))]
       rename_i x t _ _ _
       cases lenOf H x<;>rfl
      ·rfl
     all_goals simp_all
   ·exfalso
    revert hc hs
    unfold Z0t
    cases b<;>simp_all
  | value f=>
   cases f with
   | func f=>
    by_cases hp:((E.pure f||(E.env f).isSome)&&(E.own f).isNone)=true
    ·have he:∀H k,opD call E k H s { dst:=dst,op:=.call c,type:=type,pos:=pos,after:=after,guard:=guard }=call f (evs E s c.args) H:=fun H k=>by simp [opD,hcal,ev]
     rw [he] at h
     obtain⟨h1,h2⟩:=hpure f hp _ _ _ _ h
     refine⟨(evs E s c.args).flatMap Z9g,none,fun i hi=>ZyS rfl (Zt1 hi),by simp,h1,fun H' k' _ hs=>?_⟩
     rw [he]
     exact h2 H' (ZuD rfl hs)
    ·by_cases hfr:Zu5 E f=true
     ·exact absurd (by unfold Z0t;simp only [hcal];rw [if_neg hp,if_pos hfr]) hcc
     ·exact absurd (by unfold Z0t;simp only [hcal];rw [if_neg hp,if_neg hfr]) hc
   | _=>exact absurd (by simp [Z0t,hcal]) hc
 all_goals (refine absurd ?_ hc;simp [Z0t];done)
theorem ZFr {call:Z24} {E:Env} (hfree:ZFc E call) {k:Nat} {H H1:Heap} {s:List V} {o:Oper} {v:V} (hc:Z0t E o = .c) (h:opD call E k H s o=some (v,H1)) :
  ∃ids nbs,(∀i∈ids,i∈Z2N E s o)/\H1=bump H ids++nbs/\∀H' k',H'.length=H.length->Z1x (Z2N E s o) H H' -> opD call E k' H' s o=some (v,bump H' ids++nbs):=by
 obtain⟨dst,op,type,pos,after,guard⟩:=o
 cases op<;>simp only [Z0t] at hc<;>first|(cases hc;done)|skip
 case convert=>split at hc<;>cases hc
 case assign x=>exfalso;revert hc;split<;>simp_all
 case call c=>
  cases hcal:c.callee with
  | builtin b=>exfalso;revert hc;simp only [hcal];cases b<;>simp
  | invoke r n=>exfalso;revert hc;simp [hcal]
  | value f=>
  cases f with
  | tmp _=>exfalso;revert hc;simp [hcal]
  | const _=>exfalso;revert hc;simp [hcal]
  | global _=>exfalso;revert hc;simp [hcal]
  | func f=>
  simp only [hcal] at hc
  split at hc
  ·cases hc
  ·split at hc
   ·rename_i hfr
    have he:∀H k,opD call E k H s { dst:=dst,op:=.call c,type:=type,pos:=pos,after:=after,guard:=guard }=call f (evs E s c.args) H:=fun H k=>by simp [opD,hcal,ev]
    rw [he] at h
    obtain⟨ids,nbs,h1,h2,h3⟩:=hfree f hfr _ _ _ _ h
    exact⟨ids,nbs,fun i hi=>ZyS rfl (h1 i hi),h2,fun H' k' hl hs=>by rw [he];exact h3 H' hl (ZuD rfl hs)⟩
   ·cases hc
def ZcX (ids:List Nat) (i:Nat) (b:Box):Box:=if i∈ids then { b with floor:=b.xs.length } else b
theorem Zco {ids:List Nat} {nb:Option Box} {k:Nat} {H:Heap} (hk:nb.isSome=true->k<H.length) (i:Nat) :
  (eff ids nb k H)[i]? = match nb with|some b=>if i=k then some b else (H[i]?).map (ZcX ids i)|none=>(H[i]?).map (ZcX ids i):=by
 cases nb with
 | none=>simp only [eff];rw [Z4a];rfl
 | some b=>
  have hk' : k<(bump H ids).length:=by rw [bump_length];exact hk rfl
  simp only [eff,place]
  rw [if_pos hk',List.getElem?_set]
  by_cases hi:i=k
  ·subst hi;simp [hk']
  ·rw [if_neg (fun e=>hi e.symm),if_neg hi,Z4a];rfl
theorem Z8C {ids:List Nat} {nb:Option Box} {k:Nat} {H:Heap} (hk:nb.isSome=true->k<H.length):(eff ids nb k H).length=H.length:=by
 cases nb with
 | none=>exact bump_length H ids
 | some b=>
  have hk' : k<(bump H ids).length:=by rw [bump_length];exact hk rfl
  simp only [eff,place]
  rw [if_pos hk',List.length_set,bump_length]
theorem Zg6 (ZgA ids2:List Nat) (i:Nat) (b:Box):ZcX ZgA i (ZcX ids2 i b)=ZcX ids2 i (ZcX ZgA i b):=by
 unfold ZcX
 by_cases h1:i∈ZgA<;>by_cases h2:i∈ids2<;>simp [h1,h2]
theorem Zwp {ZgA ids2:List Nat} {nb1 nb2:Option Box} {k1 k2:Nat} {H:Heap} (h1:nb1.isSome=true->k1<H.length/\k1∉ids2) (h2:nb2.isSome=true->k2<H.length/\k2∉ZgA)
  (hne:nb1.isSome=true->nb2.isSome=true->k1≠k2):eff ZgA nb1 k1 (eff ids2 nb2 k2 H)=eff ids2 nb2 k2 (eff ZgA nb1 k1 H):=by
 have l1:=Z8C (ids:=ZgA) (fun h=>(h1 h).1)
 have l2:=Z8C (ids:=ids2) (fun h=>(h2 h).1)
 apply List.ext_getElem?
 intro i
 rw [Zco (ids:=ZgA) (H:=eff ids2 nb2 k2 H) (fun h=>by rw [l2];exact(h1 h).1),Zco (ids:=ids2) (H:=eff ZgA nb1 k1 H) (fun h=>by rw [l1];exact(h2 h).1),Zco (ids:=ZgA) (H:=H) (fun h=>(h1 h).1),Zco (ids:=ids2) (H:=H) (fun h=>(h2 h).1)]
 cases nb1 with
 | none=>
  cases nb2 with
  | none=>
   simp only
   cases H[i]? with
   | none=>rfl
   | some b=>simp only [Option.map_some,Zg6]
  | some b2=>
   simp only
   by_cases hi:i=k2
   ·subst hi
    simp only [if_true,Option.map_some]
    simp [ZcX,(h2 rfl).2]
   ·simp only [hi,if_false]
    cases H[i]? with
    | none=>rfl
    | some b=>simp only [Option.map_some,Zg6]
 | some b1=>
  cases nb2 with
  | none=>
   simp only
   by_cases hi:i=k1
   ·subst hi
    simp only [if_true,Option.map_some]
    simp [ZcX,(h1 rfl).2]
   ·simp only [hi,if_false]
    cases H[i]? with
    | none=>rfl
    | some b=>simp only [Option.map_some,Zg6]
  | some b2=>
   have hkk:=hne rfl rfl
   simp only
   by_cases hi:i=k1
   ·subst hi
    rw [if_pos rfl,if_neg hkk,if_pos rfl]
    simp [ZcX,(h1 rfl).2]
   ·by_cases hj:i=k2
    ·subst hj
     rw [if_neg hi,if_pos rfl,if_pos rfl]
     simp [ZcX,(h2 rfl).2]
    ·rw [if_neg hi,if_neg hj,if_neg hj,if_neg hi]
     cases H[i]? with
     | none=>rfl
     | some b=>simp only [Option.map_some,Zg6]
theorem Zxb (ids:List Nat) (i:Nat) (b:Box):(ZcX ids i b).low=b.low:=by
 unfold ZcX
 split<;>rfl
theorem ZhX {R ids:List Nat} {nb:Option Box} {k:Nat} {H:Heap} (hk:nb.isSome=true->k<H.length/\k∉R):Z1x R H (eff ids nb k H):=by
 intro i hi
 rw [Zco (fun h=>(hk h).1)]
 cases nb with
 | none=>
  simp only
  cases H[i]? with
  | none=>rfl
  | some b=>simp only [Option.map_some,Zxb]
 | some b=>
  have:i≠k:=fun e=>(hk rfl).2 (e▸hi)
  simp only [this,if_false]
  cases H[i]? with
  | none=>rfl
  | some b=>simp only [Option.map_some,Zxb]
theorem Z1x.symm {R:List Nat} {H H' : Heap} (h:Z1x R H H'):Z1x R H' H:=fun i hi=>(h i hi).symm
theorem ZFv {ids:List Nat} {nb:Option Box} {k j:Nat} {H:Heap} (hk:nb.isSome=true->k<H.length/\k≠j):(∃b,(eff ids nb k H)[j]? = some b/\b.live=false)↔∃b,H[j]? = some b/\b.live=false:=by
 rw [Zco (fun h=>(hk h).1)]
 have hm:(∃b,(H[j]?).map (ZcX ids j)=some b/\b.live=false)↔∃b,H[j]? = some b/\b.live=false:=by
  cases H[j]? with
  | none=>simp
  | some b=>
   simp only [Option.map_some,Option.some.injEq,exists_eq_left']
   unfold ZcX
   split<;>rfl
 cases nb with
 | none=>exact hm
 | some b=>
  have:j≠k:=fun e=>(hk rfl).2 e.symm
  simp only [this,if_false]
  exact hm
section
variable {call:Z24} {E:Env} {ops:Array Oper} {ms:List Nat} {lt:List (Nat×(Nat⊕Nat))} {s0:List V} {base m:Nat}
def kOf (E:Env) (o:Oper) (base i:Nat) (H:Heap):Nat:=if Z0t E o = .a then base+i else H.length
def ZjF (E:Env) (ops:Array Oper) (ms:List Nat) (base m i:Nat) (s:List V) (o:Oper):Prop:=∀id∈Z2N E s o,id<base\/(base+m<=id/\ZtY E ops ms i=true)\/(id<base+m/\(ms.getD i 0).testBit (id - base)=true)
theorem Zl1 {i:Nat} {o:Oper} (ho:ops[i]? = some o) {st st' : St}:Zcd call E ops ms lt s0 base m i st=some st' ↔
  ZjF E ops ms base m i st.s o/\(Z8e E ms lt s0 base i st.s st.H o=true/\(Z0t E o = .c->base+m<=st.H.length))/\(Z0t E o = .a->∃b,st.H[base+i]? = some b/\b.live=false)/\∃v H',ZmD call E ops (kOf E o base i st.H) o st=some (v,H')/\st' = ⟨setSlot st.s o.dst v,H'⟩:=by
 have hst:∀k,Zam call E ops k i st=some st' ↔∃v H',ZmD call E ops k o st=some (v,H')/\st' = ⟨setSlot st.s o.dst v,H'⟩:=by
  intro k
  unfold Zam
  simp only [ho]
  cases hact:ZmD call E ops k o st with
  | none=>simp
  | some r=>
   obtain⟨v,H'⟩:=r
   simp only [Option.some.injEq,Prod.mk.injEq]
   exact⟨fun h=>⟨v,H',⟨rfl,rfl⟩,h.symm⟩,fun⟨v1,H1,⟨e1,e2⟩,e3⟩=>by subst e1;subst e2;exact e3.symm⟩
 unfold Zcd
 simp only [ho]
 have hsee:(((Z2N E st.s o).all fun id=>decide (id<base)||(decide (base+m<=id)&&ZtY E ops ms i)||(decide (id<base+m)&&(ms.getD i 0).testBit (id - base)))&&(Z8e E ms lt s0 base i st.s st.H o&&(!decide (Z0t E o = .c)||decide (base+m<=st.H.length))))=true↔
   ZjF E ops ms base m i st.s o/\Z8e E ms lt s0 base i st.s st.H o=true/\(Z0t E o = .c->base+m<=st.H.length):=by
  unfold ZjF
  rw [Bool.and_eq_true,Bool.and_eq_true,List.all_eq_true]
  have hc:(!decide (Z0t E o = .c)||decide (base+m<=st.H.length))=true↔(Z0t E o = .c->base+m<=st.H.length):=by
   by_cases h:Z0t E o = .c<;>simp [h]
  rw [hc]
  simp only [Bool.or_eq_true,Bool.and_eq_true,decide_eq_true_eq,or_assoc]
 by_cases hs:ZjF E ops ms base m i st.s o/\Z8e E ms lt s0 base i st.s st.H o=true/\(Z0t E o = .c->base+m<=st.H.length)
 ·rw [if_pos (hsee.2 hs)]
  unfold kOf
  by_cases hca:Z0t E o = .a
  ·rw [if_pos hca,if_pos hca]
   cases hb:st.H[base+i]? with
   | none=>simp [hca]
   | some b=>
    cases hl:b.live with
    | true=>simp [hl,hca]
    | false=>simp only [hl,Bool.false_eq_true,if_false,hst];exact⟨fun h=>⟨hs.1,hs.2,fun _=>⟨b,rfl,hl⟩,h⟩,fun h=>h.2.2.2⟩
  ·rw [if_neg hca,if_neg hca,hst]
   exact⟨fun h=>⟨hs.1,hs.2,fun hh=>absurd hh hca,h⟩,fun h=>h.2.2.2⟩
 ·rw [if_neg (fun h=>hs (hsee.1 h))]
  constructor
  ·intro h;cases h
  ·rintro ⟨h1,h2,_⟩;exact absurd ⟨h1,h2⟩ hs
theorem ZhK {o:Oper} {a:Operand} (h:Z8m o=some a):(∃t v,o.op = .store t a v)\/∃c x,o.op = .call c/\c.callee = .builtin .append/\c.args.toList=[a,x]:=by
 unfold Z8m at h
 split at h
 ·rename_i t a' v hop
  cases h
  exact .inl ⟨t,v,hop⟩
 ·rename_i c hop
  split at h
  ·rename_i a' x h1 h2
   cases h
   exact .inr ⟨c,x,hop,h1,h2⟩
  ·cases h
 ·cases h
theorem Zna {o:Oper} {a:Operand} (h:Z8m o=some a):a∈o.op.operands:=by
 rcases ZhK h with ⟨t,v,hop⟩|⟨c,x,hop,h1,h2⟩
 ·simp [hop,Op.operands]
 ·have:a∈c.args:=by
   have:a∈c.args.toList:=by rw [h2];simp
   simpa using this
  simp [hop,Op.operands,Call.operands,this]
theorem ZeQ {o:Oper} {t:Nat⊕Nat} (h:ZHz E ops o=some t):Z0t E o = .w/\o.guard=none/\∃d,Z8m o=some (.tmp d):=by
 unfold ZHz at h
 split at h
 ·rename_i d hg hw
  refine⟨?_,hg,⟨d,hw⟩⟩
  rcases ZhK hw with ⟨t,v,hop⟩|⟨c,x,hop,h1,h2⟩
  ·unfold Z0t;rw [hop]
  ·unfold Z0t;rw [hop];simp only [h1]
 ·cases h
theorem ZLd {x:Nat} {t:Nat⊕Nat} (h:(x,t)∈ZwD E ops):∃ox,ops[x]? = some ox/\ZHz E ops ox=some t:=by
 unfold ZwD at h
 simp only [List.mem_filterMap] at h
 obtain⟨y,_,h⟩:=h
 split at h
 ·rename_i ox hox
  split at h
  ·rename_i t' ht
   split at h
   ·simp only [Option.some.injEq,Prod.mk.injEq] at h
    obtain⟨rfl,rfl⟩:=h
    exact⟨ox,hox,ht⟩
   ·cases h
  ·cases h
 ·cases h
theorem ZLo {o:Oper} (h:needs E o=true):Z0t E o≠.w:=by
 unfold needs at h
 intro hc
 rw [hc] at h
 cases h
theorem ZI5 {s:List V} {o:Oper} {d:Option Tmp} {v:V} (h:∀d',d=some d' -> d' ∉o.looksAt ops):addrOf E (setSlot s d v) o=addrOf E s o:=by
 unfold addrOf
 split
 ·rename_i a hw
  exact ZMs _ fun d' hd=>ZuX (h d' hd) a (Zna hw)
 ·rfl
theorem Zx7 {s:List V} {H:Heap} {i:Nat} {o:Oper} {d:Option Tmp} {v:V} (h:∀d',d=some d' -> d' ∉o.looksAt ops):Z8e E ms lt s0 base i (setSlot s d v) H o=Z8e E ms lt s0 base i s H o:=by
 unfold Z8e
 rw [ZI5 h,Zqu h]
theorem Z2h {s:List V} {H H' : Heap} {i:Nat} {o:Oper} (h:∀t,(i,t)∉lt) (hl:Z8e E ms lt s0 base i s H o=true):Z8e E ms lt s0 base i s H' o=true:=by
 unfold Z8e at *
 rw [List.all_eq_true] at *
 intro p hp
 have hh:=hl p hp
 have hne:p.1≠i:=fun e=>h p.2 (by rw [<- e];exact hp)
 cases ht:ZuU base s0 p.2 with
 | none=>rw [ht] at hh;cases hh
 | some k=>
  rw [ht] at hh
  simp only [if_neg hne] at hh ⊢
  exact hh
theorem Zt5 {s:List V} {H H' : Heap} {i:Nat} {o:Oper} (h:∀p∈lt,∀k,p.1=i->ZuU base s0 p.2=some k->H'[k]? = H[k]?) (hl:Z8e E ms lt s0 base i s H o=true):Z8e E ms lt s0 base i s H' o=true:=by
 unfold Z8e at *
 rw [List.all_eq_true] at *
 intro p hp
 have hh:=hl p hp
 cases ht:ZuU base s0 p.2 with
 | none=>rw [ht] at hh;cases hh
 | some k=>
  rw [ht] at hh
  simp only at hh ⊢
  split
  ·rename_i he
   rw [if_pos he] at hh
   have hk:=h p hp k he ht
   unfold ZgQ at *
   split at hh
   ·rename_i id a b tot haddr
    simp only [Bool.and_eq_true,beq_iff_eq] at hh ⊢
    obtain⟨rfl,hh⟩:=hh
    refine⟨rfl,?_⟩
    unfold Z1H at *
    rw [hk]
    exact hh
   ·rename_i id a b tot haddr
    simp only [Bool.and_eq_true,beq_iff_eq] at hh ⊢
    obtain⟨rfl,hh⟩:=hh
    refine⟨rfl,?_⟩
    rw [hk]
    exact hh
   ·cases hh
  ·rename_i he
   rw [if_neg he] at hh
   exact hh
theorem ZHi {H H1:Heap} {t:TypeId} {a v:V} {k:Nat} (hl:ZgQ H a k=true) (h:Zds E H t a v=some H1) :
  ∃b,k<H.length/\H1=H.set k b/\∀H',H'[k]? = H[k]? -> Zds E H' t a v=some (H'.set k b):=by
 unfold ZgQ at hl
 split at hl
 ·rename_i id i off tot
  simp only [Bool.and_eq_true,beq_iff_eq] at hl
  obtain⟨rfl,hl⟩:=hl
  cases hb:Z1H H id tot with
  | none=>rw [hb] at hl;cases hl
  | some b=>
   rw [hb] at hl
   simp only [Bool.not_eq_true'] at hl
   have hlt:id<H.length:=by
    unfold Z1H at hb
    cases hh:H[id]? with
    | none=>rw [hh] at hb;cases hb
    | some b0=>exact(List.getElem?_eq_some_iff.1 hh).1
   have hb' : ∀H' : Heap,H'[id]? = H[id]? -> Z1H H' id tot=some b:=fun H' he=>by
    unfold Z1H at *
    rw [he]
    exact hb
   unfold Zds at h
   cases hti:E.ti t with
   | none=>simp only [hti] at h;cases h
   | some ii=>
    simp only [hti,hb] at h
    cases hx:b.xs[i]? with
    | none=>simp only [hx] at h;cases h
    | some x=>
     simp only [hx,hl,Bool.false_eq_true,if_false] at h
     split at h
     ·rename_i hc
      cases hs:Z6v x off v.cells with
      | none=>simp only [hs] at h;cases h
      | some x' =>
       simp only [hs] at h
       split at h
       ·rename_i ho
        simp only [Option.some.injEq] at h
        refine⟨_,hlt,h.symm,fun H' he=>?_⟩
        unfold Zds
        simp only [hti,hb' H' he,hx,hl,Bool.false_eq_true,if_false,if_pos hc,hs,if_pos ho]
       ·cases h
     ·cases h
 ·unfold Zds at h
  split at h<;>cases h
 ·cases hl
theorem ZDO {H H1:Heap} {k0:Nat} {t u:TypeId} {a x r:V} {k:Nat} (hl:ZgQ H a k=true) (h:Z7H E k0 H t u a x=some (r,H1)) :
  ∃b,k<H.length/\H1=H.set k b/\∀k' H',H'[k]? = H[k]? -> Z1x (Z1e x) H H' -> Z7H E k' H' t u a x=some (r,H'.set k b):=by
 unfold ZgQ at hl
 split at hl
 ·unfold Z7H at h
  split at h
  ·split at h
   ·split at h
    ·cases h
    ·cases h
   ·cases h
  ·cases h
 ·rename_i id off len tot
  simp only [Bool.and_eq_true,beq_iff_eq] at hl
  obtain⟨rfl,hl⟩:=hl
  have hlt:id<H.length:=by
   cases hh:H[id]? with
   | none=>rw [hh] at hl;cases hl
   | some b0=>exact(List.getElem?_eq_some_iff.1 hh).1
  unfold Z7H at h
  split at h
  ·rename_i e sz by' z0 hti
   split at h
   ·rename_i ei ys hei hut hys
    split at h
    ·rename_i hcond
     simp only at h
     cases hb:Z1H H id tot with
     | none=>rw [hb] at h;cases h
     | some b=>
      simp only [hb] at h
      split at h
      ·rename_i hc
       split at h
       ·rename_i hlim
        simp only [Option.some.injEq,Prod.mk.injEq] at h
        obtain⟨rfl,rfl⟩:=h
        refine⟨_,hlt,rfl,fun k' H' he hs=>?_⟩
        have hb' : Z1H H' id tot=some b:=by
         unfold Z1H at *
         rw [he]
         exact hb
        unfold Z7H
        simp only [hti,hei,hut,Zd3 hs,hys,ZkH hs]
        rw [if_pos hcond]
        simp only [hb']
        rw [if_pos hc,if_pos hlim]
       ·cases h
      ·rename_i hc0
       split at h
       ·rename_i hc
        simp only [Option.some.injEq,Prod.mk.injEq] at h
        obtain⟨rfl,rfl⟩:=h
        refine⟨_,hlt,rfl,fun k' H' he hs=>?_⟩
        have hb' : Z1H H' id tot=some b:=by
         unfold Z1H at *
         rw [he]
         exact hb
        unfold Z7H
        simp only [hti,hei,hut,Zd3 hs,hys,ZkH hs]
        rw [if_pos hcond]
        simp only [hb']
        rw [if_neg hc0,if_pos hc]
       ·cases h
    ·cases h
   ·cases h
  ·cases h
 ·cases hl
theorem ZvC {ids:List Nat} {nb:Option Box} {k k' : Nat} {H:Heap} {b:Box} (hk:nb.isSome=true->k' < H.length/\k' ≠k) (hid:k∉ids):eff ids nb k' (H.set k b)=(eff ids nb k' H).set k b:=by
 apply List.ext_getElem?
 intro i
 rw [Zco (H:=H.set k b) (fun h=>by rw [List.length_set];exact(hk h).1),List.getElem?_set,List.getElem?_set,Z8C (fun h=>(hk h).1),Zco (fun h=>(hk h).1)]
 by_cases hki:k=i
 ·subst hki
  simp only [if_true]
  cases nb with
  | none=>
   simp only
   split
   ·simp [ZcX,hid]
   ·rfl
  | some b2=>
   have:¬k=k' :=fun e=>(hk rfl).2 e.symm
   simp only [this,if_false]
   split
   ·simp [ZcX,hid]
   ·rfl
 ·simp only [hki,if_false]
  cases nb<;>rfl
theorem ZOG {ids:List Nat} {nb:Option Box} {k k' : Nat} {H:Heap} (hk:nb.isSome=true->k' < H.length/\k' ≠k) (hid:k∉ids):(eff ids nb k' H)[k]? = H[k]?:=by
 rw [Zco (fun h=>(hk h).1)]
 cases nb with
 | none=>
  simp only
  cases H[k]? with
  | none=>rfl
  | some b=>simp [ZcX,hid]
 | some b2=>
  have:¬k=k' :=fun e=>(hk rfl).2 e.symm
  simp only [this,if_false]
  cases H[k]? with
  | none=>rfl
  | some b=>simp [ZcX,hid]
theorem Zyt {k i:Nat} {t:Nat⊕Nat} {o:Oper} {s:List V} {H H1:Heap} {v:V} (ht:ZHz E ops o=some t) (hin:(i,t)∈lt) (hl:Z8e E ms lt s0 base i s H o=true) (h:ZmD call E ops k o ⟨s,H⟩=some (v,H1)) :
  ∃b n,ZuU base s0 t=some n/\n∈Z2N E s o/\n<H.length/\H1=H.set n b/\∀k' H',H'[n]? = H[n]? -> Z1x (Z2N E s o) H H' -> ZmD call E ops k' o ⟨s,H'⟩=some (v,H'.set n b):=by
 obtain⟨_,hg,⟨d,hw⟩⟩:=ZeQ ht
 unfold Z8e at hl
 rw [List.all_eq_true] at hl
 have hl:=hl _ hin
 cases hn:ZuU base s0 t with
 | none=>simp only [hn] at hl;cases hl
 | some n=>
  simp only [hn,if_true] at hl
  unfold addrOf at hl
  simp only [hw] at hl
  have haddr:n∈Z2N E s o:=by
   unfold Z2N
   rw [List.mem_flatMap]
   refine⟨.tmp d,by simpa using Zna hw,?_⟩
   unfold ZgQ at hl
   split at hl
   ·rename_i he
    simp only [Bool.and_eq_true,beq_iff_eq] at hl
    rw [he,<- hl.1]
    simp [Z1e,ZdA]
   ·rename_i he
    simp only [Bool.and_eq_true,beq_iff_eq] at hl
    rw [he,<- hl.1]
    simp [Z1e,ZdA]
   ·cases hl
  unfold ZmD at h ⊢
  simp only [hg] at h ⊢
  rcases ZhK hw with ⟨t',x,hop⟩|⟨c,x,hop,hc1,hc2⟩
  ·unfold opD at h ⊢
   simp only [hop] at h ⊢
   cases hst:Zds E H t' (ev E s (.tmp d)) (ev E s x) with
   | none=>rw [hst] at h;cases h
   | some H2=>
    rw [hst] at h
    simp only [Option.map_some,Option.some.injEq,Prod.mk.injEq] at h
    obtain⟨rfl,rfl⟩:=h
    obtain⟨b,h1,h2,h3⟩:=ZHi hl hst
    exact⟨b,n,rfl,haddr,h1,h2,fun k' H' he _=>by rw [h3 H' he];rfl⟩
  ·have hargs:evs E s c.args=[ev E s (.tmp d),ev E s x]:=by unfold evs;rw [hc2];rfl
   unfold opD at h ⊢
   simp only [hop,hc1,hargs] at h ⊢
   unfold Z84 at h ⊢
   split at h
   ·rename_i h1 _;cases h1
   ·rename_i a y t' u' hb he1 he2
    simp only [List.cons.injEq,and_true] at he1
    obtain⟨rfl,rfl⟩:=he1
    obtain⟨b,h1,h2,h3⟩:=ZDO hl h
    refine⟨b,n,rfl,haddr,h1,h2,fun k' H' he hs=>h3 k' H' he (fun id hid=>hs id ?_)⟩
    unfold Z2N
    rw [List.mem_flatMap]
    have:x∈c.args:=by
     have:x∈c.args.toList:=by rw [hc2];simp
     simpa using this
    exact⟨x,by simp [hop,Op.operands,Call.operands,this],hid⟩
   ·rename_i h1 _ _;cases h1
   ·rename_i h1;cases h1
   ·rename_i h1;cases h1
   ·cases h
theorem Zx5 {i x n:Nat} {t:Nat⊕Nat} {o:Oper} {s:List V} {H:Heap} (hin:(x,t)∈lt) (hne:x≠i) (hn:needs E o=true) (hbit:(ms.getD i 0).testBit x=false) (hbit' : (ms.getD x 0).testBit i=false) (ht:ZuU base s0 t=some n)
  (hl:Z8e E ms lt s0 base i s H o=true):n∉Z2N E s o:=by
 unfold Z8e at hl
 rw [List.all_eq_true] at hl
 have hl:=hl _ hin
 simp only [ht,if_neg hne,hn,linked,hbit,hbit',Bool.or_self,Bool.not_true,Bool.false_or,Bool.not_eq_true'] at hl
 simpa using hl
theorem ZOd {k:Nat} {o:Oper} {s:List V} {H H1:Heap} {v:V} (hc:Z0t E o = .s) (h:ZmD call E ops k o ⟨s,H⟩=some (v,H1)):H1=H/\∀H' k',ZmD call E ops k' o ⟨s,H'⟩=some (v,H'):=by
 unfold ZmD at *
 cases hg:o.guard with
 | none=>simp only [hg] at h ⊢;exact ZPq hc h
 | some jw=>
  obtain⟨j,want⟩:=jw
  simp only [hg] at h ⊢
  cases hd:(ops[j]?).bind (·.dst) with
  | none=>simp [hd] at h
  | some d=>
   simp only [hd] at h ⊢
   cases hgd:Zgv (s.getD d .und) want with
   | none=>rw [hgd] at h;cases h
   | some r=>
    rw [hgd] at h
    cases r with
    | true=>simp only at h ⊢;exact ZPq hc h
    | false=>
     simp only [Option.some.injEq,Prod.mk.injEq] at h ⊢
     exact⟨h.2.symm,fun H' k' =>⟨h.1,trivial⟩⟩
theorem ZfX (hpure:ZEX E call) {k:Nat} {o:Oper} {s:List V} {H H1:Heap} {v:V} (hc:Z0t E o≠.w) (hcc:Z0t E o≠.c) (h:ZmD call E ops k o ⟨s,H⟩=some (v,H1)) :
  ∃ids nb,(∀i∈ids,i∈Z2N E s o)/\(nb.isSome=true->Z0t E o = .a)/\H1=eff ids nb k H /\
   ∀H' k',(Z0t E o = .a->k' = k)->Z1x (Z2N E s o) H H' -> ZmD call E ops k' o ⟨s,H'⟩=some (v,eff ids nb k' H'):=by
 unfold ZmD at *
 cases hg:o.guard with
 | none=>simp only [hg] at h ⊢;exact ZLS hpure hc hcc h
 | some jw=>
  obtain⟨j,want⟩:=jw
  simp only [hg] at h ⊢
  cases hd:(ops[j]?).bind (·.dst) with
  | none=>simp [hd] at h
  | some d=>
   simp only [hd] at h ⊢
   cases hgd:Zgv (s.getD d .und) want with
   | none=>rw [hgd] at h;cases h
   | some r=>
    rw [hgd] at h
    cases r with
    | true=>simp only at h ⊢;exact ZLS hpure hc hcc h
    | false=>
     simp only [Option.some.injEq,Prod.mk.injEq] at h ⊢
     exact⟨[],none,by simp,by simp,h.2.symm,fun H' k' _ _=>⟨h.1,rfl⟩⟩
theorem Zk3 (hfree:ZFc E call) {k:Nat} {o:Oper} {s:List V} {H H1:Heap} {v:V} (hc:Z0t E o = .c) (h:ZmD call E ops k o ⟨s,H⟩=some (v,H1)) :
  ∃ids nbs,(∀i∈ids,i∈Z2N E s o)/\H1=bump H ids++nbs/\∀H' k',H'.length=H.length->Z1x (Z2N E s o) H H' -> ZmD call E ops k' o ⟨s,H'⟩=some (v,bump H' ids++nbs):=by
 unfold ZmD at *
 cases hg:o.guard with
 | none=>simp only [hg] at h ⊢;exact ZFr hfree hc h
 | some jw=>
  obtain⟨j,want⟩:=jw
  simp only [hg] at h ⊢
  cases hd:(ops[j]?).bind (·.dst) with
  | none=>simp [hd] at h
  | some d=>
   simp only [hd] at h ⊢
   cases hgd:Zgv (s.getD d .und) want with
   | none=>rw [hgd] at h;cases h
   | some r=>
    rw [hgd] at h
    cases r with
    | true=>simp only at h ⊢;exact ZFr hfree hc h
    | false=>
     simp only [Option.some.injEq,Prod.mk.injEq] at h ⊢
     exact⟨[],[],by simp,by rw [List.append_nil];exact h.2.symm,fun H' k' _ _=>⟨h.1,by rw [List.append_nil];rfl⟩⟩
theorem ZqR {ids:List Nat} {H:Heap} (ys:List Box) (h:∀i∈ids,i<H.length):bump (H++ys) ids=bump H ids++ys:=by
 apply List.ext_getElem?
 intro i
 rw [Z4a,List.getElem?_append,List.getElem?_append,bump_length,Z4a]
 by_cases hi:i<H.length
 ·rw [if_pos hi,if_pos hi]
 ·have:i∉ids:=fun hm=>hi (h i hm)
  rw [if_neg hi,if_neg hi]
  cases ys[i - H.length]? with
  | none=>rfl
  | some b=>simp [this]
theorem Ztz {ids:List Nat} {nb:Option Box} {k:Nat} {H:Heap} (ys:List Box) (h:∀i∈ids,i<H.length) (hk:nb.isSome=true->k<H.length):eff ids nb k (H++ys)=eff ids nb k H++ys:=by
 cases nb with
 | none=>exact ZqR ys h
 | some b=>
  have hk:=hk rfl
  simp only [eff,place,ZqR ys h,List.length_append,bump_length]
  rw [if_pos (by omega),if_pos hk,List.set_append_left _ _ (by rw [bump_length];exact hk)]
theorem Zg4 {R:List Nat} {H H' : Heap} (ys:List Box) (h:Z1x R H H') (hR:∀i∈R,i<H'.length):Z1x R H (H' ++ys):=by
 intro i hi
 rw [List.getElem?_append_left (hR i hi)]
 exact h i hi
theorem Zar (R ids:List Nat) (H:Heap):Z1x R H (bump H ids):=by
 have:=ZhX (R:=R) (ids:=ids) (nb:=none) (k:=0) (H:=H) (fun h=>by cases h)
 exact this
theorem ZLl {R:List Nat} {H:Heap} {n:Nat} {b:Box} (h:n∉R):Z1x R H (H.set n b):=by
 intro i hi
 rw [List.getElem?_set_ne (fun e=>h (by rw [e];exact hi))]
theorem Z1x.trans {R:List Nat} {H H' H2:Heap} (h:Z1x R H H') (k:Z1x R H' H2):Z1x R H H2:=fun i hi=>(h i hi).trans (k i hi)
theorem Zy2 {s:List V} {d e:Option Tmp} {v u:V} (h:∀x,d=some x->e≠some x):setSlot (setSlot s d v) e u=setSlot (setSlot s e u) d v:=by
 cases d with
 | none=>rfl
 | some d=>
  cases e with
  | none=>rfl
  | some e=>
   have:d≠e:=fun hh=>h d rfl (by rw [hh])
   simp only [setSlot]
   exact List.set_comm v u this
theorem ZHp (hcalls:ZaO E call) (hm:∀i o,ops[i]? = some o->Z0t E o = .a->i<m) {x y:Nat} {ox oy:Oper} (hx:ops[x]? = some ox) (hy:ops[y]? = some oy) (hxy:x≠y)
  (hpass:(ZoN E ops ox oy||(Z52 E ops lt x ox oy||Z52 E ops lt y oy ox))=true) (hlt:∀x t,(x,t)∈lt->∃ox,ops[x]? = some ox/\ZHz E ops ox=some t) (hbit:(ms.getD y 0).testBit x=false) (hbit' : (ms.getD x 0).testBit y=false) {st st1 st2:St}
  (h1:Zcd call E ops ms lt s0 base m x st=some st1) (h2:Zcd call E ops ms lt s0 base m y st1=some st2) :
  ∃st1',Zcd call E ops ms lt s0 base m y st=some st1' /\ Zcd call E ops ms lt s0 base m x st1' = some st2:=by
 have hpure:=hcalls.pure
 have hfree:=hcalls.free
 have hap:ox.apart ops oy=true\/oy.apart ops ox=true:=by
  simp only [Bool.or_eq_true,ZoN,Z52,Bool.and_eq_true] at hpass
  rcases hpass with h|h|h
  ·exact .inl h.2
  ·exact .inl h.1
  ·exact .inr h.1
 have hsp:(∀d,ox.dst=some d->d∉oy.looksAt ops)/\(∀d,ox.dst=some d->oy.dst≠some d)/\(∀d,oy.dst=some d->d∉ox.looksAt ops):=by
  rcases hap with h|h
  ·exact Oper.apart_spec h
  ·obtain⟨b1,b2,b3⟩:=Oper.apart_spec h
   exact⟨b3,fun d h1 h2=>b2 d h2 h1,b1⟩
 obtain⟨a1,a2,a3⟩:=hsp
 obtain⟨s1,⟨l1,c1⟩,d1,vx,Hx,e1,rfl⟩:=(Zl1 hx).1 h1
 obtain⟨s2,⟨l2,c2⟩,d2,vy,Hy,e2,rfl⟩:=(Zl1 hy).1 h2
 obtain⟨s,H⟩:=st
 simp only at *
 rw [ZFj a1] at e2
 rw [Zx7 a1] at l2
 have s2' : ZjF E ops ms base m y s oy:=by unfold ZjF at *;rw [Zqu a1] at s2;exact s2
 have s1' : ZjF E ops ms base m x (setSlot s oy.dst vy) ox:=by unfold ZjF at *;rw [Zqu a3];exact s1
 have keptx:Z0t E ox = .a->base+x<H.length:=fun hc=>by
  obtain⟨b,hb,_⟩:=d1 hc
  exact(List.getElem?_eq_some_iff.1 hb).1
 have nox:Z0t E ox = .a->base+x∉Z2N E s oy:=fun hc hin=>by
  rcases s2' _ hin with h|⟨h,_⟩|⟨_,h⟩
  ·omega
  ·have:=hm x ox hx hc;omega
  ·rw [show base+x - base=x by omega,hbit] at h;cases h
 have noy:Z0t E oy = .a->base+y∉Z2N E s ox:=fun hc hin=>by
  rcases s1 _ hin with h|⟨h,_⟩|⟨_,h⟩
  ·omega
  ·have:=hm y oy hy hc;omega
  ·rw [show base+y - base=y by omega,hbit'] at h;cases h
 have seex:Z0t E oy = .c->∀id∈Z2N E s ox,id<base+m:=fun hc id hid=>by
  rcases s1 id hid with h|⟨_,h⟩|⟨h,_⟩
  ·omega
  ·exfalso
   unfold ZtY at h
   rw [List.all_eq_true] at h
   have:=h y (by simpa using (Array.getElem?_eq_some_iff.1 hy).1)
   simp only [hy,hc,linked,hbit,hbit',decide_true,Bool.not_true,Bool.or_self,Bool.or_false,beq_iff_eq] at this
   exact hxy this.symm
  ·exact h
 have seey:Z0t E ox = .c->∀id∈Z2N E s oy,id<base+m:=fun hc id hid=>by
  rcases s2' id hid with h|⟨_,h⟩|⟨h,_⟩
  ·omega
  ·exfalso
   unfold ZtY at h
   rw [List.all_eq_true] at h
   have:=h x (by simpa using (Array.getElem?_eq_some_iff.1 hx).1)
   simp only [hx,hc,linked,hbit,hbit',decide_true,Bool.not_true,Bool.or_self,Bool.or_false,beq_iff_eq] at this
   exact hxy this
  ·exact h
 have fin:∀(Hy' : Heap),ZjF E ops ms base m y s oy->(Z8e E ms lt s0 base y s H oy=true/\(Z0t E oy = .c->base+m<=H.length))->(Z0t E oy = .a->∃b,H[base+y]? = some b/\b.live=false)->ZmD call E ops (kOf E oy base y H) oy ⟨s,H⟩=some (vy,Hy') ->
   (Z8e E ms lt s0 base x s Hy' ox=true/\(Z0t E ox = .c->base+m<=Hy'.length))->(Z0t E ox = .a->∃b,Hy'[base+x]? = some b/\b.live=false)->ZmD call E ops (kOf E ox base x Hy') ox ⟨s,Hy'⟩=some (vx,Hy) ->
   ∃st1',Zcd call E ops ms lt s0 base m y ⟨s,H⟩=some st1' /\ Zcd call E ops ms lt s0 base m x st1' = some ⟨setSlot (setSlot s ox.dst vx) oy.dst vy,Hy⟩:=by
  intro Hy' g1 l3 g2 g3 l4 g4 g5
  refine⟨⟨setSlot s oy.dst vy,Hy'⟩,(Zl1 hy).2 ⟨g1,l3,g2,vy,Hy',g3,rfl⟩,(Zl1 hx).2 ⟨s1',⟨(by rw [Zx7 a3];exact l4.1),l4.2⟩,g4,vx,Hy,?_,?_⟩⟩
  ·rw [ZFj a3];exact g5
  ·rw [Zy2 a2]
 have notin:∀(z:Nat) (oz:Oper),ops[z]? = some oz->Z0t E oz≠.w->∀t,(z,t)∉lt:=by
  intro z oz hz hc t hin
  obtain⟨o',ho',ht'⟩:=hlt z t hin
  rw [hz] at ho'
  cases ho'
  exact hc (ZeQ ht').1
 cases hlx:Z52 E ops lt x ox oy with
 | true=>
  unfold Z52 at hlx
  simp only [Bool.and_eq_true,List.any_eq_true,beq_iff_eq] at hlx
  obtain⟨_,hny,⟨x',t⟩,hin,hx'⟩:=hlx
  simp only at hx'
  subst hx'
  obtain⟨ox',hox',htx⟩:=hlt _ t hin
  rw [hx] at hox'
  cases hox'
  have hnw:=ZLo hny
  obtain⟨b,n,hn,hnin,hnlt,rfl,f3⟩:=Zyt htx hin l1 e1
  have hjy:n∉Z2N E s oy:=Zx5 hin hxy hny hbit hbit' hn l2
  have late1:∀Hy' : Heap,Hy'[n]? = H[n]? -> Z8e E ms lt s0 base x' s Hy' ox=true:=fun Hy' hat=>by
   refine Zt5 (fun p hp k he hk=>?_) l1
   obtain⟨o',ho',ht'⟩:=hlt p.1 p.2 hp
   rw [he,hx] at ho'
   cases ho'
   rw [htx] at ht'
   cases ht'
   rw [hn] at hk
   cases hk
   exact hat
  have ncx:Z0t E ox = .c->False:=fun hc=>by rw [(ZeQ htx).1] at hc;cases hc
  by_cases hyc:Z0t E oy = .c
  ·obtain⟨idy,nbs,y1,rfl,y4⟩:=Zk3 hfree hyc e2
   have hl:base+m<=H.length:=by have:=c2 hyc;rw [List.length_set] at this;exact this
   have hjid:n∉idy:=fun h=>hjy (y1 _ h)
   have g3:=y4 H (kOf E oy base y H) (by rw [List.length_set]) (ZLl hjy).symm
   have hat:(bump H idy++nbs)[n]? = H[n]?:=by
    rw [List.getElem?_append_left (by rw [bump_length];exact hnlt),Z4a]
    cases H[n]? with
    | none=>rfl
    | some b=>simp [hjid]
   refine fin _ s2' ⟨Z2h (notin y oy hy hnw) l2,fun _=>hl⟩ (fun hc=>by rw [hyc] at hc;cases hc) g3 ⟨late1 _ hat,fun hc=>(ncx hc).elim⟩ (fun hc=>by rw [(ZeQ htx).1] at hc;cases hc) ?_
   rw [f3 _ _ hat (Zg4 nbs (Zar _ _ _) (fun i hi=>by rw [bump_length];exact Nat.lt_of_lt_of_le (seex hyc i hi) hl))]
   congr 2
   rw [List.set_append_left _ _ (by rw [bump_length];exact hnlt)]
   congr 1
   have:=ZvC (ids:=idy) (nb:=none) (k' :=0) (H:=H) (b:=b) (k:=n) (fun h=>by cases h) hjid
   exact this.symm
  have hne:Z0t E oy = .a->base+y≠n:=fun hc e=>noy hc (by rw [e];exact hnin)
  obtain⟨idy,nby,y1,y2,rfl,y4⟩:=ZfX hpure hnw hyc e2
  have hkH:kOf E oy base y (H.set n b)=kOf E oy base y H:=by unfold kOf;rw [List.length_set]
  have deady:Z0t E oy = .a->∃b,H[base+y]? = some b/\b.live=false:=fun hc=>by
   obtain⟨b',hb',hd⟩:=d2 hc
   rw [List.getElem?_set_ne (fun e=>hne hc e.symm)] at hb'
   exact⟨b',hb',hd⟩
  have hyl:nby.isSome=true->kOf E oy base y H<H.length/\kOf E oy base y H≠n:=fun h=>by
   have hc:=y2 h
   obtain⟨b',hb',_⟩:=deady hc
   have:=(List.getElem?_eq_some_iff.1 hb').1
   unfold kOf
   rw [if_pos hc]
   exact⟨this,hne hc⟩
  have hjid:n∉idy:=fun h=>hjy (y1 _ h)
  have g3:=y4 H (kOf E oy base y H) (fun hc=>by rw [hkH]) (fun i hi=>by rw [List.getElem?_set_ne (fun e=>hjy (by rw [e];exact hi))])
  have hat:=ZOG (H:=H) hyl hjid
  refine fin _ s2' ⟨Z2h (notin y oy hy hnw) l2,fun hc=>absurd hc hyc⟩ deady g3 ⟨late1 _ hat,fun hc=>(ncx hc).elim⟩ (fun hc=>by rw [(ZeQ htx).1] at hc;cases hc) ?_
  rw [f3 _ _ hat (ZhX (fun h=>⟨(hyl h).1,by
    have hk:kOf E oy base y H=base+y:=by simp [kOf,y2 h]
    rw [hk]
    exact noy (y2 h)⟩)),hkH,ZvC hyl hjid]
 | false=>
 cases hly:Z52 E ops lt y oy ox with
 | true=>
  unfold Z52 at hly
  simp only [Bool.and_eq_true,List.any_eq_true,beq_iff_eq] at hly
  obtain⟨_,hnx,⟨y',t⟩,hin,hy'⟩:=hly
  simp only at hy'
  subst hy'
  obtain⟨oy',hoy',hty⟩:=hlt _ t hin
  rw [hy] at hoy'
  cases hoy'
  have hnw:=ZLo hnx
  obtain⟨b,n,hn,hnin,hnlt,rfl,f3⟩:=Zyt hty hin l2 e2
  have hjx:n∉Z2N E s ox:=Zx5 hin (Ne.symm hxy) hnx hbit' hbit hn l1
  have late2:Hx[n]? = H[n]? -> Z8e E ms lt s0 base y' s H oy=true:=fun hat=>by
   refine Zt5 (fun p hp k he hk=>?_) l2
   obtain⟨o',ho',ht'⟩:=hlt p.1 p.2 hp
   rw [he,hy] at ho'
   cases ho'
   rw [hty] at ht'
   cases ht'
   rw [hn] at hk
   cases hk
   exact hat.symm
  have ncy:Z0t E oy = .c->False:=fun hc=>by rw [(ZeQ hty).1] at hc;cases hc
  by_cases hxc:Z0t E ox = .c
  ·obtain⟨idx,nbs,x1,rfl,x4⟩:=Zk3 hfree hxc e1
   have hl:base+m<=H.length:=c1 hxc
   have hnl:n<H.length:=Nat.lt_of_lt_of_le (seey hxc n hnin) hl
   have hjid:n∉idx:=fun h=>hjx (x1 _ h)
   have hat:(bump H idx++nbs)[n]? = H[n]?:=by
    rw [List.getElem?_append_left (by rw [bump_length];exact hnl),Z4a]
    cases H[n]? with
    | none=>rfl
    | some b=>simp [hjid]
   refine fin _ s2' ⟨late2 hat,fun hc=>(ncy hc).elim⟩ (fun hc=>by rw [(ZeQ hty).1] at hc;cases hc) (f3 _ H hat.symm (Zg4 nbs (Zar _ _ _) (fun i hi=>by rw [bump_length];exact Nat.lt_of_lt_of_le (seey hxc i hi) hl)).symm)
    ⟨Z2h (notin x ox hx hnw) l1,fun _=>by rw [List.length_set];exact hl⟩ (fun hc=>by rw [hxc] at hc;cases hc) ?_
   rw [x4 _ _ (by rw [List.length_set]) (ZLl hjx)]
   congr 2
   rw [List.set_append_left _ _ (by rw [bump_length];exact hnl)]
   congr 1
   have:=ZvC (ids:=idx) (nb:=none) (k' :=0) (H:=H) (b:=b) (k:=n) (fun h=>by cases h) hjid
   exact this
  obtain⟨idx,nbx,x1,x2,rfl,x4⟩:=ZfX hpure hnw hxc e1
  have hne:Z0t E ox = .a->base+x≠n:=fun hc e=>nox hc (by rw [e];exact hnin)
  have hxl:nbx.isSome=true->kOf E ox base x H<H.length/\kOf E ox base x H≠n:=fun h=>by
   have hc:=x2 h
   have:=keptx hc
   unfold kOf
   rw [if_pos hc]
   exact⟨this,hne hc⟩
  have hjid:n∉idx:=fun h=>hjx (x1 _ h)
  have hat:=ZOG (H:=H) hxl hjid
  have hkS:kOf E ox base x (H.set n b)=kOf E ox base x H:=by unfold kOf;rw [List.length_set]
  have hsy:Z1x (Z2N E s oy) (eff idx nbx (kOf E ox base x H) H) H:=(ZhX (fun h=>⟨(hxl h).1,by
   have hk:kOf E ox base x H=base+x:=by simp [kOf,x2 h]
   rw [hk]
   exact nox (x2 h)⟩)).symm
  refine fin _ s2' ⟨late2 hat,fun hc=>(ncy hc).elim⟩ (fun hc=>by rw [(ZeQ hty).1] at hc;cases hc) (f3 _ H hat.symm hsy) ⟨Z2h (notin x ox hx hnw) l1,fun hc=>absurd hc hxc⟩ (fun hc=>?_) ?_
  ·obtain⟨b',hb',hd⟩:=d1 hc
   exact⟨b',by rw [List.getElem?_set_ne (fun e=>hne hc e.symm)];exact hb',hd⟩
  ·rw [x4 _ _ (fun hc=>by rw [hkS]) (fun i hi=>by rw [List.getElem?_set_ne (fun e=>hjx (by rw [e];exact hi))]),hkS,ZvC hxl hjid]
 | false=>
 rw [hlx,hly,Bool.or_false,Bool.or_false] at hpass
 unfold ZoN at hpass
 simp only [Bool.and_eq_true] at hpass
 have hcomp:=hpass.1
 by_cases hcx:Z0t E ox = .s
 ·obtain⟨f1,f2⟩:=ZOd hcx e1
  subst f1
  exact fin Hy s2' ⟨l2,c2⟩ d2 e2 ⟨Z2h (notin x ox hx (by rw [hcx];intro h;cases h)) l1,fun hc=>by rw [hcx] at hc;cases hc⟩ (fun hc=>by rw [hcx] at hc;cases hc) (f2 _ _)
 by_cases hcy:Z0t E oy = .s
 ·obtain⟨f1,f2⟩:=ZOd hcy e2
  subst f1
  exact fin H s2' ⟨Z2h (notin y oy hy (by rw [hcy];intro h;cases h)) l2,fun hc=>by rw [hcy] at hc;cases hc⟩ (fun hc=>by rw [hcy] at hc;cases hc) (f2 _ _) ⟨l1,c1⟩ d1 e1
 have hwx:Z0t E ox≠.w:=fun hw=>by rw [hw] at hcomp;cases hh:Z0t E oy<;>simp_all [ZKm]
 have hwy:Z0t E oy≠.w:=fun hw=>by rw [hw] at hcomp;cases hh:Z0t E ox<;>simp_all [ZKm]
 by_cases hxc:Z0t E ox = .c
 ·have hyc:Z0t E oy≠.c:=fun hc=>by rw [hxc,hc] at hcomp;cases hcomp
  obtain⟨idx,nbs,x1,rfl,x4⟩:=Zk3 hfree hxc e1
  obtain⟨idy,nby,y1,y2,rfl,y4⟩:=ZfX hpure hwy hyc e2
  have hl:base+m<=H.length:=c1 hxc
  have hry:∀i∈Z2N E s oy,i<H.length:=fun i hi=>Nat.lt_of_lt_of_le (seey hxc i hi) hl
  have kyl:nby.isSome=true->base+y<H.length:=fun h=>by have:=hm y oy hy (y2 h);omega
  have g3:=y4 H (kOf E oy base y H) (fun hc=>by simp [kOf,hc]) (Zg4 nbs (Zar _ _ _) (fun i hi=>by rw [bump_length];exact hry i hi)).symm
  have hke:∀H' : Heap,eff idy nby (kOf E oy base y H')=eff idy nby (base+y):=fun H' =>by
   cases hnb:nby with
   | none=>rfl
   | some b=>simp [kOf,y2 (by rw [hnb];rfl)]
  rw [hke] at g3
  have kyn:nby.isSome=true->base+y∉Z2N E s ox:=fun h=>noy (y2 h)
  have hlen:(eff idy nby (base+y) H).length=H.length:=Z8C kyl
  have dy:Z0t E oy = .a->∃b,H[base+y]? = some b/\b.live=false:=fun hc=>by
   obtain⟨b,hb,hd⟩:=d2 hc
   have hlt:base+y<H.length:=by have:=hm y oy hy hc;omega
   rw [List.getElem?_append_left (by rw [bump_length];exact hlt),Z4a] at hb
   cases hh:H[base+y]? with
   | none=>simp [hh] at hb
   | some b0=>
    simp only [hh,Option.map_some,Option.some.injEq] at hb
    refine⟨b0,rfl,?_⟩
    subst hb
    split at hd<;>exact hd
  refine fin _ s2' ⟨Z2h (notin y oy hy hwy) l2,fun hc=>absurd hc hyc⟩ dy g3 ⟨Z2h (notin x ox hx hwx) l1,fun _=>by rw [hlen];exact hl⟩ (fun hc=>by rw [hxc] at hc;cases hc) ?_
  rw [x4 _ _ hlen (ZhX (fun h=>⟨kyl h,kyn h⟩)),hke]
  congr 2
  rw [Ztz nbs (fun i hi=>by rw [bump_length];exact hry i (y1 i hi)) (fun h=>by rw [bump_length];exact kyl h)]
  congr 1
  have:=Zwp (ZgA:=idx) (ids2:=idy) (nb1:=none) (nb2:=nby) (k1:=0) (k2:=base+y) (H:=H) (fun h=>by cases h) (fun h=>⟨kyl h,fun hin=>kyn h (x1 _ hin)⟩) (fun h=>by cases h)
  exact this
 by_cases hyc:Z0t E oy = .c
 ·obtain⟨idx,nbx,x1,x2,rfl,x4⟩:=ZfX hpure hwx hxc e1
  obtain⟨idy,nbs,y1,rfl,y4⟩:=Zk3 hfree hyc e2
  have kxl:nbx.isSome=true->base+x<H.length:=fun h=>keptx (x2 h)
  have hke:∀H' : Heap,eff idx nbx (kOf E ox base x H')=eff idx nbx (base+x):=fun H' =>by
   cases hnb:nbx with
   | none=>rfl
   | some b=>simp [kOf,x2 (by rw [hnb];rfl)]
  rw [hke] at c2 y4
  have hlen:(eff idx nbx (base+x) H).length=H.length:=Z8C kxl
  have hl:base+m<=H.length:=by have:=c2 hyc;rw [hlen] at this;exact this
  have hrx:∀i∈Z2N E s ox,i<H.length:=fun i hi=>Nat.lt_of_lt_of_le (seex hyc i hi) hl
  have g3:=y4 H (kOf E oy base y H) hlen.symm (ZhX (fun h=>⟨kxl h,nox (x2 h)⟩)).symm
  refine fin _ s2' ⟨Z2h (notin y oy hy hwy) l2,fun _=>hl⟩ (fun hc=>by rw [hyc] at hc;cases hc) g3 ⟨Z2h (notin x ox hx hwx) l1,fun hc=>absurd hc hxc⟩ (fun hc=>?_) ?_
  ·obtain⟨b,hb,hd⟩:=d1 hc
   have hlt:=keptx hc
   rw [List.getElem?_append_left (by rw [bump_length];exact hlt),Z4a,hb]
   refine⟨_,rfl,?_⟩
   simp only
   split<;>exact hd
  ·rw [x4 _ (kOf E ox base x (bump H idy++nbs)) (fun hc=>by simp [kOf,hc]) (Zg4 nbs (Zar _ _ _) (fun i hi=>by rw [bump_length];exact hrx i hi)),hke,hke]
   congr 2
   rw [Ztz nbs (fun i hi=>by rw [bump_length];exact hrx i (x1 i hi)) (fun h=>by rw [bump_length];exact kxl h)]
   congr 1
   have:=Zwp (ZgA:=idx) (ids2:=idy) (nb1:=nbx) (nb2:=none) (k1:=base+x) (k2:=0) (H:=H) (fun h=>⟨kxl h,fun hin=>nox (x2 h) (y1 _ hin)⟩) (fun h=>by cases h) (fun _ h=>by cases h)
   exact this
 obtain⟨idx,nbx,x1,x2,rfl,x4⟩:=ZfX hpure hwx hxc e1
 obtain⟨idy,nby,y1,y2,rfl,y4⟩:=ZfX hpure hwy hyc e2
 have kx:nbx.isSome=true->kOf E ox base x H=base+x:=fun h=>by simp [kOf,x2 h]
 have hxlt:nbx.isSome=true->kOf E ox base x H<H.length:=fun h=>by rw [kx h];exact keptx (x2 h)
 have hlen:=Z8C (ids:=idx) hxlt
 have ky:nby.isSome=true->∀H',kOf E oy base y H' = base+y:=fun h H' =>by simp [kOf,y2 h]
 have simx:Z1x (Z2N E s oy) (eff idx nbx (kOf E ox base x H) H) H:=(ZhX (fun h=>⟨hxlt h,by rw [kx h];exact nox (x2 h)⟩)).symm
 have deady:Z0t E oy = .a->∃b,H[base+y]? = some b/\b.live=false:=fun hc=>
  (ZFv (fun h=>⟨hxlt h,by rw [kx h];omega⟩)).1 (d2 hc)
 have hylt:Z0t E oy = .a->base+y<H.length:=fun hc=>by
  obtain⟨b,hb,_⟩:=deady hc
  exact(List.getElem?_eq_some_iff.1 hb).1
 have g3:=y4 H (kOf E oy base y H) (fun hc=>by simp [kOf,hc]) simx
 have hylt' : nby.isSome=true->kOf E oy base y H<H.length:=fun h=>by rw [ky h];exact hylt (y2 h)
 refine fin _ s2' ⟨Z2h (notin y oy hy hwy) l2,fun hc=>absurd hc hyc⟩ deady g3 ⟨Z2h (notin x ox hx hwx) l1,fun hc=>absurd hc hxc⟩ (fun hc=>(ZFv (fun h=>⟨hylt' h,by rw [ky h];omega⟩)).2 (d1 hc)) ?_
 have simy:Z1x (Z2N E s ox) H (eff idy nby (kOf E oy base y H) H):=ZhX (fun h=>⟨hylt' h,by rw [ky h];exact noy (y2 h)⟩)
 have g5:=x4 _ (kOf E ox base x (eff idy nby (kOf E oy base y H) H)) (fun hc=>by simp [kOf,hc]) simy
 rw [g5]
 have hk1:nbx.isSome=true->kOf E ox base x (eff idy nby (kOf E oy base y H) H)=base+x:=fun h=>by simp [kOf,x2 h]
 have hkx:eff idx nbx (kOf E ox base x (eff idy nby (kOf E oy base y H) H)) (eff idy nby (kOf E oy base y H) H)=eff idx nbx (kOf E ox base x H) (eff idy nby (kOf E oy base y H) H):=by
  cases nbx with
  | none=>rfl
  | some b=>rw [hk1 rfl,kx rfl]
 have hky:eff idy nby (kOf E oy base y (eff idx nbx (kOf E ox base x H) H)) (eff idx nbx (kOf E ox base x H) H)=eff idy nby (kOf E oy base y H) (eff idx nbx (kOf E ox base x H) H):=by
  cases nby with
  | none=>rfl
  | some b=>rw [ky rfl,ky rfl]
 rw [hkx,hky]
 congr 2
 exact Zwp (fun h=>⟨hxlt h,by rw [kx h];exact fun hin=>nox (x2 h) (y1 _ hin)⟩) (fun h=>⟨hylt' h,by rw [ky h];exact fun hin=>noy (y2 h) (x1 _ hin)⟩) (fun h1 h2=>by rw [kx h1,ky h2];omega)
end
theorem ZKG (acc:List Nat) (j:Nat):∀(es:List Edge) (m:Nat),(es.foldl (fun m e=>if Region.binds .any e then m ||| (1 <<< e.on) ||| acc.getD e.on 0 else m) m).testBit j=true↔
  m.testBit j=true\/∃e∈es,Region.binds .any e=true/\(j=e.on\/(acc.getD e.on 0).testBit j=true):=by
 intro es
 induction es with
 | nil=>intro m;simp
 | cons e es ih=>
  intro m
  rw [List.foldl_cons,ih]
  by_cases hb:Region.binds .any e=true
  ·simp only [hb,if_true,Nat.testBit_or,Bool.or_eq_true,Nat.one_shiftLeft,Nat.testBit_two_pow,decide_eq_true_eq,List.mem_cons,exists_eq_or_imp,true_and]
   constructor
   ·rintro (((h|h)|h)|h)
    ·exact .inl h
    ·exact .inr (.inl (.inl h.symm))
    ·exact .inr (.inl (.inr h))
    ·exact .inr (.inr h)
   ·rintro (h|(h|h)|h)
    ·exact .inl (.inl (.inl h))
    ·exact .inl (.inl (.inr h.symm))
    ·exact .inl (.inr h)
    ·exact .inr h
  ·simp only [hb,Bool.false_eq_true,if_false,List.mem_cons,exists_eq_or_imp,false_and,false_or]
theorem ZGI (acc:List Nat) (o:Oper) (j:Nat):(ZtI acc o).testBit j=true↔∃e∈o.after,Region.binds .any e=true/\(j=e.on\/(acc.getD e.on 0).testBit j=true):=by
 unfold ZtI
 rw [ZKG]
 simp
theorem Zt4:∀(os:List Oper) (acc:List Nat) (i:Nat),i<acc.length->(Z2X acc os)[i]? = acc[i]?:=by
 intro os
 induction os with
 | nil=>intro acc i hi;rfl
 | cons o os ih=>
  intro acc i hi
  simp only [Z2X]
  rw [ih _ i (by simp;omega),List.getElem?_append_left hi]
theorem ZJy:∀(os:List Oper) (acc:List Nat) (i:Nat) (o:Oper),os[i]? = some o ->
  ∃acc',(Z2X acc os)[acc.length+i]? = some (ZtI acc' o)/\acc'.length=acc.length+i/\∀j,j<acc'.length->(Z2X acc os)[j]? = acc'[j]?:=by
 intro os
 induction os with
 | nil=>intro acc i o h;simp at h
 | cons p os ih=>
  intro acc i o h
  cases i with
  | zero=>
   simp at h
   subst h
   refine⟨acc,?_,rfl,fun j hj=>?_⟩
   ·simp only [Z2X]
    rw [Zt4 _ _ _ (by simp)]
    simp
   ·simp only [Z2X]
    rw [Zt4 _ _ _ (by simp;omega),List.getElem?_append_left hj]
  | succ i=>
   simp at h
   obtain⟨acc',h1,h2,h3⟩:=ih (acc++[ZtI acc p]) i o h
   refine⟨acc',?_,by rw [h2];simp;omega,h3⟩
   simp only [Z2X]
   rw [<- h1]
   congr 1
   simp
   omega
section
variable {E:Env} {ops:Array Oper}
structure Zzg (E:Env) (ops:Array Oper):Prop where
 low:∀(i:Nat) (o:Oper),ops[i]? = some o->∀e∈o.after,Region.binds .any e=true->e.on<i
 bit:∀(i:Nat) (o:Oper),ops[i]? = some o->∀j,((Z2X [] ops.toList).getD i 0).testBit j=true↔∃e∈o.after,Region.binds .any e=true/\(j=e.on\/((Z2X [] ops.toList).getD e.on 0).testBit j=true)
 lt:∀(i j:Nat),i<ops.size->((Z2X [] ops.toList).getD i 0).testBit j=true->j<i
 pass:∀(x y:Nat) (ox oy:Oper),ops[x]? = some ox->ops[y]? = some oy->x<y->((Z2X [] ops.toList).getD y 0).testBit x=true\/(ZoN E ops ox oy||(Z52 E ops (ZwD E ops) x ox oy||Z52 E ops (ZwD E ops) y oy ox))=true
theorem ZyV (h:ZFl E ops=true):Zzg E ops:=by
 unfold ZFl at h
 simp only [List.all_eq_true,List.mem_range] at h
 have hlow:∀(i:Nat) (o:Oper),ops[i]? = some o->∀e∈o.after,Region.binds .any e=true->e.on<i:=by
  intro i o ho e he
  have:=h i (Array.getElem?_eq_some_iff.1 ho).1
  simp only [ho,Bool.and_eq_true,Array.all_eq_true_iff_forall_mem,Bool.or_eq_true,Bool.not_eq_true',decide_eq_true_eq] at this
  intro hb
  rcases this.1 e he with hh|hh
  ·rw [hb] at hh;cases hh
  ·exact hh
 have hbit:∀(i:Nat) (o:Oper),ops[i]? = some o->∀j,((Z2X [] ops.toList).getD i 0).testBit j=true↔∃e∈o.after,Region.binds .any e=true/\(j=e.on\/((Z2X [] ops.toList).getD e.on 0).testBit j=true):=by
  intro i o ho j
  obtain⟨acc',h1,h2,h3⟩:=ZJy ops.toList [] i o (by simpa using ho)
  simp only [List.length_nil,Nat.zero_add] at h1 h2
  have hi:(Z2X [] ops.toList).getD i 0=ZtI acc' o:=by simp [List.getD,h1]
  rw [hi,ZGI]
  constructor
  ·rintro ⟨e,he,hb,hj⟩
   refine⟨e,he,hb,?_⟩
   have:=h3 e.on (by rw [h2];exact hlow i o ho e he hb)
   rcases hj with hj|hj
   ·exact .inl hj
   ·right;simp only [List.getD] at hj ⊢;rw [this];exact hj
  ·rintro ⟨e,he,hb,hj⟩
   refine⟨e,he,hb,?_⟩
   have:=h3 e.on (by rw [h2];exact hlow i o ho e he hb)
   rcases hj with hj|hj
   ·exact .inl hj
   ·right;simp only [List.getD] at hj ⊢;rw [<- this];exact hj
 refine⟨hlow,hbit,?_,?_⟩
 ·intro i
  induction i using Nat.strongRecOn with
  | _ i ih=>
   intro j hi hj
   have ho:ops[i]? = some ops[i]:=by simp [hi]
   obtain⟨e,he,hb,hh⟩:=(hbit i _ ho j).1 hj
   have hlt:=hlow i _ ho e he hb
   rcases hh with hh|hh
   ·omega
   ·have:=ih e.on hlt j (by omega) hh
    omega
 ·intro x y ox oy hx hy hxy
  have:=h y (Array.getElem?_eq_some_iff.1 hy).1
  simp only [hy,Bool.and_eq_true,List.all_eq_true,List.mem_range,Bool.or_eq_true] at this
  have:=this.2 x hxy
  simp only [hx] at this
  simpa only [Bool.or_eq_true] using this
end
section
variable {call:Z24} {E:Env} {ops:Array Oper} {ms:List Nat} {lt:List (Nat×(Nat⊕Nat))} {s0:List V} {base m:Nat}
theorem ZEP {i:Nat} {r:St}:∀(M1 M2:List Nat) (st:St),(∀y∈M1,∀st st1 st2,Zcd call E ops ms lt s0 base m y st=some st1->Zcd call E ops ms lt s0 base m i st1=some st2 ->
      ∃st1',Zcd call E ops ms lt s0 base m i st=some st1' /\ Zcd call E ops ms lt s0 base m y st1' = some st2) ->
  ZdF call E ops ms lt s0 base m (M1++i::M2) st=some r->∃st1,Zcd call E ops ms lt s0 base m i st=some st1/\ZdF call E ops ms lt s0 base m (M1++M2) st1=some r:=by
 intro M1
 induction M1 with
 | nil=>
  intro M2 st _ h
  simp only [List.nil_append,ZdF] at h
  cases h1:Zcd call E ops ms lt s0 base m i st with
  | none=>simp [h1] at h
  | some st1=>simp only [h1] at h;exact⟨st1,rfl,h⟩
 | cons y M1 ih=>
  intro M2 st hsw h
  simp only [List.cons_append,ZdF] at h
  cases h1:Zcd call E ops ms lt s0 base m y st with
  | none=>simp [h1] at h
  | some sa=>
   simp only [h1] at h
   obtain⟨sb,h2,h3⟩:=ih M2 sa (fun z hz=>hsw z (List.mem_cons_of_mem _ hz)) h
   obtain⟨sc,h4,h5⟩:=hsw y (by simp) st sa sb h1 h2
   exact⟨sc,h4,by simp only [List.cons_append,ZdF,h5];exact h3⟩
theorem ZN7 {B:Nat} {w0:Start} {σ:Sg} {P:Program} {st st' : St} {a:Act} {w:World} (hE:Z12 E) (hP:E.P=P) (hcall:Z9R P E B w0 call) {i:Nat} (h:Rel E B w0 σ st a w) (hs:Zcd call E ops ms lt s0 base m i st=some st')
  {K:Act->World->Prop} {Q:Exit->Act->World->Prop} (hn:∀a' w' σ',Rel E B w0 σ' st' a' w' -> Ext σ w σ' w' -> K a' w'):wpOp P ops Q i K a w:=by
 have hat:∃k,Z5g st.H k=true/\Zam call E ops k i st=some st' :=by
  unfold Zcd at hs
  cases ho:ops[i]? with
  | none=>
   simp only [ho] at hs
   exact⟨st.H.length,Ze3 _,by unfold Zam;simp only [ho];exact hs⟩
  | some o=>
   simp only [ho] at hs
   split at hs
   ·split at hs
    ·split at hs
     ·rename_i b hb
      split at hs
      ·cases hs
      ·rename_i hl
       exact⟨base+i,by unfold Z5g;simp only [hb];simpa using hl,hs⟩
     ·cases hs
    ·exact⟨st.H.length,Ze3 _,hs⟩
   ·cases hs
 obtain⟨k,hk,hat⟩:=hat
 exact ZzT hE hP hcall hk h hat hn
theorem ZO2 {B:Nat} {w0:Start} {P:Program} {r:St} (hE:Z12 E) (hP:E.P=P) (hcall:Z9R P E B w0 call) (hpure:ZaO E call) (hf:Zzg E ops) (hm:∀(i:Nat) (o:Oper),ops[i]? = some o->Z0t E o = .a->i<m)
  {Q:Exit->Act->World->Prop}:∀(fuel:Nat) (M:List Nat) (listed:Array Bool) (st:St) (σ:Sg) (a:Act) (w:World),M.length<=fuel->listed.size=ops.size ->
  (∀j,j∈M↔listed.getD j true=false)->M.Pairwise (· < ·)->(∀k j,listed.getD k false=true->((Z2X [] ops.toList).getD k 0).testBit j=true->listed.getD j false=true) ->
  ZdF call E ops (Z2X [] ops.toList) (ZwD E ops) s0 base m M st=some r->Rel E B w0 σ st a w->(∀a' w' σ',Rel E B w0 σ' r a' w' -> Ext σ w σ' w' -> Q .normal a' w')->wpAny P .any ops Q fuel listed a w:=by
 intro fuel
 induction fuel with
 | zero=>
  intro M listed st σ a w hl hsz hM hsort hdown hs hr hn
  have hnil:M=[]:=List.eq_nil_of_length_eq_zero (by omega)
  subst hnil
  simp only [ZdF,Option.some.injEq] at hs
  subst hs
  refine⟨?_,hn a w σ hr (Ext.refl σ w)⟩
  cases hrd:Region.ready .any ops listed with
  | nil=>rfl
  | cons i rest=>
   have hi:i∈Region.ready .any ops listed:=by rw [hrd];simp
   have:=(hM i).2 (mem_ready.1 hi).1
   cases this
 | succ fuel ih=>
  intro M listed st σ a w hl hsz hM hsort hdown hs hr hn
  have hlist:∀j,j<ops.size->j∉M->listed.getD j false=true:=by
   intro j hj hn
   have:¬listed.getD j true=false:=fun h=>hn ((hM j).2 h)
   have hjl:j<listed.size:=by omega
   simp [hjl] at this ⊢
   exact this
  refine⟨fun hready=>?_,fun i hi=>?_⟩
  ·
   cases M with
   | nil=>
    simp only [ZdF,Option.some.injEq] at hs
    subst hs
    exact hn a w σ hr (Ext.refl σ w)
   | cons i rest=>
    exfalso
    have hun:=(hM i).1 (by simp)
    have hilt:i<ops.size:=by
     rcases Nat.lt_or_ge i listed.size with h|h
     ·omega
     ·simp [Array.getElem?_eq_none h] at hun
    have ho:ops[i]? = some ops[i]:=by simp [hilt]
    have:i∈Region.ready .any ops listed:=mem_ready.2 ⟨hun,_,ho,fun e he hb=>by
     have hlt:=hf.low i _ ho e he hb
     refine hlist e.on (by omega) (fun hin=>?_)
     rcases List.mem_cons.1 hin with h|h
     ·omega
     ·have:=(List.pairwise_cons.1 hsort).1 _ h
      omega⟩
    rw [hready] at this
    cases this
  ·obtain⟨hun,oi,hoi,hall⟩:=mem_ready.1 hi
   have hin:=(hM i).2 hun
   obtain⟨M1,M2,rfl⟩:=List.append_of_mem hin
   have hilt:i<ops.size:=(Array.getElem?_eq_some_iff.1 hoi).1
   have hM1:∀y∈M1,y<i:=fun y hy=>(List.pairwise_append.1 hsort).2.2 y hy i (by simp)
   have hmask:∀j,((Z2X [] ops.toList).getD i 0).testBit j=true->listed.getD j false=true:=by
    intro j hj
    obtain⟨e,he,hb,hh⟩:=(hf.bit i oi hoi j).1 hj
    rcases hh with hh|hh
    ·rw [hh];exact hall e he hb
    ·exact hdown e.on j (hall e he hb) hh
   have hunl:∀y,listed.getD y true=false->listed.getD y false=false:=by
    intro y hy
    rcases Nat.lt_or_ge y listed.size with h|h
    ·simp [h] at hy ⊢;exact hy
    ·simp [Array.getElem?_eq_none h] at hy
   obtain⟨st1,h1,h2⟩:=ZEP M1 M2 st (fun y hy sa sb sc hsa hsb=>by
    have hyun:listed.getD y true=false:=(hM y).1 (by simp [hy])
    have hylt:y<ops.size:=by have:=hM1 y hy;omega
    have hoy:ops[y]? = some ops[y]:=by simp [hylt]
    have hbit:((Z2X [] ops.toList).getD i 0).testBit y=false:=by
     cases hb:((Z2X [] ops.toList).getD i 0).testBit y with
     | false=>rfl
     | true=>have:=hmask y hb;rw [hunl y hyun] at this;cases this
    have hbit' : ((Z2X [] ops.toList).getD y 0).testBit i=false:=by
     cases hb:((Z2X [] ops.toList).getD y 0).testBit i with
     | false=>rfl
     | true=>have:=hf.lt y i hylt hb;have:=hM1 y hy;omega
    have hp:=(hf.pass y i _ oi hoy hoi (hM1 y hy)).resolve_left (by rw [hbit];simp)
    exact ZHp hpure hm hoy hoi (by have:=hM1 y hy;omega) hp (fun x t h=>ZLd h) hbit hbit' hsa hsb) hs
   refine ZN7 hE hP hcall hr h1 (fun a1 w1 σ1 hr1 he1=>?_)
   have hget:∀j d,(listed.setIfInBounds i true).getD j d=if j=i then true else listed.getD j d:=by
    intro j d
    by_cases hji:j=i
    ·subst hji
     have:j<listed.size:=by omega
     simp [this]
    ·rw [if_neg hji,getD_set_ne d (fun e=>hji e.symm)]
   have hnot:i∉M1++M2:=by
    intro h
    rcases List.mem_append.1 h with h|h
    ·have:=hM1 i h;omega
    ·have:=(List.pairwise_cons.1 (List.pairwise_append.1 hsort).2.1).1 i h;omega
   refine ih (M1++M2) (listed.setIfInBounds i true) st1 σ1 a1 w1 (by simp at hl ⊢;omega) (by simpa using hsz) (fun j=>?_) ?_ (fun k j hk hj=>?_) h2 hr1 (fun a' w' σ' hr' he' =>hn a' w' σ' hr' (he1.trans he'))
   ·rw [hget]
    by_cases hji:j=i
    ·subst hji
     rw [if_pos rfl]
     exact⟨fun h=>absurd h hnot,fun h=>by cases h⟩
    ·rw [if_neg hji,<- hM j]
     simp [hji]
   ·exact hsort.sublist (List.Sublist.append_left (List.sublist_cons_self i M2) M1)
   ·rw [hget] at hk ⊢
    by_cases hji:j=i
    ·rw [if_pos hji]
    ·rw [if_neg hji]
     by_cases hki:k=i
     ·subst hki;exact hmask j hj
     ·rw [if_neg hki] at hk
      exact hdown k j hk hj
theorem Inv.reserve {B:Nat} {w0:Start} {σ:Sg} {H:Heap} {w:World} (h:Inv B w0 σ H w) (n:Nat):Inv B w0 σ (H++List.replicate n ZeX) w:=by
 have hold:∀(i:Nat) (b:Box),(H++List.replicate n ZeX)[i]? = some b->b.live=true->H[i]? = some b:=by
  intro i b hb hl
  rw [List.getElem?_append] at hb
  split at hb
  ·exact hb
  ·have:=(List.mem_replicate.1 (List.mem_of_getElem? hb)).2
   subst this
   cases hl
 refine⟨h.below,h.size,fun id L hL=>?_,fun i b hb hl=>h.boxes i b (hold i b hb hl) hl,fun i j b1 b2 L1 L2 g h1 h2 l1 l2=>h.apart i j b1 b2 L1 L2 g (hold i b1 h1 l1) (hold j b2 h2 l2) l1 l2,h.cells,
  fun b c hc i bx L hb hl=>h.floor b c hc i bx L (hold i bx hb hl) hl,fun i b hb hl=>h.low i b (hold i b hb hl) hl,h.old,h.kept⟩
 obtain⟨b,h1,h2⟩:=h.dom id L hL
 exact⟨b,by rw [List.getElem?_append_left (List.getElem?_eq_some_iff.1 h1).1];exact h1,h2⟩
theorem ZLx {B:Nat} {w0:Start} {σ:Sg} {P:Program} {st st' : St} {a:Act} {w:World} (hE:Z12 E) (hP:E.P=P) (hmix:P.follows .mixedOrders=true) (hcall:Z9R P E B w0 call) (hpure:ZaO E call) (hd:ZFl E ops=true)
  (h:Rel E B w0 σ st a w) (hs:ZBB call E ops st=some st') {id:Nat} {Q:Exit->Act->World->Prop} (hn:∀a' w' σ',Rel E B w0 σ' st' a' w' -> Ext σ w σ' w' -> Q .normal a' w'):(Code.region id ops true).wp P Q a w:=by
 have hg:w.grownBy { w with drawn:=w.drawn+1 } none:=⟨rfl,rfl,rfl,Nat.le_refl _,fun _ _ _=>rfl⟩
 obtain⟨hI,hEx⟩:=h.inv.grown hg
 refine wp_region_any hmix ?_
 unfold ZBB at hs
 refine ZO2 hE hP hcall hpure (ZyV hd) (m:=if ops.any (fun o=>decide (Z0t E o = .a)) then ops.size else 0) (fun i o ho hc=>?_) ops.size (List.range ops.size) _ _ σ a _ (by simp) (by simp) (fun j=>?_) List.pairwise_lt_range (fun k j hk=>?_) hs
  ⟨hI.reserve _,h.ZdT.ext hEx,h.slots.ext hEx,h.calm⟩ (fun a' w' σ' hr he=>hn a' w' σ' hr (hEx.trans he))
 ·have:ops.any (fun o=>decide (Z0t E o = .a))=true:=Array.any_eq_true'.2 ⟨o,Array.mem_of_getElem? ho,by simpa using hc⟩
  rw [if_pos this]
  exact(Array.getElem?_eq_some_iff.1 ho).1
 ·rw [List.mem_range]
  rcases Nat.lt_or_ge j ops.size with hj|hj
  ·simp [hj]
  ·simp [Nat.not_lt.2 hj]
 ·exfalso
  rcases Nat.lt_or_ge k ops.size with hj|hj
  ·simp [hj] at hk
  ·simp [hj] at hk
end
def Ex.out:Ex->Exit
 | .normal=>.normal
 | .ret=>.ret
 | .exit id=>.exit id
def ZLb (P:Program) (E:Env) (B:Nat) (w0:Start) (f:FuncId) (lp:Code->St->Option (Ex×St)):Prop:=
 ∀b st ex st',Z4G E f b=true->lp b st=some (ex,st')->∀(Q:Exit->Act->World->Prop) σ a w,Rel E B w0 σ st a w ->
  (∀a' w' σ',Rel E B w0 σ' st' a' w' -> Ext σ w σ' w' -> Q ex.out a' w')->(Code.loop b).wp P Q a w
section
variable {P:Program} {E:Env} {B:Nat} {w0:Start} {call:Z24} {f:FuncId}
theorem ZiG (hE:Z12 E) (hP:E.P=P) (hcall:Z9R P E B w0 call) (hpure:ZaO E call) {lp:Code->St->Option (Ex×St)} (hlp:ZLb P E B w0 f lp) :
  ∀(c:Code) (st:St) (ex:Ex) (st' : St),Z4G E f c=true->Z7y call lp E f c st=some (ex,st')->∀(Q:Exit->Act->World->Prop) (σ:Sg) (a:Act) (w:World),Rel E B w0 σ st a w ->
   (∀a' w' σ',Rel E B w0 σ' st' a' w' -> Ext σ w σ' w' -> Q ex.out a' w')->c.wp P Q a w:=by
 intro c
 induction c with
 | skip=>
  intro st ex st' hc h Q σ a w hr hn
  simp only [Z7y,Option.some.injEq,Prod.mk.injEq] at h
  obtain⟨rfl,rfl⟩:=h
  exact wp_skip (hn a w σ hr (Ext.refl σ w))
 | region id ops draw=>
  intro st ex st' hc h Q σ a w hr hn
  cases draw with
  | false=>
   simp only [Z7y] at h
   cases hs:ZIY call E ops (List.range ops.size) st with
   | none=>simp [hs] at h
   | some r=>
    simp only [hs,Option.map_some,Option.some.injEq,Prod.mk.injEq] at h
    obtain⟨rfl,rfl⟩:=h
    exact wp_region (ZJu hE hP hcall _ st σ a w hr hs hn)
  | true=>
   simp only [Z7y] at h
   split at h
   ·rename_i hcalm
    cases hs:ZBB call E ops st with
    | none=>simp [hs] at h
    | some r=>
     simp only [hs,Option.map_some,Option.some.injEq,Prod.mk.injEq] at h
     obtain⟨rfl,rfl⟩:=h
     refine ZLx hE hP (by rw [<- hP];exact hE.mix) hcall hpure ?_ hr hs hn
     simpa [Z4G,hcalm] using hc
   ·cases h
 | seq x y ihx ihy=>
  intro st ex st' hc h Q σ a w hr hn
  simp only [Z4G,Bool.and_eq_true] at hc
  simp only [Z7y] at h
  split at h
  ·rename_i st1 h1
   exact wp_seq (ihx st .normal st1 hc.1 h1 _ σ a w hr (fun a1 w1 σ1 hr1 he1=>ihy st1 ex st' hc.2 h Q σ1 a1 w1 hr1 (fun a' w' σ' hr' he' =>hn a' w' σ' hr' (he1.trans he'))))
  ·rename_i hne
   refine wp_seq (ihx st ex st' hc.1 h _ σ a w hr (fun a1 w1 σ1 hr1 he1=>?_))
   have:=hn a1 w1 σ1 hr1 he1
   cases ex with
   | normal=>exact absurd h (hne _)
   | ret=>exact this
   | exit id=>exact this
 | cond c x y ihx ihy=>
  intro st ex st' hc h Q σ a w hr hn
  simp only [Z4G,Bool.and_eq_true] at hc
  simp only [Z7y] at h
  split at h
  ·rename_i t ht
   have hv:=Z0P (a:=a) hr.ZdT hr.slots c
   rw [ht] at hv
   have hb:a.eval c = .bool t:=by generalize a.eval c=v at hv;cases hv;rfl
   refine wp_cond hb ?_
   cases t with
   | true=>exact ihx st ex st' hc.1 h Q σ a w hr hn
   | false=>exact ihy st ex st' hc.2 h Q σ a w hr hn
  ·cases h
 | block id b ih=>
  intro st ex st' hc h Q σ a w hr hn
  simp only [Z4G] at hc
  simp only [Z7y] at h
  split at h
  ·rename_i i st1 h1
   refine wp_block (ih st (.exit i) st1 hc h1 _ σ a w hr (fun a1 w1 σ1 hr1 he1=>?_))
   simp only [Ex.out,Exit.inBlock]
   split at h
   ·rename_i hi
    cases h
    rw [if_pos hi]
    exact hn a1 w1 σ1 hr1 he1
   ·rename_i hi
    cases h
    rw [if_neg hi]
    exact hn a1 w1 σ1 hr1 he1
  ·rename_i hne
   refine wp_block (ih st ex st' hc h _ σ a w hr (fun a1 w1 σ1 hr1 he1=>?_))
   have:=hn a1 w1 σ1 hr1 he1
   cases ex with
   | normal=>exact this
   | ret=>exact this
   | exit i=>exact absurd h (hne _ _)
 | loop b ih=>
  intro st ex st' hc h Q σ a w hr hn
  exact hlp b st ex st' hc h Q σ a w hr hn
 | scope b ih=>
  intro st ex st' hc h Q σ a w hr hn
  simp only [Z4G] at hc
  simp only [Z7y] at h
  refine wp_scope_straight (ih st ex st' hc h _ σ a w hr (fun a1 w1 σ1 hr1 he1=>?_))
  have:=hn a1 w1 σ1 hr1 he1
  cases ex with
  | normal=>exact this
  | ret=>exact this
  | exit i=>exact this
 | label l=>
  intro st ex st' hc h Q σ a w hr hn
  simp only [Z7y,Option.some.injEq,Prod.mk.injEq] at h
  obtain⟨rfl,rfl⟩:=h
  exact wp_label (hn a w σ hr (Ext.refl σ w))
 | exit id=>
  intro st ex st' hc h Q σ a w hr hn
  simp only [Z7y,Option.some.injEq,Prod.mk.injEq] at h
  obtain⟨rfl,rfl⟩:=h
  exact wp_exit (hn a w σ hr (Ext.refl σ w))
 | ret=>
  intro st ex st' hc h Q σ a w hr hn
  simp only [Z7y,Option.some.injEq,Prod.mk.injEq] at h
  obtain⟨rfl,rfl⟩:=h
  exact wp_ret (hn a w σ hr (Ext.refl σ w))
 | _=>
  intro st ex st' hc h
  cases h
theorem ZCl (hE:Z12 E) (hP:E.P=P) (hcall:Z9R P E B w0 call) (hpure:ZaO E call):∀n,ZLb P E B w0 f (ZEu call E f n):=by
 have key:∀n,∀b st ex st',Z4G E f b=true->ZEu call E f n b st=some (ex,st')->∀(Q:Exit->Act->World->Prop) σ a w,Rel E B w0 σ st a w ->
  (∀a' w' σ',Rel E B w0 σ' st' a' w' -> Ext σ w σ' w' -> Q ex.out a' w')->Code.rounds P b Q n a w:=by
  intro n
  induction n with
  | zero=>intro b st ex st' hc h;cases h
  | succ n ih=>
   intro b st ex st' hc h Q σ a w hr hn
   rw [rounds_succ]
   have hlp:ZLb P E B w0 f (ZEu call E f n):=fun b st ex st' hc h Q σ a w hr hn=>wp_loop_rounds n (ih b st ex st' hc h Q σ a w hr hn)
   simp only [ZEu] at h
   split at h
   ·rename_i st1 h1
    exact ZiG hE hP hcall hpure hlp b st .normal st1 hc h1 _ σ a w hr (fun a1 w1 σ1 hr1 he1=>ih b st1 ex st' hc h Q σ1 a1 w1 hr1 (fun a' w' σ' hr' he' =>hn a' w' σ' hr' (he1.trans he')))
   ·rename_i hne
    refine ZiG hE hP hcall hpure hlp b st ex st' hc h _ σ a w hr (fun a1 w1 σ1 hr1 he1=>?_)
    have:=hn a1 w1 σ1 hr1 he1
    cases ex with
    | normal=>exact absurd h (hne _)
    | ret=>exact this
    | exit id=>exact this
 exact fun n b st ex st' hc h Q σ a w hr hn=>wp_loop_rounds n (key n b st ex st' hc h Q σ a w hr hn)
theorem ZI7 {σ:Sg} {H:Heap} {w:World} (hE:Z12 E) (hP:E.P=P) (hI:Inv B w0 σ H w) {t:TypeId} {x r:V} {v:Value} (hx:Zx σ w [x] [v]) (h:ZnW E H t x=some r) :
  ∃u,(do loadVar t (<- asAddr v):Sem Value).run P w = .ok u w/\Zx σ w [r] [u]:=by
 obtain⟨u,hu,hr⟩:=ZJi (P:=P) hE hP hI hx h
 refine⟨u,?_,hr⟩
 have hv:∃A,v = .pointer (some A):=by
  unfold ZnW at h
  split at h
  ·cases h
  ·split at h
   ·cases hx;exact⟨_,rfl⟩
   ·cases hx with
    | ptr g _ _ _ h4 _=>exact⟨_,h4⟩
   ·cases h
 obtain⟨A,rfl⟩:=hv
 rw [<- hu]
 simp [Instr.loadAt,asAddr,Instr.sureAddr]
theorem ZRJ {σ:Sg} {H:Heap} {w:World} {s:List V} {tmps:Array Value} (hE:Z12 E) (hP:E.P=P) (hI:Inv B w0 σ H w) (hs:Zx σ w s tmps.toList):∀(rs:List ResultVar) (xs:List V),rs.mapM (resD E H s)=some xs ->
  ∃vs,(rs.mapM (fun(r:ResultVar)=>(match r with | .tmp t=>pure (tmps.getD t undef) | .cell a t=>do loadVar t (<- asAddr (tmps.getD a undef)):Sem Value))).run P w = .ok vs w/\Zx σ w xs vs:=by
 have hget:∀t,Zx σ w [s.getD t .und] [tmps.getD t undef]:=fun t=>by
  have:=Zxg hs t
  simpa using this
 intro rs
 induction rs with
 | nil=>
  intro xs h
  simp at h
  subst h
  exact⟨[],rfl,.nil⟩
 | cons r rs ih=>
  intro xs h
  rw [List.mapM_cons] at h
  cases hr:resD E H s r with
  | none=>simp [hr] at h
  | some x=>
   cases hrs:rs.mapM (resD E H s) with
   | none=>simp [hr,hrs] at h
   | some xs' =>
    simp [hr,hrs] at h
    subst h
    obtain⟨vs,hv,hx⟩:=ih xs' hrs
    have h1:∃u,((match r with | .tmp t=>pure (tmps.getD t undef) | .cell a t=>do loadVar t (<- asAddr (tmps.getD a undef)):Sem Value)).run P w = .ok u w/\Zx σ w [x] [u]:=by
     cases r with
     | tmp t=>
      simp only [resD,Option.some.injEq] at hr
      subst hr
      exact⟨_,rfl,hget t⟩
     | cell a t=>exact ZI7 hE hP hI (hget a) hr
    obtain⟨u,hu,hur⟩:=h1
    refine⟨u::vs,?_,Zx.Z0I.2 ⟨hur,hx⟩⟩
    rw [List.mapM_cons,Sem.run_bind,hu,Result.andThen_ok,Sem.run_bind,hv,Result.andThen_ok]
    rfl
theorem ZfJ {σ:Sg} {H:Heap} {w:World} {s:List V} {tmps:Array Value} (hE:Z12 E) (hP:E.P=P) (hI:Inv B w0 σ H w) (hs:Zx σ w s tmps.toList) {fn:Func} {x:V} (h:Z45 E H s fn.results.toList=some x) :
  ∃u,(results fn tmps).run P w = .ok u w/\Zx σ w [x] [u]:=by
 unfold Z45 at h
 cases hm:fn.results.toList.mapM (resD E H s) with
 | none=>simp [hm] at h
 | some xs=>
  obtain⟨vs,hv,hr⟩:=ZRJ (P:=P) hE hP hI hs _ xs hm
  have hrun:(results fn tmps).run P w = .ok (if h:vs.toArray.size=1 then vs.toArray[0] else .tuple vs.toArray) w:=by
   unfold results
   rw [Sem.run_bind]
   have hm2:(fn.results.mapM (fun(r:ResultVar)=>(match r with | .tmp t=>pure (tmps.getD t undef) | .cell a t=>do loadVar t (<- asAddr (tmps.getD a undef)):Sem Value))).run P w = .ok vs.toArray w:=by
    rw [Array.mapM_eq_mapM_toList,map_eq_pure_bind,Sem.run_bind,hv,Result.andThen_ok]
    rfl
   have:=congrArg (fun r=>Result.andThen r fun(vs:Array Value) (w' : World)=>(pure (if h:vs.size=1 then vs[0] else .tuple vs):Sem Value).run P w') hm2
   exact this
  refine⟨_,hrun,?_⟩
  rw [hm] at h
  have hlen:=hr.length
  split at h
  ·rename_i v hh
   cases hh
   simp only [Option.some.injEq] at h
   subst h
   obtain⟨u,vs',rfl,h1,h2⟩:=hr.ZX
   cases h2.Z0Y
   simpa using h1
  ·rename_i ys hne hh
   cases hh
   simp only [Option.some.injEq] at h
   subst h
   have:¬vs.toArray.size=1:=by
    intro hh
    simp at hh
    rw [<- hlen] at hh
    obtain⟨y,rfl⟩:=List.length_eq_one_iff.1 hh
    exact hne y rfl
   rw [dif_neg this]
   exact .tup hr .nil
  ·rename_i hh;cases hh
end
def bare (fz:Nat->Nat->Prop):Sg:=⟨fun _=>none,fz⟩
theorem Lies.bare {σ σ' : Sg} {w w' : World} {b o:Nat} {us:List Value} (h:Lies σ w b o us) (hfz:∀b c,σ.fz b c->σ'.fz b c/\w'.cell? ⟨b,c,none⟩=w.cell? ⟨b,c,none⟩):Lies σ' w' b o us:=fun j u hu=>by
 obtain⟨h1,h2⟩:=h j u hu
 obtain⟨e1,e2⟩:=hfz _ _ h1
 exact⟨e1,e2.trans h2⟩
theorem Zx.bare {σ σ' : Sg} {w w' : World} {xs:List V} {vs:List Value} (h:Zx σ w xs vs) (hfz:∀b c,σ.fz b c->σ'.fz b c/\w'.cell? ⟨b,c,none⟩=w.cell? ⟨b,c,none⟩) (hmp:Zcn w w') :
  ZG xs=true->Zx σ' w' xs vs:=by
 induction h with
 | nil=>intro _;exact .nil
 | und u _ ih=>intro hn;simp [ZG] at hn;exact .und u (ih hn.2)
 | no _ ih=>intro hn;simp [ZG] at hn;exact .no (ih hn.2)
 | lit hl _ ih=>intro hn;simp [ZG] at hn;exact .lit hl (ih hn.2)
 | agg _ ho _ ih1 ih2=>intro hn;simp [ZG,Z03] at hn;exact .agg (ih1 hn.1) ho (ih2 hn.2)
 | tup _ _ ih1 ih2=>intro hn;simp [ZG,Z03] at hn;exact .tup (ih1 hn.1) (ih2 hn.2)
 | Z4u _ ih=>intro hn;simp [ZG] at hn;exact .Z4u (ih hn.2)
 | Z3e _ ih=>intro hn;simp [ZG] at hn;exact .Z3e (ih hn.2)
 | Z6h a _ ih=>intro hn;simp [ZG] at hn;exact .Z6h a (ih hn.2)
 | Z3H a _ ih=>intro hn;simp [ZG] at hn;exact .Z3H a (ih hn.2)
 | sl b o c e' _ h0 h1 h2 h3 h4 h5 _ ih1 ih2=>intro hn;simp [ZG,Z03] at hn;exact .sl b o c e' (ih1 hn.1) h0 h1 h2 h3 h4 (h5.bare hfz) (ih2 hn.2)
 | slt b o e' _ h0 h1 h2 h3 h4 _ ih1 ih2=>intro hn;simp [ZG,Z03] at hn;exact .slt b o e' (ih1 hn.1) h0 h1 h2 h3 (h4.bare hfz) (ih2 hn.2)
 | lsl h1 h2 h3 h4 _ ih=>intro hn;simp [ZG,Z03] at hn
 | ptr g h1 h2 h3 h4 _ ih=>intro hn;simp [ZG,Z03] at hn
 | ept b o e' i off _ h0 h1 h2 h3 _ ih1 ih2=>intro hn;simp [ZG,Z03] at hn;exact .ept b o e' i off (ih1 hn.1) h0 h1 h2 (h3.bare hfz) (ih2 hn.2)
 | fn _ _ _ ih1 ih2 ih3=>intro hn;simp [ZG,Z03] at hn;exact .fn (ih1 hn.1.1) (ih2 hn.1.2) (ih3 hn.2)
 | ifc _ _ ih1 ih2=>intro hn;simp [ZG,Z03] at hn;exact .ifc (ih1 (by simp [ZG,hn.1])) (ih2 hn.2)
 | mpl g es c _ h1 h2 _ ih1 ih2=>intro hn;simp [ZG,Z03] at hn;exact .mpl g es c (ih1 hn.1) (hmp _ _ _ h1) h2 (ih2 hn.2)
theorem Z0Q.bare {E:Env} {σ σ' : Sg} {w w' : World} (h:Z0Q E σ w) (hfz:∀b c,σ.fz b c->σ'.fz b c/\w'.cell? ⟨b,c,none⟩=w.cell? ⟨b,c,none⟩) (hmp:Zcn w w'):Z0Q E σ' w' :=by
 intro g r hg
 have hr:=h g r hg
 generalize hv:Value.pointer (some ⟨g,0,none⟩)=v at hr ⊢
 cases hr with
 | ept b o e' i off k0 k1 k2 k3 k4 _=>exact .ept b o _ _ _ (k0.bare hfz hmp (Z48 k1)) k1 k2 k3 (k4.bare hfz) .nil
theorem Zr7 (ρ:Nat->Nat) (xs:List V):Z9C ρ xs=xs.map (Zlc ρ):=by
 induction xs with
 | nil=>rfl
 | cons x xs ih=>simp [Z9C,ih]
theorem Zfk (ρ:Nat->Nat) (xs:List V):(Z9C ρ xs).length=xs.length:=by rw [Zr7];simp
theorem ZMp (ρ:Nat->Nat) (x:V):okV (Zlc ρ x)=okV x:=by cases x<;>simp [Zlc,okV]
theorem ZlI {σ σ' : Sg} {w w' : World} {ρ:Nat->Nat} {xs:List V} {vs:List Value} (h:Zx σ w xs vs) (hfz:∀b c,σ.fz b c->σ'.fz b c/\w'.cell? ⟨b,c,none⟩=w.cell? ⟨b,c,none⟩) (hmp:Zcn w w') :
  (∀id∈Z0G xs,σ'.box (ρ id)=σ.box id)->Zx σ' w' (Z9C ρ xs) vs:=by
 induction h with
 | nil=>intro _;exact .nil
 | und u _ ih=>intro hn;exact .und u (ih fun id h=>hn id (by simp [Z0G,h]))
 | no _ ih=>intro hn;exact .no (ih fun id h=>hn id (by simp [Z0G,h]))
 | lit hl _ ih=>intro hn;exact .lit hl (ih fun id h=>hn id (by simp [Z0G,h]))
 | agg _ ho _ ih1 ih2=>intro hn;exact .agg (ih1 fun id h=>hn id (by simp [Z0G,Z3k,h])) ho (ih2 fun id h=>hn id (by simp [Z0G,h]))
 | tup _ _ ih1 ih2=>intro hn;exact .tup (ih1 fun id h=>hn id (by simp [Z0G,Z3k,h])) (ih2 fun id h=>hn id (by simp [Z0G,h]))
 | Z4u _ ih=>intro hn;exact .Z4u (ih fun id h=>hn id (by simp [Z0G,h]))
 | Z3e _ ih=>intro hn;exact .Z3e (ih fun id h=>hn id (by simp [Z0G,h]))
 | Z6h a _ ih=>intro hn;exact .Z6h a (ih fun id h=>hn id (by simp [Z0G,h]))
 | Z3H a _ ih=>intro hn;exact .Z3H a (ih fun id h=>hn id (by simp [Z0G,h]))
 | sl b o c e' h h0 h1 h2 h3 h4 h5 _ _ ih2=>intro hn;exact .sl b o c e' (h.bare hfz hmp (Z48 h0)) h0 h1 h2 h3 h4 (h5.bare hfz) (ih2 fun id h=>hn id (by simp [Z0G,h]))
 | slt b o e' h h0 h1 h2 h3 h4 _ _ ih2=>intro hn;exact .slt b o e' (h.bare hfz hmp (Z48 h0)) h0 h1 h2 h3 (h4.bare hfz) (ih2 fun id h=>hn id (by simp [Z0G,h]))
 | lsl h1 h2 h3 h4 _ ih=>intro hn;exact .lsl ((hn _ (by simp [Z0G,Z3k])).trans h1) h2 h3 h4 (ih fun id h=>hn id (by simp [Z0G,h]))
 | ptr g h1 h2 h3 h4 _ ih=>intro hn;exact .ptr g ((hn _ (by simp [Z0G,Z3k])).trans h1) h2 h3 h4 (ih fun id h=>hn id (by simp [Z0G,h]))
 | ept b o e' i off h h0 h1 h2 h3 _ _ ih2=>intro hn;exact .ept b o e' i off (h.bare hfz hmp (Z48 h0)) h0 h1 h2 (h3.bare hfz) (ih2 fun id h=>hn id (by simp [Z0G,h]))
 | fn _ _ _ ih1 ih2 ih3=>intro hn;exact .fn (ih1 fun id h=>hn id (by simp [Z0G,Z3k,h])) (ih2 fun id h=>hn id (by simp [Z0G,Z3k,h])) (ih3 fun id h=>hn id (by simp [Z0G,h]))
 | ifc _ _ ih1 ih2=>intro hn;exact .ifc (ih1 fun id h=>hn id (by simp [Z0G,Z3k] at h ⊢;simp [h])) (ih2 fun id h=>hn id (by simp [Z0G,h]))
 | mpl g es c _ h1 h2 _ ih1 ih2=>intro hn;exact .mpl g es c (ih1 fun id h=>hn id (by simp [Z0G,Z3k,h])) (hmp _ _ _ h1) h2 (ih2 fun id h=>hn id (by simp [Z0G,h]))
theorem ZJB {σ σ' : Sg} {w w' : World} {ρ:Nat->Nat} {x:V} {v:Value} (h:Zx σ w [x] [v]) (hfz:∀b c,σ.fz b c->σ'.fz b c/\w'.cell? ⟨b,c,none⟩=w.cell? ⟨b,c,none⟩) (hmp:Zcn w w')
  (hn:∀id∈Z3k x,σ'.box (ρ id)=σ.box id):Zx σ' w' [Zlc ρ x] [v]:=ZlI h hfz hmp (by simpa [Z0G] using hn)
structure Z8b (H H1:Heap):Prop where
 len:H.length<=H1.length
 at_:∀(id:Nat) (b:Box),H[id]? = some b->∃b',H1[id]? = some b' /\ b'.live=b.live/\b'.row=b.row/\b'.xs=b.xs
theorem Z8b.refl (H:Heap):Z8b H H:=⟨Nat.le_refl _,fun id b h=>⟨b,h,rfl,rfl,rfl⟩⟩
theorem Z8b.trans {A B C:Heap} (h:Z8b A B) (k:Z8b B C):Z8b A C:=
 ⟨Nat.le_trans h.len k.len,fun id b hb=>by
  obtain⟨b1,h1,h2,h3,h4⟩:=h.at_ id b hb
  obtain⟨b2,k1,k2,k3,k4⟩:=k.at_ id b1 h1
  exact⟨b2,k1,k2.trans h2,k3.trans h3,k4.trans h4⟩⟩
theorem Z8b.bump (H:Heap) (ids:List Nat):Z8b H (bump H ids):=
 ⟨by rw [bump_length];exact Nat.le_refl _,fun id b hb=>⟨_,by rw [Z4a,hb];rfl,by split<;>rfl,by split<;>rfl,by split<;>rfl⟩⟩
theorem Z8b.push (H:Heap) (b:Box):Z8b H (H++[b]):=
 ⟨by simp,fun id b' hb=>⟨b',by rw [List.getElem?_append_left (List.getElem?_eq_some_iff.1 hb).1];exact hb,rfl,rfl,rfl⟩⟩
section
variable {B:Nat} {w0:Start} {σ:Sg} {H H1:Heap} {w:World}
theorem ZEW (h:Inv B w0 σ H w) {f:Fk} {x y:V} {v:Value} (hr:Zx σ w [x] [v]) (hp:ZdR f H x=some (y,H1)):Z8b H H1/\∃σ',Inv B w0 σ' H1 w/\Ext σ w σ' w/\Zx σ' w [y] [v]:=by
 have mk:∀(e:TypeId) (sz:Nat),∃σ',Inv B w0 σ' (H++[ZW true false e sz []]) w/\Ext σ w σ' w/\Zx σ' w [.lsl H.length 0 0 0] [.slice none 0 0]:=by
  intro e sz
  obtain⟨σ',h1,h2,h3⟩:=Z97 (e:=e) (esz:=sz) (v' :=.slice none 0 0) h (Ze3 H) (grownBy_refl w none) (xs:=[]) (us:=[]) .nil (by simp) (by simp) (by simp [flat]) ⟨by simp [flat],.inl ⟨rfl,rfl⟩⟩ (by simp [Value.ownBlock]) false (by simp)
  exact⟨σ',by rw [ZKY] at h1;exact h1,h2,h3⟩
 cases f with
 | s e sz=>
  simp only [ZdR] at hp
  cases hf:ZtK H x with
  | none=>simp [hf] at hp
  | some y0=>
   simp only [hf,Option.map_some,Option.some.injEq,Prod.mk.injEq] at hp
   obtain⟨rfl,rfl⟩:=hp
   obtain⟨h1,h2⟩:=h.freeze (ZgA x)
   exact⟨Z8b.bump _ _,_,h1,h2,Zex sz (Zks h hr hf (ZgA x) (fun i hi=>hi))⟩
 | own e sz=>
  simp only [ZdR] at hp
  unfold ZMr at hp
  split at hp
  ·simp only [Option.some.injEq,Prod.mk.injEq] at hp
   obtain⟨rfl,rfl⟩:=hp
   cases hr with
   | Z4u _=>exact⟨Z8b.push _ _,mk e sz⟩
  ·simp only [Option.some.injEq,Prod.mk.injEq] at hp
   obtain⟨rfl,rfl⟩:=hp
   cases hr with
   | Z3e _=>exact⟨Z8b.push _ _,mk e sz⟩
  ·split at hp
   ·simp only [Option.some.injEq,Prod.mk.injEq] at hp
    obtain⟨rfl,rfl⟩:=hp
    exact⟨Z8b.refl _,σ,h,Ext.refl _ _,hr⟩
   ·cases hp
  ·cases hp
 | keep=>
  simp only [ZdR,Option.some.injEq,Prod.mk.injEq] at hp
  obtain⟨rfl,rfl⟩:=hp
  exact⟨Z8b.refl _,σ,h,Ext.refl _ _,hr⟩
theorem ZO0:∀{fl:List Fk} {H:Heap} {σ:Sg} {xs ys:List V} {vs:List Value} {H1:Heap},Inv B w0 σ H w->Zx σ w xs vs->Zbu fl H xs=some (ys,H1)->Z8b H H1/\∃σ',Inv B w0 σ' H1 w/\Ext σ w σ' w/\Zx σ' w ys vs:=by
 intro fl
 induction fl with
 | nil=>
  intro H σ xs ys vs H1 h hr hp
  cases xs with
  | nil=>
   simp only [Zbu,Option.some.injEq,Prod.mk.injEq] at hp
   obtain⟨rfl,rfl⟩:=hp
   exact⟨Z8b.refl _,σ,h,Ext.refl _ _,hr⟩
  | cons=>simp [Zbu] at hp
 | cons f fl ih=>
  intro H σ xs ys vs H1 h hr hp
  cases xs with
  | nil=>simp [Zbu] at hp
  | cons x xs=>
   obtain⟨v,vs',rfl,hr1,hr2⟩:=hr.ZX
   simp only [Zbu] at hp
   cases h1:ZdR f H x with
   | none=>simp [h1] at hp
   | some r=>
    obtain⟨y,Ha⟩:=r
    simp only [h1] at hp
    cases h2:Zbu fl Ha xs with
    | none=>simp [h2] at hp
    | some r=>
     obtain⟨ys',Hb⟩:=r
     simp only [h2,Option.some.injEq,Prod.mk.injEq] at hp
     obtain⟨rfl,rfl⟩:=hp
     obtain⟨k1,σ1,i1,e1,r1⟩:=ZEW h hr1 h1
     obtain⟨k2,σ2,i2,e2,r2⟩:=ih i1 (hr2.ext e1) h2
     exact⟨k1.trans k2,σ2,i2,e1.trans e2,Zx.Z0I.2 ⟨r1.ext e2,r2⟩⟩
theorem ZFq (h:Inv B w0 σ H w) {fl:List Fk} {x y:V} {v:Value} (hr:Zx σ w [x] [v]) (hp:Zjb fl H x=some (y,H1)):Z8b H H1/\∃σ',Inv B w0 σ' H1 w/\Ext σ w σ' w/\Zx σ' w [y] [v]:=by
 unfold Zjb at hp
 split at hp
 ·rename_i cs
  cases hl:Zbu fl H cs with
  | none=>simp [hl] at hp
  | some r=>
   obtain⟨ys,Ha⟩:=r
   simp only [hl,Option.map_some,Option.some.injEq,Prod.mk.injEq] at hp
   obtain⟨rfl,rfl⟩:=hp
   cases hr with
   | agg h1 ho _=>
    obtain⟨k1,σ1,i1,e1,r1⟩:=ZO0 h h1 hl
    exact⟨k1,σ1,i1,e1,.agg r1 ho .nil⟩
 ·split at hp
  ·exact ZEW h hr hp
  ·cases hp
theorem ZNr:∀{fl:List (List Fk)} {H:Heap} {σ:Sg} {xs ys:List V} {vs:List Value} {H1:Heap},Inv B w0 σ H w->Zx σ w xs vs->Zdj fl H xs=some (ys,H1)->Z8b H H1/\∃σ',Inv B w0 σ' H1 w/\Ext σ w σ' w/\Zx σ' w ys vs:=by
 intro fl
 induction fl with
 | nil=>
  intro H σ xs ys vs H1 h hr hp
  cases xs with
  | nil=>
   simp only [Zdj,Option.some.injEq,Prod.mk.injEq] at hp
   obtain⟨rfl,rfl⟩:=hp
   exact⟨Z8b.refl _,σ,h,Ext.refl _ _,hr⟩
  | cons=>simp [Zdj] at hp
 | cons f fl ih=>
  intro H σ xs ys vs H1 h hr hp
  cases xs with
  | nil=>simp [Zdj] at hp
  | cons x xs=>
   obtain⟨v,vs',rfl,hr1,hr2⟩:=hr.ZX
   simp only [Zdj] at hp
   cases h1:Zjb f H x with
   | none=>simp [h1] at hp
   | some r=>
    obtain⟨y,Ha⟩:=r
    simp only [h1] at hp
    cases h2:Zdj fl Ha xs with
    | none=>simp [h2] at hp
    | some r=>
     obtain⟨ys',Hb⟩:=r
     simp only [h2,Option.some.injEq,Prod.mk.injEq] at hp
     obtain⟨rfl,rfl⟩:=hp
     obtain⟨k1,σ1,i1,e1,r1⟩:=ZFq h hr1 h1
     obtain⟨k2,σ2,i2,e2,r2⟩:=ih i1 (hr2.ext e1) h2
     exact⟨k1.trans k2,σ2,i2,e1.trans e2,Zx.Z0I.2 ⟨r1.ext e2,r2⟩⟩
structure ZNW (ids:List Nat) (H:Heap):Prop where
 nodup:ids.Nodup
 at_:∀id∈ids,∃b,H[id]? = some b/\b.live=true/\(b.row=false->∀r∈Z0G b.xs,r∈ids)
theorem ZNp:∀(n:Nat) {fb:List Bf} {H:Heap} {σ:Sg} {todo seen ids:List Nat} {H2:Heap},Inv B w0 σ H w->Zl2 n fb H todo seen=some (H2,ids)->seen.Nodup ->
  (∀id∈seen,∃b,H[id]? = some b/\b.live=true/\(b.row=false->∀r∈Z0G b.xs,r∈seen++todo)) ->
  H.length<=H2.length/\(∀id∈seen++todo,id∈ids)/\ZNW ids H2/\∃σ',Inv B w0 σ' H2 w/\Ext σ w σ' w:=by
 intro n
 induction n with
 | zero=>intro fb H σ todo seen ids H2 _ h;cases h
 | succ n ih=>
  intro fb H σ todo seen ids H2 hI h hnd hcl
  cases todo with
  | nil=>
   simp only [Zl2,Option.some.injEq,Prod.mk.injEq] at h
   obtain⟨rfl,rfl⟩:=h
   exact⟨Nat.le_refl _,by simp,⟨hnd,by simpa using hcl⟩,σ,hI,Ext.refl _ _⟩
  | cons id todo=>
   unfold Zl2 at h
   by_cases hin:seen.contains id=true
   ·rw [if_pos hin] at h
    have hin' : id∈seen:=by simpa using hin
    obtain⟨h1,h2,h3⟩:=ih hI h hnd (fun i hi=>by
     obtain⟨b,k1,k2,k3⟩:=hcl i hi
     exact⟨b,k1,k2,fun hr r hh=>by
      have:=k3 hr r hh
      simp only [List.mem_append,List.mem_cons] at this ⊢
      rcases this with hx|rfl|hx
      ·exact .inl hx
      ·exact .inl hin'
      ·exact .inr hx⟩)
    refine⟨h1,fun i hi=>h2 i ?_,h3⟩
    simp only [List.mem_append,List.mem_cons] at hi ⊢
    rcases hi with hx|rfl|hx
    ·exact .inl hx
    ·exact .inl hin'
    ·exact .inr hx
   ·rw [if_neg hin] at h
    have hin' : id∉seen:=by simpa using hin
    have hnd' : (seen++[id]).Nodup:=by
     rw [List.nodup_append]
     exact⟨hnd,by simp,fun a ha b hb=>by simp at hb;subst hb;intro e;subst e;exact hin' ha⟩
    have hmem:∀{i:Nat} {t:List Nat},i∈seen++id::todo->i∈(seen++[id])++(todo++t):=by
     intro i t hi
     simp only [List.mem_append,List.mem_cons] at hi ⊢
     rcases hi with hx|hx|hx
     ·exact .inl (.inl hx)
     ·exact .inl (.inr (.inl hx))
     ·exact .inr (.inl hx)
    split at h
    ·rename_i b fresh fb' hb
     split at h
     ·rename_i hc
      simp only [Bool.and_eq_true] at hc
      generalize hH' : (if fresh then H else bump H [id])=H' at h
      have hk:Z8b H H' /\ ∃σ',Inv B w0 σ' H' w/\Ext σ w σ' w:=by
       cases fresh with
       | true=>rw [if_pos rfl] at hH';subst hH';exact⟨Z8b.refl _,σ,hI,Ext.refl _ _⟩
       | false=>
        rw [if_neg (by simp)] at hH'
        subst hH'
        obtain⟨i1,i2⟩:=hI.freeze [id]
        exact⟨Z8b.bump _ _,_,i1,i2⟩
      obtain⟨hk,σ1,hI1,hE1⟩:=hk
      obtain⟨h1,h2,h3,σ2,h4,h5⟩:=ih hI1 h hnd' (fun i hi=>by
       simp only [List.mem_append,List.mem_singleton] at hi
       have key:∃b0,H[i]? = some b0/\b0.live=true/\(b0.row=false->∀r∈Z0G b0.xs,r∈seen++id::todo):=by
        rcases hi with hi|rfl
        ·exact hcl i hi
        ·exact⟨b,hb,hc.1,fun hr=>by rw [hc.2] at hr;cases hr⟩
       obtain⟨b0,k1,k2,k3⟩:=key
       obtain⟨b',m1,m2,m3,m4⟩:=hk.at_ i b0 k1
       refine⟨b',m1,m2.trans k2,fun hr r hh=>?_⟩
       rw [m4] at hh
       have:=hmem (t:=[]) (k3 (m3▸hr) r hh)
       simpa using this)
      refine⟨Nat.le_trans hk.len h1,fun i hi=>h2 i ?_,h3,σ2,h4,hE1.trans h5⟩
      have:=hmem (t:=[]) hi
      simpa using this
     ·cases h
    ·rename_i b fl fb' hb
     split at h
     ·rename_i hc
      simp only [Bool.and_eq_true,Bool.not_eq_true'] at hc
      split at h
      ·rename_i x hx
       split at h
       ·rename_i y H1 hp
        split at h
        ·rename_i b1 hb1
         split at h
         ·rename_i hoky
          obtain⟨L,hL,hok⟩:=hI.boxes id b hb hc.1
          obtain⟨us,r1,r2,r3,r4⟩:=hok.Z8h
          rw [hx] at r1
          obtain⟨u,us',rfl,r5,r6⟩:=r1.ZX
          obtain⟨hk,σ1,hI1,hE1,hy⟩:=ZFq hI r5 hp
          obtain⟨b1',m1,m2,m3,m4⟩:=hk.at_ id b hb
          rw [hb1] at m1
          cases m1
          have hlive1:b1.live=true:=m2.trans hc.1
          have hrow1:b1.row=false:=m3.trans hc.2
          have hx1:b1.xs=[x]:=m4.trans hx
          have hsw:∃σ2,Inv B w0 σ2 (H1.set id { b1 with xs:=[y] }) w/\Ext σ1 w σ2 w:=by
           obtain⟨L1,hL1,hok1⟩:=hI1.boxes id b1 hb1 hlive1
           obtain⟨us1,s1,s2,s3,s4⟩:=hok1.Z8h
           rw [hx1] at s1
           obtain⟨u1,us1',rfl,s5,s6⟩:=s1.ZX
           cases s6.Z0Y
           cases r6.Z0Y
           have hu:u1.cells.toList=u.cells.toList:=by
            obtain⟨L',hL',he,hLL⟩:=hE1.box id L hL
            rw [hL1] at hL'
            cases hL'
            have ht1:L1.tot=1:=by rw [hok1.tot,hx1];rfl
            have ht:L.tot=1:=by rw [hok.tot,hx];rfl
            have hLe:L1=L:=by
             rcases hLL with e|e
             ·exact e
             ·omega
            subst hLe
            rcases r4.2 with ⟨hv,hn⟩|⟨g,cap,cur,tg,hv,_,hg,_,_,_,_,hcur⟩
            ·rw [hx] at hn;simp at hn
            ·rcases s4.2 with ⟨hv',hn'⟩|⟨g',cap',cur',tg',hv',_,hg',_,_,_,_,hcur'⟩
             ·rw [hx1] at hn';simp at hn'
             ·rw [hv] at hv'
              simp only [Value.slice.injEq,Option.some.injEq,Addr.mk.injEq,and_true] at hv'
              obtain⟨rfl,_,_⟩:=hv'
              rw [hg] at hg'
              simp only [Option.some.injEq,Obj.cells.injEq] at hg'
              obtain⟨rfl,_⟩:=hg'
              rw [Z26] at hcur hcur'
              rw [<- hcur,<- hcur',hx,hx1]
           obtain⟨i1,i2⟩:=hI1.upd hb1 hlive1 hL1 (grownBy_refl w _) { b1 with xs:=[y] } hlive1 L1 rfl (.inl rfl) rfl (by simp [hx1]) (fun g hg=>.inl hg) (fun _ _ _ _=>rfl)
            (fun ex=>⟨by rw [hok1.tot,hx1];rfl,⟨[u],hy.ext ex,fun z hz=>by simp at hz;subst hz;rw [<- s2 u1 (by simp)];exact(congrArg List.length hu).symm,fun z hz=>s3 z (by rw [Z26] at hz ⊢;rw [hu];exact hz),by
             rw [Z26,<- hu,<- Z26];simpa [hx1] using s4⟩,hok1.ZdP,hok1.esz,by simpa using hoky,fun hh=>by simp only at hh;rw [hrow1] at hh;cases hh⟩)
           exact⟨_,i1,i2⟩
          obtain⟨σ2,hI2,hE2⟩:=hsw
          have hlen1:id<H1.length:=(List.getElem?_eq_some_iff.1 hb1).1
          obtain⟨h1,h2,h3,σ3,h4,h5⟩:=ih hI2 h hnd' (fun i hi=>by
           simp only [List.mem_append,List.mem_singleton] at hi
           by_cases hid:i=id
           ·subst hid
            refine⟨{ b1 with xs:=[y] },by simp [hlen1],hlive1,fun _ r hh=>?_⟩
            simp only [Z0G,List.append_nil] at hh
            simp [hh]
           ·have hi' : i∈seen:=by rcases hi with hi|hi;exact hi;exact absurd hi hid
            obtain⟨b0,k1,k2,k3⟩:=hcl i hi'
            obtain⟨b',q1,q2,q3,q4⟩:=hk.at_ i b0 k1
            refine⟨b',by rw [List.getElem?_set_ne (fun e=>hid e.symm)];exact q1,q2.trans k2,fun hr r hh=>?_⟩
            rw [q4] at hh
            exact hmem (k3 (q3▸hr) r hh))
          refine⟨Nat.le_trans hk.len (by simpa using h1),fun i hi=>h2 i (hmem hi),h3,σ3,h4,hE1.trans (hE2.trans h5)⟩
         ·cases h
        ·cases h
       ·cases h
      ·cases h
     ·cases h
    ·cases h
end
end Go.Proofs.YtjodhcdmhobmoaaGreatDoor.Le
