/- A part of it. -/
import Derived.Test.YtjodhcdmhobmoaaGreatDoorL2
import Derived.Orders
import Derived.LoopN
import Derived.Scope
set_option linter.unusedVariables false
set_option linter.unusedSimpArgs false
namespace Go.Proofs.YtjodhcdmhobmoaaGreatDoor.Le
open Go.RowKit (Below)
def JL (P:Program) (E:Env) (B:Nat) (w0:Start) (call:Dl):Prop:=
 ∀(f:FuncId) (args:List V) (H:Heap) (x:V) (H' : Heap) (σ:Sg) (w:World) (vs:List Value),call f args H=some (x,H')->Inv B w0 σ H w->Di E σ w->AQ σ w args vs ->
  (∃fn,P.funcs[f]? = some fn/\fn.body.isNone=false/\(fn.name == "runtime.NumGoroutine")=false) /\
  Calls P f vs.toArray w fun e w' =>∃u σ',e = .returned u/\Inv B w0 σ' H' w' /\ Ext σ w σ' w' /\ AQ σ' w' [x] [u]
section
variable {P:Program} {o:Oper} {a:Act} {w:World} {next:Act->World->Prop} {Q:Exit->Act->World->Prop}
theorem Ib {s:Sem Value} {u:Value} {w' : World} (he:execOp a.eval o=(do let x <- s;pure (Next.value x))) (hr:s.run P w = .ok u w') (hn:next (a.put o.dst u) w'):o.wp P a w next Q:=by
 unfold Oper.wp
 rw [he]
 simp only [Sem.run_bind,hr,Result.andThen_ok,Sem.run_pure]
 exact hn
theorem ZDt {s:Sem Unit} {w' : World} (he:execOp a.eval o=(do s;pure Next.skip)) (hr:s.run P w = .ok () w') (hn:next (a.put o.dst undef) w'):o.wp P a w next Q:=by
 unfold Oper.wp
 rw [he]
 simp only [Sem.run_bind,hr,Result.andThen_ok,Sem.run_pure]
 exact hn
end
theorem ZdH {E:Env} {σ w s} {a:Act} (hg:Di E σ w) (h:AQ σ w s a.tmps.toList) (parts:List (Nat×Operand)) :
  Parts σ w (parts.map fun(i,x)=>(i,ev E s x)) (parts.map fun(i,x)=>(i,a.eval x)):=by
 induction parts with
 | nil=>exact .nil
 | cons p ps ih=>exact .cons (EU hg h p.2) ih
theorem U7 {E:Env} {σ w s} {a:Act} (hg:Di E σ w) (h:AQ σ w s a.tmps.toList) (x:Option Operand):Jj σ w (x.map (ev E s)) (x.map a.eval):=by
 cases x with
 | none=>exact .none
 | some x=>exact .some (EU hg h x)
theorem Z2z {B w0 σ H w} (h:Inv B w0 σ H w) {x x' : V} {v:Value} (hr:AQ σ w [x] [v]) (hf:JU H x=some x') (ids:List Nat) (hids:∀i∈O6 x,i∈ids) :
  AQ (σ.freeze H ids) w [x'] [v]:=by
 unfold JU at hf
 split at hf
 ·rename_i vs
  cases hr with
  | BF h1 _=>
   cases hl:FN H vs with
   | none=>simp [hl] at hf
   | some vs' =>
    simp only [hl,Option.map_some,Option.some.injEq] at hf
    subst hf
    exact .BF (nY h h1 hl ids hids) .nil
 ·refine qX h hr hf ids (fun i hi=>hids i ?_)
  cases x<;>simp_all [O6]
def FU (P:Program) (E:Env) (B:Nat) (w0:Start) (call:Dl) (σ:Sg) (k:Nat) (H:Heap) (w:World) (s:List V) (a:Act) (o:Oper):Prop:=
 ∀x H',BO call E k H s o=some (x,H')->∀(next:Act->World->Prop) (Q:Exit->Act->World->Prop),
  (∀u w' σ',Inv B w0 σ' H' w' -> Ext σ w σ' w' -> AQ σ' w' [x] [u]->next (a.put o.dst u) w')->o.wp P a w next Q
section
variable {E:Env} {B:Nat} {w0:Start} {σ:Sg} {H:Heap} {w:World} {P:Program} {call:Dl} {s:List V} {a:Act} {o:Oper} {k:Nat}
theorem LW {y:Option V} {m:Sem Value} (hI:Inv B w0 σ H w) (he:execOp a.eval o=(do let x <- m;pure (Next.value x))) (hd:BO call E k H s o=y.map (·,H))
  (h:∀x,y=some x->∃u,m.run P w = .ok u w/\AQ σ w [x] [u]):FU P E B w0 call σ k H w s a o:=by
 intro x H' ho next Q hn
 rw [hd] at ho
 cases y with
 | none=>cases ho
 | some x' =>
  simp only [Option.map_some,Option.some.injEq,Prod.mk.injEq] at ho
  obtain⟨rfl,rfl⟩:=ho
  obtain⟨u,hu,hr⟩:=h x' rfl
  exact Ib he hu (hn _ w σ hI (Ext.refl σ w) hr)
theorem ZbX {y:V} {u:Value} (hI:Inv B w0 σ H w) (he:execOp a.eval o=pure (Next.value u)) (hd:BO call E k H s o=some (y,H)) (h:AQ σ w [y] [u]):FU P E B w0 call σ k H w s a o:=
 LW (m:=pure u) (y:=some y) hI (by rw [he];rfl) hd (fun x hx=>⟨u,rfl,by cases hx;exact h⟩)
theorem ZvA (hI:Inv B w0 σ H w) (hg:Di E σ w) (hs:AQ σ w s a.tmps.toList) {y:Operand} (hop:o.op = .move y):FU P E B w0 call σ k H w s a o:=
 ZbX hI (u:=a.eval y) (y:=ev E s y) (by unfold execOp;rw [hop]) (by unfold BO;rw [hop]) (EU hg hs y)
theorem ZpZ (hk0:FP H k=true) (hI:Inv B w0 σ H w) (hg:Di E σ w) (hs:AQ σ w s a.tmps.toList) {y:Operand} (hop:o.op = .assign y):FU P E B w0 call σ k H w s a o:=by
 by_cases hy:y = .const (.slice none 0 0)
 ·subst hy
  intro x H' ho next Q hn
  unfold BO at ho
  rw [hop] at ho
  simp only at ho
  split at ho
  ·rename_i e sz by' z0 hti
   simp only [Option.some.injEq,Prod.mk.injEq] at ho
   obtain⟨rfl,rfl⟩:=ho
   obtain⟨σ',h1,h2,h3⟩:=NL (e:=e) (Ap:=(E.size e).getD 0) hI hk0 (grownBy_refl w none) (xs:=[]) (us:=[]) .nil (by simp) (by simp) (by simp [flat]) (Um w B e _) (by simp [Value.ownBlock]) false (by simp)
   unfold Oper.wp execOp
   rw [hop]
   exact hn _ w σ' h1 h2 h3
  ·cases ho
 ·refine ZbX hI (u:=a.eval y) (y:=ev E s y) (by unfold execOp;rw [hop]) ?_ (EU hg hs y)
  unfold BO
  rw [hop]
  split<;>simp_all
theorem Zwk (hI:Inv B w0 σ H w) (hg:Di E σ w) (hs:AQ σ w s a.tmps.toList) {c y z:Operand} (hop:o.op = .pick c y z):FU P E B w0 call σ k H w s a o:=by
 intro x H' ho next Q hn
 unfold BO at ho
 rw [hop] at ho
 simp only at ho
 split at ho
 ·rename_i t hc
  simp only [Option.some.injEq,Prod.mk.injEq] at ho
  obtain⟨rfl,rfl⟩:=ho
  have hcv:=EU hg hs c
  rw [hc] at hcv
  have hcb:a.eval c = .bool t:=by generalize a.eval c=cv at hcv;cases hcv;rfl
  unfold Oper.wp execOp
  rw [hop]
  simp only [hcb,asBool,Sem.run_bind,Sem.run_pure,Result.andThen_ok]
  refine hn _ w σ hI (Ext.refl σ w) ?_
  cases t
  ·exact EU hg hs z
  ·exact EU hg hs y
 ·cases ho
theorem ZqR (hE:Ci E) (hP:E.P=P) (hk0:FP H k=true) (hI:Inv B w0 σ H w) {t:TypeId} (hop:o.op = .alloc t):FU P E B w0 call σ k H w s a o:=by
 intro x H' ho next Q hn
 unfold BO at ho
 rw [hop] at ho
 simp only at ho
 split at ho
 ·rename_i i hti
  split at ho
  ·rename_i z hz
   split at ho
   ·rename_i hc
    simp only [Option.some.injEq,Prod.mk.injEq] at ho
    obtain⟨rfl,rfl⟩:=ho
    obtain⟨inf,zv,hi,hzv,hsz,hbz,hzr⟩:=qQ hE hP hti hz σ w
    obtain⟨w',σ',hrun,h1,h2,h3⟩:=ZcP (P:=P) hI hk0 t hzr hc.2 hc.1
    refine Ib (s:=Instr.alloc t true (.tuple #[])) (u:=.pointer (some ⟨w.heap.size,0,none⟩)) (w' :=w') (by unfold execOp;rw [hop]) ?_ (hn _ w' σ' h1 h2 h3)
    simp [Instr.alloc,zeroValue,typeInfo,hi,hzv,hrun]
   ·cases ho
  ·cases ho
 ·cases ho
theorem ZxQ (hk0:FP H k=true) (hI:Inv B w0 σ H w) (hg:Di E σ w) (hs:AQ σ w s a.tmps.toList) {t:TypeId} {y:Operand} (hop:o.op = .box t y):FU P E B w0 call σ k H w s a o:=by
 intro x H' ho next Q hn
 unfold BO at ho
 rw [hop] at ho
 simp only at ho
 split at ho
 ·rename_i i hti
  split at ho
  ·rename_i hc
   simp only [Option.some.injEq,Prod.mk.injEq] at ho
   obtain⟨rfl,rfl⟩:=ho
   obtain⟨w',σ',hrun,h1,h2,h3⟩:=ZcP (P:=P) hI hk0 t (EU hg hs y) hc.2 hc.1
   refine Ib (s:=Instr.box t (a.eval y)) (u:=.pointer (some ⟨w.heap.size,0,none⟩)) (w' :=w') (by unfold execOp;rw [hop]) ?_ (hn _ w' σ' h1 h2 h3)
   simp [Instr.box,hrun]
  ·cases ho
 ·cases ho
theorem Ztq (hE:Ci E) (hP:E.P=P) (hI:Inv B w0 σ H w) (hg:Di E σ w) (hs:AQ σ w s a.tmps.toList) {t:TypeId} {parts:Array (Nat×Operand)} (hop:o.op = .build t parts):FU P E B w0 call σ k H w s a o:=
 LW (m:=Instr.build t (parts.map fun(i,x)=>(i,a.eval x))) hI (by unfold execOp;rw [hop]) (by unfold BO;rw [hop])
  (fun x hx=>ZzY hE hP (by simpa using ZdH hg hs parts.toList) hx)
theorem ZjP (hE:Ci E) (hP:E.P=P) (hk0:FP H k=true) (hI:Inv B w0 σ H w) (hg:Di E σ w) (hs:AQ σ w s a.tmps.toList) {t:TypeId} {n:Nat} {parts:Array (Nat×Operand)} (hop:o.op = .buildSlice t n parts):FU P E B w0 call σ k H w s a o:=by
 intro x H' ho next Q hn
 unfold BO at ho
 rw [hop] at ho
 simp only at ho
 obtain⟨vp,hvp⟩:∃vp:Array (Nat×Value),vp=parts.map (fun(i,x)=>(i,a.eval x)):=⟨_,rfl⟩
 obtain⟨u,w',σ',hu,h1,h2,h3⟩:=ZmP (P:=P) (vparts:=vp) hE hP hI hk0 (by rw [hvp];simpa using ZdH hg hs parts.toList) ho
 exact Ib (s:=Instr.buildSlice t n vp) (by unfold execOp;rw [hop,hvp]) hu (hn _ w' σ' h1 h2 h3)
theorem Zut (hE:Ci E) (hP:E.P=P) (hI:Inv B w0 σ H w) (hg:Di E σ w) (hs:AQ σ w s a.tmps.toList) {t:TypeId} {y:Operand} (hop:o.op = .load t y):FU P E B w0 call σ k H w s a o:=
 LW (m:=Instr.loadAt t (a.eval y)) hI (by unfold execOp;rw [hop]) (by unfold BO;rw [hop]) (fun x hx=>Zea hE hP hI (EU hg hs y) hx)
theorem Zrb (hE:Ci E) (hP:E.P=P) (hI:Inv B w0 σ H w) (hg:Di E σ w) (hs:AQ σ w s a.tmps.toList) {t:TypeId} {y z:Operand} (hop:o.op = .store t y z):FU P E B w0 call σ k H w s a o:=by
 intro x H' ho next Q hn
 unfold BO at ho
 rw [hop] at ho
 simp only at ho
 cases hb:Lu E H t (ev E s y) (ev E s z) with
 | none=>simp [hb] at ho
 | some H2=>
  simp only [hb,Option.map_some,Option.some.injEq,Prod.mk.injEq] at ho
  obtain⟨rfl,rfl⟩:=ho
  obtain⟨w',σ',hu,h1,h2⟩:=ZB5 (P:=P) hE hP hI (EU hg hs y) (EU hg hs z) hb
  exact ZDt (s:=Instr.storeAt t (a.eval y) (a.eval z)) (by unfold execOp;rw [hop]) hu (hn _ w' σ' h1 h2 (.no .nil))
theorem ZlU (hI:Inv B w0 σ H w) (hg:Di E σ w) (hs:AQ σ w s a.tmps.toList) {y:Operand} (hop:o.op = .nilCheck y):FU P E B w0 call σ k H w s a o:=by
 intro x H' ho next Q hn
 unfold BO at ho
 rw [hop] at ho
 simp only at ho
 split at ho
 ·rename_i hnil
  simp only [Option.some.injEq,Prod.mk.injEq] at ho
  obtain⟨rfl,rfl⟩:=ho
  have hv:=EU hg hs y
  have hrun:execOp a.eval o=pure (Next.value (a.eval y)):=by
   unfold execOp
   rw [hop]
   simp only
   generalize ev E s y=ey at hv hnil
   generalize a.eval y=vy at hv
   cases hv with
   | GV _ _ _ _ _ _ _=>cases hnil
   | und _ _=>cases hnil
   | no _=>cases hnil
   | @lit v _ _ hl _=>unfold Ry at hnil;split at hnil<;>simp_all
   | agg _ _ _=>cases hnil
   | BF _ _=>cases hnil
   | EW _=>rfl
   | FV a _=>rfl
   | Fh _=>rfl
   | GL a _=>rfl
   | sl _ _ _ _ _ _ _ _ _ _ _ _=>rfl
   | Cb _ _ _ _ _ _ _ _ _ _=>rfl
   | Ba _ _ _ _ _=>cases hnil
   | ptr g _ _ _ h4 _=>subst h4;rfl
   | CG _ _ _ _ _ _ _ _ _ _ _=>rfl
   | fn _ _ _=>rfl
   | Gv _ _=>rfl
  unfold Oper.wp
  rw [hrun]
  exact hn _ w σ hI (Ext.refl σ w) hv
 ·cases ho
theorem ZtG (hE:Ci E) (hP:E.P=P) (hI:Inv B w0 σ H w) (hg:Di E σ w) (hs:AQ σ w s a.tmps.toList) {op:BinOp} {t yt:TypeId} {y z:Operand} (hop:o.op = .binOp op t y z yt):FU P E B w0 call σ k H w s a o:=
 LW (m:=(do eqGuard op t y z (a.eval y) (a.eval z);binOp op t (a.eval y) (a.eval z))) hI (by unfold execOp;rw [hop]) (by unfold BO;rw [hop])
  (fun x hx=>by
   obtain⟨u,hu1,hu2,hr⟩:=ZEf (P:=P) hE hP y z (EU hg hs y) (EU hg hs z) hx
   exact⟨u,by simp only [Sem.run_bind,hu1,Result.andThen_ok,hu2],hr⟩)
theorem Zuf (hI:Inv B w0 σ H w) (hg:Di E σ w) (hs:AQ σ w s a.tmps.toList) {op:UnOp} {t:TypeId} {y:Operand} (hop:o.op = .unOp op t y):FU P E B w0 call σ k H w s a o:=
 LW (m:=Op.unary op (a.eval y)) hI (by unfold execOp;rw [hop]) (by unfold BO;rw [hop]) (fun x hx=>un_ok (EU hg hs y) hx)
theorem Zmt (hE:Ci E) (hP:E.P=P) (hk0:FP H k=true) (hI:Inv B w0 σ H w) (hg:Di E σ w) (hs:AQ σ w s a.tmps.toList) {src dst:TypeId} {y:Operand} (hop:o.op = .convert src dst y):FU P E B w0 call σ k H w s a o:=by
 intro x H' ho next Q hn
 unfold BO at ho
 rw [hop] at ho
 simp only at ho
 split at ho
 ·rename_i hb
  simp only [Bool.and_eq_true] at hb
  obtain⟨u,w',σ',hu,i1,i2,i3⟩:=ZBw (P:=P) hE hP hI hk0 (EU hg hs y) hb.1 hb.2 ho
  exact Ib (s:=convert src dst (a.eval y)) (by unfold execOp;rw [hop]) hu (hn _ w' σ' i1 i2 i3)
 obtain⟨rfl,u,hu,hr⟩:=ZBL (P:=P) hE hP hI (EU hg hs y) ho
 exact Ib (s:=convert src dst (a.eval y)) (by unfold execOp;rw [hop]) hu (hn _ w σ hI (Ext.refl σ w) hr)
theorem ZkU (hE:Ci E) (hP:E.P=P) (hk0:FP H k=true) (hI:Inv B w0 σ H w) (hg:Di E σ w) (hs:AQ σ w s a.tmps.toList) {t:TypeId} {l c:Operand} (hop:o.op = .makeSlice t l c):FU P E B w0 call σ k H w s a o:=by
 intro x H' ho next Q hn
 unfold BO at ho
 rw [hop] at ho
 simp only at ho
 split at ho
 ·rename_i e sz by' z0 kl n kc m hti hl hc
  split at ho
  ·rename_i ei hei
   split at ho
   ·rename_i z hz
    split at ho
    ·rename_i hcond
     obtain⟨c1,c2,c3,c4,c5,c6,c7⟩:=hcond
     simp only [Option.some.injEq,Prod.mk.injEq] at ho
     obtain⟨rfl,rfl⟩:=ho
     obtain⟨inf,d,hi,hd,q1,q2,q3,q4⟩:=FI (hE.ti _ _ hti)
     have hd' : P.underlying t=some (.slice e):=by rw [hP] at hd;rw [hd,Np q1]
     have hlv:=EU hg hs l
     have hcv:=EU hg hs c
     rw [hl] at hlv
     rw [hc] at hcv
     have e1:a.eval l = .int kl n:=by generalize a.eval l=q at hlv;cases hlv;rfl
     have e2:a.eval c = .int kc m:=by generalize a.eval c=q at hcv;cases hcv;rfl
     obtain⟨u,w',σ',hu,h1,h2,h3⟩:=ZCO (P:=P) (kl:=kl) (kc:=kc) hE hP hI hk0 hd' hei hz c1 c2 c3 c4 c5 c6 c7 _
     exact Ib (s:=Instr.makeSlice t (a.eval l) (a.eval c)) (by unfold execOp;rw [hop]) (by rw [e1,e2];exact hu) (hn _ w' σ' h1 h2 h3)
    ·cases ho
   ·cases ho
  ·cases ho
 ·cases ho
theorem Zs3 (hE:Ci E) (hP:E.P=P) (hI:Inv B w0 σ H w) (hg:Di E σ w) (hs:AQ σ w s a.tmps.toList) {t:TypeId} {y:Operand} {lo hi mx:Option Operand} (hop:o.op = .slice t y lo hi mx):FU P E B w0 call σ k H w s a o:=by
 intro x H' ho next Q hn
 unfold BO at ho
 rw [hop] at ho
 simp only at ho
 split at ho
 ·rename_i n e sz by' z0 hti
  obtain⟨u,σ',hu,h1,h2,h3⟩:=Zza (P:=P) (lo' :=lo.map a.eval) (hi' :=hi.map a.eval) (mx' :=mx.map a.eval) hE hP hI hti (EU hg hs y) (U7 hg hs lo) (U7 hg hs hi) (U7 hg hs mx) ho
  exact Ib (s:=Instr.sliceAt t (a.eval y) (lo.map a.eval) (hi.map a.eval) (mx.map a.eval)) (by unfold execOp;rw [hop]) hu (hn _ w σ' h1 h2 h3)
 obtain⟨u,σ',hu,h1,h2,h3⟩:=ZAl (P:=P) hE hP hI (EU hg hs y) (U7 hg hs lo) (U7 hg hs hi) (U7 hg hs mx) ho
 exact Ib (s:=Instr.sliceAt t (a.eval y) (lo.map a.eval) (hi.map a.eval) (mx.map a.eval)) (by unfold execOp;rw [hop]) hu (hn _ w σ' h1 h2 h3)
theorem Zxu (hE:Ci E) (hP:E.P=P) (hI:Inv B w0 σ H w) (hg:Di E σ w) (hs:AQ σ w s a.tmps.toList) {t:TypeId} {y:Operand} (hop:o.op = .sliceToArrayPointer t y):FU P E B w0 call σ k H w s a o:=
 LW (m:=Instr.arrayAt t (a.eval y)) hI (by unfold execOp;rw [hop]) (by unfold BO;rw [hop]) (fun x hx=>ZDj hE hP (EU hg hs y) hx)
theorem Zku (hE:Ci E) (hP:E.P=P) (hI:Inv B w0 σ H w) (hg:Di E σ w) (hs:AQ σ w s a.tmps.toList) {t:TypeId} {y:Operand} {f:Nat} (hop:o.op = .fieldAddr t y f):FU P E B w0 call σ k H w s a o:=
 LW (m:=Instr.fieldAt t (a.eval y) f) hI (by unfold execOp;rw [hop]) (by unfold BO;rw [hop]) (fun x hx=>ZpL hE hP (EU hg hs y) hx)
theorem ZrY (hE:Ci E) (hP:E.P=P) (hI:Inv B w0 σ H w) (hg:Di E σ w) (hs:AQ σ w s a.tmps.toList) {t:TypeId} {y:Operand} {f:Nat} (hop:o.op = .field t y f):FU P E B w0 call σ k H w s a o:=
 LW (m:=Instr.field t (a.eval y) f) hI (by unfold execOp;rw [hop]) (by unfold BO;rw [hop]) (fun x hx=>ZBy hE hP (EU hg hs y) hx)
theorem ZkM (hE:Ci E) (hP:E.P=P) (hI:Inv B w0 σ H w) (hg:Di E σ w) (hs:AQ σ w s a.tmps.toList) {t:TypeId} {y i:Operand} (hop:o.op = .indexAddr t y i):FU P E B w0 call σ k H w s a o:=
 LW (m:=Instr.indexAt t (a.eval y) (a.eval i)) hI (by unfold execOp;rw [hop]) (by unfold BO;rw [hop]) (fun x hx=>ZpP hE hP hI (EU hg hs y) (EU hg hs i) hx)
theorem ZqO (hE:Ci E) (hP:E.P=P) (hI:Inv B w0 σ H w) (hg:Di E σ w) (hs:AQ σ w s a.tmps.toList) {t:TypeId} {y i:Operand} (hop:o.op = .index t y i):FU P E B w0 call σ k H w s a o:=
 LW (m:=Instr.index t (a.eval y) (a.eval i)) hI (by unfold execOp;rw [hop]) (by unfold BO;rw [hop]) (fun x hx=>ZBA hE hP (EU hg hs y) (EU hg hs i) hx)
theorem Zbc {σ:Sg} {w:World} {kd:IntKind} {n:Int}:∀(l:List MapEntry) (kvs:List V) (i:Nat),AQ σ w kvs (l.flatMap fun e=>[e.key,e.val]) ->
  (MC kd n kvs=some none->Instr.findNow (.int kd) (.int kd n) l i=some none)/\(∀v,MC kd n kvs=some (some v)->∃j u,Instr.findNow (.int kd) (.int kd n) l i=some (some (j,u))/\AQ σ w [v] [u])
 | [],kvs,i,h=>by
  cases h
  exact⟨fun _=>rfl,fun v hv=>by cases hv⟩
 | e::l,kvs,i,h=>by
  have h' : AQ σ w kvs (e.key::e.val::l.flatMap fun e=>[e.key,e.val]):=h
  cases kvs with
  | nil=>cases h'
  | cons x kvs=>
   obtain⟨h1,h2⟩:=AQ.FH.1 h'
   cases kvs with
   | nil=>cases h2
   | cons y kvs=>
    obtain⟨h3,h4⟩:=AQ.FH.1 h2
    have ih:=Zbc (kd:=kd) (n:=n) l kvs (i+1) h4
    generalize hk:e.key=key at h1
    have no:(∀k a,x≠.lit (.int k a))->MC kd n (x::y::kvs)=none:=fun hx=>by
     unfold MC
     split
     ·rename_i heq;cases heq
     ·rename_i heq;simp only [List.cons.injEq] at heq;exact absurd heq.1 (hx _ _)
     ·rfl
    by_cases hx:∃k a,x = .lit (.int k a)
    ·obtain⟨k,a,rfl⟩:=hx
     cases h1 with
     | lit _ _=>
      unfold MC
      by_cases hkd:k=kd
      ·subst hkd
       simp only [if_true]
       unfold Instr.findNow
       rw [hk]
       simp only [Instr.sameNow,if_true]
       by_cases ha:n=a
       ·subst ha
        simp only [if_true,beq_self_eq_true]
        exact⟨fun hh=>by simp at hh,fun v hv=>by simp only [Option.some.injEq] at hv;subst hv;exact⟨i,e.val,rfl,h3⟩⟩
       ·rw [if_neg ha]
        have:(n==a)=false:=by simpa using ha
        simp only [this]
        exact ih
      ·rw [if_neg hkd]
       exact⟨fun hh=>(by cases hh),fun v hh=>(by cases hh)⟩
    ·rw [no (fun k a he=>hx ⟨k,a,he⟩)]
     exact⟨fun hh=>(by cases hh),fun v hh=>(by cases hh)⟩
theorem Zz6 (hE:Ci E) (hP:E.P=P) {t:TypeId} {ok:Bool} {m x r:V} {mv xv:Value} (hm:AQ σ w [m] [mv]) (hx:AQ σ w [x] [xv]) (h:VQ E t ok m x=some r) :
  ∃v,(Instr.lookup t mv xv ok).run P w = .ok v w/\AQ σ w [r] [v]:=by
 unfold VQ at h
 split at h
 ·rename_i k e sz by' z0 kvs kd n hti
  obtain⟨inf,d,hi,hd,q1,q2,q3,q4⟩:=FI (hE.ti _ _ hti)
  have hd' : P.underlying t=some (.map k e):=by
   rw [hP] at hd
   rw [hd]
   cases d<;>simp [Ko] at q1
   exact congrArg some (by rw [q1.1,q1.2])
  split at h
  ·rename_i hkd
   have hk:P.underlying k=some (.int kd):=by rw [<- hP];exact hE.kind _ _ hkd
   cases hm with
   | GV g es c h0 hg hus _=>
    subst hus
    cases hx with
    | lit _ _=>
     obtain⟨f1,f2⟩:=Zbc (kd:=kd) (n:=n) es.toList kvs 0 h0
     have hck:(Instr.checkKey es.isEmpty 10000 k (.int kd n)).run P w = .ok () w:=MapKept.run_checkKey (k:=.int kd n) hk (by simp [MapKept.IsKey]) es.isEmpty 9999
     have hfk:∀q,Instr.findNow (.int kd) (.int kd n) es.toList 0=some q->(Instr.findKey k (.int kd n) es.toList).run P w = .ok q w:=fun q hq=>by simp [Instr.findKey,run_underlying hk,hq]
     split at h
     ·rename_i v hv
      obtain⟨j,u,h1,h2⟩:=f2 v hv
      simp only [Option.some.injEq] at h
      subst h
      refine⟨if ok then .tuple #[u,.bool true] else u,by simp [Instr.lookup,run_underlying hd',MapKept.run_getObj_map hg,hck,hfk _ h1,Result.andThen],?_⟩
      cases ok with
      | true=>exact .BF (AQ.FH.2 ⟨h2,.lit rfl .nil⟩) .nil
      | false=>exact h2
     ·rename_i hv
      have h1:=f1 hv
      split at h
      ·rename_i ei hei
       obtain⟨infe,de,hie,hde,e1,e2,e3,e4⟩:=FI (hE.ti _ _ hei)
       cases hz:ei.zero with
       | none=>simp [hz] at h
       | some z=>
        simp only [hz,Option.map_some,Option.some.injEq] at h
        subst h
        rw [hz] at e4
        cases hzz:infe.zero with
        | none=>simp [hzz] at e4
        | some zv=>
         simp only [hzz,Option.map_some,Option.some.injEq] at e4
         have hzr:(zeroValue e).run P w = .ok zv w:=by rw [hP] at hie;simp [zeroValue,typeInfo,hie,hzz]
         have h2:=Xk σ w zv
         rw [<- e4] at h2
         refine⟨if ok then .tuple #[zv,.bool false] else zv,by simp [Instr.lookup,run_underlying hd',MapKept.run_getObj_map hg,hck,hfk _ h1,hzr,Result.andThen],?_⟩
         cases ok with
         | true=>exact .BF (AQ.FH.2 ⟨h2,.lit rfl .nil⟩) .nil
         | false=>exact h2
      ·cases h
     ·cases h
  ·cases h
 ·cases h
theorem Zq4 (hE:Ci E) (hP:E.P=P) (hI:Inv B w0 σ H w) (hg:Di E σ w) (hs:AQ σ w s a.tmps.toList) {t:TypeId} {y i:Operand} {ok:Bool} (hop:o.op = .lookup t y i ok):FU P E B w0 call σ k H w s a o:=
 LW (m:=Instr.lookup t (a.eval y) (a.eval i) ok) hI (by unfold execOp;rw [hop]) (by unfold BO;rw [hop]) (fun x hx=>Zz6 hE hP (EU hg hs y) (EU hg hs i) hx)
theorem ZnU (hI:Inv B w0 σ H w) (hg:Di E σ w) (hs:AQ σ w s a.tmps.toList) {y:Operand} {i:Nat} (hop:o.op = .extract y i):FU P E B w0 call σ k H w s a o:=by
 intro x H' ho next Q hn
 unfold BO at ho
 rw [hop] at ho
 simp only at ho
 split at ho
 ·rename_i vs hy
  cases hb:vs[i]? with
  | none=>simp [hb] at ho
  | some r=>
   simp only [hb,Option.map_some,Option.some.injEq,Prod.mk.injEq] at ho
   obtain⟨rfl,rfl⟩:=ho
   have hv:=EU hg hs y
   rw [hy] at hv
   have:∃ws,a.eval y = .tuple ws.toArray/\AQ σ w vs ws:=by
    generalize a.eval y=q at hv
    cases hv with
    | BF h1 _=>exact⟨_,rfl,h1⟩
   obtain⟨ws,e1,e2⟩:=this
   obtain⟨u,hu,hr⟩:=e2.get hb
   exact Ib (s:=Instr.extract (a.eval y) i) (by unfold execOp;rw [hop]) (by rw [e1];simp [Instr.extract,hu]) (hn _ w σ hI (Ext.refl σ w) hr)
 ·cases ho
theorem Zle (hI:Inv B w0 σ H w) (hg:Di E σ w) (hs:AQ σ w s a.tmps.toList) {f:FuncId} {first caps:Array Operand} (hop:o.op = .makeFunc (.func f) first caps):FU P E B w0 call σ k H w s a o:=
 LW (m:=Instr.makeFunc (.func f) (first.map a.eval) (caps.map a.eval)) (y:=some (.fn f (evs E s first) (evs E s caps))) hI (by unfold execOp;rw [hop]) (by unfold BO;rw [hop];rfl)
  (fun x hx=>by
   cases hx
   refine⟨.func (.func f) (first.map a.eval) (caps.map a.eval),rfl,?_⟩
   have h1:(first.toList.map a.eval).toArray=first.map a.eval:=by rw [<- Array.toList_map]
   have h2:(caps.toList.map a.eval).toArray=caps.map a.eval:=by rw [<- Array.toList_map]
   rw [<- h1,<- h2]
   exact AQ.fn (f:=f) (qW (a:=a) hg hs first.toList) (qW (a:=a) hg hs caps.toList) (xs:=[]) (vs:=[]) .nil)
theorem Zoa {P:Program} {f:FuncId} {fn:Func} (h:P.funcs[f]? = some fn) (hn:(fn.name == "runtime.NumGoroutine")=false) (hb:fn.body.isNone=false) (args:Array Value) (w:World) :
  (callFunc f args).run P w = .ok (.enter f args) w:=by
 unfold callFunc
 rw [Sem.run_bind]
 have hp:(Go.program).run P w = .ok P w:=rfl
 rw [hp]
 simp only [Result.andThen_ok,h,hn,hb,Bool.false_eq_true,if_false]
 rfl
theorem Zko (hcall:JL P E B w0 call) (hI:Inv B w0 σ H w) (hg:Di E σ w) (hs:AQ σ w s a.tmps.toList) {c:Call} {f:Operand} (hop:o.op = .call c) (hc:c.callee = .value f):FU P E B w0 call σ k H w s a o:=by
 intro x H' ho next Q hn
 unfold BO at ho
 rw [hop] at ho
 simp only [hc] at ho
 split at ho
 ·rename_i g first caps hf
  have hv:=EU hg hs f
  rw [hf] at hv
  have:∃us ws,a.eval f = .func (.func g) us.toArray ws.toArray/\AQ σ w first us/\AQ σ w caps ws:=by
   generalize a.eval f=q at hv
   cases hv with
   | fn h1 h2 _=>exact⟨_,_,rfl,h1,h2⟩
  obtain⟨us,ws,e1,r1,r2⟩:=this
  have r3:=qW (a:=a) hg hs c.args.toList
  obtain⟨⟨fn,hfn,hbody,hname⟩,hcalls⟩:=hcall g _ H x H' σ w _ ho hI hg ((r1.append r3).append r2)
  have hrun:(execOp a.eval o).run P w = .ok (.enter g (us++c.args.toList.map a.eval++ws).toArray) w:=by
   have hca:us.toArray++c.args.map a.eval++ws.toArray=(us++c.args.toList.map a.eval++ws).toArray:=by
    rw [<- Array.toList_map];simp
   have he:execOp a.eval o=callFunc g (us.toArray++c.args.map a.eval++ws.toArray):=by
    unfold execOp
    rw [hop]
    simp [resolve,hc,e1,Deferred.ofValue,invoke]
   rw [he,hca]
   exact Zoa hfn hname hbody _ w
  unfold Oper.wp
  rw [hrun,Oper.upon_enter]
  refine hcalls.mono ?_
  rintro e w' ⟨u,σ',rfl,h1,h2,h3⟩
  exact hn _ w' σ' h1 h2 h3
 ·cases ho
theorem Zyd (h:Inv B w0 σ H w) {x:V} {v:Value} {n:Nat} (hr:AQ σ w [x] [v]) (hl:lenOf H x=some n):n<=maxLen:=by
 unfold lenOf at hl
 split at hl
 ·simp only [Option.some.injEq] at hl
  subst hl
  cases hr with
  | EW _=>exact Nat.zero_le _
  | FV a _=>exact Nat.zero_le _
  | sl b o c e k0 k1 k2 k3 k4 k5 k6 k7=>exact Nat.le_trans k4 k5
 ·simp only [Option.some.injEq] at hl
  subst hl
  cases hr with
  | Fh _=>exact Nat.zero_le _
  | GL a _=>exact Nat.zero_le _
  | Cb b o e k0 k1 k2 k3 k4 k5 k6=>exact k4
 ·rename_i id off len tot
  split at hl
  ·rename_i b hb
   simp only [Option.some.injEq] at hl
   subst hl
   obtain⟨L,us,m,hxl,hol,hs,hview⟩:=Nz h hr hb
   rcases hview with ⟨hv,hvv,ho,hl,ht⟩|⟨g,cap,k,hv,hvv,hle,hmx,hk1,hk2⟩
   ·omega
   ·omega
  ·cases hl
 ·rename_i s
  simp only [Option.some.injEq] at hl
  subst hl
  cases hr with
  | lit hlf _=>simpa [leaf] using hlf
 ·cases hl
theorem Zdz (isMax:Bool) {b:Builtin} (hI:Inv B w0 σ H w) {c:Call} (hop:o.op = .call c) (hc:c.callee = .builtin b) {xs:List V} {vs:List Value} (hr:AQ σ w xs vs) (hargs:c.args.map a.eval=vs.toArray)
  (hb:b=if isMax then .max else .min) {x:V} {H' : Heap} (hm:(PS isMax xs).map (·,H)=some (x,H')) {next:Act->World->Prop} {Q:Exit->Act->World->Prop}
  (hn:∀u w' σ',Inv B w0 σ' H' w' -> Ext σ w σ' w' -> AQ σ' w' [x] [u]->next (a.put o.dst u) w'):o.wp P a w next Q:=by
 cases hm' : PS isMax xs with
 | none=>simp [hm'] at hm
 | some y=>
  simp only [hm',Option.map_some,Option.some.injEq,Prod.mk.injEq] at hm
  obtain⟨rfl,rfl⟩:=hm
  unfold PS at hm'
  split at hm'
  ·rename_i k n rest
   obtain⟨v,vs',rfl,h1,h2⟩:=hr.Dq
   have hlf:leaf (.int k n)=true/\v = .int k n:=by cases h1 with|lit l _=>exact⟨l,rfl⟩
   obtain⟨hlf,rfl⟩:=hlf
   obtain⟨u,hu,hru⟩:=Z4w (P:=P) isMax h2 hlf hm'
   cases isMax
   ·simp only [Bool.false_eq_true,if_false] at hb hu
    subst hb
    exact Ib (s:=Builtin.min_ c.argTypes o.type (Value.int k n::vs').toArray) (by unfold execOp;rw [hop];simp only [resolve,hc,hargs];rfl) (by simpa [Builtin.min_] using hu) (hn _ w σ hI (Ext.refl σ w) hru)
   ·simp only [if_true] at hb hu
    subst hb
    exact Ib (s:=Builtin.max_ c.argTypes o.type (Value.int k n::vs').toArray) (by unfold execOp;rw [hop];simp only [resolve,hc,hargs];rfl) (by simpa [Builtin.max_] using hu) (hn _ w σ hI (Ext.refl σ w) hru)
  ·cases hm'
theorem ZiU (hE:Ci E) (hP:E.P=P) (hk0:FP H k=true) (hI:Inv B w0 σ H w) (hg:Di E σ w) (hs:AQ σ w s a.tmps.toList) {c:Call} {b:Builtin} (hop:o.op = .call c) (hc:c.callee = .builtin b):FU P E B w0 call σ k H w s a o:=by
 intro x H' ho next Q hn
 unfold BO at ho
 rw [hop] at ho
 simp only [hc] at ho
 have hr:=qW (a:=a) hg hs c.args.toList
 have hargs:c.args.map a.eval=(c.args.toList.map a.eval).toArray:=by rw [<- Array.toList_map]
 unfold evs at ho
 generalize c.args.toList.map (ev E s)=xs at ho hr
 generalize hvs:c.args.toList.map a.eval=vs at hr hargs
 generalize htys:c.argTypes.toList=tys at ho
 have htys' : c.argTypes=tys.toArray:=by rw [<- htys]
 unfold Ox at ho
 split at ho
 ·rename_i x0 t
  obtain⟨v,vs',rfl,h1,h2⟩:=hr.Dq
  cases h2.FM
  split at ho
  ·rename_i hfit
   cases hl:lenOf H x0 with
   | none=>simp [hl] at ho
   | some n=>
    simp only [hl] at ho
    cases ho
    have hlen:(Builtin.len_ #[t] o.type #[v]).run P w = .ok (.int .i64 n) w:=by
     unfold rP at hfit
     split at hfit
     ·rename_i st
      have:=hE.isStr _ hfit
      rw [hP] at this
      exact ZeB hI h1 hl this (.inr rfl) ⟨fun⟨e,he⟩=>(by cases he),fun hh=>absurd rfl (hh st)⟩
     ·rename_i hne
      split at hfit
      ·rename_i e sz by' z0 hti
       obtain⟨inf,d,hi,hd,q1,q2,q3,q4⟩:=FI (hE.ti _ _ hti)
       rw [hP] at hd
       exact ZeB hI h1 hl hd (.inl ⟨e,Np q1⟩) ⟨fun _=>hne,fun _=>⟨e,Np q1⟩⟩
      ·cases hfit
    have hbd:=hlen
    have hlf:leaf (.int .i64 (n:Int))=true:=by
     have:=Zyd hI h1 hl
     have:(Lit.int .i64 (n:Int)).wf=true:=by
      simp [Lit.wf,IntKind.min,IntKind.max,IntKind.signed,IntKind.bits,maxLen] at this ⊢
      omega
     simpa [leaf] using this
    exact Ib (s:=Builtin.len_ #[t] o.type #[v]) (by unfold execOp;rw [hop];simp only [resolve,hc,hargs,htys'];rfl) hlen (hn _ w σ hI (Ext.refl σ w) (.lit hlf .nil))
  ·cases ho
 ·rename_i s0 x0 t u
  obtain⟨v,vs',rfl,h1,h2⟩:=hr.Dq
  obtain⟨v2,vs2,rfl,h3,h4⟩:=h2.Dq
  cases h4.FM
  obtain⟨u',w',σ',hu,i1,i2,i3⟩:=ZzP (P:=P) hE hP hI hk0 o.type h1 h3 ho
  exact Ib (s:=Builtin.append_ #[t,u] o.type #[v,v2]) (by unfold execOp;rw [hop];simp only [resolve,hc,hargs,htys'];rfl) hu (hn _ w' σ' i1 i2 i3)
 ·rename_i d0 x0 t u
  obtain⟨v,vs',rfl,h1,h2⟩:=hr.Dq
  obtain⟨v2,vs2,rfl,h3,h4⟩:=h2.Dq
  cases h4.FM
  obtain⟨u',w',σ',hu,i1,i2,i3⟩:=ZDa (P:=P) hE hP hI o.type h1 h3 ho
  exact Ib (s:=Builtin.copy_ #[t,u] o.type #[v,v2]) (by unfold execOp;rw [hop];simp only [resolve,hc,hargs,htys'];rfl) hu (hn _ w' σ' i1 i2 i3)
 ·rename_i tys0
  exact Zdz false hI hop hc hr hargs rfl (by simpa using ho) hn
 ·exact Zdz true hI hop hc hr hargs rfl (by simpa using ho) hn
 ·cases ho
end
theorem ZA8 {E B w0 σ H w} {P:Program} (hE:Ci E) (hP:E.P=P) {call:Dl} (hcall:JL P E B w0 call) (hI:Inv B w0 σ H w) (hg:Di E σ w) {k:Nat} (hk0:FP H k=true) {s:List V} {a:Act} (hs:AQ σ w s a.tmps.toList)
  (o:Oper):FU P E B w0 call σ k H w s a o:=by
 cases hop:o.op with
 | move y=>exact ZvA hI hg hs hop
 | assign y=>exact ZpZ hk0 hI hg hs hop
 | pick c y z=>exact Zwk hI hg hs hop
 | alloc t=>exact ZqR hE hP hk0 hI hop
 | box t y=>exact ZxQ hk0 hI hg hs hop
 | build t parts=>exact Ztq hE hP hI hg hs hop
 | buildSlice t n parts=>exact ZjP hE hP hk0 hI hg hs hop
 | load t y=>exact Zut hE hP hI hg hs hop
 | store t y z=>exact Zrb hE hP hI hg hs hop
 | nilCheck y=>exact ZlU hI hg hs hop
 | binOp op t y z yt=>exact ZtG hE hP hI hg hs hop
 | unOp op t y=>exact Zuf hI hg hs hop
 | convert src dst y=>exact Zmt hE hP hk0 hI hg hs hop
 | makeSlice t l c=>exact ZkU hE hP hk0 hI hg hs hop
 | slice t y lo hi mx=>exact Zs3 hE hP hI hg hs hop
 | sliceToArrayPointer t y=>exact Zxu hE hP hI hg hs hop
 | fieldAddr t y f=>exact Zku hE hP hI hg hs hop
 | field t y f=>exact ZrY hE hP hI hg hs hop
 | indexAddr t y i=>exact ZkM hE hP hI hg hs hop
 | index t y i=>exact ZqO hE hP hI hg hs hop
 | extract y i=>exact ZnU hI hg hs hop
 | lookup t y i ok=>exact Zq4 hE hP hI hg hs hop
 | makeFunc fn first caps=>
  cases fn with
  | func f=>exact Zle hI hg hs hop
  | _=>intro x H' ho;unfold BO at ho;rw [hop] at ho;cases ho
 | call c=>
  cases hc:c.callee with
  | value f=>exact Zko hcall hI hg hs hop hc
  | builtin b=>exact ZiU hE hP hk0 hI hg hs hop hc
  | _=>intro x H' ho;unfold BO at ho;rw [hop] at ho;simp only [hc] at ho;cases ho
 | _=>intro x H' ho;unfold BO at ho;rw [hop] at ho;cases ho
structure Eu (E:Env) (B:Nat) (w0:Start) (σ:Sg) (st:St) (a:Act) (w:World):Prop where
 inv:Inv B w0 σ st.H w
 Ea:Di E σ w
 slots:AQ σ w st.s a.tmps.toList
 calm:a.defers=[]
theorem pK {σ w s x u} {a:Act} (h:AQ σ w s a.tmps.toList) (hx:AQ σ w [x] [u]) (d:Option Tmp):AQ σ w (setSlot s d x) (a.put d u).tmps.toList:=by
 cases d with
 | none=>exact h
 | some d=>
  simp only [setSlot,Act.put,Array.toList_setIfInBounds]
  exact h.set d hx
theorem rE {a:Act} (h:a.defers=[]) (d:Option Tmp) (u:Value):(a.put d u).defers=[]:=by
 cases d<;>exact h
theorem ZA4 {σ w s} {a:Act} {ops:Array Oper} (h:AQ σ w s a.tmps.toList) {j d:Nat} {want r:Bool} (hd:(ops[j]?).bind (·.dst)=some d) (hg:OJ (s.getD d .und) want=some r) :
  (yielded ops a.tmps j==some want)=r:=by
 unfold yielded
 rw [hd]
 have hcase:∀x,s.getD d .und=x->x≠.und->∃v,a.tmps[d]? = some v/\AQ σ w [x] [v]:=by
  intro x hx hne
  cases hs:s[d]? with
  | none=>simp [List.getD,hs] at hx;exact absurd hx.symm hne
  | some y=>
   simp [List.getD,hs] at hx
   subst hx
   obtain⟨v,hv,hr⟩:=h.get hs
   exact⟨v,by simpa using hv,hr⟩
 unfold OJ at hg
 split at hg
 ·rename_i b hb
  obtain⟨v,hv,hr⟩:=hcase _ hb (by simp)
  simp only [Option.some.injEq] at hg
  have:v = .bool b:=by cases hr;rfl
  subst this
  simp only [Option.bind_some,hv]
  rw [<- hg]
  cases b<;>cases want<;>rfl
 ·rename_i hb
  obtain⟨v,hv,hr⟩:=hcase _ hb (by simp)
  simp only [Option.some.injEq] at hg
  have:v=undef:=by cases hr;rfl
  subst this
  simp only [Option.bind_some,hv]
  rw [<- hg]
  rfl
 ·cases hg
section
variable {E:Env} {B:Nat} {w0:Start} {σ:Sg} {P:Program} {call:Dl} {ops:Array Oper} {st st' : St} {a:Act} {w:World}
theorem ZcV (hE:Ci E) (hP:E.P=P) (hcall:JL P E B w0 call) {k i:Nat} (hk:FP st.H k=true) (h:Eu E B w0 σ st a w) (hs:Jk call E ops k i st=some st')
  {K:Act->World->Prop} {Q:Exit->Act->World->Prop} (hn:∀a' w' σ',Eu E B w0 σ' st' a' w' -> Ext σ w σ' w' -> K a' w'):wpOp P ops Q i K a w:=by
 unfold Jk at hs
 unfold wpOp
 cases ho:ops[i]? with
 | none=>
  simp only [ho,Option.some.injEq] at hs ⊢
  subst hs
  exact hn a w σ h (Ext.refl σ w)
 | some o=>
  simp only [ho] at hs ⊢
  have hop:∀x H',BO call E k st.H st.s o=some (x,H')->st' = ⟨setSlot st.s o.dst x,H'⟩->o.wp P a w K Q:=by
   intro x H' hx hst
   refine ZA8 hE hP hcall h.inv h.Ea hk h.slots o x H' hx K Q (fun u w' σ' h1 h2 h3=>hn _ w' σ' ⟨?_,h.Ea.ext h2,?_,rE h.calm _ _⟩ h2)
   ·rw [hst];exact h1
   ·rw [hst];exact pK (h.slots.ext h2) h3 o.dst
  have hskip:st' = ⟨setSlot st.s o.dst EE,st.H⟩->K (a.put o.dst undef) w:=by
   intro hst
   refine hn _ w σ ⟨by rw [hst];exact h.inv,h.Ea,?_,rE h.calm _ _⟩ (Ext.refl σ w)
   rw [hst]
   exact pK h.slots (.no .nil) o.dst
  cases hact:F5 call E ops k o st with
  | none=>simp [hact] at hs
  | some r=>
   obtain⟨v,H'⟩:=r
   simp only [hact,Option.some.injEq] at hs
   unfold F5 at hact
   unfold Region.wanted
   cases hgd:o.guard with
   | none=>
    simp only [hgd] at hact ⊢
    exact .inl (hop v H' hact hs.symm)
   | some jw=>
    obtain⟨j,want⟩:=jw
    simp only [hgd] at hact ⊢
    cases hd:(ops[j]?).bind (·.dst) with
    | none=>simp [hd] at hact
    | some d=>
     simp only [hd] at hact
     cases hg:OJ (st.s.getD d .und) want with
     | none=>rw [hg] at hact;cases hact
     | some r=>
      rw [hg] at hact
      simp only [ZA4 h.slots hd hg]
      cases r with
      | false=>
       simp only [Option.some.injEq,Prod.mk.injEq] at hact
       obtain⟨rfl,rfl⟩:=hact
       simp only [Bool.false_eq_true,if_false]
       exact hskip hs.symm
      | true=>
       simp only at hact
       simp only [if_true]
       exact .inl (hop v H' hact hs.symm)
theorem Zee (hE:Ci E) (hP:E.P=P) (hcall:JL P E B w0 call):∀(is:List Nat) (st:St) (σ:Sg) (a:Act) (w:World),Eu E B w0 σ st a w->MM call E ops is st=some st' ->
  ∀{Q:Exit->Act->World->Prop},(∀a' w' σ',Eu E B w0 σ' st' a' w' -> Ext σ w σ' w' -> Q .normal a' w')->wpOps P ops Q is a w:=by
 intro is
 induction is with
 | nil=>
  intro st σ a w h hs Q hn
  simp only [MM,Option.some.injEq] at hs
  subst hs
  exact hn a w σ h (Ext.refl σ w)
 | cons i rest ih=>
  intro st σ a w h hs Q hn
  simp only [MM] at hs
  cases h1:stepD call E ops i st with
  | none=>simp [h1] at hs
  | some st1=>
   simp only [h1] at hs
   rw [wpOps_cons]
   exact ZcV hE hP hcall (dG st.H) h h1 (fun a1 w1 σ1 hr1 he1=>ih st1 σ1 a1 w1 hr1 hs (fun a' w' σ' hr he=>hn a' w' σ' hr (he1.trans he)))
end
theorem getD_set_ne' {s:List V} {d t:Nat} (h:d≠t) (v u:V):(s.set d v).getD t u=s.getD t u:=by
 simp [List.getD,List.getElem?_set_ne h]
theorem tC {E:Env} {s:List V} {d:Option Tmp} {v:V} (x:Operand) (h:∀d',d=some d' -> x≠.tmp d'):ev E (setSlot s d v) x=ev E s x:=by
 cases d with
 | none=>rfl
 | some d=>
  cases x with
  | tmp t=>exact getD_set_ne' (fun e=>h d rfl (by rw [e])) v .und
  | _=>rfl
theorem Z0x {E:Env} {s s' : List V} (xs:List Operand) (h:∀x∈xs,ev E s x=ev E s' x):xs.map (ev E s)=xs.map (ev E s'):=List.map_congr_left h
theorem ZaJ {E:Env} {s s' : List V} (ps:Array (Nat×Operand)) (h:∀x∈(ps.toList.map (·.2)).toArray,ev E s x=ev E s' x) :
  (ps.toList.map fun(i,x)=>(i,ev E s x))=(ps.toList.map fun(i,x)=>(i,ev E s' x)):=List.map_congr_left fun p hp=>by
 obtain⟨i,x⟩:=p
 simp only [h x (by simpa using ⟨i,by simpa using hp⟩)]
theorem Zy1 {call:Dl} {E:Env} {k:Nat} {H:Heap} {s s' : List V} {o:Oper} (h:∀x∈o.op.operands,ev E s x=ev E s' x):BO call E k H s o=BO call E k H s' o:=by
 obtain⟨dst,op,type,pos,after,guard⟩:=o
 simp only at h
 cases op<;>simp only [Op.operands] at h<;>simp only [BO]
 case assign x=>
  have hx:ev E s x=ev E s' x:=h x (by simp)
  split<;>simp_all
 case build t ps=>rw [ZaJ ps h]
 case buildSlice t n ps=>rw [ZaJ ps h]
 case makeFunc fn first captured=>
  have h1:evs E s first=evs E s' first:=Z0x _ fun x hx=>h x (by simp at hx;simp [hx])
  have h2:evs E s captured=evs E s' captured:=Z0x _ fun x hx=>h x (by simp at hx;simp [hx])
  cases fn<;>simp only [h1,h2]
 case call c=>
  have h1:evs E s c.args=evs E s' c.args:=Z0x _ fun x hx=>h x (by simp at hx;simp [Call.operands,hx])
  rw [h1]
  cases hc:c.callee with
  | value f=>have hf:ev E s f=ev E s' f:=h f (by simp [Call.operands,hc]);simp only [hf]
  | builtin b=>cases b<;>rfl
  | invoke r n=>rfl
 case slice t x lo hi mx=>
  have hx:ev E s x=ev E s' x:=h x (by simp)
  have hlo:lo.map (ev E s)=lo.map (ev E s'):=by cases lo<;>simp_all
  have hhi:hi.map (ev E s)=hi.map (ev E s'):=by cases hi<;>simp_all
  have hmx:mx.map (ev E s)=mx.map (ev E s'):=by cases mx<;>simp_all
  rw [hx,hlo,hhi,hmx]
 all_goals (first|rfl|(simp_all;done))
theorem qV {ops:Array Oper} {o:Oper} {d:Tmp} (h:d∉o.looksAt ops):∀x∈o.op.operands,x≠.tmp d:=fun x hx e=>h (by
 subst e
 exact List.mem_append_left _ (List.mem_filterMap.2 ⟨.tmp d,by simpa using hx,rfl⟩))
theorem Zek {call:Dl} {E:Env} {k:Nat} {H:Heap} {s:List V} {o:Oper} {ops:Array Oper} {d:Option Tmp} {v:V} (h:∀d',d=some d' -> d' ∉o.looksAt ops) :
  BO call E k H (setSlot s d v) o=BO call E k H s o:=
 Zy1 fun x hx=>tC x fun d' hd=>qV (h d' hd) x hx
theorem Z2Q {E:Env} {s:List V} {o:Oper} {ops:Array Oper} {d:Option Tmp} {v:V} (h:∀d',d=some d' -> d' ∉o.looksAt ops):Dy E (setSlot s d v) o=Dy E s o:=by
 unfold Dy
 rw [<- List.flatMap_map,<- List.flatMap_map (f:=ev E s)]
 congr 1
 exact List.map_congr_left fun x hx=>tC x fun d' hd=>qV (h d' hd) x (by simpa using hx)
theorem Z9Q {E:Env} {s:List V} {o:Oper} {ops:Array Oper} {d:Option Tmp} {v:V} (h:∀d',d=some d' -> d' ∉o.looksAt ops):quietAt E (setSlot s d v) o=quietAt E s o:=by
 unfold quietAt
 cases hop:o.op with
 | call c=>
  simp only
  cases hcal:c.callee with
  | value f=>
   cases f with
   | tmp t=>
    have hx:Operand.tmp t∈o.op.operands:=by simp [hop,Op.operands,Call.operands,hcal]
    have:=tC (E:=E) (s:=s) (v:=v) (.tmp t) fun d' hd=>qV (h d' hd) _ hx
    simp only [show (setSlot s d v).getD t .und=s.getD t .und from this]
   | _=>rfl
  | _=>rfl
 | _=>rfl
theorem Zdd {call:Dl} {E:Env} {k:Nat} {H:Heap} {s:List V} {o:Oper} {ops:Array Oper} {d:Option Tmp} {v:V} (h:∀d',d=some d' -> d' ∉o.looksAt ops) :
  F5 call E ops k o ⟨setSlot s d v,H⟩=F5 call E ops k o ⟨s,H⟩:=by
 unfold F5
 cases hg:o.guard with
 | none=>exact Zek h
 | some jw=>
  obtain⟨j,want⟩:=jw
  simp only
  cases hd:(ops[j]?).bind (·.dst) with
  | none=>rfl
  | some g=>
   have hne:∀d',d=some d' -> d' ≠g:=fun d' hd' e=>h d' hd' (by
    subst e
    exact List.mem_append_right _ (by simp [hg,hd]))
   have:(setSlot s d v).getD g .und=s.getD g .und:=by
    cases d with
    | none=>rfl
    | some d=>exact getD_set_ne' (hne d rfl) v .und
   simp only [this]
   rw [Zek h]
def Box.low (b:Box):Box:={ b with floor:=0 }
def DV (R:List Nat) (H H' : Heap):Prop:=∀id∈R,(H[id]?).map Box.low=(H'[id]?).map Box.low
theorem Ov {H H' : Heap} {id tot:Nat} {b:Box} (h:(H[id]?).map Box.low=(H'[id]?).map Box.low) (hb:DW H id tot=some b):∃b',DW H' id tot=some b' /\ b'.low=b.low:=by
 unfold DW at *
 cases h1:H[id]? with
 | none=>simp [h1] at hb
 | some b0=>
  simp only [h1] at hb h
  cases h2:H'[id]? with
  | none=>simp [h2] at h
  | some b1=>
   simp only [h2,Option.map_some,Option.some.injEq] at h
   split at hb
   ·rename_i hc
    simp only [Option.some.injEq] at hb
    subst hb
    refine⟨b1,?_,h.symm⟩
    have e1:b1.live=b0.live:=(congrArg Box.live h).symm
    have e2:b1.xs=b0.xs:=(congrArg Box.xs h).symm
    simp only [e1,e2,hc,if_true]
   ·cases hb
theorem Rw {b b' : Box} (h:b'.low=b.low):b'.row=b.row/\b'.EX=b.EX/\b'.elem=b.elem/\b'.Ap=b.Ap/\b'.xs=b.xs:=
 ⟨congrArg (·.row) h,congrArg (·.EX) h,congrArg (·.elem) h,congrArg (·.Ap) h,congrArg (·.xs) h⟩
theorem RX {H H' : Heap} {id tot:Nat} (h:(H[id]?).map Box.low=(H'[id]?).map Box.low) (hb:DW H id tot=none):DW H' id tot=none:=by
 cases hb' : DW H' id tot with
 | none=>rfl
 | some b=>
  obtain⟨b',h1,_⟩:=Ov h.symm hb'
  rw [hb] at h1
  cases h1
section
variable {H H' : Heap}
theorem Z3h {x:V} (h:DV (Dz x) H H'):IA H' x=IA H x:=by
 unfold IA
 split<;>try rfl
 rename_i id off len tot
 cases hb:DW H id tot with
 | none=>rw [RX (h id (by simp [Dz])) hb]
 | some b=>
  obtain⟨b',h1,h2⟩:=Ov (h id (by simp [Dz])) hb
  obtain⟨e1,e2,e3,e4,e5⟩:=Rw h2
  simp only [h1,e1,e4,e5]
theorem ZAM {xs:List V} (h:DV (xs.flatMap Dz) H H'):JF H' xs=JF H xs:=by
 induction xs with
 | nil=>rfl
 | cons x xs ih=>
  simp only [JF]
  rw [Z3h (fun i hi=>h i (by simp [hi])),ih (fun i hi=>h i (by rw [List.flatMap_cons];exact List.mem_append_right _ hi))]
theorem Zen {x:V} (h:DV (Cj x) H H'):IB H' x=IB H x:=by
 unfold IB
 split
 ·rw [ZAM (by simpa [Cj] using h)]
 ·rename_i hne
  refine Z3h (fun i hi=>h i ?_)
  cases x with
  | fn f a b=>simp [Dz] at hi
  | agg cs=>exact absurd rfl (hne cs)
  | _=>exact hi
theorem Z1L {xs:List V} (h:DV (xs.flatMap Cj) H H'):FN H' xs=FN H xs:=by
 induction xs with
 | nil=>rfl
 | cons x xs ih=>
  simp only [FN]
  rw [Zen (fun i hi=>h i (by simp [hi])),ih (fun i hi=>h i (by rw [List.flatMap_cons];exact List.mem_append_right _ hi))]
theorem Z2B {x:V} (h:DV (Cj x) H H'):lenOf H' x=lenOf H x:=by
 unfold lenOf
 split<;>try rfl
 rename_i id off len tot
 cases hb:DW H id tot with
 | none=>rw [RX (h id (by simp [Cj,Dz])) hb]
 | some b=>
  obtain⟨b',h1,h2⟩:=Ov (h id (by simp [Cj,Dz])) hb
  simp only [h1]
theorem nC {x:V} (h:DV (Cj x) H H'):elemsOf H' x=elemsOf H x:=by
 unfold elemsOf
 split<;>try rfl
 rename_i id off len tot
 cases hb:DW H id tot with
 | none=>rw [RX (h id (by simp [Cj,Dz])) hb]
 | some b=>
  obtain⟨b',h1,h2⟩:=Ov (h id (by simp [Cj,Dz])) hb
  obtain⟨e1,e2,e3,e4,e5⟩:=Rw h2
  simp only [h1,e1,e5]
theorem qF {x:V} {n:Nat} (h:DV (Cj x) H H'):E5 H' x n=E5 H x n:=by
 unfold E5
 split<;>try rfl
 rename_i id off len tot
 cases hb:DW H id tot with
 | none=>rw [RX (h id (by simp [Cj,Dz])) hb]
 | some b=>
  obtain⟨b',h1,h2⟩:=Ov (h id (by simp [Cj,Dz])) hb
  obtain⟨e1,e2,e3,e4,e5⟩:=Rw h2
  simp only [h1,e4]
theorem Zz0 {E:Env} {t:TypeId} {a:V} (h:DV (Cj a) H H'):MK E H' t a=MK E H t a:=by
 unfold MK
 split
 ·rfl
 ·split<;>try rfl
  rename_i id j off tot
  cases hb:DW H id tot with
  | none=>rw [RX (h id (by simp [Cj,Dz])) hb]
  | some b=>
   obtain⟨b',h1,h2⟩:=Ov (h id (by simp [Cj,Dz])) hb
   obtain⟨e1,e2,e3,e4,e5⟩:=Rw h2
   simp only [h1,e5]
theorem Zm1 {E:Env} {t:TypeId} {x i:V} (h:DV (Cj x) H H'):Oj E H' t x i=Oj E H t x i:=by
 unfold Oj
 split<;>try rfl
 split<;>try rfl
 rename_i id off len tot hty
 cases hb:DW H id tot with
 | none=>rw [RX (h id (by simp [Cj,Dz])) hb]
 | some b=>
  obtain⟨b',h1,h2⟩:=Ov (h id (by simp [Cj,Dz])) hb
  obtain⟨e1,e2,e3,e4,e5⟩:=Rw h2
  simp only [h1,e4]
theorem Z7R {E:Env} {t:TypeId} {x:V} (h:DV (Cj x) H H'):Oq E H' t x=Oq E H t x:=by
 unfold Oq
 split<;>try rfl
 split<;>try rfl
 split<;>try rfl
 rw [qF h]
end
def eff (ids:List Nat) (nb:Option Box) (k:Nat) (H:Heap):Heap:=
 match nb with
 | none=>bump H ids
 | some b=>place (bump H ids) k b
def sW (E:Env) (call:Dl):Prop:=
 ∀f,((E.pure f||(E.env f).isSome)&&(E.own f).isNone)=true->∀args H v H1,call f args H=some (v,H1) ->
  H1=bump H (args.flatMap Dj)/\∀H',DV (args.flatMap Cj) H H' -> call f args H' = some (v,bump H' (args.flatMap Dj))
def tX (E:Env) (call:Dl):Prop:=
 ∀f,PW E f=true->∀args H v H1,call f args H=some (v,H1) ->
  ∃ids nbs,(∀i∈ids,i∈args.flatMap Cj)/\H1=bump H ids++nbs/\∀H',H'.length=H.length->DV (args.flatMap Cj) H H' -> call f args H' = some (v,bump H' ids++nbs)
structure OB (E:Env) (call:Dl):Prop where
 pure:sW E call
 free:tX E call
theorem ZdK {x:V} {i:Nat} (h:i∈FB x):i∈Dz x:=by
 cases x<;>simp_all [FB,Dz]
theorem ZxR {x:V} {i:Nat} (h:i∈Dj x):i∈Cj x:=by
 cases x with
 | agg cs=>
  simp only [Dj,Cj,List.mem_flatMap] at *
  obtain⟨c,hc,hi⟩:=h
  exact⟨c,hc,ZdK hi⟩
 | _=>simp_all [Dj,Cj,FB,Dz]
theorem Z28 {xs:List V} {i:Nat} (h:i∈xs.flatMap Dj):i∈xs.flatMap Cj:=by
 simp only [List.mem_flatMap] at *
 obtain⟨c,hc,hi⟩:=h
 exact⟨c,hc,ZxR hi⟩
theorem ZdW {y:Option V} {H H1:Heap} {v:V} (h:y.map (·,H)=some (v,H1)):y=some v/\H1=H:=by
 cases y with
 | none=>cases h
 | some x=>simp at h;exact⟨by rw [h.1],h.2.symm⟩
def Eff (call:Dl) (E:Env) (k:Nat) (H:Heap) (s:List V) (o:Oper) (v:V) (H1:Heap):Prop:=
 ∃ids nb,(∀i∈ids,i∈Dy E s o)/\(nb.isSome=true->Bi E o = .a)/\H1=eff ids nb k H /\
  ∀H' k',(Bi E o = .a->k' = k)->DV (Dy E s o) H H' -> BO call E k' H' s o=some (v,eff ids nb k' H')
theorem qP {call:Dl} {E:Env} {k:Nat} {H H1:Heap} {s:List V} {o:Oper} {v:V} {y:Heap->Option V} (he:∀H k,BO call E k H s o=(y H).map (·,H))
  (h:BO call E k H s o=some (v,H1)) (hy:∀H',DV (Dy E s o) H H' -> y H' = y H):Eff call E k H s o v H1:=by
 rw [he] at h
 obtain⟨h1,h2⟩:=ZdW h
 exact⟨[],none,by simp,by simp,h2,fun H' k' _ hs=>by rw [he,hy H' hs,h1];rfl⟩
theorem fF {E:Env} {s:List V} {o:Oper} {H H' : Heap} (h:DV (Dy E s o) H H') {x:Operand} (hx:x∈o.op.operands):DV (Cj (ev E s x)) H H' :=fun i hi=>
 h i (List.mem_flatMap.2 ⟨x,by simpa using hx,hi⟩)
theorem Z4z {call:Dl} {E:Env} {k:Nat} {H H1:Heap} {s:List V} {o:Oper} {v:V} (hc:Bi E o = .s) (h:BO call E k H s o=some (v,H1)) :
  H1=H/\∀H' k',BO call E k' H' s o=some (v,H'):=by
 have key:∀y:Option V,(∀H k,BO call E k H s o=y.map (·,H))->H1=H/\∀H' k',BO call E k' H' s o=some (v,H'):=by
  intro y he
  rw [he] at h
  obtain⟨h1,h2⟩:=ZdW h
  exact⟨h2,fun H' k' =>by rw [he,h1];rfl⟩
 obtain⟨dst,op,type,pos,after,guard⟩:=o
 cases op<;>simp only [Bi] at hc<;>try (cases hc;done)
 case convert=>split at hc<;>cases hc
 case move x=>exact key (some (ev E s x)) (fun H k=>rfl)
 case pick c x y=>
  refine key (match ev E s c with | .lit (.bool t)=>some (if t then ev E s x else ev E s y)|_=>none) (fun H k=>?_)
  simp only [BO]
  split<;>simp_all
 case build t ps=>exact key (VI E t (ps.toList.map fun(i,x)=>(i,ev E s x))) (fun H k=>rfl)
 case binOp op t x y z=>exact key (MQ E op t (ev E s x) (ev E s y)) (fun H k=>rfl)
 case unOp op t x=>exact key (iI op (ev E s x)) (fun H k=>rfl)
 case sliceToArrayPointer t x=>exact key (VZ E t (ev E s x)) (fun H k=>rfl)
 case field t x f=>exact key (VE E t (ev E s x) f) (fun H k=>rfl)
 case fieldAddr t x f=>exact key (U0 E t (ev E s x) f) (fun H k=>rfl)
 case index t x i=>exact key (Uu E t (ev E s x) (ev E s i)) (fun H k=>rfl)
 case nilCheck x=>
  refine key (match Ry (ev E s x) with|some false=>some (ev E s x)|_=>none) (fun H k=>?_)
  simp only [BO]
  split<;>simp_all
 case lookup t m x ok=>exact key (VQ E t ok (ev E s m) (ev E s x)) (fun H k=>rfl)
 case extract x i=>
  refine key (match ev E s x with | .BF vs=>vs[i]? | _=>none) (fun H k=>?_)
  simp only [BO]
  split<;>simp_all
 case makeFunc fn first caps=>
  cases fn with
  | func f=>exact key (some (.fn f (evs E s first) (evs E s caps))) (fun H k=>rfl)
  | _=>simp [BO] at h
 case assign x=>
  by_cases hx:x = .const (.slice none 0 0)
  ·subst hx;cases hc
  ·refine key (some (ev E s x)) (fun H k=>?_)
   unfold BO
   split<;>simp_all
 case call c=>
  split at hc
  ·cases hc
  ·rename_i hcal
   exact key (PS false (evs E s c.args)) (fun H k=>by simp only [BO,hcal];rfl)
  ·rename_i hcal
   exact key (PS true (evs E s c.args)) (fun H k=>by simp only [BO,hcal];rfl)
  ·split at hc
   ·cases hc
   ·split at hc<;>cases hc
  ·split at hc<;>cases hc
  ·cases hc
theorem Zxj {E:Env} {H H' : Heap} {src dst:TypeId} {x r:V} (h:IY E H src dst x=some (r,H')):H' = H:=by
 unfold IY at h
 split at h
 ·split at h
  ·split at h
   ·cases h;rfl
   ·cases h
  ·cases h
 ·split at h
  ·cases h;rfl
  ·cases h
 ·split at h
  ·split at h
   ·split at h
    ·split at h
     ·cases h;rfl
     ·cases h
    ·cases h
   ·cases h
  ·cases h
theorem Zaj {E:Env} {H H' : Heap} {t:TypeId} {x r:V} {lo hi:Option V} (h:JO E H t x lo hi none=some (r,H')):H' = H:=by
 unfold JO at h
 split at h
 ·split at h
  ·cases h
  ·split at h
   ·cases h
   ·split at h
    ·cases h
    ·split at h
     ·cases ‹none=some _›
     ·split at h<;>cases h<;>rfl
 ·cases h
theorem Z31 {E:Env} {s:List V} {o:Oper} {c:Call} (hop:o.op = .call c) {H H' : Heap} (h:DV (Dy E s o) H H'):DV ((evs E s c.args).flatMap Cj) H H' :=by
 intro i hi
 simp only [evs,List.mem_flatMap,List.mem_map] at hi
 obtain⟨v,⟨x,hx,rfl⟩,hi⟩:=hi
 refine h i (List.mem_flatMap.2 ⟨x,?_,hi⟩)
 simp at hx
 simp [hop,Op.operands,Call.operands,hx]
theorem Z2k {E:Env} {s:List V} {o:Oper} {c:Call} (hop:o.op = .call c) {i:Nat} (hi:i∈(evs E s c.args).flatMap Cj):i∈Dy E s o:=by
 simp only [evs,List.mem_flatMap,List.mem_map] at hi
 obtain⟨v,⟨x,hx,rfl⟩,hi⟩:=hi
 refine List.mem_flatMap.2 ⟨x,?_,hi⟩
 simp at hx
 simp [hop,Op.operands,Call.operands,hx]
theorem ZvO {E:Env} {s:List V} {o:Oper} {t:TypeId} {n:Nat} {ps:Array (Nat×Operand)} (hop:o.op = .buildSlice t n ps) {i:Nat}
  (hi:i∈((ps.toList.map fun(i,x)=>(i,ev E s x)).map (·.2)).flatMap Cj):i∈Dy E s o:=by
 simp only [List.map_map,List.mem_flatMap,List.mem_map] at hi
 obtain⟨v,⟨p,hp,rfl⟩,hi⟩:=hi
 refine List.mem_flatMap.2 ⟨p.2,?_,hi⟩
 simp only [hop,Op.operands]
 exact List.mem_map.2 ⟨p,hp,rfl⟩
theorem ZDg {H H' : Heap} {id:Nat} (h:(H[id]?).map Box.low=(H'[id]?).map Box.low):(H'.getD id default).Ap=(H.getD id default).Ap:=by
 simp only [List.getD]
 cases h1:H[id]? with
 | none=>cases h2:H'[id]? with
  | none=>rfl
  | some b=>simp [h1,h2] at h
 | some b=>cases h2:H'[id]? with
  | none=>simp [h1,h2] at h
  | some b' =>
   simp only [h1,h2,Option.map_some,Option.some.injEq] at h
   show b'.Ap=b.Ap
   exact(congrArg Box.Ap h).symm
theorem bump_nil (H:Heap):bump H []=H:=rfl
theorem Zvz {E:Env} {H H1:Heap} {t:TypeId} {x v:V} {lo hi mx:Option V} (h:JO E H t x lo hi mx=some (v,H1)) :
  ∃ids,(∀i∈ids,i∈Cj x)/\H1=bump H ids/\∀H',DV (Cj x) H H' -> JO E H' t x lo hi mx=some (v,bump H' ids):=by
 cases mx with
 | none=>
  have:=Zaj h
  subst this
  refine⟨[],by simp,(bump_nil _).symm,fun H' hs=>?_⟩
  rw [bump_nil]
  have e:(JO E H' t x lo hi none).map (·.1)=(JO E H1 t x lo hi none).map (·.1):=by
   simp only [JO]
   rw [Z7R hs,Z2B hs]
   split
   ·split
    ·rfl
    ·split
     ·rfl
     ·split
      ·rfl
      ·split<;>rfl
   ·rfl
  cases hc:JO E H' t x lo hi none with
  | none=>rw [hc,h] at e;simp at e
  | some r=>
   obtain⟨r,H2⟩:=r
   have:=Zaj hc
   subst this
   rw [hc,h] at e
   simp only [Option.map_some,Option.some.injEq] at e
   rw [e]
 | some m=>
  simp only [JO] at h ⊢
  split at h
  ·rename_i hf
   split at h
   ·cases h
   ·rename_i n hn
    split at h
    ·cases h
    ·rename_i hh hbh
     split at h
     ·cases h
     ·rename_i l hbl
      have key:∀H',DV (Cj x) H H' -> Oq E H' t x=true/\lenOf H' x=some n/\elemsOf H' x=elemsOf H x:=fun H' hs=>⟨by rw [Z7R hs];exact hf,by rw [Z2B hs];exact hn,nC hs⟩
      split at h
      ·rename_i k xs b e hk hxs
       split at h
       ·rename_i hkh
        simp only [Option.some.injEq,Prod.mk.injEq] at h
        obtain⟨rfl,rfl⟩:=h
        refine⟨[],by simp,(bump_nil _).symm,fun H' hs=>?_⟩
        obtain⟨q1,q2,q3⟩:=key H' hs
        rw [if_pos q1,q2,bump_nil]
        simp only [hbh,hbl,hk,q3,hxs,if_pos hkh]
       ·cases h
      ·rename_i k xs b e hk hxs
       split at h
       ·rename_i hkh
        simp only [Option.some.injEq,Prod.mk.injEq] at h
        obtain⟨rfl,rfl⟩:=h
        refine⟨[],by simp,(bump_nil _).symm,fun H' hs=>?_⟩
        obtain⟨q1,q2,q3⟩:=key H' hs
        rw [if_pos q1,q2,bump_nil]
        simp only [hbh,hbl,hk,q3,hxs,if_pos hkh]
       ·cases h
      ·rename_i k xs id off len tot hk hxs
       split at h
       ·rename_i hkh
        simp only [Option.some.injEq,Prod.mk.injEq] at h
        obtain⟨rfl,rfl⟩:=h
        refine⟨[id],by simp [Cj,Dz],rfl,fun H' hs=>?_⟩
        obtain⟨q1,q2,q3⟩:=key H' hs
        rw [if_pos q1,q2]
        simp only [hbh,hbl,hk,q3,hxs,if_pos hkh,ZDg (hs id (by simp [Cj,Dz]))]
       ·cases h
      ·cases h
  ·cases h
theorem ZwF {E:Env} {H H1:Heap} {n:Nat} {e:TypeId} {x v:V} {lo hi mx:Option V} (h:OI E H n e x lo hi mx=some (v,H1)) :
  ∃ids,(∀i∈ids,i∈Cj x)/\H1=bump H ids/\∀H',DV (Cj x) H H' -> OI E H' n e x lo hi mx=some (v,bump H' ids):=by
 unfold OI at h
 split at h
 ·rename_i id i off tot m' hm'
  cases hb:DW H id tot with
  | none=>simp [hb] at h
  | some b=>
   simp only [hb] at h
   split at h
   ·rename_i cs hrow hxs
    split at h
    ·rename_i hc
     simp only [Option.some.injEq,Prod.mk.injEq] at h
     obtain⟨rfl,rfl⟩:=h
     refine⟨[id],by simp [Cj,Dz],rfl,fun H' hs=>?_⟩
     obtain⟨b',h1,h2⟩:=Ov (hs id (by simp [Cj,Dz])) hb
     obtain⟨e1,e2,e3,e4,e5⟩:=Rw h2
     unfold OI
     simp only [hm',h1,e1,e5,hrow,hxs]
     rw [if_pos hc]
    ·cases h
   ·cases h
 ·cases h
theorem Zer {call:Dl} {E:Env} (hpure:sW E call) {k:Nat} {H H1:Heap} {s:List V} {o:Oper} {v:V} (hc:Bi E o≠.w) (hcc:Bi E o≠.c) (hq:quietAt E s o=true) (h:BO call E k H s o=some (v,H1)) :
  Eff call E k H s o v H1:=by
 by_cases hs:Bi E o = .s
 ·obtain⟨h1,h2⟩:=Z4z hs h
  exact⟨[],none,by simp,by simp,h1,fun H' k' _ _=>h2 H' k'⟩
 have mk:∀(nb:Option Box),Bi E o = .a->(nb.isSome=true)->(∀H k,BO call E k H s o=nb.map fun b=>((if b.row then V.Ba k 0 b.xs.length b.xs.length else V.ptr k 0 0 1),place H k b))->Eff call E k H s o v H1:=by
  intro nb hca hnb he
  cases nb with
  | none=>cases hnb
  | some b=>
   rw [he] at h
   simp only [Option.map_some,Option.some.injEq,Prod.mk.injEq] at h
   obtain⟨h1,h2⟩:=h
   refine⟨[],some b,by simp,fun _=>hca,h2.symm,fun H' k' hk _=>?_⟩
   rw [he,hk hca]
   simp only [Option.map_some,h1]
   rfl
 obtain⟨dst,op,type,pos,after,guard⟩:=o
 cases op<;>try (refine absurd ?_ hs;simp [Bi];done)
 case assign x=>
  by_cases hx:x = .const (.slice none 0 0)
  ·subst hx
   cases hti:E.ti type with
   | none=>simp [BO,hti] at h
   | some i=>
    obtain⟨ty,sz,by',z0⟩:=i
    cases ty with
    | slice e=>exact mk (some (Bg true false e ((E.size e).getD 0) [])) rfl rfl (fun H k=>by simp only [BO,hti,Option.map_some];rfl)
    | _=>simp [BO,hti] at h
  ·refine absurd ?_ hs
   unfold Bi
   split<;>simp_all
 case alloc t=>
  cases hti:E.ti t with
  | none=>simp [BO,hti] at h
  | some i=>
   cases hz:i.zero with
   | none=>simp [BO,hti,hz] at h
   | some z=>
    by_cases hcond:z.cells.length=i.size/\okV z=true
    ·exact mk (some (Bg false false t i.size [z])) rfl rfl (fun H k=>by simp only [BO,hti,hz,hcond,and_self,if_true,Option.map_some];rfl)
    ·simp [BO,hti,hz,hcond] at h
 case box t x=>
  cases hti:E.ti t with
  | none=>simp [BO,hti] at h
  | some i=>
   by_cases hcond:(ev E s x).cells.length=i.size/\okV (ev E s x)=true
   ·exact mk (some (Bg false false t i.size [ev E s x])) rfl rfl (fun H k=>by simp only [BO,hti,hcond,and_self,if_true,Option.map_some];rfl)
   ·simp [BO,hti,hcond] at h
 case makeSlice t l c=>
  have hlen:∀(n:Int) (z:V),(List.replicate n.toNat z).length=n.toNat:=fun n z=>by simp
  cases hti:E.ti t with
  | none=>simp [BO,hti] at h
  | some i=>
   obtain⟨ty,sz,by',z0⟩:=i
   cases ty with
   | slice e=>
    cases hl:ev E s l with
    | lit lv=>
     cases lv with
     | int k1 n=>
      cases hcv:ev E s c with
      | lit cv=>
       cases cv with
       | int k2 m=>
        cases hei:E.ti e with
        | none=>simp [BO,hti,hl,hcv,hei] at h
        | some ei=>
         cases hz:ei.zero with
         | none=>simp [BO,hti,hl,hcv,hei,hz] at h
         | some z=>
          by_cases hcond:0<=n/\n<=m/\m.toNat*ei.bytes<=lim/\m<=maxLen/\0<ei.size/\z.cells.length=ei.size/\okV z=true
          ·refine mk (some (Bg true false e ei.size (List.replicate n.toNat (Du (E.rows e) z)))) rfl rfl (fun H k=>?_)
           simp only [BO,hti,hl,hcv,hei,hz,Option.map_some]
           rw [if_pos hcond]
           simp [Bg]
          ·simp only [BO,hti,hl,hcv,hei,hz] at h
           rw [if_neg hcond] at h
           cases h
       | _=>simp [BO,hti,hl,hcv] at h
      | _=>simp [BO,hti,hl,hcv] at h
     | _=>simp [BO,hti,hl] at h
    | _=>simp [BO,hti,hl] at h
   | _=>simp [BO,hti] at h
 case buildSlice t n ps=>
  have he:∀H k,BO call E k H s { dst:=dst,op:=.buildSlice t n ps,type:=type,pos:=pos,after:=after,guard:=guard }=Oh E k H t n (ps.toList.map fun(i,x)=>(i,ev E s x)):=fun H k=>rfl
  have hrefs:=fun i=>ZvO (E:=E) (s:=s) (o:={ dst:=dst,op:=.buildSlice t n ps,type:=type,pos:=pos,after:=after,guard:=guard }) rfl (i:=i)
  rw [he] at h
  generalize (ps.toList.map fun(i,x)=>(i,ev E s x))=parts at he h hrefs
  unfold Oh at h
  split at h
  ·rename_i e sz by' z0 hti
   split at h
   ·rename_i ei hei
    split at h
    ·rename_i z vs hz hf
     split at h
     ·rename_i hcond
      split at h
      ·rename_i xs hfe
       simp only [Option.some.injEq,Prod.mk.injEq] at h
       obtain⟨h1,h2⟩:=h
       refine⟨(parts.map (fun p:Nat×V=>p.2)).flatMap Dj,some (Bg true false e ei.size xs),fun i hi=>hrefs i (Z28 hi),fun _=>by simp [Bi],h2.symm,fun H' k' hk hs=>?_⟩
       have hfr:FN H' (parts.map (·.2))=some vs:=by rw [Z1L (fun i hi=>hs i (hrefs i hi))];exact hf
       have hkk:k' = k:=hk (by simp [Bi])
       rw [he,hkk,<- h1]
       simp only [Oh,hti,hei,hz,hfr,hfe]
       rw [if_pos hcond]
       rfl
      ·cases h
     ·cases h
    ·cases h
   ·cases h
  ·cases h
 case load t x=>exact qP (y:=fun H=>MK E H t (ev E s x)) (fun H k=>rfl) h (fun H' hs=>Zz0 (fF hs (by simp [Op.operands])))
 case indexAddr t x i=>exact qP (y:=fun H=>Oj E H t (ev E s x) (ev E s i)) (fun H k=>rfl) h (fun H' hs=>Zm1 (fF hs (by simp [Op.operands])))
 case convert src dst2 x=>
  have hx:x∈(Op.convert src dst2 x).operands:=by simp [Op.operands]
  by_cases hb:(E.isStr src&&E.isBytes dst2)=true
  ·have hca:Bi E { dst:=dst,op:=.convert src dst2 x,type:=type,pos:=pos,after:=after,guard:=guard } = .a:=by simp only [Bi];rw [if_pos hb]
   have he:∀H k,BO call E k H s { dst:=dst,op:=.convert src dst2 x,type:=type,pos:=pos,after:=after,guard:=guard }=ML E k H dst2 (ev E s x):=fun H k=>by simp only [BO];rw [if_pos hb]
   cases hev:ev E s x with
   | lit v=>
    cases v with
    | string st=>
     cases hti:E.ti dst2 with
     | none=>rw [he,hev] at h;simp [ML,hti] at h
     | some i=>
      obtain⟨ty,sz,by',z0⟩:=i
      cases ty with
      | slice e=>
       by_cases h1:E.size e=some 1
       ·exact mk (some (Bg true false e 1 (bytesV st))) hca rfl (fun H k=>by rw [he,hev];simp only [ML,hti,h1,if_true,Option.map_some];rw [show (Bg true false e 1 (bytesV st)).xs.length=st.size from by simp only [Bg,bytesV,List.length_map];exact Array.length_toList];rfl)
       ·rw [he,hev] at h;simp [ML,hti,h1] at h
      | _=>rw [he,hev] at h;simp [ML,hti] at h
    | _=>rw [he,hev] at h;simp [ML] at h
   | _=>rw [he,hev] at h;simp [ML] at h
  have hcv0:∀H k,BO call E k H s { dst:=dst,op:=.convert src dst2 x,type:=type,pos:=pos,after:=after,guard:=guard }=IY E H src dst2 (ev E s x):=fun H k=>by simp only [BO];rw [if_neg hb]
  refine qP (y:=fun H=>(IY E H src dst2 (ev E s x)).map (·.1)) (fun H k=>?_) h (fun H' hs=>?_)
  ·rw [hcv0]
   cases hcv:IY E H src dst2 (ev E s x) with
   | none=>rfl
   | some r=>
    obtain⟨r,H2⟩:=r
    have:=Zxj hcv
    subst this
    rfl
  ·have h1:=fF hs hx
   simp only [IY]
   generalize ev E s x=ex at h1 ⊢
   split
   ·split
    ·split<;>rfl
    ·rfl
   ·split<;>rfl
   ·rw [qF h1,nC h1]
    split
    ·split
     ·split
      ·split<;>rfl
      ·rfl
     ·rfl
    ·rfl
 case slice t x lo hi mx=>
  have hx:x∈(Op.slice t x lo hi mx).operands:=by simp [Op.operands]
  by_cases harr:∃n e sz by' z0,E.ti t=some ⟨.array n e,sz,by',z0⟩
  ·obtain⟨n,e,sz,by',z0,hti⟩:=harr
   have he:∀H k,BO call E k H s { dst:=dst,op:=.slice t x lo hi mx,type:=type,pos:=pos,after:=after,guard:=guard }=OI E H n e (ev E s x) (lo.map (ev E s)) (hi.map (ev E s)) (mx.map (ev E s)):=fun H k=>by simp only [BO,hti]
   rw [he] at h
   obtain⟨ids,g1,g2,g3⟩:=ZwF h
   exact⟨ids,none,fun i hi=>List.mem_flatMap.2 ⟨x,by simpa using hx,g1 i hi⟩,by simp,g2,fun H' k' _ hs=>by rw [he];exact g3 H' (fF hs hx)⟩
  ·have he:∀H k,BO call E k H s { dst:=dst,op:=.slice t x lo hi mx,type:=type,pos:=pos,after:=after,guard:=guard }=JO E H t (ev E s x) (lo.map (ev E s)) (hi.map (ev E s)) (mx.map (ev E s)):=fun H k=>by
    simp only [BO]
    split
    ·rename_i n e sz by' z0 hti
     exact absurd ⟨n,e,sz,by',z0,hti⟩ harr
    ·rfl
   rw [he] at h
   obtain⟨ids,g1,g2,g3⟩:=Zvz h
   exact⟨ids,none,fun i hi=>List.mem_flatMap.2 ⟨x,by simpa using hx,g1 i hi⟩,by simp,g2,fun H' k' _ hs=>by rw [he];exact g3 H' (fF hs hx)⟩
 case call c=>
  cases hcal:c.callee with
  | invoke r n=>exact absurd (by simp [Bi,hcal]) hc
  | builtin b=>
   by_cases hb:b = .len
   ·subst hb
    have he:∀H k,BO call E k H s { dst:=dst,op:=.call c,type:=type,pos:=pos,after:=after,guard:=guard }=Ox E k H s .len (evs E s c.args) c.argTypes.toList:=fun H k=>by simp only [BO,hcal]
    refine qP (y:=fun H=>(Ox E 0 H s .len (evs E s c.args) c.argTypes.toList).map (·.1)) (fun H k=>?_) h (fun H' hs=>?_)
    ·rw [he]
     unfold Ox
     split<;>try rfl
     ·split
      ·cases lenOf H _<;>rfl
      ·rfl
     all_goals simp_all
    ·have h1:=Z31 rfl hs
     generalize evs E s c.args=xs at h1 ⊢
     simp only [Ox]
     split<;>try rfl
     ·split
      ·rw [Z2B (fun i hi=>h1 i (by simpa using hi))]
       rename_i x t _ _ _
       cases lenOf H x<;>rfl
      ·rfl
     all_goals simp_all
   ·exfalso
    revert hc hs
    unfold Bi
    cases b<;>simp_all
  | value f=>
   cases f with
   | func f=>
    by_cases hp:((E.pure f||(E.env f).isSome)&&(E.own f).isNone)=true
    ·have he:∀H k,BO call E k H s { dst:=dst,op:=.call c,type:=type,pos:=pos,after:=after,guard:=guard }=call f (evs E s c.args) H:=fun H k=>by simp [BO,hcal,ev]
     rw [he] at h
     obtain⟨h1,h2⟩:=hpure f hp _ _ _ _ h
     refine⟨(evs E s c.args).flatMap Dj,none,fun i hi=>Z2k rfl (Z28 hi),by simp,h1,fun H' k' _ hs=>?_⟩
     rw [he]
     exact h2 H' (Z31 rfl hs)
    ·by_cases hfr:PW E f=true
     ·exact absurd (by unfold Bi;simp only [hcal];rw [if_neg hp,if_pos hfr]) hcc
     ·exact absurd (by unfold Bi;simp only [hcal];rw [if_neg hp,if_neg hfr]) hc
   | tmp t=>
    have hqt:(E.quiet&&type != 0)=true:=by
     cases hh:(E.quiet&&type != 0) with
     | true=>rfl
     | false=>exact absurd (by simp only [Bi,hcal,hh];rfl) hc
    simp only [quietAt,hcal,hqt,Bool.not_true,Bool.false_or] at hq
    cases hv:s.getD t .und with
    | fn g a b=>
     rw [hv] at hq
     simp only [sZ,Bool.and_eq_true] at hq
     have he:∀H k,BO call E k H s { dst:=dst,op:=.call c,type:=type,pos:=pos,after:=after,guard:=guard }=call g (a++evs E s c.args++b) H:=fun H k=>by
      simp only [BO,hcal,ev,hv]
     rw [he] at h
     obtain⟨h1,h2⟩:=hpure g (by rw [Bool.and_eq_true];exact hq.1) _ _ _ _ h
     have hin:∀i∈(a++evs E s c.args++b).flatMap Cj,i∈Dy E s { dst:=dst,op:=.call c,type:=type,pos:=pos,after:=after,guard:=guard }:=by
      intro i hi
      obtain⟨x,hx,hix⟩:=List.mem_flatMap.1 hi
      have hab:x∈a++b->i∈Dy E s { dst:=dst,op:=.call c,type:=type,pos:=pos,after:=after,guard:=guard }:=fun hm=>by
       have hnf:=List.all_eq_true.1 hq.2 x hm
       have hix' : i∈fP x:=by cases x<;>first|exact hix|(simp [uO] at hnf)
       refine List.mem_flatMap.2 ⟨.tmp t,by simp [Op.operands,Call.operands,hcal],?_⟩
       show i∈Cj (s.getD t .und)
       rw [hv]
       exact List.mem_flatMap.2 ⟨x,hm,hix'⟩
      rcases List.mem_append.1 hx with hx|hx
      ·rcases List.mem_append.1 hx with hx|hx
       ·exact hab (List.mem_append_left _ hx)
       ·exact Z2k rfl (List.mem_flatMap.2 ⟨x,hx,hix⟩)
      ·exact hab (List.mem_append_right _ hx)
     refine⟨(a++evs E s c.args++b).flatMap Dj,none,fun i hi=>hin i (Z28 hi),by simp,h1,fun H' k' _ hs=>?_⟩
     rw [he]
     exact h2 H' fun i hi=>hs i (hin i hi)
    | _=>rw [hv] at hq;simp [sZ] at hq
   | _=>exact absurd (by simp [Bi,hcal]) hc
 all_goals (refine absurd ?_ hc;simp [Bi];done)
theorem Zdj {call:Dl} {E:Env} (hfree:tX E call) {k:Nat} {H H1:Heap} {s:List V} {o:Oper} {v:V} (hc:Bi E o = .c) (h:BO call E k H s o=some (v,H1)) :
  ∃ids nbs,(∀i∈ids,i∈Dy E s o)/\H1=bump H ids++nbs/\∀H' k',H'.length=H.length->DV (Dy E s o) H H' -> BO call E k' H' s o=some (v,bump H' ids++nbs):=by
 obtain⟨dst,op,type,pos,after,guard⟩:=o
 cases op<;>simp only [Bi] at hc<;>first|(cases hc;done)|skip
 case convert=>split at hc<;>cases hc
 case assign x=>exfalso;revert hc;split<;>simp_all
 case call c=>
  cases hcal:c.callee with
  | builtin b=>exfalso;revert hc;simp only [hcal];cases b<;>simp
  | invoke r n=>exfalso;revert hc;simp [hcal]
  | value f=>
  cases f with
  | tmp _=>exfalso;revert hc;simp only [hcal];split<;>simp
  | const _=>exfalso;revert hc;simp [hcal]
  | global _=>exfalso;revert hc;simp [hcal]
  | func f=>
  simp only [hcal] at hc
  split at hc
  ·cases hc
  ·split at hc
   ·rename_i hfr
    have he:∀H k,BO call E k H s { dst:=dst,op:=.call c,type:=type,pos:=pos,after:=after,guard:=guard }=call f (evs E s c.args) H:=fun H k=>by simp [BO,hcal,ev]
    rw [he] at h
    obtain⟨ids,nbs,h1,h2,h3⟩:=hfree f hfr _ _ _ _ h
    exact⟨ids,nbs,fun i hi=>Z2k rfl (h1 i hi),h2,fun H' k' hl hs=>by rw [he];exact h3 H' hl (Z31 rfl hs)⟩
   ·cases hc
def IG (ids:List Nat) (i:Nat) (b:Box):Box:=if i∈ids then { b with floor:=b.xs.length } else b
theorem PG {ids:List Nat} {nb:Option Box} {k:Nat} {H:Heap} (hk:nb.isSome=true->k<H.length) (i:Nat) :
  (eff ids nb k H)[i]? = match nb with|some b=>if i=k then some b else (H[i]?).map (IG ids i)|none=>(H[i]?).map (IG ids i):=by
 cases nb with
 | none=>simp only [eff];rw [KR];rfl
 | some b=>
  have hk' : k<(bump H ids).length:=by rw [bump_length];exact hk rfl
  simp only [eff,place]
  rw [if_pos hk',List.getElem?_set]
  by_cases hi:i=k
  ·subst hi;simp [hk']
  ·rw [if_neg (fun e=>hi e.symm),if_neg hi,KR];rfl
theorem U3 {ids:List Nat} {nb:Option Box} {k:Nat} {H:Heap} (hk:nb.isSome=true->k<H.length):(eff ids nb k H).length=H.length:=by
 cases nb with
 | none=>exact bump_length H ids
 | some b=>
  have hk' : k<(bump H ids).length:=by rw [bump_length];exact hk rfl
  simp only [eff,place]
  rw [if_pos hk',List.length_set,bump_length]
theorem oH (FB ids2:List Nat) (i:Nat) (b:Box):IG FB i (IG ids2 i b)=IG ids2 i (IG FB i b):=by
 unfold IG
 by_cases h1:i∈FB<;>by_cases h2:i∈ids2<;>simp [h1,h2]
theorem Z3b {FB ids2:List Nat} {nb1 nb2:Option Box} {k1 k2:Nat} {H:Heap} (h1:nb1.isSome=true->k1<H.length/\k1∉ids2) (h2:nb2.isSome=true->k2<H.length/\k2∉FB)
  (hne:nb1.isSome=true->nb2.isSome=true->k1≠k2):eff FB nb1 k1 (eff ids2 nb2 k2 H)=eff ids2 nb2 k2 (eff FB nb1 k1 H):=by
 have l1:=U3 (ids:=FB) (fun h=>(h1 h).1)
 have l2:=U3 (ids:=ids2) (fun h=>(h2 h).1)
 apply List.ext_getElem?
 intro i
 rw [PG (ids:=FB) (H:=eff ids2 nb2 k2 H) (fun h=>by rw [l2];exact(h1 h).1),PG (ids:=ids2) (H:=eff FB nb1 k1 H) (fun h=>by rw [l1];exact(h2 h).1),PG (ids:=FB) (H:=H) (fun h=>(h1 h).1),PG (ids:=ids2) (H:=H) (fun h=>(h2 h).1)]
 cases nb1 with
 | none=>
  cases nb2 with
  | none=>
   simp only
   cases H[i]? with
   | none=>rfl
   | some b=>simp only [Option.map_some,oH]
  | some b2=>
   simp only
   by_cases hi:i=k2
   ·subst hi
    simp only [if_true,Option.map_some]
    simp [IG,(h2 rfl).2]
   ·simp only [hi,if_false]
    cases H[i]? with
    | none=>rfl
    | some b=>simp only [Option.map_some,oH]
 | some b1=>
  cases nb2 with
  | none=>
   simp only
   by_cases hi:i=k1
   ·subst hi
    simp only [if_true,Option.map_some]
    simp [IG,(h1 rfl).2]
   ·simp only [hi,if_false]
    cases H[i]? with
    | none=>rfl
    | some b=>simp only [Option.map_some,oH]
  | some b2=>
   have hkk:=hne rfl rfl
   simp only
   by_cases hi:i=k1
   ·subst hi
    rw [if_pos rfl,if_neg hkk,if_pos rfl]
    simp [IG,(h1 rfl).2]
   ·by_cases hj:i=k2
    ·subst hj
     rw [if_neg hi,if_pos rfl,if_pos rfl]
     simp [IG,(h2 rfl).2]
    ·rw [if_neg hi,if_neg hj,if_neg hj,if_neg hi]
     cases H[i]? with
     | none=>rfl
     | some b=>simp only [Option.map_some,oH]
theorem Zd8 (ids:List Nat) (i:Nat) (b:Box):(IG ids i b).low=b.low:=by
 unfold IG
 split<;>rfl
theorem Rq {R ids:List Nat} {nb:Option Box} {k:Nat} {H:Heap} (hk:nb.isSome=true->k<H.length/\k∉R):DV R H (eff ids nb k H):=by
 intro i hi
 rw [PG (fun h=>(hk h).1)]
 cases nb with
 | none=>
  simp only
  cases H[i]? with
  | none=>rfl
  | some b=>simp only [Option.map_some,Zd8]
 | some b=>
  have:i≠k:=fun e=>(hk rfl).2 (e▸hi)
  simp only [this,if_false]
  cases H[i]? with
  | none=>rfl
  | some b=>simp only [Option.map_some,Zd8]
theorem DV.symm {R:List Nat} {H H' : Heap} (h:DV R H H'):DV R H' H:=fun i hi=>(h i hi).symm
theorem Zdi {ids:List Nat} {nb:Option Box} {k j:Nat} {H:Heap} (hk:nb.isSome=true->k<H.length/\k≠j):(∃b,(eff ids nb k H)[j]? = some b/\b.live=false)↔∃b,H[j]? = some b/\b.live=false:=by
 rw [PG (fun h=>(hk h).1)]
 have hm:(∃b,(H[j]?).map (IG ids j)=some b/\b.live=false)↔∃b,H[j]? = some b/\b.live=false:=by
  cases H[j]? with
  | none=>simp
  | some b=>
   simp only [Option.map_some,Option.some.injEq,exists_eq_left']
   unfold IG
   split<;>rfl
 cases nb with
 | none=>exact hm
 | some b=>
  have:j≠k:=fun e=>(hk rfl).2 e.symm
  simp only [this,if_false]
  exact hm
section
variable {call:Dl} {E:Env} {ops:Array Oper} {ms:List Nat} {lt:List (Nat×(Nat⊕Nat))} {s0:List V} {base m:Nat}
def DK (E:Env) (o:Oper) (base i:Nat) (H:Heap):Nat:=if Bi E o = .a then base+i else H.length
def PN (E:Env) (ops:Array Oper) (ms:List Nat) (base m i:Nat) (s:List V) (o:Oper):Prop:=(∀id∈Dy E s o,id<base\/(base+m<=id/\VB E ops ms i=true)\/(id<base+m/\(ms.getD i 0).testBit (id - base)=true))/\quietAt E s o=true
theorem pV {i:Nat} {o:Oper} (ho:ops[i]? = some o) {st st' : St}:Hz call E ops ms lt s0 base m i st=some st' ↔
  PN E ops ms base m i st.s o/\(GU E ms lt s0 base i st.s st.H o=true/\(Bi E o = .c->base+m<=st.H.length))/\(Bi E o = .a->∃b,st.H[base+i]? = some b/\b.live=false)/\∃v H',F5 call E ops (DK E o base i st.H) o st=some (v,H')/\st' = ⟨setSlot st.s o.dst v,H'⟩:=by
 have hst:∀k,Jk call E ops k i st=some st' ↔∃v H',F5 call E ops k o st=some (v,H')/\st' = ⟨setSlot st.s o.dst v,H'⟩:=by
  intro k
  unfold Jk
  simp only [ho]
  cases hact:F5 call E ops k o st with
  | none=>simp
  | some r=>
   obtain⟨v,H'⟩:=r
   simp only [Option.some.injEq,Prod.mk.injEq]
   exact⟨fun h=>⟨v,H',⟨rfl,rfl⟩,h.symm⟩,fun⟨v1,H1,⟨e1,e2⟩,e3⟩=>by subst e1;subst e2;exact e3.symm⟩
 unfold Hz
 simp only [ho]
 have hsee:(((Dy E st.s o).all fun id=>decide (id<base)||(decide (base+m<=id)&&VB E ops ms i)||(decide (id<base+m)&&(ms.getD i 0).testBit (id - base)))&&quietAt E st.s o&&(GU E ms lt s0 base i st.s st.H o&&(!decide (Bi E o = .c)||decide (base+m<=st.H.length))))=true↔
   PN E ops ms base m i st.s o/\GU E ms lt s0 base i st.s st.H o=true/\(Bi E o = .c->base+m<=st.H.length):=by
  unfold PN
  rw [Bool.and_eq_true,Bool.and_eq_true,Bool.and_eq_true,List.all_eq_true]
  have hc:(!decide (Bi E o = .c)||decide (base+m<=st.H.length))=true↔(Bi E o = .c->base+m<=st.H.length):=by
   by_cases h:Bi E o = .c<;>simp [h]
  rw [hc]
  simp only [Bool.or_eq_true,Bool.and_eq_true,decide_eq_true_eq,or_assoc]
 by_cases hs:PN E ops ms base m i st.s o/\GU E ms lt s0 base i st.s st.H o=true/\(Bi E o = .c->base+m<=st.H.length)
 ·rw [if_pos (hsee.2 hs)]
  unfold DK
  by_cases hca:Bi E o = .a
  ·rw [if_pos hca,if_pos hca]
   cases hb:st.H[base+i]? with
   | none=>simp [hca]
   | some b=>
    cases hl:b.live with
    | true=>simp [hl,hca]
    | false=>simp only [hl,Bool.false_eq_true,if_false,hst];exact⟨fun h=>⟨hs.1,hs.2,fun _=>⟨b,rfl,hl⟩,h⟩,fun h=>h.2.2.2⟩
  ·rw [if_neg hca,if_neg hca,hst]
   exact⟨fun h=>⟨hs.1,hs.2,fun hh=>absurd hh hca,h⟩,fun h=>h.2.2.2⟩
 ·rw [if_neg (fun h=>hs (hsee.1 h))]
  constructor
  ·intro h;cases h
  ·rintro ⟨h1,h2,_⟩;exact absurd ⟨h1,h2⟩ hs
theorem Z17 {o:Oper} {a:Operand} (h:Oy o=some a):(∃t v,o.op = .store t a v)\/∃c x,o.op = .call c/\c.callee = .builtin .append/\c.args.toList=[a,x]:=by
 unfold Oy at h
 split at h
 ·rename_i t a' v hop
  cases h
  exact .inl ⟨t,v,hop⟩
 ·rename_i c hop
  split at h
  ·rename_i a' x h1 h2
   cases h
   exact .inr ⟨c,x,hop,h1,h2⟩
  ·cases h
 ·cases h
theorem Z9b {o:Oper} {a:Operand} (h:Oy o=some a):a∈o.op.operands:=by
 rcases Z17 h with ⟨t,v,hop⟩|⟨c,x,hop,h1,h2⟩
 ·simp [hop,Op.operands]
 ·have:a∈c.args:=by
   have:a∈c.args.toList:=by rw [h2];simp
   simpa using this
  simp [hop,Op.operands,Call.operands,this]
theorem QV {o:Oper} {t:Nat⊕Nat} (h:VO E ops o=some t):Bi E o = .w/\o.guard=none/\∃d,Oy o=some (.tmp d):=by
 unfold VO at h
 split at h
 ·rename_i d hg hw
  refine⟨?_,hg,⟨d,hw⟩⟩
  rcases Z17 hw with ⟨t,v,hop⟩|⟨c,x,hop,h1,h2⟩
  ·unfold Bi;rw [hop]
  ·unfold Bi;rw [hop];simp only [h1]
 ·cases h
theorem ZzH {x:Nat} {t:Nat⊕Nat} (h:(x,t)∈PY E ops):∃ox,ops[x]? = some ox/\VO E ops ox=some t:=by
 unfold PY at h
 simp only [List.mem_filterMap] at h
 obtain⟨y,_,h⟩:=h
 split at h
 ·rename_i ox hox
  split at h
  ·rename_i t' ht
   split at h
   ·simp only [Option.some.injEq,Prod.mk.injEq] at h
    obtain⟨rfl,rfl⟩:=h
    exact⟨ox,hox,ht⟩
   ·cases h
  ·cases h
 ·cases h
theorem ZdL {o:Oper} (h:needs E o=true):Bi E o≠.w:=by
 unfold needs at h
 intro hc
 rw [hc] at h
 cases h
theorem Zx6 {s:List V} {o:Oper} {d:Option Tmp} {v:V} (h:∀d',d=some d' -> d' ∉o.looksAt ops):addrOf E (setSlot s d v) o=addrOf E s o:=by
 unfold addrOf
 split
 ·rename_i a hw
  exact tC _ fun d' hd=>qV (h d' hd) a (Z9b hw)
 ·rfl
theorem Zdb {s:List V} {H:Heap} {i:Nat} {o:Oper} {d:Option Tmp} {v:V} (h:∀d',d=some d' -> d' ∉o.looksAt ops):GU E ms lt s0 base i (setSlot s d v) H o=GU E ms lt s0 base i s H o:=by
 unfold GU
 rw [Zx6 h,Z2Q h]
theorem Lc {s:List V} {H H' : Heap} {i:Nat} {o:Oper} (h:∀t,(i,t)∉lt) (hl:GU E ms lt s0 base i s H o=true):GU E ms lt s0 base i s H' o=true:=by
 unfold GU at *
 rw [List.all_eq_true] at *
 intro p hp
 have hh:=hl p hp
 have hne:p.1≠i:=fun e=>h p.2 (by rw [<- e];exact hp)
 cases ht:PZ base s0 p.2 with
 | none=>rw [ht] at hh;cases hh
 | some k=>
  rw [ht] at hh
  simp only [if_neg hne] at hh ⊢
  exact hh
theorem Zc6 {s:List V} {H H' : Heap} {i:Nat} {o:Oper} (h:∀p∈lt,∀k,p.1=i->PZ base s0 p.2=some k->H'[k]? = H[k]?) (hl:GU E ms lt s0 base i s H o=true):GU E ms lt s0 base i s H' o=true:=by
 unfold GU at *
 rw [List.all_eq_true] at *
 intro p hp
 have hh:=hl p hp
 cases ht:PZ base s0 p.2 with
 | none=>rw [ht] at hh;cases hh
 | some k=>
  rw [ht] at hh
  simp only at hh ⊢
  split
  ·rename_i he
   rw [if_pos he] at hh
   have hk:=h p hp k he ht
   unfold OQ at *
   split at hh
   ·rename_i id a b tot haddr
    simp only [Bool.and_eq_true,beq_iff_eq] at hh ⊢
    obtain⟨rfl,hh⟩:=hh
    refine⟨rfl,?_⟩
    unfold DW at *
    rw [hk]
    exact hh
   ·rename_i id a b tot haddr
    simp only [Bool.and_eq_true,beq_iff_eq] at hh ⊢
    obtain⟨rfl,hh⟩:=hh
    refine⟨rfl,?_⟩
    rw [hk]
    exact hh
   ·cases hh
  ·rename_i he
   rw [if_neg he] at hh
   exact hh
theorem ZwH {H H1:Heap} {t:TypeId} {a v:V} {k:Nat} (hl:OQ H a k=true) (h:Lu E H t a v=some H1) :
  ∃b,k<H.length/\H1=H.set k b/\∀H',H'[k]? = H[k]? -> Lu E H' t a v=some (H'.set k b):=by
 unfold OQ at hl
 split at hl
 ·rename_i id i off tot
  simp only [Bool.and_eq_true,beq_iff_eq] at hl
  obtain⟨rfl,hl⟩:=hl
  cases hb:DW H id tot with
  | none=>rw [hb] at hl;cases hl
  | some b=>
   rw [hb] at hl
   simp only [Bool.not_eq_true'] at hl
   have hlt:id<H.length:=by
    unfold DW at hb
    cases hh:H[id]? with
    | none=>rw [hh] at hb;cases hb
    | some b0=>exact(List.getElem?_eq_some_iff.1 hh).1
   have hb' : ∀H' : Heap,H'[id]? = H[id]? -> DW H' id tot=some b:=fun H' he=>by
    unfold DW at *
    rw [he]
    exact hb
   unfold Lu at h
   cases hti:E.ti t with
   | none=>simp only [hti] at h;cases h
   | some ii=>
    simp only [hti,hb] at h
    cases hx:b.xs[i]? with
    | none=>simp only [hx] at h;cases h
    | some x=>
     simp only [hx,hl,Bool.false_eq_true,if_false] at h
     split at h
     ·rename_i hc
      cases hs:KT x off v.cells with
      | none=>simp only [hs] at h;cases h
      | some x' =>
       simp only [hs] at h
       split at h
       ·rename_i ho
        simp only [Option.some.injEq] at h
        refine⟨_,hlt,h.symm,fun H' he=>?_⟩
        unfold Lu
        simp only [hti,hb' H' he,hx,hl,Bool.false_eq_true,if_false,if_pos hc,hs,if_pos ho]
       ·cases h
     ·cases h
 ·unfold Lu at h
  split at h<;>cases h
 ·cases hl
theorem Ztg {H H1:Heap} {k0:Nat} {t u:TypeId} {a x r:V} {k:Nat} (hl:OQ H a k=true) (h:Lm E k0 H t u a x=some (r,H1)) :
  ∃b,k<H.length/\H1=H.set k b/\∀k' H',H'[k]? = H[k]? -> DV (Cj x) H H' -> Lm E k' H' t u a x=some (r,H'.set k b):=by
 unfold OQ at hl
 split at hl
 ·unfold Lm at h
  split at h
  ·split at h
   ·split at h
    ·cases h
    ·cases h
   ·cases h
  ·cases h
 ·rename_i id off len tot
  simp only [Bool.and_eq_true,beq_iff_eq] at hl
  obtain⟨rfl,hl⟩:=hl
  have hlt:id<H.length:=by
   cases hh:H[id]? with
   | none=>rw [hh] at hl;cases hl
   | some b0=>exact(List.getElem?_eq_some_iff.1 hh).1
  unfold Lm at h
  split at h
  ·rename_i e sz by' z0 hti
   split at h
   ·rename_i ei ys hei hut hys
    split at h
    ·rename_i hcond
     simp only at h
     cases hb:DW H id tot with
     | none=>rw [hb] at h;cases h
     | some b=>
      simp only [hb] at h
      split at h
      ·rename_i hc
       split at h
       ·rename_i hlim
        simp only [Option.some.injEq,Prod.mk.injEq] at h
        obtain⟨rfl,rfl⟩:=h
        refine⟨_,hlt,rfl,fun k' H' he hs=>?_⟩
        have hb' : DW H' id tot=some b:=by
         unfold DW at *
         rw [he]
         exact hb
        unfold Lm
        simp only [hti,hei,hut,nC hs,hys,qF hs]
        rw [if_pos hcond]
        simp only [hb']
        rw [if_pos hc,if_pos hlim]
       ·cases h
      ·rename_i hc0
       split at h
       ·rename_i hc
        simp only [Option.some.injEq,Prod.mk.injEq] at h
        obtain⟨rfl,rfl⟩:=h
        refine⟨_,hlt,rfl,fun k' H' he hs=>?_⟩
        have hb' : DW H' id tot=some b:=by
         unfold DW at *
         rw [he]
         exact hb
        unfold Lm
        simp only [hti,hei,hut,nC hs,hys,qF hs]
        rw [if_pos hcond]
        simp only [hb']
        rw [if_neg hc0,if_pos hc]
       ·cases h
    ·cases h
   ·cases h
  ·cases h
 ·cases hl
theorem rM {ids:List Nat} {nb:Option Box} {k k' : Nat} {H:Heap} {b:Box} (hk:nb.isSome=true->k' < H.length/\k' ≠k) (hid:k∉ids):eff ids nb k' (H.set k b)=(eff ids nb k' H).set k b:=by
 apply List.ext_getElem?
 intro i
 rw [PG (H:=H.set k b) (fun h=>by rw [List.length_set];exact(hk h).1),List.getElem?_set,List.getElem?_set,U3 (fun h=>(hk h).1),PG (fun h=>(hk h).1)]
 by_cases hki:k=i
 ·subst hki
  simp only [if_true]
  cases nb with
  | none=>
   simp only
   split
   ·simp [IG,hid]
   ·rfl
  | some b2=>
   have:¬k=k' :=fun e=>(hk rfl).2 e.symm
   simp only [this,if_false]
   split
   ·simp [IG,hid]
   ·rfl
 ·simp only [hki,if_false]
  cases nb<;>rfl
theorem ZeS {ids:List Nat} {nb:Option Box} {k k' : Nat} {H:Heap} (hk:nb.isSome=true->k' < H.length/\k' ≠k) (hid:k∉ids):(eff ids nb k' H)[k]? = H[k]?:=by
 rw [PG (fun h=>(hk h).1)]
 cases nb with
 | none=>
  simp only
  cases H[k]? with
  | none=>rfl
  | some b=>simp [IG,hid]
 | some b2=>
  have:¬k=k' :=fun e=>(hk rfl).2 e.symm
  simp only [this,if_false]
  cases H[k]? with
  | none=>rfl
  | some b=>simp [IG,hid]
theorem Zcm {k i:Nat} {t:Nat⊕Nat} {o:Oper} {s:List V} {H H1:Heap} {v:V} (ht:VO E ops o=some t) (hin:(i,t)∈lt) (hl:GU E ms lt s0 base i s H o=true) (h:F5 call E ops k o ⟨s,H⟩=some (v,H1)) :
  ∃b n,PZ base s0 t=some n/\n∈Dy E s o/\n<H.length/\H1=H.set n b/\∀k' H',H'[n]? = H[n]? -> DV (Dy E s o) H H' -> F5 call E ops k' o ⟨s,H'⟩=some (v,H'.set n b):=by
 obtain⟨_,hg,⟨d,hw⟩⟩:=QV ht
 unfold GU at hl
 rw [List.all_eq_true] at hl
 have hl:=hl _ hin
 cases hn:PZ base s0 t with
 | none=>simp only [hn] at hl;cases hl
 | some n=>
  simp only [hn,if_true] at hl
  unfold addrOf at hl
  simp only [hw] at hl
  have haddr:n∈Dy E s o:=by
   unfold Dy
   rw [List.mem_flatMap]
   refine⟨.tmp d,by simpa using Z9b hw,?_⟩
   unfold OQ at hl
   split at hl
   ·rename_i he
    simp only [Bool.and_eq_true,beq_iff_eq] at hl
    rw [he,<- hl.1]
    simp [Cj,Dz]
   ·rename_i he
    simp only [Bool.and_eq_true,beq_iff_eq] at hl
    rw [he,<- hl.1]
    simp [Cj,Dz]
   ·cases hl
  unfold F5 at h ⊢
  simp only [hg] at h ⊢
  rcases Z17 hw with ⟨t',x,hop⟩|⟨c,x,hop,hc1,hc2⟩
  ·unfold BO at h ⊢
   simp only [hop] at h ⊢
   cases hst:Lu E H t' (ev E s (.tmp d)) (ev E s x) with
   | none=>rw [hst] at h;cases h
   | some H2=>
    rw [hst] at h
    simp only [Option.map_some,Option.some.injEq,Prod.mk.injEq] at h
    obtain⟨rfl,rfl⟩:=h
    obtain⟨b,h1,h2,h3⟩:=ZwH hl hst
    exact⟨b,n,rfl,haddr,h1,h2,fun k' H' he _=>by rw [h3 H' he];rfl⟩
  ·have hargs:evs E s c.args=[ev E s (.tmp d),ev E s x]:=by unfold evs;rw [hc2];rfl
   unfold BO at h ⊢
   simp only [hop,hc1,hargs] at h ⊢
   unfold Ox at h ⊢
   split at h
   ·rename_i h1 _;cases h1
   ·rename_i a y t' u' hb he1 he2
    simp only [List.cons.injEq,and_true] at he1
    obtain⟨rfl,rfl⟩:=he1
    obtain⟨b,h1,h2,h3⟩:=Ztg hl h
    refine⟨b,n,rfl,haddr,h1,h2,fun k' H' he hs=>h3 k' H' he (fun id hid=>hs id ?_)⟩
    unfold Dy
    rw [List.mem_flatMap]
    have:x∈c.args:=by
     have:x∈c.args.toList:=by rw [hc2];simp
     simpa using this
    exact⟨x,by simp [hop,Op.operands,Call.operands,this],hid⟩
   ·rename_i h1 _ _;cases h1
   ·rename_i h1;cases h1
   ·rename_i h1;cases h1
   ·cases h
theorem ZcC {i x n:Nat} {t:Nat⊕Nat} {o:Oper} {s:List V} {H:Heap} (hin:(x,t)∈lt) (hne:x≠i) (hn:needs E o=true) (hbit:(ms.getD i 0).testBit x=false) (hbit' : (ms.getD x 0).testBit i=false) (ht:PZ base s0 t=some n)
  (hl:GU E ms lt s0 base i s H o=true):n∉Dy E s o:=by
 unfold GU at hl
 rw [List.all_eq_true] at hl
 have hl:=hl _ hin
 simp only [ht,if_neg hne,hn,linked,hbit,hbit',Bool.or_self,Bool.not_true,Bool.false_or,Bool.not_eq_true'] at hl
 simpa using hl
theorem ZeD {k:Nat} {o:Oper} {s:List V} {H H1:Heap} {v:V} (hc:Bi E o = .s) (h:F5 call E ops k o ⟨s,H⟩=some (v,H1)):H1=H/\∀H' k',F5 call E ops k' o ⟨s,H'⟩=some (v,H'):=by
 unfold F5 at *
 cases hg:o.guard with
 | none=>simp only [hg] at h ⊢;exact Z4z hc h
 | some jw=>
  obtain⟨j,want⟩:=jw
  simp only [hg] at h ⊢
  cases hd:(ops[j]?).bind (·.dst) with
  | none=>simp [hd] at h
  | some d=>
   simp only [hd] at h ⊢
   cases hgd:OJ (s.getD d .und) want with
   | none=>rw [hgd] at h;cases h
   | some r=>
    rw [hgd] at h
    cases r with
    | true=>simp only at h ⊢;exact Z4z hc h
    | false=>
     simp only [Option.some.injEq,Prod.mk.injEq] at h ⊢
     exact⟨h.2.symm,fun H' k' =>⟨h.1,trivial⟩⟩
theorem Un (hpure:sW E call) {k:Nat} {o:Oper} {s:List V} {H H1:Heap} {v:V} (hc:Bi E o≠.w) (hcc:Bi E o≠.c) (hq:quietAt E s o=true) (h:F5 call E ops k o ⟨s,H⟩=some (v,H1)) :
  ∃ids nb,(∀i∈ids,i∈Dy E s o)/\(nb.isSome=true->Bi E o = .a)/\H1=eff ids nb k H /\
   ∀H' k',(Bi E o = .a->k' = k)->DV (Dy E s o) H H' -> F5 call E ops k' o ⟨s,H'⟩=some (v,eff ids nb k' H'):=by
 unfold F5 at *
 cases hg:o.guard with
 | none=>simp only [hg] at h ⊢;exact Zer hpure hc hcc hq h
 | some jw=>
  obtain⟨j,want⟩:=jw
  simp only [hg] at h ⊢
  cases hd:(ops[j]?).bind (·.dst) with
  | none=>simp [hd] at h
  | some d=>
   simp only [hd] at h ⊢
   cases hgd:OJ (s.getD d .und) want with
   | none=>rw [hgd] at h;cases h
   | some r=>
    rw [hgd] at h
    cases r with
    | true=>simp only at h ⊢;exact Zer hpure hc hcc hq h
    | false=>
     simp only [Option.some.injEq,Prod.mk.injEq] at h ⊢
     exact⟨[],none,by simp,by simp,h.2.symm,fun H' k' _ _=>⟨h.1,rfl⟩⟩
theorem qN (hfree:tX E call) {k:Nat} {o:Oper} {s:List V} {H H1:Heap} {v:V} (hc:Bi E o = .c) (h:F5 call E ops k o ⟨s,H⟩=some (v,H1)) :
  ∃ids nbs,(∀i∈ids,i∈Dy E s o)/\H1=bump H ids++nbs/\∀H' k',H'.length=H.length->DV (Dy E s o) H H' -> F5 call E ops k' o ⟨s,H'⟩=some (v,bump H' ids++nbs):=by
 unfold F5 at *
 cases hg:o.guard with
 | none=>simp only [hg] at h ⊢;exact Zdj hfree hc h
 | some jw=>
  obtain⟨j,want⟩:=jw
  simp only [hg] at h ⊢
  cases hd:(ops[j]?).bind (·.dst) with
  | none=>simp [hd] at h
  | some d=>
   simp only [hd] at h ⊢
   cases hgd:OJ (s.getD d .und) want with
   | none=>rw [hgd] at h;cases h
   | some r=>
    rw [hgd] at h
    cases r with
    | true=>simp only at h ⊢;exact Zdj hfree hc h
    | false=>
     simp only [Option.some.injEq,Prod.mk.injEq] at h ⊢
     exact⟨[],[],by simp,by rw [List.append_nil];exact h.2.symm,fun H' k' _ _=>⟨h.1,by rw [List.append_nil];rfl⟩⟩
theorem Zab {ids:List Nat} {H:Heap} (ys:List Box) (h:∀i∈ids,i<H.length):bump (H++ys) ids=bump H ids++ys:=by
 apply List.ext_getElem?
 intro i
 rw [KR,List.getElem?_append,List.getElem?_append,bump_length,KR]
 by_cases hi:i<H.length
 ·rw [if_pos hi,if_pos hi]
 ·have:i∉ids:=fun hm=>hi (h i hm)
  rw [if_neg hi,if_neg hi]
  cases ys[i - H.length]? with
  | none=>rfl
  | some b=>simp [this]
theorem ZbN {ids:List Nat} {nb:Option Box} {k:Nat} {H:Heap} (ys:List Box) (h:∀i∈ids,i<H.length) (hk:nb.isSome=true->k<H.length):eff ids nb k (H++ys)=eff ids nb k H++ys:=by
 cases nb with
 | none=>exact Zab ys h
 | some b=>
  have hk:=hk rfl
  simp only [eff,place,Zab ys h,List.length_append,bump_length]
  rw [if_pos (by omega),if_pos hk,List.set_append_left _ _ (by rw [bump_length];exact hk)]
theorem o5 {R:List Nat} {H H' : Heap} (ys:List Box) (h:DV R H H') (hR:∀i∈R,i<H'.length):DV R H (H' ++ys):=by
 intro i hi
 rw [List.getElem?_append_left (hR i hi)]
 exact h i hi
theorem QT (R ids:List Nat) (H:Heap):DV R H (bump H ids):=by
 have:=Rq (R:=R) (ids:=ids) (nb:=none) (k:=0) (H:=H) (fun h=>by cases h)
 exact this
theorem Ze7 {R:List Nat} {H:Heap} {n:Nat} {b:Box} (h:n∉R):DV R H (H.set n b):=by
 intro i hi
 rw [List.getElem?_set_ne (fun e=>h (by rw [e];exact hi))]
theorem DV.trans {R:List Nat} {H H' H2:Heap} (h:DV R H H') (k:DV R H' H2):DV R H H2:=fun i hi=>(h i hi).trans (k i hi)
theorem Zq0 {s:List V} {d e:Option Tmp} {v u:V} (h:∀x,d=some x->e≠some x):setSlot (setSlot s d v) e u=setSlot (setSlot s e u) d v:=by
 cases d with
 | none=>rfl
 | some d=>
  cases e with
  | none=>rfl
  | some e=>
   have:d≠e:=fun hh=>h d rfl (by rw [hh])
   simp only [setSlot]
   exact List.set_comm v u this
theorem Zvk (hcalls:OB E call) (hm:∀i o,ops[i]? = some o->Bi E o = .a->i<m) {x y:Nat} {ox oy:Oper} (hx:ops[x]? = some ox) (hy:ops[y]? = some oy) (hxy:x≠y)
  (hpass:(eX E ops ox oy||(NH E ops lt x ox oy||NH E ops lt y oy ox))=true) (hlt:∀x t,(x,t)∈lt->∃ox,ops[x]? = some ox/\VO E ops ox=some t) (hbit:(ms.getD y 0).testBit x=false) (hbit' : (ms.getD x 0).testBit y=false) {st st1 st2:St}
  (h1:Hz call E ops ms lt s0 base m x st=some st1) (h2:Hz call E ops ms lt s0 base m y st1=some st2) :
  ∃st1',Hz call E ops ms lt s0 base m y st=some st1' /\ Hz call E ops ms lt s0 base m x st1' = some st2:=by
 have hpure:=hcalls.pure
 have hfree:=hcalls.free
 have hap:ox.apart ops oy=true\/oy.apart ops ox=true:=by
  simp only [Bool.or_eq_true,eX,NH,Bool.and_eq_true] at hpass
  rcases hpass with h|h|h
  ·exact .inl h.2
  ·exact .inl h.1
  ·exact .inr h.1
 have hsp:(∀d,ox.dst=some d->d∉oy.looksAt ops)/\(∀d,ox.dst=some d->oy.dst≠some d)/\(∀d,oy.dst=some d->d∉ox.looksAt ops):=by
  rcases hap with h|h
  ·exact Oper.apart_spec h
  ·obtain⟨b1,b2,b3⟩:=Oper.apart_spec h
   exact⟨b3,fun d h1 h2=>b2 d h2 h1,b1⟩
 obtain⟨a1,a2,a3⟩:=hsp
 obtain⟨s1,⟨l1,c1⟩,d1,vx,Hx,e1,rfl⟩:=(pV hx).1 h1
 obtain⟨s2,⟨l2,c2⟩,d2,vy,Hy,e2,rfl⟩:=(pV hy).1 h2
 obtain⟨s,H⟩:=st
 simp only at *
 rw [Zdd a1] at e2
 rw [Zdb a1] at l2
 have s2' : PN E ops ms base m y s oy:=by unfold PN at *;rw [Z2Q a1,Z9Q a1] at s2;exact s2
 have s1' : PN E ops ms base m x (setSlot s oy.dst vy) ox:=by unfold PN at *;rw [Z2Q a3,Z9Q a3];exact s1
 have keptx:Bi E ox = .a->base+x<H.length:=fun hc=>by
  obtain⟨b,hb,_⟩:=d1 hc
  exact(List.getElem?_eq_some_iff.1 hb).1
 have nox:Bi E ox = .a->base+x∉Dy E s oy:=fun hc hin=>by
  rcases s2'.1 _ hin with h|⟨h,_⟩|⟨_,h⟩
  ·omega
  ·have:=hm x ox hx hc;omega
  ·rw [show base+x - base=x by omega,hbit] at h;cases h
 have noy:Bi E oy = .a->base+y∉Dy E s ox:=fun hc hin=>by
  rcases s1.1 _ hin with h|⟨h,_⟩|⟨_,h⟩
  ·omega
  ·have:=hm y oy hy hc;omega
  ·rw [show base+y - base=y by omega,hbit'] at h;cases h
 have seex:Bi E oy = .c->∀id∈Dy E s ox,id<base+m:=fun hc id hid=>by
  rcases s1.1 id hid with h|⟨_,h⟩|⟨h,_⟩
  ·omega
  ·exfalso
   unfold VB at h
   rw [List.all_eq_true] at h
   have:=h y (by simpa using (Array.getElem?_eq_some_iff.1 hy).1)
   simp only [hy,hc,linked,hbit,hbit',decide_true,Bool.not_true,Bool.or_self,Bool.or_false,beq_iff_eq] at this
   exact hxy this.symm
  ·exact h
 have seey:Bi E ox = .c->∀id∈Dy E s oy,id<base+m:=fun hc id hid=>by
  rcases s2'.1 id hid with h|⟨_,h⟩|⟨h,_⟩
  ·omega
  ·exfalso
   unfold VB at h
   rw [List.all_eq_true] at h
   have:=h x (by simpa using (Array.getElem?_eq_some_iff.1 hx).1)
   simp only [hx,hc,linked,hbit,hbit',decide_true,Bool.not_true,Bool.or_self,Bool.or_false,beq_iff_eq] at this
   exact hxy this
  ·exact h
 have fin:∀(Hy' : Heap),PN E ops ms base m y s oy->(GU E ms lt s0 base y s H oy=true/\(Bi E oy = .c->base+m<=H.length))->(Bi E oy = .a->∃b,H[base+y]? = some b/\b.live=false)->F5 call E ops (DK E oy base y H) oy ⟨s,H⟩=some (vy,Hy') ->
   (GU E ms lt s0 base x s Hy' ox=true/\(Bi E ox = .c->base+m<=Hy'.length))->(Bi E ox = .a->∃b,Hy'[base+x]? = some b/\b.live=false)->F5 call E ops (DK E ox base x Hy') ox ⟨s,Hy'⟩=some (vx,Hy) ->
   ∃st1',Hz call E ops ms lt s0 base m y ⟨s,H⟩=some st1' /\ Hz call E ops ms lt s0 base m x st1' = some ⟨setSlot (setSlot s ox.dst vx) oy.dst vy,Hy⟩:=by
  intro Hy' g1 l3 g2 g3 l4 g4 g5
  refine⟨⟨setSlot s oy.dst vy,Hy'⟩,(pV hy).2 ⟨g1,l3,g2,vy,Hy',g3,rfl⟩,(pV hx).2 ⟨s1',⟨(by rw [Zdb a3];exact l4.1),l4.2⟩,g4,vx,Hy,?_,?_⟩⟩
  ·rw [Zdd a3];exact g5
  ·rw [Zq0 a2]
 have notin:∀(z:Nat) (oz:Oper),ops[z]? = some oz->Bi E oz≠.w->∀t,(z,t)∉lt:=by
  intro z oz hz hc t hin
  obtain⟨o',ho',ht'⟩:=hlt z t hin
  rw [hz] at ho'
  cases ho'
  exact hc (QV ht').1
 cases hlx:NH E ops lt x ox oy with
 | true=>
  unfold NH at hlx
  simp only [Bool.and_eq_true,List.any_eq_true,beq_iff_eq] at hlx
  obtain⟨_,hny,⟨x',t⟩,hin,hx'⟩:=hlx
  simp only at hx'
  subst hx'
  obtain⟨ox',hox',htx⟩:=hlt _ t hin
  rw [hx] at hox'
  cases hox'
  have hnw:=ZdL hny
  obtain⟨b,n,hn,hnin,hnlt,rfl,f3⟩:=Zcm htx hin l1 e1
  have hjy:n∉Dy E s oy:=ZcC hin hxy hny hbit hbit' hn l2
  have late1:∀Hy' : Heap,Hy'[n]? = H[n]? -> GU E ms lt s0 base x' s Hy' ox=true:=fun Hy' hat=>by
   refine Zc6 (fun p hp k he hk=>?_) l1
   obtain⟨o',ho',ht'⟩:=hlt p.1 p.2 hp
   rw [he,hx] at ho'
   cases ho'
   rw [htx] at ht'
   cases ht'
   rw [hn] at hk
   cases hk
   exact hat
  have ncx:Bi E ox = .c->False:=fun hc=>by rw [(QV htx).1] at hc;cases hc
  by_cases hyc:Bi E oy = .c
  ·obtain⟨idy,nbs,y1,rfl,y4⟩:=qN hfree hyc e2
   have hl:base+m<=H.length:=by have:=c2 hyc;rw [List.length_set] at this;exact this
   have hjid:n∉idy:=fun h=>hjy (y1 _ h)
   have g3:=y4 H (DK E oy base y H) (by rw [List.length_set]) (Ze7 hjy).symm
   have hat:(bump H idy++nbs)[n]? = H[n]?:=by
    rw [List.getElem?_append_left (by rw [bump_length];exact hnlt),KR]
    cases H[n]? with
    | none=>rfl
    | some b=>simp [hjid]
   refine fin _ s2' ⟨Lc (notin y oy hy hnw) l2,fun _=>hl⟩ (fun hc=>by rw [hyc] at hc;cases hc) g3 ⟨late1 _ hat,fun hc=>(ncx hc).elim⟩ (fun hc=>by rw [(QV htx).1] at hc;cases hc) ?_
   rw [f3 _ _ hat (o5 nbs (QT _ _ _) (fun i hi=>by rw [bump_length];exact Nat.lt_of_lt_of_le (seex hyc i hi) hl))]
   congr 2
   rw [List.set_append_left _ _ (by rw [bump_length];exact hnlt)]
   congr 1
   have:=rM (ids:=idy) (nb:=none) (k' :=0) (H:=H) (b:=b) (k:=n) (fun h=>by cases h) hjid
   exact this.symm
  have hne:Bi E oy = .a->base+y≠n:=fun hc e=>noy hc (by rw [e];exact hnin)
  obtain⟨idy,nby,y1,y2,rfl,y4⟩:=Un hpure hnw hyc s2'.2 e2
  have hkH:DK E oy base y (H.set n b)=DK E oy base y H:=by unfold DK;rw [List.length_set]
  have deady:Bi E oy = .a->∃b,H[base+y]? = some b/\b.live=false:=fun hc=>by
   obtain⟨b',hb',hd⟩:=d2 hc
   rw [List.getElem?_set_ne (fun e=>hne hc e.symm)] at hb'
   exact⟨b',hb',hd⟩
  have hyl:nby.isSome=true->DK E oy base y H<H.length/\DK E oy base y H≠n:=fun h=>by
   have hc:=y2 h
   obtain⟨b',hb',_⟩:=deady hc
   have:=(List.getElem?_eq_some_iff.1 hb').1
   unfold DK
   rw [if_pos hc]
   exact⟨this,hne hc⟩
  have hjid:n∉idy:=fun h=>hjy (y1 _ h)
  have g3:=y4 H (DK E oy base y H) (fun hc=>by rw [hkH]) (fun i hi=>by rw [List.getElem?_set_ne (fun e=>hjy (by rw [e];exact hi))])
  have hat:=ZeS (H:=H) hyl hjid
  refine fin _ s2' ⟨Lc (notin y oy hy hnw) l2,fun hc=>absurd hc hyc⟩ deady g3 ⟨late1 _ hat,fun hc=>(ncx hc).elim⟩ (fun hc=>by rw [(QV htx).1] at hc;cases hc) ?_
  rw [f3 _ _ hat (Rq (fun h=>⟨(hyl h).1,by
    have hk:DK E oy base y H=base+y:=by simp [DK,y2 h]
    rw [hk]
    exact noy (y2 h)⟩)),hkH,rM hyl hjid]
 | false=>
 cases hly:NH E ops lt y oy ox with
 | true=>
  unfold NH at hly
  simp only [Bool.and_eq_true,List.any_eq_true,beq_iff_eq] at hly
  obtain⟨_,hnx,⟨y',t⟩,hin,hy'⟩:=hly
  simp only at hy'
  subst hy'
  obtain⟨oy',hoy',hty⟩:=hlt _ t hin
  rw [hy] at hoy'
  cases hoy'
  have hnw:=ZdL hnx
  obtain⟨b,n,hn,hnin,hnlt,rfl,f3⟩:=Zcm hty hin l2 e2
  have hjx:n∉Dy E s ox:=ZcC hin (Ne.symm hxy) hnx hbit' hbit hn l1
  have late2:Hx[n]? = H[n]? -> GU E ms lt s0 base y' s H oy=true:=fun hat=>by
   refine Zc6 (fun p hp k he hk=>?_) l2
   obtain⟨o',ho',ht'⟩:=hlt p.1 p.2 hp
   rw [he,hy] at ho'
   cases ho'
   rw [hty] at ht'
   cases ht'
   rw [hn] at hk
   cases hk
   exact hat.symm
  have ncy:Bi E oy = .c->False:=fun hc=>by rw [(QV hty).1] at hc;cases hc
  by_cases hxc:Bi E ox = .c
  ·obtain⟨idx,nbs,x1,rfl,x4⟩:=qN hfree hxc e1
   have hl:base+m<=H.length:=c1 hxc
   have hnl:n<H.length:=Nat.lt_of_lt_of_le (seey hxc n hnin) hl
   have hjid:n∉idx:=fun h=>hjx (x1 _ h)
   have hat:(bump H idx++nbs)[n]? = H[n]?:=by
    rw [List.getElem?_append_left (by rw [bump_length];exact hnl),KR]
    cases H[n]? with
    | none=>rfl
    | some b=>simp [hjid]
   refine fin _ s2' ⟨late2 hat,fun hc=>(ncy hc).elim⟩ (fun hc=>by rw [(QV hty).1] at hc;cases hc) (f3 _ H hat.symm (o5 nbs (QT _ _ _) (fun i hi=>by rw [bump_length];exact Nat.lt_of_lt_of_le (seey hxc i hi) hl)).symm)
    ⟨Lc (notin x ox hx hnw) l1,fun _=>by rw [List.length_set];exact hl⟩ (fun hc=>by rw [hxc] at hc;cases hc) ?_
   rw [x4 _ _ (by rw [List.length_set]) (Ze7 hjx)]
   congr 2
   rw [List.set_append_left _ _ (by rw [bump_length];exact hnl)]
   congr 1
   have:=rM (ids:=idx) (nb:=none) (k' :=0) (H:=H) (b:=b) (k:=n) (fun h=>by cases h) hjid
   exact this
  obtain⟨idx,nbx,x1,x2,rfl,x4⟩:=Un hpure hnw hxc s1.2 e1
  have hne:Bi E ox = .a->base+x≠n:=fun hc e=>nox hc (by rw [e];exact hnin)
  have hxl:nbx.isSome=true->DK E ox base x H<H.length/\DK E ox base x H≠n:=fun h=>by
   have hc:=x2 h
   have:=keptx hc
   unfold DK
   rw [if_pos hc]
   exact⟨this,hne hc⟩
  have hjid:n∉idx:=fun h=>hjx (x1 _ h)
  have hat:=ZeS (H:=H) hxl hjid
  have hkS:DK E ox base x (H.set n b)=DK E ox base x H:=by unfold DK;rw [List.length_set]
  have hsy:DV (Dy E s oy) (eff idx nbx (DK E ox base x H) H) H:=(Rq (fun h=>⟨(hxl h).1,by
   have hk:DK E ox base x H=base+x:=by simp [DK,x2 h]
   rw [hk]
   exact nox (x2 h)⟩)).symm
  refine fin _ s2' ⟨late2 hat,fun hc=>(ncy hc).elim⟩ (fun hc=>by rw [(QV hty).1] at hc;cases hc) (f3 _ H hat.symm hsy) ⟨Lc (notin x ox hx hnw) l1,fun hc=>absurd hc hxc⟩ (fun hc=>?_) ?_
  ·obtain⟨b',hb',hd⟩:=d1 hc
   exact⟨b',by rw [List.getElem?_set_ne (fun e=>hne hc e.symm)];exact hb',hd⟩
  ·rw [x4 _ _ (fun hc=>by rw [hkS]) (fun i hi=>by rw [List.getElem?_set_ne (fun e=>hjx (by rw [e];exact hi))]),hkS,rM hxl hjid]
 | false=>
 rw [hlx,hly,Bool.or_false,Bool.or_false] at hpass
 unfold eX at hpass
 simp only [Bool.and_eq_true] at hpass
 have hcomp:=hpass.1
 by_cases hcx:Bi E ox = .s
 ·obtain⟨f1,f2⟩:=ZeD hcx e1
  subst f1
  exact fin Hy s2' ⟨l2,c2⟩ d2 e2 ⟨Lc (notin x ox hx (by rw [hcx];intro h;cases h)) l1,fun hc=>by rw [hcx] at hc;cases hc⟩ (fun hc=>by rw [hcx] at hc;cases hc) (f2 _ _)
 by_cases hcy:Bi E oy = .s
 ·obtain⟨f1,f2⟩:=ZeD hcy e2
  subst f1
  exact fin H s2' ⟨Lc (notin y oy hy (by rw [hcy];intro h;cases h)) l2,fun hc=>by rw [hcy] at hc;cases hc⟩ (fun hc=>by rw [hcy] at hc;cases hc) (f2 _ _) ⟨l1,c1⟩ d1 e1
 have hwx:Bi E ox≠.w:=fun hw=>by rw [hw] at hcomp;cases hh:Bi E oy<;>simp_all [Z43]
 have hwy:Bi E oy≠.w:=fun hw=>by rw [hw] at hcomp;cases hh:Bi E ox<;>simp_all [Z43]
 by_cases hxc:Bi E ox = .c
 ·have hyc:Bi E oy≠.c:=fun hc=>by rw [hxc,hc] at hcomp;cases hcomp
  obtain⟨idx,nbs,x1,rfl,x4⟩:=qN hfree hxc e1
  obtain⟨idy,nby,y1,y2,rfl,y4⟩:=Un hpure hwy hyc s2'.2 e2
  have hl:base+m<=H.length:=c1 hxc
  have hry:∀i∈Dy E s oy,i<H.length:=fun i hi=>Nat.lt_of_lt_of_le (seey hxc i hi) hl
  have kyl:nby.isSome=true->base+y<H.length:=fun h=>by have:=hm y oy hy (y2 h);omega
  have g3:=y4 H (DK E oy base y H) (fun hc=>by simp [DK,hc]) (o5 nbs (QT _ _ _) (fun i hi=>by rw [bump_length];exact hry i hi)).symm
  have hke:∀H' : Heap,eff idy nby (DK E oy base y H')=eff idy nby (base+y):=fun H' =>by
   cases hnb:nby with
   | none=>rfl
   | some b=>simp [DK,y2 (by rw [hnb];rfl)]
  rw [hke] at g3
  have kyn:nby.isSome=true->base+y∉Dy E s ox:=fun h=>noy (y2 h)
  have hlen:(eff idy nby (base+y) H).length=H.length:=U3 kyl
  have dy:Bi E oy = .a->∃b,H[base+y]? = some b/\b.live=false:=fun hc=>by
   obtain⟨b,hb,hd⟩:=d2 hc
   have hlt:base+y<H.length:=by have:=hm y oy hy hc;omega
   rw [List.getElem?_append_left (by rw [bump_length];exact hlt),KR] at hb
   cases hh:H[base+y]? with
   | none=>simp [hh] at hb
   | some b0=>
    simp only [hh,Option.map_some,Option.some.injEq] at hb
    refine⟨b0,rfl,?_⟩
    subst hb
    split at hd<;>exact hd
  refine fin _ s2' ⟨Lc (notin y oy hy hwy) l2,fun hc=>absurd hc hyc⟩ dy g3 ⟨Lc (notin x ox hx hwx) l1,fun _=>by rw [hlen];exact hl⟩ (fun hc=>by rw [hxc] at hc;cases hc) ?_
  rw [x4 _ _ hlen (Rq (fun h=>⟨kyl h,kyn h⟩)),hke]
  congr 2
  rw [ZbN nbs (fun i hi=>by rw [bump_length];exact hry i (y1 i hi)) (fun h=>by rw [bump_length];exact kyl h)]
  congr 1
  have:=Z3b (FB:=idx) (ids2:=idy) (nb1:=none) (nb2:=nby) (k1:=0) (k2:=base+y) (H:=H) (fun h=>by cases h) (fun h=>⟨kyl h,fun hin=>kyn h (x1 _ hin)⟩) (fun h=>by cases h)
  exact this
 by_cases hyc:Bi E oy = .c
 ·obtain⟨idx,nbx,x1,x2,rfl,x4⟩:=Un hpure hwx hxc s1.2 e1
  obtain⟨idy,nbs,y1,rfl,y4⟩:=qN hfree hyc e2
  have kxl:nbx.isSome=true->base+x<H.length:=fun h=>keptx (x2 h)
  have hke:∀H' : Heap,eff idx nbx (DK E ox base x H')=eff idx nbx (base+x):=fun H' =>by
   cases hnb:nbx with
   | none=>rfl
   | some b=>simp [DK,x2 (by rw [hnb];rfl)]
  rw [hke] at c2 y4
  have hlen:(eff idx nbx (base+x) H).length=H.length:=U3 kxl
  have hl:base+m<=H.length:=by have:=c2 hyc;rw [hlen] at this;exact this
  have hrx:∀i∈Dy E s ox,i<H.length:=fun i hi=>Nat.lt_of_lt_of_le (seex hyc i hi) hl
  have g3:=y4 H (DK E oy base y H) hlen.symm (Rq (fun h=>⟨kxl h,nox (x2 h)⟩)).symm
  refine fin _ s2' ⟨Lc (notin y oy hy hwy) l2,fun _=>hl⟩ (fun hc=>by rw [hyc] at hc;cases hc) g3 ⟨Lc (notin x ox hx hwx) l1,fun hc=>absurd hc hxc⟩ (fun hc=>?_) ?_
  ·obtain⟨b,hb,hd⟩:=d1 hc
   have hlt:=keptx hc
   rw [List.getElem?_append_left (by rw [bump_length];exact hlt),KR,hb]
   refine⟨_,rfl,?_⟩
   simp only
   split<;>exact hd
  ·rw [x4 _ (DK E ox base x (bump H idy++nbs)) (fun hc=>by simp [DK,hc]) (o5 nbs (QT _ _ _) (fun i hi=>by rw [bump_length];exact hrx i hi)),hke,hke]
   congr 2
   rw [ZbN nbs (fun i hi=>by rw [bump_length];exact hrx i (x1 i hi)) (fun h=>by rw [bump_length];exact kxl h)]
   congr 1
   have:=Z3b (FB:=idx) (ids2:=idy) (nb1:=nbx) (nb2:=none) (k1:=base+x) (k2:=0) (H:=H) (fun h=>⟨kxl h,fun hin=>nox (x2 h) (y1 _ hin)⟩) (fun h=>by cases h) (fun _ h=>by cases h)
   exact this
 obtain⟨idx,nbx,x1,x2,rfl,x4⟩:=Un hpure hwx hxc s1.2 e1
 obtain⟨idy,nby,y1,y2,rfl,y4⟩:=Un hpure hwy hyc s2'.2 e2
 have kx:nbx.isSome=true->DK E ox base x H=base+x:=fun h=>by simp [DK,x2 h]
 have hxlt:nbx.isSome=true->DK E ox base x H<H.length:=fun h=>by rw [kx h];exact keptx (x2 h)
 have hlen:=U3 (ids:=idx) hxlt
 have ky:nby.isSome=true->∀H',DK E oy base y H' = base+y:=fun h H' =>by simp [DK,y2 h]
 have simx:DV (Dy E s oy) (eff idx nbx (DK E ox base x H) H) H:=(Rq (fun h=>⟨hxlt h,by rw [kx h];exact nox (x2 h)⟩)).symm
 have deady:Bi E oy = .a->∃b,H[base+y]? = some b/\b.live=false:=fun hc=>
  (Zdi (fun h=>⟨hxlt h,by rw [kx h];omega⟩)).1 (d2 hc)
 have hylt:Bi E oy = .a->base+y<H.length:=fun hc=>by
  obtain⟨b,hb,_⟩:=deady hc
  exact(List.getElem?_eq_some_iff.1 hb).1
 have g3:=y4 H (DK E oy base y H) (fun hc=>by simp [DK,hc]) simx
 have hylt' : nby.isSome=true->DK E oy base y H<H.length:=fun h=>by rw [ky h];exact hylt (y2 h)
 refine fin _ s2' ⟨Lc (notin y oy hy hwy) l2,fun hc=>absurd hc hyc⟩ deady g3 ⟨Lc (notin x ox hx hwx) l1,fun hc=>absurd hc hxc⟩ (fun hc=>(Zdi (fun h=>⟨hylt' h,by rw [ky h];omega⟩)).2 (d1 hc)) ?_
 have simy:DV (Dy E s ox) H (eff idy nby (DK E oy base y H) H):=Rq (fun h=>⟨hylt' h,by rw [ky h];exact noy (y2 h)⟩)
 have g5:=x4 _ (DK E ox base x (eff idy nby (DK E oy base y H) H)) (fun hc=>by simp [DK,hc]) simy
 rw [g5]
 have hk1:nbx.isSome=true->DK E ox base x (eff idy nby (DK E oy base y H) H)=base+x:=fun h=>by simp [DK,x2 h]
 have hkx:eff idx nbx (DK E ox base x (eff idy nby (DK E oy base y H) H)) (eff idy nby (DK E oy base y H) H)=eff idx nbx (DK E ox base x H) (eff idy nby (DK E oy base y H) H):=by
  cases nbx with
  | none=>rfl
  | some b=>rw [hk1 rfl,kx rfl]
 have hky:eff idy nby (DK E oy base y (eff idx nbx (DK E ox base x H) H)) (eff idx nbx (DK E ox base x H) H)=eff idy nby (DK E oy base y H) (eff idx nbx (DK E ox base x H) H):=by
  cases nby with
  | none=>rfl
  | some b=>rw [ky rfl,ky rfl]
 rw [hkx,hky]
 congr 2
 exact Z3b (fun h=>⟨hxlt h,by rw [kx h];exact fun hin=>nox (x2 h) (y1 _ hin)⟩) (fun h=>⟨hylt' h,by rw [ky h];exact fun hin=>noy (y2 h) (x1 _ hin)⟩) (fun h1 h2=>by rw [kx h1,ky h2];omega)
end
theorem ZxL (acc:List Nat) (j:Nat):∀(es:List Edge) (m:Nat),(es.foldl (fun m e=>if Region.binds .any e then m ||| (1 <<< e.on) ||| acc.getD e.on 0 else m) m).testBit j=true↔
  m.testBit j=true\/∃e∈es,Region.binds .any e=true/\(j=e.on\/(acc.getD e.on 0).testBit j=true):=by
 intro es
 induction es with
 | nil=>intro m;simp
 | cons e es ih=>
  intro m
  rw [List.foldl_cons,ih]
  by_cases hb:Region.binds .any e=true
  ·simp only [hb,if_true,Nat.testBit_or,Bool.or_eq_true,Nat.one_shiftLeft,Nat.testBit_two_pow,decide_eq_true_eq,List.mem_cons,exists_eq_or_imp,true_and]
   constructor
   ·rintro (((h|h)|h)|h)
    ·exact .inl h
    ·exact .inr (.inl (.inl h.symm))
    ·exact .inr (.inl (.inr h))
    ·exact .inr (.inr h)
   ·rintro (h|(h|h)|h)
    ·exact .inl (.inl (.inl h))
    ·exact .inl (.inl (.inr h.symm))
    ·exact .inl (.inr h)
    ·exact .inr h
  ·simp only [hb,Bool.false_eq_true,if_false,List.mem_cons,exists_eq_or_imp,false_and,false_or]
theorem Zwp (acc:List Nat) (o:Oper) (j:Nat):(VG acc o).testBit j=true↔∃e∈o.after,Region.binds .any e=true/\(j=e.on\/(acc.getD e.on 0).testBit j=true):=by
 unfold VG
 rw [ZxL]
 simp
theorem Zbr:∀(os:List Oper) (acc:List Nat) (i:Nat),i<acc.length->(Fa acc os)[i]? = acc[i]?:=by
 intro os
 induction os with
 | nil=>intro acc i hi;rfl
 | cons o os ih=>
  intro acc i hi
  simp only [Fa]
  rw [ih _ i (by simp;omega),List.getElem?_append_left hi]
theorem Zxv:∀(os:List Oper) (acc:List Nat) (i:Nat) (o:Oper),os[i]? = some o ->
  ∃acc',(Fa acc os)[acc.length+i]? = some (VG acc' o)/\acc'.length=acc.length+i/\∀j,j<acc'.length->(Fa acc os)[j]? = acc'[j]?:=by
 intro os
 induction os with
 | nil=>intro acc i o h;simp at h
 | cons p os ih=>
  intro acc i o h
  cases i with
  | zero=>
   simp at h
   subst h
   refine⟨acc,?_,rfl,fun j hj=>?_⟩
   ·simp only [Fa]
    rw [Zbr _ _ _ (by simp)]
    simp
   ·simp only [Fa]
    rw [Zbr _ _ _ (by simp;omega),List.getElem?_append_left hj]
  | succ i=>
   simp at h
   obtain⟨acc',h1,h2,h3⟩:=ih (acc++[VG acc p]) i o h
   refine⟨acc',?_,by rw [h2];simp;omega,h3⟩
   simp only [Fa]
   rw [<- h1]
   congr 1
   simp
   omega
section
variable {E:Env} {ops:Array Oper}
structure Zcv (E:Env) (ops:Array Oper):Prop where
 low:∀(i:Nat) (o:Oper),ops[i]? = some o->∀e∈o.after,Region.binds .any e=true->e.on<i
 bit:∀(i:Nat) (o:Oper),ops[i]? = some o->∀j,((Fa [] ops.toList).getD i 0).testBit j=true↔∃e∈o.after,Region.binds .any e=true/\(j=e.on\/((Fa [] ops.toList).getD e.on 0).testBit j=true)
 lt:∀(i j:Nat),i<ops.size->((Fa [] ops.toList).getD i 0).testBit j=true->j<i
 pass:∀(x y:Nat) (ox oy:Oper),ops[x]? = some ox->ops[y]? = some oy->x<y->((Fa [] ops.toList).getD y 0).testBit x=true\/(eX E ops ox oy||(NH E ops (PY E ops) x ox oy||NH E ops (PY E ops) y oy ox))=true
theorem Zqa (h:sU E ops=true):Zcv E ops:=by
 unfold sU at h
 simp only [List.all_eq_true,List.mem_range] at h
 have hlow:∀(i:Nat) (o:Oper),ops[i]? = some o->∀e∈o.after,Region.binds .any e=true->e.on<i:=by
  intro i o ho e he
  have:=h i (Array.getElem?_eq_some_iff.1 ho).1
  simp only [ho,Bool.and_eq_true,Array.all_eq_true_iff_forall_mem,Bool.or_eq_true,Bool.not_eq_true',decide_eq_true_eq] at this
  intro hb
  rcases this.1 e he with hh|hh
  ·rw [hb] at hh;cases hh
  ·exact hh
 have hbit:∀(i:Nat) (o:Oper),ops[i]? = some o->∀j,((Fa [] ops.toList).getD i 0).testBit j=true↔∃e∈o.after,Region.binds .any e=true/\(j=e.on\/((Fa [] ops.toList).getD e.on 0).testBit j=true):=by
  intro i o ho j
  obtain⟨acc',h1,h2,h3⟩:=Zxv ops.toList [] i o (by simpa using ho)
  simp only [List.length_nil,Nat.zero_add] at h1 h2
  have hi:(Fa [] ops.toList).getD i 0=VG acc' o:=by simp [List.getD,h1]
  rw [hi,Zwp]
  constructor
  ·rintro ⟨e,he,hb,hj⟩
   refine⟨e,he,hb,?_⟩
   have:=h3 e.on (by rw [h2];exact hlow i o ho e he hb)
   rcases hj with hj|hj
   ·exact .inl hj
   ·right;simp only [List.getD] at hj ⊢;rw [this];exact hj
  ·rintro ⟨e,he,hb,hj⟩
   refine⟨e,he,hb,?_⟩
   have:=h3 e.on (by rw [h2];exact hlow i o ho e he hb)
   rcases hj with hj|hj
   ·exact .inl hj
   ·right;simp only [List.getD] at hj ⊢;rw [<- this];exact hj
 refine⟨hlow,hbit,?_,?_⟩
 ·intro i
  induction i using Nat.strongRecOn with
  | _ i ih=>
   intro j hi hj
   have ho:ops[i]? = some ops[i]:=by simp [hi]
   obtain⟨e,he,hb,hh⟩:=(hbit i _ ho j).1 hj
   have hlt:=hlow i _ ho e he hb
   rcases hh with hh|hh
   ·omega
   ·have:=ih e.on hlt j (by omega) hh
    omega
 ·intro x y ox oy hx hy hxy
  have:=h y (Array.getElem?_eq_some_iff.1 hy).1
  simp only [hy,Bool.and_eq_true,List.all_eq_true,List.mem_range,Bool.or_eq_true] at this
  have:=this.2 x hxy
  simp only [hx] at this
  simpa only [Bool.or_eq_true] using this
end
section
variable {call:Dl} {E:Env} {ops:Array Oper} {ms:List Nat} {lt:List (Nat×(Nat⊕Nat))} {s0:List V} {base m:Nat}
theorem Zr4 {i:Nat} {r:St}:∀(M1 M2:List Nat) (st:St),(∀y∈M1,∀st st1 st2,Hz call E ops ms lt s0 base m y st=some st1->Hz call E ops ms lt s0 base m i st1=some st2 ->
      ∃st1',Hz call E ops ms lt s0 base m i st=some st1' /\ Hz call E ops ms lt s0 base m y st1' = some st2) ->
  Lt call E ops ms lt s0 base m (M1++i::M2) st=some r->∃st1,Hz call E ops ms lt s0 base m i st=some st1/\Lt call E ops ms lt s0 base m (M1++M2) st1=some r:=by
 intro M1
 induction M1 with
 | nil=>
  intro M2 st _ h
  simp only [List.nil_append,Lt] at h
  cases h1:Hz call E ops ms lt s0 base m i st with
  | none=>simp [h1] at h
  | some st1=>simp only [h1] at h;exact⟨st1,rfl,h⟩
 | cons y M1 ih=>
  intro M2 st hsw h
  simp only [List.cons_append,Lt] at h
  cases h1:Hz call E ops ms lt s0 base m y st with
  | none=>simp [h1] at h
  | some sa=>
   simp only [h1] at h
   obtain⟨sb,h2,h3⟩:=ih M2 sa (fun z hz=>hsw z (List.mem_cons_of_mem _ hz)) h
   obtain⟨sc,h4,h5⟩:=hsw y (by simp) st sa sb h1 h2
   exact⟨sc,h4,by simp only [List.cons_append,Lt,h5];exact h3⟩
theorem ZBn {B:Nat} {w0:Start} {σ:Sg} {P:Program} {st st' : St} {a:Act} {w:World} (hE:Ci E) (hP:E.P=P) (hcall:JL P E B w0 call) {i:Nat} (h:Eu E B w0 σ st a w) (hs:Hz call E ops ms lt s0 base m i st=some st')
  {K:Act->World->Prop} {Q:Exit->Act->World->Prop} (hn:∀a' w' σ',Eu E B w0 σ' st' a' w' -> Ext σ w σ' w' -> K a' w'):wpOp P ops Q i K a w:=by
 have hat:∃k,FP st.H k=true/\Jk call E ops k i st=some st' :=by
  unfold Hz at hs
  cases ho:ops[i]? with
  | none=>
   simp only [ho] at hs
   exact⟨st.H.length,dG _,by unfold Jk;simp only [ho];exact hs⟩
  | some o=>
   simp only [ho] at hs
   split at hs
   ·split at hs
    ·split at hs
     ·rename_i b hb
      split at hs
      ·cases hs
      ·rename_i hl
       exact⟨base+i,by unfold FP;simp only [hb];simpa using hl,hs⟩
     ·cases hs
    ·exact⟨st.H.length,dG _,hs⟩
   ·cases hs
 obtain⟨k,hk,hat⟩:=hat
 exact ZcV hE hP hcall hk h hat hn
theorem ZBk {B:Nat} {w0:Start} {P:Program} {r:St} (hE:Ci E) (hP:E.P=P) (hcall:JL P E B w0 call) (hpure:OB E call) (hf:Zcv E ops) (hm:∀(i:Nat) (o:Oper),ops[i]? = some o->Bi E o = .a->i<m)
  {Q:Exit->Act->World->Prop}:∀(fuel:Nat) (M:List Nat) (listed:Array Bool) (st:St) (σ:Sg) (a:Act) (w:World),M.length<=fuel->listed.size=ops.size ->
  (∀j,j∈M↔listed.getD j true=false)->M.Pairwise (· < ·)->(∀k j,listed.getD k false=true->((Fa [] ops.toList).getD k 0).testBit j=true->listed.getD j false=true) ->
  Lt call E ops (Fa [] ops.toList) (PY E ops) s0 base m M st=some r->Eu E B w0 σ st a w->(∀a' w' σ',Eu E B w0 σ' r a' w' -> Ext σ w σ' w' -> Q .normal a' w')->wpAny P .any ops Q fuel listed a w:=by
 intro fuel
 induction fuel with
 | zero=>
  intro M listed st σ a w hl hsz hM hsort hdown hs hr hn
  have hnil:M=[]:=List.eq_nil_of_length_eq_zero (by omega)
  subst hnil
  simp only [Lt,Option.some.injEq] at hs
  subst hs
  refine⟨?_,hn a w σ hr (Ext.refl σ w)⟩
  cases hrd:Region.ready .any ops listed with
  | nil=>rfl
  | cons i rest=>
   have hi:i∈Region.ready .any ops listed:=by rw [hrd];simp
   have:=(hM i).2 (mem_ready.1 hi).1
   cases this
 | succ fuel ih=>
  intro M listed st σ a w hl hsz hM hsort hdown hs hr hn
  have hlist:∀j,j<ops.size->j∉M->listed.getD j false=true:=by
   intro j hj hn
   have:¬listed.getD j true=false:=fun h=>hn ((hM j).2 h)
   have hjl:j<listed.size:=by omega
   simp [hjl] at this ⊢
   exact this
  refine⟨fun hready=>?_,fun i hi=>?_⟩
  ·
   cases M with
   | nil=>
    simp only [Lt,Option.some.injEq] at hs
    subst hs
    exact hn a w σ hr (Ext.refl σ w)
   | cons i rest=>
    exfalso
    have hun:=(hM i).1 (by simp)
    have hilt:i<ops.size:=by
     rcases Nat.lt_or_ge i listed.size with h|h
     ·omega
     ·simp [Array.getElem?_eq_none h] at hun
    have ho:ops[i]? = some ops[i]:=by simp [hilt]
    have:i∈Region.ready .any ops listed:=mem_ready.2 ⟨hun,_,ho,fun e he hb=>by
     have hlt:=hf.low i _ ho e he hb
     refine hlist e.on (by omega) (fun hin=>?_)
     rcases List.mem_cons.1 hin with h|h
     ·omega
     ·have:=(List.pairwise_cons.1 hsort).1 _ h
      omega⟩
    rw [hready] at this
    cases this
  ·obtain⟨hun,oi,hoi,hall⟩:=mem_ready.1 hi
   have hin:=(hM i).2 hun
   obtain⟨M1,M2,rfl⟩:=List.append_of_mem hin
   have hilt:i<ops.size:=(Array.getElem?_eq_some_iff.1 hoi).1
   have hM1:∀y∈M1,y<i:=fun y hy=>(List.pairwise_append.1 hsort).2.2 y hy i (by simp)
   have hmask:∀j,((Fa [] ops.toList).getD i 0).testBit j=true->listed.getD j false=true:=by
    intro j hj
    obtain⟨e,he,hb,hh⟩:=(hf.bit i oi hoi j).1 hj
    rcases hh with hh|hh
    ·rw [hh];exact hall e he hb
    ·exact hdown e.on j (hall e he hb) hh
   have hunl:∀y,listed.getD y true=false->listed.getD y false=false:=by
    intro y hy
    rcases Nat.lt_or_ge y listed.size with h|h
    ·simp [h] at hy ⊢;exact hy
    ·simp [Array.getElem?_eq_none h] at hy
   obtain⟨st1,h1,h2⟩:=Zr4 M1 M2 st (fun y hy sa sb sc hsa hsb=>by
    have hyun:listed.getD y true=false:=(hM y).1 (by simp [hy])
    have hylt:y<ops.size:=by have:=hM1 y hy;omega
    have hoy:ops[y]? = some ops[y]:=by simp [hylt]
    have hbit:((Fa [] ops.toList).getD i 0).testBit y=false:=by
     cases hb:((Fa [] ops.toList).getD i 0).testBit y with
     | false=>rfl
     | true=>have:=hmask y hb;rw [hunl y hyun] at this;cases this
    have hbit' : ((Fa [] ops.toList).getD y 0).testBit i=false:=by
     cases hb:((Fa [] ops.toList).getD y 0).testBit i with
     | false=>rfl
     | true=>have:=hf.lt y i hylt hb;have:=hM1 y hy;omega
    have hp:=(hf.pass y i _ oi hoy hoi (hM1 y hy)).resolve_left (by rw [hbit];simp)
    exact Zvk hpure hm hoy hoi (by have:=hM1 y hy;omega) hp (fun x t h=>ZzH h) hbit hbit' hsa hsb) hs
   refine ZBn hE hP hcall hr h1 (fun a1 w1 σ1 hr1 he1=>?_)
   have hget:∀j d,(listed.setIfInBounds i true).getD j d=if j=i then true else listed.getD j d:=by
    intro j d
    by_cases hji:j=i
    ·subst hji
     have:j<listed.size:=by omega
     simp [this]
    ·rw [if_neg hji,getD_set_ne d (fun e=>hji e.symm)]
   have hnot:i∉M1++M2:=by
    intro h
    rcases List.mem_append.1 h with h|h
    ·have:=hM1 i h;omega
    ·have:=(List.pairwise_cons.1 (List.pairwise_append.1 hsort).2.1).1 i h;omega
   refine ih (M1++M2) (listed.setIfInBounds i true) st1 σ1 a1 w1 (by simp at hl ⊢;omega) (by simpa using hsz) (fun j=>?_) ?_ (fun k j hk hj=>?_) h2 hr1 (fun a' w' σ' hr' he' =>hn a' w' σ' hr' (he1.trans he'))
   ·rw [hget]
    by_cases hji:j=i
    ·subst hji
     rw [if_pos rfl]
     exact⟨fun h=>absurd h hnot,fun h=>by cases h⟩
    ·rw [if_neg hji,<- hM j]
     simp [hji]
   ·exact hsort.sublist (List.Sublist.append_left (List.sublist_cons_self i M2) M1)
   ·rw [hget] at hk ⊢
    by_cases hji:j=i
    ·rw [if_pos hji]
    ·rw [if_neg hji]
     by_cases hki:k=i
     ·subst hki;exact hmask j hj
     ·rw [if_neg hki] at hk
      exact hdown k j hk hj
theorem Inv.reserve {B:Nat} {w0:Start} {σ:Sg} {H:Heap} {w:World} (h:Inv B w0 σ H w) (n:Nat):Inv B w0 σ (H++List.replicate n QX) w:=by
 have hold:∀(i:Nat) (b:Box),(H++List.replicate n QX)[i]? = some b->b.live=true->H[i]? = some b:=by
  intro i b hb hl
  rw [List.getElem?_append] at hb
  split at hb
  ·exact hb
  ·have:=(List.mem_replicate.1 (List.mem_of_getElem? hb)).2
   subst this
   cases hl
 refine⟨h.below,h.size,fun id L hL=>?_,fun i b hb hl=>h.boxes i b (hold i b hb hl) hl,fun i j b1 b2 L1 L2 g h1 h2 l1 l2=>h.apart i j b1 b2 L1 L2 g (hold i b1 h1 l1) (hold j b2 h2 l2) l1 l2,h.cells,
  fun b c hc i bx L hb hl=>h.floor b c hc i bx L (hold i bx hb hl) hl,fun i b hb hl=>h.low i b (hold i b hb hl) hl,h.old,h.kept⟩
 obtain⟨b,h1,h2⟩:=h.dom id L hL
 exact⟨b,by rw [List.getElem?_append_left (List.getElem?_eq_some_iff.1 h1).1];exact h1,h2⟩
theorem Ze9 {B:Nat} {w0:Start} {σ:Sg} {P:Program} {st st' : St} {a:Act} {w:World} (hE:Ci E) (hP:E.P=P) (hmix:P.follows .mixedOrders=true) (hcall:JL P E B w0 call) (hpure:OB E call) (hd:sU E ops=true)
  (h:Eu E B w0 σ st a w) (hs:SS call E ops st=some st') {id:Nat} {Q:Exit->Act->World->Prop} (hn:∀a' w' σ',Eu E B w0 σ' st' a' w' -> Ext σ w σ' w' -> Q .normal a' w'):(Code.region id ops true).wp P Q a w:=by
 have hg:w.grownBy { w with drawn:=w.drawn+1 } none:=⟨rfl,rfl,rfl,Nat.le_refl _,fun _ _ _=>rfl⟩
 obtain⟨hI,hEx⟩:=h.inv.grown hg
 refine wp_region_any hmix ?_
 unfold SS at hs
 refine ZBk hE hP hcall hpure (Zqa hd) (m:=if ops.any (fun o=>decide (Bi E o = .a)) then ops.size else 0) (fun i o ho hc=>?_) ops.size (List.range ops.size) _ _ σ a _ (by simp) (by simp) (fun j=>?_) List.pairwise_lt_range (fun k j hk=>?_) hs
  ⟨hI.reserve _,h.Ea.ext hEx,h.slots.ext hEx,h.calm⟩ (fun a' w' σ' hr he=>hn a' w' σ' hr (hEx.trans he))
 ·have:ops.any (fun o=>decide (Bi E o = .a))=true:=Array.any_eq_true'.2 ⟨o,Array.mem_of_getElem? ho,by simpa using hc⟩
  rw [if_pos this]
  exact(Array.getElem?_eq_some_iff.1 ho).1
 ·rw [List.mem_range]
  rcases Nat.lt_or_ge j ops.size with hj|hj
  ·simp [hj]
  ·simp [Nat.not_lt.2 hj]
 ·exfalso
  rcases Nat.lt_or_ge k ops.size with hj|hj
  ·simp [hj] at hk
  ·simp [hj] at hk
end
def Ex.out:Ex->Exit
 | .normal=>.normal
 | .ret=>.ret
 | .exit id=>.exit id
def Z3J (P:Program) (E:Env) (B:Nat) (w0:Start) (f:FuncId) (lp:Code->St->Option (Ex×St)):Prop:=
 ∀b st ex st',E8 E f b=true->lp b st=some (ex,st')->∀(Q:Exit->Act->World->Prop) σ a w,Eu E B w0 σ st a w ->
  (∀a' w' σ',Eu E B w0 σ' st' a' w' -> Ext σ w σ' w' -> Q ex.out a' w')->(Code.loop b).wp P Q a w
section
variable {P:Program} {E:Env} {B:Nat} {w0:Start} {call:Dl} {f:FuncId}
theorem Rl (hE:Ci E) (hP:E.P=P) (hcall:JL P E B w0 call) (hpure:OB E call) {lp:Code->St->Option (Ex×St)} (hlp:Z3J P E B w0 f lp) :
  ∀(c:Code) (st:St) (ex:Ex) (st' : St),E8 E f c=true->Fq call lp E f c st=some (ex,st')->∀(Q:Exit->Act->World->Prop) (σ:Sg) (a:Act) (w:World),Eu E B w0 σ st a w ->
   (∀a' w' σ',Eu E B w0 σ' st' a' w' -> Ext σ w σ' w' -> Q ex.out a' w')->c.wp P Q a w:=by
 intro c
 induction c with
 | skip=>
  intro st ex st' hc h Q σ a w hr hn
  simp only [Fq,Option.some.injEq,Prod.mk.injEq] at h
  obtain⟨rfl,rfl⟩:=h
  exact wp_skip (hn a w σ hr (Ext.refl σ w))
 | region id ops draw=>
  intro st ex st' hc h Q σ a w hr hn
  cases draw with
  | false=>
   simp only [Fq] at h
   cases hs:MM call E ops (List.range ops.size) st with
   | none=>simp [hs] at h
   | some r=>
    simp only [hs,Option.map_some,Option.some.injEq,Prod.mk.injEq] at h
    obtain⟨rfl,rfl⟩:=h
    exact wp_region (Zee hE hP hcall _ st σ a w hr hs hn)
  | true=>
   simp only [Fq] at h
   split at h
   ·rename_i hcalm
    cases hs:SS call E ops st with
    | none=>simp [hs] at h
    | some r=>
     simp only [hs,Option.map_some,Option.some.injEq,Prod.mk.injEq] at h
     obtain⟨rfl,rfl⟩:=h
     refine Ze9 hE hP (by rw [<- hP];exact hE.mix) hcall hpure ?_ hr hs hn
     simpa [E8,hcalm] using hc
   ·cases h
 | seq x y ihx ihy=>
  intro st ex st' hc h Q σ a w hr hn
  simp only [E8,Bool.and_eq_true] at hc
  simp only [Fq] at h
  split at h
  ·rename_i st1 h1
   exact wp_seq (ihx st .normal st1 hc.1 h1 _ σ a w hr (fun a1 w1 σ1 hr1 he1=>ihy st1 ex st' hc.2 h Q σ1 a1 w1 hr1 (fun a' w' σ' hr' he' =>hn a' w' σ' hr' (he1.trans he'))))
  ·rename_i hne
   refine wp_seq (ihx st ex st' hc.1 h _ σ a w hr (fun a1 w1 σ1 hr1 he1=>?_))
   have:=hn a1 w1 σ1 hr1 he1
   cases ex with
   | normal=>exact absurd h (hne _)
   | ret=>exact this
   | exit id=>exact this
 | cond c x y ihx ihy=>
  intro st ex st' hc h Q σ a w hr hn
  simp only [E8,Bool.and_eq_true] at hc
  simp only [Fq] at h
  split at h
  ·rename_i t ht
   have hv:=EU (a:=a) hr.Ea hr.slots c
   rw [ht] at hv
   have hb:a.eval c = .bool t:=by generalize a.eval c=v at hv;cases hv;rfl
   refine wp_cond hb ?_
   cases t with
   | true=>exact ihx st ex st' hc.1 h Q σ a w hr hn
   | false=>exact ihy st ex st' hc.2 h Q σ a w hr hn
  ·cases h
 | block id b ih=>
  intro st ex st' hc h Q σ a w hr hn
  simp only [E8] at hc
  simp only [Fq] at h
  split at h
  ·rename_i i st1 h1
   refine wp_block (ih st (.exit i) st1 hc h1 _ σ a w hr (fun a1 w1 σ1 hr1 he1=>?_))
   simp only [Ex.out,Exit.inBlock]
   split at h
   ·rename_i hi
    cases h
    rw [if_pos hi]
    exact hn a1 w1 σ1 hr1 he1
   ·rename_i hi
    cases h
    rw [if_neg hi]
    exact hn a1 w1 σ1 hr1 he1
  ·rename_i hne
   refine wp_block (ih st ex st' hc h _ σ a w hr (fun a1 w1 σ1 hr1 he1=>?_))
   have:=hn a1 w1 σ1 hr1 he1
   cases ex with
   | normal=>exact this
   | ret=>exact this
   | exit i=>exact absurd h (hne _ _)
 | loop b ih=>
  intro st ex st' hc h Q σ a w hr hn
  exact hlp b st ex st' hc h Q σ a w hr hn
 | scope b ih=>
  intro st ex st' hc h Q σ a w hr hn
  simp only [E8] at hc
  simp only [Fq] at h
  refine wp_scope_straight (ih st ex st' hc h _ σ a w hr (fun a1 w1 σ1 hr1 he1=>?_))
  have:=hn a1 w1 σ1 hr1 he1
  cases ex with
  | normal=>exact this
  | ret=>exact this
  | exit i=>exact this
 | label l=>
  intro st ex st' hc h Q σ a w hr hn
  simp only [Fq,Option.some.injEq,Prod.mk.injEq] at h
  obtain⟨rfl,rfl⟩:=h
  exact wp_label (hn a w σ hr (Ext.refl σ w))
 | exit id=>
  intro st ex st' hc h Q σ a w hr hn
  simp only [Fq,Option.some.injEq,Prod.mk.injEq] at h
  obtain⟨rfl,rfl⟩:=h
  exact wp_exit (hn a w σ hr (Ext.refl σ w))
 | ret=>
  intro st ex st' hc h Q σ a w hr hn
  simp only [Fq,Option.some.injEq,Prod.mk.injEq] at h
  obtain⟨rfl,rfl⟩:=h
  exact wp_ret (hn a w σ hr (Ext.refl σ w))
 | _=>
  intro st ex st' hc h
  cases h
theorem Z3A (hE:Ci E) (hP:E.P=P) (hcall:JL P E B w0 call) (hpure:OB E call):∀n,Z3J P E B w0 f (Si call E f n):=by
 have key:∀n,∀b st ex st',E8 E f b=true->Si call E f n b st=some (ex,st')->∀(Q:Exit->Act->World->Prop) σ a w,Eu E B w0 σ st a w ->
  (∀a' w' σ',Eu E B w0 σ' st' a' w' -> Ext σ w σ' w' -> Q ex.out a' w')->Code.rounds P b Q n a w:=by
  intro n
  induction n with
  | zero=>intro b st ex st' hc h;cases h
  | succ n ih=>
   intro b st ex st' hc h Q σ a w hr hn
   rw [rounds_succ]
   have hlp:Z3J P E B w0 f (Si call E f n):=fun b st ex st' hc h Q σ a w hr hn=>wp_loop_rounds n (ih b st ex st' hc h Q σ a w hr hn)
   simp only [Si] at h
   split at h
   ·rename_i st1 h1
    exact Rl hE hP hcall hpure hlp b st .normal st1 hc h1 _ σ a w hr (fun a1 w1 σ1 hr1 he1=>ih b st1 ex st' hc h Q σ1 a1 w1 hr1 (fun a' w' σ' hr' he' =>hn a' w' σ' hr' (he1.trans he')))
   ·rename_i hne
    refine Rl hE hP hcall hpure hlp b st ex st' hc h _ σ a w hr (fun a1 w1 σ1 hr1 he1=>?_)
    have:=hn a1 w1 σ1 hr1 he1
    cases ex with
    | normal=>exact absurd h (hne _)
    | ret=>exact this
    | exit id=>exact this
 exact fun n b st ex st' hc h Q σ a w hr hn=>wp_loop_rounds n (key n b st ex st' hc h Q σ a w hr hn)
theorem ZuZ {σ:Sg} {H:Heap} {w:World} (hE:Ci E) (hP:E.P=P) (hI:Inv B w0 σ H w) {t:TypeId} {x r:V} {v:Value} (hx:AQ σ w [x] [v]) (h:MK E H t x=some r) :
  ∃u,(do loadVar t (<- asAddr v):Sem Value).run P w = .ok u w/\AQ σ w [r] [u]:=by
 obtain⟨u,hu,hr⟩:=Zea (P:=P) hE hP hI hx h
 refine⟨u,?_,hr⟩
 have hv:∃A,v = .pointer (some A):=by
  unfold MK at h
  split at h
  ·cases h
  ·split at h
   ·cases hx;exact⟨_,rfl⟩
   ·cases hx with
    | ptr g _ _ _ h4 _=>exact⟨_,h4⟩
   ·cases h
 obtain⟨A,rfl⟩:=hv
 rw [<- hu]
 simp [Instr.loadAt,asAddr,Instr.sureAddr]
theorem ZEh {σ:Sg} {H:Heap} {w:World} {s:List V} {tmps:Array Value} (hE:Ci E) (hP:E.P=P) (hI:Inv B w0 σ H w) (hs:AQ σ w s tmps.toList):∀(rs:List ResultVar) (xs:List V),rs.mapM (resD E H s)=some xs ->
  ∃vs,(rs.mapM (fun(r:ResultVar)=>(match r with | .tmp t=>pure (tmps.getD t undef) | .cell a t=>do loadVar t (<- asAddr (tmps.getD a undef)):Sem Value))).run P w = .ok vs w/\AQ σ w xs vs:=by
 have hget:∀t,AQ σ w [s.getD t .und] [tmps.getD t undef]:=fun t=>by
  have:=ZcB hs t
  simpa using this
 intro rs
 induction rs with
 | nil=>
  intro xs h
  simp at h
  subst h
  exact⟨[],rfl,.nil⟩
 | cons r rs ih=>
  intro xs h
  rw [List.mapM_cons] at h
  cases hr:resD E H s r with
  | none=>simp [hr] at h
  | some x=>
   cases hrs:rs.mapM (resD E H s) with
   | none=>simp [hr,hrs] at h
   | some xs' =>
    simp [hr,hrs] at h
    subst h
    obtain⟨vs,hv,hx⟩:=ih xs' hrs
    have h1:∃u,((match r with | .tmp t=>pure (tmps.getD t undef) | .cell a t=>do loadVar t (<- asAddr (tmps.getD a undef)):Sem Value)).run P w = .ok u w/\AQ σ w [x] [u]:=by
     cases r with
     | tmp t=>
      simp only [resD,Option.some.injEq] at hr
      subst hr
      exact⟨_,rfl,hget t⟩
     | cell a t=>exact ZuZ hE hP hI (hget a) hr
    obtain⟨u,hu,hur⟩:=h1
    refine⟨u::vs,?_,AQ.FH.2 ⟨hur,hx⟩⟩
    rw [List.mapM_cons,Sem.run_bind,hu,Result.andThen_ok,Sem.run_bind,hv,Result.andThen_ok]
    rfl
theorem o8 {σ:Sg} {H:Heap} {w:World} {s:List V} {tmps:Array Value} (hE:Ci E) (hP:E.P=P) (hI:Inv B w0 σ H w) (hs:AQ σ w s tmps.toList) {fn:Func} {x:V} (h:KO E H s fn.results.toList=some x) :
  ∃u,(results fn tmps).run P w = .ok u w/\AQ σ w [x] [u]:=by
 unfold KO at h
 cases hm:fn.results.toList.mapM (resD E H s) with
 | none=>simp [hm] at h
 | some xs=>
  obtain⟨vs,hv,hr⟩:=ZEh (P:=P) hE hP hI hs _ xs hm
  have hrun:(results fn tmps).run P w = .ok (if h:vs.toArray.size=1 then vs.toArray[0] else .tuple vs.toArray) w:=by
   unfold results
   rw [Sem.run_bind]
   have hm2:(fn.results.mapM (fun(r:ResultVar)=>(match r with | .tmp t=>pure (tmps.getD t undef) | .cell a t=>do loadVar t (<- asAddr (tmps.getD a undef)):Sem Value))).run P w = .ok vs.toArray w:=by
    rw [Array.mapM_eq_mapM_toList,map_eq_pure_bind,Sem.run_bind,hv,Result.andThen_ok]
    rfl
   have:=congrArg (fun r=>Result.andThen r fun(vs:Array Value) (w' : World)=>(pure (if h:vs.size=1 then vs[0] else .tuple vs):Sem Value).run P w') hm2
   exact this
  refine⟨_,hrun,?_⟩
  rw [hm] at h
  have hlen:=hr.length
  split at h
  ·rename_i v hh
   cases hh
   simp only [Option.some.injEq] at h
   subst h
   obtain⟨u,vs',rfl,h1,h2⟩:=hr.Dq
   cases h2.FM
   simpa using h1
  ·rename_i ys hne hh
   cases hh
   simp only [Option.some.injEq] at h
   subst h
   have:¬vs.toArray.size=1:=by
    intro hh
    simp at hh
    rw [<- hlen] at hh
    obtain⟨y,rfl⟩:=List.length_eq_one_iff.1 hh
    exact hne y rfl
   rw [dif_neg this]
   exact .BF hr .nil
  ·rename_i hh;cases hh
end
def bare (fz:Nat->Nat->Prop):Sg:=⟨fun _=>none,fz⟩
theorem Lies.bare {σ σ' : Sg} {w w' : World} {b o:Nat} {us:List Value} (h:Lies σ w b o us) (hfz:∀b c,σ.fz b c->σ'.fz b c/\w'.cell? ⟨b,c,none⟩=w.cell? ⟨b,c,none⟩):Lies σ' w' b o us:=fun j u hu=>by
 obtain⟨h1,h2⟩:=h j u hu
 obtain⟨e1,e2⟩:=hfz _ _ h1
 exact⟨e1,e2.trans h2⟩
theorem AQ.bare {σ σ' : Sg} {w w' : World} {xs:List V} {vs:List Value} (h:AQ σ w xs vs) (hfz:∀b c,σ.fz b c->σ'.fz b c/\w'.cell? ⟨b,c,none⟩=w.cell? ⟨b,c,none⟩) (hmp:EM w w') :
  CJ xs=true->AQ σ' w' xs vs:=by
 induction h with
 | nil=>intro _;exact .nil
 | und u _ ih=>intro hn;simp [CJ] at hn;exact .und u (ih hn.2)
 | no _ ih=>intro hn;simp [CJ] at hn;exact .no (ih hn.2)
 | lit hl _ ih=>intro hn;simp [CJ] at hn;exact .lit hl (ih hn.2)
 | agg _ ho _ ih1 ih2=>intro hn;simp [CJ,CU] at hn;exact .agg (ih1 hn.1) ho (ih2 hn.2)
 | BF _ _ ih1 ih2=>intro hn;simp [CJ,CU] at hn;exact .BF (ih1 hn.1) (ih2 hn.2)
 | EW _ ih=>intro hn;simp [CJ] at hn;exact .EW (ih hn.2)
 | Fh _ ih=>intro hn;simp [CJ] at hn;exact .Fh (ih hn.2)
 | FV a _ ih=>intro hn;simp [CJ] at hn;exact .FV a (ih hn.2)
 | GL a _ ih=>intro hn;simp [CJ] at hn;exact .GL a (ih hn.2)
 | sl b o c e' _ h0 h1 h2 h3 h4 h5 _ ih1 ih2=>intro hn;simp [CJ,CU] at hn;exact .sl b o c e' (ih1 hn.1) h0 h1 h2 h3 h4 (h5.bare hfz) (ih2 hn.2)
 | Cb b o e' _ h0 h1 h2 h3 h4 _ ih1 ih2=>intro hn;simp [CJ,CU] at hn;exact .Cb b o e' (ih1 hn.1) h0 h1 h2 h3 (h4.bare hfz) (ih2 hn.2)
 | Ba h1 h2 h3 h4 _ ih=>intro hn;simp [CJ,CU] at hn
 | ptr g h1 h2 h3 h4 _ ih=>intro hn;simp [CJ,CU] at hn
 | CG b o e' i off _ h0 h1 h2 h3 _ ih1 ih2=>intro hn;simp [CJ,CU] at hn;exact .CG b o e' i off (ih1 hn.1) h0 h1 h2 (h3.bare hfz) (ih2 hn.2)
 | fn _ _ _ ih1 ih2 ih3=>intro hn;simp [CJ,CU] at hn;exact .fn (ih1 hn.1.1) (ih2 hn.1.2) (ih3 hn.2)
 | Gv _ _ ih1 ih2=>intro hn;simp [CJ,CU] at hn;exact .Gv (ih1 (by simp [CJ,hn.1])) (ih2 hn.2)
 | GV g es c _ h1 h2 _ ih1 ih2=>intro hn;simp [CJ,CU] at hn;exact .GV g es c (ih1 hn.1) (hmp _ _ _ h1) h2 (ih2 hn.2)
theorem Di.bare {E:Env} {σ σ' : Sg} {w w' : World} (h:Di E σ w) (hfz:∀b c,σ.fz b c->σ'.fz b c/\w'.cell? ⟨b,c,none⟩=w.cell? ⟨b,c,none⟩) (hmp:EM w w'):Di E σ' w' :=by
 intro g r hg
 have hr:=h g r hg
 generalize hv:Value.pointer (some ⟨g,0,none⟩)=v at hr ⊢
 cases hr with
 | CG b o e' i off k0 k1 k2 k3 k4 _=>exact .CG b o _ _ _ (k0.bare hfz hmp (Ol k1)) k1 k2 k3 (k4.bare hfz) .nil
theorem Z2V (ρ:Nat->Nat) (xs:List V):Gi ρ xs=xs.map (FQ ρ):=by
 induction xs with
 | nil=>rfl
 | cons x xs ih=>simp [Gi,ih]
theorem Z0y (ρ:Nat->Nat) (xs:List V):(Gi ρ xs).length=xs.length:=by rw [Z2V];simp
theorem Ze3 (ρ:Nat->Nat) (x:V):okV (FQ ρ x)=okV x:=by cases x<;>simp [FQ,okV]
theorem Z1G {σ σ' : Sg} {w w' : World} {ρ:Nat->Nat} {xs:List V} {vs:List Value} (h:AQ σ w xs vs) (hfz:∀b c,σ.fz b c->σ'.fz b c/\w'.cell? ⟨b,c,none⟩=w.cell? ⟨b,c,none⟩) (hmp:EM w w') :
  (∀id∈D5 xs,σ'.box (ρ id)=σ.box id)->AQ σ' w' (Gi ρ xs) vs:=by
 induction h with
 | nil=>intro _;exact .nil
 | und u _ ih=>intro hn;exact .und u (ih fun id h=>hn id (by simp [D5,h]))
 | no _ ih=>intro hn;exact .no (ih fun id h=>hn id (by simp [D5,h]))
 | lit hl _ ih=>intro hn;exact .lit hl (ih fun id h=>hn id (by simp [D5,h]))
 | agg _ ho _ ih1 ih2=>intro hn;exact .agg (ih1 fun id h=>hn id (by simp [D5,EL,h])) ho (ih2 fun id h=>hn id (by simp [D5,h]))
 | BF _ _ ih1 ih2=>intro hn;exact .BF (ih1 fun id h=>hn id (by simp [D5,EL,h])) (ih2 fun id h=>hn id (by simp [D5,h]))
 | EW _ ih=>intro hn;exact .EW (ih fun id h=>hn id (by simp [D5,h]))
 | Fh _ ih=>intro hn;exact .Fh (ih fun id h=>hn id (by simp [D5,h]))
 | FV a _ ih=>intro hn;exact .FV a (ih fun id h=>hn id (by simp [D5,h]))
 | GL a _ ih=>intro hn;exact .GL a (ih fun id h=>hn id (by simp [D5,h]))
 | sl b o c e' h h0 h1 h2 h3 h4 h5 _ _ ih2=>intro hn;exact .sl b o c e' (h.bare hfz hmp (Ol h0)) h0 h1 h2 h3 h4 (h5.bare hfz) (ih2 fun id h=>hn id (by simp [D5,h]))
 | Cb b o e' h h0 h1 h2 h3 h4 _ _ ih2=>intro hn;exact .Cb b o e' (h.bare hfz hmp (Ol h0)) h0 h1 h2 h3 (h4.bare hfz) (ih2 fun id h=>hn id (by simp [D5,h]))
 | Ba h1 h2 h3 h4 _ ih=>intro hn;exact .Ba ((hn _ (by simp [D5,EL])).trans h1) h2 h3 h4 (ih fun id h=>hn id (by simp [D5,h]))
 | ptr g h1 h2 h3 h4 _ ih=>intro hn;exact .ptr g ((hn _ (by simp [D5,EL])).trans h1) h2 h3 h4 (ih fun id h=>hn id (by simp [D5,h]))
 | CG b o e' i off h h0 h1 h2 h3 _ _ ih2=>intro hn;exact .CG b o e' i off (h.bare hfz hmp (Ol h0)) h0 h1 h2 (h3.bare hfz) (ih2 fun id h=>hn id (by simp [D5,h]))
 | fn _ _ _ ih1 ih2 ih3=>intro hn;exact .fn (ih1 fun id h=>hn id (by simp [D5,EL,h])) (ih2 fun id h=>hn id (by simp [D5,EL,h])) (ih3 fun id h=>hn id (by simp [D5,h]))
 | Gv _ _ ih1 ih2=>intro hn;exact .Gv (ih1 fun id h=>hn id (by simp [D5,EL] at h ⊢;simp [h])) (ih2 fun id h=>hn id (by simp [D5,h]))
 | GV g es c _ h1 h2 _ ih1 ih2=>intro hn;exact .GV g es c (ih1 fun id h=>hn id (by simp [D5,EL,h])) (hmp _ _ _ h1) h2 (ih2 fun id h=>hn id (by simp [D5,h]))
theorem Zyp {σ σ' : Sg} {w w' : World} {ρ:Nat->Nat} {x:V} {v:Value} (h:AQ σ w [x] [v]) (hfz:∀b c,σ.fz b c->σ'.fz b c/\w'.cell? ⟨b,c,none⟩=w.cell? ⟨b,c,none⟩) (hmp:EM w w')
  (hn:∀id∈EL x,σ'.box (ρ id)=σ.box id):AQ σ' w' [FQ ρ x] [v]:=Z1G h hfz hmp (by simpa [D5] using hn)
structure Fv (H H1:Heap):Prop where
 len:H.length<=H1.length
 at_:∀(id:Nat) (b:Box),H[id]? = some b->∃b',H1[id]? = some b' /\ b'.live=b.live/\b'.row=b.row/\b'.xs=b.xs
theorem Fv.refl (H:Heap):Fv H H:=⟨Nat.le_refl _,fun id b h=>⟨b,h,rfl,rfl,rfl⟩⟩
theorem Fv.trans {A B C:Heap} (h:Fv A B) (k:Fv B C):Fv A C:=
 ⟨Nat.le_trans h.len k.len,fun id b hb=>by
  obtain⟨b1,h1,h2,h3,h4⟩:=h.at_ id b hb
  obtain⟨b2,k1,k2,k3,k4⟩:=k.at_ id b1 h1
  exact⟨b2,k1,k2.trans h2,k3.trans h3,k4.trans h4⟩⟩
theorem Fv.bump (H:Heap) (ids:List Nat):Fv H (bump H ids):=
 ⟨by rw [bump_length];exact Nat.le_refl _,fun id b hb=>⟨_,by rw [KR,hb];rfl,by split<;>rfl,by split<;>rfl,by split<;>rfl⟩⟩
theorem Fv.push (H:Heap) (b:Box):Fv H (H++[b]):=
 ⟨by simp,fun id b' hb=>⟨b',by rw [List.getElem?_append_left (List.getElem?_eq_some_iff.1 hb).1];exact hb,rfl,rfl,rfl⟩⟩
section
variable {B:Nat} {w0:Start} {σ:Sg} {H H1:Heap} {w:World}
theorem Zdv (h:Inv B w0 σ H w) {f:Fk} {x y:V} {v:Value} (hr:AQ σ w [x] [v]) (hp:Ht f H x=some (y,H1)):Fv H H1/\∃σ',Inv B w0 σ' H1 w/\Ext σ w σ' w/\AQ σ' w [y] [v]:=by
 have mk:∀(e:TypeId) (sz:Nat),∃σ',Inv B w0 σ' (H++[Bg true false e sz []]) w/\Ext σ w σ' w/\AQ σ' w [.Ba H.length 0 0 0] [.slice none 0 0]:=by
  intro e sz
  obtain⟨σ',h1,h2,h3⟩:=NL (e:=e) (Ap:=sz) (v' :=.slice none 0 0) h (dG H) (grownBy_refl w none) (xs:=[]) (us:=[]) .nil (by simp) (by simp) (by simp [flat]) ⟨by simp [flat],.inl ⟨rfl,rfl⟩⟩ (by simp [Value.ownBlock]) false (by simp)
  exact⟨σ',by rw [ZzR] at h1;exact h1,h2,h3⟩
 cases f with
 | s e sz=>
  simp only [Ht] at hp
  cases hf:IA H x with
  | none=>simp [hf] at hp
  | some y0=>
   simp only [hf,Option.map_some,Option.some.injEq,Prod.mk.injEq] at hp
   obtain⟨rfl,rfl⟩:=hp
   obtain⟨h1,h2⟩:=h.freeze (FB x)
   exact⟨Fv.bump _ _,_,h1,h2,Z0C sz (qG h hr hf (FB x) (fun i hi=>hi))⟩
 | own e sz=>
  simp only [Ht] at hp
  unfold gJ at hp
  split at hp
  ·simp only [Option.some.injEq,Prod.mk.injEq] at hp
   obtain⟨rfl,rfl⟩:=hp
   cases hr with
   | EW _=>exact⟨Fv.push _ _,mk e sz⟩
  ·simp only [Option.some.injEq,Prod.mk.injEq] at hp
   obtain⟨rfl,rfl⟩:=hp
   cases hr with
   | Fh _=>exact⟨Fv.push _ _,mk e sz⟩
  ·split at hp
   ·simp only [Option.some.injEq,Prod.mk.injEq] at hp
    obtain⟨rfl,rfl⟩:=hp
    exact⟨Fv.refl _,σ,h,Ext.refl _ _,hr⟩
   ·cases hp
  ·cases hp
 | keep=>
  simp only [Ht,Option.some.injEq,Prod.mk.injEq] at hp
  obtain⟨rfl,rfl⟩:=hp
  exact⟨Fv.refl _,σ,h,Ext.refl _ _,hr⟩
 | drop=>
  simp only [Ht,Option.some.injEq,Prod.mk.injEq] at hp
  obtain⟨rfl,rfl⟩:=hp
  exact⟨Fv.refl _,σ,h,Ext.refl _ _,.und _ .nil⟩
theorem ZAE:∀{fl:List Fk} {H:Heap} {σ:Sg} {xs ys:List V} {vs:List Value} {H1:Heap},Inv B w0 σ H w->AQ σ w xs vs->Hu fl H xs=some (ys,H1)->Fv H H1/\∃σ',Inv B w0 σ' H1 w/\Ext σ w σ' w/\AQ σ' w ys vs:=by
 intro fl
 induction fl with
 | nil=>
  intro H σ xs ys vs H1 h hr hp
  cases xs with
  | nil=>
   simp only [Hu,Option.some.injEq,Prod.mk.injEq] at hp
   obtain⟨rfl,rfl⟩:=hp
   exact⟨Fv.refl _,σ,h,Ext.refl _ _,hr⟩
  | cons=>simp [Hu] at hp
 | cons f fl ih=>
  intro H σ xs ys vs H1 h hr hp
  cases xs with
  | nil=>simp [Hu] at hp
  | cons x xs=>
   obtain⟨v,vs',rfl,hr1,hr2⟩:=hr.Dq
   simp only [Hu] at hp
   cases h1:Ht f H x with
   | none=>simp [h1] at hp
   | some r=>
    obtain⟨y,Ha⟩:=r
    simp only [h1] at hp
    cases h2:Hu fl Ha xs with
    | none=>simp [h2] at hp
    | some r=>
     obtain⟨ys',Hb⟩:=r
     simp only [h2,Option.some.injEq,Prod.mk.injEq] at hp
     obtain⟨rfl,rfl⟩:=hp
     obtain⟨k1,σ1,i1,e1,r1⟩:=Zdv h hr1 h1
     obtain⟨k2,σ2,i2,e2,r2⟩:=ih i1 (hr2.ext e1) h2
     exact⟨k1.trans k2,σ2,i2,e1.trans e2,AQ.FH.2 ⟨r1.ext e2,r2⟩⟩
theorem Zdy (h:Inv B w0 σ H w) {fl:List Fk} {x y:V} {v:Value} (hr:AQ σ w [x] [v]) (hp:Jm fl H x=some (y,H1)):Fv H H1/\∃σ',Inv B w0 σ' H1 w/\Ext σ w σ' w/\AQ σ' w [y] [v]:=by
 unfold Jm at hp
 split at hp
 ·rename_i cs
  cases hl:Hu fl H cs with
  | none=>simp [hl] at hp
  | some r=>
   obtain⟨ys,Ha⟩:=r
   simp only [hl,Option.map_some,Option.some.injEq,Prod.mk.injEq] at hp
   obtain⟨rfl,rfl⟩:=hp
   cases hr with
   | agg h1 ho _=>
    obtain⟨k1,σ1,i1,e1,r1⟩:=ZAE h h1 hl
    exact⟨k1,σ1,i1,e1,.agg r1 ho .nil⟩
 ·split at hp
  ·exact Zdv h hr hp
  ·cases hp
theorem ZAN:∀{fl:List (List Fk)} {H:Heap} {σ:Sg} {xs ys:List V} {vs:List Value} {H1:Heap},Inv B w0 σ H w->AQ σ w xs vs->IE fl H xs=some (ys,H1)->Fv H H1/\∃σ',Inv B w0 σ' H1 w/\Ext σ w σ' w/\AQ σ' w ys vs:=by
 intro fl
 induction fl with
 | nil=>
  intro H σ xs ys vs H1 h hr hp
  cases xs with
  | nil=>
   simp only [IE,Option.some.injEq,Prod.mk.injEq] at hp
   obtain⟨rfl,rfl⟩:=hp
   exact⟨Fv.refl _,σ,h,Ext.refl _ _,hr⟩
  | cons=>simp [IE] at hp
 | cons f fl ih=>
  intro H σ xs ys vs H1 h hr hp
  cases xs with
  | nil=>simp [IE] at hp
  | cons x xs=>
   obtain⟨v,vs',rfl,hr1,hr2⟩:=hr.Dq
   simp only [IE] at hp
   cases h1:Jm f H x with
   | none=>simp [h1] at hp
   | some r=>
    obtain⟨y,Ha⟩:=r
    simp only [h1] at hp
    cases h2:IE fl Ha xs with
    | none=>simp [h2] at hp
    | some r=>
     obtain⟨ys',Hb⟩:=r
     simp only [h2,Option.some.injEq,Prod.mk.injEq] at hp
     obtain⟨rfl,rfl⟩:=hp
     obtain⟨k1,σ1,i1,e1,r1⟩:=Zdy h hr1 h1
     obtain⟨k2,σ2,i2,e2,r2⟩:=ih i1 (hr2.ext e1) h2
     exact⟨k1.trans k2,σ2,i2,e1.trans e2,AQ.FH.2 ⟨r1.ext e2,r2⟩⟩
structure uU (ids:List Nat) (H:Heap):Prop where
 nodup:ids.Nodup
 at_:∀id∈ids,∃b,H[id]? = some b/\b.live=true/\(b.row=false->∀r∈D5 b.xs,r∈ids)
theorem ZAk:∀(n:Nat) {fb:List Bf} {H:Heap} {σ:Sg} {todo seen ids:List Nat} {H2:Heap},Inv B w0 σ H w->Jl n fb H todo seen=some (H2,ids)->seen.Nodup ->
  (∀id∈seen,∃b,H[id]? = some b/\b.live=true/\(b.row=false->∀r∈D5 b.xs,r∈seen++todo)) ->
  H.length<=H2.length/\(∀id∈seen++todo,id∈ids)/\uU ids H2/\∃σ',Inv B w0 σ' H2 w/\Ext σ w σ' w:=by
 intro n
 induction n with
 | zero=>intro fb H σ todo seen ids H2 _ h;cases h
 | succ n ih=>
  intro fb H σ todo seen ids H2 hI h hnd hcl
  cases todo with
  | nil=>
   simp only [Jl,Option.some.injEq,Prod.mk.injEq] at h
   obtain⟨rfl,rfl⟩:=h
   exact⟨Nat.le_refl _,by simp,⟨hnd,by simpa using hcl⟩,σ,hI,Ext.refl _ _⟩
  | cons id todo=>
   unfold Jl at h
   by_cases hin:seen.contains id=true
   ·rw [if_pos hin] at h
    have hin' : id∈seen:=by simpa using hin
    obtain⟨h1,h2,h3⟩:=ih hI h hnd (fun i hi=>by
     obtain⟨b,k1,k2,k3⟩:=hcl i hi
     exact⟨b,k1,k2,fun hr r hh=>by
      have:=k3 hr r hh
      simp only [List.mem_append,List.mem_cons] at this ⊢
      rcases this with hx|rfl|hx
      ·exact .inl hx
      ·exact .inl hin'
      ·exact .inr hx⟩)
    refine⟨h1,fun i hi=>h2 i ?_,h3⟩
    simp only [List.mem_append,List.mem_cons] at hi ⊢
    rcases hi with hx|rfl|hx
    ·exact .inl hx
    ·exact .inl hin'
    ·exact .inr hx
   ·rw [if_neg hin] at h
    have hin' : id∉seen:=by simpa using hin
    have hnd' : (seen++[id]).Nodup:=by
     rw [List.nodup_append]
     exact⟨hnd,by simp,fun a ha b hb=>by simp at hb;subst hb;intro e;subst e;exact hin' ha⟩
    have hmem:∀{i:Nat} {t:List Nat},i∈seen++id::todo->i∈(seen++[id])++(todo++t):=by
     intro i t hi
     simp only [List.mem_append,List.mem_cons] at hi ⊢
     rcases hi with hx|hx|hx
     ·exact .inl (.inl hx)
     ·exact .inl (.inr (.inl hx))
     ·exact .inr (.inl hx)
    split at h
    ·rename_i b fresh fb' hb
     split at h
     ·rename_i hc
      simp only [Bool.and_eq_true] at hc
      generalize hH' : (if fresh then H else bump H [id])=H' at h
      have hk:Fv H H' /\ ∃σ',Inv B w0 σ' H' w/\Ext σ w σ' w:=by
       cases fresh with
       | true=>rw [if_pos rfl] at hH';subst hH';exact⟨Fv.refl _,σ,hI,Ext.refl _ _⟩
       | false=>
        rw [if_neg (by simp)] at hH'
        subst hH'
        obtain⟨i1,i2⟩:=hI.freeze [id]
        exact⟨Fv.bump _ _,_,i1,i2⟩
      obtain⟨hk,σ1,hI1,hE1⟩:=hk
      obtain⟨h1,h2,h3,σ2,h4,h5⟩:=ih hI1 h hnd' (fun i hi=>by
       simp only [List.mem_append,List.mem_singleton] at hi
       have key:∃b0,H[i]? = some b0/\b0.live=true/\(b0.row=false->∀r∈D5 b0.xs,r∈seen++id::todo):=by
        rcases hi with hi|rfl
        ·exact hcl i hi
        ·exact⟨b,hb,hc.1,fun hr=>by rw [hc.2] at hr;cases hr⟩
       obtain⟨b0,k1,k2,k3⟩:=key
       obtain⟨b',m1,m2,m3,m4⟩:=hk.at_ i b0 k1
       refine⟨b',m1,m2.trans k2,fun hr r hh=>?_⟩
       rw [m4] at hh
       have:=hmem (t:=[]) (k3 (m3▸hr) r hh)
       simpa using this)
      refine⟨Nat.le_trans hk.len h1,fun i hi=>h2 i ?_,h3,σ2,h4,hE1.trans h5⟩
      have:=hmem (t:=[]) hi
      simpa using this
     ·cases h
    ·rename_i b fl fb' hb
     split at h
     ·rename_i hc
      simp only [Bool.and_eq_true,Bool.not_eq_true'] at hc
      split at h
      ·rename_i x hx
       split at h
       ·rename_i y H1 hp
        split at h
        ·rename_i b1 hb1
         split at h
         ·rename_i hoky
          obtain⟨L,hL,hok⟩:=hI.boxes id b hb hc.1
          obtain⟨us,r1,r2,r3,r4⟩:=hok.D9
          rw [hx] at r1
          obtain⟨u,us',rfl,r5,r6⟩:=r1.Dq
          obtain⟨hk,σ1,hI1,hE1,hy⟩:=Zdy hI r5 hp
          obtain⟨b1',m1,m2,m3,m4⟩:=hk.at_ id b hb
          rw [hb1] at m1
          cases m1
          have hlive1:b1.live=true:=m2.trans hc.1
          have hrow1:b1.row=false:=m3.trans hc.2
          have hx1:b1.xs=[x]:=m4.trans hx
          have hsw:∃σ2,Inv B w0 σ2 (H1.set id { b1 with xs:=[y] }) w/\Ext σ1 w σ2 w:=by
           obtain⟨L1,hL1,hok1⟩:=hI1.boxes id b1 hb1 hlive1
           obtain⟨us1,s1,s2,s3,s4⟩:=hok1.D9
           rw [hx1] at s1
           obtain⟨u1,us1',rfl,s5,s6⟩:=s1.Dq
           cases s6.FM
           cases r6.FM
           have hu:u1.cells.toList=u.cells.toList:=by
            obtain⟨L',hL',he,hLL⟩:=hE1.box id L hL
            rw [hL1] at hL'
            cases hL'
            have ht1:L1.tot=1:=by rw [hok1.tot,hx1];rfl
            have ht:L.tot=1:=by rw [hok.tot,hx];rfl
            have hLe:L1=L:=by
             rcases hLL with e|e
             ·exact e
             ·omega
            subst hLe
            rcases r4.2 with ⟨hv,hn⟩|⟨g,cap,cur,tg,hv,_,hg,_,_,_,_,hcur⟩
            ·rw [hx] at hn;simp at hn
            ·rcases s4.2 with ⟨hv',hn'⟩|⟨g',cap',cur',tg',hv',_,hg',_,_,_,_,hcur'⟩
             ·rw [hx1] at hn';simp at hn'
             ·rw [hv] at hv'
              simp only [Value.slice.injEq,Option.some.injEq,Addr.mk.injEq,and_true] at hv'
              obtain⟨rfl,_,_⟩:=hv'
              rw [hg] at hg'
              simp only [Option.some.injEq,Obj.cells.injEq] at hg'
              obtain⟨rfl,_⟩:=hg'
              rw [NC] at hcur hcur'
              rw [<- hcur,<- hcur',hx,hx1]
           obtain⟨i1,i2⟩:=hI1.upd hb1 hlive1 hL1 (grownBy_refl w _) { b1 with xs:=[y] } hlive1 L1 rfl (.inl rfl) rfl (by simp [hx1]) (fun g hg=>.inl hg) (fun _ _ _ _=>rfl)
            (fun ex=>⟨by rw [hok1.tot,hx1];rfl,⟨[u],hy.ext ex,fun z hz=>by simp at hz;subst hz;rw [<- s2 u1 (by simp)];exact(congrArg List.length hu).symm,fun z hz=>s3 z (by rw [NC] at hz ⊢;rw [hu];exact hz),by
             rw [NC,<- hu,<- NC];simpa [hx1] using s4⟩,hok1.EX,hok1.Ap,by simpa using hoky,fun hh=>by simp only at hh;rw [hrow1] at hh;cases hh⟩)
           exact⟨_,i1,i2⟩
          obtain⟨σ2,hI2,hE2⟩:=hsw
          have hlen1:id<H1.length:=(List.getElem?_eq_some_iff.1 hb1).1
          obtain⟨h1,h2,h3,σ3,h4,h5⟩:=ih hI2 h hnd' (fun i hi=>by
           simp only [List.mem_append,List.mem_singleton] at hi
           by_cases hid:i=id
           ·subst hid
            refine⟨{ b1 with xs:=[y] },by simp [hlen1],hlive1,fun _ r hh=>?_⟩
            simp only [D5,List.append_nil] at hh
            simp [hh]
           ·have hi' : i∈seen:=by rcases hi with hi|hi;exact hi;exact absurd hi hid
            obtain⟨b0,k1,k2,k3⟩:=hcl i hi'
            obtain⟨b',q1,q2,q3,q4⟩:=hk.at_ i b0 k1
            refine⟨b',by rw [List.getElem?_set_ne (fun e=>hid e.symm)];exact q1,q2.trans k2,fun hr r hh=>?_⟩
            rw [q4] at hh
            exact hmem (k3 (q3▸hr) r hh))
          refine⟨Nat.le_trans hk.len (by simpa using h1),fun i hi=>h2 i (hmem hi),h3,σ3,h4,hE1.trans (hE2.trans h5)⟩
         ·cases h
        ·cases h
       ·cases h
      ·cases h
     ·cases h
    ·cases h
end
end Go.Proofs.YtjodhcdmhobmoaaGreatDoor.Le
