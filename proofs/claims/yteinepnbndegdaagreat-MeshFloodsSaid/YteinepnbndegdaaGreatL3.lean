/- A part of it. -/
import Derived.Test.YteinepnbndegdaaGreatL2
import Derived.Orders
import Derived.LoopN
import Derived.Scope
set_option linter.unusedVariables false
set_option linter.unusedSimpArgs false
namespace Go.Proofs.YteinepnbndegdaaGreat.Le
open Go.RowKit (Below)
def JX (P:Program) (E:Env) (B:Nat) (w0:Start) (call:CV):Prop:=
 ∀(f:FuncId) (args:List V) (H:Heap) (x:V) (H' : Heap) (σ:Sg) (w:World) (vs:List Value),call f args H=some (x,H')->Inv B w0 σ H w->Ci E σ w->AL σ w args vs ->
  (∃fn,P.funcs[f]? = some fn/\fn.body.isNone=false/\(fn.name == "runtime.NumGoroutine")=false) /\
  Calls P f vs.toArray w fun e w' =>∃u σ',e = .returned u/\Inv B w0 σ' H' w' /\ Ext σ w σ' w' /\ AL σ' w' [x] [u]
section
variable {P:Program} {o:Oper} {a:Act} {w:World} {next:Act->World->Prop} {Q:Exit->Act->World->Prop}
theorem Gx {s:Sem Value} {u:Value} {w' : World} (z:execOp a.eval o=(do let x <- s;pure (Next.value x))) (D:s.run P w = .ok u w') (C:next (a.put o.dst u) w'):o.wp P a w next Q:=by
 unfold Oper.wp;rw[z];simp only[Sem.run_bind,D,Result.andThen_ok,Sem.run_pure];exact C
theorem Za3 {s:Sem Unit} {w' : World} (z:execOp a.eval o=(do s;pure Next.skip)) (D:s.run P w = .ok () w') (C:next (a.put o.dst undef) w'):o.wp P a w next Q:=by
 unfold Oper.wp;rw[z];simp only[Sem.run_bind,D,Result.andThen_ok,Sem.run_pure];exact C
end
theorem Z8Y {E:Env} {σ w s} {a:Act} (C:Ci E σ w) (h:AL σ w s a.tmps.toList) (z:List (Nat×Operand)) :
  Parts σ w (z.map fun(i,x)=>(i,ev E s x)) (z.map fun(i,x)=>(i,a.eval x)):=by
 induction z with
 | nil=>exact .nil
 | cons p ps D=>exact .cons (Dp C h p.2) D
theorem Ut {E:Env} {σ w s} {a:Act} (z:Ci E σ w) (h:AL σ w s a.tmps.toList) (x:Option Operand):Jl σ w (x.map (ev E s)) (x.map a.eval):=by
 cases x with
 | none=>exact .none
 | some x=>exact .some (Dp z h x)
theorem ZF {B w0 σ H w} (h:Inv B w0 σ H w) {x I : V} {v:Value} (G:AL σ w [x] [v]) (C:JJ H x=some I) (ids:List Nat) (z:∀i∈OX x,i∈ids) :
  AL (σ.freeze H ids) w [I] [v]:=by
 unfold JJ at C;split at C
 ·rename_i vs;cases G with
  | Ap J _=>
   cases D:FC H vs with
   | none=>simp[D]at C
   | some M =>
    simp only[D,Option.map_some,Option.some.injEq]at C;subst C;exact .Ap (fO h J D ids z) .nil
 ·refine Xf h G C ids (fun i hi=>z i ?_);cases x<;>simp_all [OX]
def FD (P:Program) (E:Env) (B:Nat) (w0:Start) (call:CV) (σ:Sg) (k:Nat) (H:Heap) (w:World) (s:List V) (a:Act) (o:Oper):Prop:=
 ∀x H',BI call E k H s o=some (x,H')->∀(next:Act->World->Prop) (Q:Exit->Act->World->Prop),
  (∀u w' σ',Inv B w0 σ' H' w' -> Ext σ w σ' w' -> AL σ' w' [x] [u]->next (a.put o.dst u) w')->o.wp P a w next Q
section
variable {E:Env} {B:Nat} {w0:Start} {σ:Sg} {H:Heap} {w:World} {P:Program} {call:CV} {s:List V} {a:Act} {o:Oper} {k:Nat}
theorem Kr {y:Option V} {m:Sem Value} (C:Inv B w0 σ H w) (G:execOp a.eval o=(do let x <- m;pure (Next.value x))) (D:BI call E k H s o=y.map (·,H))
  (h:∀x,y=some x->∃u,m.run P w = .ok u w/\AL σ w [x] [u]):FD P E B w0 call σ k H w s a o:=by
 intro x H' z next Q I
 rw[D]at z;cases y with
 | none=>cases z
 | some R =>
  simp only[Option.map_some,Option.some.injEq,Prod.mk.injEq]at z;obtain⟨rfl,rfl⟩:=z;obtain⟨u,M,J⟩:=h R rfl;exact Gx G M (I _ w σ C (Ext.refl σ w) J)
theorem Z7o {y:V} {u:Value} (z:Inv B w0 σ H w) (D:execOp a.eval o=pure (Next.value u)) (C:BI call E k H s o=some (y,H)) (h:AL σ w [y] [u]):FD P E B w0 call σ k H w s a o:=
 Kr (m:=pure u) (y:=some y) z (by rw[D];rfl) C (fun x G=>⟨u,rfl,by cases G;exact h⟩)
theorem Zlw (z:Inv B w0 σ H w) (C:Ci E σ w) (D:AL σ w s a.tmps.toList) {y:Operand} (hop:o.op = .move y):FD P E B w0 call σ k H w s a o:=
 Z7o z (u:=a.eval y) (y:=ev E s y) (by unfold execOp;rw[hop]) (by unfold BI;rw[hop]) (Dp C D y)
theorem Zj8 (C:Eg H k=true) (D:Inv B w0 σ H w) (M:Ci E σ w) (S:AL σ w s a.tmps.toList) {y:Operand} (hop:o.op = .assign y):FD P E B w0 call σ k H w s a o:=by
 by_cases hy:y = .const (.slice none 0 0)
 ·subst hy;intro x H' z next Q R
  unfold BI at z;rw[hop]at z;simp only at z;split at z
  ·rename_i e sz by' z0 Y;simp only[Option.some.injEq,Prod.mk.injEq]at z;obtain⟨rfl,rfl⟩:=z;obtain⟨σ',G,I,J⟩:=MR (e:=e) (Ag:=(E.size e).getD 0) D C (grownBy_refl w none) (xs:=[]) (us:=[]) .nil (by simp) (by simp) (by simp[flat]) (VF w B e _) (by simp[Value.ownBlock]) false (by simp);unfold Oper.wp execOp;rw[hop];exact R _ w σ' G I J
  ·cases z
 ·refine Z7o D (u:=a.eval y) (y:=ev E s y) (by unfold execOp;rw[hop]) ?_ (Dp M S y);unfold BI
  simp_all
theorem Zm5 (M:Inv B w0 σ H w) (I:Ci E σ w) (J:AL σ w s a.tmps.toList) {c y z:Operand} (hop:o.op = .pick c y z):FD P E B w0 call σ k H w s a o:=by
 intro x H' D next Q R
 unfold BI at D;rw[hop]at D;simp only at D;split at D
 ·rename_i t hc;simp only[Option.some.injEq,Prod.mk.injEq]at D;obtain⟨rfl,rfl⟩:=D;have C:=Dp I J c;rw[hc]at C;have G:a.eval c = .bool t:=by generalize a.eval c=S at C;cases C;rfl
  unfold Oper.wp execOp;rw[hop];simp only[G,asBool,Sem.run_bind,Sem.run_pure,Result.andThen_ok];refine R _ w σ M (Ext.refl σ w) ?_;cases t
  ·exact Dp I J z
  ·exact Dp I J y
 ·cases D
theorem Zks (hE:Bl E) (hP:E.P=P) (G:Eg H k=true) (hI:Inv B w0 σ H w) {t:TypeId} (hop:o.op = .alloc t):FD P E B w0 call σ k H w s a o:=by
 intro x H' C next Q hn
 unfold BI at C;rw[hop]at C;simp only at C;split at C
 ·rename_i i I;split at C
  ·rename_i z hz;split at C
   ·rename_i hc;simp only[Option.some.injEq,Prod.mk.injEq]at C;obtain⟨rfl,rfl⟩:=C;obtain⟨inf,zv,hi,M,hsz,hbz,J⟩:=X6 hE hP I hz σ w;obtain⟨w',σ',D,R,S,Y⟩:=Z7I (P:=P) hI G t J hc.2 hc.1;refine Gx (s:=Instr.alloc t true (.tuple #[])) (u:=.pointer (some ⟨w.heap.size,0,none⟩)) (w' :=w') (by unfold execOp;rw[hop]) ?_ (hn _ w' σ' R S Y);simp[Instr.alloc,zeroValue,typeInfo,hi,M,D]
   ·cases C
  ·cases C
 ·cases C
theorem ZnP (D:Eg H k=true) (M:Inv B w0 σ H w) (R:Ci E σ w) (Y:AL σ w s a.tmps.toList) {t:TypeId} {y:Operand} (hop:o.op = .box t y):FD P E B w0 call σ k H w s a o:=by
 intro x H' z next Q S
 unfold BI at z;rw[hop]at z;simp only at z;split at z
 ·rename_i i hti;split at z
  ·rename_i hc;simp only[Option.some.injEq,Prod.mk.injEq]at z;obtain⟨rfl,rfl⟩:=z;obtain⟨w',σ',C,G,I,J⟩:=Z7I (P:=P) M D t (Dp R Y y) hc.2 hc.1;refine Gx (s:=Instr.box t (a.eval y)) (u:=.pointer (some ⟨w.heap.size,0,none⟩)) (w' :=w') (by unfold execOp;rw[hop]) ?_ (S _ w' σ' G I J);simp[Instr.box,C]
  ·cases z
 ·cases z
theorem Zkz (C:Bl E) (G:E.P=P) (D:Inv B w0 σ H w) (I:Ci E σ w) (J:AL σ w s a.tmps.toList) {t:TypeId} {z:Array (Nat×Operand)} (hop:o.op = .build t z):FD P E B w0 call σ k H w s a o:=
 Kr (m:=Instr.build t (z.map fun(i,x)=>(i,a.eval x))) D (by unfold execOp;rw[hop]) (by unfold BI;rw[hop])
  (fun x M=>Zow C G (by simpa using Z8Y I J z.toList) M)
theorem Zg4 (S:Bl E) (hP:E.P=P) (I:Eg H k=true) (Y:Inv B w0 σ H w) (hg:Ci E σ w) (hs:AL σ w s a.tmps.toList) {t:TypeId} {n:Nat} {z:Array (Nat×Operand)} (hop:o.op = .buildSlice t n z):FD P E B w0 call σ k H w s a o:=by
 intro x H' D next Q hn
 unfold BI at D;rw[hop]at D;simp only at D;obtain⟨G,C⟩:∃G:Array (Nat×Value),G=z.map (fun(i,x)=>(i,a.eval x)):=⟨_,rfl⟩;obtain⟨u,w',σ',hu,J,M,R⟩:=ZhO (P:=P) (vparts:=G) S hP Y I (by rw[C];simpa using Z8Y hg hs z.toList) D;exact Gx (s:=Instr.buildSlice t n G) (by unfold execOp;rw[hop,C]) hu (hn _ w' σ' J M R)
theorem Zle (C:Bl E) (D:E.P=P) (z:Inv B w0 σ H w) (G:Ci E σ w) (I:AL σ w s a.tmps.toList) {t:TypeId} {y:Operand} (hop:o.op = .load t y):FD P E B w0 call σ k H w s a o:=
 Kr (m:=Instr.loadAt t (a.eval y)) z (by unfold execOp;rw[hop]) (by unfold BI;rw[hop]) (fun x J=>Za4 C D z (Dp G I y) J)
theorem ZjZ (M:Bl E) (S:E.P=P) (R:Inv B w0 σ H w) (D:Ci E σ w) (G:AL σ w s a.tmps.toList) {t:TypeId} {y z:Operand} (hop:o.op = .store t y z):FD P E B w0 call σ k H w s a o:=by
 intro x H' C next Q Y
 unfold BI at C;rw[hop]at C;simp only at C;cases hb:J3 E H t (ev E s y) (ev E s z) with
 | none=>simp[hb]at C
 | some H2=>
  simp only[hb,Option.map_some,Option.some.injEq,Prod.mk.injEq]at C;obtain⟨rfl,rfl⟩:=C;obtain⟨w',σ',hu,I,J⟩:=Zom (P:=P) M S R (Dp D G y) (Dp D G z) hb;exact Za3 (s:=Instr.storeAt t (a.eval y) (a.eval z)) (by unfold execOp;rw[hop]) hu (Y _ w' σ' I J (.no .nil))
theorem ZhK (J:Inv B w0 σ H w) (M:Ci E σ w) (S:AL σ w s a.tmps.toList) {y:Operand} (hop:o.op = .nilCheck y):FD P E B w0 call σ k H w s a o:=by
 intro x H' C next Q R
 unfold BI at C;rw[hop]at C;simp only at C;split at C
 ·rename_i z;simp only[Option.some.injEq,Prod.mk.injEq]at C;obtain⟨rfl,rfl⟩:=C;have G:=Dp M S y;have D:execOp a.eval o=pure (Next.value (a.eval y)):=by
   unfold execOp;rw[hop];simp only;generalize ev E s y=Y at G z;generalize a.eval y=vy at G;cases G with
   | FQ _ _ _=>cases z
   | und _ _=>cases z
   | no _=>cases z
   | @lit v _ _ hl _=>unfold SA at z;split at z<;>simp_all
   | agg _ _ _=>cases z
   | Ap _ _=>cases z
   | EI _=>rfl
   | Et a _=>rfl
   | Fh _=>rfl
   | GM a _=>rfl
   | sl _ _ _ _ _ _ _ _ _ _ _ _=>rfl
   | CE _ _ _ _ _ _ _ _ _ _=>rfl
   | BK _ _ _ _ _=>cases z
   | ptr g _ _ _ I _=>subst I;rfl
   | Bj _ _ _ _ _ _ _ _ _ _ _=>rfl
   | fn _ _ _=>rfl
   | GX _ _=>rfl
  unfold Oper.wp;rw[D];exact R _ w σ J (Ext.refl σ w) G
 ·cases C
theorem Zkq (G:Bl E) (J:E.P=P) (I:Inv B w0 σ H w) (C:Ci E σ w) (D:AL σ w s a.tmps.toList) {op:BinOp} {t S:TypeId} {y z:Operand} (hop:o.op = .binOp op t y z S):FD P E B w0 call σ k H w s a o:=
 Kr (m:=(do eqGuard op t y z (a.eval y) (a.eval z);binOp op t (a.eval y) (a.eval z))) I (by unfold execOp;rw[hop]) (by unfold BI;rw[hop])
  (fun x R=>by
   obtain⟨u,M,Q,Y⟩:=ZtO (P:=P) G J y z (Dp C D y) (Dp C D z) R
   simp_all)
theorem Zlq (z:Inv B w0 σ H w) (C:Ci E σ w) (D:AL σ w s a.tmps.toList) {op:UnOp} {t:TypeId} {y:Operand} (hop:o.op = .unOp op t y):FD P E B w0 call σ k H w s a o:=
 Kr (m:=Op.unary op (a.eval y)) z (by unfold execOp;rw[hop]) (by unfold BI;rw[hop]) (fun x G=>un_ok (Dp C D y) G)
theorem Zim (I:Bl E) (J:E.P=P) (D:Eg H k=true) (C:Inv B w0 σ H w) (M:Ci E σ w) (S:AL σ w s a.tmps.toList) {src dst:TypeId} {y:Operand} (hop:o.op = .convert src dst y):FD P E B w0 call σ k H w s a o:=by
 intro x H' z next Q R
 unfold BI at z;rw[hop]at z;simp only at z;split at z
 ·rename_i hb;simp only[Bool.and_eq_true]at hb;obtain⟨u,w',σ',G,i1,i2,i3⟩:=Zo7 (P:=P) I J C D (Dp M S y) hb.1 hb.2 z;exact Gx (s:=convert src dst (a.eval y)) (by unfold execOp;rw[hop]) G (R _ w' σ' i1 i2 i3)
 obtain⟨rfl,u,G,Y⟩:=Zrr (P:=P) I J C (Dp M S y) z;exact Gx (s:=convert src dst (a.eval y)) (by unfold execOp;rw[hop]) G (R _ w σ C (Ext.refl σ w) Y)
theorem ZgX (Y:Bl E) (hP:E.P=P) (R:Eg H k=true) (hI:Inv B w0 σ H w) (hg:Ci E σ w) (hs:AL σ w s a.tmps.toList) {t:TypeId} {l c:Operand} (hop:o.op = .makeSlice t l c):FD P E B w0 call σ k H w s a o:=by
 intro x H' C next Q hn
 unfold BI at C;rw[hop]at C;simp only at C;split at C
 ·rename_i e sz by' z0 kl n kc m S hl hc;split at C
  ·rename_i ei M;split at C
   ·rename_i z hz;split at C
    ·rename_i D;obtain⟨c1,c2,c3,c4,c5,c6,c7⟩:=D;simp only[Option.some.injEq,Prod.mk.injEq]at C;obtain⟨rfl,rfl⟩:=C;obtain⟨inf,d,hi,hd,q1,q2,q3,q4⟩:=Eo (Y.ti _ _ S);have J : P.underlying t=some (.slice e):=by rw[hP]at hd;rw[hd,MN q1]
     have I:=Dp hg hs l;have G:=Dp hg hs c;rw[hl]at I;rw[hc]at G;have e1:a.eval l = .int kl n:=by generalize a.eval l=q at I;cases I;rfl
     have e2:a.eval c = .int kc m:=by generalize a.eval c=q at G;cases G;rfl
     obtain⟨u,w',σ',hu,h1,h2,h3⟩:=Zqe (P:=P) (kl:=kl) (kc:=kc) Y hP hI R J M hz c1 c2 c3 c4 c5 c6 c7 _;exact Gx (s:=Instr.makeSlice t (a.eval l) (a.eval c)) (by unfold execOp;rw[hop]) (by rw[e1,e2];exact hu) (hn _ w' σ' h1 h2 h3)
    ·cases C
   ·cases C
  ·cases C
 ·cases C
theorem Zkt (Y:Bl E) (hP:E.P=P) (hI:Inv B w0 σ H w) (z:Ci E σ w) (C:AL σ w s a.tmps.toList) {t:TypeId} {y:Operand} {lo hi G:Option Operand} (hop:o.op = .slice t y lo hi G):FD P E B w0 call σ k H w s a o:=by
 intro x H' D next Q hn
 unfold BI at D;rw[hop]at D;simp only at D;split at D
 ·rename_i n e sz by' z0 R;obtain⟨u,σ',S,I,J,M⟩:=ZnF (P:=P) (lo' :=lo.map a.eval) (hi' :=hi.map a.eval) (mx' :=G.map a.eval) Y hP hI R (Dp z C y) (Ut z C lo) (Ut z C hi) (Ut z C G) D;exact Gx (s:=Instr.sliceAt t (a.eval y) (lo.map a.eval) (hi.map a.eval) (G.map a.eval)) (by unfold execOp;rw[hop]) S (hn _ w σ' I J M)
 obtain⟨u,σ',S,I,J,M⟩:=Zp8 (P:=P) Y hP hI (Dp z C y) (Ut z C lo) (Ut z C hi) (Ut z C G) D;exact Gx (s:=Instr.sliceAt t (a.eval y) (lo.map a.eval) (hi.map a.eval) (G.map a.eval)) (by unfold execOp;rw[hop]) S (hn _ w σ' I J M)
theorem Zno (z:Bl E) (D:E.P=P) (C:Inv B w0 σ H w) (G:Ci E σ w) (I:AL σ w s a.tmps.toList) {t:TypeId} {y:Operand} (hop:o.op = .sliceToArrayPointer t y):FD P E B w0 call σ k H w s a o:=
 Kr (m:=Instr.arrayAt t (a.eval y)) C (by unfold execOp;rw[hop]) (by unfold BI;rw[hop]) (fun x J=>ZrD z D (Dp G I y) J)
theorem Zgw (z:Bl E) (D:E.P=P) (C:Inv B w0 σ H w) (G:Ci E σ w) (I:AL σ w s a.tmps.toList) {t:TypeId} {y:Operand} {f:Nat} (hop:o.op = .fieldAddr t y f):FD P E B w0 call σ k H w s a o:=
 Kr (m:=Instr.fieldAt t (a.eval y) f) C (by unfold execOp;rw[hop]) (by unfold BI;rw[hop]) (fun x J=>Zj9 z D (Dp G I y) J)
theorem Zk9 (z:Bl E) (D:E.P=P) (C:Inv B w0 σ H w) (G:Ci E σ w) (I:AL σ w s a.tmps.toList) {t:TypeId} {y:Operand} {f:Nat} (hop:o.op = .field t y f):FD P E B w0 call σ k H w s a o:=
 Kr (m:=Instr.field t (a.eval y) f) C (by unfold execOp;rw[hop]) (by unfold BI;rw[hop]) (fun x J=>Zov z D (Dp G I y) J)
theorem Zgu (G:Bl E) (I:E.P=P) (z:Inv B w0 σ H w) (C:Ci E σ w) (D:AL σ w s a.tmps.toList) {t:TypeId} {y i:Operand} (hop:o.op = .indexAddr t y i):FD P E B w0 call σ k H w s a o:=
 Kr (m:=Instr.indexAt t (a.eval y) (a.eval i)) z (by unfold execOp;rw[hop]) (by unfold BI;rw[hop]) (fun x J=>Zj0 G I z (Dp C D y) (Dp C D i) J)
theorem ZkI (D:Bl E) (I:E.P=P) (G:Inv B w0 σ H w) (z:Ci E σ w) (C:AL σ w s a.tmps.toList) {t:TypeId} {y i:Operand} (hop:o.op = .index t y i):FD P E B w0 call σ k H w s a o:=
 Kr (m:=Instr.index t (a.eval y) (a.eval i)) G (by unfold execOp;rw[hop]) (by unfold BI;rw[hop]) (fun x J=>Zpi D I (Dp z C y) (Dp z C i) J)
theorem Z7y {σ:Sg} {w:World} {kd:IntKind} {n:Int}:∀(l:List MapEntry) (kvs:List V) (i:Nat),AL σ w kvs (l.flatMap fun e=>[e.key,e.val]) ->
  (Jq kd n kvs=some none->Instr.findNow (.int kd) (.int kd n) l i=some none)/\(∀v,Jq kd n kvs=some (some v)->∃j u,Instr.findNow (.int kd) (.int kd n) l i=some (some (j,u))/\AL σ w [v] [u])
 | [],kvs,i,h=>by
  cases h;exact⟨fun _=>rfl,fun v M=>by cases M⟩
 | e::l,kvs,i,h=>by
  have h' : AL σ w kvs (e.key::e.val::l.flatMap fun e=>[e.key,e.val]):=h;cases kvs with
  | nil=>cases h'
  | cons x kvs=>
   obtain⟨C,D⟩:=AL.Dk.1 h';cases kvs with
   | nil=>cases D
   | cons y kvs=>
    obtain⟨Q,I⟩:=AL.Dk.1 D;have R:=Z7y (kd:=kd) (n:=n) l kvs (i+1) I;generalize J:e.key=key at C;have no:(∀k a,x≠.lit (.int k a))->Jq kd n (x::y::kvs)=none:=fun G=>by
     unfold Jq
     simp_all
    by_cases G:∃k a,x = .lit (.int k a)
    ·obtain⟨k,a,rfl⟩:=G;cases C with
     | lit _ _=>
      unfold Jq
      by_cases z:k=kd
      ·subst z;simp only[if_true];unfold Instr.findNow;rw[J];simp only[Instr.sameNow,if_true]
       grind
      simp_all
    simp_all
theorem Zkv (hE:Bl E) (hP:E.P=P) {t:TypeId} {ok:Bool} {C:List V} {us:List Value} {g:Nat} {es:Array MapEntry} {c:Nat} {x r:V} {xv:Value} (h0:AL σ w C us) (hg:w.heap[g]? = some (.map es c)) (hus:us=es.toList.flatMap (fun e=>[e.key,e.val])) (hx:AL σ w [x] [xv]) (h:P5 E t ok (.Lt C) x=some r) :
  ∃v,(Instr.lookup t (.map (some g)) xv ok).run P w = .ok v w/\AL σ w [r] [v]:=by
 unfold P5 at h;split at h
 ·rename_i k e sz by' z0 kvs kd n hti hmm;cases hmm;obtain⟨inf,d,hi,hd,q1,q2,q3,q4⟩:=Eo (hE.ti _ _ hti);have J : P.underlying t=some (.map k e):=by
   rw[hP]at hd;rw[hd];cases d<;>simp[Jw]at q1;exact congrArg some (by rw[q1.1,q1.2])
  split at h
  ·rename_i hkd;have hk:P.underlying k=some (.int kd):=by rw[<- hP];exact hE.kind _ _ hkd
   subst hus;cases hx with
   | lit _ _=>
    obtain⟨f1,f2⟩:=Z7y (kd:=kd) (n:=n) es.toList C 0 h0;have I:(Instr.checkKey es.isEmpty 10000 k (.int kd n)).run P w = .ok () w:=MapKept.run_checkKey (k:=.int kd n) hk (by simp[MapKept.IsKey]) es.isEmpty 9999;have M:∀q,Instr.findNow (.int kd) (.int kd n) es.toList 0=some q->(Instr.findKey k (.int kd n) es.toList).run P w = .ok q w:=fun q hq=>by simp[Instr.findKey,run_underlying hk,hq]
    split at h
    ·rename_i v hv;obtain⟨j,u,h1,G⟩:=f2 v hv;simp only[Option.some.injEq]at h;subst h;refine⟨if ok then .tuple #[u,.bool true] else u,by simp[Instr.lookup,run_underlying J,MapKept.run_getObj_map hg,I,M _ h1,Result.andThen],?_⟩;cases ok with
     | true=>exact .Ap (AL.Dk.2 ⟨G,.lit rfl .nil⟩) .nil
     | false=>exact G
    ·rename_i hv;have h1:=f1 hv;split at h
     ·rename_i ei hei;obtain⟨R,de,Q,hde,e1,e2,e3,S⟩:=Eo (hE.ti _ _ hei);cases hz:ei.zero with
      | none=>simp[hz]at h
      | some z=>
       simp only[hz,Option.map_some,Option.some.injEq]at h;subst h;rw[hz]at S;cases D:R.zero with
       | none=>simp[D]at S
       | some Y=>
        simp only[D,Option.map_some,Option.some.injEq]at S;have hzr:(zeroValue e).run P w = .ok Y w:=by rw[hP]at Q;simp[zeroValue,typeInfo,Q,D]
        have G:=XF σ w Y;rw[<- S]at G;refine⟨if ok then .tuple #[Y,.bool false] else Y,by simp[Instr.lookup,run_underlying J,MapKept.run_getObj_map hg,I,M _ h1,hzr,Result.andThen],?_⟩;cases ok with
        | true=>exact .Ap (AL.Dk.2 ⟨G,.lit rfl .nil⟩) .nil
        | false=>exact G
     ·cases h
    ·cases h
  ·cases h
 ·cases h
theorem Zny (C:Bl E) (D:E.P=P) (Q:Inv B w0 σ H w) {t:TypeId} {ok:Bool} {m x r:V} {G I:Value} (hm:AL σ w [m] [G]) (R:AL σ w [x] [I]) (h:Ph E H t ok m x=some r) :
  ∃v,(Instr.lookup t G I ok).run P w = .ok v w/\AL σ w [r] [v]:=by
 unfold Ph at h;split at h
 ·split at h
  ·rename_i b hb;split at h
   ·rename_i z;obtain⟨g,es,c,rfl,S,J,M,Y⟩:=Z0f C D Q hm hb z;exact Zkv C D M J rfl R h
   ·cases h
  ·cases h
 ·cases m with
  | Lt kvs=>cases hm
  | _=>unfold P5 at h;split at h<;>simp_all
theorem ZhU (Y:Bl E) (hP:E.P=P) (G:Eg H k=true) (hI:Inv B w0 σ H w) (hg:Ci E σ w) (hs:AL σ w s a.tmps.toList) {t:TypeId} {r:Option Operand} (hop:o.op = .makeMap t r):FD P E B w0 call σ k H w s a o:=by
 intro x H' z next Q S
 unfold BI at z;rw[hop]at z;obtain⟨h0,σ',J,M,R⟩:=Zma (P:=P) hI G t;cases r with
 | none=>
  simp only at z;split at z
  ·simp only[Option.some.injEq,Prod.mk.injEq]at z;obtain⟨rfl,rfl⟩:=z;exact Gx (s:=Instr.makeMap t none) (by unfold execOp;rw[hop];rfl) (by simp[Instr.makeMap]) (S _ _ σ' J M R)
  ·cases z
 | some r=>
  simp only at z;split at z
  ·rename_i k0 e sz by' z0 kd n I D;simp only[Option.some.injEq,Prod.mk.injEq]at z;obtain⟨rfl,rfl⟩:=z;have hd:=Z5 Y hP I;have C:=Dp hg hs r;rw[D]at C;have C:=C.JZ;exact Gx (s:=Instr.makeMap t (some (a.eval r))) (by unfold execOp;rw[hop];rfl) (by simp only[Instr.makeMap,C];simp[run_underlying hd,asInt,asIntOf]) (S _ _ σ' J M R)
  ·cases z
theorem Z6E (S:Bl E) (hP:E.P=P) (Y:Inv B w0 σ H w) (C:Ci E σ w) (G:AL σ w s a.tmps.toList) {t:TypeId} {m y v:Operand} (hop:o.op = .mapUpdate t m y v\/o.op = .insert t m y v):FD P E B w0 call σ k H w s a o:=by
 intro x H' D next Q hn
 have z : (Nz E H t (ev E s m) (ev E s y) (ev E s v)).map (DT,·)=some (x,H'):=by
  unfold BI at D;rcases hop with hop|hop<;>(rw[hop]at D;exact D)
 cases I:Nz E H t (ev E s m) (ev E s y) (ev E s v) with
 | none=>simp[I]at z
 | some H1=>
  simp only[I,Option.map_some,Option.some.injEq,Prod.mk.injEq]at z;obtain⟨rfl,rfl⟩:=z;obtain⟨w',σ',J,M,R⟩:=Zpa (P:=P) S hP Y (Dp C G m) (Dp C G y) (Dp C G v) I;refine Za3 (s:=Instr.mapUpdate t (a.eval m) (a.eval y) (a.eval v)) ?_ J (hn _ _ σ' M R (.no .nil));unfold execOp;rcases hop with hop|hop<;>rw[hop]
theorem Zj1 (G:Bl E) (I:E.P=P) (z:Inv B w0 σ H w) (C:Ci E σ w) (D:AL σ w s a.tmps.toList) {t:TypeId} {y i:Operand} {ok:Bool} (hop:o.op = .lookup t y i ok):FD P E B w0 call σ k H w s a o:=
 Kr (m:=Instr.lookup t (a.eval y) (a.eval i) ok) z (by unfold execOp;rw[hop]) (by unfold BI;rw[hop]) (fun x J=>Zny G I z (Dp C D y) (Dp C D i) J)
theorem ZiU (J:Inv B w0 σ H w) (M:Ci E σ w) (Y:AL σ w s a.tmps.toList) {y:Operand} {i:Nat} (hop:o.op = .extract y i):FD P E B w0 call σ k H w s a o:=by
 intro x H' z next Q R
 unfold BI at z;rw[hop]at z;simp only at z;split at z
 ·rename_i vs hy;cases hb:vs[i]? with
  | none=>simp[hb]at z
  | some r=>
   simp only[hb,Option.map_some,Option.some.injEq,Prod.mk.injEq]at z;obtain⟨rfl,rfl⟩:=z;have C:=Dp M Y y;rw[hy]at C;have:∃ws,a.eval y = .tuple ws.toArray/\AL σ w vs ws:=by
    generalize a.eval y=q at C;cases C with
    | Ap I _=>exact⟨_,rfl,I⟩
   obtain⟨ws,D,G⟩:=this;obtain⟨u,hu,S⟩:=G.get hb;exact Gx (s:=Instr.extract (a.eval y) i) (by unfold execOp;rw[hop]) (by rw[D];simp[Instr.extract,hu]) (R _ w σ J (Ext.refl σ w) S)
 ·cases z
theorem Zhn (I:Inv B w0 σ H w) (z:Ci E σ w) (C:AL σ w s a.tmps.toList) {f:FuncId} {first caps:Array Operand} (hop:o.op = .makeFunc (.func f) first caps):FD P E B w0 call σ k H w s a o:=
 Kr (m:=Instr.makeFunc (.func f) (first.map a.eval) (caps.map a.eval)) (y:=some (.fn f (evs E s first) (evs E s caps))) I (by unfold execOp;rw[hop]) (by unfold BI;rw[hop];rfl)
  (fun x J=>by
   cases J;refine⟨.func (.func f) (first.map a.eval) (caps.map a.eval),rfl,?_⟩;have D:(first.toList.map a.eval).toArray=first.map a.eval:=by rw[<- Array.toList_map]
   have G:(caps.toList.map a.eval).toArray=caps.map a.eval:=by rw[<- Array.toList_map]
   rw[<- D,<- G];exact AL.fn (f:=f) (jC (a:=a) z C first.toList) (jC (a:=a) z C caps.toList) (xs:=[]) (vs:=[]) .nil)
theorem ZjM {P:Program} {f:FuncId} {fn:Func} (h:P.funcs[f]? = some fn) (z:(fn.name == "runtime.NumGoroutine")=false) (hb:fn.body.isNone=false) (args:Array Value) (w:World) :
  (callFunc f args).run P w = .ok (.enter f args) w:=by
 unfold callFunc;rw[Sem.run_bind];have C:(Go.program).run P w = .ok P w:=rfl;rw[C];simp only[Result.andThen_ok,h,z,hb,Bool.false_eq_true,if_false];rfl
theorem ZgB (D:JX P E B w0 call) (hI:Inv B w0 σ H w) (S:Ci E σ w) (hs:AL σ w s a.tmps.toList) {c:Call} {f:Operand} (hop:o.op = .call c) (hc:c.callee = .value f):FD P E B w0 call σ k H w s a o:=by
 intro x H' I next Q hn
 unfold BI at I;rw[hop]at I;simp only[hc]at I;split at I
 ·rename_i g first caps hf
  have Y:=Dp S hs f;rw[hf]at Y;have:∃us ws,a.eval f = .func (.func g) us.toArray ws.toArray/\AL σ w first us/\AL σ w caps ws:=by
   generalize a.eval f=q at Y;cases Y with
   | fn h1 h2 _=>grind
  obtain⟨us,ws,e1,r1,r2⟩:=this;have r3:=jC (a:=a) S hs c.args.toList;obtain⟨⟨fn,R,C,G⟩,z⟩:=D g _ H x H' σ w _ I hI S ((r1.append r3).append r2);have J:(execOp a.eval o).run P w = .ok (.enter g (us++c.args.toList.map a.eval++ws).toArray) w:=by
   have M:us.toArray++c.args.map a.eval++ws.toArray=(us++c.args.toList.map a.eval++ws).toArray:=by
    rw[<- Array.toList_map];simp
   have he:execOp a.eval o=callFunc g (us.toArray++c.args.map a.eval++ws.toArray):=by
    unfold execOp;rw[hop];simp[resolve,hc,e1,Deferred.ofValue,invoke]
   rw[he,M];exact ZjM R G C _ w
  unfold Oper.wp;rw[J,Oper.upon_enter];refine z.mono ?_
  grind
 ·cases I
theorem ZmG (h:Inv B w0 σ H w) {x:V} {v:Value} {n:Nat} (C:AL σ w [x] [v]) (z:lenOf H x=some n):n<=maxLen:=by
 unfold lenOf at z;split at z
 ·simp only[Option.some.injEq]at z;subst z;cases C with
  | EI _=>exact Nat.zero_le _
  | Et a _=>exact Nat.zero_le _
  | sl b o c e k0 k1 k2 k3 k4 k5 k6 k7=>grind
 ·simp only[Option.some.injEq]at z;subst z;cases C with
  | Fh _=>exact Nat.zero_le _
  | GM a _=>exact Nat.zero_le _
  | CE b o e k0 k1 k2 k3 k4 k5 k6=>exact k4
 ·rename_i id off len tot;split at z
  ·rename_i b hb;simp only[Option.some.injEq]at z;subst z;obtain⟨L,us,m,J,I,M,G⟩:=MQ h C hb
   grind
  ·cases z
 ·rename_i s;simp only[Option.some.injEq]at z;subst z;cases C with
  | lit D _=>simpa[leaf]using D
 ·cases z
theorem Z94 (z:Bool) {b:Builtin} (R:Inv B w0 σ H w) {c:Call} (hop:o.op = .call c) (hc:c.callee = .builtin b) {xs:List V} {vs:List Value} (hr:AL σ w xs vs) (D:c.args.map a.eval=vs.toArray)
  (hb:b=if z then .max else .min) {x:V} {H' : Heap} (hm:(PS z xs).map (·,H)=some (x,H')) {next:Act->World->Prop} {Q:Exit->Act->World->Prop}
  (S:∀u w' σ',Inv B w0 σ' H' w' -> Ext σ w σ' w' -> AL σ' w' [x] [u]->next (a.put o.dst u) w'):o.wp P a w next Q:=by
 cases C : PS z xs with
 | none=>simp[C]at hm
 | some y=>
  simp only[C,Option.map_some,Option.some.injEq,Prod.mk.injEq]at hm;obtain⟨rfl,rfl⟩:=hm;unfold PS at C;split at C
  ·rename_i k n Y;obtain⟨v,J,rfl,h1,h2⟩:=hr.Bd;have G:leaf (.int k n)=true/\v = .int k n:=by cases h1 with|lit l _=>exact⟨l,rfl⟩
   obtain⟨G,rfl⟩:=G;obtain⟨u,M,I⟩:=Z1i (P:=P) z h2 G C;cases z
   ·simp only[Bool.false_eq_true,if_false]at hb M;subst hb;exact Gx (s:=Builtin.min_ c.argTypes o.type (Value.int k n::J).toArray) (by unfold execOp;rw[hop];simp only[resolve,hc,D];rfl) (by simpa[Builtin.min_]using M) (S _ w σ R (Ext.refl σ w) I)
   ·simp only[if_true]at hb M;subst hb;exact Gx (s:=Builtin.max_ c.argTypes o.type (Value.int k n::J).toArray) (by unfold execOp;rw[hop];simp only[resolve,hc,D];rfl) (by simpa[Builtin.max_]using M) (S _ w σ R (Ext.refl σ w) I)
  ·cases C
theorem Zf7 (hE:Bl E) (hP:E.P=P) (hk0:Eg H k=true) (J:Inv B w0 σ H w) (hg:Ci E σ w) (hs:AL σ w s a.tmps.toList) {c:Call} {b:Builtin} (hop:o.op = .call c) (hc:c.callee = .builtin b):FD P E B w0 call σ k H w s a o:=by
 intro x H' C next Q hn
 unfold BI at C;rw[hop]at C;simp only[hc]at C;have S:=jC (a:=a) hg hs c.args.toList;have z:c.args.map a.eval=(c.args.toList.map a.eval).toArray:=by rw[<- Array.toList_map]
 unfold evs at C;generalize c.args.toList.map (ev E s)=xs at C S;generalize hvs:c.args.toList.map a.eval=vs at S z;generalize htys:c.argTypes.toList=tys at C;have D : c.argTypes=tys.toArray:=by rw[<- htys]
 unfold Kw at C;split at C
 ·rename_i x0 t;obtain⟨v,Y,rfl,I,R⟩:=S.Bd;cases R.Dx;split at C
  ·rename_i G;cases hl:lenOf H x0 with
   | none=>simp[hl]at C
   | some n=>
    simp only[hl]at C;cases C;have hlen:(Builtin.len_ #[t] o.type #[v]).run P w = .ok (.int .i64 n) w:=by
     unfold jO at G;split at G
     ·rename_i st;have:=hE.isStr _ G;rw[hP]at this;exact ZaA J I hl this (.inr rfl) ⟨fun⟨e,he⟩=>(by cases he),fun hh=>absurd rfl (hh st)⟩
     ·rename_i hne;split at G
      ·rename_i e sz by' z0 hti;obtain⟨inf,d,hi,M,q1,q2,q3,q4⟩:=Eo (hE.ti _ _ hti);rw[hP]at M;exact ZaA J I hl M (.inl ⟨e,MN q1⟩) ⟨fun _=>hne,fun _=>⟨e,MN q1⟩⟩
      ·cases G
    have hbd:=hlen;have hlf:leaf (.int .i64 (n:Int))=true:=by
     have:=ZmG J I hl;have:(Lit.int .i64 (n:Int)).wf=true:=by
      simp[Lit.wf,IntKind.min,IntKind.max,IntKind.signed,IntKind.bits,maxLen]at this ⊢;omega
     simpa[leaf]using this
    exact Gx (s:=Builtin.len_ #[t] o.type #[v]) (by unfold execOp;rw[hop];simp only[resolve,hc,z,D];rfl) hlen (hn _ w σ J (Ext.refl σ w) (.lit hlf .nil))
  ·cases C
 ·rename_i s0 x0 t u;obtain⟨v,Y,rfl,I,R⟩:=S.Bd;obtain⟨v2,vs2,rfl,h3,h4⟩:=R.Bd;cases h4.Dx;obtain⟨u',w',σ',hu,i1,i2,i3⟩:=Zn5 (P:=P) hE hP J hk0 o.type I h3 C;exact Gx (s:=Builtin.append_ #[t,u] o.type #[v,v2]) (by unfold execOp;rw[hop];simp only[resolve,hc,z,D];rfl) hu (hn _ w' σ' i1 i2 i3)
 ·rename_i d0 x0 t u;obtain⟨v,Y,rfl,I,R⟩:=S.Bd;obtain⟨v2,vs2,rfl,h3,h4⟩:=R.Bd;cases h4.Dx;obtain⟨u',w',σ',hu,i1,i2,i3⟩:=Zqw (P:=P) hE hP J o.type I h3 C;exact Gx (s:=Builtin.copy_ #[t,u] o.type #[v,v2]) (by unfold execOp;rw[hop];simp only[resolve,hc,z,D];rfl) hu (hn _ w' σ' i1 i2 i3)
 ·rename_i m0 x0 t u;obtain⟨v,Y,rfl,I,R⟩:=S.Bd;obtain⟨v2,vs2,rfl,h3,h4⟩:=R.Bd;cases h4.Dx;cases M:Qp E H t m0 x0 Lh with
  | none=>simp[M]at C
  | some H1=>
   simp only[M,Option.map_some,Option.some.injEq,Prod.mk.injEq]at C;obtain⟨rfl,rfl⟩:=C;obtain⟨w',g1,g2,g3⟩:=ZmF (P:=P) hE hP J (u:=u) (ty:=o.type) I h3 M;exact Gx (s:=Builtin.delete_ #[t,u] o.type #[v,v2]) (by unfold execOp;rw[hop];simp only[resolve,hc,z,D];rfl) g1 (hn _ w' σ g2 g3 (.Ap .nil .nil))
 ·rename_i x0 t;obtain⟨v,Y,rfl,I,R⟩:=S.Bd;cases R.Dx;cases M:VU E H t x0 with
  | none=>simp[M]at C
  | some H1=>
   simp only[M,Option.map_some,Option.some.injEq,Prod.mk.injEq]at C;obtain⟨rfl,rfl⟩:=C;obtain⟨w',σ',g1,g2,g3⟩:=Zog (P:=P) hE hP J o.type I M;exact Gx (s:=Builtin.clear_ #[t] o.type #[v]) (by unfold execOp;rw[hop];simp only[resolve,hc,z,D];rfl) g1 (hn _ w' σ' g2 g3 (.Ap .nil .nil))
 ·rename_i tys0;exact Z94 false J hop hc S z rfl (by simpa using C) hn
 ·exact Z94 true J hop hc S z rfl (by simpa using C) hn
 ·cases C
end
theorem Zoq {E B w0 σ H w} {P:Program} (I:Bl E) (J:E.P=P) {call:CV} (R:JX P E B w0 call) (C:Inv B w0 σ H w) (D:Ci E σ w) {k:Nat} (M:Eg H k=true) {s:List V} {a:Act} (G:AL σ w s a.tmps.toList)
  (o:Oper):FD P E B w0 call σ k H w s a o:=by
 cases hop:o.op with
 | move y=>exact Zlw C D G hop
 | assign y=>exact Zj8 M C D G hop
 | pick c y z=>exact Zm5 C D G hop
 | alloc t=>exact Zks I J M C hop
 | box t y=>exact ZnP M C D G hop
 | build t S=>exact Zkz I J C D G hop
 | buildSlice t n S=>exact Zg4 I J M C D G hop
 | load t y=>exact Zle I J C D G hop
 | store t y z=>exact ZjZ I J C D G hop
 | nilCheck y=>exact ZhK C D G hop
 | binOp op t y z yt=>exact Zkq I J C D G hop
 | unOp op t y=>exact Zlq C D G hop
 | convert src dst y=>exact Zim I J M C D G hop
 | makeSlice t l c=>exact ZgX I J M C D G hop
 | slice t y lo hi Y=>exact Zkt I J C D G hop
 | sliceToArrayPointer t y=>exact Zno I J C D G hop
 | fieldAddr t y f=>exact Zgw I J C D G hop
 | field t y f=>exact Zk9 I J C D G hop
 | indexAddr t y i=>exact Zgu I J C D G hop
 | index t y i=>exact ZkI I J C D G hop
 | extract y i=>exact ZiU C D G hop
 | lookup t y i ok=>exact Zj1 I J C D G hop
 | makeMap t r=>exact ZhU I J M C D G hop
 | mapUpdate t m y v=>exact Z6E I J C D G (.inl hop)
 | insert t m y v=>exact Z6E I J C D G (.inr hop)
 | makeFunc fn first caps=>
  cases fn with
  | func f=>exact Zhn C D G hop
  | _=>intro x H' Q;unfold BI at Q;rw[hop]at Q;cases Q
 | call c=>
  cases hc:c.callee with
  | value f=>exact ZgB R C D G hop hc
  | builtin b=>exact Zf7 I J M C D G hop hc
  | _=>intro x H' Q;unfold BI at Q;rw[hop]at Q;simp only[hc]at Q;cases Q
 | _=>intro x H' Q;unfold BI at Q;rw[hop]at Q;cases Q
end Go.Proofs.YteinepnbndegdaaGreat.Le
namespace Go.Proofs.YteinepnbndegdaaGreat.Le
open Go.RowKit (Below)
structure EK (E:Env) (B:Nat) (w0:Start) (σ:Sg) (st:St) (a:Act) (w:World):Prop where
 inv:Inv B w0 σ st.H w
 D5:Ci E σ w
 slots:AL σ w st.s a.tmps.toList
 calm:a.defers=[]
theorem iO {σ w s x u} {a:Act} (h:AL σ w s a.tmps.toList) (z:AL σ w [x] [u]) (d:Option Tmp):AL σ w (setSlot s d x) (a.put d u).tmps.toList:=by
 cases d with
 | none=>exact h
 | some d=>
  simp only[setSlot,Act.put,Array.toList_setIfInBounds];exact h.set d z
theorem jE {a:Act} (h:a.defers=[]) (d:Option Tmp) (u:Value):(a.put d u).defers=[]:=by
 cases d<;>exact h
theorem Zoo {σ w s} {a:Act} {ops:Array Oper} (h:AL σ w s a.tmps.toList) {j d:Nat} {C r:Bool} (Q:(ops[j]?).bind (·.dst)=some d) (D:JD (s.getD d .und) C=some r) :
  (yielded ops a.tmps j==some C)=r:=by
 unfold yielded;rw[Q];have z:∀x,s.getD d .und=x->x≠.und->∃v,a.tmps[d]? = some v/\AL σ w [x] [v]:=by
  intro x M R;cases J:s[d]? with
  | none=>simp_all
  | some y=>
   simp[List.getD,J]at M;subst M;obtain⟨v,I,G⟩:=h.get J
   simp_all
 unfold JD at D;split at D
 ·rename_i b hb;obtain⟨v,I,G⟩:=z _ hb (by simp);simp only[Option.some.injEq]at D;have:v = .bool b:=by cases G;rfl
  simp_all
 ·rename_i hb;obtain⟨v,I,G⟩:=z _ hb (by simp);simp only[Option.some.injEq]at D;have:v=undef:=by cases G;rfl
  subst this;simp only[Option.bind_some,I];rw[<- D];rfl
 ·cases D
section
variable {E:Env} {B:Nat} {w0:Start} {σ:Sg} {P:Program} {call:CV} {ops:Array Oper} {st st' : St} {a:Act} {w:World}
theorem Z8E (hE:Bl E) (hP:E.P=P) (D:JX P E B w0 call) {k i:Nat} (hk:Eg st.H k=true) (h:EK E B w0 σ st a w) (G:JC call E ops k i st=some st')
  {K:Act->World->Prop} {Q:Exit->Act->World->Prop} (S:∀a' w' σ',EK E B w0 σ' st' a' w' -> Ext σ w σ' w' -> K a' w'):wpOp P ops Q i K a w:=by
 unfold JC at G;unfold wpOp;cases ho:ops[i]? with
 | none=>
  simp only[ho,Option.some.injEq]at G ⊢;subst G;exact S a w σ h (Ext.refl σ w)
 | some o=>
  simp only[ho]at G ⊢;have hop:∀x H',BI call E k st.H st.s o=some (x,H')->st' = ⟨setSlot st.s o.dst x,H'⟩->o.wp P a w K Q:=by
   intro x H' hx C;refine Zoq hE hP D h.inv h.D5 hk h.slots o x H' hx K Q (fun u w' σ' h1 J h3=>S _ w' σ' ⟨?_,h.D5.ext J,?_,jE h.calm _ _⟩ J)
   ·rw[C];exact h1
   ·rw[C];exact iO (h.slots.ext J) h3 o.dst
  have Y:st' = ⟨setSlot st.s o.dst DT,st.H⟩->K (a.put o.dst undef) w:=by
   intro C;refine S _ w σ ⟨by rw[C];exact h.inv,h.D5,?_,jE h.calm _ _⟩ (Ext.refl σ w);rw[C];exact iO h.slots (.no .nil) o.dst
  cases z:Di call E ops k o st with
  | none=>simp[z]at G
  | some r=>
   obtain⟨v,H'⟩:=r;simp only[z,Option.some.injEq]at G;unfold Di at z;unfold Region.wanted;cases R:o.guard with
   | none=>
    simp_all
   | some jw=>
    obtain⟨j,I⟩:=jw;simp only[R]at z ⊢;cases M:(ops[j]?).bind (·.dst) with
    | none=>simp[M]at z
    | some d=>
     simp only[M]at z;cases hg:JD (st.s.getD d .und) I with
     | none=>simp_all
     | some r=>
      rw[hg]at z;simp only[Zoo h.slots M hg]
      grind
theorem Zan (hE:Bl E) (hP:E.P=P) (z:JX P E B w0 call):∀(G:List Nat) (st:St) (σ:Sg) (a:Act) (w:World),EK E B w0 σ st a w->Jt call E ops G st=some st' ->
  ∀{Q:Exit->Act->World->Prop},(∀D w' σ',EK E B w0 σ' st' D w' -> Ext σ w σ' w' -> Q .normal D w')->wpOps P ops Q G a w:=by
 intro G;induction G with
 | nil=>
  intro st σ a w h C Q M;simp only[Jt,Option.some.injEq]at C;subst C;exact M a w σ h (Ext.refl σ w)
 | cons i rest ih=>
  intro st σ a w h C Q M;simp only[Jt]at C;cases I:stepD call E ops i st with
  | none=>simp[I]at C
  | some S=>
   simp only[I]at C;rw[wpOps_cons];exact Z8E hE hP z (XY st.H) h I (fun a1 w1 Y R J=>ih S Y a1 w1 R C (fun D w' σ' hr he=>M D w' σ' hr (J.trans he)))
end
end Go.Proofs.YteinepnbndegdaaGreat.Le
namespace Go.Proofs.YteinepnbndegdaaGreat.Le
open Go.RowKit (Below)
theorem getD_set_ne' {s:List V} {d t:Nat} (h:d≠t) (v u:V):(s.set d v).getD t u=s.getD t u:=by
 simp_all
theorem kQ {E:Env} {s:List V} {d:Option Tmp} {v:V} (x:Operand) (h:∀z,d=some z -> x≠.tmp z):ev E (setSlot s d v) x=ev E s x:=by
 cases d with
 | none=>rfl
 | some d=>
  cases x with
  | tmp t=>exact getD_set_ne' (fun e=>h d rfl (by rw[e])) v .und
  | _=>rfl
theorem xM {E:Env} {s z : List V} (xs:List Operand) (h:∀x∈xs,ev E s x=ev E z x):xs.map (ev E s)=xs.map (ev E z):=List.map_congr_left h
theorem Z6P {E:Env} {s z : List V} (ps:Array (Nat×Operand)) (h:∀x∈(ps.toList.map (·.2)).toArray,ev E s x=ev E z x) :
  (ps.toList.map fun(i,x)=>(i,ev E s x))=(ps.toList.map fun(i,x)=>(i,ev E z x)):=List.map_congr_left fun p C=>by
 grind
theorem ZnH {call:CV} {E:Env} {k:Nat} {H:Heap} {s C : List V} {o:Oper} (h:∀x∈o.op.operands,ev E s x=ev E C x):BI call E k H s o=BI call E k H C o:=by
 obtain⟨dst,op,type,pos,after,guard⟩:=o;simp only at h;cases op<;>simp only[Op.operands]at h<;>simp only[BI]
 case assign x=>
  have z:ev E s x=ev E C x:=h x (by simp);split<;>simp_all
 case makeMap t r=>cases r<;>simp_all
 case build t ps=>rw[Z6P ps h]
 case buildSlice t n ps=>rw[Z6P ps h]
 case makeFunc fn first captured=>
  have D:evs E s first=evs E C first:=xM _ fun x z=>h x (by simp at z;simp[z])
  have M:evs E s captured=evs E C captured:=xM _ fun x z=>h x (by simp at z;simp[z]);cases fn<;>simp only[D,M]
 case call c=>
  have D:evs E s c.args=evs E C c.args:=xM _ fun x z=>h x (by simp at z;simp[Call.operands,z]);rw[D];cases hc:c.callee with
  | value f=>have Q:ev E s f=ev E C f:=h f (by simp[Call.operands,hc]);simp only[Q]
  | builtin b=>cases b<;>rfl
  | invoke r n=>rfl
 case slice t x lo hi mx=>
  have z:ev E s x=ev E C x:=h x (by simp);have I:lo.map (ev E s)=lo.map (ev E C):=by cases lo<;>simp_all
  have G:hi.map (ev E s)=hi.map (ev E C):=by cases hi<;>simp_all
  have J:mx.map (ev E s)=mx.map (ev E C):=by cases mx<;>simp_all
  rw[z,I,G,J]
 all_goals simp_all
theorem jB {ops:Array Oper} {o:Oper} {d:Tmp} (h:d∉o.looksAt ops):∀x∈o.op.operands,x≠.tmp d:=fun x z e=>h (by
 subst e;exact List.mem_append_left _ (List.mem_filterMap.2 ⟨.tmp d,by simpa using z,rfl⟩))
theorem Z9G {call:CV} {E:Env} {k:Nat} {H:Heap} {s:List V} {o:Oper} {ops:Array Oper} {d:Option Tmp} {v:V} (h:∀z,d=some z -> z ∉o.looksAt ops) :
  BI call E k H (setSlot s d v) o=BI call E k H s o:=
 ZnH fun x D=>kQ x fun z C=>jB (h z C) x D
theorem iP {E:Env} {s:List V} {o:Oper} {ops:Array Oper} {d:Option Tmp} {v:V} (h:∀z,d=some z -> z ∉o.looksAt ops):DR E (setSlot s d v) o=DR E s o:=by
 unfold DR;rw[<- List.flatMap_map,<- List.flatMap_map (f:=ev E s)];congr 1;exact List.map_congr_left fun x D=>kQ x fun z C=>jB (h z C) x (by simpa using D)
theorem Z6L {E:Env} {s:List V} {o:Oper} {ops:Array Oper} {d:Option Tmp} {v:V} (h:∀C,d=some C -> C ∉o.looksAt ops):quietAt E (setSlot s d v) o=quietAt E s o:=by
 unfold quietAt;cases hop:o.op with
 | call c=>
  simp only;cases z:c.callee with
  | value f=>
   cases f with
   | tmp t=>
    have G:Operand.tmp t∈o.op.operands:=by simp[hop,Op.operands,Call.operands,z]
    have:=kQ (E:=E) (s:=s) (v:=v) (.tmp t) fun C D=>jB (h C D) _ G;simp only[show (setSlot s d v).getD t .und=s.getD t .und from this]
   | _=>rfl
  | _=>rfl
 | _=>rfl
theorem Z9k {call:CV} {E:Env} {k:Nat} {H:Heap} {s:List V} {o:Oper} {ops:Array Oper} {d:Option Tmp} {v:V} (h:∀z,d=some z -> z ∉o.looksAt ops) :
  Di call E ops k o ⟨setSlot s d v,H⟩=Di call E ops k o ⟨s,H⟩:=by
 unfold Di;cases J:o.guard with
 | none=>exact Z9G h
 | some M=>
  obtain⟨j,G⟩:=M;simp only;cases I:(ops[j]?).bind (·.dst) with
  | none=>rfl
  | some g=>
   have D:∀z,d=some z -> z ≠g:=fun z C e=>h z C (by
    subst e;exact List.mem_append_right _ (by simp[J,I]))
   have:(setSlot s d v).getD g .und=s.getD g .und:=by
    cases d with
    | none=>rfl
    | some d=>exact getD_set_ne' (D d rfl) v .und
   simp only[this];rw[Z9G h]
def Box.low (b:Box):Box:={ b with floor:=0 }
def CW (R:List Nat) (H H' : Heap):Prop:=∀id∈R,(H[id]?).map Box.low=(H'[id]?).map Box.low
theorem PG {H H' : Heap} {id tot:Nat} {b:Box} (h:(H[id]?).map Box.low=(H'[id]?).map Box.low) (hb:Cc H id tot=some b):∃z,Cc H' id tot=some z /\ z.low=b.low:=by
 unfold Cc at *;cases C:H[id]? with
 | none=>simp[C]at hb
 | some b0=>
  simp only[C]at hb h;cases D:H'[id]? with
  | none=>simp[D]at h
  | some b1=>
   simp only[D,Option.map_some,Option.some.injEq]at h;split at hb
   ·rename_i hc;simp only[Option.some.injEq]at hb;subst hb;refine⟨b1,?_,h.symm⟩;have G:b1.live=b0.live:=(congrArg Box.live h).symm;have I:b1.xs=b0.xs:=(congrArg Box.xs h).symm;simp only[G,I,hc,if_true]
   ·cases hb
theorem QX {b z : Box} (h:z.low=b.low):z.row=b.row/\z.Dc=b.Dc/\z.elem=b.elem/\z.Ag=b.Ag/\z.xs=b.xs:=
 ⟨congrArg (·.row) h,congrArg (·.Dc) h,congrArg (·.elem) h,congrArg (·.Ag) h,congrArg (·.xs) h⟩
theorem RY {H H' : Heap} {id tot:Nat} (h:(H[id]?).map Box.low=(H'[id]?).map Box.low) (hb:Cc H id tot=none):Cc H' id tot=none:=by
 cases z : Cc H' id tot with
 | none=>rfl
 | some b=>
  obtain⟨C,D,_⟩:=PG h.symm z
  simp_all
section
variable {H H' : Heap}
theorem ZN {x:V} (h:CW (Dh x) H H'):F9 H' x=F9 H x:=by
 unfold F9;split<;>try rfl
 rename_i id off len tot;cases hb:Cc H id tot with
 | none=>rw[RY (h id (by simp[Dh])) hb]
 | some b=>
  obtain⟨C,Q,z⟩:=PG (h id (by simp[Dh])) hb;obtain⟨D,G,I,J,M⟩:=QX z
  simp_all
theorem Zoj {xs:List V} (h:CW (xs.flatMap Dh) H H'):J8 H' xs=J8 H xs:=by
 induction xs with
 | nil=>rfl
 | cons x xs z=>
  simp only[J8];rw[ZN (fun i hi=>h i (by simp[hi])),z (fun i hi=>h i (by rw[List.flatMap_cons];exact List.mem_append_right _ hi))]
theorem Z9A {x:V} (h:CW (CJ x) H H'):H9 H' x=H9 H x:=by
 unfold H9;split
 ·rw[Zoj (by simpa[CJ]using h)]
 ·rename_i z;refine ZN (fun i hi=>h i ?_);cases x with
  | fn f a b=>simp[Dh]at hi
  | agg cs=>simp_all
  | _=>exact hi
theorem zY {xs:List V} (h:CW (xs.flatMap CJ) H H'):FC H' xs=FC H xs:=by
 induction xs with
 | nil=>rfl
 | cons x xs z=>
  simp only[FC];rw[Z9A (fun i hi=>h i (by simp[hi])),z (fun i hi=>h i (by rw[List.flatMap_cons];exact List.mem_append_right _ hi))]
theorem Zz {x:V} (h:CW (CJ x) H H'):lenOf H' x=lenOf H x:=by
 unfold lenOf;split<;>try rfl
 rename_i id off len tot;cases hb:Cc H id tot with
 | none=>rw[RY (h id (by simp[CJ,Dh])) hb]
 | some b=>
  obtain⟨C,z,D⟩:=PG (h id (by simp[CJ,Dh])) hb;simp only[z]
theorem fV {x:V} (h:CW (CJ x) H H'):elemsOf H' x=elemsOf H x:=by
 unfold elemsOf;split<;>try rfl
 rename_i id off len tot;cases hb:Cc H id tot with
 | none=>rw[RY (h id (by simp[CJ,Dh])) hb]
 | some b=>
  obtain⟨I,D,G⟩:=PG (h id (by simp[CJ,Dh])) hb;obtain⟨z,J,M,Q,C⟩:=QX G;simp only[D,z,C]
theorem iU {x:V} {n:Nat} (h:CW (CJ x) H H'):EW H' x n=EW H x n:=by
 unfold EW;split<;>try rfl
 rename_i id off len tot;cases hb:Cc H id tot with
 | none=>rw[RY (h id (by simp[CJ,Dh])) hb]
 | some b=>
  obtain⟨G,C,D⟩:=PG (h id (by simp[CJ,Dh])) hb;obtain⟨I,J,M,z,Q⟩:=QX D;simp only[C,z]
theorem Z8q {E:Env} {t:TypeId} {a:V} (h:CW (CJ a) H H'):LP E H' t a=LP E H t a:=by
 unfold LP;split
 ·rfl
 ·split<;>try rfl
  rename_i id j off tot;cases hb:Cc H id tot with
  | none=>rw[RY (h id (by simp[CJ,Dh])) hb]
  | some b=>
   obtain⟨G,C,D⟩:=PG (h id (by simp[CJ,Dh])) hb;obtain⟨I,J,M,Q,z⟩:=QX D;simp only[C,z]
theorem Zhz {E:Env} {t:TypeId} {x i:V} (h:CW (CJ x) H H'):Ol E H' t x i=Ol E H t x i:=by
 unfold Ol;split<;>try rfl
 split<;>try rfl
 rename_i id off len tot G;cases hb:Cc H id tot with
 | none=>rw[RY (h id (by simp[CJ,Dh])) hb]
 | some b=>
  obtain⟨I,C,D⟩:=PG (h id (by simp[CJ,Dh])) hb;obtain⟨J,M,Q,z,R⟩:=QX D;simp only[C,z]
theorem Z5K {E:Env} {t:TypeId} {x:V} (h:CW (CJ x) H H'):PD E H' t x=PD E H t x:=by
 unfold PD;split<;>try rfl
 split<;>try rfl
 split<;>try rfl
 rw[iU h]
end
def eff (ids:List Nat) (nb:Option Box) (k:Nat) (H:Heap):Heap:=
 match nb with
 | none=>bump H ids
 | some b=>place (bump H ids) k b
def lI (E:Env) (call:CV):Prop:=
 ∀f,Qo E f=true->∀args H v H1,call f args H=some (v,H1) ->
  H1=bump H (args.flatMap DC)/\∀H',CW (args.flatMap CJ) H H' -> call f args H' = some (v,bump H' (args.flatMap DC))
def lS (E:Env) (call:CV):Prop:=
 ∀f,Qd E f=true->∀args H v H1,call f args H=some (v,H1) ->
  ∃ids z,(∀i∈ids,i∈args.flatMap CJ)/\H1=bump H ids++z/\∀H',H'.length=H.length->CW (args.flatMap CJ) H H' -> call f args H' = some (v,bump H' ids++z)
def nC (E:Env) (call:CV):Prop:=
 ∀f,Qo E f=false->Qd E f=false->OM E f=true->∀args H v H1 n b0 b,call f args H=some (v,H1)->H[n]? = some b0->b0.row=false->b.row=false ->
  H1[n]? = some b0/\call f args (H.set n b)=some (v,H1.set n b)
def NG (call:CV):Prop:=∀f args H r H',call f args H=some (r,H')->H.length<=H'.length
structure Nr (E:Env) (call:CV):Prop where
 pure:lI E call
 free:lS E call
 row:nC E call
 len:NG call
theorem Jg (H:Heap) (k:Nat) (b:Box):H.length<=(place H k b).length:=by
 unfold place;split<;>simp
theorem Zm3 {E:Env} {H H' : Heap} {t:TypeId} {a v:V} (h:J3 E H t a v=some H'):H.length<=H'.length:=by
 unfold J3 at h
 repeat' split at h
 all_goals first
  | (cases h;done)
  | (simp only[Option.some.injEq]at h;obtain⟨_,rfl⟩:=h;simp[bump_length];done)
  | (simp only[Option.some.injEq]at h;subst h;simp[bump_length,Jg];done)
theorem ZkJ {E:Env} {k:Nat} {H H' : Heap} {t u:TypeId} {s x r:V} (h:IP E k H t u s x=some (r,H')):H.length<=H'.length:=by
 unfold IP at h
 repeat' split at h
 all_goals first
  | (cases h;done)
  | (simp only[Option.some.injEq,Prod.mk.injEq]at h;obtain⟨_,rfl⟩:=h;simp[Jg];done)
  | (simp only[Option.some.injEq]at h;subst h;simp[bump_length,Jg];done)
theorem Zms {E:Env} {H H' : Heap} {t u:TypeId} {d x r:V} (h:S9 E H t u d x=some (r,H')):H.length<=H'.length:=by
 unfold S9 at h
 repeat' split at h
 all_goals first
  | (cases h;done)
  | (simp only[Option.some.injEq,Prod.mk.injEq]at h;obtain⟨_,rfl⟩:=h;simp;done)
  | (simp only[Option.some.injEq]at h;subst h;simp[bump_length,Jg];done)
theorem ZlC {E:Env} {H H' : Heap} {t:TypeId} {x:V} (h:VU E H t x=some H'):H.length<=H'.length:=by
 unfold VU at h
 repeat' split at h
 all_goals first
  | (cases h;done)
  | (simp only[Option.some.injEq]at h;subst h;simp;done)
theorem Z91 {E:Env} {H H' : Heap} {t:TypeId} {m x:V} {f} (h:Qp E H t m x f=some H'):H.length<=H'.length:=by
 unfold Qp at h
 repeat' split at h
 all_goals first
  | (cases h;done)
  | (obtain⟨xs,_,rfl⟩:=Option.map_eq_some_iff.1 h;simp)
theorem Z7i {E:Env} {H H' : Heap} {t:TypeId} {m x v:V} (h:Nz E H t m x v=some H'):H.length<=H'.length:=by
 unfold Nz at h;split at h
 ·split at h
  ·have:=Z91 h;rw[bump_length]at this;exact this
  ·cases h
 ·cases h
theorem Zgm {E:Env} {k n:Nat} {H H' : Heap} {t:TypeId} {ps:List (Nat×V)} {r:V} (h:MM E k H t n ps=some (r,H')):H.length<=H'.length:=by
 unfold MM at h
 repeat' split at h
 all_goals first
  | (cases h;done)
  | (simp only[Option.some.injEq,Prod.mk.injEq]at h;obtain⟨_,rfl⟩:=h;simp[bump_length,Jg];done)
  | (simp only[Option.some.injEq]at h;subst h;simp[bump_length,Jg];done)
  | (simp only[Option.some.injEq,Prod.mk.injEq]at h;obtain⟨_,rfl⟩:=h;refine Nat.le_trans ?_ (Jg _ _ _);rw[bump_length];exact Nat.le_refl _)
theorem ZmX {E:Env} {k:Nat} {H H' : Heap} {t:TypeId} {x r:V} (h:Jm E k H t x=some (r,H')):H.length<=H'.length:=by
 unfold Jm at h
 repeat' split at h
 all_goals first
  | (cases h;done)
  | (simp only[Option.some.injEq,Prod.mk.injEq]at h;obtain⟨_,rfl⟩:=h;simp[Jg];done)
  | (simp only[Option.some.injEq]at h;subst h;simp[bump_length,Jg];done)
theorem ZmU {E:Env} {H H' : Heap} {t u:TypeId} {x r:V} (h:Hl E H t u x=some (r,H')):H.length<=H'.length:=by
 unfold Hl at h
 repeat' split at h
 all_goals first
  | (cases h;done)
  | (simp only[Option.some.injEq,Prod.mk.injEq]at h;obtain⟨_,rfl⟩:=h;simp;done)
  | (simp only[Option.some.injEq]at h;subst h;simp[bump_length,Jg];done)
theorem ZkL {E:Env} {H H' : Heap} {n:Nat} {e:TypeId} {x r:V} {lo hi z:Option V} (h:LH E H n e x lo hi z=some (r,H')):H.length<=H'.length:=by
 unfold LH at h
 repeat' split at h
 all_goals first
  | (cases h;done)
  | (simp only[Option.some.injEq,Prod.mk.injEq]at h;obtain⟨_,rfl⟩:=h;simp[bump_length];done)
  | (simp only[Option.some.injEq]at h;subst h;simp[bump_length,Jg];done)
theorem ZkM {E:Env} {H H' : Heap} {t:TypeId} {x r:V} {lo hi z:Option V} (h:Ii E H t x lo hi z=some (r,H')):H.length<=H'.length:=by
 unfold Ii at h
 repeat' split at h
 all_goals first
  | (cases h;done)
  | (simp only[Option.some.injEq,Prod.mk.injEq]at h;obtain⟨_,rfl⟩:=h;simp[bump_length];done)
  | (simp only[Option.some.injEq]at h;subst h;simp[bump_length,Jg];done)
theorem Za5 {call:CV} {E:Env} (I:NG call) {k:Nat} {H H1:Heap} {s:List V} {o:Oper} {v:V} (h:BI call E k H s o=some (v,H1)):H.length<=H1.length:=by
 have J:=fun b=>Jg H k b;have fix:∀(y:Option V),y.map (·,H)=some (v,H1)->H.length<=H1.length:=fun y G=>by
  cases y with
  | none=>cases G
  | some y=>simp only[Option.map_some,Option.some.injEq,Prod.mk.injEq]at G;rw[<- G.2];exact Nat.le_refl _
 obtain⟨dst,op,type,pos,after,guard⟩:=o;cases op<;>simp only[BI]at h<;>try (cases h;done)
 case store t a x=>
  cases z:J3 E H t (ev E s a) (ev E s x) with
  | none=>simp[z]at h
  | some D=>simp only[z,Option.map_some,Option.some.injEq,Prod.mk.injEq]at h;rw[<- h.2];exact Zm3 z
 case mapUpdate t m x y=>
  cases z:Nz E H t (ev E s m) (ev E s x) (ev E s y) with
  | none=>simp[z]at h
  | some D=>simp only[z,Option.map_some,Option.some.injEq,Prod.mk.injEq]at h;rw[<- h.2];exact Z7i z
 case insert t m x y=>
  cases z:Nz E H t (ev E s m) (ev E s x) (ev E s y) with
  | none=>simp[z]at h
  | some D=>simp only[z,Option.map_some,Option.some.injEq,Prod.mk.injEq]at h;rw[<- h.2];exact Z7i z
 case buildSlice t n ps=>exact Zgm h
 case convert src dst2 x=>
  split at h
  ·exact ZmX h
  ·exact ZmU h
 case slice t x lo hi mx=>
  split at h
  ·exact ZkL h
  ·exact ZkM h
 case call c=>
  split at h
  ·unfold Kw at h;split at h
   ·split at h
    ·obtain⟨n,_,C⟩:=Option.map_eq_some_iff.1 h;simp only[Prod.mk.injEq]at C;rw[<- C.2];exact Nat.le_refl _
    ·cases h
   ·exact ZkJ h
   ·exact Zms h
   ·obtain⟨D,z,C⟩:=Option.map_eq_some_iff.1 h;simp only[Prod.mk.injEq]at C;rw[<- C.2];exact Z91 z
   ·obtain⟨D,z,C⟩:=Option.map_eq_some_iff.1 h;simp only[Prod.mk.injEq]at C;rw[<- C.2];exact ZlC z
   ·exact fix _ h
   ·exact fix _ h
   ·cases h
  ·split at h
   ·exact I _ _ _ _ _ h
   ·cases h
  ·cases h
 case makeMap t r=>cases r<;>grind
 case makeFunc fn first caps=>cases fn<;>grind
 all_goals first|exact fix _ h|grind
theorem Za {call:CV} {E:Env} (J:NG call) {ops:Array Oper} {k i:Nat} {st st' : St} (h:JC call E ops k i st=some st'):st.H.length<=st'.H.length:=by
 unfold JC at h;split at h
 ·cases h;exact Nat.le_refl _
 ·rename_i o _;cases z:Di call E ops k o st with
  | none=>simp[z]at h
  | some r=>
   obtain⟨v,H1⟩:=r;simp only[z,Option.some.injEq]at h;rw[<- h];unfold Di at z;cases I:o.guard with
   | none=>simp only[I]at z;exact Za5 J z
   | some M=>
    obtain⟨j,D⟩:=M;simp only[I]at z;cases G:(ops[j]?).bind (·.dst) with
    | none=>simp[G]at z
    | some d=>
     simp only[G]at z;cases C:JD (st.s.getD d .und) D with
     | none=>rw[C]at z;cases z
     | some r=>
      rw[C]at z;cases r with
      | true=>simp only at z;exact Za5 J z
      | false=>
       simp only[Option.some.injEq,Prod.mk.injEq]at z;rw[<- z.2];exact Nat.le_refl _
theorem Zn {call:CV} {E:Env} (z:NG call) {ops:Array Oper} {ms:List Nat} {lt:List (Nat×(Nat⊕Nat))} {s0:List V} {base m i:Nat} {st st' : St} (h:Gp call E ops ms lt s0 base m i st=some st'):st.H.length<=st'.H.length:=by
 unfold Gp at h;split at h
 ·cases h;exact Nat.le_refl _
 ·split at h
  ·split at h
   ·split at h
    ·split at h
     ·cases h
     ·exact Za z h
    ·cases h
   ·exact Za z h
  ·cases h
theorem ZnJ {E:Env} {f:FuncId} (h:Qd E f=true):OM E f=true:=by
 unfold Qd at h;unfold OM;simp only[Bool.and_eq_true]at h ⊢;refine⟨h.1,?_⟩;cases hh:E.hm f [] with
 | none=>rw[hh]at h;exact h.2
 | some z=>
  rw[hh]at h;have:z.fb=[]:=by simpa using h.2
  simp[this]
theorem Z8M {x:V} {i:Nat} (h:i∈Ec x):i∈Dh x:=by
 cases x<;>simp_all [Ec,Dh]
theorem Znk {x:V} {i:Nat} (h:i∈DC x):i∈CJ x:=by
 cases x with
 | agg cs=>
  simp only[DC,CJ,List.mem_flatMap]at *;obtain⟨c,hc,hi⟩:=h;exact⟨c,hc,Z8M hi⟩
 | _=>simp_all [DC,CJ,Ec,Dh]
theorem zV {xs:List V} {i:Nat} (h:i∈xs.flatMap DC):i∈xs.flatMap CJ:=by
 simp only[List.mem_flatMap]at *;obtain⟨c,hc,hi⟩:=h;exact⟨c,hc,Znk hi⟩
theorem Z0w {y:Option V} {H H1:Heap} {v:V} (h:y.map (·,H)=some (v,H1)):y=some v/\H1=H:=by
 cases y with
 | none=>cases h
 | some x=>simp_all
def Eff (call:CV) (E:Env) (k:Nat) (H:Heap) (s:List V) (o:Oper) (v:V) (H1:Heap):Prop:=
 ∃ids nb,(∀i∈ids,i∈DR E s o)/\(nb.isSome=true->BU E o = .a)/\H1=eff ids nb k H /\
  ∀H' k',(BU E o = .a->k' = k)->CW (DR E s o) H H' -> BI call E k' H' s o=some (v,eff ids nb k' H')
theorem Xg {call:CV} {E:Env} {k:Nat} {H H1:Heap} {s:List V} {o:Oper} {v:V} {y:Heap->Option V} (z:∀H k,BI call E k H s o=(y H).map (·,H))
  (h:BI call E k H s o=some (v,H1)) (I:∀H',CW (DR E s o) H H' -> y H' = y H):Eff call E k H s o v H1:=by
 rw[z]at h;obtain⟨C,D⟩:=Z0w h;exact⟨[],none,by simp,by simp,D,fun H' k' _ G=>by rw[z,I H' G,C];rfl⟩
theorem SB {E:Env} {s:List V} {o:Oper} {H H' : Heap} (h:CW (DR E s o) H H') {x:Operand} (z:x∈o.op.operands):CW (CJ (ev E s x)) H H' :=fun i hi=>
 h i (List.mem_flatMap.2 ⟨x,by simpa using z,hi⟩)
theorem Z1s {call:CV} {E:Env} {k:Nat} {H H1:Heap} {s:List V} {o:Oper} {v:V} (hc:BU E o = .s) (h:BI call E k H s o=some (v,H1)) :
  H1=H/\∀H' k',BI call E k' H' s o=some (v,H'):=by
 have key:∀y:Option V,(∀H k,BI call E k H s o=y.map (·,H))->H1=H/\∀H' k',BI call E k' H' s o=some (v,H'):=by
  intro y D;rw[D]at h;obtain⟨G,I⟩:=Z0w h;exact⟨I,fun H' k' =>by rw[D,G];rfl⟩
 obtain⟨dst,op,type,pos,after,guard⟩:=o;cases op<;>simp only[BU]at hc<;>try (cases hc;done)
 case convert=>grind
 case move x=>exact key (some (ev E s x)) (fun H k=>rfl)
 case pick c x y=>
  refine key (match ev E s c with | .lit (.bool t)=>some (if t then ev E s x else ev E s y)|_=>none) (fun H k=>?_);simp only[BI];split<;>simp_all
 case build t ps=>exact key (VP E t (ps.toList.map fun(i,x)=>(i,ev E s x))) (fun H k=>rfl)
 case binOp op t x y z=>exact key (Lj E op t (ev E s x) (ev E s y)) (fun H k=>rfl)
 case unOp op t x=>exact key (Yh op (ev E s x)) (fun H k=>rfl)
 case sliceToArrayPointer t x=>exact key (Vm E t (ev E s x)) (fun H k=>rfl)
 case field t x f=>exact key (V5 E t (ev E s x) f) (fun H k=>rfl)
 case fieldAddr t x f=>exact key (Ur E t (ev E s x) f) (fun H k=>rfl)
 case index t x i=>exact key (VX E t (ev E s x) (ev E s i)) (fun H k=>rfl)
 case nilCheck x=>
  refine key (match SA (ev E s x) with|some false=>some (ev E s x)|_=>none) (fun H k=>?_);simp only[BI];split<;>simp_all
 case extract x i=>
  refine key (match ev E s x with | .Ap vs=>vs[i]? | _=>none) (fun H k=>?_);simp only[BI];split<;>simp_all
 case makeFunc fn first caps=>
  cases fn with
  | func f=>exact key (some (.fn f (evs E s first) (evs E s caps))) (fun H k=>rfl)
  | _=>simp[BI]at h
 case assign x=>
  by_cases J:x = .const (.slice none 0 0)
  ·subst J;cases hc
  ·refine key (some (ev E s x)) (fun H k=>?_);unfold BI;split<;>simp_all
 case call c=>
  split at hc
  ·cases hc
  ·rename_i C;exact key (PS false (evs E s c.args)) (fun H k=>by simp only[BI,C];rfl)
  ·rename_i C;exact key (PS true (evs E s c.args)) (fun H k=>by simp only[BI,C];rfl)
  ·grind
  ·grind
  ·cases hc
theorem ZlA {E:Env} {H H' : Heap} {src dst:TypeId} {x r:V} (h:Hl E H src dst x=some (r,H')):H' = H:=by
 unfold Hl at h
 grind
theorem Z6J {E:Env} {H H' : Heap} {t:TypeId} {x r:V} {lo hi:Option V} (h:Ii E H t x lo hi none=some (r,H')):H' = H:=by
 unfold Ii at h
 grind
theorem Z09 {E:Env} {s:List V} {o:Oper} {c:Call} (hop:o.op = .call c) {H H' : Heap} (h:CW (DR E s o) H H'):CW ((evs E s c.args).flatMap CJ) H H' :=by
 intro i hi;simp only[evs,List.mem_flatMap,List.mem_map]at hi;obtain⟨v,⟨x,z,rfl⟩,hi⟩:=hi;refine h i (List.mem_flatMap.2 ⟨x,?_,hi⟩);simp at z;simp[hop,Op.operands,Call.operands,z]
theorem Zd {E:Env} {s:List V} {o:Oper} {c:Call} (hop:o.op = .call c) {i:Nat} (hi:i∈(evs E s c.args).flatMap CJ):i∈DR E s o:=by
 simp only[evs,List.mem_flatMap,List.mem_map]at hi;obtain⟨v,⟨x,z,rfl⟩,hi⟩:=hi;refine List.mem_flatMap.2 ⟨x,?_,hi⟩;simp at z;simp[hop,Op.operands,Call.operands,z]
theorem ZkR {E:Env} {s:List V} {o:Oper} {t:TypeId} {n:Nat} {ps:Array (Nat×Operand)} (hop:o.op = .buildSlice t n ps) {i:Nat}
  (hi:i∈((ps.toList.map fun(i,x)=>(i,ev E s x)).map (·.2)).flatMap CJ):i∈DR E s o:=by
 simp only[List.map_map,List.mem_flatMap,List.mem_map]at hi;obtain⟨v,⟨p,z,rfl⟩,hi⟩:=hi;refine List.mem_flatMap.2 ⟨p.2,?_,hi⟩;simp only[hop,Op.operands]
 grind
theorem ZrT {H H' : Heap} {id:Nat} (h:(H[id]?).map Box.low=(H'[id]?).map Box.low):(H'.getD id default).Ag=(H.getD id default).Ag:=by
 simp only[List.getD];cases z:H[id]? with
 | none=>grind
 | some b=>cases C:H'[id]? with
  | none=>simp[z,C]at h
  | some D =>
   simp only[z,C,Option.map_some,Option.some.injEq]at h;show D.Ag=b.Ag;exact(congrArg Box.Ag h).symm
theorem bump_nil (H:Heap):bump H []=H:=rfl
theorem Zlo {E:Env} {H H1:Heap} {t:TypeId} {x v:V} {lo hi M:Option V} (h:Ii E H t x lo hi M=some (v,H1)) :
  ∃ids,(∀i∈ids,i∈CJ x)/\H1=bump H ids/\∀H',CW (CJ x) H H' -> Ii E H' t x lo hi M=some (v,bump H' ids):=by
 cases M with
 | none=>
  have:=Z6J h;subst this;refine⟨[],by simp,(bump_nil _).symm,fun H' z=>?_⟩;rw[bump_nil];have e:(Ii E H' t x lo hi none).map (·.1)=(Ii E H1 t x lo hi none).map (·.1):=by
   simp only[Ii];rw[Z5K z,Zz z];split
   ·split
    ·rfl
    ·split
     ·rfl
     grind
   ·rfl
  cases hc:Ii E H' t x lo hi none with
  | none=>simp_all
  | some r=>
   obtain⟨r,S⟩:=r;have:=Z6J hc
   simp_all
 | some m=>
  simp only[Ii]at h ⊢;split at h
  ·rename_i Q;split at h
   ·cases h
   ·rename_i n R;split at h
    ·cases h
    ·rename_i hh G;split at h
     ·cases h
     ·rename_i l I;have key:∀H',CW (CJ x) H H' -> PD E H' t x=true/\lenOf H' x=some n/\elemsOf H' x=elemsOf H x:=fun H' z=>⟨by rw[Z5K z];exact Q,by rw[Zz z];exact R,fV z⟩;split at h
      ·rename_i k xs b e J D;split at h
       ·rename_i C;simp only[Option.some.injEq,Prod.mk.injEq]at h;obtain⟨rfl,rfl⟩:=h;refine⟨[],by simp,(bump_nil _).symm,fun H' z=>?_⟩;obtain⟨q1,q2,q3⟩:=key H' z;rw[if_pos q1,q2,bump_nil];simp only[G,I,J,q3,D,if_pos C]
       ·cases h
      ·rename_i k xs b e J D;split at h
       ·rename_i C;simp only[Option.some.injEq,Prod.mk.injEq]at h;obtain⟨rfl,rfl⟩:=h;refine⟨[],by simp,(bump_nil _).symm,fun H' z=>?_⟩;obtain⟨q1,q2,q3⟩:=key H' z;rw[if_pos q1,q2,bump_nil];simp only[G,I,J,q3,D,if_pos C]
       ·cases h
      ·rename_i k xs id off len tot J D;split at h
       ·rename_i C;simp only[Option.some.injEq,Prod.mk.injEq]at h;obtain⟨rfl,rfl⟩:=h;refine⟨[id],by simp[CJ,Dh],rfl,fun H' z=>?_⟩;obtain⟨q1,q2,q3⟩:=key H' z;rw[if_pos q1,q2];simp only[G,I,J,q3,D,if_pos C,ZrT (z id (by simp[CJ,Dh]))]
       ·cases h
      ·cases h
  ·cases h
theorem Zmc {E:Env} {H H1:Heap} {n:Nat} {e:TypeId} {x v:V} {lo hi C:Option V} (h:LH E H n e x lo hi C=some (v,H1)) :
  ∃ids,(∀i∈ids,i∈CJ x)/\H1=bump H ids/\∀H',CW (CJ x) H H' -> LH E H' n e x lo hi C=some (v,bump H' ids):=by
 unfold LH at h;split at h
 ·rename_i id i off tot m' G;cases hb:Cc H id tot with
  | none=>simp[hb]at h
  | some b=>
   simp only[hb]at h;split at h
   ·rename_i cs z J;split at h
    ·rename_i hc;simp only[Option.some.injEq,Prod.mk.injEq]at h;obtain⟨rfl,rfl⟩:=h;refine⟨[id],by simp[CJ,Dh],rfl,fun H' I=>?_⟩;obtain⟨M,h1,D⟩:=PG (I id (by simp[CJ,Dh])) hb;obtain⟨Q,R,S,Y,e5⟩:=QX D;unfold LH
     simp_all
    ·cases h
   ·cases h
 ·cases h
theorem Zoi {E:Env} {H:Heap} {t:TypeId} {ok:Bool} {m x r:V} (h:P5 E t ok m x=some r):Ph E H t ok m x=some r:=by
 unfold Ph;split
 ·rename_i id;unfold P5 at h;split at h<;>simp_all
 ·exact h
theorem ZnK {E:Env} {H H' : Heap} {t:TypeId} {ok:Bool} {m x:V} (M:CW (CJ m) H H'):Ph E H' t ok m x=Ph E H t ok m x:=by
 unfold Ph;split
 ·rename_i id;have h:=M id (by simp[CJ,Dh]);cases D:H[id]? with
  | none=>
   cases C:H'[id]? with
   | none=>rfl
   | some z =>simp[D,C]at h
  | some b=>
   cases C:H'[id]? with
   | none=>simp[D,C]at h
   | some z =>
    simp only[D,C,Option.map_some,Option.some.injEq]at h;obtain⟨G,Q,R,S,Y⟩:=QX h.symm;have I:z.Dc=b.Dc:=(congrArg Box.Dc h).symm;have J:z.live=b.live:=(congrArg Box.live h).symm;have hm:EY z = EY b:=by simp only[EY,I,J,G]
    simp only[hm];split
    ·simp[*]
    ·rfl
 ·rfl
theorem Z9Y {call:CV} {E:Env} (hpure:lI E call) {k:Nat} {H H1:Heap} {s:List V} {o:Oper} {v:V} (hc:BU E o≠.w) (hcc:BU E o≠.c) (hq:quietAt E s o=true) (h:BI call E k H s o=some (v,H1)) :
  Eff call E k H s o v H1:=by
 by_cases J:BU E o = .s
 ·obtain⟨M,h2⟩:=Z1s J h;exact⟨[],none,by simp,by simp,M,fun H' k' _ _=>h2 H' k'⟩
 have mk:∀(nb:Option Box),BU E o = .a->(nb.isSome=true)->(∀H k,BI call E k H s o=nb.map fun b=>((if b.row then V.BK k 0 b.xs.length b.xs.length else V.ptr k 0 0 1),place H k b))->Eff call E k H s o v H1:=by
  intro nb hca hnb I;cases nb with
  | none=>cases hnb
  | some b=>
   rw[I]at h;simp only[Option.map_some,Option.some.injEq,Prod.mk.injEq]at h;obtain⟨M,h2⟩:=h;refine⟨[],some b,by simp,fun _=>hca,h2.symm,fun H' k' hk _=>?_⟩;rw[I,hk hca];simp only[Option.map_some,M];rfl
 obtain⟨dst,op,type,pos,after,guard⟩:=o;cases op<;>try (refine absurd ?_ J;simp[BU];done)
 case assign x=>
  by_cases hx:x = .const (.slice none 0 0)
  ·subst hx;cases C:E.ti type with
   | none=>simp[BI,C]at h
   | some i=>
    obtain⟨ty,sz,by',z0⟩:=i;cases ty with
    | slice e=>exact mk (some (BO true false e ((E.size e).getD 0) [])) rfl rfl (fun H k=>by simp only[BI,C,Option.map_some];rfl)
    | _=>simp[BI,C]at h
  ·refine absurd ?_ J;unfold BU;split<;>simp_all
 case alloc t=>
  cases C:E.ti t with
  | none=>simp[BI,C]at h
  | some i=>
   cases hz:i.zero with
   | none=>simp[BI,C,hz]at h
   | some z=>
    by_cases D:z.cells.length=i.size/\okV z=true
    ·exact mk (some (BO false false t i.size [z])) rfl rfl (fun H k=>by simp only[BI,C,hz,D,and_self,if_true,Option.map_some];rfl)
    ·simp[BI,C,hz,D]at h
 case box t x=>
  cases C:E.ti t with
  | none=>simp[BI,C]at h
  | some i=>
   by_cases D:(ev E s x).cells.length=i.size/\okV (ev E s x)=true
   ·exact mk (some (BO false false t i.size [ev E s x])) rfl rfl (fun H k=>by simp only[BI,C,D,and_self,if_true,Option.map_some];rfl)
   ·simp[BI,C,D]at h
 case makeSlice t l c=>
  have hlen:∀(n:Int) (z:V),(List.replicate n.toNat z).length=n.toNat:=fun n z=>by simp
  cases C:E.ti t with
  | none=>simp[BI,C]at h
  | some i=>
   obtain⟨ty,sz,by',z0⟩:=i;cases ty with
   | slice e=>
    cases hl:ev E s l with
    | lit lv=>
     cases lv with
     | int k1 n=>
      cases Q:ev E s c with
      | lit cv=>
       cases cv with
       | int k2 m=>
        cases S:E.ti e with
        | none=>simp[BI,C,hl,Q,S]at h
        | some ei=>
         cases hz:ei.zero with
         | none=>simp[BI,C,hl,Q,S,hz]at h
         | some z=>
          by_cases D:0<=n/\n<=m/\m.toNat*ei.bytes<=lim/\m<=maxLen/\0<ei.size/\z.cells.length=ei.size/\okV z=true
          ·refine mk (some (BO true false e ei.size (List.replicate n.toNat (DX (E.rows e) z)))) rfl rfl (fun H k=>?_);simp only[BI,C,hl,Q,S,hz,Option.map_some];rw[if_pos D];simp[BO]
          ·simp only[BI,C,hl,Q,S,hz]at h;rw[if_neg D]at h;cases h
       | _=>simp[BI,C,hl,Q]at h
      | _=>simp[BI,C,hl,Q]at h
     | _=>simp[BI,C,hl]at h
    | _=>simp[BI,C,hl]at h
   | _=>simp[BI,C]at h
 case buildSlice t n ps=>
  have I:∀H k,BI call E k H s { dst:=dst,op:=.buildSlice t n ps,type:=type,pos:=pos,after:=after,guard:=guard }=MM E k H t n (ps.toList.map fun(i,x)=>(i,ev E s x)):=fun H k=>rfl;have R:=fun i=>ZkR (E:=E) (s:=s) (o:={ dst:=dst,op:=.buildSlice t n ps,type:=type,pos:=pos,after:=after,guard:=guard }) rfl (i:=i);rw[I]at h;generalize (ps.toList.map fun(i,x)=>(i,ev E s x))=parts at I h R;unfold MM at h;split at h
  ·rename_i e sz by' z0 C;split at h
   ·rename_i ei S;split at h
    ·rename_i z vs hz hf;split at h
     ·rename_i D;split at h
      ·rename_i xs hfe;simp only[Option.some.injEq,Prod.mk.injEq]at h;obtain⟨M,h2⟩:=h;refine⟨(parts.map (fun p:Nat×V=>p.2)).flatMap DC,some (BO true false e ei.size xs),fun i hi=>R i (zV hi),fun _=>by simp[BU],h2.symm,fun H' k' hk J=>?_⟩;have hfr:FC H' (parts.map (·.2))=some vs:=by rw[zY (fun i hi=>J i (R i hi))];exact hf
       have hkk:k' = k:=hk (by simp[BU]);rw[I,hkk,<- M];simp only[MM,C,S,hz,hfr,hfe];rw[if_pos D];rfl
      ·cases h
     ·cases h
    ·cases h
   ·cases h
  ·cases h
 case load t x=>exact Xg (y:=fun H=>LP E H t (ev E s x)) (fun H k=>rfl) h (fun H' J=>Z8q (SB J (by simp[Op.operands])))
 case lookup t m x ok=>exact Xg (y:=fun H=>Ph E H t ok (ev E s m) (ev E s x)) (fun H k=>rfl) h (fun H' J=>ZnK (SB J (by simp[Op.operands])))
 case indexAddr t x i=>exact Xg (y:=fun H=>Ol E H t (ev E s x) (ev E s i)) (fun H k=>rfl) h (fun H' J=>Zhz (SB J (by simp[Op.operands])))
 case convert src dst2 x=>
  have hx:x∈(Op.convert src dst2 x).operands:=by simp[Op.operands]
  by_cases hb:(E.isStr src&&E.isBytes dst2)=true
  ·have hca:BU E { dst:=dst,op:=.convert src dst2 x,type:=type,pos:=pos,after:=after,guard:=guard } = .a:=by simp only[BU];rw[if_pos hb]
   have I:∀H k,BI call E k H s { dst:=dst,op:=.convert src dst2 x,type:=type,pos:=pos,after:=after,guard:=guard }=Jm E k H dst2 (ev E s x):=fun H k=>by simp only[BI];rw[if_pos hb]
   cases Y:ev E s x with
   | lit v=>
    cases v with
    | string st=>
     cases C:E.ti dst2 with
     | none=>rw[I,Y]at h;simp[Jm,C]at h
     | some i=>
      obtain⟨ty,sz,by',z0⟩:=i;cases ty with
      | slice e=>
       by_cases M:E.size e=some 1
       ·exact mk (some (BO true false e 1 (bytesV st))) hca rfl (fun H k=>by rw[I,Y];simp only[Jm,C,M,if_true,Option.map_some];rw[show (BO true false e 1 (bytesV st)).xs.length=st.size from by simp only[BO,bytesV,List.length_map];exact Array.length_toList];rfl)
       ·rw[I,Y]at h;simp[Jm,C,M]at h
      | _=>rw[I,Y]at h;simp[Jm,C]at h
    | _=>rw[I,Y]at h;simp[Jm]at h
   | _=>rw[I,Y]at h;simp[Jm]at h
  have hcv0:∀H k,BI call E k H s { dst:=dst,op:=.convert src dst2 x,type:=type,pos:=pos,after:=after,guard:=guard }=Hl E H src dst2 (ev E s x):=fun H k=>by simp only[BI];rw[if_neg hb]
  refine Xg (y:=fun H=>(Hl E H src dst2 (ev E s x)).map (·.1)) (fun H k=>?_) h (fun H' J=>?_)
  ·rw[hcv0];cases Q:Hl E H src dst2 (ev E s x) with
   | none=>rfl
   | some r=>
    obtain⟨r,H2⟩:=r;have:=ZlA Q;subst this;rfl
  ·have M:=SB J hx;simp only[Hl];generalize ev E s x=ex at M ⊢;split
   ·grind
   ·split<;>rfl
   ·rw[iU M,fV M]
    grind
 case slice t x lo hi mx=>
  have hx:x∈(Op.slice t x lo hi mx).operands:=by simp[Op.operands]
  by_cases harr:∃n e sz by' z0,E.ti t=some ⟨.array n e,sz,by',z0⟩
  ·obtain⟨n,e,sz,by',z0,C⟩:=harr;have I:∀H k,BI call E k H s { dst:=dst,op:=.slice t x lo hi mx,type:=type,pos:=pos,after:=after,guard:=guard }=LH E H n e (ev E s x) (lo.map (ev E s)) (hi.map (ev E s)) (mx.map (ev E s)):=fun H k=>by simp only[BI,C]
   rw[I]at h;obtain⟨ids,g1,g2,g3⟩:=Zmc h;exact⟨ids,none,fun i hi=>List.mem_flatMap.2 ⟨x,by simpa using hx,g1 i hi⟩,by simp,g2,fun H' k' _ J=>by rw[I];exact g3 H' (SB J hx)⟩
  ·have I:∀H k,BI call E k H s { dst:=dst,op:=.slice t x lo hi mx,type:=type,pos:=pos,after:=after,guard:=guard }=Ii E H t (ev E s x) (lo.map (ev E s)) (hi.map (ev E s)) (mx.map (ev E s)):=fun H k=>by
    simp only[BI]
    simp_all
   rw[I]at h;obtain⟨ids,g1,g2,g3⟩:=Zlo h;exact⟨ids,none,fun i hi=>List.mem_flatMap.2 ⟨x,by simpa using hx,g1 i hi⟩,by simp,g2,fun H' k' _ J=>by rw[I];exact g3 H' (SB J hx)⟩
 case call c=>
  cases G:c.callee with
  | invoke r n=>exact absurd (by simp[BU,G]) hc
  | builtin b=>
   by_cases hb:b = .len
   ·subst hb;have I:∀H k,BI call E k H s { dst:=dst,op:=.call c,type:=type,pos:=pos,after:=after,guard:=guard }=Kw E k H s .len (evs E s c.args) c.argTypes.toList:=fun H k=>by simp only[BI,G]
    refine Xg (y:=fun H=>(Kw E 0 H s .len (evs E s c.args) c.argTypes.toList).map (·.1)) (fun H k=>?_) h (fun H' J=>?_)
    ·rw[I];unfold Kw;split<;>try rfl
     ·split
      ·cases lenOf H _<;>rfl
      ·rfl
     all_goals simp_all
    ·have M:=Z09 rfl J;generalize evs E s c.args=xs at M ⊢;simp only[Kw];split<;>try rfl
     ·split
      ·rw[Zz (fun i hi=>M i (by simpa using hi))];rename_i x t _ _ _;cases lenOf H x<;>rfl
      ·rfl
     all_goals simp_all
   ·exfalso;revert hc J;unfold BU;cases b<;>simp_all
  | value f=>
   cases f with
   | func f=>
    by_cases hp:Qo E f=true
    ·have I:∀H k,BI call E k H s { dst:=dst,op:=.call c,type:=type,pos:=pos,after:=after,guard:=guard }=call f (evs E s c.args) H:=fun H k=>by simp[BI,G,ev]
     rw[I]at h;obtain⟨M,h2⟩:=hpure f hp _ _ _ _ h;refine⟨(evs E s c.args).flatMap DC,none,fun i hi=>Zd rfl (zV hi),by simp,M,fun H' k' _ J=>?_⟩;rw[I];exact h2 H' (Z09 rfl J)
    ·by_cases hfr:Qd E f=true
     ·exact absurd (by unfold BU;simp only[G];rw[if_neg hp,if_pos hfr]) hcc
     ·exact absurd (by unfold BU;simp only[G];rw[if_neg hp,if_neg hfr]) hc
   | tmp t=>
    have hqt:(E.quiet&&type != 0)=true:=by
     cases hh:(E.quiet&&type != 0) with
     | true=>rfl
     | false=>exact absurd (by simp only[BU,G,hh];rfl) hc
    simp only[quietAt,G,hqt,Bool.not_true,Bool.false_or]at hq;cases hv:s.getD t .und with
    | fn g a b=>
     rw[hv]at hq;simp only[kV,Bool.and_eq_true]at hq;have I:∀H k,BI call E k H s { dst:=dst,op:=.call c,type:=type,pos:=pos,after:=after,guard:=guard }=call g (a++evs E s c.args++b) H:=fun H k=>by
      simp only[BI,G,ev,hv]
     rw[I]at h;obtain⟨M,h2⟩:=hpure g hq.1 _ _ _ _ h;have hin:∀i∈(a++evs E s c.args++b).flatMap CJ,i∈DR E s { dst:=dst,op:=.call c,type:=type,pos:=pos,after:=after,guard:=guard }:=by
      intro i hi;obtain⟨x,hx,hix⟩:=List.mem_flatMap.1 hi;have hab:x∈a++b->i∈DR E s { dst:=dst,op:=.call c,type:=type,pos:=pos,after:=after,guard:=guard }:=fun hm=>by
       have hnf:=List.all_eq_true.1 hq.2 x hm;have hix' : i∈YN x:=by cases x<;>first|exact hix|(simp[nH]at hnf)
       refine List.mem_flatMap.2 ⟨.tmp t,by simp[Op.operands,Call.operands,G],?_⟩;show i∈CJ (s.getD t .und);rw[hv];exact List.mem_flatMap.2 ⟨x,hm,hix'⟩
      rcases List.mem_append.1 hx with hx|hx
      ·rcases List.mem_append.1 hx with hx|hx
       ·simp_all
       ·exact Zd rfl (List.mem_flatMap.2 ⟨x,hx,hix⟩)
      ·simp_all
     refine⟨(a++evs E s c.args++b).flatMap DC,none,fun i hi=>hin i (zV hi),by simp,M,fun H' k' _ J=>?_⟩;rw[I];exact h2 H' fun i hi=>J i (hin i hi)
    | _=>rw[hv]at hq;simp[kV]at hq
   | _=>exact absurd (by simp[BU,G]) hc
 all_goals (refine absurd ?_ hc;simp[BU];done)
theorem Z9f {call:CV} {E:Env} (D:lS E call) {k:Nat} {H H1:Heap} {s:List V} {o:Oper} {v:V} (hc:BU E o = .c) (h:BI call E k H s o=some (v,H1)) :
  ∃ids C,(∀i∈ids,i∈DR E s o)/\H1=bump H ids++C/\∀H' k',H'.length=H.length->CW (DR E s o) H H' -> BI call E k' H' s o=some (v,bump H' ids++C):=by
 obtain⟨dst,op,type,pos,after,guard⟩:=o;cases op<;>simp only[BU]at hc<;>first|(cases hc;done)|skip
 case convert=>split at hc<;>cases hc
 case assign x=>exfalso;revert hc;split<;>simp_all
 case call c=>
  cases z:c.callee with
  | builtin b=>exfalso;revert hc;simp only[z];cases b<;>simp
  | invoke r n=>exfalso;revert hc;simp[z]
  | value f=>
  cases f with
  | tmp _=>exfalso;revert hc;simp only[z];split<;>simp
  | const _=>exfalso;revert hc;simp[z]
  | global _=>exfalso;revert hc;simp[z]
  | func f=>
  simp only[z]at hc;split at hc
  ·cases hc
  ·split at hc
   ·rename_i G;have I:∀H k,BI call E k H s { dst:=dst,op:=.call c,type:=type,pos:=pos,after:=after,guard:=guard }=call f (evs E s c.args) H:=fun H k=>by simp[BI,z,ev]
    rw[I]at h;obtain⟨ids,C,J,M,Q⟩:=D f G _ _ _ _ h;exact⟨ids,C,fun i hi=>Zd rfl (J i hi),M,fun H' k' R S=>by rw[I];exact Q H' R (Z09 rfl S)⟩
   ·cases hc
theorem Xy {E:Env} {o:Oper} (h:Hr E o=true):BU E o = .w/\Iy o=none:=by
 unfold Hr at h;unfold BU Iy;split at h
 ·rename_i c hop;split at h
  ·rename_i f hc;simp only[Bool.and_eq_true,Bool.not_eq_true']at h;simp only[hop,hc];simp[h.1,h.2.1]
  ·cases h
 ·cases h
theorem Z9Q {call:CV} {E:Env} (z:nC E call) {k:Nat} {H H1:Heap} {s:List V} {o:Oper} {v:V} (hc:Hr E o=true) (h:BI call E k H s o=some (v,H1)) {n:Nat} {b0:Box} (G:H[n]? = some b0) (C:b0.row=false) :
  H1[n]? = some b0/\∀b k',b.row=false->BI call E k' (H.set n b) s o=some (v,H1.set n b):=by
 obtain⟨dst,op,type,pos,after,guard⟩:=o;unfold Hr at hc;split at hc
 ·rename_i c hop;simp only at hop;subst hop;split at hc
  ·rename_i f D;simp only[Bool.and_eq_true,Bool.not_eq_true']at hc;have I:∀H k,BI call E k H s { dst:=dst,op:=.call c,type:=type,pos:=pos,after:=after,guard:=guard }=call f (evs E s c.args) H:=fun H k=>by simp[BI,D,ev]
   rw[I]at h;exact⟨(z f hc.1 hc.2.1 hc.2.2 _ _ _ _ _ _ b0 h G C C).1,fun b k' hb=>by rw[I];exact(z f hc.1 hc.2.1 hc.2.2 _ _ _ _ _ _ b h G C hb).2⟩
  ·cases hc
 ·cases hc
theorem ZaE {call:CV} {E:Env} {k:Nat} {H H1:Heap} {s:List V} {o:Oper} {v:V} (hc:OU o=true) (h:BI call E k H s o=some (v,H1)) :
  ∃b,b.row=false/\H1=place H k b/\∀H',BI call E k H' s o=some (v,place H' k b):=by
 obtain⟨dst,op,type,pos,after,guard⟩:=o;unfold OU at hc;split at hc
 ·rename_i t hop;simp only at hop;subst hop;simp only[BI]at h ⊢;cases D:E.ti t with
  | none=>simp[D]at h
  | some i=>
   simp only[D]at h ⊢;cases G:i.zero with
   | none=>simp[G]at h
   | some z=>
    simp only[G]at h ⊢;split at h
    ·rename_i C;simp only[Option.some.injEq,Prod.mk.injEq]at h;obtain⟨rfl,rfl⟩:=h;exact⟨_,rfl,rfl,fun H' =>by rw[if_pos C]⟩
    ·cases h
 ·cases hc
theorem ZaD {E:Env} {o:Oper} (h:OU o=true):BU E o = .a:=by
 unfold OU at h;split at h
 ·rename_i t hop;unfold BU;rw[hop]
 ·cases h
end Go.Proofs.YteinepnbndegdaaGreat.Le
namespace Go.Proofs.YteinepnbndegdaaGreat.Le
def IA (ids:List Nat) (i:Nat) (b:Box):Box:=if i∈ids then { b with floor:=b.xs.length } else b
theorem PO {ids:List Nat} {nb:Option Box} {k:Nat} {H:Heap} (C:nb.isSome=true->k<H.length) (i:Nat) :
  (eff ids nb k H)[i]? = match nb with|some b=>if i=k then some b else (H[i]?).map (IA ids i)|none=>(H[i]?).map (IA ids i):=by
 cases nb with
 | none=>simp only[eff];rw[Ic];rfl
 | some b=>
  have z : k<(bump H ids).length:=by rw[bump_length];exact C rfl
  simp only[eff,place];rw[if_pos z,List.getElem?_set]
  by_cases hi:i=k
  ·subst hi;simp[z]
  ·rw[if_neg (fun e=>hi e.symm),if_neg hi,Ic];rfl
theorem Um {ids:List Nat} {nb:Option Box} {k:Nat} {H:Heap} (C:nb.isSome=true->k<H.length):(eff ids nb k H).length=H.length:=by
 cases nb with
 | none=>exact bump_length H ids
 | some b=>
  have z : k<(bump H ids).length:=by rw[bump_length];exact C rfl
  simp only[eff,place];rw[if_pos z,List.length_set,bump_length]
theorem gW (Ec ids2:List Nat) (i:Nat) (b:Box):IA Ec i (IA ids2 i b)=IA ids2 i (IA Ec i b):=by
 unfold IA
 grind
theorem Z03 {Ec ids2:List Nat} {nb1 nb2:Option Box} {k1 k2:Nat} {H:Heap} (z:nb1.isSome=true->k1<H.length/\k1∉ids2) (C:nb2.isSome=true->k2<H.length/\k2∉Ec)
  (I:nb1.isSome=true->nb2.isSome=true->k1≠k2):eff Ec nb1 k1 (eff ids2 nb2 k2 H)=eff ids2 nb2 k2 (eff Ec nb1 k1 H):=by
 have l1:=Um (ids:=Ec) (fun h=>(z h).1);have l2:=Um (ids:=ids2) (fun h=>(C h).1);apply List.ext_getElem?;intro i;rw[PO (ids:=Ec) (H:=eff ids2 nb2 k2 H) (fun h=>by rw[l2];exact(z h).1),PO (ids:=ids2) (H:=eff Ec nb1 k1 H) (fun h=>by rw[l1];exact(C h).1),PO (ids:=Ec) (H:=H) (fun h=>(z h).1),PO (ids:=ids2) (H:=H) (fun h=>(C h).1)];cases nb1 with
 | none=>
  cases nb2 with
  | none=>
   simp only;cases H[i]? with
   | none=>rfl
   | some b=>simp only[Option.map_some,gW]
  | some b2=>
   simp only
   by_cases hi:i=k2
   ·subst hi;simp only[if_true,Option.map_some];simp[IA,(C rfl).2]
   ·simp only[hi,if_false];cases H[i]? with
    | none=>rfl
    | some b=>simp only[Option.map_some,gW]
 | some b1=>
  cases nb2 with
  | none=>
   simp only
   by_cases hi:i=k1
   ·subst hi;simp only[if_true,Option.map_some];simp[IA,(z rfl).2]
   ·simp only[hi,if_false];cases H[i]? with
    | none=>rfl
    | some b=>simp only[Option.map_some,gW]
  | some b2=>
   have G:=I rfl rfl;simp only
   by_cases hi:i=k1
   ·subst hi;rw[if_pos rfl,if_neg G,if_pos rfl];simp[IA,(z rfl).2]
   ·by_cases D:i=k2
    ·subst D;rw[if_neg hi,if_pos rfl,if_pos rfl];simp[IA,(C rfl).2]
    ·rw[if_neg hi,if_neg D,if_neg D,if_neg hi];cases H[i]? with
     | none=>rfl
     | some b=>simp only[Option.map_some,gW]
theorem Z8m (ids:List Nat) (i:Nat) (b:Box):(IA ids i b).low=b.low:=by
 unfold IA;split<;>rfl
theorem Rz {R ids:List Nat} {nb:Option Box} {k:Nat} {H:Heap} (z:nb.isSome=true->k<H.length/\k∉R):CW R H (eff ids nb k H):=by
 intro i hi;rw[PO (fun h=>(z h).1)];cases nb with
 | none=>
  simp only;cases H[i]? with
  | none=>rfl
  | some b=>simp only[Option.map_some,Z8m]
 | some b=>
  have:i≠k:=fun e=>(z rfl).2 (e▸hi);simp only[this,if_false];cases H[i]? with
  | none=>rfl
  | some b=>simp only[Option.map_some,Z8m]
theorem CW.symm {R:List Nat} {H H' : Heap} (h:CW R H H'):CW R H' H:=fun i hi=>(h i hi).symm
theorem Z8I {ids:List Nat} {nb:Option Box} {k j:Nat} {H:Heap} (z:nb.isSome=true->k<H.length/\k≠j):(∃b,(eff ids nb k H)[j]? = some b/\(b.live=false/\b.row=false))↔∃b,H[j]? = some b/\(b.live=false/\b.row=false):=by
 rw[PO (fun h=>(z h).1)];have hm:(∃b,(H[j]?).map (IA ids j)=some b/\(b.live=false/\b.row=false))↔∃b,H[j]? = some b/\(b.live=false/\b.row=false):=by
  cases H[j]? with
  | none=>simp
  | some b=>
   simp only[Option.map_some,Option.some.injEq,exists_eq_left'];unfold IA;split<;>rfl
 grind
section
variable {call:CV} {E:Env} {ops:Array Oper} {ms:List Nat} {lt:List (Nat×(Nat⊕Nat))} {s0:List V} {base m:Nat}
def CO (E:Env) (o:Oper) (base i:Nat) (H:Heap):Nat:=if BU E o = .a then base+i else H.length
def PU (E:Env) (ops:Array Oper) (ms:List Nat) (lt:List (Nat×(Nat⊕Nat))) (s0:List V) (base m i:Nat) (s:List V) (o:Oper):Prop:=(∀id∈DR E s o,id<base\/(base+m<=id/\VO E ops ms i=true)\/(id<base+m/\(ms.getD i 0).testBit (id - base)=true))/\quietAt E s o=true/\KL E ops ms lt s0 base i s o=true
def Qe (E:Env) (ops:Array Oper) (base m:Nat) (o:Oper) (H:Heap):Prop:=IC E o=true->base+m<=H.length/\(Hr E o=true->Lc ops base H=true)
theorem iT {i:Nat} {o:Oper} (D:ops[i]? = some o) {st st' : St}:Gp call E ops ms lt s0 base m i st=some st' ↔
  PU E ops ms lt s0 base m i st.s o/\(GR E ms lt s0 base i st.s st.H o=true/\Qe E ops base m o st.H)/\(BU E o = .a->∃b,st.H[base+i]? = some b/\(b.live=false/\b.row=false))/\∃v H',Di call E ops (CO E o base i st.H) o st=some (v,H')/\st' = ⟨setSlot st.s o.dst v,H'⟩:=by
 have I:∀k,JC call E ops k i st=some st' ↔∃v H',Di call E ops k o st=some (v,H')/\st' = ⟨setSlot st.s o.dst v,H'⟩:=by
  intro k;unfold JC;simp only[D];cases C:Di call E ops k o st with
  | none=>simp
  | some r=>
   grind
 unfold Gp;simp only[D];have z:(((DR E st.s o).all fun id=>decide (id<base)||(decide (base+m<=id)&&VO E ops ms i)||(decide (id<base+m)&&(ms.getD i 0).testBit (id - base)))&&(quietAt E st.s o&&KL E ops ms lt s0 base i st.s o)&&(GR E ms lt s0 base i st.s st.H o&&(!IC E o||(decide (base+m<=st.H.length)&&(!Hr E o||Lc ops base st.H)))))=true↔
   PU E ops ms lt s0 base m i st.s o/\GR E ms lt s0 base i st.s st.H o=true/\Qe E ops base m o st.H:=by
  unfold PU;rw[Bool.and_eq_true,Bool.and_eq_true,Bool.and_eq_true,Bool.and_eq_true,List.all_eq_true];have hc:(!IC E o||(decide (base+m<=st.H.length)&&(!Hr E o||Lc ops base st.H)))=true↔Qe E ops base m o st.H:=by
   unfold Qe;cases h:IC E o<;>cases J:Hr E o<;>simp
  rw[hc];simp only[Bool.or_eq_true,Bool.and_eq_true,decide_eq_true_eq,or_assoc]
 by_cases G:PU E ops ms lt s0 base m i st.s o/\GR E ms lt s0 base i st.s st.H o=true/\Qe E ops base m o st.H
 ·rw[if_pos (z.2 G)];unfold CO
  grind
 grind
theorem XM {o:Oper} {a:Operand} (h:Iy o=some a):(∃t v,o.op = .store t a v)\/∃c x,o.op = .call c/\c.callee = .builtin .append/\c.args.toList=[a,x]:=by
 unfold Iy at h
 grind
theorem Z6u {o:Oper} {a:Operand} (h:Iy o=some a):a∈o.op.operands:=by
 rcases XM h with ⟨t,v,hop⟩|⟨c,x,hop,C,z⟩
 ·simp[hop,Op.operands]
 ·have:a∈c.args:=by
   have:a∈c.args.toList:=by rw[z];simp
   simpa using this
  simp[hop,Op.operands,Call.operands,this]
theorem jZ {o:Oper} {t:Nat⊕Nat} (h:Sj E ops o=some t):BU E o = .w/\o.guard=none/\∃d,Iy o=some (.tmp d):=by
 unfold Sj at h;split at h
 ·rename_i d D z;refine⟨?_,D,⟨d,z⟩⟩;rcases XM z with ⟨t,v,hop⟩|⟨c,x,hop,C,G⟩
  ·unfold BU;rw[hop]
  ·unfold BU;rw[hop];simp only[C]
 ·cases h
theorem Znq {x:Nat} {t:Nat⊕Nat} (h:(x,t)∈P7 E ops):∃ox,ops[x]? = some ox/\Sj E ops ox=some t:=by
 unfold P7 at h
 grind
theorem Z9P {o:Oper} (h:needs E o=true):BU E o≠.w:=by
 unfold needs at h
 grind
theorem Z7r {s:List V} {o:Oper} {d:Option Tmp} {v:V} (h:∀z,d=some z -> z ∉o.looksAt ops):addrOf E (setSlot s d v) o=addrOf E s o:=by
 unfold addrOf;split
 ·rename_i a D;exact kQ _ fun z C=>jB (h z C) a (Z6u D)
 ·rfl
theorem Z82 {s:List V} {H:Heap} {i:Nat} {o:Oper} {d:Option Tmp} {v:V} (h:∀z,d=some z -> z ∉o.looksAt ops):GR E ms lt s0 base i (setSlot s d v) H o=GR E ms lt s0 base i s H o:=by
 unfold GR;rw[Z7r h,iP h]
theorem Hf {s:List V} {H H' : Heap} {i:Nat} {o:Oper} (h:∀t,(i,t)∉lt) (z:GR E ms lt s0 base i s H o=true):GR E ms lt s0 base i s H' o=true:=by
 unfold GR at *;rw[List.all_eq_true]at *
 grind
theorem Z7u {s:List V} {H H' : Heap} {i:Nat} {o:Oper} (h:∀p∈lt,∀k,p.1=i->Pj base s0 p.2=some k->H'[k]? = H[k]?) (I:GR E ms lt s0 base i s H o=true):GR E ms lt s0 base i s H' o=true:=by
 unfold GR at *;rw[List.all_eq_true]at *;intro p G;have hh:=I p G;cases C:Pj base s0 p.2 with
 | none=>rw[C]at hh;cases hh
 | some k=>
  rw[C]at hh;simp only at hh ⊢;split
  ·rename_i D;rw[if_pos D]at hh;have J:=h p G k D C;unfold OB at *;split at hh
   ·rename_i id a b tot z;simp only[Bool.and_eq_true,beq_iff_eq]at hh ⊢;obtain⟨rfl,hh⟩:=hh;refine⟨rfl,?_⟩;unfold Cc at *
    simp_all
   ·grind
   ·cases hh
  simp_all
theorem ZlX {H H1:Heap} {t:TypeId} {a v:V} {k:Nat} (z:OB H a k=true) (h:J3 E H t a v=some H1) :
  ∃b,k<H.length/\H1=H.set k b/\∀H',H'[k]? = H[k]? -> J3 E H' t a v=some (H'.set k b):=by
 unfold OB at z;split at z
 ·rename_i id i off tot;simp only[Bool.and_eq_true,beq_iff_eq]at z;obtain⟨rfl,z⟩:=z;cases hb:Cc H id tot with
  | none=>rw[hb]at z;cases z
  | some b=>
   rw[hb]at z;simp only[Bool.not_eq_true']at z;have C:id<H.length:=by
    unfold Cc at hb;cases hh:H[id]? with
    | none=>rw[hh]at hb;cases hb
    | some b0=>grind
   have G : ∀H' : Heap,H'[id]? = H[id]? -> Cc H' id tot=some b:=fun H' I=>by
    unfold Cc at *
    grind
   unfold J3 at h;cases D:E.ti t with
   | none=>simp_all
   | some R=>
    simp only[D,hb]at h;cases M:b.xs[i]? with
    | none=>simp_all
    | some x=>
     simp only[M,z,Bool.false_eq_true,if_false]at h;split at h
     ·rename_i hc;cases J:Kz x off v.cells with
      | none=>simp_all
      | some S =>
       simp only[J]at h;split at h
       ·rename_i Q;simp only[Option.some.injEq]at h;refine⟨_,C,h.symm,fun H' I=>?_⟩;unfold J3
        simp_all
       ·cases h
     ·cases h
 ·unfold J3 at h;split at h<;>cases h
 ·cases z
theorem ZkB {H H1:Heap} {k0:Nat} {t u:TypeId} {a x r:V} {k:Nat} (z:OB H a k=true) (h:IP E k0 H t u a x=some (r,H1)) :
  ∃b,k<H.length/\H1=H.set k b/\∀k' H',H'[k]? = H[k]? -> CW (CJ x) H H' -> IP E k' H' t u a x=some (r,H'.set k b):=by
 unfold OB at z;split at z
 ·unfold IP at h
  grind
 ·rename_i id off len tot;simp only[Bool.and_eq_true,beq_iff_eq]at z;obtain⟨rfl,z⟩:=z;have D:id<H.length:=by
   cases hh:H[id]? with
   | none=>rw[hh]at z;cases z
   | some b0=>exact(List.getElem?_eq_some_iff.1 hh).1
  unfold IP at h;split at h
  ·rename_i e sz by' z0 I;split at h
   ·rename_i ei ys C J M;split at h
    ·rename_i R;simp only at h;cases hb:Cc H id tot with
     | none=>rw[hb]at h;cases h
     | some b=>
      simp only[hb]at h;split at h
      ·rename_i hc;split at h
       ·rename_i Y;simp only[Option.some.injEq,Prod.mk.injEq]at h;obtain⟨rfl,rfl⟩:=h;refine⟨_,D,rfl,fun k' H' S G=>?_⟩;have Q : Cc H' id tot=some b:=by
         unfold Cc at *;rw[S];exact hb
        unfold IP;simp only[I,C,J,fV G,M,iU G]
        simp_all
       ·cases h
      ·rename_i hc0;split at h
       ·rename_i hc;simp only[Option.some.injEq,Prod.mk.injEq]at h;obtain⟨rfl,rfl⟩:=h;refine⟨_,D,rfl,fun k' H' S G=>?_⟩;have Q : Cc H' id tot=some b:=by
         unfold Cc at *;rw[S];exact hb
        unfold IP;simp only[I,C,J,fV G,M,iU G]
        simp_all
       ·cases h
    ·cases h
   ·cases h
  ·cases h
 ·cases z
theorem jH {ids:List Nat} {nb:Option Box} {k k' : Nat} {H:Heap} {b:Box} (C:nb.isSome=true->k' < H.length/\k' ≠k) (z:k∉ids):eff ids nb k' (H.set k b)=(eff ids nb k' H).set k b:=by
 apply List.ext_getElem?;intro i;rw[PO (H:=H.set k b) (fun h=>by simp_all),List.getElem?_set,List.getElem?_set,Um (fun h=>(C h).1),PO (fun h=>(C h).1)]
 by_cases D:k=i
 ·subst D;simp only[if_true];cases nb with
  | none=>
   simp only;split
   ·simp[IA,z]
   ·rfl
  | some b2=>
   have:¬k=k' :=fun e=>(C rfl).2 e.symm;simp only[this,if_false];split
   ·simp[IA,z]
   ·rfl
 grind
theorem ZaY {ids:List Nat} {nb:Option Box} {k k' : Nat} {H:Heap} (C:nb.isSome=true->k' < H.length/\k' ≠k) (z:k∉ids):(eff ids nb k' H)[k]? = H[k]?:=by
 rw[PO (fun h=>(C h).1)];cases nb with
 | none=>
  simp only;cases H[k]? with
  | none=>rfl
  | some b=>simp[IA,z]
 | some b2=>
  have:¬k=k' :=fun e=>(C rfl).2 e.symm;simp only[this,if_false];cases H[k]? with
  | none=>rfl
  | some b=>simp[IA,z]
theorem Z8d {k i:Nat} {t:Nat⊕Nat} {o:Oper} {s:List V} {H H1:Heap} {v:V} (ht:Sj E ops o=some t) (Y:(i,t)∈lt) (z:GR E ms lt s0 base i s H o=true) (h:Di call E ops k o ⟨s,H⟩=some (v,H1)) :
  ∃b n,Pj base s0 t=some n/\n∈DR E s o/\n<H.length/\H1=H.set n b/\∀k' H',H'[n]? = H[n]? -> CW (DR E s o) H H' -> Di call E ops k' o ⟨s,H'⟩=some (v,H'.set n b):=by
 obtain⟨_,hg,⟨d,hw⟩⟩:=jZ ht;unfold GR at z;rw[List.all_eq_true]at z;have z:=z _ Y;cases hn:Pj base s0 t with
 | none=>simp_all
 | some n=>
  simp only[hn,if_true]at z;unfold addrOf at z;simp only[hw]at z;have D:n∈DR E s o:=by
   unfold DR;rw[List.mem_flatMap];refine⟨.tmp d,by simpa using Z6u hw,?_⟩;unfold OB at z;split at z
   ·rename_i M;simp only[Bool.and_eq_true,beq_iff_eq]at z;rw[M,<- z.1];simp[CJ,Dh]
   ·rename_i M;simp only[Bool.and_eq_true,beq_iff_eq]at z;rw[M,<- z.1];simp[CJ,Dh]
   ·cases z
  unfold Di at h ⊢;simp only[hg]at h ⊢;rcases XM hw with ⟨t',x,hop⟩|⟨c,x,hop,R,J⟩
  ·unfold BI at h ⊢;simp only[hop]at h ⊢;cases I:J3 E H t' (ev E s (.tmp d)) (ev E s x) with
   | none=>rw[I]at h;cases h
   | some H2=>
    rw[I]at h;simp only[Option.map_some,Option.some.injEq,Prod.mk.injEq]at h;obtain⟨rfl,rfl⟩:=h;obtain⟨b,C,h2,h3⟩:=ZlX z I
    grind
  ·have G:evs E s c.args=[ev E s (.tmp d),ev E s x]:=by unfold evs;rw[J];rfl
   unfold BI at h ⊢;simp only[hop,R,G]at h ⊢;unfold Kw at h ⊢;split at h
   ·rename_i C _;cases C
   ·rename_i a y t' u' hb Q he2;simp only[List.cons.injEq,and_true]at Q;obtain⟨rfl,rfl⟩:=Q;obtain⟨b,C,h2,h3⟩:=ZkB z h;refine⟨b,n,rfl,D,C,h2,fun k' H' M hs=>h3 k' H' M (fun id S=>hs id ?_)⟩;unfold DR;rw[List.mem_flatMap];have:x∈c.args:=by
     have:x∈c.args.toList:=by rw[J];simp
     simpa using this
    exact⟨x,by simp[hop,Op.operands,Call.operands,this],S⟩
   ·simp_all
   ·simp_all
   ·simp_all
   ·rename_i C;cases C
   ·rename_i C;cases C
   ·cases h
theorem Z8B {i x n:Nat} {t:Nat⊕Nat} {o:Oper} {s:List V} {H:Heap} (G:(x,t)∈lt) (I:x≠i) (J:needs E o=true) (D:(ms.getD i 0).testBit x=false) (z : (ms.getD x 0).testBit i=false) (M:Pj base s0 t=some n)
  (C:GR E ms lt s0 base i s H o=true):n∉DR E s o:=by
 unfold GR at C;rw[List.all_eq_true]at C;have C:=C _ G;simp only[M,if_neg I,J,linked,D,z,Bool.or_self,Bool.not_true,Bool.false_or,Bool.not_eq_true']at C;simpa using C
theorem Zaz {k:Nat} {o:Oper} {s:List V} {H H1:Heap} {v:V} (hc:BU E o = .s) (h:Di call E ops k o ⟨s,H⟩=some (v,H1)):H1=H/\∀H' k',Di call E ops k' o ⟨s,H'⟩=some (v,H'):=by
 unfold Di at *;cases G:o.guard with
 | none=>simp only[G]at h ⊢;exact Z1s hc h
 | some I=>
  obtain⟨j,C⟩:=I;simp only[G]at h ⊢;cases D:(ops[j]?).bind (·.dst) with
  | none=>simp[D]at h
  | some d=>
   simp only[D]at h ⊢;cases z:JD (s.getD d .und) C with
   | none=>rw[z]at h;cases h
   | some r=>
    rw[z]at h;cases r with
    | true=>simp only at h ⊢;exact Z1s hc h
    | false=>
     simp_all
theorem VG (z:lI E call) {k:Nat} {o:Oper} {s:List V} {H H1:Heap} {v:V} (hc:BU E o≠.w) (C:BU E o≠.c) (M:quietAt E s o=true) (h:Di call E ops k o ⟨s,H⟩=some (v,H1)) :
  ∃ids nb,(∀i∈ids,i∈DR E s o)/\(nb.isSome=true->BU E o = .a)/\H1=eff ids nb k H /\
   ∀H' k',(BU E o = .a->k' = k)->CW (DR E s o) H H' -> Di call E ops k' o ⟨s,H'⟩=some (v,eff ids nb k' H'):=by
 unfold Di at *;cases J:o.guard with
 | none=>simp only[J]at h ⊢;exact Z9Y z hc C M h
 | some Q=>
  obtain⟨j,G⟩:=Q;simp only[J]at h ⊢;cases I:(ops[j]?).bind (·.dst) with
  | none=>simp[I]at h
  | some d=>
   simp only[I]at h ⊢;cases D:JD (s.getD d .und) G with
   | none=>rw[D]at h;cases h
   | some r=>
    rw[D]at h;cases r with
    | true=>simp only at h ⊢;exact Z9Y z hc C M h
    | false=>
     simp only[Option.some.injEq,Prod.mk.injEq]at h ⊢;exact⟨[],none,by simp,by simp,h.2.symm,fun H' k' _ _=>⟨h.1,rfl⟩⟩
theorem iE (z:lS E call) {k:Nat} {o:Oper} {s:List V} {H H1:Heap} {v:V} (hc:BU E o = .c) (h:Di call E ops k o ⟨s,H⟩=some (v,H1)) :
  ∃ids D,(∀i∈ids,i∈DR E s o)/\H1=bump H ids++D/\∀H' k',H'.length=H.length->CW (DR E s o) H H' -> Di call E ops k' o ⟨s,H'⟩=some (v,bump H' ids++D):=by
 unfold Di at *;cases J:o.guard with
 | none=>simp only[J]at h ⊢;exact Z9f z hc h
 | some M=>
  obtain⟨j,G⟩:=M;simp only[J]at h ⊢;cases I:(ops[j]?).bind (·.dst) with
  | none=>simp[I]at h
  | some d=>
   simp only[I]at h ⊢;cases C:JD (s.getD d .und) G with
   | none=>rw[C]at h;cases h
   | some r=>
    rw[C]at h;cases r with
    | true=>simp only at h ⊢;exact Z9f z hc h
    | false=>
     simp only[Option.some.injEq,Prod.mk.injEq]at h ⊢;exact⟨[],[],by simp,by rw[List.append_nil];exact h.2.symm,fun H' k' _ _=>⟨h.1,by rw[List.append_nil];rfl⟩⟩
theorem Z6V {ids:List Nat} {H:Heap} (ys:List Box) (h:∀i∈ids,i<H.length):bump (H++ys) ids=bump H ids++ys:=by
 apply List.ext_getElem?;intro i;rw[Ic,List.getElem?_append,List.getElem?_append,bump_length,Ic]
 grind
theorem Z7t {ids:List Nat} {nb:Option Box} {k:Nat} {H:Heap} (ys:List Box) (h:∀i∈ids,i<H.length) (z:nb.isSome=true->k<H.length):eff ids nb k (H++ys)=eff ids nb k H++ys:=by
 cases nb with
 | none=>exact Z6V ys h
 | some b=>
  have z:=z rfl;simp only[eff,place,Z6V ys h,List.length_append,bump_length];rw[if_pos (by omega),if_pos z,List.set_append_left _ _ (by rw[bump_length];exact z)]
theorem gI {R:List Nat} {H H' : Heap} (ys:List Box) (h:CW R H H') (z:∀i∈R,i<H'.length):CW R H (H' ++ys):=by
 intro i hi;rw[List.getElem?_append_left (z i hi)];exact h i hi
theorem QW (R ids:List Nat) (H:Heap):CW R H (bump H ids):=by
 have:=Rz (R:=R) (ids:=ids) (nb:=none) (k:=0) (H:=H) (fun h=>by cases h);exact this
theorem Zab {R:List Nat} {H:Heap} {n:Nat} {b:Box} (h:n∉R):CW R H (H.set n b):=by
 intro i hi
 grind
theorem CW.trans {R:List Nat} {H H' H2:Heap} (h:CW R H H') (k:CW R H' H2):CW R H H2:=fun i hi=>(h i hi).trans (k i hi)
theorem Zjs {s:List V} {d e:Option Tmp} {v u:V} (h:∀x,d=some x->e≠some x):setSlot (setSlot s d v) e u=setSlot (setSlot s e u) d v:=by
 cases d with
 | none=>rfl
 | some d=>
  cases e with
  | none=>rfl
  | some e=>
   have:d≠e:=fun hh=>h d rfl (by rw[hh]);simp only[setSlot];exact List.set_comm v u this
theorem lH {o:Oper} (h:BU E o = .c):IC E o=true:=by simp[IC,h]
theorem ZY {o:Oper} (h:Hr E o=true):IC E o=true:=by simp[IC,h]
theorem Z8Q {o:Oper} (h:IC E o=true) (hc:BU E o≠.c):Hr E o=true:=by simpa[IC,hc]using h
theorem Zqt {o:Oper} (hc:BU E o≠.c) (z:BU E o≠.w):IC E o=false:=by
 cases h:IC E o with
 | false=>rfl
 | true=>exact absurd (Xy (Z8Q h hc)).1 z
theorem Z04 (z:nC E call) {k:Nat} {o:Oper} {s:List V} {H H1:Heap} {v:V} (hc:Hr E o=true) (h:Di call E ops k o ⟨s,H⟩=some (v,H1)) {n:Nat} {b0:Box} (I:H[n]? = some b0) (D:b0.row=false) :
  H1[n]? = some b0/\∀b k',b.row=false->Di call E ops k' o ⟨s,H.set n b⟩=some (v,H1.set n b):=by
 unfold Di at *;cases M:o.guard with
 | none=>simp only[M]at h ⊢;exact Z9Q z hc h I D
 | some Q=>
  obtain⟨j,G⟩:=Q;simp only[M]at h ⊢;cases J:(ops[j]?).bind (·.dst) with
  | none=>simp[J]at h
  | some d=>
   simp only[J]at h ⊢;cases C:JD (s.getD d .und) G with
   | none=>rw[C]at h;cases h
   | some r=>
    rw[C]at h;cases r with
    | true=>simp only at h ⊢;exact Z9Q z hc h I D
    | false=>
     simp only[Option.some.injEq,Prod.mk.injEq]at h ⊢;obtain⟨rfl,rfl⟩:=h;exact⟨I,fun b k' _=>⟨rfl,rfl⟩⟩
theorem Z9y {k:Nat} {o:Oper} {s:List V} {H H1:Heap} {v:V} (hc:OU o=true) (h:Di call E ops k o ⟨s,H⟩=some (v,H1)) :
  (∃b,b.row=false/\H1=place H k b/\∀H',Di call E ops k o ⟨s,H'⟩=some (v,place H' k b))\/(H1=H/\∀H',Di call E ops k o ⟨s,H'⟩=some (v,H')):=by
 unfold Di at *;cases G:o.guard with
 | none=>simp only[G]at h ⊢;exact .inl (ZaE hc h)
 | some I=>
  obtain⟨j,C⟩:=I;simp only[G]at h ⊢;cases D:(ops[j]?).bind (·.dst) with
  | none=>simp[D]at h
  | some d=>
   simp only[D]at h ⊢;cases z:JD (s.getD d .und) C with
   | none=>rw[z]at h;cases h
   | some r=>
    rw[z]at h;cases r with
    | true=>simp only at h ⊢;exact .inl (ZaE hc h)
    | false=>
     simp only[Option.some.injEq,Prod.mk.injEq]at h ⊢;exact .inr ⟨h.2.symm,fun H' =>⟨h.1,trivial⟩⟩
theorem mO {o:Oper} (h:Hr E o=true) (hc:BU E o = .c):False:=by
 have:=(Xy h).1;rw[hc]at this;cases this
theorem Jh {o:Oper} {H:Heap} (hc:BU E o≠.c) (z:BU E o≠.w):Qe E ops base m o H:=fun h=>by
 rw[Zqt hc z]at h;cases h
theorem ZP {o:Oper} {t:Nat⊕Nat} (D:Sj E ops o=some t) (h:IC E o=true):False:=by
 obtain⟨z,_,d,C⟩:=jZ D;have:=(Xy (Z8Q h (by rw[z];simp))).2;rw[C]at this;cases this
theorem Zra {H:Heap} {y:Nat} {oy:Oper} (z:ops[y]? = some oy) (C:OU oy=true) (h:Lc ops base H=true):∃b,H[base+y]? = some b/\b.row=false:=by
 unfold Lc at h;rw[List.all_eq_true]at h;have h:=h y (by simpa using (Array.getElem?_eq_some_iff.1 z).1);simp only[z,C,Bool.not_true,Bool.false_or]at h;cases hb:H[base+y]? with
 | none=>rw[hb]at h;cases h
 | some b=>rw[hb]at h;exact⟨b,rfl,by simpa using h⟩
theorem Z9d {H:Heap} {n:Nat} {b:Box} (G:b.row=false) (h:Lc ops base H=true):Lc ops base (H.set n b)=true:=by
 unfold Lc at *;rw[List.all_eq_true]at h ⊢;intro j C;have h:=h j C;cases D:ops[j]? with
 | none=>rfl
 | some o=>
  rw[D]at h;simp only[Bool.or_eq_true,Bool.not_eq_true']at h ⊢;rcases h with h|h
  ·exact .inl h
  ·refine .inr ?_;cases hb:H[base+j]? with
   | none=>rw[hb]at h;cases h
   | some c=>
    rw[hb]at h;have z:=(List.getElem?_eq_some_iff.1 hb).1
    by_cases e:n=base+j
    ·subst e;rw[List.getElem?_set_self z];simp[G]
    ·rw[List.getElem?_set_ne e,hb];exact h
theorem Z0D {o:Oper} (h:Io o=true):BU E o = .n:=by
 unfold Io at h;split at h
 ·rename_i t a hop;unfold BU;rw[hop]
 ·cases h
theorem Z7a {o:Oper} (h:Io o=true):needs E o=true:=by
 unfold needs;rw[Z0D h]
theorem Za7 {o:Oper} (h:isApp o=true):BU E o = .w:=by
 unfold isApp at h;split at h
 ·rename_i c hop;split at h
  ·rename_i hc;unfold BU;simp only[hop,hc]
  ·cases h
 ·cases h
theorem ZlR {x y:Oper} (h:x.apart ops y=true):y.apart ops x=true:=by
 unfold Oper.apart at *
 grind
theorem Z8t {s:List V} {i:Nat} {o:Oper} {d:Option Tmp} {v:V} (h:∀z,d=some z -> z ∉o.looksAt ops):KL E ops ms lt s0 base i (setSlot s d v) o=KL E ops ms lt s0 base i s o:=by
 unfold KL;rw[Z7r h,iP h]
theorem Z84 {i j:Nat} {s:List V} {o G:Oper} (I:ops[j]? = some G) (J:isApp o=true) (Q:Io G=true) (z:lt.any (fun p=>p.1==i)=false) (M:linked ms i j=false) (h:KL E ops ms lt s0 base i s o=true) :
  ∃n,Vp E ops base s0 G=some n/\((∃id,(∃a b c,addrOf E s o = .BK id a b c)/\n≠id)\/(∃b e xs,addrOf E s o = .sl b e xs)/\n<base):=by
 unfold KL at h;rw[List.all_eq_true]at h;have h:=h j (by simpa using (Array.getElem?_eq_some_iff.1 I).1);simp only[I,J,Q,z,M,Bool.and_self,Bool.not_true,Bool.false_or,Bool.and_eq_true]at h;obtain⟨h,_⟩:=h;split at h
 ·rename_i n id a b c C D;exact⟨n,C,.inl ⟨id,⟨a,b,c,D⟩,fun e=>by simp[e]at h⟩⟩
 ·rename_i n b e xs C D;exact⟨n,C,.inr ⟨⟨b,e,xs,D⟩,by simpa using h⟩⟩
 ·cases h
theorem Z8T {i j:Nat} {s:List V} {o G:Oper} (D:ops[j]? = some G) (I:isApp G=true) (J:Io o=true) (C:lt.any (fun p=>p.1==j)=false) (z:linked ms i j=false) (h:KL E ops ms lt s0 base i s o=true) :
  ∃n,Vp E ops base s0 o=some n/\∀k∈DR E s o,k=n:=by
 unfold KL at h;rw[List.all_eq_true]at h;have h:=h j (by simpa using (Array.getElem?_eq_some_iff.1 D).1);simp only[D,I,J,C,z,Bool.and_self,Bool.not_true,Bool.false_or,Bool.and_eq_true]at h;obtain⟨_,h⟩:=h;split at h
 ·rename_i n M;exact⟨n,M,fun k z=>by simpa using List.all_eq_true.1 h k z⟩
 ·cases h
theorem Zag {k:Nat} {o:Oper} {s:List V} {H H1:Heap} {v:V} (hc:Io o=true) (h:Di call E ops k o ⟨s,H⟩=some (v,H1)) :
  H1=H/\∀H' k',CW (DR E s o) H H' -> Di call E ops k' o ⟨s,H'⟩=some (v,H'):=by
 have key:∀{k:Nat} {H H1:Heap},BI call E k H s o=some (v,H1)->H1=H/\∀H' k',CW (DR E s o) H H' -> BI call E k' H' s o=some (v,H'):=by
  intro k H H1 h;obtain⟨dst,op,type,pos,after,guard⟩:=o;unfold Io at hc;split at hc
  ·rename_i t a hop;simp only at hop;subst hop;simp only[BI]at h ⊢;obtain⟨I,J⟩:=Z0w h;exact⟨J,fun H' k' M=>by rw[Z8q (SB M (by simp[Op.operands])),I];rfl⟩
  ·cases hc
 unfold Di at *;cases G:o.guard with
 | none=>simp only[G]at h ⊢;exact key h
 | some Q=>
  obtain⟨j,C⟩:=Q;simp only[G]at h ⊢;cases D:(ops[j]?).bind (·.dst) with
  | none=>simp[D]at h
  | some d=>
   simp only[D]at h ⊢;cases z:JD (s.getD d .und) C with
   | none=>rw[z]at h;cases h
   | some r=>
    rw[z]at h;cases r with
    | true=>simp only at h ⊢;exact key h
    | false=>
     simp only[Option.some.injEq,Prod.mk.injEq]at h ⊢;exact⟨h.2.symm,fun H' k' _=>⟨h.1,trivial⟩⟩
theorem Zjf {k:Nat} {H H1:Heap} {t u:TypeId} {x v:V} {id a b c:Nat} (h:IP E k H t u (.BK id a b c) x=some (v,H1)):∀i,i≠id->H1[i]? = H[i]?:=by
 intro i hi;unfold IP at h;split at h
 ·split at h
  ·split at h
   ·simp only at h;split at h
    ·split at h
     ·split at h
      ·simp only[Option.some.injEq,Prod.mk.injEq]at h;rw[<- h.2,List.getElem?_set_ne (Ne.symm hi)]
      ·cases h
     ·split at h
      ·simp only[Option.some.injEq,Prod.mk.injEq]at h;rw[<- h.2,List.getElem?_set_ne (Ne.symm hi)]
      ·cases h
    ·cases h
   ·cases h
  ·cases h
 ·cases h
theorem Z8W {k:Nat} {o:Oper} {s:List V} {H H1:Heap} {v:V} {id:Nat} (hc:isApp o=true) (D:∃a b c,addrOf E s o = .BK id a b c) (h:Di call E ops k o ⟨s,H⟩=some (v,H1)):∀i,i≠id->H1[i]? = H[i]?:=by
 have key:BI call E k H s o=some (v,H1)->∀i,i≠id->H1[i]? = H[i]?:=by
  intro h;obtain⟨q1,q2,q3,D⟩:=D;have C:∃a,Iy o=some a:=by
   unfold addrOf at D;cases hw:Iy o with
   | none=>rw[hw]at D;cases D
   | some a=>exact⟨a,rfl⟩
  obtain⟨wa,C⟩:=C;have S:ev E s wa = .BK id q1 q2 q3:=by
   unfold addrOf at D;rw[C]at D;exact D
  rcases XM C with ⟨t,v',hop⟩|⟨c,x,hop,J,G⟩
  ·unfold isApp at hc;rw[hop]at hc;cases hc
  ·have z : evs E s c.args=[ev E s wa,ev E s x]:=by unfold evs;rw[G];rfl
   unfold BI at h;simp only[hop,J,z]at h;unfold Kw at h;split at h
   ·rename_i I _;cases I
   ·rename_i a y t' u' hb M he2;simp only[List.cons.injEq,and_true]at M;obtain⟨rfl,rfl⟩:=M;rw[S]at h;exact Zjf h
   ·simp_all
   ·simp_all
   ·simp_all
   ·rename_i I;cases I
   ·rename_i I;cases I
   ·cases h
 unfold Di at *;cases hg:o.guard with
 | none=>simp only[hg]at h;exact key h
 | some jw=>
  obtain⟨j,R⟩:=jw;simp only[hg]at h;cases Y:(ops[j]?).bind (·.dst) with
  | none=>simp[Y]at h
  | some d=>
   simp only[Y]at h;cases Q:JD (s.getD d .und) R with
   | none=>rw[Q]at h;cases h
   | some r=>
    rw[Q]at h;cases r with
    | true=>simp only at h;exact key h
    | false=>
     simp only[Option.some.injEq,Prod.mk.injEq]at h;rw[h.2];exact fun i _=>rfl
theorem ZiF {k:Nat} {H H1:Heap} {t u:TypeId} {x v:V} {a:Bool} {b:Nat} {c:List V} (C:k=H.length) (h:IP E k H t u (.sl a b c) x=some (v,H1)):∀i,i≠H.length->H1[i]? = H[i]?:=by
 intro i hi;subst C;unfold IP at h;split at h
 ·split at h
  ·split at h
   ·split at h
    ·rename_i z;cases z
    ·split at h
     ·simp only[Option.some.injEq,Prod.mk.injEq]at h;rw[<- h.2,Z8D]
      grind
     ·cases h
    ·rename_i z;cases z
    ·rename_i z;cases z
    ·cases h
   ·cases h
  ·cases h
 ·cases h
theorem Z8F {k:Nat} {o:Oper} {s:List V} {H H1:Heap} {v:V} (hc:isApp o=true) (Y:k=H.length) (D:∃a b c,addrOf E s o = .sl a b c) (h:Di call E ops k o ⟨s,H⟩=some (v,H1)):∀i,i≠H.length->H1[i]? = H[i]?:=by
 have key:BI call E k H s o=some (v,H1)->∀i,i≠H.length->H1[i]? = H[i]?:=by
  intro h;obtain⟨q1,q2,q3,D⟩:=D;have C:∃a,Iy o=some a:=by
   unfold addrOf at D;cases hw:Iy o with
   | none=>rw[hw]at D;cases D
   | some a=>exact⟨a,rfl⟩
  obtain⟨wa,C⟩:=C;have S:ev E s wa = .sl q1 q2 q3:=by
   unfold addrOf at D;rw[C]at D;exact D
  rcases XM C with ⟨t,v',hop⟩|⟨c,x,hop,J,G⟩
  ·unfold isApp at hc;rw[hop]at hc;cases hc
  ·have z : evs E s c.args=[ev E s wa,ev E s x]:=by unfold evs;rw[G];rfl
   unfold BI at h;simp only[hop,J,z]at h;unfold Kw at h;split at h
   ·rename_i I _;cases I
   ·rename_i a y t' u' hb M he2;simp only[List.cons.injEq,and_true]at M;obtain⟨rfl,rfl⟩:=M;rw[S]at h;exact ZiF Y h
   ·simp_all
   ·simp_all
   ·simp_all
   ·rename_i I;cases I
   ·rename_i I;cases I
   ·cases h
 unfold Di at *;cases hg:o.guard with
 | none=>simp only[hg]at h;exact key h
 | some jw=>
  obtain⟨j,R⟩:=jw;simp only[hg]at h;cases hd:(ops[j]?).bind (·.dst) with
  | none=>simp[hd]at h
  | some d=>
   simp only[hd]at h;cases Q:JD (s.getD d .und) R with
   | none=>rw[Q]at h;cases h
   | some r=>
    rw[Q]at h;cases r with
    | true=>simp only at h;exact key h
    | false=>
     simp only[Option.some.injEq,Prod.mk.injEq]at h;rw[h.2];exact fun i _=>rfl
theorem Zl6 (hcalls:Nr E call) (hm:∀i o,ops[i]? = some o->BU E o = .a->i<m) {x y:Nat} {ox oy:Oper} (hx:ops[x]? = some ox) (hy:ops[y]? = some oy) (hxy:x≠y)
  (R:(Xv E ops ox oy||(JV E ops lt x ox oy||JV E ops lt y oy ox))=true) (hlt:∀x t,(x,t)∈lt->∃ox,ops[x]? = some ox/\Sj E ops ox=some t) (hbit:(ms.getD y 0).testBit x=false) (M : (ms.getD x 0).testBit y=false) {st st1 st2:St}
  (hbase:base<=st.H.length)
  (h1:Gp call E ops ms lt s0 base m x st=some st1) (h2:Gp call E ops ms lt s0 base m y st1=some st2) :
  ∃st1',Gp call E ops ms lt s0 base m y st=some st1' /\ Gp call E ops ms lt s0 base m x st1' = some st2:=by
 have hpure:=hcalls.pure;have hfree:=hcalls.free;have hap:ox.apart ops oy=true\/oy.apart ops ox=true:=by
  simp only[Bool.or_eq_true,Xv,JV,Bool.and_eq_true]at R;rcases R with h|h|h
  ·exact .inl h.2
  ·exact .inl h.1
  ·exact .inr h.1
 have hsp:(∀d,ox.dst=some d->d∉oy.looksAt ops)/\(∀d,ox.dst=some d->oy.dst≠some d)/\(∀d,oy.dst=some d->d∉ox.looksAt ops):=by
  rcases hap with h|h
  ·exact Oper.apart_spec h
  ·obtain⟨b1,b2,b3⟩:=Oper.apart_spec h
   grind
 obtain⟨a1,a2,a3⟩:=hsp;obtain⟨s1,⟨l1,c1⟩,d1,vx,Hx,e1,rfl⟩:=(iT hx).1 h1;obtain⟨s2,⟨l2,c2⟩,d2,vy,Hy,e2,rfl⟩:=(iT hy).1 h2;obtain⟨s,H⟩:=st;simp only at *;rw[Z9k a1]at e2;rw[Z82 a1]at l2;have D : PU E ops ms lt s0 base m y s oy:=by unfold PU at *;rw[iP a1,Z6L a1,Z8t a1]at s2;exact s2
 have s1' : PU E ops ms lt s0 base m x (setSlot s oy.dst vy) ox:=by unfold PU at *;rw[iP a3,Z6L a3,Z8t a3];exact s1
 have keptx:BU E ox = .a->base+x<H.length:=fun hc=>by
  grind
 have nox:BU E ox = .a->base+x∉DR E s oy:=fun hc J=>by
  rcases D.1 _ J with h|⟨h,_⟩|⟨_,h⟩
  ·omega
  ·grind
  simp_all
 have noy:BU E oy = .a->base+y∉DR E s ox:=fun hc J=>by
  rcases s1.1 _ J with h|⟨h,_⟩|⟨_,h⟩
  ·omega
  ·grind
  simp_all
 have seex:BU E oy = .c->∀id∈DR E s ox,id<base+m:=fun hc id hid=>by
  rcases s1.1 id hid with h|⟨_,h⟩|⟨h,_⟩
  ·omega
  ·exfalso;unfold VO at h;rw[List.all_eq_true]at h;have:=h y (by grind);simp only[hy,hc,linked,hbit,M,decide_true,Bool.not_true,Bool.or_self,Bool.or_false,beq_iff_eq]at this;exact hxy this.symm
  ·exact h
 have seey:BU E ox = .c->∀id∈DR E s oy,id<base+m:=fun hc id hid=>by
  rcases D.1 id hid with h|⟨_,h⟩|⟨h,_⟩
  ·omega
  ·exfalso;unfold VO at h;rw[List.all_eq_true]at h;have:=h x (by simpa using (Array.getElem?_eq_some_iff.1 hx).1);simp only[hx,hc,linked,hbit,M,decide_true,Bool.not_true,Bool.or_self,Bool.or_false,beq_iff_eq]at this;exact hxy this
  ·exact h
 have fin:∀(Hy' : Heap),PU E ops ms lt s0 base m y s oy->(GR E ms lt s0 base y s H oy=true/\Qe E ops base m oy H)->(BU E oy = .a->∃b,H[base+y]? = some b/\(b.live=false/\b.row=false))->Di call E ops (CO E oy base y H) oy ⟨s,H⟩=some (vy,Hy') ->
   (GR E ms lt s0 base x s Hy' ox=true/\Qe E ops base m ox Hy')->(BU E ox = .a->∃b,Hy'[base+x]? = some b/\(b.live=false/\b.row=false))->Di call E ops (CO E ox base x Hy') ox ⟨s,Hy'⟩=some (vx,Hy) ->
   ∃st1',Gp call E ops ms lt s0 base m y ⟨s,H⟩=some st1' /\ Gp call E ops ms lt s0 base m x st1' = some ⟨setSlot (setSlot s ox.dst vx) oy.dst vy,Hy⟩:=by
  intro Hy' g1 l3 g2 g3 l4 g4 g5;refine⟨⟨setSlot s oy.dst vy,Hy'⟩,(iT hy).2 ⟨g1,l3,g2,vy,Hy',g3,rfl⟩,(iT hx).2 ⟨s1',⟨(by rw[Z82 a3];exact l4.1),l4.2⟩,g4,vx,Hy,?_,?_⟩⟩
  ·rw[Z9k a3];exact g5
  ·rw[Zjs a2]
 have C:∀(z:Nat) (oz:Oper),ops[z]? = some oz->BU E oz≠.w->∀t,(z,t)∉lt:=by
  intro z oz hz hc t J;obtain⟨o',ho',ht'⟩:=hlt z t J;rw[hz]at ho';cases ho';exact hc (jZ ht').1
 cases hlx:JV E ops lt x ox oy with
 | true=>
  unfold JV at hlx;simp only[Bool.and_eq_true,List.any_eq_true,beq_iff_eq]at hlx;obtain⟨_,hny,⟨x',t⟩,J,hx'⟩:=hlx;simp only at hx';subst hx';obtain⟨ox',hox',htx⟩:=hlt _ t J;rw[hx]at hox';cases hox';have hnw:=Z9P hny;obtain⟨b,n,hn,hnin,hnlt,rfl,f3⟩:=Z8d htx J l1 e1;have hjy:n∉DR E s oy:=Z8B J hxy hny hbit M hn l2;have late1:∀Hy' : Heap,Hy'[n]? = H[n]? -> GR E ms lt s0 base x' s Hy' ox=true:=fun Hy' hat=>by
   refine Z7u (fun p hp k he hk=>?_) l1
   grind
  have ncx:IC E ox=true->False:=fun hc=>ZP htx hc
  by_cases Y:BU E oy = .c
  ·obtain⟨idy,nbs,y1,rfl,y4⟩:=iE hfree Y e2;have hl:base+m<=H.length:=by have:=(c2 (lH Y)).1;rw[List.length_set]at this;exact this
   have Q:n∉idy:=fun h=>hjy (y1 _ h);have g3:=y4 H (CO E oy base y H) (by rw[List.length_set]) (Zab hjy).symm;have hat:(bump H idy++nbs)[n]? = H[n]?:=by
    rw[List.getElem?_append_left (by rw[bump_length];exact hnlt),Ic];cases H[n]? with
    | none=>rfl
    | some b=>simp[Q]
   refine fin _ D ⟨Hf (C y oy hy hnw) l2,fun _=>⟨hl,fun h=>(mO h Y).elim⟩⟩ (fun hc=>by simp_all) g3 ⟨late1 _ hat,fun hc=>(ncx hc).elim⟩ (fun hc=>by simp_all) ?_;rw[f3 _ _ hat (gI nbs (QW _ _ _) (fun i hi=>by rw[bump_length];exact Nat.lt_of_lt_of_le (seex Y i hi) hl))];congr 2;rw[List.set_append_left _ _ (by rw[bump_length];exact hnlt)];congr 1;have:=jH (ids:=idy) (nb:=none) (k' :=0) (H:=H) (b:=b) (k:=n) (fun h=>by cases h) Q;exact this.symm
  have hne:BU E oy = .a->base+y≠n:=fun hc e=>noy hc (by rw[e];exact hnin);obtain⟨idy,G,y1,y2,rfl,y4⟩:=VG hpure hnw Y D.2.1 e2;have hkH:CO E oy base y (H.set n b)=CO E oy base y H:=by unfold CO;rw[List.length_set]
  have deady:BU E oy = .a->∃b,H[base+y]? = some b/\(b.live=false/\b.row=false):=fun hc=>by
   grind
  have hyl:G.isSome=true->CO E oy base y H<H.length/\CO E oy base y H≠n:=fun h=>by
   have hc:=y2 h;obtain⟨b',hb',_⟩:=deady hc;have:=(List.getElem?_eq_some_iff.1 hb').1;unfold CO
   grind
  have Q:n∉idy:=fun h=>hjy (y1 _ h);have g3:=y4 H (CO E oy base y H) (fun hc=>by rw[hkH]) (fun i hi=>by grind);have hat:=ZaY (H:=H) hyl Q;refine fin _ D ⟨Hf (C y oy hy hnw) l2,Jh Y hnw⟩ deady g3 ⟨late1 _ hat,fun hc=>(ncx hc).elim⟩ (fun hc=>by simp_all) ?_;rw[f3 _ _ hat (Rz (fun h=>⟨(hyl h).1,by
    have hk:CO E oy base y H=base+y:=by simp[CO,y2 h]
    rw[hk];exact noy (y2 h)⟩)),hkH,jH hyl Q]
 | false=>
 cases hly:JV E ops lt y oy ox with
 | true=>
  unfold JV at hly;simp only[Bool.and_eq_true,List.any_eq_true,beq_iff_eq]at hly;obtain⟨_,hnx,⟨y',t⟩,J,hy'⟩:=hly;simp only at hy';subst hy';obtain⟨oy',hoy',hty⟩:=hlt _ t J;rw[hy]at hoy';cases hoy';have hnw:=Z9P hnx;obtain⟨b,n,hn,hnin,hnlt,rfl,f3⟩:=Z8d hty J l2 e2;have hjx:n∉DR E s ox:=Z8B J (Ne.symm hxy) hnx M hbit hn l1;have late2:Hx[n]? = H[n]? -> GR E ms lt s0 base y' s H oy=true:=fun hat=>by
   refine Z7u (fun p hp k he hk=>?_) l2
   grind
  have ncy:IC E oy=true->False:=fun hc=>ZP hty hc
  by_cases S:BU E ox = .c
  ·obtain⟨idx,nbs,x1,rfl,x4⟩:=iE hfree S e1;have hl:base+m<=H.length:=(c1 (lH S)).1;have hnl:n<H.length:=Nat.lt_of_lt_of_le (seey S n hnin) hl;have Q:n∉idx:=fun h=>hjx (x1 _ h);have hat:(bump H idx++nbs)[n]? = H[n]?:=by
    rw[List.getElem?_append_left (by rw[bump_length];exact hnl),Ic];cases H[n]? with
    | none=>rfl
    | some b=>simp[Q]
   refine fin _ D ⟨late2 hat,fun hc=>(ncy hc).elim⟩ (fun hc=>by rw[(jZ hty).1]at hc;cases hc) (f3 _ H hat.symm (gI nbs (QW _ _ _) (fun i hi=>by rw[bump_length];exact Nat.lt_of_lt_of_le (seey S i hi) hl)).symm)
    ⟨Hf (C x ox hx hnw) l1,fun _=>⟨by grind,fun h=>(mO h S).elim⟩⟩ (fun hc=>by simp_all) ?_
   rw[x4 _ _ (by rw[List.length_set]) (Zab hjx)];congr 2;rw[List.set_append_left _ _ (by rw[bump_length];exact hnl)];congr 1;have:=jH (ids:=idx) (nb:=none) (k' :=0) (H:=H) (b:=b) (k:=n) (fun h=>by cases h) Q;exact this
  obtain⟨idx,I,x1,x2,rfl,x4⟩:=VG hpure hnw S s1.2.1 e1;have hne:BU E ox = .a->base+x≠n:=fun hc e=>nox hc (by rw[e];exact hnin);have hxl:I.isSome=true->CO E ox base x H<H.length/\CO E ox base x H≠n:=fun h=>by
   have hc:=x2 h;have:=keptx hc;unfold CO
   grind
  have Q:n∉idx:=fun h=>hjx (x1 _ h);have hat:=ZaY (H:=H) hxl Q;have hkS:CO E ox base x (H.set n b)=CO E ox base x H:=by unfold CO;rw[List.length_set]
  have hsy:CW (DR E s oy) (eff idx I (CO E ox base x H) H) H:=(Rz (fun h=>⟨(hxl h).1,by
   have hk:CO E ox base x H=base+x:=by simp[CO,x2 h]
   grind⟩)).symm
  refine fin _ D ⟨late2 hat,fun hc=>(ncy hc).elim⟩ (fun hc=>by simp_all) (f3 _ H hat.symm hsy) ⟨Hf (C x ox hx hnw) l1,Jh S hnw⟩ (fun hc=>?_) ?_
  ·grind
  ·rw[x4 _ _ (fun hc=>by rw[hkS]) (fun i hi=>by rw[List.getElem?_set_ne (fun e=>hjx (by rw[e];exact hi))]),hkS,jH hxl Q]
 | false=>
 rw[hlx,hly,Bool.or_false,Bool.or_false]at R;unfold Xv at R;simp only[Bool.and_eq_true]at R;have hcomp:=R.1;simp only[Bool.or_eq_true,Bool.and_eq_true]at hcomp;have norow:∀(z:Nat) (oz:Oper),ops[z]? = some oz->Hr E oz=true->∀t,(z,t)∉lt:=by
  intro z oz hz hc t J;obtain⟨o',ho',ht'⟩:=hlt z t J;rw[hz]at ho';cases ho';exact ZP ht' (ZY hc)
 have nolt:lt.any (fun p=>p.1==x)=false\/isApp ox=false\/Io oy=false:=by
  cases h1:Io oy with
  | false=>exact .inr (.inr rfl)
  | true=>
   refine .inl ?_;have hn:needs E oy=true:=Z7a h1;have:JV E ops lt x ox oy=false:=hlx;unfold JV at this;rw[R.2,hn,Bool.true_and,Bool.true_and]at this;exact this
 have nolt' : lt.any (fun p=>p.1==y)=false\/isApp oy=false\/Io ox=false:=by
  cases h1:Io ox with
  | false=>exact .inr (.inr rfl)
  | true=>
   refine .inl ?_;have hn:needs E ox=true:=Z7a h1;have:JV E ops lt y oy ox=false:=hly;unfold JV at this;rw[ZlR R.2,hn,Bool.true_and,Bool.true_and]at this;exact this
 have hxs:x<ops.size:=(Array.getElem?_eq_some_iff.1 hx).1;have hys:y<ops.size:=(Array.getElem?_eq_some_iff.1 hy).1;rcases hcomp with (hcomp|⟨hrx,hay⟩|⟨hry,hax⟩)|⟨hpx,hldy⟩|⟨hpy,hldx⟩
 rotate_left
 ·have hya:=ZaD (E:=E) hay;have hny:BU E oy≠.w:=by rw[hya];simp
  have hnc:BU E oy≠.c:=by rw[hya];simp
  have hrw:=(Xy hrx).1;have hk:∀H',CO E oy base y H' = base+y:=fun H' =>by simp[CO,hya]
  obtain⟨hl,hal⟩:=c1 (ZY hrx);obtain⟨b0,hb0,hr0⟩:=Zra hy hay (hal hrx);have hlt0:=(List.getElem?_eq_some_iff.1 hb0).1;obtain⟨r1,r2⟩:=Z04 hcalls.row hrx e1 hb0 hr0;have d2' : BU E oy = .a->∃b,H[base+y]? = some b/\(b.live=false/\b.row=false):=fun hc=>by
   obtain⟨b,hb,hd⟩:=d2 hc;rw[r1]at hb;cases hb;exact⟨b0,hb0,hd⟩
  rw[hk]at e2;rcases Z9y hay e2 with ⟨b,hbr,rfl,f⟩|⟨rfl,f⟩
  ·have hp:place H (base+y) b=H.set (base+y) b:=by unfold place;rw[if_pos hlt0]
   have hp' : place Hx (base+y) b=Hx.set (base+y) b:=by unfold place;rw[if_pos (List.getElem?_eq_some_iff.1 r1).1]
   refine fin (H.set (base+y) b) D ⟨Hf (C y oy hy hny) l2,Jh hnc hny⟩ d2' (by rw[hk,f,hp]) ⟨Hf (norow x ox hx hrx) l1,fun _=>⟨by rw[List.length_set];exact hl,fun _=>Z9d hbr (hal hrx)⟩⟩ (fun hc=>by rw[hrw]at hc;cases hc) ?_;rw[hp'];exact r2 b _ hbr
  ·exact fin H D ⟨Hf (C y oy hy hny) l2,Jh hnc hny⟩ d2' (by rw[hk];exact f H) ⟨l1,c1⟩ (fun hc=>by rw[hrw]at hc;cases hc) e1
 ·have hxa:=ZaD (E:=E) hax;have hnx:BU E ox≠.w:=by rw[hxa];simp
  have hnc:BU E ox≠.c:=by rw[hxa];simp
  have hrw:=(Xy hry).1;have hk:∀H',CO E ox base x H' = base+x:=fun H' =>by simp[CO,hxa]
  obtain⟨bd,hbd,hdl,hdr⟩:=d1 hxa;have hlt0:=(List.getElem?_eq_some_iff.1 hbd).1;rw[hk]at e1;rcases Z9y hax e1 with ⟨b,hbr,rfl,f⟩|⟨rfl,f⟩
  ·have hp:place H (base+x) b=H.set (base+x) b:=by unfold place;rw[if_pos hlt0]
   rw[hp]at e2 c2;obtain⟨hl,hal⟩:=c2 (ZY hry);rw[List.length_set]at hl;have hback:(H.set (base+x) b).set (base+x) bd=H:=by
    rw[List.set_set];apply List.ext_getElem?;intro i;rw[List.getElem?_set]
    grind
   obtain⟨r1,r2⟩:=Z04 hcalls.row hry e2 (List.getElem?_set_self hlt0) hbr;have hlty:=(List.getElem?_eq_some_iff.1 r1).1;have r3:=r2 bd (CO E oy base y H) hdr;rw[hback]at r3;have hal' :=Z9d (n:=base+x) hdr (hal hry);rw[hback]at hal';refine fin (Hy.set (base+x) bd) D ⟨Hf (norow y oy hy hry) l2,fun _=>⟨hl,fun _=>hal'⟩⟩ (fun hc=>by rw[hrw]at hc;cases hc) r3 ⟨Hf (C x ox hx hnx) l1,Jh hnc hnx⟩ (fun _=>⟨bd,List.getElem?_set_self hlty,hdl,hdr⟩) ?_;rw[hk,f];have hq:place (Hy.set (base+x) bd) (base+x) b=Hy:=by
    unfold place;rw[if_pos (by rw[List.length_set];exact hlty),List.set_set];apply List.ext_getElem?;intro i;rw[List.getElem?_set]
    grind
   rw[hq]
  ·obtain⟨r1,r2⟩:=Z04 hcalls.row hry e2 hbd hdr;exact fin Hy D ⟨l2,c2⟩ (fun hc=>by rw[hrw]at hc;cases hc) e2 ⟨Hf (C x ox hx hnx) l1,Jh hnc hnx⟩ (fun _=>⟨bd,r1,hdl,hdr⟩) (by rw[hk];exact f Hy)
 ·have hln:=Z0D (E:=E) hldy;have hw:=Za7 (E:=E) hpx;have hlt1:lt.any (fun p=>p.1==x)=false:=by
   rcases nolt with h|h|h
   ·exact h
   ·rw[hpx]at h;cases h
   ·rw[hldy]at h;cases h
  obtain⟨n,hn1,hn2⟩:=Z84 hy hpx hldy hlt1 (by unfold linked;rw[hbit,M];rfl) s1.2.2;obtain⟨n',hn1',hn4⟩:=Z8T hx hpx hldy hlt1 (by unfold linked;rw[hbit,M];rfl) D.2.2;rw[hn1]at hn1';cases hn1';obtain⟨q1,q2⟩:=Zag hldy e2;subst q1;have hsim:CW (DR E s oy) Hy H:=fun i hi=>by
   rcases hn2 with ⟨id,hn2,hn3⟩|⟨hn2,hn3⟩
   ·rw[Z8W hpx hn2 e1 i (by rw[hn4 i hi];exact hn3)]
   ·rw[Z8F hpx (by unfold CO;rw[if_neg (by rw[hw];simp)]) hn2 e1 i (by rw[hn4 i hi];omega)]
  refine fin H D ⟨Hf (C y oy hy (by rw[hln];simp)) l2,Jh (by rw[hln];simp) (by rw[hln];simp)⟩ (fun hc=>by rw[hln]at hc;cases hc) (q2 _ _ hsim) ⟨l1,c1⟩ (fun hc=>by rw[hw]at hc;cases hc) e1
 ·have hln:=Z0D (E:=E) hldx;have hw:=Za7 (E:=E) hpy;have hlt1:lt.any (fun p=>p.1==y)=false:=by
   rcases nolt' with h|h|h
   ·exact h
   ·rw[hpy]at h;cases h
   ·rw[hldx]at h;cases h
  obtain⟨n,hn1,hn2⟩:=Z84 hx hpy hldx hlt1 (by unfold linked;rw[hbit,M];rfl) D.2.2;obtain⟨n',hn1',hn4⟩:=Z8T hy hpy hldx hlt1 (by unfold linked;rw[hbit,M];rfl) s1.2.2;rw[hn1]at hn1';cases hn1';obtain⟨q1,q2⟩:=Zag hldx e1;subst q1;have hsim:CW (DR E s ox) Hx Hy:=fun i hi=>by
   rcases hn2 with ⟨id,hn2,hn3⟩|⟨hn2,hn3⟩
   ·rw[Z8W hpy hn2 e2 i (by rw[hn4 i hi];exact hn3)]
   ·rw[Z8F hpy (by unfold CO;rw[if_neg (by rw[hw];simp)]) hn2 e2 i (by rw[hn4 i hi];omega)]
  exact fin Hy D ⟨l2,c2⟩ (fun hc=>by rw[hw]at hc;cases hc) e2 ⟨Hf (C x ox hx (by rw[hln];simp)) l1,Jh (by rw[hln];simp) (by rw[hln];simp)⟩ (fun hc=>by rw[hln]at hc;cases hc) (q2 _ _ hsim)
 by_cases hcx:BU E ox = .s
 ·obtain⟨f1,f2⟩:=Zaz hcx e1;subst f1;exact fin Hy D ⟨l2,c2⟩ d2 e2 ⟨Hf (C x ox hx (by simp_all)) l1,Jh (by rw[hcx];simp) (by rw[hcx];simp)⟩ (fun hc=>by simp_all) (f2 _ _)
 by_cases hcy:BU E oy = .s
 ·obtain⟨f1,f2⟩:=Zaz hcy e2;subst f1;exact fin H D ⟨Hf (C y oy hy (by simp_all)) l2,Jh (by rw[hcy];simp) (by rw[hcy];simp)⟩ (fun hc=>by simp_all) (f2 _ _) ⟨l1,c1⟩ d1 e1
 have hwx:BU E ox≠.w:=fun hw=>by rw[hw]at hcomp;cases hh:BU E oy<;>simp_all [Z0J]
 have hwy:BU E oy≠.w:=fun hw=>by rw[hw]at hcomp;cases hh:BU E ox<;>simp_all [Z0J]
 by_cases S:BU E ox = .c
 ·have Y:BU E oy≠.c:=fun hc=>by rw[S,hc]at hcomp;cases hcomp
  obtain⟨idx,nbs,x1,rfl,x4⟩:=iE hfree S e1;obtain⟨idy,G,y1,y2,rfl,y4⟩:=VG hpure hwy Y D.2.1 e2;have hl:base+m<=H.length:=(c1 (lH S)).1;have hry:∀i∈DR E s oy,i<H.length:=fun i hi=>Nat.lt_of_lt_of_le (seey S i hi) hl;have kyl:G.isSome=true->base+y<H.length:=fun h=>by grind
  have g3:=y4 H (CO E oy base y H) (fun hc=>by simp[CO,hc]) (gI nbs (QW _ _ _) (fun i hi=>by rw[bump_length];exact hry i hi)).symm;have hke:∀H' : Heap,eff idy G (CO E oy base y H')=eff idy G (base+y):=fun H' =>by
   cases hnb:G with
   | none=>rfl
   | some b=>simp[CO,y2 (by rw[hnb];rfl)]
  rw[hke]at g3;have kyn:G.isSome=true->base+y∉DR E s ox:=fun h=>noy (y2 h);have hlen:(eff idy G (base+y) H).length=H.length:=Um kyl;have dy:BU E oy = .a->∃b,H[base+y]? = some b/\(b.live=false/\b.row=false):=fun hc=>by
   obtain⟨b,hb,hd⟩:=d2 hc;have hlt:base+y<H.length:=by have:=hm y oy hy hc;omega
   rw[List.getElem?_append_left (by rw[bump_length];exact hlt),Ic]at hb
   grind
  refine fin _ D ⟨Hf (C y oy hy hwy) l2,Jh Y hwy⟩ dy g3 ⟨Hf (C x ox hx hwx) l1,fun _=>⟨by rw[hlen];exact hl,fun h=>(mO h S).elim⟩⟩ (fun hc=>by simp_all) ?_;rw[x4 _ _ hlen (Rz (fun h=>⟨kyl h,kyn h⟩)),hke];congr 2;rw[Z7t nbs (fun i hi=>by rw[bump_length];exact hry i (y1 i hi)) (fun h=>by rw[bump_length];exact kyl h)];congr 1;have:=Z03 (Ec:=idx) (ids2:=idy) (nb1:=none) (nb2:=G) (k1:=0) (k2:=base+y) (H:=H) (fun h=>by cases h) (fun h=>⟨kyl h,fun J=>kyn h (x1 _ J)⟩) (fun h=>by cases h);exact this
 by_cases Y:BU E oy = .c
 ·obtain⟨idx,I,x1,x2,rfl,x4⟩:=VG hpure hwx S s1.2.1 e1;obtain⟨idy,nbs,y1,rfl,y4⟩:=iE hfree Y e2;have kxl:I.isSome=true->base+x<H.length:=fun h=>keptx (x2 h);have hke:∀H' : Heap,eff idx I (CO E ox base x H')=eff idx I (base+x):=fun H' =>by
   cases hnb:I with
   | none=>rfl
   | some b=>simp[CO,x2 (by rw[hnb];rfl)]
  rw[hke]at c2 y4;have hlen:(eff idx I (base+x) H).length=H.length:=Um kxl;have hl:base+m<=H.length:=by have:=(c2 (lH Y)).1;rw[hlen]at this;exact this
  have hrx:∀i∈DR E s ox,i<H.length:=fun i hi=>Nat.lt_of_lt_of_le (seex Y i hi) hl;have g3:=y4 H (CO E oy base y H) hlen.symm (Rz (fun h=>⟨kxl h,nox (x2 h)⟩)).symm;refine fin _ D ⟨Hf (C y oy hy hwy) l2,fun _=>⟨hl,fun h=>(mO h Y).elim⟩⟩ (fun hc=>by simp_all) g3 ⟨Hf (C x ox hx hwx) l1,Jh S hwx⟩ (fun hc=>?_) ?_
  ·obtain⟨b,hb,hd⟩:=d1 hc;have hlt:=keptx hc;rw[List.getElem?_append_left (by rw[bump_length];exact hlt),Ic,hb]
   grind
  ·rw[x4 _ (CO E ox base x (bump H idy++nbs)) (fun hc=>by simp[CO,hc]) (gI nbs (QW _ _ _) (fun i hi=>by rw[bump_length];exact hrx i hi)),hke,hke];congr 2;rw[Z7t nbs (fun i hi=>by rw[bump_length];exact hrx i (x1 i hi)) (fun h=>by rw[bump_length];exact kxl h)];congr 1;have:=Z03 (Ec:=idx) (ids2:=idy) (nb1:=I) (nb2:=none) (k1:=base+x) (k2:=0) (H:=H) (fun h=>⟨kxl h,fun J=>nox (x2 h) (y1 _ J)⟩) (fun h=>by cases h) (fun _ h=>by cases h);exact this
 obtain⟨idx,I,x1,x2,rfl,x4⟩:=VG hpure hwx S s1.2.1 e1;obtain⟨idy,G,y1,y2,rfl,y4⟩:=VG hpure hwy Y D.2.1 e2;have kx:I.isSome=true->CO E ox base x H=base+x:=fun h=>by simp[CO,x2 h]
 have hxlt:I.isSome=true->CO E ox base x H<H.length:=fun h=>by grind
 have hlen:=Um (ids:=idx) hxlt;have ky:G.isSome=true->∀H',CO E oy base y H' = base+y:=fun h H' =>by simp[CO,y2 h]
 have simx:CW (DR E s oy) (eff idx I (CO E ox base x H) H) H:=(Rz (fun h=>⟨hxlt h,by grind⟩)).symm;have deady:BU E oy = .a->∃b,H[base+y]? = some b/\(b.live=false/\b.row=false):=fun hc=>
  (Z8I (fun h=>⟨hxlt h,by rw[kx h];omega⟩)).1 (d2 hc)
 have hylt:BU E oy = .a->base+y<H.length:=fun hc=>by
  grind
 have g3:=y4 H (CO E oy base y H) (fun hc=>by simp[CO,hc]) simx;have hylt' : G.isSome=true->CO E oy base y H<H.length:=fun h=>by grind
 refine fin _ D ⟨Hf (C y oy hy hwy) l2,Jh Y hwy⟩ deady g3 ⟨Hf (C x ox hx hwx) l1,Jh S hwx⟩ (fun hc=>(Z8I (fun h=>⟨hylt' h,by rw[ky h];omega⟩)).2 (d1 hc)) ?_;have simy:CW (DR E s ox) H (eff idy G (CO E oy base y H) H):=Rz (fun h=>⟨hylt' h,by grind⟩);have g5:=x4 _ (CO E ox base x (eff idy G (CO E oy base y H) H)) (fun hc=>by simp[CO,hc]) simy;rw[g5];have hk1:I.isSome=true->CO E ox base x (eff idy G (CO E oy base y H) H)=base+x:=fun h=>by simp[CO,x2 h]
 have hkx:eff idx I (CO E ox base x (eff idy G (CO E oy base y H) H)) (eff idy G (CO E oy base y H) H)=eff idx I (CO E ox base x H) (eff idy G (CO E oy base y H) H):=by
  cases I with
  | none=>rfl
  | some b=>rw[hk1 rfl,kx rfl]
 have hky:eff idy G (CO E oy base y (eff idx I (CO E ox base x H) H)) (eff idx I (CO E ox base x H) H)=eff idy G (CO E oy base y H) (eff idx I (CO E ox base x H) H):=by
  cases G with
  | none=>rfl
  | some b=>rw[ky rfl,ky rfl]
 rw[hkx,hky];congr 2;exact Z03 (fun h=>⟨hxlt h,by grind⟩) (fun h=>⟨hylt' h,by grind⟩) (fun h1 h2=>by grind)
end
end Go.Proofs.YteinepnbndegdaaGreat.Le
namespace Go.Proofs.YteinepnbndegdaaGreat.Le
open Go.RowKit (Below)
theorem ZmN (acc:List Nat) (j:Nat):∀(es:List Edge) (m:Nat),(es.foldl (fun m e=>if Region.binds .any e then m ||| (1 <<< e.on) ||| acc.getD e.on 0 else m) m).testBit j=true↔
  m.testBit j=true\/∃e∈es,Region.binds .any e=true/\(j=e.on\/(acc.getD e.on 0).testBit j=true):=by
 intro es;induction es with
 | nil=>intro m;simp
 | cons e es z=>
  intro m;rw[List.foldl_cons,z]
  by_cases hb:Region.binds .any e=true
  ·simp only[hb,if_true,Nat.testBit_or,Bool.or_eq_true,Nat.one_shiftLeft,Nat.testBit_two_pow,decide_eq_true_eq,List.mem_cons,exists_eq_or_imp,true_and]
   grind
  simp_all
theorem ZlL (z:List Nat) (o:Oper) (j:Nat):(V7 z o).testBit j=true↔∃e∈o.after,Region.binds .any e=true/\(j=e.on\/(z.getD e.on 0).testBit j=true):=by
 unfold V7;rw[ZmN];simp
theorem Z7D:∀(os:List Oper) (z:List Nat) (i:Nat),i<z.length->(F8 z os)[i]? = z[i]?:=by
 intro os;induction os with
 | nil=>intro z i hi;rfl
 | cons o os C=>
  intro z i hi;simp only[F8]
  grind
theorem Zn0:∀(os:List Oper) (C:List Nat) (i:Nat) (o:Oper),os[i]? = some o ->
  ∃z,(F8 C os)[C.length+i]? = some (V7 z o)/\z.length=C.length+i/\∀j,j<z.length->(F8 C os)[j]? = z[j]?:=by
 intro os;induction os with
 | nil=>intro C i o h;simp at h
 | cons p os J=>
  intro C i o h;cases i with
  | zero=>
   simp at h;subst h;refine⟨C,?_,rfl,fun j I=>?_⟩
   ·simp only[F8];rw[Z7D _ _ _ (by simp)];simp
   ·simp only[F8];rw[Z7D _ _ _ (by simp;omega),List.getElem?_append_left I]
  | succ i=>
   simp at h;obtain⟨z,M,D,G⟩:=J (C++[V7 C p]) i o h;refine⟨z,?_,by rw[D];simp;omega,G⟩;simp only[F8]
   grind
section
variable {E:Env} {ops:Array Oper}
structure Z8x (E:Env) (ops:Array Oper):Prop where
 low:∀(i:Nat) (o:Oper),ops[i]? = some o->∀e∈o.after,Region.binds .any e=true->e.on<i
 bit:∀(i:Nat) (o:Oper),ops[i]? = some o->∀j,((F8 [] ops.toList).getD i 0).testBit j=true↔∃e∈o.after,Region.binds .any e=true/\(j=e.on\/((F8 [] ops.toList).getD e.on 0).testBit j=true)
 lt:∀(i j:Nat),i<ops.size->((F8 [] ops.toList).getD i 0).testBit j=true->j<i
 pass:∀(x y:Nat) (ox oy:Oper),ops[x]? = some ox->ops[y]? = some oy->x<y->((F8 [] ops.toList).getD y 0).testBit x=true\/(Xv E ops ox oy||(JV E ops (P7 E ops) x ox oy||JV E ops (P7 E ops) y oy ox))=true
theorem Zja (h:kS E ops=true):Z8x E ops:=by
 unfold kS at h;simp only[List.all_eq_true,List.mem_range]at h;have D:∀(i:Nat) (o:Oper),ops[i]? = some o->∀e∈o.after,Region.binds .any e=true->e.on<i:=by
  intro i o G e M;have:=h i (Array.getElem?_eq_some_iff.1 G).1;simp only[G,Bool.and_eq_true,Array.all_eq_true_iff_forall_mem,Bool.or_eq_true,Bool.not_eq_true',decide_eq_true_eq]at this;intro hb;rcases this.1 e M with hh|hh
  ·rw[hb]at hh;cases hh
  ·exact hh
 have C:∀(i:Nat) (o:Oper),ops[i]? = some o->∀j,((F8 [] ops.toList).getD i 0).testBit j=true↔∃e∈o.after,Region.binds .any e=true/\(j=e.on\/((F8 [] ops.toList).getD e.on 0).testBit j=true):=by
  intro i o G j;obtain⟨z,I,J,Q⟩:=Zn0 ops.toList [] i o (by simpa using G);simp only[List.length_nil,Nat.zero_add]at I J;have hi:(F8 [] ops.toList).getD i 0=V7 z o:=by simp[List.getD,I]
  rw[hi,ZlL];constructor
  ·grind
  ·grind
 refine⟨D,C,?_,?_⟩
 ·intro i;induction i using Nat.strongRecOn with
  | _ i S=>
   intro j hi R;have G:ops[i]? = some ops[i]:=by simp[hi]
   grind
 grind
end
section
variable {call:CV} {E:Env} {ops:Array Oper} {ms:List Nat} {lt:List (Nat×(Nat⊕Nat))} {s0:List V} {base m:Nat}
theorem Zky (hl:NG call) {i:Nat} {r:St}:∀(G I:List Nat) (st:St),base<=st.H.length->(∀y∈G,∀st C M,base<=st.H.length->Gp call E ops ms lt s0 base m y st=some C->Gp call E ops ms lt s0 base m i C=some M ->
      ∃D,Gp call E ops ms lt s0 base m i st=some D /\ Gp call E ops ms lt s0 base m y D = some M) ->
  Jk call E ops ms lt s0 base m (G++i::I) st=some r->∃C,Gp call E ops ms lt s0 base m i st=some C/\Jk call E ops ms lt s0 base m (G++I) C=some r:=by
 intro G;induction G with
 | nil=>
  intro I st _ _ h;simp only[List.nil_append,Jk]at h
  grind
 | cons y G ih=>
  intro I st hb J h;simp only[List.cons_append,Jk]at h;cases Q:Gp call E ops ms lt s0 base m y st with
  | none=>simp[Q]at h
  | some R=>
   simp only[Q]at h;obtain⟨sb,S,Y⟩:=ih I R (Nat.le_trans hb (Zn hl Q)) (fun z hz=>J z (List.mem_cons_of_mem _ hz)) h;obtain⟨sc,h4,h5⟩:=J y (by simp) st R sb hb Q S;exact⟨sc,h4,by simp only[List.cons_append,Jk,h5];exact Y⟩
theorem Zoa {B:Nat} {w0:Start} {σ:Sg} {P:Program} {st st' : St} {a:Act} {w:World} (J:Bl E) (M:E.P=P) (D:JX P E B w0 call) {i:Nat} (h:EK E B w0 σ st a w) (z:Gp call E ops ms lt s0 base m i st=some st')
  {K:Act->World->Prop} {Q:Exit->Act->World->Prop} (Y:∀I w' σ',EK E B w0 σ' st' I w' -> Ext σ w σ' w' -> K I w'):wpOp P ops Q i K a w:=by
 have C:∃k,Eg st.H k=true/\JC call E ops k i st=some st' :=by
  unfold Gp at z;cases G:ops[i]? with
  | none=>
   simp only[G]at z;exact⟨st.H.length,XY _,by unfold JC;simp only[G];exact z⟩
  | some o=>
   simp only[G]at z;split at z
   ·split at z
    ·split at z
     ·rename_i b hb;split at z
      ·cases z
      ·rename_i S;exact⟨base+i,by unfold Eg;simp only[hb];simpa using S,z⟩
     ·cases z
    ·exact⟨st.H.length,XY _,z⟩
   ·cases z
 obtain⟨k,R,C⟩:=C;exact Z8E J M D R h C Y
theorem Zpd {B:Nat} {w0:Start} {P:Program} {r:St} (hE:Bl E) (hP:E.P=P) (hcall:JX P E B w0 call) (G:Nr E call) (hf:Z8x E ops) (hm:∀(i:Nat) (o:Oper),ops[i]? = some o->BU E o = .a->i<m)
  {Q:Exit->Act->World->Prop}:∀(D:Nat) (M:List Nat) (listed:Array Bool) (st:St) (σ:Sg) (a:Act) (w:World),M.length<=D->listed.size=ops.size ->
  (∀j,j∈M↔listed.getD j true=false)->M.Pairwise (· < ·)->(∀k j,listed.getD k false=true->((F8 [] ops.toList).getD k 0).testBit j=true->listed.getD j false=true) ->
  Jk call E ops (F8 [] ops.toList) (P7 E ops) s0 base m M st=some r->base<=st.H.length->EK E B w0 σ st a w->(∀a' w' σ',EK E B w0 σ' r a' w' -> Ext σ w σ' w' -> Q .normal a' w')->wpAny P .any ops Q D listed a w:=by
 intro D;induction D with
 | zero=>
  intro M listed st σ a w hl hsz hM C hdown hs hbl hr hn;have hnil:M=[]:=List.eq_nil_of_length_eq_zero (by omega);subst hnil;simp only[Jk,Option.some.injEq]at hs;subst hs;refine⟨?_,hn a w σ hr (Ext.refl σ w)⟩;cases hrd:Region.ready .any ops listed with
  | nil=>rfl
  | cons i rest=>
   have hi:i∈Region.ready .any ops listed:=by rw[hrd];simp
   have:=(hM i).2 (mem_ready.1 hi).1;cases this
 | succ D ih=>
  intro M listed st σ a w hl hsz hM C hdown hs hbl hr hn;have hlist:∀j,j<ops.size->j∉M->listed.getD j false=true:=by
   intro j hj hn;have:¬listed.getD j true=false:=fun h=>hn ((hM j).2 h);have hjl:j<listed.size:=by omega
   simp[hjl]at this ⊢;exact this
  refine⟨fun hready=>?_,fun i hi=>?_⟩
  ·
   cases M with
   | nil=>
    simp only[Jk,Option.some.injEq]at hs;subst hs;exact hn a w σ hr (Ext.refl σ w)
   | cons i rest=>
    exfalso;have S:=(hM i).1 (by simp);have hilt:i<ops.size:=by
     rcases Nat.lt_or_ge i listed.size with h|h
     ·omega
     ·simp[Array.getElem?_eq_none h]at S
    have ho:ops[i]? = some ops[i]:=by simp[hilt]
    have:i∈Region.ready .any ops listed:=mem_ready.2 ⟨S,_,ho,fun e he hb=>by
     have hlt:=hf.low i _ ho e he hb;refine hlist e.on (by omega) (fun hin=>?_);rcases List.mem_cons.1 hin with h|h
     ·omega
     ·have:=(List.pairwise_cons.1 C).1 _ h;omega⟩
    grind
  ·obtain⟨S,oi,R,hall⟩:=mem_ready.1 hi;have hin:=(hM i).2 S;obtain⟨M1,M2,rfl⟩:=List.append_of_mem hin;have hilt:i<ops.size:=(Array.getElem?_eq_some_iff.1 R).1;have I:∀y∈M1,y<i:=fun y J=>(List.pairwise_append.1 C).2.2 y J i (by simp);have hmask:∀j,((F8 [] ops.toList).getD i 0).testBit j=true->listed.getD j false=true:=by
    intro j hj;obtain⟨e,he,hb,hh⟩:=(hf.bit i oi R j).1 hj;rcases hh with hh|hh
    ·grind
    ·grind
   have hunl:∀y,listed.getD y true=false->listed.getD y false=false:=by
    intro y J;rcases Nat.lt_or_ge y listed.size with h|h
    ·simp[h]at J ⊢;exact J
    ·simp[Array.getElem?_eq_none h]at J
   obtain⟨st1,h1,h2⟩:=Zky G.len M1 M2 st hbl (fun y J sa sb sc hba hsa hsb=>by
    have hyun:listed.getD y true=false:=(hM y).1 (by simp[J]);have hylt:y<ops.size:=by have:=I y J;omega
    have hoy:ops[y]? = some ops[y]:=by simp[hylt]
    have Y:((F8 [] ops.toList).getD i 0).testBit y=false:=by
     cases hb:((F8 [] ops.toList).getD i 0).testBit y with
     | false=>rfl
     | true=>have:=hmask y hb;rw[hunl y hyun]at this;cases this
    have hbit' : ((F8 [] ops.toList).getD y 0).testBit i=false:=by
     cases hb:((F8 [] ops.toList).getD y 0).testBit i with
     | false=>rfl
     | true=>have:=hf.lt y i hylt hb;have:=I y J;omega
    have hp:=(hf.pass y i _ oi hoy R (I y J)).resolve_left (by rw[Y];simp);exact Zl6 G hm hoy R (by have:=I y J;omega) hp (fun x t h=>Znq h) Y hbit' hba hsa hsb) hs
   refine Zoa hE hP hcall hr h1 (fun a1 w1 σ1 hr1 he1=>?_);have hget:∀j d,(listed.setIfInBounds i true).getD j d=if j=i then true else listed.getD j d:=by
    intro j d
    by_cases z:j=i
    ·subst z;have:j<listed.size:=by omega
     simp[this]
    ·rw[if_neg z,getD_set_ne d (fun e=>z e.symm)]
   have hnot:i∉M1++M2:=by
    intro h;rcases List.mem_append.1 h with h|h
    ·have:=I i h;omega
    ·have:=(List.pairwise_cons.1 (List.pairwise_append.1 C).2.1).1 i h;omega
   refine ih (M1++M2) (listed.setIfInBounds i true) st1 σ1 a1 w1 (by simp at hl ⊢;omega) (by simpa using hsz) (fun j=>?_) ?_ (fun k j hk hj=>?_) h2 (Nat.le_trans hbl (Zn G.len h1)) hr1 (fun a' w' σ' hr' he' =>hn a' w' σ' hr' (he1.trans he'))
   ·rw[hget]
    by_cases z:j=i
    ·grind
    ·rw[if_neg z,<- hM j];simp[z]
   ·grind
   ·rw[hget]at hk ⊢
    by_cases z:j=i
    ·rw[if_pos z]
    ·rw[if_neg z]
     by_cases hki:k=i
     ·grind
     grind
theorem Inv.reserve {B:Nat} {w0:Start} {σ:Sg} {H:Heap} {w:World} (h:Inv B w0 σ H w) (n:Nat):Inv B w0 σ (H++List.replicate n PL) w:=by
 have z:∀(i:Nat) (b:Box),(H++List.replicate n PL)[i]? = some b->b.live=true->H[i]? = some b:=by
  intro i b hb C;rw[List.getElem?_append]at hb;split at hb
  ·exact hb
  ·have:=(List.mem_replicate.1 (List.mem_of_getElem? hb)).2;subst this;cases C
 refine⟨h.below,h.size,fun id L M=>?_,fun i b hb C=>h.boxes i b (z i b hb C) C,fun i j b1 b2 I J g D G l1 l2=>h.apart i j b1 b2 I J g (z i b1 D l1) (z j b2 G l2) l1 l2,h.cells,
  fun b c hc i bx L hb C=>h.floor b c hc i bx L (z i bx hb C) C,fun i b hb C=>h.low i b (z i b hb C) C,h.old,h.kept,h.maps.step (Ext.refl σ w) rfl (fun i b hm=>⟨fun hb=>?_,fun hb=>?_⟩) (Nat.le_refl _) fun _ _ _=>rfl⟩
 ·obtain⟨b,D,G⟩:=h.dom id L M
  grind
 ·rw[List.getElem?_append]at hb;split at hb
  ·exact hb
  ·have:=(List.mem_replicate.1 (List.mem_of_getElem? hb)).2;subst this;cases hm
 ·rw[List.getElem?_append_left (List.getElem?_eq_some_iff.1 hb).1];exact hb
theorem Zae {B:Nat} {w0:Start} {σ:Sg} {P:Program} {st st' : St} {a:Act} {w:World} (R:Bl E) (Y:E.P=P) (G:P.follows .mixedOrders=true) (C:JX P E B w0 call) (D:Nr E call) (hd:kS E ops=true)
  (h:EK E B w0 σ st a w) (M:Qa call E ops st=some st') {id:Nat} {Q:Exit->Act->World->Prop} (hn:∀I w' σ',EK E B w0 σ' st' I w' -> Ext σ w σ' w' -> Q .normal I w'):(Code.region id ops true).wp P Q a w:=by
 have hg:w.grownBy { w with drawn:=w.drawn+1 } none:=⟨rfl,rfl,rfl,Nat.le_refl _,fun _ _ _=>rfl⟩;obtain⟨S,z⟩:=h.inv.grown hg;refine wp_region_any G ?_;unfold Qa at M;refine Zpd R Y C D (Zja hd) (m:=if ops.any (fun o=>decide (BU E o = .a)) then ops.size else 0) (fun i o ho hc=>?_) ops.size (List.range ops.size) _ _ σ a _ (by simp) (by simp) (fun j=>?_) List.pairwise_lt_range (fun k j J=>?_) M (by simp)
  ⟨S.reserve _,h.D5.ext z,h.slots.ext z,h.calm⟩ (fun I w' σ' hr he=>hn I w' σ' hr (z.trans he))
 ·grind
 ·rw[List.mem_range];rcases Nat.lt_or_ge j ops.size with hj|hj
  ·simp[hj]
  simp_all
 ·exfalso;rcases Nat.lt_or_ge k ops.size with hj|hj
  ·simp[hj]at J
  ·simp[hj]at J
end
end Go.Proofs.YteinepnbndegdaaGreat.Le
namespace Go.Proofs.YteinepnbndegdaaGreat.Le
open Go.RowKit (Below)
def Ex.out:Ex->Exit
 | .normal=>.normal
 | .ret=>.ret
 | .exit id=>.exit id
def Z0S (P:Program) (E:Env) (B:Nat) (w0:Start) (f:FuncId) (lp:Code->St->Option (Ex×St)):Prop:=
 ∀b st ex st',Dy E f b=true->lp b st=some (ex,st')->∀(Q:Exit->Act->World->Prop) σ a w,EK E B w0 σ st a w ->
  (∀z w' σ',EK E B w0 σ' st' z w' -> Ext σ w σ' w' -> Q ex.out z w')->(Code.loop b).wp P Q a w
section
variable {P:Program} {E:Env} {B:Nat} {w0:Start} {call:CV} {f:FuncId}
theorem Rq (hE:Bl E) (hP:E.P=P) (J:JX P E B w0 call) (Y:Nr E call) {lp:Code->St->Option (Ex×St)} (hlp:Z0S P E B w0 f lp) :
  ∀(c:Code) (st:St) (ex:Ex) (st' : St),Dy E f c=true->EO call lp E f c st=some (ex,st')->∀(Q:Exit->Act->World->Prop) (σ:Sg) (a:Act) (w:World),EK E B w0 σ st a w ->
   (∀a' w' σ',EK E B w0 σ' st' a' w' -> Ext σ w σ' w' -> Q ex.out a' w')->c.wp P Q a w:=by
 intro c;induction c with
 | skip=>
  intro st ex st' hc h Q σ a w z C;simp only[EO,Option.some.injEq,Prod.mk.injEq]at h;obtain⟨rfl,rfl⟩:=h;exact wp_skip (C a w σ z (Ext.refl σ w))
 | region id ops draw=>
  intro st ex st' hc h Q σ a w z C;cases draw with
  | false=>
   simp only[EO]at h;cases hs:Jt call E ops (List.range ops.size) st with
   | none=>simp[hs]at h
   | some r=>
    simp only[hs,Option.map_some,Option.some.injEq,Prod.mk.injEq]at h;obtain⟨rfl,rfl⟩:=h;exact wp_region (Zan hE hP J _ st σ a w z hs C)
  | true=>
   simp only[EO]at h;split at h
   ·rename_i S;cases hs:Qa call E ops st with
    | none=>simp[hs]at h
    | some r=>
     simp only[hs,Option.map_some,Option.some.injEq,Prod.mk.injEq]at h;obtain⟨rfl,rfl⟩:=h;refine Zae hE hP (by rw[<- hP];exact hE.mix) J Y ?_ z hs C;simpa[Dy,S]using hc
   ·cases h
 | seq x y ihx ihy=>
  intro st ex st' hc h Q σ a w z C;simp only[Dy,Bool.and_eq_true]at hc;simp only[EO]at h;split at h
  ·rename_i R h1;exact wp_seq (ihx st .normal R hc.1 h1 _ σ a w z (fun a1 M I G D=>ihy R ex st' hc.2 h Q I a1 M G (fun a' w' σ' hr' he' =>C a' w' σ' hr' (D.trans he'))))
  ·rename_i hne;refine wp_seq (ihx st ex st' hc.1 h _ σ a w z (fun a1 M I G D=>?_));have:=C a1 M I G D;cases ex with
   | normal=>exact absurd h (hne _)
   | ret=>exact this
   | exit id=>exact this
 | cond c x y ihx ihy=>
  intro st ex st' hc h Q σ a w z C;simp only[Dy,Bool.and_eq_true]at hc;simp only[EO]at h;split at h
  ·rename_i t ht;have hv:=Dp (a:=a) z.D5 z.slots c;rw[ht]at hv;have hb:a.eval c = .bool t:=by generalize a.eval c=v at hv;cases hv;rfl
   refine wp_cond hb ?_
   grind
  ·cases h
 | block id b ih=>
  intro st ex st' hc h Q σ a w z C;simp only[Dy]at hc;simp only[EO]at h;split at h
  ·rename_i i R h1;refine wp_block (ih st (.exit i) R hc h1 _ σ a w z (fun a1 M I G D=>?_));simp only[Ex.out,Exit.inBlock];split at h
   ·rename_i hi;cases h;rw[if_pos hi];exact C a1 M I G D
   ·rename_i hi;cases h;rw[if_neg hi];exact C a1 M I G D
  ·rename_i hne;refine wp_block (ih st ex st' hc h _ σ a w z (fun a1 M I G D=>?_));have:=C a1 M I G D;cases ex with
   | normal=>exact this
   | ret=>exact this
   | exit i=>simp_all
 | loop b ih=>
  intro st ex st' hc h Q σ a w z C;exact hlp b st ex st' hc h Q σ a w z C
 | scope b ih=>
  intro st ex st' hc h Q σ a w z C;simp only[Dy]at hc;simp only[EO]at h;refine wp_scope_straight (ih st ex st' hc h _ σ a w z (fun a1 M I G D=>?_));have:=C a1 M I G D;cases ex with
  | normal=>exact this
  | ret=>exact this
  | exit i=>exact this
 | label l=>
  intro st ex st' hc h Q σ a w z C;simp only[EO,Option.some.injEq,Prod.mk.injEq]at h;obtain⟨rfl,rfl⟩:=h;exact wp_label (C a w σ z (Ext.refl σ w))
 | exit id=>
  intro st ex st' hc h Q σ a w z C;simp only[EO,Option.some.injEq,Prod.mk.injEq]at h;obtain⟨rfl,rfl⟩:=h;exact wp_exit (C a w σ z (Ext.refl σ w))
 | ret=>
  intro st ex st' hc h Q σ a w z C;simp only[EO,Option.some.injEq,Prod.mk.injEq]at h;obtain⟨rfl,rfl⟩:=h;exact wp_ret (C a w σ z (Ext.refl σ w))
 | _=>
  intro st ex st' hc h;cases h
theorem Z0i (hE:Bl E) (hP:E.P=P) (z:JX P E B w0 call) (C:Nr E call):∀n,Z0S P E B w0 f (L9 call E f n):=by
 have key:∀n,∀b st ex st',Dy E f b=true->L9 call E f n b st=some (ex,st')->∀(Q:Exit->Act->World->Prop) σ a w,EK E B w0 σ st a w ->
  (∀Y w' σ',EK E B w0 σ' st' Y w' -> Ext σ w σ' w' -> Q ex.out Y w')->Code.rounds P b Q n a w:=by
  intro n;induction n with
  | zero=>intro b st ex st' hc h;cases h
  | succ n ih=>
   intro b st ex st' hc h Q σ a w M J;rw[rounds_succ];have R:Z0S P E B w0 f (L9 call E f n):=fun b st ex st' hc h Q σ a w M J=>wp_loop_rounds n (ih b st ex st' hc h Q σ a w M J);simp only[L9]at h;split at h
   ·rename_i S h1;exact Rq hE hP z C R b st .normal S hc h1 _ σ a w M (fun a1 w1 I G D=>ih b S ex st' hc h Q I a1 w1 G (fun Y w' σ' hr' he' =>J Y w' σ' hr' (D.trans he')))
   ·rename_i hne;refine Rq hE hP z C R b st ex st' hc h _ σ a w M (fun a1 w1 I G D=>?_);have:=J a1 w1 I G D;cases ex with
    | normal=>exact absurd h (hne _)
    | ret=>exact this
    | exit id=>exact this
 exact fun n b st ex st' hc h Q σ a w M J=>wp_loop_rounds n (key n b st ex st' hc h Q σ a w M J)
theorem Zm8 {σ:Sg} {H:Heap} {w:World} (D:Bl E) (I:E.P=P) (G:Inv B w0 σ H w) {t:TypeId} {x r:V} {v:Value} (z:AL σ w [x] [v]) (h:LP E H t x=some r) :
  ∃u,(do loadVar t (<- asAddr v):Sem Value).run P w = .ok u w/\AL σ w [r] [u]:=by
 obtain⟨u,M,J⟩:=Za4 (P:=P) D I G z h;refine⟨u,?_,J⟩;have Q:∃A,v = .pointer (some A):=by
  unfold LP at h;split at h
  ·cases h
  ·split at h
   ·cases z;exact⟨_,rfl⟩
   ·cases z with
    | ptr g _ _ _ C _=>exact⟨_,C⟩
   ·cases h
 obtain⟨A,rfl⟩:=Q;rw[<- M];simp[Instr.loadAt,asAddr,Instr.sureAddr]
theorem Zsl {σ:Sg} {H:Heap} {w:World} {s:List V} {tmps:Array Value} (M:Bl E) (R:E.P=P) (Q:Inv B w0 σ H w) (S:AL σ w s tmps.toList):∀(rs:List ResultVar) (xs:List V),rs.mapM (resD E H s)=some xs ->
  ∃vs,(rs.mapM (fun(r:ResultVar)=>(match r with | .tmp t=>pure (tmps.getD t undef) | .cell a t=>do loadVar t (<- asAddr (tmps.getD a undef)):Sem Value))).run P w = .ok vs w/\AL σ w xs vs:=by
 have D:∀t,AL σ w [s.getD t .und] [tmps.getD t undef]:=fun t=>by
  have:=Z7Y S t;simpa using this
 intro rs;induction rs with
 | nil=>
  intro xs h;simp at h;subst h;exact⟨[],rfl,.nil⟩
 | cons r rs ih=>
  intro xs h;rw[List.mapM_cons]at h;cases C:resD E H s r with
  | none=>simp[C]at h
  | some x=>
   cases z:rs.mapM (resD E H s) with
   | none=>simp[C,z]at h
   | some I =>
    simp[C,z]at h;subst h;obtain⟨vs,hv,Y⟩:=ih I z;have J:∃u,((match r with | .tmp t=>pure (tmps.getD t undef) | .cell a t=>do loadVar t (<- asAddr (tmps.getD a undef)):Sem Value)).run P w = .ok u w/\AL σ w [x] [u]:=by
     cases r with
     | tmp t=>
      simp only[resD,Option.some.injEq]at C;subst C
      simp_all
     | cell a t=>exact Zm8 M R Q (D a) C
    obtain⟨u,hu,G⟩:=J;refine⟨u::vs,?_,AL.Dk.2 ⟨G,Y⟩⟩
    simp_all
theorem XQ {σ:Sg} {H:Heap} {w:World} {s:List V} {tmps:Array Value} (J:Bl E) (Q:E.P=P) (M:Inv B w0 σ H w) (R:AL σ w s tmps.toList) {fn:Func} {x:V} (h:KF E H s fn.results.toList=some x) :
  ∃u,(results fn tmps).run P w = .ok u w/\AL σ w [x] [u]:=by
 unfold KF at h;cases hm:fn.results.toList.mapM (resD E H s) with
 | none=>simp[hm]at h
 | some xs=>
  obtain⟨vs,S,I⟩:=Zsl (P:=P) J Q M R _ xs hm;have C:(results fn tmps).run P w = .ok (if h:vs.toArray.size=1 then vs.toArray[0] else .tuple vs.toArray) w:=by
   unfold results;rw[Sem.run_bind];have D:(fn.results.mapM (fun(r:ResultVar)=>(match r with | .tmp t=>pure (tmps.getD t undef) | .cell a t=>do loadVar t (<- asAddr (tmps.getD a undef)):Sem Value))).run P w = .ok vs.toArray w:=by
    rw[Array.mapM_eq_mapM_toList,map_eq_pure_bind,Sem.run_bind,S,Result.andThen_ok];rfl
   have:=congrArg (fun r=>Result.andThen r fun(vs:Array Value) (w' : World)=>(pure (if h:vs.size=1 then vs[0] else .tuple vs):Sem Value).run P w') D;exact this
  refine⟨_,C,?_⟩;rw[hm]at h;have z:=I.length;split at h
  ·rename_i v hh;cases hh;simp only[Option.some.injEq]at h;subst h;obtain⟨u,Y,rfl,h1,h2⟩:=I.Bd
   simp_all
  ·rename_i ys G hh;cases hh;simp only[Option.some.injEq]at h;subst h;have:¬vs.toArray.size=1:=by
    intro hh;simp at hh;rw[<- z]at hh;obtain⟨y,rfl⟩:=List.length_eq_one_iff.1 hh;exact G y rfl
   rw[dif_neg this];exact .Ap I .nil
  simp_all
end
end Go.Proofs.YteinepnbndegdaaGreat.Le
