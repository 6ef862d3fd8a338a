/- A part of it. -/
import Derived.Test.YtjodhcdmhobmoaaGreatDoorL2
import Derived.Orders
import Derived.LoopN
import Derived.Scope
set_option linter.unusedVariables false
set_option linter.unusedSimpArgs false
namespace Go.Proofs.YtjodhcdmhobmoaaGreatDoor.Le
open Go.RowKit (Below)
def JW (P:Program) (E:Env) (B:Nat) (w0:Start) (call:Dn):Prop:=
 ∀(f:FuncId) (args:List V) (H:Heap) (x:V) (H' : Heap) (σ:Sg) (w:World) (vs:List Value),call f args H=some (x,H')->Inv B w0 σ H w->Df E σ w->AQ σ w args vs ->
  (∃fn,P.funcs[f]? = some fn/\fn.body.isNone=false/\(fn.name == "runtime.NumGoroutine")=false) /\
  Calls P f vs.toArray w fun e w' =>∃u σ',e = .returned u/\Inv B w0 σ' H' w' /\ Ext σ w σ' w' /\ AQ σ' w' [x] [u]
section
variable {P:Program} {o:Oper} {a:Act} {w:World} {next:Act->World->Prop} {Q:Exit->Act->World->Prop}
theorem Il {s:Sem Value} {u:Value} {w' : World} (q:execOp a.eval o=(do let x <- s;pure (Next.value x))) (A:s.run P w = .ok u w') (z:next (a.put o.dst u) w'):o.wp P a w next Q:=by
 unfold Oper.wp;rw[q];simp only[Sem.run_bind,A,Result.andThen_ok,Sem.run_pure];exact z
theorem ZBO {s:Sem Unit} {w' : World} (q:execOp a.eval o=(do s;pure Next.skip)) (A:s.run P w = .ok () w') (z:next (a.put o.dst undef) w'):o.wp P a w next Q:=by
 unfold Oper.wp;rw[q];simp only[Sem.run_bind,A,Result.andThen_ok,Sem.run_pure];exact z
end
theorem ZdJ {E:Env} {σ w s} {a:Act} (z:Df E σ w) (h:AQ σ w s a.tmps.toList) (q:List (Nat×Operand)) :
  Parts σ w (q.map fun(i,x)=>(i,ev E s x)) (q.map fun(i,x)=>(i,a.eval x)):=by
 induction q with
 | nil=>exact .nil
 | cons p ps A=>exact .cons (EX z h p.2) A
theorem Ul {E:Env} {σ w s} {a:Act} (q:Df E σ w) (h:AQ σ w s a.tmps.toList) (x:Option Operand):Jp σ w (x.map (ev E s)) (x.map a.eval):=by
 cases x with
 | none=>exact .none
 | some x=>exact .some (EX q h x)
theorem Z2l {B w0 σ H w} (h:Inv B w0 σ H w) {x D : V} {v:Value} (C:AQ σ w [x] [v]) (z:J8 H x=some D) (ids:List Nat) (q:∀i∈Oj x,i∈ids) :
  AQ (σ.freeze H ids) w [D] [v]:=by
 unfold J8 at z;split at z
 ·rename_i vs;cases C with
  | BH F _=>
   cases A:FM H vs with
   | none=>simp[A]at z
   | some G =>
    simp only[A,Option.map_some,Option.some.injEq]at z;subst z;exact .BH (nM h F A ids q) .nil
 ·refine rD h C z ids (fun i I=>q i ?_);cases x<;>simp_all [Oj]
def FX (P:Program) (E:Env) (B:Nat) (w0:Start) (call:Dn) (σ:Sg) (k:Nat) (H:Heap) (w:World) (s:List V) (a:Act) (o:Oper):Prop:=
 ∀x H',BN call E k H s o=some (x,H')->∀(next:Act->World->Prop) (Q:Exit->Act->World->Prop),
  (∀u w' σ',Inv B w0 σ' H' w' -> Ext σ w σ' w' -> AQ σ' w' [x] [u]->next (a.put o.dst u) w')->o.wp P a w next Q
section
variable {E:Env} {B:Nat} {w0:Start} {σ:Sg} {H:Heap} {w:World} {P:Program} {call:Dn} {s:List V} {a:Act} {o:Oper} {k:Nat}
theorem L9 {y:Option V} {m:Sem Value} (z:Inv B w0 σ H w) (C:execOp a.eval o=(do let x <- m;pure (Next.value x))) (A:BN call E k H s o=y.map (·,H))
  (h:∀x,y=some x->∃u,m.run P w = .ok u w/\AQ σ w [x] [u]):FX P E B w0 call σ k H w s a o:=by
 intro x H' q next Q D
 rw[A]at q;cases y with
 | none=>cases q
 | some I =>
  simp only[Option.map_some,Option.some.injEq,Prod.mk.injEq]at q;obtain⟨rfl,rfl⟩:=q;obtain⟨u,G,F⟩:=h I rfl;exact Il C G (D _ w σ z (Ext.refl σ w) F)
theorem Zcg {y:V} {u:Value} (q:Inv B w0 σ H w) (A:execOp a.eval o=pure (Next.value u)) (z:BN call E k H s o=some (y,H)) (h:AQ σ w [y] [u]):FX P E B w0 call σ k H w s a o:=
 L9 (m:=pure u) (y:=some y) q (by rw[A];rfl) z (fun x C=>⟨u,rfl,by cases C;exact h⟩)
theorem Zvr (z:Inv B w0 σ H w) (A:Df E σ w) (C:AQ σ w s a.tmps.toList) {y:Operand} (q:o.op = .move y):FX P E B w0 call σ k H w s a o:=
 Zcg z (u:=a.eval y) (y:=ev E s y) (by unfold execOp;rw[q]) (by unfold BN;rw[q]) (EX A C y)
theorem Zq6 (A:FP H k=true) (C:Inv B w0 σ H w) (I:Df E σ w) (M:AQ σ w s a.tmps.toList) {y:Operand} (q:o.op = .assign y):FX P E B w0 call σ k H w s a o:=by
 by_cases O:y = .const (.slice none 0 0)
 ·subst O;intro x H' z next Q J
  unfold BN at z;rw[q]at z;simp only at z;split at z
  ·rename_i e sz by' S N;simp only[Option.some.injEq,Prod.mk.injEq]at z;obtain⟨rfl,rfl⟩:=z;obtain⟨σ',D,F,G⟩:=NQ (e:=e) (Ap:=(E.size e).getD 0) C A (grownBy_refl w none) (xs:=[]) (us:=[]) .nil (by simp) (by simp) (by simp[flat]) (VH w B e _) (by simp[Value.ownBlock]) false (by simp);unfold Oper.wp execOp;rw[q];exact J _ w σ' D F G
  ·cases z
 ·refine Zcg C (u:=a.eval y) (y:=ev E s y) (by unfold execOp;rw[q]) ?_ (EX I M y);unfold BN;rw[q];split<;>simp_all
theorem Zwd (I:Inv B w0 σ H w) (F:Df E σ w) (G:AQ σ w s a.tmps.toList) {c y z:Operand} (C:o.op = .pick c y z):FX P E B w0 call σ k H w s a o:=by
 intro x H' A next Q J
 unfold BN at A;rw[C]at A;simp only at A;split at A
 ·rename_i t hc;simp only[Option.some.injEq,Prod.mk.injEq]at A;obtain⟨rfl,rfl⟩:=A;have q:=EX F G c;rw[hc]at q;have D:a.eval c = .bool t:=by generalize a.eval c=M at q;cases q;rfl
  unfold Oper.wp execOp;rw[C];simp only[D,asBool,Sem.run_bind,Sem.run_pure,Result.andThen_ok];refine J _ w σ I (Ext.refl σ w) ?_;cases t
  ·exact EX F G z
  ·exact EX F G y
 ·cases A
theorem ZtV (O:Ci E) (Y:E.P=P) (D:FP H k=true) (S:Inv B w0 σ H w) {t:TypeId} (A:o.op = .alloc t):FX P E B w0 call σ k H w s a o:=by
 intro x H' q next Q hn
 unfold BN at q;rw[A]at q;simp only at q;split at q
 ·rename_i i F;split at q
  ·rename_i z hz;split at q
   ·rename_i hc;simp only[Option.some.injEq,Prod.mk.injEq]at q;obtain⟨rfl,rfl⟩:=q;obtain⟨inf,zv,hi,I,hsz,hbz,G⟩:=rF O Y F hz σ w;obtain⟨w',σ',C,J,M,N⟩:=Zcr (P:=P) S D t G hc.2 hc.1;refine Il (s:=Instr.alloc t true (.tuple #[])) (u:=.pointer (some ⟨w.heap.size,0,none⟩)) (w' :=w') (by unfold execOp;rw[A]) ?_ (hn _ w' σ' J M N);simp[Instr.alloc,zeroValue,typeInfo,hi,I,C]
   ·cases q
  ·cases q
 ·cases q
theorem ZxY (C:FP H k=true) (I:Inv B w0 σ H w) (J:Df E σ w) (N:AQ σ w s a.tmps.toList) {t:TypeId} {y:Operand} (z:o.op = .box t y):FX P E B w0 call σ k H w s a o:=by
 intro x H' q next Q M
 unfold BN at q;rw[z]at q;simp only at q;split at q
 ·rename_i i O;split at q
  ·rename_i hc;simp only[Option.some.injEq,Prod.mk.injEq]at q;obtain⟨rfl,rfl⟩:=q;obtain⟨w',σ',A,D,F,G⟩:=Zcr (P:=P) I C t (EX J N y) hc.2 hc.1;refine Il (s:=Instr.box t (a.eval y)) (u:=.pointer (some ⟨w.heap.size,0,none⟩)) (w' :=w') (by unfold execOp;rw[z]) ?_ (M _ w' σ' D F G);simp[Instr.box,A]
  ·cases q
 ·cases q
theorem ZrM (A:Ci E) (D:E.P=P) (C:Inv B w0 σ H w) (F:Df E σ w) (G:AQ σ w s a.tmps.toList) {t:TypeId} {q:Array (Nat×Operand)} (z:o.op = .build t q):FX P E B w0 call σ k H w s a o:=
 L9 (m:=Instr.build t (q.map fun(i,x)=>(i,a.eval x))) C (by unfold execOp;rw[z]) (by unfold BN;rw[z])
  (fun x I=>ZBo A D (by simpa using ZdJ F G q.toList) I)
theorem ZkI (M:Ci E) (O:E.P=P) (F:FP H k=true) (N:Inv B w0 σ H w) (S:Df E σ w) (hs:AQ σ w s a.tmps.toList) {t:TypeId} {n:Nat} {q:Array (Nat×Operand)} (z:o.op = .buildSlice t n q):FX P E B w0 call σ k H w s a o:=by
 intro x H' C next Q Y
 unfold BN at C;rw[z]at C;simp only at C;obtain⟨D,A⟩:∃D:Array (Nat×Value),D=q.map (fun(i,x)=>(i,a.eval x)):=⟨_,rfl⟩;obtain⟨u,w',σ',hu,G,I,J⟩:=Zn0 (P:=P) (vparts:=D) M O N F (by rw[A];simpa using ZdJ S hs q.toList) C;exact Il (s:=Instr.buildSlice t n D) (by unfold execOp;rw[z,A]) hu (Y _ w' σ' G I J)
theorem Zv6 (A:Ci E) (C:E.P=P) (z:Inv B w0 σ H w) (D:Df E σ w) (F:AQ σ w s a.tmps.toList) {t:TypeId} {y:Operand} (q:o.op = .load t y):FX P E B w0 call σ k H w s a o:=
 L9 (m:=Instr.loadAt t (a.eval y)) z (by unfold execOp;rw[q]) (by unfold BN;rw[q]) (fun x G=>ZeD A C z (EX D F y) G)
theorem Zsu (I:Ci E) (M:E.P=P) (J:Inv B w0 σ H w) (C:Df E σ w) (D:AQ σ w s a.tmps.toList) {t:TypeId} {y z:Operand} (A:o.op = .store t y z):FX P E B w0 call σ k H w s a o:=by
 intro x H' q next Q N
 unfold BN at q;rw[A]at q;simp only at q;cases hb:MH E H t (ev E s y) (ev E s z) with
 | none=>simp[hb]at q
 | some S=>
  simp only[hb,Option.map_some,Option.some.injEq,Prod.mk.injEq]at q;obtain⟨rfl,rfl⟩:=q;obtain⟨w',σ',O,F,G⟩:=ZB6 (P:=P) I M J (EX C D y) (EX C D z) hb;exact ZBO (s:=Instr.storeAt t (a.eval y) (a.eval z)) (by unfold execOp;rw[A]) O (N _ w' σ' F G (.no .nil))
theorem Zmc (G:Inv B w0 σ H w) (I:Df E σ w) (M:AQ σ w s a.tmps.toList) {y:Operand} (A:o.op = .nilCheck y):FX P E B w0 call σ k H w s a o:=by
 intro x H' z next Q J
 unfold BN at z;rw[A]at z;simp only at z;split at z
 ·rename_i q;simp only[Option.some.injEq,Prod.mk.injEq]at z;obtain⟨rfl,rfl⟩:=z;have D:=EX I M y;have C:execOp a.eval o=pure (Next.value (a.eval y)):=by
   unfold execOp;rw[A];simp only;generalize ev E s y=N at D q;generalize a.eval y=S at D;cases D with
   | GY _ _ _ _ _ _ _=>cases q
   | und _ _=>cases q
   | no _=>cases q
   | @lit v _ _ O _=>unfold TD at q;split at q<;>simp_all
   | agg _ _ _=>cases q
   | BH _ _=>cases q
   | EY _=>rfl
   | FW a _=>rfl
   | Fp _=>rfl
   | GN a _=>rfl
   | sl _ _ _ _ _ _ _ _ _ _ _ _=>rfl
   | Ce _ _ _ _ _ _ _ _ _ _=>rfl
   | Bc _ _ _ _ _=>cases q
   | ptr g _ _ _ F _=>subst F;rfl
   | CE _ _ _ _ _ _ _ _ _ _ _=>rfl
   | fn _ _ _=>rfl
   | Gy _ _=>rfl
  unfold Oper.wp;rw[C];exact J _ w σ G (Ext.refl σ w) D
 ·cases z
theorem Zt3 (G:Ci E) (J:E.P=P) (I:Inv B w0 σ H w) (D:Df E σ w) (F:AQ σ w s a.tmps.toList) {op:BinOp} {t O:TypeId} {y z:Operand} (q:o.op = .binOp op t y z O):FX P E B w0 call σ k H w s a o:=
 L9 (m:=(do eqGuard op t y z (a.eval y) (a.eval z);binOp op t (a.eval y) (a.eval z))) I (by unfold execOp;rw[q]) (by unfold BN;rw[q])
  (fun x N=>by
   obtain⟨u,A,C,M⟩:=ZFh (P:=P) G J y z (EX D F y) (EX D F z) N;exact⟨u,by simp only[Sem.run_bind,A,Result.andThen_ok,C],M⟩)
theorem Zu7 (z:Inv B w0 σ H w) (A:Df E σ w) (C:AQ σ w s a.tmps.toList) {op:UnOp} {t:TypeId} {y:Operand} (q:o.op = .unOp op t y):FX P E B w0 call σ k H w s a o:=
 L9 (m:=Op.unary op (a.eval y)) z (by unfold execOp;rw[q]) (by unfold BN;rw[q]) (fun x D=>un_ok (EX A C y) D)
theorem Zo4 (G:Ci E) (I:E.P=P) (D:FP H k=true) (C:Inv B w0 σ H w) (J:Df E σ w) (N:AQ σ w s a.tmps.toList) {z dst:TypeId} {y:Operand} (q:o.op = .convert z dst y):FX P E B w0 call σ k H w s a o:=by
 intro x H' A next Q M
 unfold BN at A;rw[q]at A;simp only at A;split at A
 ·rename_i hb;simp only[Bool.and_eq_true]at hb;obtain⟨u,w',σ',F,S,Y,i3⟩:=ZBk (P:=P) G I C D (EX J N y) hb.1 hb.2 A;exact Il (s:=convert z dst (a.eval y)) (by unfold execOp;rw[q]) F (M _ w' σ' S Y i3)
 obtain⟨rfl,u,F,O⟩:=ZBZ (P:=P) G I C (EX J N y) A;exact Il (s:=convert z dst (a.eval y)) (by unfold execOp;rw[q]) F (M _ w σ C (Ext.refl σ w) O)
theorem ZkV (O:Ci E) (S:E.P=P) (M:FP H k=true) (hI:Inv B w0 σ H w) (hg:Df E σ w) (hs:AQ σ w s a.tmps.toList) {t:TypeId} {l c:Operand} (G:o.op = .makeSlice t l c):FX P E B w0 call σ k H w s a o:=by
 intro x H' A next Q hn
 unfold BN at A;rw[G]at A;simp only at A;split at A
 ·rename_i e sz by' z0 kl n kc m N hl hc;split at A
  ·rename_i ei J;split at A
   ·rename_i z hz;split at A
    ·rename_i C;obtain⟨c1,c2,c3,c4,c5,c6,c7⟩:=C;simp only[Option.some.injEq,Prod.mk.injEq]at A;obtain⟨rfl,rfl⟩:=A;obtain⟨inf,d,hi,Y,q1,q2,q3,q4⟩:=FH (O.ti _ _ N);have I : P.underlying t=some (.slice e):=by rw[S]at Y;rw[Y,OA q1]
     have F:=EX hg hs l;have D:=EX hg hs c;rw[hl]at F;rw[hc]at D;have e1:a.eval l = .int kl n:=by generalize a.eval l=q at F;cases F;rfl
     have e2:a.eval c = .int kc m:=by generalize a.eval c=q at D;cases D;rfl
     obtain⟨u,w',σ',hu,h1,h2,h3⟩:=ZDB (P:=P) (kl:=kl) (kc:=kc) O S hI M I J hz c1 c2 c3 c4 c5 c6 c7 _;exact Il (s:=Instr.makeSlice t (a.eval l) (a.eval c)) (by unfold execOp;rw[G]) (by rw[e1,e2];exact hu) (hn _ w' σ' h1 h2 h3)
    ·cases A
   ·cases A
  ·cases A
 ·cases A
theorem Zt5 (S:Ci E) (hP:E.P=P) (Y:Inv B w0 σ H w) (q:Df E σ w) (z:AQ σ w s a.tmps.toList) {t:TypeId} {y:Operand} {F C G:Option Operand} (A:o.op = .slice t y F C G):FX P E B w0 call σ k H w s a o:=by
 intro x H' D next Q hn
 unfold BN at D;rw[A]at D;simp only at D;split at D
 ·rename_i n e sz by' z0 N;obtain⟨u,σ',O,I,J,M⟩:=Zzl (P:=P) (lo' :=F.map a.eval) (hi' :=C.map a.eval) (mx' :=G.map a.eval) S hP Y N (EX q z y) (Ul q z F) (Ul q z C) (Ul q z G) D;exact Il (s:=Instr.sliceAt t (a.eval y) (F.map a.eval) (C.map a.eval) (G.map a.eval)) (by unfold execOp;rw[A]) O (hn _ w σ' I J M)
 obtain⟨u,σ',O,I,J,M⟩:=ZBi (P:=P) S hP Y (EX q z y) (Ul q z F) (Ul q z C) (Ul q z G) D;exact Il (s:=Instr.sliceAt t (a.eval y) (F.map a.eval) (C.map a.eval) (G.map a.eval)) (by unfold execOp;rw[A]) O (hn _ w σ' I J M)
theorem ZzE (z:Ci E) (C:E.P=P) (A:Inv B w0 σ H w) (D:Df E σ w) (F:AQ σ w s a.tmps.toList) {t:TypeId} {y:Operand} (q:o.op = .sliceToArrayPointer t y):FX P E B w0 call σ k H w s a o:=
 L9 (m:=Instr.arrayAt t (a.eval y)) A (by unfold execOp;rw[q]) (by unfold BN;rw[q]) (fun x G=>ZCI z C (EX D F y) G)
theorem Zlc (z:Ci E) (C:E.P=P) (A:Inv B w0 σ H w) (D:Df E σ w) (F:AQ σ w s a.tmps.toList) {t:TypeId} {y:Operand} {f:Nat} (q:o.op = .fieldAddr t y f):FX P E B w0 call σ k H w s a o:=
 L9 (m:=Instr.fieldAt t (a.eval y) f) A (by unfold execOp;rw[q]) (by unfold BN;rw[q]) (fun x G=>Zq2 z C (EX D F y) G)
theorem ZqO (z:Ci E) (C:E.P=P) (A:Inv B w0 σ H w) (D:Df E σ w) (F:AQ σ w s a.tmps.toList) {t:TypeId} {y:Operand} {f:Nat} (q:o.op = .field t y f):FX P E B w0 call σ k H w s a o:=
 L9 (m:=Instr.field t (a.eval y) f) A (by unfold execOp;rw[q]) (by unfold BN;rw[q]) (fun x G=>ZBc z C (EX D F y) G)
theorem ZkZ (D:Ci E) (F:E.P=P) (z:Inv B w0 σ H w) (A:Df E σ w) (C:AQ σ w s a.tmps.toList) {t:TypeId} {y i:Operand} (q:o.op = .indexAddr t y i):FX P E B w0 call σ k H w s a o:=
 L9 (m:=Instr.indexAt t (a.eval y) (a.eval i)) z (by unfold execOp;rw[q]) (by unfold BN;rw[q]) (fun x G=>Zoo D F z (EX A C y) (EX A C i) G)
theorem Ztb (C:Ci E) (F:E.P=P) (D:Inv B w0 σ H w) (z:Df E σ w) (A:AQ σ w s a.tmps.toList) {t:TypeId} {y i:Operand} (q:o.op = .index t y i):FX P E B w0 call σ k H w s a o:=
 L9 (m:=Instr.index t (a.eval y) (a.eval i)) D (by unfold execOp;rw[q]) (by unfold BN;rw[q]) (fun x G=>ZAb C F (EX z A y) (EX z A i) G)
theorem Zbi {σ:Sg} {w:World} {kd:IntKind} {n:Int}:∀(l:List MapEntry) (kvs:List V) (i:Nat),AQ σ w kvs (l.flatMap fun e=>[e.key,e.val]) ->
  (MN kd n kvs=some none->Instr.findNow (.int kd) (.int kd n) l i=some none)/\(∀v,MN kd n kvs=some (some v)->∃j u,Instr.findNow (.int kd) (.int kd n) l i=some (some (j,u))/\AQ σ w [v] [u])
 | [],kvs,i,h=>by
  cases h;exact⟨fun _=>rfl,fun v C=>by cases C⟩
 | e::l,kvs,i,h=>by
  have G : AQ σ w kvs (e.key::e.val::l.flatMap fun e=>[e.key,e.val]):=h;cases kvs with
  | nil=>cases G
  | cons x kvs=>
   obtain⟨I,J⟩:=AQ.FD.1 G;cases kvs with
   | nil=>cases J
   | cons y kvs=>
    obtain⟨M,N⟩:=AQ.FD.1 J;have S:=Zbi (kd:=kd) (n:=n) l kvs (i+1) N;generalize Q:e.key=key at I;have no:(∀k a,x≠.lit (.int k a))->MN kd n (x::y::kvs)=none:=fun D=>by
     unfold MN;split
     ·rename_i q;cases q
     ·rename_i q;simp only[List.cons.injEq]at q;exact absurd q.1 (D _ _)
     ·rfl
    by_cases D:∃k a,x = .lit (.int k a)
    ·obtain⟨k,a,rfl⟩:=D;cases I with
     | lit _ _=>
      unfold MN
      by_cases A:k=kd
      ·subst A;simp only[if_true];unfold Instr.findNow;rw[Q];simp only[Instr.sameNow,if_true]
       by_cases F:n=a
       ·subst F;simp only[if_true,beq_self_eq_true];exact⟨fun z=>by simp at z,fun v C=>by simp only[Option.some.injEq]at C;subst C;exact⟨i,e.val,rfl,M⟩⟩
       ·rw[if_neg F];have:(n==a)=false:=by simpa using F
        simp only[this];exact S
      ·rw[if_neg A];exact⟨fun z=>(by cases z),fun v z=>(by cases z)⟩
    ·rw[no (fun k a O=>D ⟨k,a,O⟩)];exact⟨fun z=>(by cases z),fun v z=>(by cases z)⟩
theorem Zzm (Q:Ci E) (S:E.P=P) {t:TypeId} {ok:Bool} {m x r:V} {mv xv:Value} (hm:AQ σ w [m] [mv]) (hx:AQ σ w [x] [xv]) (h:Vg E t ok m x=some r) :
  ∃v,(Instr.lookup t mv xv ok).run P w = .ok v w/\AQ σ w [r] [v]:=by
 unfold Vg at h;split at h
 ·rename_i k e sz by' z0 kvs kd n hti;obtain⟨inf,d,hi,hd,q1,q2,q3,q4⟩:=FH (Q.ti _ _ hti);have F : P.underlying t=some (.map k e):=by
   rw[S]at hd;rw[hd];cases d<;>simp[Ky]at q1;exact congrArg some (by rw[q1.1,q1.2])
  split at h
  ·rename_i hkd;have hk:P.underlying k=some (.int kd):=by rw[<- S];exact Q.kind _ _ hkd
   cases hm with
   | GY g es c h0 hg hus _=>
    subst hus;cases hx with
    | lit _ _=>
     obtain⟨f1,f2⟩:=Zbi (kd:=kd) (n:=n) es.toList kvs 0 h0;have D:(Instr.checkKey es.isEmpty 10000 k (.int kd n)).run P w = .ok () w:=MapKept.run_checkKey (k:=.int kd n) hk (by simp[MapKept.IsKey]) es.isEmpty 9999;have G:∀q,Instr.findNow (.int kd) (.int kd n) es.toList 0=some q->(Instr.findKey k (.int kd n) es.toList).run P w = .ok q w:=fun q hq=>by simp[Instr.findKey,run_underlying hk,hq]
     split at h
     ·rename_i v hv;obtain⟨j,u,O,C⟩:=f2 v hv;simp only[Option.some.injEq]at h;subst h;refine⟨if ok then .tuple #[u,.bool true] else u,by simp[Instr.lookup,run_underlying F,MapKept.run_getObj_map hg,D,G _ O,Result.andThen],?_⟩;cases ok with
      | true=>exact .BH (AQ.FD.2 ⟨C,.lit rfl .nil⟩) .nil
      | false=>exact C
     ·rename_i hv;have O:=f1 hv;split at h
      ·rename_i ei Y;obtain⟨J,de,I,hde,e1,e2,e3,M⟩:=FH (Q.ti _ _ Y);cases hz:ei.zero with
       | none=>simp[hz]at h
       | some z=>
        simp only[hz,Option.map_some,Option.some.injEq]at h;subst h;rw[hz]at M;cases A:J.zero with
        | none=>simp[A]at M
        | some N=>
         simp only[A,Option.map_some,Option.some.injEq]at M;have hzr:(zeroValue e).run P w = .ok N w:=by rw[S]at I;simp[zeroValue,typeInfo,I,A]
         have C:=X4 σ w N;rw[<- M]at C;refine⟨if ok then .tuple #[N,.bool false] else N,by simp[Instr.lookup,run_underlying F,MapKept.run_getObj_map hg,D,G _ O,hzr,Result.andThen],?_⟩;cases ok with
         | true=>exact .BH (AQ.FD.2 ⟨C,.lit rfl .nil⟩) .nil
         | false=>exact C
      ·cases h
     ·cases h
  ·cases h
 ·cases h
theorem ZoC (C:Ci E) (F:E.P=P) (D:Inv B w0 σ H w) (z:Df E σ w) (A:AQ σ w s a.tmps.toList) {t:TypeId} {y i:Operand} {ok:Bool} (q:o.op = .lookup t y i ok):FX P E B w0 call σ k H w s a o:=
 L9 (m:=Instr.lookup t (a.eval y) (a.eval i) ok) D (by unfold execOp;rw[q]) (by unfold BN;rw[q]) (fun x G=>Zzm C F (EX z A y) (EX z A i) G)
theorem ZmT (I:Inv B w0 σ H w) (J:Df E σ w) (O:AQ σ w s a.tmps.toList) {y:Operand} {i:Nat} (A:o.op = .extract y i):FX P E B w0 call σ k H w s a o:=by
 intro x H' z next Q M
 unfold BN at z;rw[A]at z;simp only at z;split at z
 ·rename_i vs Y;cases hb:vs[i]? with
  | none=>simp[hb]at z
  | some r=>
   simp only[hb,Option.map_some,Option.some.injEq,Prod.mk.injEq]at z;obtain⟨rfl,rfl⟩:=z;have C:=EX J O y;rw[Y]at C;have:∃ws,a.eval y = .tuple ws.toArray/\AQ σ w vs ws:=by
    generalize a.eval y=q at C;cases C with
    | BH G _=>exact⟨_,rfl,G⟩
   obtain⟨ws,D,F⟩:=this;obtain⟨u,S,N⟩:=F.get hb;exact Il (s:=Instr.extract (a.eval y) i) (by unfold execOp;rw[A]) (by rw[D];simp[Instr.extract,S]) (M _ w σ I (Ext.refl σ w) N)
 ·cases z
theorem ZlY (F:Inv B w0 σ H w) (z:Df E σ w) (A:AQ σ w s a.tmps.toList) {f:FuncId} {first caps:Array Operand} (q:o.op = .makeFunc (.func f) first caps):FX P E B w0 call σ k H w s a o:=
 L9 (m:=Instr.makeFunc (.func f) (first.map a.eval) (caps.map a.eval)) (y:=some (.fn f (evs E s first) (evs E s caps))) F (by unfold execOp;rw[q]) (by unfold BN;rw[q];rfl)
  (fun x G=>by
   cases G;refine⟨.func (.func f) (first.map a.eval) (caps.map a.eval),rfl,?_⟩;have C:(first.toList.map a.eval).toArray=first.map a.eval:=by rw[<- Array.toList_map]
   have D:(caps.toList.map a.eval).toArray=caps.map a.eval:=by rw[<- Array.toList_map]
   rw[<- C,<- D];exact AQ.fn (f:=f) (rH (a:=a) z A first.toList) (rH (a:=a) z A caps.toList) (xs:=[]) (vs:=[]) .nil)
theorem Zqt {P:Program} {f:FuncId} {fn:Func} (h:P.funcs[f]? = some fn) (q:(fn.name == "runtime.NumGoroutine")=false) (hb:fn.body.isNone=false) (args:Array Value) (w:World) :
  (callFunc f args).run P w = .ok (.enter f args) w:=by
 unfold callFunc;rw[Sem.run_bind];have z:(Go.program).run P w = .ok P w:=rfl;rw[z];simp only[Result.andThen_ok,h,q,hb,Bool.false_eq_true,if_false];rfl
theorem Zlr (C:JW P E B w0 call) (hI:Inv B w0 σ H w) (S:Df E σ w) (hs:AQ σ w s a.tmps.toList) {c:Call} {f:Operand} (G:o.op = .call c) (hc:c.callee = .value f):FX P E B w0 call σ k H w s a o:=by
 intro x H' F next Q hn
 unfold BN at F;rw[G]at F;simp only[hc]at F;split at F
 ·rename_i g first caps hf
  have Y:=EX S hs f;rw[hf]at Y;have:∃us ws,a.eval f = .func (.func g) us.toArray ws.toArray/\AQ σ w first us/\AQ σ w caps ws:=by
   generalize a.eval f=q at Y;cases Y with
   | fn J M _=>exact⟨_,_,rfl,J,M⟩
  obtain⟨us,ws,e1,r1,r2⟩:=this;have r3:=rH (a:=a) S hs c.args.toList;obtain⟨⟨fn,O,A,D⟩,z⟩:=C g _ H x H' σ w _ F hI S ((r1.append r3).append r2);have I:(execOp a.eval o).run P w = .ok (.enter g (us++c.args.toList.map a.eval++ws).toArray) w:=by
   have N:us.toArray++c.args.map a.eval++ws.toArray=(us++c.args.toList.map a.eval++ws).toArray:=by
    rw[<- Array.toList_map];simp
   have he:execOp a.eval o=callFunc g (us.toArray++c.args.map a.eval++ws.toArray):=by
    unfold execOp;rw[G];simp[resolve,hc,e1,Deferred.ofValue,invoke]
   rw[he,N];exact Zqt O D A _ w
  unfold Oper.wp;rw[I,Oper.upon_enter];refine z.mono ?_
  rintro e w' ⟨u,σ',rfl,J,M,h3⟩
  exact hn _ w' σ' J M h3
 ·cases F
theorem Zyn (h:Inv B w0 σ H w) {x:V} {v:Value} {n:Nat} (A:AQ σ w [x] [v]) (q:lenOf H x=some n):n<=maxLen:=by
 unfold lenOf at q;split at q
 ·simp only[Option.some.injEq]at q;subst q;cases A with
  | EY _=>exact Nat.zero_le _
  | FW a _=>exact Nat.zero_le _
  | sl b o c e k0 k1 k2 k3 k4 k5 k6 k7=>exact Nat.le_trans k4 k5
 ·simp only[Option.some.injEq]at q;subst q;cases A with
  | Fp _=>exact Nat.zero_le _
  | GN a _=>exact Nat.zero_le _
  | Ce b o e k0 k1 k2 k3 k4 k5 k6=>exact k4
 ·rename_i id off len tot;split at q
  ·rename_i b hb;simp only[Option.some.injEq]at q;subst q;obtain⟨L,us,m,O,M,S,z⟩:=OG h A hb;rcases z with ⟨N,D,Q,q,Y⟩|⟨g,cap,k,N,D,I,J,F,G⟩
   ·omega
   ·omega
  ·cases q
 ·rename_i s;simp only[Option.some.injEq]at q;subst q;cases A with
  | lit C _=>simpa[leaf]using C
 ·cases q
theorem ZdA (q:Bool) {b:Builtin} (J:Inv B w0 σ H w) {c:Call} (D:o.op = .call c) (hc:c.callee = .builtin b) {xs:List V} {vs:List Value} (Y:AQ σ w xs vs) (A:c.args.map a.eval=vs.toArray)
  (hb:b=if q then .max else .min) {x:V} {H' : Heap} (hm:(Pg q xs).map (·,H)=some (x,H')) {next:Act->World->Prop} {Q:Exit->Act->World->Prop}
  (M:∀u w' σ',Inv B w0 σ' H' w' -> Ext σ w σ' w' -> AQ σ' w' [x] [u]->next (a.put o.dst u) w'):o.wp P a w next Q:=by
 cases z : Pg q xs with
 | none=>simp[z]at hm
 | some y=>
  simp only[z,Option.map_some,Option.some.injEq,Prod.mk.injEq]at hm;obtain⟨rfl,rfl⟩:=hm;unfold Pg at z;split at z
  ·rename_i k n N;obtain⟨v,G,rfl,O,S⟩:=Y.Dq;have C:leaf (.int k n)=true/\v = .int k n:=by cases O with|lit l _=>exact⟨l,rfl⟩
   obtain⟨C,rfl⟩:=C;obtain⟨u,I,F⟩:=Z4B (P:=P) q S C z;cases q
   ·simp only[Bool.false_eq_true,if_false]at hb I;subst hb;exact Il (s:=Builtin.min_ c.argTypes o.type (Value.int k n::G).toArray) (by unfold execOp;rw[D];simp only[resolve,hc,A];rfl) (by simpa[Builtin.min_]using I) (M _ w σ J (Ext.refl σ w) F)
   ·simp only[if_true]at hb I;subst hb;exact Il (s:=Builtin.max_ c.argTypes o.type (Value.int k n::G).toArray) (by unfold execOp;rw[D];simp only[resolve,hc,A];rfl) (by simpa[Builtin.max_]using I) (M _ w σ J (Ext.refl σ w) F)
  ·cases z
theorem ZjU (hE:Ci E) (hP:E.P=P) (hk0:FP H k=true) (F:Inv B w0 σ H w) (hg:Df E σ w) (hs:AQ σ w s a.tmps.toList) {c:Call} {b:Builtin} (D:o.op = .call c) (hc:c.callee = .builtin b):FX P E B w0 call σ k H w s a o:=by
 intro x H' z next Q O
 unfold BN at z;rw[D]at z;simp only[hc]at z;have J:=rH (a:=a) hg hs c.args.toList;have q:c.args.map a.eval=(c.args.toList.map a.eval).toArray:=by rw[<- Array.toList_map]
 unfold evs at z;generalize c.args.toList.map (ev E s)=xs at z J;generalize hvs:c.args.toList.map a.eval=vs at J q;generalize S:c.argTypes.toList=tys at z;have C : c.argTypes=tys.toArray:=by rw[<- S]
 unfold PS at z;split at z
 ·rename_i x0 t;obtain⟨v,Y,rfl,I,M⟩:=J.Dq;cases M.FI;split at z
  ·rename_i A;cases N:lenOf H x0 with
   | none=>simp[N]at z
   | some n=>
    simp only[N]at z;cases z;have G:(Builtin.len_ #[t] o.type #[v]).run P w = .ok (.int .i64 n) w:=by
     unfold sH at A;split at A
     ·rename_i st;have:=hE.isStr _ A;rw[hP]at this;exact ZeY F I N this (.inr rfl) ⟨fun⟨e,he⟩=>(by cases he),fun hh=>absurd rfl (hh st)⟩
     ·rename_i hne;split at A
      ·rename_i e sz by' z0 hti;obtain⟨inf,d,hi,hd,q1,q2,q3,q4⟩:=FH (hE.ti _ _ hti);rw[hP]at hd;exact ZeY F I N hd (.inl ⟨e,OA q1⟩) ⟨fun _=>hne,fun _=>⟨e,OA q1⟩⟩
      ·cases A
    have hbd:=G;have hlf:leaf (.int .i64 (n:Int))=true:=by
     have:=Zyn F I N;have:(Lit.int .i64 (n:Int)).wf=true:=by
      simp[Lit.wf,IntKind.min,IntKind.max,IntKind.signed,IntKind.bits,maxLen]at this ⊢;omega
     simpa[leaf]using this
    exact Il (s:=Builtin.len_ #[t] o.type #[v]) (by unfold execOp;rw[D];simp only[resolve,hc,q,C];rfl) G (O _ w σ F (Ext.refl σ w) (.lit hlf .nil))
  ·cases z
 ·rename_i s0 x0 t u;obtain⟨v,Y,rfl,I,M⟩:=J.Dq;obtain⟨v2,vs2,rfl,h3,h4⟩:=M.Dq;cases h4.FI;obtain⟨u',w',σ',hu,i1,i2,i3⟩:=ZzQ (P:=P) hE hP F hk0 o.type I h3 z;exact Il (s:=Builtin.append_ #[t,u] o.type #[v,v2]) (by unfold execOp;rw[D];simp only[resolve,hc,q,C];rfl) hu (O _ w' σ' i1 i2 i3)
 ·rename_i d0 x0 t u;obtain⟨v,Y,rfl,I,M⟩:=J.Dq;obtain⟨v2,vs2,rfl,h3,h4⟩:=M.Dq;cases h4.FI;obtain⟨u',w',σ',hu,i1,i2,i3⟩:=ZCD (P:=P) hE hP F o.type I h3 z;exact Il (s:=Builtin.copy_ #[t,u] o.type #[v,v2]) (by unfold execOp;rw[D];simp only[resolve,hc,q,C];rfl) hu (O _ w' σ' i1 i2 i3)
 ·rename_i tys0;exact ZdA false F D hc J q rfl (by simpa using z) O
 ·exact ZdA true F D hc J q rfl (by simpa using z) O
 ·cases z
end
theorem ZA9 {E B w0 σ H w} {P:Program} (F:Ci E) (G:E.P=P) {call:Dn} (M:JW P E B w0 call) (A:Inv B w0 σ H w) (C:Df E σ w) {k:Nat} (I:FP H k=true) {s:List V} {a:Act} (D:AQ σ w s a.tmps.toList)
  (o:Oper):FX P E B w0 call σ k H w s a o:=by
 cases q:o.op with
 | move y=>exact Zvr A C D q
 | assign y=>exact Zq6 I A C D q
 | pick c y z=>exact Zwd A C D q
 | alloc t=>exact ZtV F G I A q
 | box t y=>exact ZxY I A C D q
 | build t N=>exact ZrM F G A C D q
 | buildSlice t n N=>exact ZkI F G I A C D q
 | load t y=>exact Zv6 F G A C D q
 | store t y z=>exact Zsu F G A C D q
 | nilCheck y=>exact Zmc A C D q
 | binOp op t y z yt=>exact Zt3 F G A C D q
 | unOp op t y=>exact Zu7 A C D q
 | convert O dst y=>exact Zo4 F G I A C D q
 | makeSlice t l c=>exact ZkV F G I A C D q
 | slice t y S Q Y=>exact Zt5 F G A C D q
 | sliceToArrayPointer t y=>exact ZzE F G A C D q
 | fieldAddr t y f=>exact Zlc F G A C D q
 | field t y f=>exact ZqO F G A C D q
 | indexAddr t y i=>exact ZkZ F G A C D q
 | index t y i=>exact Ztb F G A C D q
 | extract y i=>exact ZmT A C D q
 | lookup t y i ok=>exact ZoC F G A C D q
 | makeFunc fn first caps=>
  cases fn with
  | func f=>exact ZlY A C D q
  | _=>intro x H' J;unfold BN at J;rw[q]at J;cases J
 | call c=>
  cases hc:c.callee with
  | value f=>exact Zlr M A C D q hc
  | builtin b=>exact ZjU F G I A C D q hc
  | _=>intro x H' J;unfold BN at J;rw[q]at J;simp only[hc]at J;cases J
 | _=>intro x H' J;unfold BN at J;rw[q]at J;cases J
end Go.Proofs.YtjodhcdmhobmoaaGreatDoor.Le
namespace Go.Proofs.YtjodhcdmhobmoaaGreatDoor.Le
open Go.RowKit (Below)
structure Eu (E:Env) (B:Nat) (w0:Start) (σ:Sg) (st:St) (a:Act) (w:World):Prop where
 inv:Inv B w0 σ st.H w
 Ee:Df E σ w
 slots:AQ σ w st.s a.tmps.toList
 calm:a.defers=[]
theorem qQ {σ w s x u} {a:Act} (h:AQ σ w s a.tmps.toList) (q:AQ σ w [x] [u]) (d:Option Tmp):AQ σ w (setSlot s d x) (a.put d u).tmps.toList:=by
 cases d with
 | none=>exact h
 | some d=>
  simp only[setSlot,Act.put,Array.toList_setIfInBounds];exact h.set d q
theorem rP {a:Act} (h:a.defers=[]) (d:Option Tmp) (u:Value):(a.put d u).defers=[]:=by
 cases d<;>exact h
theorem ZAJ {σ w s} {a:Act} {ops:Array Oper} (h:AQ σ w s a.tmps.toList) {j d:Nat} {z r:Bool} (J:(ops[j]?).bind (·.dst)=some d) (A:OY (s.getD d .und) z=some r) :
  (yielded ops a.tmps j==some z)=r:=by
 unfold yielded;rw[J];have q:∀x,s.getD d .und=x->x≠.und->∃v,a.tmps[d]? = some v/\AQ σ w [x] [v]:=by
  intro x F G;cases I:s[d]? with
  | none=>simp[List.getD,I]at F;exact absurd F.symm G
  | some y=>
   simp[List.getD,I]at F;subst F;obtain⟨v,D,C⟩:=h.get I;exact⟨v,by simpa using D,C⟩
 unfold OY at A;split at A
 ·rename_i b hb;obtain⟨v,D,C⟩:=q _ hb (by simp);simp only[Option.some.injEq]at A;have:v = .bool b:=by cases C;rfl
  subst this;simp only[Option.bind_some,D];rw[<- A];cases b<;>cases z<;>rfl
 ·rename_i hb;obtain⟨v,D,C⟩:=q _ hb (by simp);simp only[Option.some.injEq]at A;have:v=undef:=by cases C;rfl
  subst this;simp only[Option.bind_some,D];rw[<- A];rfl
 ·cases A
section
variable {E:Env} {B:Nat} {w0:Start} {σ:Sg} {P:Program} {call:Dn} {ops:Array Oper} {st st' : St} {a:Act} {w:World}
theorem Zcq (hE:Ci E) (hP:E.P=P) (C:JW P E B w0 call) {k i:Nat} (hk:FP st.H k=true) (h:Eu E B w0 σ st a w) (A:Jm call E ops k i st=some st')
  {K:Act->World->Prop} {Q:Exit->Act->World->Prop} (O:∀S w' σ',Eu E B w0 σ' st' S w' -> Ext σ w σ' w' -> K S w'):wpOp P ops Q i K a w:=by
 unfold Jm at A;unfold wpOp;cases Y:ops[i]? with
 | none=>
  simp only[Y,Option.some.injEq]at A ⊢;subst A;exact O a w σ h (Ext.refl σ w)
 | some o=>
  simp only[Y]at A ⊢;have G:∀x H',BN call E k st.H st.s o=some (x,H')->st' = ⟨setSlot st.s o.dst x,H'⟩->o.wp P a w K Q:=by
   intro x H' hx z;refine ZA9 hE hP C h.inv h.Ee hk h.slots o x H' hx K Q (fun u w' σ' h1 J h3=>O _ w' σ' ⟨?_,h.Ee.ext J,?_,rP h.calm _ _⟩ J)
   ·rw[z];exact h1
   ·rw[z];exact qQ (h.slots.ext J) h3 o.dst
  have D:st' = ⟨setSlot st.s o.dst EH,st.H⟩->K (a.put o.dst undef) w:=by
   intro z;refine O _ w σ ⟨by rw[z];exact h.inv,h.Ee,?_,rP h.calm _ _⟩ (Ext.refl σ w);rw[z];exact qQ h.slots (.no .nil) o.dst
  cases q:F7 call E ops k o st with
  | none=>simp[q]at A
  | some r=>
   obtain⟨v,H'⟩:=r;simp only[q,Option.some.injEq]at A;unfold F7 at q;unfold Region.wanted;cases F:o.guard with
   | none=>
    simp only[F]at q ⊢;exact .inl (G v H' q A.symm)
   | some jw=>
    obtain⟨j,I⟩:=jw;simp only[F]at q ⊢;cases M:(ops[j]?).bind (·.dst) with
    | none=>simp[M]at q
    | some d=>
     simp only[M]at q;cases N:OY (st.s.getD d .und) I with
     | none=>rw[N]at q;cases q
     | some r=>
      rw[N]at q;simp only[ZAJ h.slots M N];cases r with
      | false=>
       simp only[Option.some.injEq,Prod.mk.injEq]at q;obtain⟨rfl,rfl⟩:=q;simp only[Bool.false_eq_true,if_false];exact D A.symm
      | true=>
       simp only at q;simp only[if_true];exact .inl (G v H' q A.symm)
theorem ZeA (S:Ci E) (Y:E.P=P) (q:JW P E B w0 call):∀(C:List Nat) (st:St) (σ:Sg) (a:Act) (w:World),Eu E B w0 σ st a w->MW call E ops C st=some st' ->
  ∀{Q:Exit->Act->World->Prop},(∀A w' σ',Eu E B w0 σ' st' A w' -> Ext σ w σ' w' -> Q .normal A w')->wpOps P ops Q C a w:=by
 intro C;induction C with
 | nil=>
  intro st σ a w h z Q G;simp only[MW,Option.some.injEq]at z;subst z;exact G a w σ h (Ext.refl σ w)
 | cons i N ih=>
  intro st σ a w h z Q G;simp only[MW]at z;cases D:stepD call E ops i st with
  | none=>simp[D]at z
  | some J=>
   simp only[D]at z;rw[wpOps_cons];exact Zcq S Y q (dU st.H) h D (fun O w1 M I F=>ih J M O w1 I z (fun A w' σ' hr he=>G A w' σ' hr (F.trans he)))
end
end Go.Proofs.YtjodhcdmhobmoaaGreatDoor.Le
namespace Go.Proofs.YtjodhcdmhobmoaaGreatDoor.Le
open Go.RowKit (Below)
theorem getD_set_ne' {s:List V} {d t:Nat} (h:d≠t) (v u:V):(s.set d v).getD t u=s.getD t u:=by
 simp[List.getD,List.getElem?_set_ne h]
theorem tN {E:Env} {s:List V} {d:Option Tmp} {v:V} (x:Operand) (h:∀q,d=some q -> x≠.tmp q):ev E (setSlot s d v) x=ev E s x:=by
 cases d with
 | none=>rfl
 | some d=>
  cases x with
  | tmp t=>exact getD_set_ne' (fun e=>h d rfl (by rw[e])) v .und
  | _=>rfl
theorem Z0v {E:Env} {s q : List V} (xs:List Operand) (h:∀x∈xs,ev E s x=ev E q x):xs.map (ev E s)=xs.map (ev E q):=List.map_congr_left h
theorem Zax {E:Env} {s q : List V} (ps:Array (Nat×Operand)) (h:∀x∈(ps.toList.map (·.2)).toArray,ev E s x=ev E q x) :
  (ps.toList.map fun(i,x)=>(i,ev E s x))=(ps.toList.map fun(i,x)=>(i,ev E q x)):=List.map_congr_left fun p z=>by
 obtain⟨i,x⟩:=p;simp only[h x (by simpa using ⟨i,by simpa using z⟩)]
theorem Zxv {call:Dn} {E:Env} {k:Nat} {H:Heap} {s z : List V} {o:Oper} (h:∀x∈o.op.operands,ev E s x=ev E z x):BN call E k H s o=BN call E k H z o:=by
 obtain⟨dst,op,type,pos,after,guard⟩:=o;simp only at h;cases op<;>simp only[Op.operands]at h<;>simp only[BN]
 case assign x=>
  have q:ev E s x=ev E z x:=h x (by simp);split<;>simp_all
 case build t ps=>rw[Zax ps h]
 case buildSlice t n ps=>rw[Zax ps h]
 case makeFunc fn first captured=>
  have A:evs E s first=evs E z first:=Z0v _ fun x q=>h x (by simp at q;simp[q])
  have G:evs E s captured=evs E z captured:=Z0v _ fun x q=>h x (by simp at q;simp[q]);cases fn<;>simp only[A,G]
 case call c=>
  have A:evs E s c.args=evs E z c.args:=Z0v _ fun x q=>h x (by simp at q;simp[Call.operands,q]);rw[A];cases hc:c.callee with
  | value f=>have I:ev E s f=ev E z f:=h f (by simp[Call.operands,hc]);simp only[I]
  | builtin b=>cases b<;>rfl
  | invoke r n=>rfl
 case slice t x lo hi mx=>
  have q:ev E s x=ev E z x:=h x (by simp);have D:lo.map (ev E s)=lo.map (ev E z):=by cases lo<;>simp_all
  have C:hi.map (ev E s)=hi.map (ev E z):=by cases hi<;>simp_all
  have F:mx.map (ev E s)=mx.map (ev E z):=by cases mx<;>simp_all
  rw[q,D,C,F]
 all_goals (first|rfl|(simp_all;done))
theorem rQ {ops:Array Oper} {o:Oper} {d:Tmp} (h:d∉o.looksAt ops):∀x∈o.op.operands,x≠.tmp d:=fun x q e=>h (by
 subst e;exact List.mem_append_left _ (List.mem_filterMap.2 ⟨.tmp d,by simpa using q,rfl⟩))
theorem ZeC {call:Dn} {E:Env} {k:Nat} {H:Heap} {s:List V} {o:Oper} {ops:Array Oper} {d:Option Tmp} {v:V} (h:∀q,d=some q -> q ∉o.looksAt ops) :
  BN call E k H (setSlot s d v) o=BN call E k H s o:=
 Zxv fun x A=>tN x fun q z=>rQ (h q z) x A
theorem Z2z {E:Env} {s:List V} {o:Oper} {ops:Array Oper} {d:Option Tmp} {v:V} (h:∀q,d=some q -> q ∉o.looksAt ops):EE E (setSlot s d v) o=EE E s o:=by
 unfold EE;rw[<- List.flatMap_map,<- List.flatMap_map (f:=ev E s)];congr 1;exact List.map_congr_left fun x A=>tN x fun q z=>rQ (h q z) x (by simpa using A)
theorem Zau {E:Env} {s:List V} {o:Oper} {ops:Array Oper} {d:Option Tmp} {v:V} (h:∀z,d=some z -> z ∉o.looksAt ops):quietAt E (setSlot s d v) o=quietAt E s o:=by
 unfold quietAt;cases A:o.op with
 | call c=>
  simp only;cases q:c.callee with
  | value f=>
   cases f with
   | tmp t=>
    have D:Operand.tmp t∈o.op.operands:=by simp[A,Op.operands,Call.operands,q]
    have:=tN (E:=E) (s:=s) (v:=v) (.tmp t) fun z C=>rQ (h z C) _ D;simp only[show (setSlot s d v).getD t .und=s.getD t .und from this]
   | _=>rfl
  | _=>rfl
 | _=>rfl
theorem Zdy {call:Dn} {E:Env} {k:Nat} {H:Heap} {s:List V} {o:Oper} {ops:Array Oper} {d:Option Tmp} {v:V} (h:∀q,d=some q -> q ∉o.looksAt ops) :
  F7 call E ops k o ⟨setSlot s d v,H⟩=F7 call E ops k o ⟨s,H⟩:=by
 unfold F7;cases F:o.guard with
 | none=>exact ZeC h
 | some G=>
  obtain⟨j,C⟩:=G;simp only;cases D:(ops[j]?).bind (·.dst) with
  | none=>rfl
  | some g=>
   have A:∀q,d=some q -> q ≠g:=fun q z e=>h q z (by
    subst e;exact List.mem_append_right _ (by simp[F,D]))
   have:(setSlot s d v).getD g .und=s.getD g .und:=by
    cases d with
    | none=>rfl
    | some d=>exact getD_set_ne' (A d rfl) v .und
   simp only[this];rw[ZeC h]
def Box.low (b:Box):Box:={ b with floor:=0 }
def DU (R:List Nat) (H H' : Heap):Prop:=∀id∈R,(H[id]?).map Box.low=(H'[id]?).map Box.low
theorem PO {H H' : Heap} {id tot:Nat} {b:Box} (h:(H[id]?).map Box.low=(H'[id]?).map Box.low) (hb:DX H id tot=some b):∃q,DX H' id tot=some q /\ q.low=b.low:=by
 unfold DX at *;cases z:H[id]? with
 | none=>simp[z]at hb
 | some b0=>
  simp only[z]at hb h;cases A:H'[id]? with
  | none=>simp[A]at h
  | some b1=>
   simp only[A,Option.map_some,Option.some.injEq]at h;split at hb
   ·rename_i hc;simp only[Option.some.injEq]at hb;subst hb;refine⟨b1,?_,h.symm⟩;have C:b1.live=b0.live:=(congrArg Box.live h).symm;have D:b1.xs=b0.xs:=(congrArg Box.xs h).symm;simp only[C,D,hc,if_true]
   ·cases hb
theorem Si {b q : Box} (h:q.low=b.low):q.row=b.row/\q.EZ=b.EZ/\q.elem=b.elem/\q.Ap=b.Ap/\q.xs=b.xs:=
 ⟨congrArg (·.row) h,congrArg (·.EZ) h,congrArg (·.elem) h,congrArg (·.Ap) h,congrArg (·.xs) h⟩
theorem Rz {H H' : Heap} {id tot:Nat} (h:(H[id]?).map Box.low=(H'[id]?).map Box.low) (hb:DX H id tot=none):DX H' id tot=none:=by
 cases q : DX H' id tot with
 | none=>rfl
 | some b=>
  obtain⟨A,z,_⟩:=PO h.symm q;rw[hb]at z;cases z
section
variable {H H' : Heap}
theorem Z3e {x:V} (h:DU (EF x) H H'):IE H' x=IE H x:=by
 unfold IE;split<;>try rfl
 rename_i id off len tot;cases hb:DX H id tot with
 | none=>rw[Rz (h id (by simp[EF])) hb]
 | some b=>
  obtain⟨F,C,D⟩:=PO (h id (by simp[EF])) hb;obtain⟨q,G,I,z,A⟩:=Si D;simp only[C,q,z,A]
theorem ZBa {xs:List V} (h:DU (xs.flatMap EF) H H'):JQ H' xs=JQ H xs:=by
 induction xs with
 | nil=>rfl
 | cons x xs z=>
  simp only[JQ];rw[Z3e (fun i q=>h i (by simp[q])),z (fun i q=>h i (by rw[List.flatMap_cons];exact List.mem_append_right _ q))]
theorem Zeq {x:V} (h:DU (Cj x) H H'):IG H' x=IG H x:=by
 unfold IG;split
 ·rw[ZBa (by simpa[Cj]using h)]
 ·rename_i q;refine Z3e (fun i z=>h i ?_);cases x with
  | fn f a b=>simp[EF]at z
  | agg cs=>exact absurd rfl (q cs)
  | _=>exact z
theorem Z27 {xs:List V} (h:DU (xs.flatMap Cj) H H'):FM H' xs=FM H xs:=by
 induction xs with
 | nil=>rfl
 | cons x xs z=>
  simp only[FM];rw[Zeq (fun i q=>h i (by simp[q])),z (fun i q=>h i (by rw[List.flatMap_cons];exact List.mem_append_right _ q))]
theorem Z2D {x:V} (h:DU (Cj x) H H'):lenOf H' x=lenOf H x:=by
 unfold lenOf;split<;>try rfl
 rename_i id off len tot;cases hb:DX H id tot with
 | none=>rw[Rz (h id (by simp[Cj,EF])) hb]
 | some b=>
  obtain⟨z,q,A⟩:=PO (h id (by simp[Cj,EF])) hb;simp only[q]
theorem oM {x:V} (h:DU (Cj x) H H'):elemsOf H' x=elemsOf H x:=by
 unfold elemsOf;split<;>try rfl
 rename_i id off len tot;cases hb:DX H id tot with
 | none=>rw[Rz (h id (by simp[Cj,EF])) hb]
 | some b=>
  obtain⟨D,A,C⟩:=PO (h id (by simp[Cj,EF])) hb;obtain⟨q,F,G,I,z⟩:=Si C;simp only[A,q,z]
theorem qU {x:V} {n:Nat} (h:DU (Cj x) H H'):Eb H' x n=Eb H x n:=by
 unfold Eb;split<;>try rfl
 rename_i id off len tot;cases hb:DX H id tot with
 | none=>rw[Rz (h id (by simp[Cj,EF])) hb]
 | some b=>
  obtain⟨C,z,A⟩:=PO (h id (by simp[Cj,EF])) hb;obtain⟨D,F,G,q,I⟩:=Si A;simp only[z,q]
theorem Zzp {E:Env} {t:TypeId} {a:V} (h:DU (Cj a) H H'):MP E H' t a=MP E H t a:=by
 unfold MP;split
 ·rfl
 ·split<;>try rfl
  rename_i id j off tot;cases hb:DX H id tot with
  | none=>rw[Rz (h id (by simp[Cj,EF])) hb]
  | some b=>
   obtain⟨C,z,A⟩:=PO (h id (by simp[Cj,EF])) hb;obtain⟨D,F,G,I,q⟩:=Si A;simp only[z,q]
theorem ZlU {E:Env} {t:TypeId} {x i:V} (h:DU (Cj x) H H'):PG E H' t x i=PG E H t x i:=by
 unfold PG;split<;>try rfl
 split<;>try rfl
 rename_i id off len tot C;cases hb:DX H id tot with
 | none=>rw[Rz (h id (by simp[Cj,EF])) hb]
 | some b=>
  obtain⟨D,z,A⟩:=PO (h id (by simp[Cj,EF])) hb;obtain⟨F,G,I,q,J⟩:=Si A;simp only[z,q]
theorem Z8h {E:Env} {t:TypeId} {x:V} (h:DU (Cj x) H H'):PN E H' t x=PN E H t x:=by
 unfold PN;split<;>try rfl
 split<;>try rfl
 split<;>try rfl
 rw[qU h]
end
def eff (ids:List Nat) (nb:Option Box) (k:Nat) (H:Heap):Heap:=
 match nb with
 | none=>bump H ids
 | some b=>place (bump H ids) k b
def tZ (E:Env) (call:Dn):Prop:=
 ∀f,((E.pure f||(E.env f).isSome)&&(E.own f).isNone)=true->∀args H v H1,call f args H=some (v,H1) ->
  H1=bump H (args.flatMap Dh)/\∀H',DU (args.flatMap Cj) H H' -> call f args H' = some (v,bump H' (args.flatMap Dh))
def uF (E:Env) (call:Dn):Prop:=
 ∀f,Px E f=true->∀args H v H1,call f args H=some (v,H1) ->
  ∃ids q,(∀i∈ids,i∈args.flatMap Cj)/\H1=bump H ids++q/\∀H',H'.length=H.length->DU (args.flatMap Cj) H H' -> call f args H' = some (v,bump H' ids++q)
structure OL (E:Env) (call:Dn):Prop where
 pure:tZ E call
 free:uF E call
theorem ZdH {x:V} {i:Nat} (h:i∈FB x):i∈EF x:=by
 cases x<;>simp_all [FB,EF]
theorem Zyq {x:V} {i:Nat} (h:i∈Dh x):i∈Cj x:=by
 cases x with
 | agg cs=>
  simp only[Dh,Cj,List.mem_flatMap]at *;obtain⟨c,hc,q⟩:=h;exact⟨c,hc,ZdH q⟩
 | _=>simp_all [Dh,Cj,FB,EF]
theorem Z1E {xs:List V} {i:Nat} (h:i∈xs.flatMap Dh):i∈xs.flatMap Cj:=by
 simp only[List.mem_flatMap]at *;obtain⟨c,hc,q⟩:=h;exact⟨c,hc,Zyq q⟩
theorem Zea {y:Option V} {H H1:Heap} {v:V} (h:y.map (·,H)=some (v,H1)):y=some v/\H1=H:=by
 cases y with
 | none=>cases h
 | some x=>simp at h;exact⟨by rw[h.1],h.2.symm⟩
def Eff (call:Dn) (E:Env) (k:Nat) (H:Heap) (s:List V) (o:Oper) (v:V) (H1:Heap):Prop:=
 ∃ids nb,(∀i∈ids,i∈EE E s o)/\(nb.isSome=true->Bi E o = .a)/\H1=eff ids nb k H /\
  ∀H' k',(Bi E o = .a->k' = k)->DU (EE E s o) H H' -> BN call E k' H' s o=some (v,eff ids nb k' H')
theorem rE {call:Dn} {E:Env} {k:Nat} {H H1:Heap} {s:List V} {o:Oper} {v:V} {y:Heap->Option V} (q:∀H k,BN call E k H s o=(y H).map (·,H))
  (h:BN call E k H s o=some (v,H1)) (D:∀H',DU (EE E s o) H H' -> y H' = y H):Eff call E k H s o v H1:=by
 rw[q]at h;obtain⟨z,A⟩:=Zea h;exact⟨[],none,by simp,by simp,A,fun H' k' _ C=>by rw[q,D H' C,z];rfl⟩
theorem gQ {E:Env} {s:List V} {o:Oper} {H H' : Heap} (h:DU (EE E s o) H H') {x:Operand} (z:x∈o.op.operands):DU (Cj (ev E s x)) H H' :=fun i q=>
 h i (List.mem_flatMap.2 ⟨x,by simpa using z,q⟩)
theorem Z4A {call:Dn} {E:Env} {k:Nat} {H H1:Heap} {s:List V} {o:Oper} {v:V} (hc:Bi E o = .s) (h:BN call E k H s o=some (v,H1)) :
  H1=H/\∀H' k',BN call E k' H' s o=some (v,H'):=by
 have key:∀y:Option V,(∀H k,BN call E k H s o=y.map (·,H))->H1=H/\∀H' k',BN call E k' H' s o=some (v,H'):=by
  intro y A;rw[A]at h;obtain⟨C,D⟩:=Zea h;exact⟨D,fun H' k' =>by rw[A,C];rfl⟩
 obtain⟨dst,op,type,pos,after,guard⟩:=o;cases op<;>simp only[Bi]at hc<;>try (cases hc;done)
 case convert=>split at hc<;>cases hc
 case move x=>exact key (some (ev E s x)) (fun H k=>rfl)
 case pick c x y=>
  refine key (match ev E s c with | .lit (.bool t)=>some (if t then ev E s x else ev E s y)|_=>none) (fun H k=>?_);simp only[BN];split<;>simp_all
 case build t ps=>exact key (VN E t (ps.toList.map fun(i,x)=>(i,ev E s x))) (fun H k=>rfl)
 case binOp op t x y z=>exact key (MV E op t (ev E s x) (ev E s y)) (fun H k=>rfl)
 case unOp op t x=>exact key (jD op (ev E s x)) (fun H k=>rfl)
 case sliceToArrayPointer t x=>exact key (Vq E t (ev E s x)) (fun H k=>rfl)
 case field t x f=>exact key (VR E t (ev E s x) f) (fun H k=>rfl)
 case fieldAddr t x f=>exact key (Uj E t (ev E s x) f) (fun H k=>rfl)
 case index t x i=>exact key (VW E t (ev E s x) (ev E s i)) (fun H k=>rfl)
 case nilCheck x=>
  refine key (match TD (ev E s x) with|some false=>some (ev E s x)|_=>none) (fun H k=>?_);simp only[BN];split<;>simp_all
 case lookup t m x ok=>exact key (Vg E t ok (ev E s m) (ev E s x)) (fun H k=>rfl)
 case extract x i=>
  refine key (match ev E s x with | .BH vs=>vs[i]? | _=>none) (fun H k=>?_);simp only[BN];split<;>simp_all
 case makeFunc fn first caps=>
  cases fn with
  | func f=>exact key (some (.fn f (evs E s first) (evs E s caps))) (fun H k=>rfl)
  | _=>simp[BN]at h
 case assign x=>
  by_cases F:x = .const (.slice none 0 0)
  ·subst F;cases hc
  ·refine key (some (ev E s x)) (fun H k=>?_);unfold BN;split<;>simp_all
 case call c=>
  split at hc
  ·cases hc
  ·rename_i q;exact key (Pg false (evs E s c.args)) (fun H k=>by simp only[BN,q];rfl)
  ·rename_i q;exact key (Pg true (evs E s c.args)) (fun H k=>by simp only[BN,q];rfl)
  ·split at hc
   ·cases hc
   ·split at hc<;>cases hc
  ·split at hc<;>cases hc
  ·cases hc
theorem Zvs {E:Env} {H H' : Heap} {q dst:TypeId} {x r:V} (h:Ia E H q dst x=some (r,H')):H' = H:=by
 unfold Ia at h;split at h
 ·split at h
  ·split at h
   ·cases h;rfl
   ·cases h
  ·cases h
 ·split at h
  ·cases h;rfl
  ·cases h
 ·split at h
  ·split at h
   ·split at h
    ·split at h
     ·cases h;rfl
     ·cases h
    ·cases h
   ·cases h
  ·cases h
theorem Zap {E:Env} {H H' : Heap} {t:TypeId} {x r:V} {z q:Option V} (h:JX E H t x z q none=some (r,H')):H' = H:=by
 unfold JX at h;split at h
 ·split at h
  ·cases h
  ·split at h
   ·cases h
   ·split at h
    ·cases h
    ·split at h
     ·cases ‹none=some _›
     ·split at h<;>cases h<;>rfl
 ·cases h
theorem Z32 {E:Env} {s:List V} {o:Oper} {c:Call} (z:o.op = .call c) {H H' : Heap} (h:DU (EE E s o) H H'):DU ((evs E s c.args).flatMap Cj) H H' :=by
 intro i q;simp only[evs,List.mem_flatMap,List.mem_map]at q;obtain⟨v,⟨x,A,rfl⟩,q⟩:=q;refine h i (List.mem_flatMap.2 ⟨x,?_,q⟩);simp at A;simp[z,Op.operands,Call.operands,A]
theorem Z2P {E:Env} {s:List V} {o:Oper} {c:Call} (z:o.op = .call c) {i:Nat} (q:i∈(evs E s c.args).flatMap Cj):i∈EE E s o:=by
 simp only[evs,List.mem_flatMap,List.mem_map]at q;obtain⟨v,⟨x,A,rfl⟩,q⟩:=q;refine List.mem_flatMap.2 ⟨x,?_,q⟩;simp at A;simp[z,Op.operands,Call.operands,A]
theorem ZwC {E:Env} {s:List V} {o:Oper} {t:TypeId} {n:Nat} {ps:Array (Nat×Operand)} (z:o.op = .buildSlice t n ps) {i:Nat}
  (q:i∈((ps.toList.map fun(i,x)=>(i,ev E s x)).map (·.2)).flatMap Cj):i∈EE E s o:=by
 simp only[List.map_map,List.mem_flatMap,List.mem_map]at q;obtain⟨v,⟨p,A,rfl⟩,q⟩:=q;refine List.mem_flatMap.2 ⟨p.2,?_,q⟩;simp only[z,Op.operands];exact List.mem_map.2 ⟨p,A,rfl⟩
theorem ZDH {H H' : Heap} {id:Nat} (h:(H[id]?).map Box.low=(H'[id]?).map Box.low):(H'.getD id default).Ap=(H.getD id default).Ap:=by
 simp only[List.getD];cases z:H[id]? with
 | none=>cases q:H'[id]? with
  | none=>rfl
  | some b=>simp[z,q]at h
 | some b=>cases q:H'[id]? with
  | none=>simp[z,q]at h
  | some A =>
   simp only[z,q,Option.map_some,Option.some.injEq]at h;show A.Ap=b.Ap;exact(congrArg Box.Ap h).symm
theorem bump_nil (H:Heap):bump H []=H:=rfl
theorem Zuw {E:Env} {H H1:Heap} {t:TypeId} {x v:V} {I F M:Option V} (h:JX E H t x I F M=some (v,H1)) :
  ∃ids,(∀i∈ids,i∈Cj x)/\H1=bump H ids/\∀H',DU (Cj x) H H' -> JX E H' t x I F M=some (v,bump H' ids):=by
 cases M with
 | none=>
  have:=Zap h;subst this;refine⟨[],by simp,(bump_nil _).symm,fun H' q=>?_⟩;rw[bump_nil];have e:(JX E H' t x I F none).map (·.1)=(JX E H1 t x I F none).map (·.1):=by
   simp only[JX];rw[Z8h q,Z2D q];split
   ·split
    ·rfl
    ·split
     ·rfl
     ·split
      ·rfl
      ·split<;>rfl
   ·rfl
  cases hc:JX E H' t x I F none with
  | none=>rw[hc,h]at e;simp at e
  | some r=>
   obtain⟨r,Q⟩:=r;have:=Zap hc;subst this;rw[hc,h]at e;simp only[Option.map_some,Option.some.injEq]at e;rw[e]
 | some m=>
  simp only[JX]at h ⊢;split at h
  ·rename_i N;split at h
   ·cases h
   ·rename_i n O;split at h
    ·cases h
    ·rename_i S C;split at h
     ·cases h
     ·rename_i l D;have key:∀H',DU (Cj x) H H' -> PN E H' t x=true/\lenOf H' x=some n/\elemsOf H' x=elemsOf H x:=fun H' q=>⟨by rw[Z8h q];exact N,by rw[Z2D q];exact O,oM q⟩;split at h
      ·rename_i k xs b e G A;split at h
       ·rename_i z;simp only[Option.some.injEq,Prod.mk.injEq]at h;obtain⟨rfl,rfl⟩:=h;refine⟨[],by simp,(bump_nil _).symm,fun H' q=>?_⟩;obtain⟨q1,q2,J⟩:=key H' q;rw[if_pos q1,q2,bump_nil];simp only[C,D,G,J,A,if_pos z]
       ·cases h
      ·rename_i k xs b e G A;split at h
       ·rename_i z;simp only[Option.some.injEq,Prod.mk.injEq]at h;obtain⟨rfl,rfl⟩:=h;refine⟨[],by simp,(bump_nil _).symm,fun H' q=>?_⟩;obtain⟨q1,q2,J⟩:=key H' q;rw[if_pos q1,q2,bump_nil];simp only[C,D,G,J,A,if_pos z]
       ·cases h
      ·rename_i k xs id off len tot G A;split at h
       ·rename_i z;simp only[Option.some.injEq,Prod.mk.injEq]at h;obtain⟨rfl,rfl⟩:=h;refine⟨[id],by simp[Cj,EF],rfl,fun H' q=>?_⟩;obtain⟨q1,q2,J⟩:=key H' q;rw[if_pos q1,q2];simp only[C,D,G,J,A,if_pos z,ZDH (q id (by simp[Cj,EF]))]
       ·cases h
      ·cases h
  ·cases h
theorem ZuN {E:Env} {H H1:Heap} {n:Nat} {e:TypeId} {x v:V} {D C F:Option V} (h:OU E H n e x D C F=some (v,H1)) :
  ∃ids,(∀i∈ids,i∈Cj x)/\H1=bump H ids/\∀H',DU (Cj x) H H' -> OU E H' n e x D C F=some (v,bump H' ids):=by
 unfold OU at h;split at h
 ·rename_i id i off tot m' z;cases hb:DX H id tot with
  | none=>simp[hb]at h
  | some b=>
   simp only[hb]at h;split at h
   ·rename_i cs q A;split at h
    ·rename_i hc;simp only[Option.some.injEq,Prod.mk.injEq]at h;obtain⟨rfl,rfl⟩:=h;refine⟨[id],by simp[Cj,EF],rfl,fun H' N=>?_⟩;obtain⟨O,J,M⟩:=PO (N id (by simp[Cj,EF])) hb;obtain⟨G,Q,S,Y,I⟩:=Si M;unfold OU;simp only[z,J,G,I,q,A];rw[if_pos hc]
    ·cases h
   ·cases h
 ·cases h
theorem ZeE {call:Dn} {E:Env} (Q:tZ E call) {k:Nat} {H H1:Heap} {s:List V} {o:Oper} {v:V} (hc:Bi E o≠.w) (hcc:Bi E o≠.c) (hq:quietAt E s o=true) (h:BN call E k H s o=some (v,H1)) :
  Eff call E k H s o v H1:=by
 by_cases G:Bi E o = .s
 ·obtain⟨I,Y⟩:=Z4A G h;exact⟨[],none,by simp,by simp,I,fun H' k' _ _=>Y H' k'⟩
 have mk:∀(nb:Option Box),Bi E o = .a->(nb.isSome=true)->(∀H k,BN call E k H s o=nb.map fun b=>((if b.row then V.Bc k 0 b.xs.length b.xs.length else V.ptr k 0 0 1),place H k b))->Eff call E k H s o v H1:=by
  intro nb hca hnb D;cases nb with
  | none=>cases hnb
  | some b=>
   rw[D]at h;simp only[Option.map_some,Option.some.injEq,Prod.mk.injEq]at h;obtain⟨I,Y⟩:=h;refine⟨[],some b,by simp,fun _=>hca,Y.symm,fun H' k' hk _=>?_⟩;rw[D,hk hca];simp only[Option.map_some,I];rfl
 obtain⟨dst,op,type,pos,after,guard⟩:=o;cases op<;>try (refine absurd ?_ G;simp[Bi];done)
 case assign x=>
  by_cases hx:x = .const (.slice none 0 0)
  ·subst hx;cases q:E.ti type with
   | none=>simp[BN,q]at h
   | some i=>
    obtain⟨ty,sz,by',z0⟩:=i;cases ty with
    | slice e=>exact mk (some (Bg true false e ((E.size e).getD 0) [])) rfl rfl (fun H k=>by simp only[BN,q,Option.map_some];rfl)
    | _=>simp[BN,q]at h
  ·refine absurd ?_ G;unfold Bi;split<;>simp_all
 case alloc t=>
  cases q:E.ti t with
  | none=>simp[BN,q]at h
  | some i=>
   cases hz:i.zero with
   | none=>simp[BN,q,hz]at h
   | some z=>
    by_cases A:z.cells.length=i.size/\okV z=true
    ·exact mk (some (Bg false false t i.size [z])) rfl rfl (fun H k=>by simp only[BN,q,hz,A,and_self,if_true,Option.map_some];rfl)
    ·simp[BN,q,hz,A]at h
 case box t x=>
  cases q:E.ti t with
  | none=>simp[BN,q]at h
  | some i=>
   by_cases A:(ev E s x).cells.length=i.size/\okV (ev E s x)=true
   ·exact mk (some (Bg false false t i.size [ev E s x])) rfl rfl (fun H k=>by simp only[BN,q,A,and_self,if_true,Option.map_some];rfl)
   ·simp[BN,q,A]at h
 case makeSlice t l c=>
  have hlen:∀(n:Int) (z:V),(List.replicate n.toNat z).length=n.toNat:=fun n z=>by simp
  cases q:E.ti t with
  | none=>simp[BN,q]at h
  | some i=>
   obtain⟨ty,sz,by',z0⟩:=i;cases ty with
   | slice e=>
    cases hl:ev E s l with
    | lit lv=>
     cases lv with
     | int k1 n=>
      cases J:ev E s c with
      | lit cv=>
       cases cv with
       | int k2 m=>
        cases N:E.ti e with
        | none=>simp[BN,q,hl,J,N]at h
        | some ei=>
         cases hz:ei.zero with
         | none=>simp[BN,q,hl,J,N,hz]at h
         | some z=>
          by_cases A:0<=n/\n<=m/\m.toNat*ei.bytes<=lim/\m<=maxLen/\0<ei.size/\z.cells.length=ei.size/\okV z=true
          ·refine mk (some (Bg true false e ei.size (List.replicate n.toNat (Du (E.rows e) z)))) rfl rfl (fun H k=>?_);simp only[BN,q,hl,J,N,hz,Option.map_some];rw[if_pos A];simp[Bg]
          ·simp only[BN,q,hl,J,N,hz]at h;rw[if_neg A]at h;cases h
       | _=>simp[BN,q,hl,J]at h
      | _=>simp[BN,q,hl,J]at h
     | _=>simp[BN,q,hl]at h
    | _=>simp[BN,q,hl]at h
   | _=>simp[BN,q]at h
 case buildSlice t n ps=>
  have D:∀H k,BN call E k H s { dst:=dst,op:=.buildSlice t n ps,type:=type,pos:=pos,after:=after,guard:=guard }=Ov E k H t n (ps.toList.map fun(i,x)=>(i,ev E s x)):=fun H k=>rfl;have M:=fun i=>ZwC (E:=E) (s:=s) (o:={ dst:=dst,op:=.buildSlice t n ps,type:=type,pos:=pos,after:=after,guard:=guard }) rfl (i:=i);rw[D]at h;generalize (ps.toList.map fun(i,x)=>(i,ev E s x))=S at D h M;unfold Ov at h;split at h
  ·rename_i e sz by' z0 q;split at h
   ·rename_i ei N;split at h
    ·rename_i z vs hz hf;split at h
     ·rename_i A;split at h
      ·rename_i xs hfe;simp only[Option.some.injEq,Prod.mk.injEq]at h;obtain⟨I,Y⟩:=h;refine⟨(S.map (fun p:Nat×V=>p.2)).flatMap Dh,some (Bg true false e ei.size xs),fun i F=>M i (Z1E F),fun _=>by simp[Bi],Y.symm,fun H' k' hk G=>?_⟩;have hfr:FM H' (S.map (·.2))=some vs:=by rw[Z27 (fun i F=>G i (M i F))];exact hf
       have hkk:k' = k:=hk (by simp[Bi]);rw[D,hkk,<- I];simp only[Ov,q,N,hz,hfr,hfe];rw[if_pos A];rfl
      ·cases h
     ·cases h
    ·cases h
   ·cases h
  ·cases h
 case load t x=>exact rE (y:=fun H=>MP E H t (ev E s x)) (fun H k=>rfl) h (fun H' G=>Zzp (gQ G (by simp[Op.operands])))
 case indexAddr t x i=>exact rE (y:=fun H=>PG E H t (ev E s x) (ev E s i)) (fun H k=>rfl) h (fun H' G=>ZlU (gQ G (by simp[Op.operands])))
 case convert src dst2 x=>
  have hx:x∈(Op.convert src dst2 x).operands:=by simp[Op.operands]
  by_cases hb:(E.isStr src&&E.isBytes dst2)=true
  ·have hca:Bi E { dst:=dst,op:=.convert src dst2 x,type:=type,pos:=pos,after:=after,guard:=guard } = .a:=by simp only[Bi];rw[if_pos hb]
   have D:∀H k,BN call E k H s { dst:=dst,op:=.convert src dst2 x,type:=type,pos:=pos,after:=after,guard:=guard }=MO E k H dst2 (ev E s x):=fun H k=>by simp only[BN];rw[if_pos hb]
   cases O:ev E s x with
   | lit v=>
    cases v with
    | string st=>
     cases q:E.ti dst2 with
     | none=>rw[D,O]at h;simp[MO,q]at h
     | some i=>
      obtain⟨ty,sz,by',z0⟩:=i;cases ty with
      | slice e=>
       by_cases I:E.size e=some 1
       ·exact mk (some (Bg true false e 1 (bytesV st))) hca rfl (fun H k=>by rw[D,O];simp only[MO,q,I,if_true,Option.map_some];rw[show (Bg true false e 1 (bytesV st)).xs.length=st.size from by simp only[Bg,bytesV,List.length_map];exact Array.length_toList];rfl)
       ·rw[D,O]at h;simp[MO,q,I]at h
      | _=>rw[D,O]at h;simp[MO,q]at h
    | _=>rw[D,O]at h;simp[MO]at h
   | _=>rw[D,O]at h;simp[MO]at h
  have hcv0:∀H k,BN call E k H s { dst:=dst,op:=.convert src dst2 x,type:=type,pos:=pos,after:=after,guard:=guard }=Ia E H src dst2 (ev E s x):=fun H k=>by simp only[BN];rw[if_neg hb]
  refine rE (y:=fun H=>(Ia E H src dst2 (ev E s x)).map (·.1)) (fun H k=>?_) h (fun H' G=>?_)
  ·rw[hcv0];cases J:Ia E H src dst2 (ev E s x) with
   | none=>rfl
   | some r=>
    obtain⟨r,H2⟩:=r;have:=Zvs J;subst this;rfl
  ·have I:=gQ G hx;simp only[Ia];generalize ev E s x=ex at I ⊢;split
   ·split
    ·split<;>rfl
    ·rfl
   ·split<;>rfl
   ·rw[qU I,oM I];split
    ·split
     ·split
      ·split<;>rfl
      ·rfl
     ·rfl
    ·rfl
 case slice t x lo F mx=>
  have hx:x∈(Op.slice t x lo F mx).operands:=by simp[Op.operands]
  by_cases harr:∃n e sz by' z0,E.ti t=some ⟨.array n e,sz,by',z0⟩
  ·obtain⟨n,e,sz,by',z0,q⟩:=harr;have D:∀H k,BN call E k H s { dst:=dst,op:=.slice t x lo F mx,type:=type,pos:=pos,after:=after,guard:=guard }=OU E H n e (ev E s x) (lo.map (ev E s)) (F.map (ev E s)) (mx.map (ev E s)):=fun H k=>by simp only[BN,q]
   rw[D]at h;obtain⟨ids,g1,g2,g3⟩:=ZuN h;exact⟨ids,none,fun i F=>List.mem_flatMap.2 ⟨x,by simpa using hx,g1 i F⟩,by simp,g2,fun H' k' _ G=>by rw[D];exact g3 H' (gQ G hx)⟩
  ·have D:∀H k,BN call E k H s { dst:=dst,op:=.slice t x lo F mx,type:=type,pos:=pos,after:=after,guard:=guard }=JX E H t (ev E s x) (lo.map (ev E s)) (F.map (ev E s)) (mx.map (ev E s)):=fun H k=>by
    simp only[BN];split
    ·rename_i n e sz by' z0 q;exact absurd ⟨n,e,sz,by',z0,q⟩ harr
    ·rfl
   rw[D]at h;obtain⟨ids,g1,g2,g3⟩:=Zuw h;exact⟨ids,none,fun i F=>List.mem_flatMap.2 ⟨x,by simpa using hx,g1 i F⟩,by simp,g2,fun H' k' _ G=>by rw[D];exact g3 H' (gQ G hx)⟩
 case call c=>
  cases C:c.callee with
  | invoke r n=>exact absurd (by simp[Bi,C]) hc
  | builtin b=>
   by_cases hb:b = .len
   ·subst hb;have D:∀H k,BN call E k H s { dst:=dst,op:=.call c,type:=type,pos:=pos,after:=after,guard:=guard }=PS E k H s .len (evs E s c.args) c.argTypes.toList:=fun H k=>by simp only[BN,C]
    refine rE (y:=fun H=>(PS E 0 H s .len (evs E s c.args) c.argTypes.toList).map (·.1)) (fun H k=>?_) h (fun H' G=>?_)
    ·rw[D];unfold PS;split<;>try rfl
     ·split
      ·cases lenOf H _<;>rfl
      ·rfl
     all_goals simp_all
    ·have I:=Z32 rfl G;generalize evs E s c.args=xs at I ⊢;simp only[PS];split<;>try rfl
     ·split
      ·rw[Z2D (fun i F=>I i (by simpa using F))];rename_i x t _ _ _;cases lenOf H x<;>rfl
      ·rfl
     all_goals simp_all
   ·exfalso;revert hc G;unfold Bi;cases b<;>simp_all
  | value f=>
   cases f with
   | func f=>
    by_cases hp:((E.pure f||(E.env f).isSome)&&(E.own f).isNone)=true
    ·have D:∀H k,BN call E k H s { dst:=dst,op:=.call c,type:=type,pos:=pos,after:=after,guard:=guard }=call f (evs E s c.args) H:=fun H k=>by simp[BN,C,ev]
     rw[D]at h;obtain⟨I,Y⟩:=Q f hp _ _ _ _ h;refine⟨(evs E s c.args).flatMap Dh,none,fun i F=>Z2P rfl (Z1E F),by simp,I,fun H' k' _ G=>?_⟩;rw[D];exact Y H' (Z32 rfl G)
    ·by_cases hfr:Px E f=true
     ·exact absurd (by unfold Bi;simp only[C];rw[if_neg hp,if_pos hfr]) hcc
     ·exact absurd (by unfold Bi;simp only[C];rw[if_neg hp,if_neg hfr]) hc
   | tmp t=>
    have hqt:(E.quiet&&type != 0)=true:=by
     cases hh:(E.quiet&&type != 0) with
     | true=>rfl
     | false=>exact absurd (by simp only[Bi,C,hh];rfl) hc
    simp only[quietAt,C,hqt,Bool.not_true,Bool.false_or]at hq;cases hv:s.getD t .und with
    | fn g a b=>
     rw[hv]at hq;simp only[tX,Bool.and_eq_true]at hq;have D:∀H k,BN call E k H s { dst:=dst,op:=.call c,type:=type,pos:=pos,after:=after,guard:=guard }=call g (a++evs E s c.args++b) H:=fun H k=>by
      simp only[BN,C,ev,hv]
     rw[D]at h;obtain⟨I,Y⟩:=Q g (by rw[Bool.and_eq_true];exact hq.1) _ _ _ _ h;have hin:∀i∈(a++evs E s c.args++b).flatMap Cj,i∈EE E s { dst:=dst,op:=.call c,type:=type,pos:=pos,after:=after,guard:=guard }:=by
      intro i F;obtain⟨x,hx,hix⟩:=List.mem_flatMap.1 F;have hab:x∈a++b->i∈EE E s { dst:=dst,op:=.call c,type:=type,pos:=pos,after:=after,guard:=guard }:=fun hm=>by
       have hnf:=List.all_eq_true.1 hq.2 x hm;have hix' : i∈iC x:=by cases x<;>first|exact hix|(simp[vI]at hnf)
       refine List.mem_flatMap.2 ⟨.tmp t,by simp[Op.operands,Call.operands,C],?_⟩;show i∈Cj (s.getD t .und);rw[hv];exact List.mem_flatMap.2 ⟨x,hm,hix'⟩
      rcases List.mem_append.1 hx with hx|hx
      ·rcases List.mem_append.1 hx with hx|hx
       ·exact hab (List.mem_append_left _ hx)
       ·exact Z2P rfl (List.mem_flatMap.2 ⟨x,hx,hix⟩)
      ·exact hab (List.mem_append_right _ hx)
     refine⟨(a++evs E s c.args++b).flatMap Dh,none,fun i F=>hin i (Z1E F),by simp,I,fun H' k' _ G=>?_⟩;rw[D];exact Y H' fun i F=>G i (hin i F)
    | _=>rw[hv]at hq;simp[tX]at hq
   | _=>exact absurd (by simp[Bi,C]) hc
 all_goals (refine absurd ?_ hc;simp[Bi];done)
theorem Ze0 {call:Dn} {E:Env} (A:uF E call) {k:Nat} {H H1:Heap} {s:List V} {o:Oper} {v:V} (hc:Bi E o = .c) (h:BN call E k H s o=some (v,H1)) :
  ∃ids z,(∀i∈ids,i∈EE E s o)/\H1=bump H ids++z/\∀H' k',H'.length=H.length->DU (EE E s o) H H' -> BN call E k' H' s o=some (v,bump H' ids++z):=by
 obtain⟨dst,op,type,pos,after,guard⟩:=o;cases op<;>simp only[Bi]at hc<;>first|(cases hc;done)|skip
 case convert=>split at hc<;>cases hc
 case assign x=>exfalso;revert hc;split<;>simp_all
 case call c=>
  cases q:c.callee with
  | builtin b=>exfalso;revert hc;simp only[q];cases b<;>simp
  | invoke r n=>exfalso;revert hc;simp[q]
  | value f=>
  cases f with
  | tmp _=>exfalso;revert hc;simp only[q];split<;>simp
  | const _=>exfalso;revert hc;simp[q]
  | global _=>exfalso;revert hc;simp[q]
  | func f=>
  simp only[q]at hc;split at hc
  ·cases hc
  ·split at hc
   ·rename_i C;have D:∀H k,BN call E k H s { dst:=dst,op:=.call c,type:=type,pos:=pos,after:=after,guard:=guard }=call f (evs E s c.args) H:=fun H k=>by simp[BN,q,ev]
    rw[D]at h;obtain⟨ids,z,F,G,I⟩:=A f C _ _ _ _ h;exact⟨ids,z,fun i J=>Z2P rfl (F i J),G,fun H' k' M N=>by rw[D];exact I H' M (Z32 rfl N)⟩
   ·cases hc
end Go.Proofs.YtjodhcdmhobmoaaGreatDoor.Le
namespace Go.Proofs.YtjodhcdmhobmoaaGreatDoor.Le
def IP (ids:List Nat) (i:Nat) (b:Box):Box:=if i∈ids then { b with floor:=b.xs.length } else b
theorem PU {ids:List Nat} {nb:Option Box} {k:Nat} {H:Heap} (A:nb.isSome=true->k<H.length) (i:Nat) :
  (eff ids nb k H)[i]? = match nb with|some b=>if i=k then some b else (H[i]?).map (IP ids i)|none=>(H[i]?).map (IP ids i):=by
 cases nb with
 | none=>simp only[eff];rw[KX];rfl
 | some b=>
  have q : k<(bump H ids).length:=by rw[bump_length];exact A rfl
  simp only[eff,place];rw[if_pos q,List.getElem?_set]
  by_cases z:i=k
  ·subst z;simp[q]
  ·rw[if_neg (fun e=>z e.symm),if_neg z,KX];rfl
theorem Ui {ids:List Nat} {nb:Option Box} {k:Nat} {H:Heap} (z:nb.isSome=true->k<H.length):(eff ids nb k H).length=H.length:=by
 cases nb with
 | none=>exact bump_length H ids
 | some b=>
  have q : k<(bump H ids).length:=by rw[bump_length];exact z rfl
  simp only[eff,place];rw[if_pos q,List.length_set,bump_length]
theorem pJ (FB ids2:List Nat) (i:Nat) (b:Box):IP FB i (IP ids2 i b)=IP ids2 i (IP FB i b):=by
 unfold IP
 by_cases q:i∈FB<;>by_cases z:i∈ids2<;>simp[q,z]
theorem Z3g {FB ids2:List Nat} {nb1 nb2:Option Box} {k1 k2:Nat} {H:Heap} (z:nb1.isSome=true->k1<H.length/\k1∉ids2) (A:nb2.isSome=true->k2<H.length/\k2∉FB)
  (F:nb1.isSome=true->nb2.isSome=true->k1≠k2):eff FB nb1 k1 (eff ids2 nb2 k2 H)=eff ids2 nb2 k2 (eff FB nb1 k1 H):=by
 have G:=Ui (ids:=FB) (fun h=>(z h).1);have I:=Ui (ids:=ids2) (fun h=>(A h).1);apply List.ext_getElem?;intro i;rw[PU (ids:=FB) (H:=eff ids2 nb2 k2 H) (fun h=>by rw[I];exact(z h).1),PU (ids:=ids2) (H:=eff FB nb1 k1 H) (fun h=>by rw[G];exact(A h).1),PU (ids:=FB) (H:=H) (fun h=>(z h).1),PU (ids:=ids2) (H:=H) (fun h=>(A h).1)];cases nb1 with
 | none=>
  cases nb2 with
  | none=>
   simp only;cases H[i]? with
   | none=>rfl
   | some b=>simp only[Option.map_some,pJ]
  | some b2=>
   simp only
   by_cases q:i=k2
   ·subst q;simp only[if_true,Option.map_some];simp[IP,(A rfl).2]
   ·simp only[q,if_false];cases H[i]? with
    | none=>rfl
    | some b=>simp only[Option.map_some,pJ]
 | some b1=>
  cases nb2 with
  | none=>
   simp only
   by_cases q:i=k1
   ·subst q;simp only[if_true,Option.map_some];simp[IP,(z rfl).2]
   ·simp only[q,if_false];cases H[i]? with
    | none=>rfl
    | some b=>simp only[Option.map_some,pJ]
  | some b2=>
   have D:=F rfl rfl;simp only
   by_cases q:i=k1
   ·subst q;rw[if_pos rfl,if_neg D,if_pos rfl];simp[IP,(z rfl).2]
   ·by_cases C:i=k2
    ·subst C;rw[if_neg q,if_pos rfl,if_pos rfl];simp[IP,(A rfl).2]
    ·rw[if_neg q,if_neg C,if_neg C,if_neg q];cases H[i]? with
     | none=>rfl
     | some b=>simp only[Option.map_some,pJ]
theorem Zd3 (ids:List Nat) (i:Nat) (b:Box):(IP ids i b).low=b.low:=by
 unfold IP;split<;>rfl
theorem SQ {R ids:List Nat} {nb:Option Box} {k:Nat} {H:Heap} (q:nb.isSome=true->k<H.length/\k∉R):DU R H (eff ids nb k H):=by
 intro i z;rw[PU (fun h=>(q h).1)];cases nb with
 | none=>
  simp only;cases H[i]? with
  | none=>rfl
  | some b=>simp only[Option.map_some,Zd3]
 | some b=>
  have:i≠k:=fun e=>(q rfl).2 (e▸z);simp only[this,if_false];cases H[i]? with
  | none=>rfl
  | some b=>simp only[Option.map_some,Zd3]
theorem DU.symm {R:List Nat} {H H' : Heap} (h:DU R H H'):DU R H' H:=fun i q=>(h i q).symm
theorem Ze1 {ids:List Nat} {nb:Option Box} {k j:Nat} {H:Heap} (q:nb.isSome=true->k<H.length/\k≠j):(∃b,(eff ids nb k H)[j]? = some b/\b.live=false)↔∃b,H[j]? = some b/\b.live=false:=by
 rw[PU (fun h=>(q h).1)];have hm:(∃b,(H[j]?).map (IP ids j)=some b/\b.live=false)↔∃b,H[j]? = some b/\b.live=false:=by
  cases H[j]? with
  | none=>simp
  | some b=>
   simp only[Option.map_some,Option.some.injEq,exists_eq_left'];unfold IP;split<;>rfl
 cases nb with
 | none=>exact hm
 | some b=>
  have:j≠k:=fun e=>(q rfl).2 e.symm;simp only[this,if_false];exact hm
section
variable {call:Dn} {E:Env} {ops:Array Oper} {ms:List Nat} {lt:List (Nat×(Nat⊕Nat))} {s0:List V} {base m:Nat}
def DK (E:Env) (o:Oper) (base i:Nat) (H:Heap):Nat:=if Bi E o = .a then base+i else H.length
def Ph (E:Env) (ops:Array Oper) (ms:List Nat) (base m i:Nat) (s:List V) (o:Oper):Prop:=(∀id∈EE E s o,id<base\/(base+m<=id/\VP E ops ms i=true)\/(id<base+m/\(ms.getD i 0).testBit (id - base)=true))/\quietAt E s o=true
theorem qY {i:Nat} {o:Oper} (G:ops[i]? = some o) {st st' : St}:IB call E ops ms lt s0 base m i st=some st' ↔
  Ph E ops ms base m i st.s o/\(GU E ms lt s0 base i st.s st.H o=true/\(Bi E o = .c->base+m<=st.H.length))/\(Bi E o = .a->∃b,st.H[base+i]? = some b/\b.live=false)/\∃v H',F7 call E ops (DK E o base i st.H) o st=some (v,H')/\st' = ⟨setSlot st.s o.dst v,H'⟩:=by
 have C:∀k,Jm call E ops k i st=some st' ↔∃v H',F7 call E ops k o st=some (v,H')/\st' = ⟨setSlot st.s o.dst v,H'⟩:=by
  intro k;unfold Jm;simp only[G];cases F:F7 call E ops k o st with
  | none=>simp
  | some r=>
   obtain⟨v,H'⟩:=r;simp only[Option.some.injEq,Prod.mk.injEq];exact⟨fun h=>⟨v,H',⟨rfl,rfl⟩,h.symm⟩,fun⟨S,H1,⟨I,J⟩,M⟩=>by subst I;subst J;exact M.symm⟩
 unfold IB;simp only[G];have z:(((EE E st.s o).all fun id=>decide (id<base)||(decide (base+m<=id)&&VP E ops ms i)||(decide (id<base+m)&&(ms.getD i 0).testBit (id - base)))&&quietAt E st.s o&&(GU E ms lt s0 base i st.s st.H o&&(!decide (Bi E o = .c)||decide (base+m<=st.H.length))))=true↔
   Ph E ops ms base m i st.s o/\GU E ms lt s0 base i st.s st.H o=true/\(Bi E o = .c->base+m<=st.H.length):=by
  unfold Ph;rw[Bool.and_eq_true,Bool.and_eq_true,Bool.and_eq_true,List.all_eq_true];have hc:(!decide (Bi E o = .c)||decide (base+m<=st.H.length))=true↔(Bi E o = .c->base+m<=st.H.length):=by
   by_cases h:Bi E o = .c<;>simp[h]
  rw[hc];simp only[Bool.or_eq_true,Bool.and_eq_true,decide_eq_true_eq,or_assoc]
 by_cases A:Ph E ops ms base m i st.s o/\GU E ms lt s0 base i st.s st.H o=true/\(Bi E o = .c->base+m<=st.H.length)
 ·rw[if_pos (z.2 A)];unfold DK
  by_cases q:Bi E o = .a
  ·rw[if_pos q,if_pos q];cases hb:st.H[base+i]? with
   | none=>simp[q]
   | some b=>
    cases D:b.live with
    | true=>simp[D,q]
    | false=>simp only[D,Bool.false_eq_true,if_false,C];exact⟨fun h=>⟨A.1,A.2,fun _=>⟨b,rfl,D⟩,h⟩,fun h=>h.2.2.2⟩
  ·rw[if_neg q,if_neg q,C];exact⟨fun h=>⟨A.1,A.2,fun Q=>absurd Q q,h⟩,fun h=>h.2.2.2⟩
 ·rw[if_neg (fun h=>A (z.1 h))];constructor
  ·intro h;cases h
  ·rintro ⟨N,O,_⟩;exact absurd ⟨N,O⟩ A
theorem Z0R {o:Oper} {a:Operand} (h:PR o=some a):(∃t v,o.op = .store t a v)\/∃c x,o.op = .call c/\c.callee = .builtin .append/\c.args.toList=[a,x]:=by
 unfold PR at h;split at h
 ·rename_i t z v q;cases h;exact .inl ⟨t,v,q⟩
 ·rename_i c q;split at h
  ·rename_i z x A C;cases h;exact .inr ⟨c,x,q,A,C⟩
  ·cases h
 ·cases h
theorem Z90 {o:Oper} {a:Operand} (h:PR o=some a):a∈o.op.operands:=by
 rcases Z0R h with ⟨t,v,q⟩|⟨c,x,q,A,z⟩
 ·simp[q,Op.operands]
 ·have:a∈c.args:=by
   have:a∈c.args.toList:=by rw[z];simp
   simpa using this
  simp[q,Op.operands,Call.operands,this]
theorem Qd {o:Oper} {t:Nat⊕Nat} (h:V3 E ops o=some t):Bi E o = .w/\o.guard=none/\∃d,PR o=some (.tmp d):=by
 unfold V3 at h;split at h
 ·rename_i d C z;refine⟨?_,C,⟨d,z⟩⟩;rcases Z0R z with ⟨t,v,q⟩|⟨c,x,q,A,D⟩
  ·unfold Bi;rw[q]
  ·unfold Bi;rw[q];simp only[A]
 ·cases h
theorem ZxK {x:Nat} {t:Nat⊕Nat} (h:(x,t)∈Pn E ops):∃ox,ops[x]? = some ox/\V3 E ops ox=some t:=by
 unfold Pn at h;simp only[List.mem_filterMap]at h;obtain⟨y,_,h⟩:=h;split at h
 ·rename_i ox q;split at h
  ·rename_i A z;split at h
   ·simp only[Option.some.injEq,Prod.mk.injEq]at h;obtain⟨rfl,rfl⟩:=h;exact⟨ox,q,z⟩
   ·cases h
  ·cases h
 ·cases h
theorem Zez {o:Oper} (h:needs E o=true):Bi E o≠.w:=by
 unfold needs at h;intro hc;rw[hc]at h;cases h
theorem ZuO {s:List V} {o:Oper} {d:Option Tmp} {v:V} (h:∀q,d=some q -> q ∉o.looksAt ops):addrOf E (setSlot s d v) o=addrOf E s o:=by
 unfold addrOf;split
 ·rename_i a A;exact tN _ fun q z=>rQ (h q z) a (Z90 A)
 ·rfl
theorem ZcY {s:List V} {H:Heap} {i:Nat} {o:Oper} {d:Option Tmp} {v:V} (h:∀q,d=some q -> q ∉o.looksAt ops):GU E ms lt s0 base i (setSlot s d v) H o=GU E ms lt s0 base i s H o:=by
 unfold GU;rw[ZuO h,Z2z h]
theorem Lm {s:List V} {H H' : Heap} {i:Nat} {o:Oper} (h:∀t,(i,t)∉lt) (D:GU E ms lt s0 base i s H o=true):GU E ms lt s0 base i s H' o=true:=by
 unfold GU at *;rw[List.all_eq_true]at *;intro p A;have q:=D p A;have z:p.1≠i:=fun e=>h p.2 (by rw[<- e];exact A);cases C:Pq base s0 p.2 with
 | none=>rw[C]at q;cases q
 | some k=>
  rw[C]at q;simp only[if_neg z]at q ⊢;exact q
theorem Zbk {s:List V} {H H' : Heap} {i:Nat} {o:Oper} (h:∀p∈lt,∀k,p.1=i->Pq base s0 p.2=some k->H'[k]? = H[k]?) (G:GU E ms lt s0 base i s H o=true):GU E ms lt s0 base i s H' o=true:=by
 unfold GU at *;rw[List.all_eq_true]at *;intro p F;have q:=G p F;cases C:Pq base s0 p.2 with
 | none=>rw[C]at q;cases q
 | some k=>
  rw[C]at q;simp only at q ⊢;split
  ·rename_i A;rw[if_pos A]at q;have D:=h p F k A C;unfold O3 at *;split at q
   ·rename_i id a b tot z;simp only[Bool.and_eq_true,beq_iff_eq]at q ⊢;obtain⟨rfl,q⟩:=q;refine⟨rfl,?_⟩;unfold DX at *;rw[D];exact q
   ·rename_i id a b tot z;simp only[Bool.and_eq_true,beq_iff_eq]at q ⊢;obtain⟨rfl,q⟩:=q;refine⟨rfl,?_⟩;rw[D];exact q
   ·cases q
  ·rename_i A;rw[if_neg A]at q;exact q
theorem ZvO {H H1:Heap} {t:TypeId} {a v:V} {k:Nat} (q:O3 H a k=true) (h:MH E H t a v=some H1) :
  ∃b,k<H.length/\H1=H.set k b/\∀H',H'[k]? = H[k]? -> MH E H' t a v=some (H'.set k b):=by
 unfold O3 at q;split at q
 ·rename_i id i off tot;simp only[Bool.and_eq_true,beq_iff_eq]at q;obtain⟨rfl,q⟩:=q;cases hb:DX H id tot with
  | none=>rw[hb]at q;cases q
  | some b=>
   rw[hb]at q;simp only[Bool.not_eq_true']at q;have D:id<H.length:=by
    unfold DX at hb;cases I:H[id]? with
    | none=>rw[I]at hb;cases hb
    | some b0=>exact(List.getElem?_eq_some_iff.1 I).1
   have A : ∀H' : Heap,H'[id]? = H[id]? -> DX H' id tot=some b:=fun H' C=>by
    unfold DX at *;rw[C];exact hb
   unfold MH at h;cases z:E.ti t with
   | none=>simp only[z]at h;cases h
   | some M=>
    simp only[z,hb]at h;cases G:b.xs[i]? with
    | none=>simp only[G]at h;cases h
    | some x=>
     simp only[G,q,Bool.false_eq_true,if_false]at h;split at h
     ·rename_i hc;cases F:Kq x off v.cells with
      | none=>simp only[F]at h;cases h
      | some N =>
       simp only[F]at h;split at h
       ·rename_i J;simp only[Option.some.injEq]at h;refine⟨_,D,h.symm,fun H' C=>?_⟩;unfold MH;simp only[z,A H' C,G,q,Bool.false_eq_true,if_false,if_pos hc,F,if_pos J]
       ·cases h
     ·cases h
 ·unfold MH at h;split at h<;>cases h
 ·cases q
theorem ZrG {H H1:Heap} {k0:Nat} {t u:TypeId} {a x r:V} {k:Nat} (z:O3 H a k=true) (h:MG E k0 H t u a x=some (r,H1)) :
  ∃b,k<H.length/\H1=H.set k b/\∀k' H',H'[k]? = H[k]? -> DU (Cj x) H H' -> MG E k' H' t u a x=some (r,H'.set k b):=by
 unfold O3 at z;split at z
 ·unfold MG at h;split at h
  ·split at h
   ·split at h
    ·cases h
    ·cases h
   ·cases h
  ·cases h
 ·rename_i id off len tot;simp only[Bool.and_eq_true,beq_iff_eq]at z;obtain⟨rfl,z⟩:=z;have F:id<H.length:=by
   cases Q:H[id]? with
   | none=>rw[Q]at z;cases z
   | some b0=>exact(List.getElem?_eq_some_iff.1 Q).1
  unfold MG at h;split at h
  ·rename_i e sz by' Y I;split at h
   ·rename_i S ys C J M;split at h
    ·rename_i q;simp only at h;cases hb:DX H id tot with
     | none=>rw[hb]at h;cases h
     | some b=>
      simp only[hb]at h;split at h
      ·rename_i hc;split at h
       ·rename_i D;simp only[Option.some.injEq,Prod.mk.injEq]at h;obtain⟨rfl,rfl⟩:=h;refine⟨_,F,rfl,fun k' H' O G=>?_⟩;have A : DX H' id tot=some b:=by
         unfold DX at *;rw[O];exact hb
        unfold MG;simp only[I,C,J,oM G,M,qU G];rw[if_pos q];simp only[A];rw[if_pos hc,if_pos D]
       ·cases h
      ·rename_i N;split at h
       ·rename_i hc;simp only[Option.some.injEq,Prod.mk.injEq]at h;obtain⟨rfl,rfl⟩:=h;refine⟨_,F,rfl,fun k' H' O G=>?_⟩;have A : DX H' id tot=some b:=by
         unfold DX at *;rw[O];exact hb
        unfold MG;simp only[I,C,J,oM G,M,qU G];rw[if_pos q];simp only[A];rw[if_neg N,if_pos hc]
       ·cases h
    ·cases h
   ·cases h
  ·cases h
 ·cases z
theorem sQ {ids:List Nat} {nb:Option Box} {k k' : Nat} {H:Heap} {b:Box} (A:nb.isSome=true->k' < H.length/\k' ≠k) (q:k∉ids):eff ids nb k' (H.set k b)=(eff ids nb k' H).set k b:=by
 apply List.ext_getElem?;intro i;rw[PU (H:=H.set k b) (fun h=>by rw[List.length_set];exact(A h).1),List.getElem?_set,List.getElem?_set,Ui (fun h=>(A h).1),PU (fun h=>(A h).1)]
 by_cases z:k=i
 ·subst z;simp only[if_true];cases nb with
  | none=>
   simp only;split
   ·simp[IP,q]
   ·rfl
  | some b2=>
   have:¬k=k' :=fun e=>(A rfl).2 e.symm;simp only[this,if_false];split
   ·simp[IP,q]
   ·rfl
 ·simp only[z,if_false];cases nb<;>rfl
theorem Zf1 {ids:List Nat} {nb:Option Box} {k k' : Nat} {H:Heap} (z:nb.isSome=true->k' < H.length/\k' ≠k) (q:k∉ids):(eff ids nb k' H)[k]? = H[k]?:=by
 rw[PU (fun h=>(z h).1)];cases nb with
 | none=>
  simp only;cases H[k]? with
  | none=>rfl
  | some b=>simp[IP,q]
 | some b2=>
  have:¬k=k' :=fun e=>(z rfl).2 e.symm;simp only[this,if_false];cases H[k]? with
  | none=>rfl
  | some b=>simp[IP,q]
theorem ZcW {k i:Nat} {t:Nat⊕Nat} {o:Oper} {s:List V} {H H1:Heap} {v:V} (ht:V3 E ops o=some t) (S:(i,t)∈lt) (q:GU E ms lt s0 base i s H o=true) (h:F7 call E ops k o ⟨s,H⟩=some (v,H1)) :
  ∃b n,Pq base s0 t=some n/\n∈EE E s o/\n<H.length/\H1=H.set n b/\∀k' H',H'[n]? = H[n]? -> DU (EE E s o) H H' -> F7 call E ops k' o ⟨s,H'⟩=some (v,H'.set n b):=by
 obtain⟨_,hg,⟨d,Y⟩⟩:=Qd ht;unfold GU at q;rw[List.all_eq_true]at q;have q:=q _ S;cases hn:Pq base s0 t with
 | none=>simp only[hn]at q;cases q
 | some n=>
  simp only[hn,if_true]at q;unfold addrOf at q;simp only[Y]at q;have A:n∈EE E s o:=by
   unfold EE;rw[List.mem_flatMap];refine⟨.tmp d,by simpa using Z90 Y,?_⟩;unfold O3 at q;split at q
   ·rename_i F;simp only[Bool.and_eq_true,beq_iff_eq]at q;rw[F,<- q.1];simp[Cj,EF]
   ·rename_i F;simp only[Bool.and_eq_true,beq_iff_eq]at q;rw[F,<- q.1];simp[Cj,EF]
   ·cases q
  unfold F7 at h ⊢;simp only[hg]at h ⊢;rcases Z0R Y with ⟨t',x,C⟩|⟨c,x,C,O,I⟩
  ·unfold BN at h ⊢;simp only[C]at h ⊢;cases G:MH E H t' (ev E s (.tmp d)) (ev E s x) with
   | none=>rw[G]at h;cases h
   | some H2=>
    rw[G]at h;simp only[Option.map_some,Option.some.injEq,Prod.mk.injEq]at h;obtain⟨rfl,rfl⟩:=h;obtain⟨b,z,M,N⟩:=ZvO q G;exact⟨b,n,rfl,A,z,M,fun k' H' F _=>by rw[N H' F];rfl⟩
  ·have D:evs E s c.args=[ev E s (.tmp d),ev E s x]:=by unfold evs;rw[I];rfl
   unfold BN at h ⊢;simp only[C,O,D]at h ⊢;unfold PS at h ⊢;split at h
   ·rename_i z _;cases z
   ·rename_i a y t' u' hb J he2;simp only[List.cons.injEq,and_true]at J;obtain⟨rfl,rfl⟩:=J;obtain⟨b,z,M,N⟩:=ZrG q h;refine⟨b,n,rfl,A,z,M,fun k' H' F hs=>N k' H' F (fun id Q=>hs id ?_)⟩;unfold EE;rw[List.mem_flatMap];have:x∈c.args:=by
     have:x∈c.args.toList:=by rw[I];simp
     simpa using this
    exact⟨x,by simp[C,Op.operands,Call.operands,this],Q⟩
   ·rename_i z _ _;cases z
   ·rename_i z;cases z
   ·rename_i z;cases z
   ·cases h
theorem Zdc {i x n:Nat} {t:Nat⊕Nat} {o:Oper} {s:List V} {H:Heap} (C:(x,t)∈lt) (D:x≠i) (F:needs E o=true) (A:(ms.getD i 0).testBit x=false) (q : (ms.getD x 0).testBit i=false) (G:Pq base s0 t=some n)
  (z:GU E ms lt s0 base i s H o=true):n∉EE E s o:=by
 unfold GU at z;rw[List.all_eq_true]at z;have z:=z _ C;simp only[G,if_neg D,F,linked,A,q,Bool.or_self,Bool.not_true,Bool.false_or,Bool.not_eq_true']at z;simpa using z
theorem Zf2 {k:Nat} {o:Oper} {s:List V} {H H1:Heap} {v:V} (hc:Bi E o = .s) (h:F7 call E ops k o ⟨s,H⟩=some (v,H1)):H1=H/\∀H' k',F7 call E ops k' o ⟨s,H'⟩=some (v,H'):=by
 unfold F7 at *;cases C:o.guard with
 | none=>simp only[C]at h ⊢;exact Z4A hc h
 | some D=>
  obtain⟨j,z⟩:=D;simp only[C]at h ⊢;cases A:(ops[j]?).bind (·.dst) with
  | none=>simp[A]at h
  | some d=>
   simp only[A]at h ⊢;cases q:OY (s.getD d .und) z with
   | none=>rw[q]at h;cases h
   | some r=>
    rw[q]at h;cases r with
    | true=>simp only at h ⊢;exact Z4A hc h
    | false=>
     simp only[Option.some.injEq,Prod.mk.injEq]at h ⊢;exact⟨h.2.symm,fun H' k' =>⟨h.1,trivial⟩⟩
theorem VD (q:tZ E call) {k:Nat} {o:Oper} {s:List V} {H H1:Heap} {v:V} (hc:Bi E o≠.w) (z:Bi E o≠.c) (G:quietAt E s o=true) (h:F7 call E ops k o ⟨s,H⟩=some (v,H1)) :
  ∃ids nb,(∀i∈ids,i∈EE E s o)/\(nb.isSome=true->Bi E o = .a)/\H1=eff ids nb k H /\
   ∀H' k',(Bi E o = .a->k' = k)->DU (EE E s o) H H' -> F7 call E ops k' o ⟨s,H'⟩=some (v,eff ids nb k' H'):=by
 unfold F7 at *;cases F:o.guard with
 | none=>simp only[F]at h ⊢;exact ZeE q hc z G h
 | some I=>
  obtain⟨j,C⟩:=I;simp only[F]at h ⊢;cases D:(ops[j]?).bind (·.dst) with
  | none=>simp[D]at h
  | some d=>
   simp only[D]at h ⊢;cases A:OY (s.getD d .und) C with
   | none=>rw[A]at h;cases h
   | some r=>
    rw[A]at h;cases r with
    | true=>simp only at h ⊢;exact ZeE q hc z G h
    | false=>
     simp only[Option.some.injEq,Prod.mk.injEq]at h ⊢;exact⟨[],none,by simp,by simp,h.2.symm,fun H' k' _ _=>⟨h.1,rfl⟩⟩
theorem qF (q:uF E call) {k:Nat} {o:Oper} {s:List V} {H H1:Heap} {v:V} (hc:Bi E o = .c) (h:F7 call E ops k o ⟨s,H⟩=some (v,H1)) :
  ∃ids A,(∀i∈ids,i∈EE E s o)/\H1=bump H ids++A/\∀H' k',H'.length=H.length->DU (EE E s o) H H' -> F7 call E ops k' o ⟨s,H'⟩=some (v,bump H' ids++A):=by
 unfold F7 at *;cases F:o.guard with
 | none=>simp only[F]at h ⊢;exact Ze0 q hc h
 | some G=>
  obtain⟨j,C⟩:=G;simp only[F]at h ⊢;cases D:(ops[j]?).bind (·.dst) with
  | none=>simp[D]at h
  | some d=>
   simp only[D]at h ⊢;cases z:OY (s.getD d .und) C with
   | none=>rw[z]at h;cases h
   | some r=>
    rw[z]at h;cases r with
    | true=>simp only at h ⊢;exact Ze0 q hc h
    | false=>
     simp only[Option.some.injEq,Prod.mk.injEq]at h ⊢;exact⟨[],[],by simp,by rw[List.append_nil];exact h.2.symm,fun H' k' _ _=>⟨h.1,by rw[List.append_nil];rfl⟩⟩
theorem Z9V {ids:List Nat} {H:Heap} (ys:List Box) (h:∀i∈ids,i<H.length):bump (H++ys) ids=bump H ids++ys:=by
 apply List.ext_getElem?;intro i;rw[KX,List.getElem?_append,List.getElem?_append,bump_length,KX]
 by_cases q:i<H.length
 ·rw[if_pos q,if_pos q]
 ·have:i∉ids:=fun hm=>q (h i hm);rw[if_neg q,if_neg q];cases ys[i - H.length]? with
  | none=>rfl
  | some b=>simp[this]
theorem Zb8 {ids:List Nat} {nb:Option Box} {k:Nat} {H:Heap} (ys:List Box) (h:∀i∈ids,i<H.length) (q:nb.isSome=true->k<H.length):eff ids nb k (H++ys)=eff ids nb k H++ys:=by
 cases nb with
 | none=>exact Z9V ys h
 | some b=>
  have q:=q rfl;simp only[eff,place,Z9V ys h,List.length_append,bump_length];rw[if_pos (by omega),if_pos q,List.set_append_left _ _ (by rw[bump_length];exact q)]
theorem pX {R:List Nat} {H H' : Heap} (ys:List Box) (h:DU R H H') (z:∀i∈R,i<H'.length):DU R H (H' ++ys):=by
 intro i q;rw[List.getElem?_append_left (z i q)];exact h i q
theorem Qb (R ids:List Nat) (H:Heap):DU R H (bump H ids):=by
 have:=SQ (R:=R) (ids:=ids) (nb:=none) (k:=0) (H:=H) (fun h=>by cases h);exact this
theorem ZeK {R:List Nat} {H:Heap} {n:Nat} {b:Box} (h:n∉R):DU R H (H.set n b):=by
 intro i q;rw[List.getElem?_set_ne (fun e=>h (by rw[e];exact q))]
theorem DU.trans {R:List Nat} {H H' H2:Heap} (h:DU R H H') (k:DU R H' H2):DU R H H2:=fun i q=>(h i q).trans (k i q)
theorem Zpc {s:List V} {d e:Option Tmp} {v u:V} (h:∀x,d=some x->e≠some x):setSlot (setSlot s d v) e u=setSlot (setSlot s e u) d v:=by
 cases d with
 | none=>rfl
 | some d=>
  cases e with
  | none=>rfl
  | some e=>
   have:d≠e:=fun q=>h d rfl (by rw[q]);simp only[setSlot];exact List.set_comm v u this
theorem ZuY (hcalls:OL E call) (hm:∀i o,ops[i]? = some o->Bi E o = .a->i<m) {x y:Nat} {ox oy:Oper} (hx:ops[x]? = some ox) (hy:ops[y]? = some oy) (hxy:x≠y)
  (O:(fG E ops ox oy||(NL E ops lt x ox oy||NL E ops lt y oy ox))=true) (hlt:∀x t,(x,t)∈lt->∃ox,ops[x]? = some ox/\V3 E ops ox=some t) (hbit:(ms.getD y 0).testBit x=false) (hbit' : (ms.getD x 0).testBit y=false) {st st1 st2:St}
  (h1:IB call E ops ms lt s0 base m x st=some st1) (h2:IB call E ops ms lt s0 base m y st1=some st2) :
  ∃st1',IB call E ops ms lt s0 base m y st=some st1' /\ IB call E ops ms lt s0 base m x st1' = some st2:=by
 have Q:=hcalls.pure;have hfree:=hcalls.free;have hap:ox.apart ops oy=true\/oy.apart ops ox=true:=by
  simp only[Bool.or_eq_true,fG,NL,Bool.and_eq_true]at O;rcases O with h|h|h
  ·exact .inl h.2
  ·exact .inl h.1
  ·exact .inr h.1
 have hsp:(∀d,ox.dst=some d->d∉oy.looksAt ops)/\(∀d,ox.dst=some d->oy.dst≠some d)/\(∀d,oy.dst=some d->d∉ox.looksAt ops):=by
  rcases hap with h|h
  ·exact Oper.apart_spec h
  ·obtain⟨b1,b2,b3⟩:=Oper.apart_spec h;exact⟨b3,fun d h1 h2=>b2 d h2 h1,b1⟩
 obtain⟨a1,a2,a3⟩:=hsp;obtain⟨s1,⟨l1,c1⟩,d1,vx,Hx,e1,rfl⟩:=(qY hx).1 h1;obtain⟨s2,⟨l2,c2⟩,d2,vy,Hy,e2,rfl⟩:=(qY hy).1 h2;obtain⟨s,H⟩:=st;simp only at *;rw[Zdy a1]at e2;rw[ZcY a1]at l2;have M : Ph E ops ms base m y s oy:=by unfold Ph at *;rw[Z2z a1,Zau a1]at s2;exact s2
 have s1' : Ph E ops ms base m x (setSlot s oy.dst vy) ox:=by unfold Ph at *;rw[Z2z a3,Zau a3];exact s1
 have keptx:Bi E ox = .a->base+x<H.length:=fun hc=>by
  obtain⟨b,hb,_⟩:=d1 hc;exact(List.getElem?_eq_some_iff.1 hb).1
 have nox:Bi E ox = .a->base+x∉EE E s oy:=fun hc A=>by
  rcases M.1 _ A with h|⟨h,_⟩|⟨_,h⟩
  ·omega
  ·have:=hm x ox hx hc;omega
  ·rw[show base+x - base=x by omega,hbit]at h;cases h
 have noy:Bi E oy = .a->base+y∉EE E s ox:=fun hc A=>by
  rcases s1.1 _ A with h|⟨h,_⟩|⟨_,h⟩
  ·omega
  ·have:=hm y oy hy hc;omega
  ·rw[show base+y - base=y by omega,hbit']at h;cases h
 have seex:Bi E oy = .c->∀id∈EE E s ox,id<base+m:=fun hc id hid=>by
  rcases s1.1 id hid with h|⟨_,h⟩|⟨h,_⟩
  ·omega
  ·exfalso;unfold VP at h;rw[List.all_eq_true]at h;have:=h y (by simpa using (Array.getElem?_eq_some_iff.1 hy).1);simp only[hy,hc,linked,hbit,hbit',decide_true,Bool.not_true,Bool.or_self,Bool.or_false,beq_iff_eq]at this;exact hxy this.symm
  ·exact h
 have seey:Bi E ox = .c->∀id∈EE E s oy,id<base+m:=fun hc id hid=>by
  rcases M.1 id hid with h|⟨_,h⟩|⟨h,_⟩
  ·omega
  ·exfalso;unfold VP at h;rw[List.all_eq_true]at h;have:=h x (by simpa using (Array.getElem?_eq_some_iff.1 hx).1);simp only[hx,hc,linked,hbit,hbit',decide_true,Bool.not_true,Bool.or_self,Bool.or_false,beq_iff_eq]at this;exact hxy this
  ·exact h
 have fin:∀(N : Heap),Ph E ops ms base m y s oy->(GU E ms lt s0 base y s H oy=true/\(Bi E oy = .c->base+m<=H.length))->(Bi E oy = .a->∃b,H[base+y]? = some b/\b.live=false)->F7 call E ops (DK E oy base y H) oy ⟨s,H⟩=some (vy,N) ->
   (GU E ms lt s0 base x s N ox=true/\(Bi E ox = .c->base+m<=N.length))->(Bi E ox = .a->∃b,N[base+x]? = some b/\b.live=false)->F7 call E ops (DK E ox base x N) ox ⟨s,N⟩=some (vx,Hy) ->
   ∃st1',IB call E ops ms lt s0 base m y ⟨s,H⟩=some st1' /\ IB call E ops ms lt s0 base m x st1' = some ⟨setSlot (setSlot s ox.dst vx) oy.dst vy,Hy⟩:=by
  intro N g1 l3 g2 g3 l4 g4 g5;refine⟨⟨setSlot s oy.dst vy,N⟩,(qY hy).2 ⟨g1,l3,g2,vy,N,g3,rfl⟩,(qY hx).2 ⟨s1',⟨(by rw[ZcY a3];exact l4.1),l4.2⟩,g4,vx,Hy,?_,?_⟩⟩
  ·rw[Zdy a3];exact g5
  ·rw[Zpc a2]
 have q:∀(z:Nat) (oz:Oper),ops[z]? = some oz->Bi E oz≠.w->∀t,(z,t)∉lt:=by
  intro z oz hz hc t A;obtain⟨o',ho',ht'⟩:=hlt z t A;rw[hz]at ho';cases ho';exact hc (Qd ht').1
 cases hlx:NL E ops lt x ox oy with
 | true=>
  unfold NL at hlx;simp only[Bool.and_eq_true,List.any_eq_true,beq_iff_eq]at hlx;obtain⟨_,hny,⟨x',t⟩,A,hx'⟩:=hlx;simp only at hx';subst hx';obtain⟨ox',hox',htx⟩:=hlt _ t A;rw[hx]at hox';cases hox';have hnw:=Zez hny;obtain⟨b,n,hn,hnin,hnlt,rfl,f3⟩:=ZcW htx A l1 e1;have hjy:n∉EE E s oy:=Zdc A hxy hny hbit hbit' hn l2;have late1:∀N : Heap,N[n]? = H[n]? -> GU E ms lt s0 base x' s N ox=true:=fun N J=>by
   refine Zbk (fun p hp k he hk=>?_) l1;obtain⟨o',ho',ht'⟩:=hlt p.1 p.2 hp;rw[he,hx]at ho';cases ho';rw[htx]at ht';cases ht';rw[hn]at hk;cases hk;exact J
  have ncx:Bi E ox = .c->False:=fun hc=>by rw[(Qd htx).1]at hc;cases hc
  by_cases I:Bi E oy = .c
  ·obtain⟨idy,S,y1,rfl,y4⟩:=qF hfree I e2;have hl:base+m<=H.length:=by have:=c2 I;rw[List.length_set]at this;exact this
   have F:n∉idy:=fun h=>hjy (y1 _ h);have g3:=y4 H (DK E oy base y H) (by rw[List.length_set]) (ZeK hjy).symm;have J:(bump H idy++S)[n]? = H[n]?:=by
    rw[List.getElem?_append_left (by rw[bump_length];exact hnlt),KX];cases H[n]? with
    | none=>rfl
    | some b=>simp[F]
   refine fin _ M ⟨Lm (q y oy hy hnw) l2,fun _=>hl⟩ (fun hc=>by rw[I]at hc;cases hc) g3 ⟨late1 _ J,fun hc=>(ncx hc).elim⟩ (fun hc=>by rw[(Qd htx).1]at hc;cases hc) ?_;rw[f3 _ _ J (pX S (Qb _ _ _) (fun i hi=>by rw[bump_length];exact Nat.lt_of_lt_of_le (seex I i hi) hl))];congr 2;rw[List.set_append_left _ _ (by rw[bump_length];exact hnlt)];congr 1;have:=sQ (ids:=idy) (nb:=none) (k' :=0) (H:=H) (b:=b) (k:=n) (fun h=>by cases h) F;exact this.symm
  have hne:Bi E oy = .a->base+y≠n:=fun hc e=>noy hc (by rw[e];exact hnin);obtain⟨idy,C,y1,y2,rfl,y4⟩:=VD Q hnw I M.2 e2;have hkH:DK E oy base y (H.set n b)=DK E oy base y H:=by unfold DK;rw[List.length_set]
  have Y:Bi E oy = .a->∃b,H[base+y]? = some b/\b.live=false:=fun hc=>by
   obtain⟨b',hb',hd⟩:=d2 hc;rw[List.getElem?_set_ne (fun e=>hne hc e.symm)]at hb';exact⟨b',hb',hd⟩
  have hyl:C.isSome=true->DK E oy base y H<H.length/\DK E oy base y H≠n:=fun h=>by
   have hc:=y2 h;obtain⟨b',hb',_⟩:=Y hc;have:=(List.getElem?_eq_some_iff.1 hb').1;unfold DK;rw[if_pos hc];exact⟨this,hne hc⟩
  have F:n∉idy:=fun h=>hjy (y1 _ h);have g3:=y4 H (DK E oy base y H) (fun hc=>by rw[hkH]) (fun i hi=>by rw[List.getElem?_set_ne (fun e=>hjy (by rw[e];exact hi))]);have J:=Zf1 (H:=H) hyl F;refine fin _ M ⟨Lm (q y oy hy hnw) l2,fun hc=>absurd hc I⟩ Y g3 ⟨late1 _ J,fun hc=>(ncx hc).elim⟩ (fun hc=>by rw[(Qd htx).1]at hc;cases hc) ?_;rw[f3 _ _ J (SQ (fun h=>⟨(hyl h).1,by
    have hk:DK E oy base y H=base+y:=by simp[DK,y2 h]
    rw[hk];exact noy (y2 h)⟩)),hkH,sQ hyl F]
 | false=>
 cases hly:NL E ops lt y oy ox with
 | true=>
  unfold NL at hly;simp only[Bool.and_eq_true,List.any_eq_true,beq_iff_eq]at hly;obtain⟨_,hnx,⟨y',t⟩,A,hy'⟩:=hly;simp only at hy';subst hy';obtain⟨oy',hoy',hty⟩:=hlt _ t A;rw[hy]at hoy';cases hoy';have hnw:=Zez hnx;obtain⟨b,n,hn,hnin,hnlt,rfl,f3⟩:=ZcW hty A l2 e2;have hjx:n∉EE E s ox:=Zdc A (Ne.symm hxy) hnx hbit' hbit hn l1;have late2:Hx[n]? = H[n]? -> GU E ms lt s0 base y' s H oy=true:=fun J=>by
   refine Zbk (fun p hp k he hk=>?_) l2;obtain⟨o',ho',ht'⟩:=hlt p.1 p.2 hp;rw[he,hy]at ho';cases ho';rw[hty]at ht';cases ht';rw[hn]at hk;cases hk;exact J.symm
  have ncy:Bi E oy = .c->False:=fun hc=>by rw[(Qd hty).1]at hc;cases hc
  by_cases G:Bi E ox = .c
  ·obtain⟨idx,S,x1,rfl,x4⟩:=qF hfree G e1;have hl:base+m<=H.length:=c1 G;have hnl:n<H.length:=Nat.lt_of_lt_of_le (seey G n hnin) hl;have F:n∉idx:=fun h=>hjx (x1 _ h);have J:(bump H idx++S)[n]? = H[n]?:=by
    rw[List.getElem?_append_left (by rw[bump_length];exact hnl),KX];cases H[n]? with
    | none=>rfl
    | some b=>simp[F]
   refine fin _ M ⟨late2 J,fun hc=>(ncy hc).elim⟩ (fun hc=>by rw[(Qd hty).1]at hc;cases hc) (f3 _ H J.symm (pX S (Qb _ _ _) (fun i hi=>by rw[bump_length];exact Nat.lt_of_lt_of_le (seey G i hi) hl)).symm)
    ⟨Lm (q x ox hx hnw) l1,fun _=>by rw[List.length_set];exact hl⟩ (fun hc=>by rw[G]at hc;cases hc) ?_
   rw[x4 _ _ (by rw[List.length_set]) (ZeK hjx)];congr 2;rw[List.set_append_left _ _ (by rw[bump_length];exact hnl)];congr 1;have:=sQ (ids:=idx) (nb:=none) (k' :=0) (H:=H) (b:=b) (k:=n) (fun h=>by cases h) F;exact this
  obtain⟨idx,D,x1,x2,rfl,x4⟩:=VD Q hnw G s1.2 e1;have hne:Bi E ox = .a->base+x≠n:=fun hc e=>nox hc (by rw[e];exact hnin);have hxl:D.isSome=true->DK E ox base x H<H.length/\DK E ox base x H≠n:=fun h=>by
   have hc:=x2 h;have:=keptx hc;unfold DK;rw[if_pos hc];exact⟨this,hne hc⟩
  have F:n∉idx:=fun h=>hjx (x1 _ h);have J:=Zf1 (H:=H) hxl F;have hkS:DK E ox base x (H.set n b)=DK E ox base x H:=by unfold DK;rw[List.length_set]
  have hsy:DU (EE E s oy) (eff idx D (DK E ox base x H) H) H:=(SQ (fun h=>⟨(hxl h).1,by
   have hk:DK E ox base x H=base+x:=by simp[DK,x2 h]
   rw[hk];exact nox (x2 h)⟩)).symm
  refine fin _ M ⟨late2 J,fun hc=>(ncy hc).elim⟩ (fun hc=>by rw[(Qd hty).1]at hc;cases hc) (f3 _ H J.symm hsy) ⟨Lm (q x ox hx hnw) l1,fun hc=>absurd hc G⟩ (fun hc=>?_) ?_
  ·obtain⟨b',hb',hd⟩:=d1 hc;exact⟨b',by rw[List.getElem?_set_ne (fun e=>hne hc e.symm)];exact hb',hd⟩
  ·rw[x4 _ _ (fun hc=>by rw[hkS]) (fun i hi=>by rw[List.getElem?_set_ne (fun e=>hjx (by rw[e];exact hi))]),hkS,sQ hxl F]
 | false=>
 rw[hlx,hly,Bool.or_false,Bool.or_false]at O;unfold fG at O;simp only[Bool.and_eq_true]at O;have hcomp:=O.1
 by_cases hcx:Bi E ox = .s
 ·obtain⟨f1,f2⟩:=Zf2 hcx e1;subst f1;exact fin Hy M ⟨l2,c2⟩ d2 e2 ⟨Lm (q x ox hx (by rw[hcx];intro h;cases h)) l1,fun hc=>by rw[hcx]at hc;cases hc⟩ (fun hc=>by rw[hcx]at hc;cases hc) (f2 _ _)
 by_cases hcy:Bi E oy = .s
 ·obtain⟨f1,f2⟩:=Zf2 hcy e2;subst f1;exact fin H M ⟨Lm (q y oy hy (by rw[hcy];intro h;cases h)) l2,fun hc=>by rw[hcy]at hc;cases hc⟩ (fun hc=>by rw[hcy]at hc;cases hc) (f2 _ _) ⟨l1,c1⟩ d1 e1
 have hwx:Bi E ox≠.w:=fun hw=>by rw[hw]at hcomp;cases hh:Bi E oy<;>simp_all [Z48]
 have hwy:Bi E oy≠.w:=fun hw=>by rw[hw]at hcomp;cases hh:Bi E ox<;>simp_all [Z48]
 by_cases G:Bi E ox = .c
 ·have I:Bi E oy≠.c:=fun hc=>by rw[G,hc]at hcomp;cases hcomp
  obtain⟨idx,S,x1,rfl,x4⟩:=qF hfree G e1;obtain⟨idy,C,y1,y2,rfl,y4⟩:=VD Q hwy I M.2 e2;have hl:base+m<=H.length:=c1 G;have hry:∀i∈EE E s oy,i<H.length:=fun i hi=>Nat.lt_of_lt_of_le (seey G i hi) hl;have kyl:C.isSome=true->base+y<H.length:=fun h=>by have:=hm y oy hy (y2 h);omega
  have g3:=y4 H (DK E oy base y H) (fun hc=>by simp[DK,hc]) (pX S (Qb _ _ _) (fun i hi=>by rw[bump_length];exact hry i hi)).symm;have hke:∀H' : Heap,eff idy C (DK E oy base y H')=eff idy C (base+y):=fun H' =>by
   cases hnb:C with
   | none=>rfl
   | some b=>simp[DK,y2 (by rw[hnb];rfl)]
  rw[hke]at g3;have kyn:C.isSome=true->base+y∉EE E s ox:=fun h=>noy (y2 h);have hlen:(eff idy C (base+y) H).length=H.length:=Ui kyl;have dy:Bi E oy = .a->∃b,H[base+y]? = some b/\b.live=false:=fun hc=>by
   obtain⟨b,hb,hd⟩:=d2 hc;have hlt:base+y<H.length:=by have:=hm y oy hy hc;omega
   rw[List.getElem?_append_left (by rw[bump_length];exact hlt),KX]at hb;cases hh:H[base+y]? with
   | none=>simp[hh]at hb
   | some b0=>
    simp only[hh,Option.map_some,Option.some.injEq]at hb;refine⟨b0,rfl,?_⟩;subst hb;split at hd<;>exact hd
  refine fin _ M ⟨Lm (q y oy hy hwy) l2,fun hc=>absurd hc I⟩ dy g3 ⟨Lm (q x ox hx hwx) l1,fun _=>by rw[hlen];exact hl⟩ (fun hc=>by rw[G]at hc;cases hc) ?_;rw[x4 _ _ hlen (SQ (fun h=>⟨kyl h,kyn h⟩)),hke];congr 2;rw[Zb8 S (fun i hi=>by rw[bump_length];exact hry i (y1 i hi)) (fun h=>by rw[bump_length];exact kyl h)];congr 1;have:=Z3g (FB:=idx) (ids2:=idy) (nb1:=none) (nb2:=C) (k1:=0) (k2:=base+y) (H:=H) (fun h=>by cases h) (fun h=>⟨kyl h,fun A=>kyn h (x1 _ A)⟩) (fun h=>by cases h);exact this
 by_cases I:Bi E oy = .c
 ·obtain⟨idx,D,x1,x2,rfl,x4⟩:=VD Q hwx G s1.2 e1;obtain⟨idy,S,y1,rfl,y4⟩:=qF hfree I e2;have kxl:D.isSome=true->base+x<H.length:=fun h=>keptx (x2 h);have hke:∀H' : Heap,eff idx D (DK E ox base x H')=eff idx D (base+x):=fun H' =>by
   cases hnb:D with
   | none=>rfl
   | some b=>simp[DK,x2 (by rw[hnb];rfl)]
  rw[hke]at c2 y4;have hlen:(eff idx D (base+x) H).length=H.length:=Ui kxl;have hl:base+m<=H.length:=by have:=c2 I;rw[hlen]at this;exact this
  have hrx:∀i∈EE E s ox,i<H.length:=fun i hi=>Nat.lt_of_lt_of_le (seex I i hi) hl;have g3:=y4 H (DK E oy base y H) hlen.symm (SQ (fun h=>⟨kxl h,nox (x2 h)⟩)).symm;refine fin _ M ⟨Lm (q y oy hy hwy) l2,fun _=>hl⟩ (fun hc=>by rw[I]at hc;cases hc) g3 ⟨Lm (q x ox hx hwx) l1,fun hc=>absurd hc G⟩ (fun hc=>?_) ?_
  ·obtain⟨b,hb,hd⟩:=d1 hc;have hlt:=keptx hc;rw[List.getElem?_append_left (by rw[bump_length];exact hlt),KX,hb];refine⟨_,rfl,?_⟩;simp only;split<;>exact hd
  ·rw[x4 _ (DK E ox base x (bump H idy++S)) (fun hc=>by simp[DK,hc]) (pX S (Qb _ _ _) (fun i hi=>by rw[bump_length];exact hrx i hi)),hke,hke];congr 2;rw[Zb8 S (fun i hi=>by rw[bump_length];exact hrx i (x1 i hi)) (fun h=>by rw[bump_length];exact kxl h)];congr 1;have:=Z3g (FB:=idx) (ids2:=idy) (nb1:=D) (nb2:=none) (k1:=base+x) (k2:=0) (H:=H) (fun h=>⟨kxl h,fun A=>nox (x2 h) (y1 _ A)⟩) (fun h=>by cases h) (fun _ h=>by cases h);exact this
 obtain⟨idx,D,x1,x2,rfl,x4⟩:=VD Q hwx G s1.2 e1;obtain⟨idy,C,y1,y2,rfl,y4⟩:=VD Q hwy I M.2 e2;have kx:D.isSome=true->DK E ox base x H=base+x:=fun h=>by simp[DK,x2 h]
 have hxlt:D.isSome=true->DK E ox base x H<H.length:=fun h=>by rw[kx h];exact keptx (x2 h)
 have hlen:=Ui (ids:=idx) hxlt;have ky:C.isSome=true->∀H',DK E oy base y H' = base+y:=fun h H' =>by simp[DK,y2 h]
 have simx:DU (EE E s oy) (eff idx D (DK E ox base x H) H) H:=(SQ (fun h=>⟨hxlt h,by rw[kx h];exact nox (x2 h)⟩)).symm;have Y:Bi E oy = .a->∃b,H[base+y]? = some b/\b.live=false:=fun hc=>
  (Ze1 (fun h=>⟨hxlt h,by rw[kx h];omega⟩)).1 (d2 hc)
 have hylt:Bi E oy = .a->base+y<H.length:=fun hc=>by
  obtain⟨b,hb,_⟩:=Y hc;exact(List.getElem?_eq_some_iff.1 hb).1
 have g3:=y4 H (DK E oy base y H) (fun hc=>by simp[DK,hc]) simx;have hylt' : C.isSome=true->DK E oy base y H<H.length:=fun h=>by rw[ky h];exact hylt (y2 h)
 refine fin _ M ⟨Lm (q y oy hy hwy) l2,fun hc=>absurd hc I⟩ Y g3 ⟨Lm (q x ox hx hwx) l1,fun hc=>absurd hc G⟩ (fun hc=>(Ze1 (fun h=>⟨hylt' h,by rw[ky h];omega⟩)).2 (d1 hc)) ?_;have simy:DU (EE E s ox) H (eff idy C (DK E oy base y H) H):=SQ (fun h=>⟨hylt' h,by rw[ky h];exact noy (y2 h)⟩);have g5:=x4 _ (DK E ox base x (eff idy C (DK E oy base y H) H)) (fun hc=>by simp[DK,hc]) simy;rw[g5];have hk1:D.isSome=true->DK E ox base x (eff idy C (DK E oy base y H) H)=base+x:=fun h=>by simp[DK,x2 h]
 have hkx:eff idx D (DK E ox base x (eff idy C (DK E oy base y H) H)) (eff idy C (DK E oy base y H) H)=eff idx D (DK E ox base x H) (eff idy C (DK E oy base y H) H):=by
  cases D with
  | none=>rfl
  | some b=>rw[hk1 rfl,kx rfl]
 have hky:eff idy C (DK E oy base y (eff idx D (DK E ox base x H) H)) (eff idx D (DK E ox base x H) H)=eff idy C (DK E oy base y H) (eff idx D (DK E ox base x H) H):=by
  cases C with
  | none=>rfl
  | some b=>rw[ky rfl,ky rfl]
 rw[hkx,hky];congr 2;exact Z3g (fun h=>⟨hxlt h,by rw[kx h];exact fun A=>nox (x2 h) (y1 _ A)⟩) (fun h=>⟨hylt' h,by rw[ky h];exact fun A=>noy (y2 h) (x1 _ A)⟩) (fun h1 h2=>by rw[kx h1,ky h2];omega)
end
end Go.Proofs.YtjodhcdmhobmoaaGreatDoor.Le
namespace Go.Proofs.YtjodhcdmhobmoaaGreatDoor.Le
open Go.RowKit (Below)
theorem ZyR (acc:List Nat) (j:Nat):∀(es:List Edge) (m:Nat),(es.foldl (fun m e=>if Region.binds .any e then m ||| (1 <<< e.on) ||| acc.getD e.on 0 else m) m).testBit j=true↔
  m.testBit j=true\/∃e∈es,Region.binds .any e=true/\(j=e.on\/(acc.getD e.on 0).testBit j=true):=by
 intro es;induction es with
 | nil=>intro m;simp
 | cons e es q=>
  intro m;rw[List.foldl_cons,q]
  by_cases hb:Region.binds .any e=true
  ·simp only[hb,if_true,Nat.testBit_or,Bool.or_eq_true,Nat.one_shiftLeft,Nat.testBit_two_pow,decide_eq_true_eq,List.mem_cons,exists_eq_or_imp,true_and];constructor
   ·rintro (((h|h)|h)|h)
    ·exact .inl h
    ·exact .inr (.inl (.inl h.symm))
    ·exact .inr (.inl (.inr h))
    ·exact .inr (.inr h)
   ·rintro (h|(h|h)|h)
    ·exact .inl (.inl (.inl h))
    ·exact .inl (.inl (.inr h.symm))
    ·exact .inl (.inr h)
    ·exact .inr h
  ·simp only[hb,Bool.false_eq_true,if_false,List.mem_cons,exists_eq_or_imp,false_and,false_or]
theorem Zui (acc:List Nat) (o:Oper) (j:Nat):(VU acc o).testBit j=true↔∃e∈o.after,Region.binds .any e=true/\(j=e.on\/(acc.getD e.on 0).testBit j=true):=by
 unfold VU;rw[ZyR];simp
theorem Zc3:∀(os:List Oper) (acc:List Nat) (i:Nat),i<acc.length->(Fe acc os)[i]? = acc[i]?:=by
 intro os;induction os with
 | nil=>intro acc i q;rfl
 | cons o os z=>
  intro acc i q;simp only[Fe];rw[z _ i (by simp;omega),List.getElem?_append_left q]
theorem ZxT:∀(os:List Oper) (acc:List Nat) (i:Nat) (o:Oper),os[i]? = some o ->
  ∃q,(Fe acc os)[acc.length+i]? = some (VU q o)/\q.length=acc.length+i/\∀j,j<q.length->(Fe acc os)[j]? = q[j]?:=by
 intro os;induction os with
 | nil=>intro acc i o h;simp at h
 | cons p os F=>
  intro acc i o h;cases i with
  | zero=>
   simp at h;subst h;refine⟨acc,?_,rfl,fun j D=>?_⟩
   ·simp only[Fe];rw[Zc3 _ _ _ (by simp)];simp
   ·simp only[Fe];rw[Zc3 _ _ _ (by simp;omega),List.getElem?_append_left D]
  | succ i=>
   simp at h;obtain⟨q,z,A,C⟩:=F (acc++[VU acc p]) i o h;refine⟨q,?_,by rw[A];simp;omega,C⟩;simp only[Fe];rw[<- z];congr 1;simp;omega
section
variable {E:Env} {ops:Array Oper}
structure ZcU (E:Env) (ops:Array Oper):Prop where
 low:∀(i:Nat) (o:Oper),ops[i]? = some o->∀e∈o.after,Region.binds .any e=true->e.on<i
 bit:∀(i:Nat) (o:Oper),ops[i]? = some o->∀j,((Fe [] ops.toList).getD i 0).testBit j=true↔∃e∈o.after,Region.binds .any e=true/\(j=e.on\/((Fe [] ops.toList).getD e.on 0).testBit j=true)
 lt:∀(i j:Nat),i<ops.size->((Fe [] ops.toList).getD i 0).testBit j=true->j<i
 pass:∀(x y:Nat) (ox oy:Oper),ops[x]? = some ox->ops[y]? = some oy->x<y->((Fe [] ops.toList).getD y 0).testBit x=true\/(fG E ops ox oy||(NL E ops (Pn E ops) x ox oy||NL E ops (Pn E ops) y oy ox))=true
theorem ZoR (h:uC E ops=true):ZcU E ops:=by
 unfold uC at h;simp only[List.all_eq_true,List.mem_range]at h;have q:∀(i:Nat) (o:Oper),ops[i]? = some o->∀e∈o.after,Region.binds .any e=true->e.on<i:=by
  intro i o A e z;have:=h i (Array.getElem?_eq_some_iff.1 A).1;simp only[A,Bool.and_eq_true,Array.all_eq_true_iff_forall_mem,Bool.or_eq_true,Bool.not_eq_true',decide_eq_true_eq]at this;intro hb;rcases this.1 e z with hh|hh
  ·rw[hb]at hh;cases hh
  ·exact hh
 have C:∀(i:Nat) (o:Oper),ops[i]? = some o->∀j,((Fe [] ops.toList).getD i 0).testBit j=true↔∃e∈o.after,Region.binds .any e=true/\(j=e.on\/((Fe [] ops.toList).getD e.on 0).testBit j=true):=by
  intro i o A j;obtain⟨D,M,F,N⟩:=ZxT ops.toList [] i o (by simpa using A);simp only[List.length_nil,Nat.zero_add]at M F;have G:(Fe [] ops.toList).getD i 0=VU D o:=by simp[List.getD,M]
  rw[G,Zui];constructor
  ·rintro ⟨e,z,hb,hj⟩
   refine⟨e,z,hb,?_⟩;have:=N e.on (by rw[F];exact q i o A e z hb);rcases hj with hj|hj
   ·exact .inl hj
   ·right;simp only[List.getD]at hj ⊢;rw[this];exact hj
  ·rintro ⟨e,z,hb,hj⟩
   refine⟨e,z,hb,?_⟩;have:=N e.on (by rw[F];exact q i o A e z hb);rcases hj with hj|hj
   ·exact .inl hj
   ·right;simp only[List.getD]at hj ⊢;rw[<- this];exact hj
 refine⟨q,C,?_,?_⟩
 ·intro i;induction i using Nat.strongRecOn with
  | _ i S=>
   intro j G hj;have A:ops[i]? = some ops[i]:=by simp[G]
   obtain⟨e,z,hb,hh⟩:=(C i _ A j).1 hj;have I:=q i _ A e z hb;rcases hh with hh|hh
   ·omega
   ·have:=S e.on I j (by omega) hh;omega
 ·intro x y ox oy Q O J;have:=h y (Array.getElem?_eq_some_iff.1 O).1;simp only[O,Bool.and_eq_true,List.all_eq_true,List.mem_range,Bool.or_eq_true]at this;have:=this.2 x J;simp only[Q]at this;simpa only[Bool.or_eq_true]using this
end
section
variable {call:Dn} {E:Env} {ops:Array Oper} {ms:List Nat} {lt:List (Nat×(Nat⊕Nat))} {s0:List V} {base m:Nat}
theorem Zsj {i:Nat} {r:St}:∀(C F:List Nat) (st:St),(∀y∈C,∀st q I,IB call E ops ms lt s0 base m y st=some q->IB call E ops ms lt s0 base m i q=some I ->
      ∃A,IB call E ops ms lt s0 base m i st=some A /\ IB call E ops ms lt s0 base m y A = some I) ->
  MJ call E ops ms lt s0 base m (C++i::F) st=some r->∃q,IB call E ops ms lt s0 base m i st=some q/\MJ call E ops ms lt s0 base m (C++F) q=some r:=by
 intro C;induction C with
 | nil=>
  intro F st _ h;simp only[List.nil_append,MJ]at h;cases D:IB call E ops ms lt s0 base m i st with
  | none=>simp[D]at h
  | some q=>simp only[D]at h;exact⟨q,rfl,h⟩
 | cons y C Y=>
  intro F st G h;simp only[List.cons_append,MJ]at h;cases D:IB call E ops ms lt s0 base m y st with
  | none=>simp[D]at h
  | some J=>
   simp only[D]at h;obtain⟨sb,M,N⟩:=Y F J (fun z S=>G z (List.mem_cons_of_mem _ S)) h;obtain⟨sc,O,Q⟩:=G y (by simp) st J sb D M;exact⟨sc,O,by simp only[List.cons_append,MJ,Q];exact N⟩
theorem ZAO {B:Nat} {w0:Start} {σ:Sg} {P:Program} {st st' : St} {a:Act} {w:World} (F:Ci E) (G:E.P=P) (A:JW P E B w0 call) {i:Nat} (h:Eu E B w0 σ st a w) (q:IB call E ops ms lt s0 base m i st=some st')
  {K:Act->World->Prop} {Q:Exit->Act->World->Prop} (M:∀D w' σ',Eu E B w0 σ' st' D w' -> Ext σ w σ' w' -> K D w'):wpOp P ops Q i K a w:=by
 have z:∃k,FP st.H k=true/\Jm call E ops k i st=some st' :=by
  unfold IB at q;cases C:ops[i]? with
  | none=>
   simp only[C]at q;exact⟨st.H.length,dU _,by unfold Jm;simp only[C];exact q⟩
  | some o=>
   simp only[C]at q;split at q
   ·split at q
    ·split at q
     ·rename_i b hb;split at q
      ·cases q
      ·rename_i J;exact⟨base+i,by unfold FP;simp only[hb];simpa using J,q⟩
     ·cases q
    ·exact⟨st.H.length,dU _,q⟩
   ·cases q
 obtain⟨k,I,z⟩:=z;exact Zcq F G A I h z M
theorem ZAi {B:Nat} {w0:Start} {P:Program} {r:St} (hE:Ci E) (hP:E.P=P) (hcall:JW P E B w0 call) (hpure:OL E call) (hf:ZcU E ops) (hm:∀(i:Nat) (o:Oper),ops[i]? = some o->Bi E o = .a->i<m)
  {Q:Exit->Act->World->Prop}:∀(fuel:Nat) (M:List Nat) (listed:Array Bool) (st:St) (σ:Sg) (a:Act) (w:World),M.length<=fuel->listed.size=ops.size ->
  (∀j,j∈M↔listed.getD j true=false)->M.Pairwise (· < ·)->(∀k j,listed.getD k false=true->((Fe [] ops.toList).getD k 0).testBit j=true->listed.getD j false=true) ->
  MJ call E ops (Fe [] ops.toList) (Pn E ops) s0 base m M st=some r->Eu E B w0 σ st a w->(∀a' w' σ',Eu E B w0 σ' r a' w' -> Ext σ w σ' w' -> Q .normal a' w')->wpAny P .any ops Q fuel listed a w:=by
 intro fuel;induction fuel with
 | zero=>
  intro M listed st σ a w hl hsz hM q A hs hr hn;have hnil:M=[]:=List.eq_nil_of_length_eq_zero (by omega);subst hnil;simp only[MJ,Option.some.injEq]at hs;subst hs;refine⟨?_,hn a w σ hr (Ext.refl σ w)⟩;cases hrd:Region.ready .any ops listed with
  | nil=>rfl
  | cons i rest=>
   have hi:i∈Region.ready .any ops listed:=by rw[hrd];simp
   have:=(hM i).2 (mem_ready.1 hi).1;cases this
 | succ fuel ih=>
  intro M listed st σ a w hl hsz hM q A hs hr hn;have hlist:∀j,j<ops.size->j∉M->listed.getD j false=true:=by
   intro j hj hn;have:¬listed.getD j true=false:=fun h=>hn ((hM j).2 h);have hjl:j<listed.size:=by omega
   simp[hjl]at this ⊢;exact this
  refine⟨fun I=>?_,fun i hi=>?_⟩
  ·
   cases M with
   | nil=>
    simp only[MJ,Option.some.injEq]at hs;subst hs;exact hn a w σ hr (Ext.refl σ w)
   | cons i rest=>
    exfalso;have J:=(hM i).1 (by simp);have Y:i<ops.size:=by
     rcases Nat.lt_or_ge i listed.size with h|h
     ·omega
     ·simp[Array.getElem?_eq_none h]at J
    have ho:ops[i]? = some ops[i]:=by simp[Y]
    have:i∈Region.ready .any ops listed:=mem_ready.2 ⟨J,_,ho,fun e he hb=>by
     have hlt:=hf.low i _ ho e he hb;refine hlist e.on (by omega) (fun hin=>?_);rcases List.mem_cons.1 hin with h|h
     ·omega
     ·have:=(List.pairwise_cons.1 q).1 _ h;omega⟩
    rw[I]at this;cases this
  ·obtain⟨J,oi,G,N⟩:=mem_ready.1 hi;have hin:=(hM i).2 J;obtain⟨M1,M2,rfl⟩:=List.append_of_mem hin;have Y:i<ops.size:=(Array.getElem?_eq_some_iff.1 G).1;have C:∀y∈M1,y<i:=fun y F=>(List.pairwise_append.1 q).2.2 y F i (by simp);have D:∀j,((Fe [] ops.toList).getD i 0).testBit j=true->listed.getD j false=true:=by
    intro j hj;obtain⟨e,he,hb,hh⟩:=(hf.bit i oi G j).1 hj;rcases hh with hh|hh
    ·rw[hh];exact N e he hb
    ·exact A e.on j (N e he hb) hh
   have hunl:∀y,listed.getD y true=false->listed.getD y false=false:=by
    intro y F;rcases Nat.lt_or_ge y listed.size with h|h
    ·simp[h]at F ⊢;exact F
    ·simp[Array.getElem?_eq_none h]at F
   obtain⟨st1,h1,h2⟩:=Zsj M1 M2 st (fun y F sa sb sc hsa hsb=>by
    have hyun:listed.getD y true=false:=(hM y).1 (by simp[F]);have hylt:y<ops.size:=by have:=C y F;omega
    have hoy:ops[y]? = some ops[y]:=by simp[hylt]
    have O:((Fe [] ops.toList).getD i 0).testBit y=false:=by
     cases hb:((Fe [] ops.toList).getD i 0).testBit y with
     | false=>rfl
     | true=>have:=D y hb;rw[hunl y hyun]at this;cases this
    have hbit' : ((Fe [] ops.toList).getD y 0).testBit i=false:=by
     cases hb:((Fe [] ops.toList).getD y 0).testBit i with
     | false=>rfl
     | true=>have:=hf.lt y i hylt hb;have:=C y F;omega
    have hp:=(hf.pass y i _ oi hoy G (C y F)).resolve_left (by rw[O];simp);exact ZuY hpure hm hoy G (by have:=C y F;omega) hp (fun x t h=>ZxK h) O hbit' hsa hsb) hs
   refine ZAO hE hP hcall hr h1 (fun a1 w1 σ1 hr1 he1=>?_);have S:∀j d,(listed.setIfInBounds i true).getD j d=if j=i then true else listed.getD j d:=by
    intro j d
    by_cases z:j=i
    ·subst z;have:j<listed.size:=by omega
     simp[this]
    ·rw[if_neg z,getD_set_ne d (fun e=>z e.symm)]
   have hnot:i∉M1++M2:=by
    intro h;rcases List.mem_append.1 h with h|h
    ·have:=C i h;omega
    ·have:=(List.pairwise_cons.1 (List.pairwise_append.1 q).2.1).1 i h;omega
   refine ih (M1++M2) (listed.setIfInBounds i true) st1 σ1 a1 w1 (by simp at hl ⊢;omega) (by simpa using hsz) (fun j=>?_) ?_ (fun k j hk hj=>?_) h2 hr1 (fun a' w' σ' hr' he' =>hn a' w' σ' hr' (he1.trans he'))
   ·rw[S]
    by_cases z:j=i
    ·subst z;rw[if_pos rfl];exact⟨fun h=>absurd h hnot,fun h=>by cases h⟩
    ·rw[if_neg z,<- hM j];simp[z]
   ·exact q.sublist (List.Sublist.append_left (List.sublist_cons_self i M2) M1)
   ·rw[S]at hk ⊢
    by_cases z:j=i
    ·rw[if_pos z]
    ·rw[if_neg z]
     by_cases hki:k=i
     ·subst hki;exact D j hj
     ·rw[if_neg hki]at hk;exact A k j hk hj
theorem Inv.reserve {B:Nat} {w0:Start} {σ:Sg} {H:Heap} {w:World} (h:Inv B w0 σ H w) (n:Nat):Inv B w0 σ (H++List.replicate n Qe) w:=by
 have q:∀(i:Nat) (b:Box),(H++List.replicate n Qe)[i]? = some b->b.live=true->H[i]? = some b:=by
  intro i b hb z;rw[List.getElem?_append]at hb;split at hb
  ·exact hb
  ·have:=(List.mem_replicate.1 (List.mem_of_getElem? hb)).2;subst this;cases z
 refine⟨h.below,h.size,fun id L J=>?_,fun i b hb z=>h.boxes i b (q i b hb z) z,fun i j b1 b2 G I g A C D F=>h.apart i j b1 b2 G I g (q i b1 A D) (q j b2 C F) D F,h.cells,
  fun b c hc i bx L hb z=>h.floor b c hc i bx L (q i bx hb z) z,fun i b hb z=>h.low i b (q i b hb z) z,h.old,h.kept⟩
 obtain⟨b,A,C⟩:=h.dom id L J;exact⟨b,by rw[List.getElem?_append_left (List.getElem?_eq_some_iff.1 A).1];exact A,C⟩
theorem Zeb {B:Nat} {w0:Start} {σ:Sg} {P:Program} {st st' : St} {a:Act} {w:World} (J:Ci E) (N:E.P=P) (C:P.follows .mixedOrders=true) (z:JW P E B w0 call) (A:OL E call) (O:uC E ops=true)
  (h:Eu E B w0 σ st a w) (I:TJ call E ops st=some st') {id:Nat} {Q:Exit->Act->World->Prop} (hn:∀D w' σ',Eu E B w0 σ' st' D w' -> Ext σ w σ' w' -> Q .normal D w'):(Code.region id ops true).wp P Q a w:=by
 have Y:w.grownBy { w with drawn:=w.drawn+1 } none:=⟨rfl,rfl,rfl,Nat.le_refl _,fun _ _ _=>rfl⟩;obtain⟨M,q⟩:=h.inv.grown Y;refine wp_region_any C ?_;unfold TJ at I;refine ZAi J N z A (ZoR O) (m:=if ops.any (fun o=>decide (Bi E o = .a)) then ops.size else 0) (fun i o G hc=>?_) ops.size (List.range ops.size) _ _ σ a _ (by simp) (by simp) (fun j=>?_) List.pairwise_lt_range (fun k j F=>?_) I
  ⟨M.reserve _,h.Ee.ext q,h.slots.ext q,h.calm⟩ (fun D w' σ' hr S=>hn D w' σ' hr (q.trans S))
 ·have:ops.any (fun o=>decide (Bi E o = .a))=true:=Array.any_eq_true'.2 ⟨o,Array.mem_of_getElem? G,by simpa using hc⟩;rw[if_pos this];exact(Array.getElem?_eq_some_iff.1 G).1
 ·rw[List.mem_range];rcases Nat.lt_or_ge j ops.size with hj|hj
  ·simp[hj]
  ·simp[Nat.not_lt.2 hj]
 ·exfalso;rcases Nat.lt_or_ge k ops.size with hj|hj
  ·simp[hj]at F
  ·simp[hj]at F
end
end Go.Proofs.YtjodhcdmhobmoaaGreatDoor.Le
namespace Go.Proofs.YtjodhcdmhobmoaaGreatDoor.Le
open Go.RowKit (Below)
def Ex.out:Ex->Exit
 | .normal=>.normal
 | .ret=>.ret
 | .exit id=>.exit id
def Z3Z (P:Program) (E:Env) (B:Nat) (w0:Start) (f:FuncId) (A:Code->St->Option (Ex×St)):Prop:=
 ∀b st z st',Ed E f b=true->A b st=some (z,st')->∀(Q:Exit->Act->World->Prop) σ a w,Eu E B w0 σ st a w ->
  (∀q w' σ',Eu E B w0 σ' st' q w' -> Ext σ w σ' w' -> Q z.out q w')->(Code.loop b).wp P Q a w
section
variable {P:Program} {E:Env} {B:Nat} {w0:Start} {call:Dn} {f:FuncId}
theorem SI (hE:Ci E) (hP:E.P=P) (G:JW P E B w0 call) (Y:OL E call) {lp:Code->St->Option (Ex×St)} (hlp:Z3Z P E B w0 f lp) :
  ∀(c:Code) (st:St) (A:Ex) (st' : St),Ed E f c=true->GH call lp E f c st=some (A,st')->∀(Q:Exit->Act->World->Prop) (σ:Sg) (a:Act) (w:World),Eu E B w0 σ st a w ->
   (∀a' w' σ',Eu E B w0 σ' st' a' w' -> Ext σ w σ' w' -> Q A.out a' w')->c.wp P Q a w:=by
 intro c;induction c with
 | skip=>
  intro st A st' hc h Q σ a w q z;simp only[GH,Option.some.injEq,Prod.mk.injEq]at h;obtain⟨rfl,rfl⟩:=h;exact wp_skip (z a w σ q (Ext.refl σ w))
 | region id ops draw=>
  intro st A st' hc h Q σ a w q z;cases draw with
  | false=>
   simp only[GH]at h;cases hs:MW call E ops (List.range ops.size) st with
   | none=>simp[hs]at h
   | some r=>
    simp only[hs,Option.map_some,Option.some.injEq,Prod.mk.injEq]at h;obtain⟨rfl,rfl⟩:=h;exact wp_region (ZeA hE hP G _ st σ a w q hs z)
  | true=>
   simp only[GH]at h;split at h
   ·rename_i O;cases hs:TJ call E ops st with
    | none=>simp[hs]at h
    | some r=>
     simp only[hs,Option.map_some,Option.some.injEq,Prod.mk.injEq]at h;obtain⟨rfl,rfl⟩:=h;refine Zeb hE hP (by rw[<- hP];exact hE.mix) G Y ?_ q hs z;simpa[Ed,O]using hc
   ·cases h
 | seq x y M ihy=>
  intro st A st' hc h Q σ a w q z;simp only[Ed,Bool.and_eq_true]at hc;simp only[GH]at h;split at h
  ·rename_i N h1;exact wp_seq (M st .normal N hc.1 h1 _ σ a w q (fun I J F D C=>ihy N A st' hc.2 h Q F I J D (fun a' w' σ' hr' he' =>z a' w' σ' hr' (C.trans he'))))
  ·rename_i S;refine wp_seq (M st A st' hc.1 h _ σ a w q (fun I J F D C=>?_));have:=z I J F D C;cases A with
   | normal=>exact absurd h (S _)
   | ret=>exact this
   | exit id=>exact this
 | cond c x y M ihy=>
  intro st A st' hc h Q σ a w q z;simp only[Ed,Bool.and_eq_true]at hc;simp only[GH]at h;split at h
  ·rename_i t ht;have hv:=EX (a:=a) q.Ee q.slots c;rw[ht]at hv;have hb:a.eval c = .bool t:=by generalize a.eval c=v at hv;cases hv;rfl
   refine wp_cond hb ?_;cases t with
   | true=>exact M st A st' hc.1 h Q σ a w q z
   | false=>exact ihy st A st' hc.2 h Q σ a w q z
  ·cases h
 | block id b ih=>
  intro st A st' hc h Q σ a w q z;simp only[Ed]at hc;simp only[GH]at h;split at h
  ·rename_i i N h1;refine wp_block (ih st (.exit i) N hc h1 _ σ a w q (fun I J F D C=>?_));simp only[Ex.out,Exit.inBlock];split at h
   ·rename_i hi;cases h;rw[if_pos hi];exact z I J F D C
   ·rename_i hi;cases h;rw[if_neg hi];exact z I J F D C
  ·rename_i S;refine wp_block (ih st A st' hc h _ σ a w q (fun I J F D C=>?_));have:=z I J F D C;cases A with
   | normal=>exact this
   | ret=>exact this
   | exit i=>exact absurd h (S _ _)
 | loop b ih=>
  intro st A st' hc h Q σ a w q z;exact hlp b st A st' hc h Q σ a w q z
 | scope b ih=>
  intro st A st' hc h Q σ a w q z;simp only[Ed]at hc;simp only[GH]at h;refine wp_scope_straight (ih st A st' hc h _ σ a w q (fun I J F D C=>?_));have:=z I J F D C;cases A with
  | normal=>exact this
  | ret=>exact this
  | exit i=>exact this
 | label l=>
  intro st A st' hc h Q σ a w q z;simp only[GH,Option.some.injEq,Prod.mk.injEq]at h;obtain⟨rfl,rfl⟩:=h;exact wp_label (z a w σ q (Ext.refl σ w))
 | exit id=>
  intro st A st' hc h Q σ a w q z;simp only[GH,Option.some.injEq,Prod.mk.injEq]at h;obtain⟨rfl,rfl⟩:=h;exact wp_exit (z a w σ q (Ext.refl σ w))
 | ret=>
  intro st A st' hc h Q σ a w q z;simp only[GH,Option.some.injEq,Prod.mk.injEq]at h;obtain⟨rfl,rfl⟩:=h;exact wp_ret (z a w σ q (Ext.refl σ w))
 | _=>
  intro st A st' hc h;cases h
theorem Z3p (hE:Ci E) (hP:E.P=P) (z:JW P E B w0 call) (A:OL E call):∀n,Z3Z P E B w0 f (TF call E f n):=by
 have key:∀n,∀b st q st',Ed E f b=true->TF call E f n b st=some (q,st')->∀(Q:Exit->Act->World->Prop) σ a w,Eu E B w0 σ st a w ->
  (∀N w' σ',Eu E B w0 σ' st' N w' -> Ext σ w σ' w' -> Q q.out N w')->Code.rounds P b Q n a w:=by
  intro n;induction n with
  | zero=>intro b st q st' hc h;cases h
  | succ n ih=>
   intro b st q st' hc h Q σ a w I G;rw[rounds_succ];have J:Z3Z P E B w0 f (TF call E f n):=fun b st q st' hc h Q σ a w I G=>wp_loop_rounds n (ih b st q st' hc h Q σ a w I G);simp only[TF]at h;split at h
   ·rename_i M h1;exact SI hE hP z A J b st .normal M hc h1 _ σ a w I (fun O w1 F D C=>ih b M q st' hc h Q F O w1 D (fun N w' σ' hr' S =>G N w' σ' hr' (C.trans S)))
   ·rename_i Y;refine SI hE hP z A J b st q st' hc h _ σ a w I (fun O w1 F D C=>?_);have:=G O w1 F D C;cases q with
    | normal=>exact absurd h (Y _)
    | ret=>exact this
    | exit id=>exact this
 exact fun n b st q st' hc h Q σ a w I G=>wp_loop_rounds n (key n b st q st' hc h Q σ a w I G)
theorem ZuQ {σ:Sg} {H:Heap} {w:World} (C:Ci E) (F:E.P=P) (D:Inv B w0 σ H w) {t:TypeId} {x r:V} {v:Value} (q:AQ σ w [x] [v]) (h:MP E H t x=some r) :
  ∃u,(do loadVar t (<- asAddr v):Sem Value).run P w = .ok u w/\AQ σ w [r] [u]:=by
 obtain⟨u,I,G⟩:=ZeD (P:=P) C F D q h;refine⟨u,?_,G⟩;have J:∃A,v = .pointer (some A):=by
  unfold MP at h;split at h
  ·cases h
  ·split at h
   ·cases q;exact⟨_,rfl⟩
   ·cases q with
    | ptr g _ _ _ z _=>exact⟨_,z⟩
   ·cases h
 obtain⟨A,rfl⟩:=J;rw[<- I];simp[Instr.loadAt,asAddr,Instr.sureAddr]
theorem ZFw {σ:Sg} {H:Heap} {w:World} {s:List V} {tmps:Array Value} (G:Ci E) (J:E.P=P) (I:Inv B w0 σ H w) (M:AQ σ w s tmps.toList):∀(rs:List ResultVar) (xs:List V),rs.mapM (resD E H s)=some xs ->
  ∃vs,(rs.mapM (fun(r:ResultVar)=>(match r with | .tmp t=>pure (tmps.getD t undef) | .cell a t=>do loadVar t (<- asAddr (tmps.getD a undef)):Sem Value))).run P w = .ok vs w/\AQ σ w xs vs:=by
 have q:∀t,AQ σ w [s.getD t .und] [tmps.getD t undef]:=fun t=>by
  have:=ZcG M t;simpa using this
 intro rs;induction rs with
 | nil=>
  intro xs h;simp at h;subst h;exact⟨[],rfl,.nil⟩
 | cons r rs S=>
  intro xs h;rw[List.mapM_cons]at h;cases A:resD E H s r with
  | none=>simp[A]at h
  | some x=>
   cases z:rs.mapM (resD E H s) with
   | none=>simp[A,z]at h
   | some D =>
    simp[A,z]at h;subst h;obtain⟨vs,O,Q⟩:=S D z;have F:∃u,((match r with | .tmp t=>pure (tmps.getD t undef) | .cell a t=>do loadVar t (<- asAddr (tmps.getD a undef)):Sem Value)).run P w = .ok u w/\AQ σ w [x] [u]:=by
     cases r with
     | tmp t=>
      simp only[resD,Option.some.injEq]at A;subst A;exact⟨_,rfl,q t⟩
     | cell a t=>exact ZuQ G J I (q a) A
    obtain⟨u,N,C⟩:=F;refine⟨u::vs,?_,AQ.FD.2 ⟨C,Q⟩⟩;rw[List.mapM_cons,Sem.run_bind,N,Result.andThen_ok,Sem.run_bind,O,Result.andThen_ok];rfl
theorem pF {σ:Sg} {H:Heap} {w:World} {s:List V} {tmps:Array Value} (J:Ci E) (N:E.P=P) (M:Inv B w0 σ H w) (O:AQ σ w s tmps.toList) {fn:Func} {x:V} (h:KY E H s fn.results.toList=some x) :
  ∃u,(results fn tmps).run P w = .ok u w/\AQ σ w [x] [u]:=by
 unfold KY at h;cases hm:fn.results.toList.mapM (resD E H s) with
 | none=>simp[hm]at h
 | some xs=>
  obtain⟨vs,Q,F⟩:=ZFw (P:=P) J N M O _ xs hm;have A:(results fn tmps).run P w = .ok (if h:vs.toArray.size=1 then vs.toArray[0] else .tuple vs.toArray) w:=by
   unfold results;rw[Sem.run_bind];have C:(fn.results.mapM (fun(r:ResultVar)=>(match r with | .tmp t=>pure (tmps.getD t undef) | .cell a t=>do loadVar t (<- asAddr (tmps.getD a undef)):Sem Value))).run P w = .ok vs.toArray w:=by
    rw[Array.mapM_eq_mapM_toList,map_eq_pure_bind,Sem.run_bind,Q,Result.andThen_ok];rfl
   have:=congrArg (fun r=>Result.andThen r fun(vs:Array Value) (w' : World)=>(pure (if h:vs.size=1 then vs[0] else .tuple vs):Sem Value).run P w') C;exact this
  refine⟨_,A,?_⟩;rw[hm]at h;have z:=F.length;split at h
  ·rename_i v q;cases q;simp only[Option.some.injEq]at h;subst h;obtain⟨u,S,rfl,G,I⟩:=F.Dq;cases I.FI;simpa using G
  ·rename_i ys D q;cases q;simp only[Option.some.injEq]at h;subst h;have:¬vs.toArray.size=1:=by
    intro q;simp at q;rw[<- z]at q;obtain⟨y,rfl⟩:=List.length_eq_one_iff.1 q;exact D y rfl
   rw[dif_neg this];exact .BH F .nil
  ·rename_i q;cases q
end
end Go.Proofs.YtjodhcdmhobmoaaGreatDoor.Le
namespace Go.Proofs.YtjodhcdmhobmoaaGreatDoor.Le
open Go.RowKit (Below)
def bare (fz:Nat->Nat->Prop):Sg:=⟨fun _=>none,fz⟩
theorem Lies.bare {σ σ' : Sg} {w w' : World} {b o:Nat} {us:List Value} (h:Lies σ w b o us) (q:∀b c,σ.fz b c->σ'.fz b c/\w'.cell? ⟨b,c,none⟩=w.cell? ⟨b,c,none⟩):Lies σ' w' b o us:=fun j u F=>by
 obtain⟨C,D⟩:=h j u F;obtain⟨z,A⟩:=q _ _ C;exact⟨z,A.trans D⟩
theorem AQ.bare {σ σ' : Sg} {w w' : World} {xs:List V} {vs:List Value} (h:AQ σ w xs vs) (I:∀b c,σ.fz b c->σ'.fz b c/\w'.cell? ⟨b,c,none⟩=w.cell? ⟨b,c,none⟩) (O:EP w w') :
  CJ xs=true->AQ σ' w' xs vs:=by
 induction h with
 | nil=>intro _;exact .nil
 | und u _ C=>intro q;simp[CJ]at q;exact .und u (C q.2)
 | no _ C=>intro q;simp[CJ]at q;exact .no (C q.2)
 | lit Y _ C=>intro q;simp[CJ]at q;exact .lit Y (C q.2)
 | agg _ ho _ z A=>intro q;simp[CJ,CS]at q;exact .agg (z q.1) ho (A q.2)
 | BH _ _ z A=>intro q;simp[CJ,CS]at q;exact .BH (z q.1) (A q.2)
 | EY _ C=>intro q;simp[CJ]at q;exact .EY (C q.2)
 | Fp _ C=>intro q;simp[CJ]at q;exact .Fp (C q.2)
 | FW a _ C=>intro q;simp[CJ]at q;exact .FW a (C q.2)
 | GN a _ C=>intro q;simp[CJ]at q;exact .GN a (C q.2)
 | sl b o c J _ M D F G N S _ z A=>intro q;simp[CJ,CS]at q;exact .sl b o c J (z q.1) M D F G N (S.bare I) (A q.2)
 | Ce b o J _ M D F G N _ z A=>intro q;simp[CJ,CS]at q;exact .Ce b o J (z q.1) M D F G (N.bare I) (A q.2)
 | Bc D F G N _ C=>intro q;simp[CJ,CS]at q
 | ptr g D F G N _ C=>intro q;simp[CJ,CS]at q
 | CE b o J i off _ M D F G _ z A=>intro q;simp[CJ,CS]at q;exact .CE b o J i off (z q.1) M D F (G.bare I) (A q.2)
 | fn _ _ _ z A Q=>intro q;simp[CJ,CS]at q;exact .fn (z q.1.1) (A q.1.2) (Q q.2)
 | Gy _ _ z A=>intro q;simp[CJ,CS]at q;exact .Gy (z (by simp[CJ,q.1])) (A q.2)
 | GY g es c _ D F _ z A=>intro q;simp[CJ,CS]at q;exact .GY g es c (z q.1) (O _ _ _ D) F (A q.2)
theorem Df.bare {E:Env} {σ σ' : Sg} {w w' : World} (h:Df E σ w) (q:∀b c,σ.fz b c->σ'.fz b c/\w'.cell? ⟨b,c,none⟩=w.cell? ⟨b,c,none⟩) (z:EP w w'):Df E σ' w' :=by
 intro g r C;have A:=h g r C;generalize F:Value.pointer (some ⟨g,0,none⟩)=v at A ⊢;cases A with
 | CE b o D i off k0 k1 k2 k3 k4 _=>exact .CE b o _ _ _ (k0.bare q z (PH k1)) k1 k2 k3 (k4.bare q) .nil
theorem Z2G (q:Nat->Nat) (xs:List V):Gl q xs=xs.map (FU q):=by
 induction xs with
 | nil=>rfl
 | cons x xs z=>simp[Gl,z]
theorem Z0z (q:Nat->Nat) (xs:List V):(Gl q xs).length=xs.length:=by rw[Z2G];simp
theorem Ze5 (q:Nat->Nat) (x:V):okV (FU q x)=okV x:=by cases x<;>simp[FU,okV]
theorem Z26 {σ σ' : Sg} {w w' : World} {S:Nat->Nat} {xs:List V} {vs:List Value} (h:AQ σ w xs vs) (D:∀b c,σ.fz b c->σ'.fz b c/\w'.cell? ⟨b,c,none⟩=w.cell? ⟨b,c,none⟩) (J:EP w w') :
  (∀id∈D7 xs,σ'.box (S id)=σ.box id)->AQ σ' w' (Gl S xs) vs:=by
 induction h with
 | nil=>intro _;exact .nil
 | und u _ C=>intro q;exact .und u (C fun id h=>q id (by simp[D7,h]))
 | no _ C=>intro q;exact .no (C fun id h=>q id (by simp[D7,h]))
 | lit hl _ C=>intro q;exact .lit hl (C fun id h=>q id (by simp[D7,h]))
 | agg _ ho _ A z=>intro q;exact .agg (A fun id h=>q id (by simp[D7,EO,h])) ho (z fun id h=>q id (by simp[D7,h]))
 | BH _ _ A z=>intro q;exact .BH (A fun id h=>q id (by simp[D7,EO,h])) (z fun id h=>q id (by simp[D7,h]))
 | EY _ C=>intro q;exact .EY (C fun id h=>q id (by simp[D7,h]))
 | Fp _ C=>intro q;exact .Fp (C fun id h=>q id (by simp[D7,h]))
 | FW a _ C=>intro q;exact .FW a (C fun id h=>q id (by simp[D7,h]))
 | GN a _ C=>intro q;exact .GN a (C fun id h=>q id (by simp[D7,h]))
 | sl b o c O h M F G I N Y _ _ z=>intro q;exact .sl b o c O (h.bare D J (PH M)) M F G I N (Y.bare D) (z fun id h=>q id (by simp[D7,h]))
 | Ce b o O h M F G I N _ _ z=>intro q;exact .Ce b o O (h.bare D J (PH M)) M F G I (N.bare D) (z fun id h=>q id (by simp[D7,h]))
 | Bc F G I N _ C=>intro q;exact .Bc ((q _ (by simp[D7,EO])).trans F) G I N (C fun id h=>q id (by simp[D7,h]))
 | ptr g F G I N _ C=>intro q;exact .ptr g ((q _ (by simp[D7,EO])).trans F) G I N (C fun id h=>q id (by simp[D7,h]))
 | CE b o O i off h M F G I _ _ z=>intro q;exact .CE b o O i off (h.bare D J (PH M)) M F G (I.bare D) (z fun id h=>q id (by simp[D7,h]))
 | fn _ _ _ A z Q=>intro q;exact .fn (A fun id h=>q id (by simp[D7,EO,h])) (z fun id h=>q id (by simp[D7,EO,h])) (Q fun id h=>q id (by simp[D7,h]))
 | Gy _ _ A z=>intro q;exact .Gy (A fun id h=>q id (by simp[D7,EO]at h ⊢;simp[h])) (z fun id h=>q id (by simp[D7,h]))
 | GY g es c _ F G _ A z=>intro q;exact .GY g es c (A fun id h=>q id (by simp[D7,EO,h])) (J _ _ _ F) G (z fun id h=>q id (by simp[D7,h]))
theorem Zyv {σ σ' : Sg} {w w' : World} {A:Nat->Nat} {x:V} {v:Value} (h:AQ σ w [x] [v]) (q:∀b c,σ.fz b c->σ'.fz b c/\w'.cell? ⟨b,c,none⟩=w.cell? ⟨b,c,none⟩) (z:EP w w')
  (C:∀id∈EO x,σ'.box (A id)=σ.box id):AQ σ' w' [FU A x] [v]:=Z26 h q z (by simpa[D7]using C)
structure GG (H H1:Heap):Prop where
 len:H.length<=H1.length
 at_:∀(id:Nat) (b:Box),H[id]? = some b->∃b',H1[id]? = some b' /\ b'.live=b.live/\b'.row=b.row/\b'.xs=b.xs
theorem GG.refl (H:Heap):GG H H:=⟨Nat.le_refl _,fun id b h=>⟨b,h,rfl,rfl,rfl⟩⟩
theorem GG.trans {A B C:Heap} (h:GG A B) (k:GG B C):GG A C:=
 ⟨Nat.le_trans h.len k.len,fun id b hb=>by
  obtain⟨b1,q,z,D,F⟩:=h.at_ id b hb;obtain⟨b2,k1,k2,k3,k4⟩:=k.at_ id b1 q;exact⟨b2,k1,k2.trans z,k3.trans D,k4.trans F⟩⟩
theorem GG.bump (H:Heap) (ids:List Nat):GG H (bump H ids):=
 ⟨by rw[bump_length];exact Nat.le_refl _,fun id b hb=>⟨_,by rw[KX,hb];rfl,by split<;>rfl,by split<;>rfl,by split<;>rfl⟩⟩
theorem GG.push (H:Heap) (b:Box):GG H (H++[b]):=
 ⟨by simp,fun id q hb=>⟨q,by rw[List.getElem?_append_left (List.getElem?_eq_some_iff.1 hb).1];exact hb,rfl,rfl,rfl⟩⟩
section
variable {B:Nat} {w0:Start} {σ:Sg} {H H1:Heap} {w:World}
theorem ZdD (h:Inv B w0 σ H w) {f:Fk} {x y:V} {v:Value} (z:AQ σ w [x] [v]) (q:IA f H x=some (y,H1)):GG H H1/\∃σ',Inv B w0 σ' H1 w/\Ext σ w σ' w/\AQ σ' w [y] [v]:=by
 have mk:∀(e:TypeId) (sz:Nat),∃σ',Inv B w0 σ' (H++[Bg true false e sz []]) w/\Ext σ w σ' w/\AQ σ' w [.Bc H.length 0 0 0] [.slice none 0 0]:=by
  intro e sz;obtain⟨σ',A,C,F⟩:=NQ (e:=e) (Ap:=sz) (v' :=.slice none 0 0) h (dU H) (grownBy_refl w none) (xs:=[]) (us:=[]) .nil (by simp) (by simp) (by simp[flat]) ⟨by simp[flat],.inl ⟨rfl,rfl⟩⟩ (by simp[Value.ownBlock]) false (by simp);exact⟨σ',by rw[Zzs]at A;exact A,C,F⟩
 cases f with
 | s e sz=>
  simp only[IA]at q;cases D:IE H x with
  | none=>simp[D]at q
  | some I=>
   simp only[D,Option.map_some,Option.some.injEq,Prod.mk.injEq]at q;obtain⟨rfl,rfl⟩:=q;obtain⟨A,C⟩:=h.freeze (FB x);exact⟨GG.bump _ _,_,A,C,Z0j sz (qB h z D (FB x) (fun i G=>G))⟩
 | own e sz=>
  simp only[IA]at q;unfold iE at q;split at q
  ·simp only[Option.some.injEq,Prod.mk.injEq]at q;obtain⟨rfl,rfl⟩:=q;cases z with
   | EY _=>exact⟨GG.push _ _,mk e sz⟩
  ·simp only[Option.some.injEq,Prod.mk.injEq]at q;obtain⟨rfl,rfl⟩:=q;cases z with
   | Fp _=>exact⟨GG.push _ _,mk e sz⟩
  ·split at q
   ·simp only[Option.some.injEq,Prod.mk.injEq]at q;obtain⟨rfl,rfl⟩:=q;exact⟨GG.refl _,σ,h,Ext.refl _ _,z⟩
   ·cases q
  ·cases q
 | keep=>
  simp only[IA,Option.some.injEq,Prod.mk.injEq]at q;obtain⟨rfl,rfl⟩:=q;exact⟨GG.refl _,σ,h,Ext.refl _ _,z⟩
 | drop=>
  simp only[IA,Option.some.injEq,Prod.mk.injEq]at q;obtain⟨rfl,rfl⟩:=q;exact⟨GG.refl _,σ,h,Ext.refl _ _,.und _ .nil⟩
theorem ZBv:∀{fl:List Fk} {H:Heap} {σ:Sg} {xs ys:List V} {vs:List Value} {H1:Heap},Inv B w0 σ H w->AQ σ w xs vs->Hz fl H xs=some (ys,H1)->GG H H1/\∃σ',Inv B w0 σ' H1 w/\Ext σ w σ' w/\AQ σ' w ys vs:=by
 intro fl;induction fl with
 | nil=>
  intro H σ xs ys vs H1 h C q;cases xs with
  | nil=>
   simp only[Hz,Option.some.injEq,Prod.mk.injEq]at q;obtain⟨rfl,rfl⟩:=q;exact⟨GG.refl _,σ,h,Ext.refl _ _,C⟩
  | cons=>simp[Hz]at q
 | cons f fl Q=>
  intro H σ xs ys vs H1 h C q;cases xs with
  | nil=>simp[Hz]at q
  | cons x xs=>
   obtain⟨v,vs',rfl,D,F⟩:=C.Dq;simp only[Hz]at q;cases z:IA f H x with
   | none=>simp[z]at q
   | some r=>
    obtain⟨y,M⟩:=r;simp only[z]at q;cases A:Hz fl M xs with
    | none=>simp[A]at q
    | some r=>
     obtain⟨ys',Hb⟩:=r;simp only[A,Option.some.injEq,Prod.mk.injEq]at q;obtain⟨rfl,rfl⟩:=q;obtain⟨k1,σ1,N,I,S⟩:=ZdD h D z;obtain⟨k2,G,O,J,Y⟩:=Q N (F.ext I) A;exact⟨k1.trans k2,G,O,I.trans J,AQ.FD.2 ⟨S.ext J,Y⟩⟩
theorem ZdO (h:Inv B w0 σ H w) {fl:List Fk} {x y:V} {v:Value} (C:AQ σ w [x] [v]) (q:Js fl H x=some (y,H1)):GG H H1/\∃σ',Inv B w0 σ' H1 w/\Ext σ w σ' w/\AQ σ' w [y] [v]:=by
 unfold Js at q;split at q
 ·rename_i cs;cases z:Hz fl H cs with
  | none=>simp[z]at q
  | some r=>
   obtain⟨ys,M⟩:=r;simp only[z,Option.map_some,Option.some.injEq,Prod.mk.injEq]at q;obtain⟨rfl,rfl⟩:=q;cases C with
   | agg F G _=>
    obtain⟨k1,A,I,D,J⟩:=ZBv h F z;exact⟨k1,A,I,D,.agg J G .nil⟩
 ·split at q
  ·exact ZdD h C q
  ·cases q
theorem ZBr:∀{fl:List (List Fk)} {H:Heap} {σ:Sg} {xs ys:List V} {vs:List Value} {H1:Heap},Inv B w0 σ H w->AQ σ w xs vs->IM fl H xs=some (ys,H1)->GG H H1/\∃σ',Inv B w0 σ' H1 w/\Ext σ w σ' w/\AQ σ' w ys vs:=by
 intro fl;induction fl with
 | nil=>
  intro H σ xs ys vs H1 h C q;cases xs with
  | nil=>
   simp only[IM,Option.some.injEq,Prod.mk.injEq]at q;obtain⟨rfl,rfl⟩:=q;exact⟨GG.refl _,σ,h,Ext.refl _ _,C⟩
  | cons=>simp[IM]at q
 | cons f fl Q=>
  intro H σ xs ys vs H1 h C q;cases xs with
  | nil=>simp[IM]at q
  | cons x xs=>
   obtain⟨v,vs',rfl,D,F⟩:=C.Dq;simp only[IM]at q;cases z:Js f H x with
   | none=>simp[z]at q
   | some r=>
    obtain⟨y,M⟩:=r;simp only[z]at q;cases A:IM fl M xs with
    | none=>simp[A]at q
    | some r=>
     obtain⟨ys',Hb⟩:=r;simp only[A,Option.some.injEq,Prod.mk.injEq]at q;obtain⟨rfl,rfl⟩:=q;obtain⟨k1,σ1,N,I,S⟩:=ZdO h D z;obtain⟨k2,G,O,J,Y⟩:=Q N (F.ext I) A;exact⟨k1.trans k2,G,O,I.trans J,AQ.FD.2 ⟨S.ext J,Y⟩⟩
structure uQ (ids:List Nat) (H:Heap):Prop where
 nodup:ids.Nodup
 at_:∀id∈ids,∃b,H[id]? = some b/\b.live=true/\(b.row=false->∀r∈D7 b.xs,r∈ids)
theorem ZBt:∀(n:Nat) {fb:List Bf} {H:Heap} {σ:Sg} {q seen ids:List Nat} {H2:Heap},Inv B w0 σ H w->Ju n fb H q seen=some (H2,ids)->seen.Nodup ->
  (∀id∈seen,∃b,H[id]? = some b/\b.live=true/\(b.row=false->∀r∈D7 b.xs,r∈seen++q)) ->
  H.length<=H2.length/\(∀id∈seen++q,id∈ids)/\uQ ids H2/\∃σ',Inv B w0 σ' H2 w/\Ext σ w σ' w:=by
 intro n;induction n with
 | zero=>intro fb H σ q seen ids H2 _ h;cases h
 | succ n ih=>
  intro fb H σ q seen ids H2 hI h hnd Y;cases q with
  | nil=>
   simp only[Ju,Option.some.injEq,Prod.mk.injEq]at h;obtain⟨rfl,rfl⟩:=h;exact⟨Nat.le_refl _,by simp,⟨hnd,by simpa using Y⟩,σ,hI,Ext.refl _ _⟩
  | cons id q=>
   unfold Ju at h
   by_cases hin:seen.contains id=true
   ·rw[if_pos hin]at h;have G : id∈seen:=by simpa using hin
    obtain⟨h1,h2,h3⟩:=ih hI h hnd (fun i hi=>by
     obtain⟨b,k1,k2,k3⟩:=Y i hi;exact⟨b,k1,k2,fun hr r F=>by
      have:=k3 hr r F;simp only[List.mem_append,List.mem_cons]at this ⊢;rcases this with hx|rfl|hx
      ·exact .inl hx
      ·exact .inl G
      ·exact .inr hx⟩)
    refine⟨h1,fun i hi=>h2 i ?_,h3⟩;simp only[List.mem_append,List.mem_cons]at hi ⊢;rcases hi with hx|rfl|hx
    ·exact .inl hx
    ·exact .inl G
    ·exact .inr hx
   ·rw[if_neg hin]at h;have G : id∉seen:=by simpa using hin
    have hnd' : (seen++[id]).Nodup:=by
     rw[List.nodup_append];exact⟨hnd,by simp,fun a ha b hb=>by simp at hb;subst hb;intro e;subst e;exact G ha⟩
    have I:∀{i:Nat} {t:List Nat},i∈seen++id::q->i∈(seen++[id])++(q++t):=by
     intro i t hi;simp only[List.mem_append,List.mem_cons]at hi ⊢;rcases hi with hx|hx|hx
     ·exact .inl (.inl hx)
     ·exact .inl (.inr (.inl hx))
     ·exact .inr (.inl hx)
    split at h
    ·rename_i b fresh fb' hb;split at h
     ·rename_i hc;simp only[Bool.and_eq_true]at hc;generalize O : (if fresh then H else bump H [id])=H' at h;have hk:GG H H' /\ ∃σ',Inv B w0 σ' H' w/\Ext σ w σ' w:=by
       cases fresh with
       | true=>rw[if_pos rfl]at O;subst O;exact⟨GG.refl _,σ,hI,Ext.refl _ _⟩
       | false=>
        rw[if_neg (by simp)]at O;subst O;obtain⟨i1,i2⟩:=hI.freeze [id];exact⟨GG.bump _ _,_,i1,i2⟩
      obtain⟨hk,σ1,Q,N⟩:=hk;obtain⟨h1,h2,h3,M,h4,h5⟩:=ih Q h hnd' (fun i hi=>by
       simp only[List.mem_append,List.mem_singleton]at hi;have key:∃b0,H[i]? = some b0/\b0.live=true/\(b0.row=false->∀r∈D7 b0.xs,r∈seen++id::q):=by
        rcases hi with hi|rfl
        ·exact Y i hi
        ·exact⟨b,hb,hc.1,fun hr=>by rw[hc.2]at hr;cases hr⟩
       obtain⟨b0,k1,k2,k3⟩:=key;obtain⟨b',m1,m2,m3,m4⟩:=hk.at_ i b0 k1;refine⟨b',m1,m2.trans k2,fun hr r F=>?_⟩;rw[m4]at F;have:=I (t:=[]) (k3 (m3▸hr) r F);simpa using this)
      refine⟨Nat.le_trans hk.len h1,fun i hi=>h2 i ?_,h3,M,h4,N.trans h5⟩;have:=I (t:=[]) hi;simpa using this
     ·cases h
    ·rename_i b fl fb' hb;split at h
     ·rename_i hc;simp only[Bool.and_eq_true,Bool.not_eq_true']at hc;split at h
      ·rename_i x hx;split at h
       ·rename_i y H1 hp;split at h
        ·rename_i b1 S;split at h
         ·rename_i hoky;obtain⟨L,hL,hok⟩:=hI.boxes id b hb hc.1;obtain⟨us,r1,r2,r3,r4⟩:=hok.Dc;rw[hx]at r1;obtain⟨u,us',rfl,r5,r6⟩:=r1.Dq;obtain⟨hk,σ1,Q,N,hy⟩:=ZdO hI r5 hp;obtain⟨b1',m1,m2,m3,m4⟩:=hk.at_ id b hb;rw[S]at m1;cases m1;have A:b1.live=true:=m2.trans hc.1;have hrow1:b1.row=false:=m3.trans hc.2;have D:b1.xs=[x]:=m4.trans hx;have hsw:∃M,Inv B w0 M (H1.set id { b1 with xs:=[y] }) w/\Ext σ1 w M w:=by
           obtain⟨L1,hL1,C⟩:=Q.boxes id b1 S A;obtain⟨us1,s1,s2,s3,s4⟩:=C.Dc;rw[D]at s1;obtain⟨u1,us1',rfl,s5,s6⟩:=s1.Dq;cases s6.FI;cases r6.FI;have hu:u1.cells.toList=u.cells.toList:=by
            obtain⟨L',hL',he,hLL⟩:=N.box id L hL;rw[hL1]at hL';cases hL';have ht1:L1.tot=1:=by rw[C.tot,D];rfl
            have ht:L.tot=1:=by rw[hok.tot,hx];rfl
            have hLe:L1=L:=by
             rcases hLL with e|e
             ·exact e
             ·omega
            subst hLe;rcases r4.2 with ⟨hv,hn⟩|⟨g,cap,cur,tg,hv,_,hg,_,_,_,_,hcur⟩
            ·rw[hx]at hn;simp at hn
            ·rcases s4.2 with ⟨hv',hn'⟩|⟨g',cap',cur',tg',hv',_,hg',_,_,_,_,J⟩
             ·rw[D]at hn';simp at hn'
             ·rw[hv]at hv';simp only[Value.slice.injEq,Option.some.injEq,Addr.mk.injEq,and_true]at hv';obtain⟨rfl,_,_⟩:=hv';rw[hg]at hg';simp only[Option.some.injEq,Obj.cells.injEq]at hg';obtain⟨rfl,_⟩:=hg';rw[NI]at hcur J;rw[<- hcur,<- J,hx,D]
           obtain⟨i1,i2⟩:=Q.upd S A hL1 (grownBy_refl w _) { b1 with xs:=[y] } A L1 rfl (.inl rfl) rfl (by simp[D]) (fun g hg=>.inl hg) (fun _ _ _ _=>rfl)
            (fun ex=>⟨by rw[C.tot,D];rfl,⟨[u],hy.ext ex,fun z hz=>by simp at hz;subst hz;rw[<- s2 u1 (by simp)];exact(congrArg List.length hu).symm,fun z hz=>s3 z (by rw[NI]at hz ⊢;rw[hu];exact hz),by
             rw[NI,<- hu,<- NI];simpa[D]using s4⟩,C.EZ,C.Ap,by simpa using hoky,fun F=>by simp only at F;rw[hrow1]at F;cases F⟩)
           exact⟨_,i1,i2⟩
          obtain⟨M,hI2,hE2⟩:=hsw;have hlen1:id<H1.length:=(List.getElem?_eq_some_iff.1 S).1;obtain⟨h1,h2,h3,σ3,h4,h5⟩:=ih hI2 h hnd' (fun i hi=>by
           simp only[List.mem_append,List.mem_singleton]at hi
           by_cases hid:i=id
           ·subst hid;refine⟨{ b1 with xs:=[y] },by simp[hlen1],A,fun _ r F=>?_⟩;simp only[D7,List.append_nil]at F;simp[F]
           ·have hi' : i∈seen:=by rcases hi with hi|hi;exact hi;exact absurd hi hid
            obtain⟨b0,k1,k2,k3⟩:=Y i hi';obtain⟨b',q1,q2,q3,q4⟩:=hk.at_ i b0 k1;refine⟨b',by rw[List.getElem?_set_ne (fun e=>hid e.symm)];exact q1,q2.trans k2,fun hr r F=>?_⟩;rw[q4]at F;exact I (k3 (q3▸hr) r F))
          refine⟨Nat.le_trans hk.len (by simpa using h1),fun i hi=>h2 i (I hi),h3,σ3,h4,N.trans (hE2.trans h5)⟩
         ·cases h
        ·cases h
       ·cases h
      ·cases h
     ·cases h
    ·cases h
end
end Go.Proofs.YtjodhcdmhobmoaaGreatDoor.Le
