/- A part of it. -/
import Derived.Test.YtjodhcdmhobmoaaGreatDoorDL2
import Derived.Orders
import Derived.LoopN
import Derived.Scope
set_option linter.unusedVariables false
set_option linter.unusedSimpArgs false
namespace Go.Proofs.YtjodhcdmhobmoaaGreatDoor.Le
open Go.RowKit (Below)
def JH (P:Program) (E:Env) (B:Nat) (w0:Start) (call:Dn):Prop:=
 ∀(f:FuncId) (args:List V) (H:Heap) (x:V) (H' : Heap) (σ:Sg) (w:World) (vs:List Value),call f args H=some (x,H')->Inv B w0 σ H w->Di E σ w->AQ σ w args vs ->
  (∃fn,P.funcs[f]? = some fn/\fn.body.isNone=false/\(fn.name == "runtime.NumGoroutine")=false) /\
  Calls P f vs.toArray w fun e w' =>∃u σ',e = .returned u/\Inv B w0 σ' H' w' /\ Ext σ w σ' w' /\ AQ σ' w' [x] [u]
section
variable {P:Program} {o:Oper} {a:Act} {w:World} {next:Act->World->Prop} {Q:Exit->Act->World->Prop}
theorem Ib {s:Sem Value} {u:Value} {w' : World} (q:execOp a.eval o=(do let x <- s;pure (Next.value x))) (A:s.run P w = .ok u w') (z:next (a.put o.dst u) w'):o.wp P a w next Q:=by
 unfold Oper.wp;rw[q];simp only[Sem.run_bind,A,Result.andThen_ok,Sem.run_pure];exact z
theorem ZAB {s:Sem Unit} {w' : World} (q:execOp a.eval o=(do s;pure Next.skip)) (A:s.run P w = .ok () w') (z:next (a.put o.dst undef) w'):o.wp P a w next Q:=by
 unfold Oper.wp;rw[q];simp only[Sem.run_bind,A,Result.andThen_ok,Sem.run_pure];exact z
end
theorem Zdc {E:Env} {σ w s} {a:Act} (z:Di E σ w) (h:AQ σ w s a.tmps.toList) (q:List (Nat×Operand)) :
  Parts σ w (q.map fun(i,x)=>(i,ev E s x)) (q.map fun(i,x)=>(i,a.eval x)):=by
 induction q with
 | nil=>exact .nil
 | cons p ps A=>exact .cons (EY z h p.2) A
theorem Ux {E:Env} {σ w s} {a:Act} (q:Di E σ w) (h:AQ σ w s a.tmps.toList) (x:Option Operand):Jb σ w (x.map (ev E s)) (x.map a.eval):=by
 cases x with
 | none=>exact .none
 | some x=>exact .some (EY q h x)
theorem Z2H {B w0 σ H w} (h:Inv B w0 σ H w) {x D : V} {v:Value} (C:AQ σ w [x] [v]) (z:JL H x=some D) (ids:List Nat) (q:∀i∈O9 x,i∈ids) :
  AQ (σ.freeze H ids) w [D] [v]:=by
 unfold JL at z;split at z
 ·rename_i vs;cases C with
  | BL F _=>
   cases A:FI H vs with
   | none=>simp[A]at z
   | some G =>
    simp only[A,Option.map_some,Option.some.injEq]at z;subst z;exact .BL (nN h F A ids q) .nil
 ·refine qP h C z ids (fun i I=>q i ?_);cases x<;>simp_all [O9]
def FV (P:Program) (E:Env) (B:Nat) (w0:Start) (call:Dn) (σ:Sg) (k:Nat) (H:Heap) (w:World) (s:List V) (a:Act) (o:Oper):Prop:=
 ∀x H',BP call E k H s o=some (x,H')->∀(next:Act->World->Prop) (Q:Exit->Act->World->Prop),
  (∀u w' σ',Inv B w0 σ' H' w' -> Ext σ w σ' w' -> AQ σ' w' [x] [u]->next (a.put o.dst u) w')->o.wp P a w next Q
section
variable {E:Env} {B:Nat} {w0:Start} {σ:Sg} {H:Heap} {w:World} {P:Program} {call:Dn} {s:List V} {a:Act} {o:Oper} {k:Nat}
theorem LZ {y:Option V} {m:Sem Value} (z:Inv B w0 σ H w) (C:execOp a.eval o=(do let x <- m;pure (Next.value x))) (A:BP call E k H s o=y.map (·,H))
  (h:∀x,y=some x->∃u,m.run P w = .ok u w/\AQ σ w [x] [u]):FV P E B w0 call σ k H w s a o:=by
 intro x H' q next Q D
 rw[A]at q;cases y with
 | none=>cases q
 | some I =>
  simp only[Option.map_some,Option.some.injEq,Prod.mk.injEq]at q;obtain⟨rfl,rfl⟩:=q;obtain⟨u,G,F⟩:=h I rfl;exact Ib C G (D _ w σ z (Ext.refl σ w) F)
theorem ZaD {y:V} {u:Value} (q:Inv B w0 σ H w) (A:execOp a.eval o=pure (Next.value u)) (z:BP call E k H s o=some (y,H)) (h:AQ σ w [y] [u]):FV P E B w0 call σ k H w s a o:=
 LZ (m:=pure u) (y:=some y) q (by rw[A];rfl) z (fun x C=>⟨u,rfl,by cases C;exact h⟩)
theorem Zui (z:Inv B w0 σ H w) (A:Di E σ w) (C:AQ σ w s a.tmps.toList) {y:Operand} (q:o.op = .move y):FV P E B w0 call σ k H w s a o:=
 ZaD z (u:=a.eval y) (y:=ev E s y) (by unfold execOp;rw[q]) (by unfold BP;rw[q]) (EY A C y)
theorem Zqs (A:FO H k=true) (C:Inv B w0 σ H w) (I:Di E σ w) (M:AQ σ w s a.tmps.toList) {y:Operand} (q:o.op = .assign y):FV P E B w0 call σ k H w s a o:=by
 by_cases O:y = .const (.slice none 0 0)
 ·subst O;intro x H' z next Q J
  unfold BP at z;rw[q]at z;simp only at z;split at z
  ·rename_i e sz by' z0 N;simp only[Option.some.injEq,Prod.mk.injEq]at z;obtain⟨rfl,rfl⟩:=z;obtain⟨σ',D,F,G⟩:=NK (e:=e) (Ar:=(E.size e).getD 0) C A (grownBy_refl w none) (xs:=[]) (us:=[]) .nil (by simp) (by simp) (by simp[flat]) (VH w B e _) (by simp[Value.ownBlock]) false (by simp);unfold Oper.wp execOp;rw[q];exact J _ w σ' D F G
  ·cases z
 ·refine ZaD C (u:=a.eval y) (y:=ev E s y) (by unfold execOp;rw[q]) ?_ (EY I M y);unfold BP;rw[q];split<;>simp_all
theorem Zv1 (I:Inv B w0 σ H w) (F:Di E σ w) (G:AQ σ w s a.tmps.toList) {c y z:Operand} (C:o.op = .pick c y z):FV P E B w0 call σ k H w s a o:=by
 intro x H' A next Q J
 unfold BP at A;rw[C]at A;simp only at A;split at A
 ·rename_i t hc;simp only[Option.some.injEq,Prod.mk.injEq]at A;obtain⟨rfl,rfl⟩:=A;have q:=EY F G c;rw[hc]at q;have D:a.eval c = .bool t:=by generalize a.eval c=M at q;cases q;rfl
  unfold Oper.wp execOp;rw[C];simp only[D,asBool,Sem.run_bind,Sem.run_pure,Result.andThen_ok];refine J _ w σ I (Ext.refl σ w) ?_;cases t
  ·exact EY F G z
  ·exact EY F G y
 ·cases A
theorem Zs0 (O:Cf E) (Y:E.P=P) (D:FO H k=true) (S:Inv B w0 σ H w) {t:TypeId} (A:o.op = .alloc t):FV P E B w0 call σ k H w s a o:=by
 intro x H' q next Q hn
 unfold BP at q;rw[A]at q;simp only at q;split at q
 ·rename_i i F;split at q
  ·rename_i z hz;split at q
   ·rename_i hc;simp only[Option.some.injEq,Prod.mk.injEq]at q;obtain⟨rfl,rfl⟩:=q;obtain⟨inf,zv,hi,I,hsz,hbz,G⟩:=qY O Y F hz σ w;obtain⟨w',σ',C,J,M,N⟩:=ZbJ (P:=P) S D t G hc.2 hc.1;refine Ib (s:=Instr.alloc t true (.tuple #[])) (u:=.pointer (some ⟨w.heap.size,0,none⟩)) (w' :=w') (by unfold execOp;rw[A]) ?_ (hn _ w' σ' J M N);simp[Instr.alloc,zeroValue,typeInfo,hi,I,C]
   ·cases q
  ·cases q
 ·cases q
theorem ZxL (C:FO H k=true) (I:Inv B w0 σ H w) (J:Di E σ w) (N:AQ σ w s a.tmps.toList) {t:TypeId} {y:Operand} (z:o.op = .box t y):FV P E B w0 call σ k H w s a o:=by
 intro x H' q next Q M
 unfold BP at q;rw[z]at q;simp only at q;split at q
 ·rename_i i O;split at q
  ·rename_i hc;simp only[Option.some.injEq,Prod.mk.injEq]at q;obtain⟨rfl,rfl⟩:=q;obtain⟨w',σ',A,D,F,G⟩:=ZbJ (P:=P) I C t (EY J N y) hc.2 hc.1;refine Ib (s:=Instr.box t (a.eval y)) (u:=.pointer (some ⟨w.heap.size,0,none⟩)) (w' :=w') (by unfold execOp;rw[z]) ?_ (M _ w' σ' D F G);simp[Instr.box,A]
  ·cases q
 ·cases q
theorem Ztn (A:Cf E) (D:E.P=P) (C:Inv B w0 σ H w) (F:Di E σ w) (G:AQ σ w s a.tmps.toList) {t:TypeId} {q:Array (Nat×Operand)} (z:o.op = .build t q):FV P E B w0 call σ k H w s a o:=
 LZ (m:=Instr.build t (q.map fun(i,x)=>(i,a.eval x))) C (by unfold execOp;rw[z]) (by unfold BP;rw[z])
  (fun x I=>Zzl A D (by simpa using Zdc F G q.toList) I)
theorem Zkf (M:Cf E) (O:E.P=P) (F:FO H k=true) (N:Inv B w0 σ H w) (S:Di E σ w) (hs:AQ σ w s a.tmps.toList) {t:TypeId} {n:Nat} {q:Array (Nat×Operand)} (z:o.op = .buildSlice t n q):FV P E B w0 call σ k H w s a o:=by
 intro x H' C next Q Y
 unfold BP at C;rw[z]at C;simp only at C;obtain⟨D,A⟩:∃D:Array (Nat×Value),D=q.map (fun(i,x)=>(i,a.eval x)):=⟨_,rfl⟩;obtain⟨u,w',σ',hu,G,I,J⟩:=Zn6 (P:=P) (vparts:=D) M O N F (by rw[A];simpa using Zdc S hs q.toList) C;exact Ib (s:=Instr.buildSlice t n D) (by unfold execOp;rw[z,A]) hu (Y _ w' σ' G I J)
theorem Zuf (A:Cf E) (C:E.P=P) (z:Inv B w0 σ H w) (D:Di E σ w) (F:AQ σ w s a.tmps.toList) {t:TypeId} {y:Operand} (q:o.op = .load t y):FV P E B w0 call σ k H w s a o:=
 LZ (m:=Instr.loadAt t (a.eval y)) z (by unfold execOp;rw[q]) (by unfold BP;rw[q]) (fun x G=>ZdF A C z (EY D F y) G)
theorem Ztj (I:Cf E) (M:E.P=P) (J:Inv B w0 σ H w) (C:Di E σ w) (D:AQ σ w s a.tmps.toList) {t:TypeId} {y z:Operand} (A:o.op = .store t y z):FV P E B w0 call σ k H w s a o:=by
 intro x H' q next Q N
 unfold BP at q;rw[A]at q;simp only at q;cases hb:Lu E H t (ev E s y) (ev E s z) with
 | none=>simp[hb]at q
 | some S=>
  simp only[hb,Option.map_some,Option.some.injEq,Prod.mk.injEq]at q;obtain⟨rfl,rfl⟩:=q;obtain⟨w',σ',O,F,G⟩:=ZA8 (P:=P) I M J (EY C D y) (EY C D z) hb;exact ZAB (s:=Instr.storeAt t (a.eval y) (a.eval z)) (by unfold execOp;rw[A]) O (N _ w' σ' F G (.no .nil))
theorem Zma (G:Inv B w0 σ H w) (I:Di E σ w) (M:AQ σ w s a.tmps.toList) {y:Operand} (A:o.op = .nilCheck y):FV P E B w0 call σ k H w s a o:=by
 intro x H' z next Q J
 unfold BP at z;rw[A]at z;simp only at z;split at z
 ·rename_i q;simp only[Option.some.injEq,Prod.mk.injEq]at z;obtain⟨rfl,rfl⟩:=z;have D:=EY I M y;have C:execOp a.eval o=pure (Next.value (a.eval y)):=by
   unfold execOp;rw[A];simp only;generalize ev E s y=N at D q;generalize a.eval y=S at D;cases D with
   | GY _ _ _ _ _ _ _=>cases q
   | und _ _=>cases q
   | no _=>cases q
   | @lit v _ _ O _=>unfold TA at q;split at q<;>simp_all
   | agg _ _ _=>cases q
   | BL _ _=>cases q
   | ET _=>rfl
   | FU a _=>rfl
   | Fz _=>rfl
   | GU a _=>rfl
   | sl _ _ _ _ _ _ _ _ _ _ _ _=>rfl
   | Ce _ _ _ _ _ _ _ _ _ _=>rfl
   | Bc _ _ _ _ _=>cases q
   | ptr g _ _ _ F _=>subst F;rfl
   | CG _ _ _ _ _ _ _ _ _ _ _=>rfl
   | fn _ _ _=>rfl
   | Gx _ _=>rfl
  unfold Oper.wp;rw[C];exact J _ w σ G (Ext.refl σ w) D
 ·cases z
theorem ZqN (G:Cf E) (J:E.P=P) (I:Inv B w0 σ H w) (D:Di E σ w) (F:AQ σ w s a.tmps.toList) {op:BinOp} {t O:TypeId} {y z:Operand} (q:o.op = .binOp op t y z O):FV P E B w0 call σ k H w s a o:=
 LZ (m:=(do eqGuard op t y z (a.eval y) (a.eval z);binOp op t (a.eval y) (a.eval z))) I (by unfold execOp;rw[q]) (by unfold BP;rw[q])
  (fun x N=>by
   obtain⟨u,A,C,M⟩:=ZDv (P:=P) G J y z (EY D F y) (EY D F z) N;exact⟨u,by simp only[Sem.run_bind,A,Result.andThen_ok,C],M⟩)
theorem Zvu (z:Inv B w0 σ H w) (A:Di E σ w) (C:AQ σ w s a.tmps.toList) {op:UnOp} {t:TypeId} {y:Operand} (q:o.op = .unOp op t y):FV P E B w0 call σ k H w s a o:=
 LZ (m:=Op.unary op (a.eval y)) z (by unfold execOp;rw[q]) (by unfold BP;rw[q]) (fun x D=>un_ok (EY A C y) D)
theorem ZnP (G:Cf E) (I:E.P=P) (D:FO H k=true) (C:Inv B w0 σ H w) (J:Di E σ w) (N:AQ σ w s a.tmps.toList) {z dst:TypeId} {y:Operand} (q:o.op = .convert z dst y):FV P E B w0 call σ k H w s a o:=by
 intro x H' A next Q M
 unfold BP at A;rw[q]at A;simp only at A;split at A
 ·rename_i hb;simp only[Bool.and_eq_true]at hb;obtain⟨u,w',σ',F,S,Y,i3⟩:=Zz6 (P:=P) G I C D (EY J N y) hb.1 hb.2 A;exact Ib (s:=convert z dst (a.eval y)) (by unfold execOp;rw[q]) F (M _ w' σ' S Y i3)
 obtain⟨rfl,u,F,O⟩:=ZBL (P:=P) G I C (EY J N y) A;exact Ib (s:=convert z dst (a.eval y)) (by unfold execOp;rw[q]) F (M _ w σ C (Ext.refl σ w) O)
theorem Zln (O:Cf E) (S:E.P=P) (M:FO H k=true) (hI:Inv B w0 σ H w) (hg:Di E σ w) (hs:AQ σ w s a.tmps.toList) {t:TypeId} {l c:Operand} (G:o.op = .makeSlice t l c):FV P E B w0 call σ k H w s a o:=by
 intro x H' A next Q hn
 unfold BP at A;rw[G]at A;simp only at A;split at A
 ·rename_i e sz by' z0 kl n kc m N hl hc;split at A
  ·rename_i ei J;split at A
   ·rename_i z hz;split at A
    ·rename_i C;obtain⟨c1,c2,c3,c4,c5,c6,c7⟩:=C;simp only[Option.some.injEq,Prod.mk.injEq]at A;obtain⟨rfl,rfl⟩:=A;obtain⟨inf,d,hi,Y,q1,q2,q3,q4⟩:=FD (O.ti _ _ N);have I : P.underlying t=some (.slice e):=by rw[S]at Y;rw[Y,Ns q1]
     have F:=EY hg hs l;have D:=EY hg hs c;rw[hl]at F;rw[hc]at D;have e1:a.eval l = .int kl n:=by generalize a.eval l=q at F;cases F;rfl
     have e2:a.eval c = .int kc m:=by generalize a.eval c=q at D;cases D;rfl
     obtain⟨u,w',σ',hu,h1,h2,h3⟩:=ZAN (P:=P) (kl:=kl) (kc:=kc) O S hI M I J hz c1 c2 c3 c4 c5 c6 c7 _;exact Ib (s:=Instr.makeSlice t (a.eval l) (a.eval c)) (by unfold execOp;rw[G]) (by rw[e1,e2];exact hu) (hn _ w' σ' h1 h2 h3)
    ·cases A
   ·cases A
  ·cases A
 ·cases A
theorem Zsm (S:Cf E) (hP:E.P=P) (Y:Inv B w0 σ H w) (q:Di E σ w) (z:AQ σ w s a.tmps.toList) {t:TypeId} {y:Operand} {F C G:Option Operand} (A:o.op = .slice t y F C G):FV P E B w0 call σ k H w s a o:=by
 intro x H' D next Q hn
 unfold BP at D;rw[A]at D;simp only at D;split at D
 ·rename_i n e sz by' z0 N;obtain⟨u,σ',O,I,J,M⟩:=Zxw (P:=P) (lo' :=F.map a.eval) (hi' :=C.map a.eval) (mx' :=G.map a.eval) S hP Y N (EY q z y) (Ux q z F) (Ux q z C) (Ux q z G) D;exact Ib (s:=Instr.sliceAt t (a.eval y) (F.map a.eval) (C.map a.eval) (G.map a.eval)) (by unfold execOp;rw[A]) O (hn _ w σ' I J M)
 obtain⟨u,σ',O,I,J,M⟩:=Zzv (P:=P) S hP Y (EY q z y) (Ux q z F) (Ux q z C) (Ux q z G) D;exact Ib (s:=Instr.sliceAt t (a.eval y) (F.map a.eval) (C.map a.eval) (G.map a.eval)) (by unfold execOp;rw[A]) O (hn _ w σ' I J M)
theorem ZyJ (z:Cf E) (C:E.P=P) (A:Inv B w0 σ H w) (D:Di E σ w) (F:AQ σ w s a.tmps.toList) {t:TypeId} {y:Operand} (q:o.op = .sliceToArrayPointer t y):FV P E B w0 call σ k H w s a o:=
 LZ (m:=Instr.arrayAt t (a.eval y)) A (by unfold execOp;rw[q]) (by unfold BP;rw[q]) (fun x G=>ZCl z C (EY D F y) G)
theorem ZkW (z:Cf E) (C:E.P=P) (A:Inv B w0 σ H w) (D:Di E σ w) (F:AQ σ w s a.tmps.toList) {t:TypeId} {y:Operand} {f:Nat} (q:o.op = .fieldAddr t y f):FV P E B w0 call σ k H w s a o:=
 LZ (m:=Instr.fieldAt t (a.eval y) f) A (by unfold execOp;rw[q]) (by unfold BP;rw[q]) (fun x G=>Zqt z C (EY D F y) G)
theorem Zsc (z:Cf E) (C:E.P=P) (A:Inv B w0 σ H w) (D:Di E σ w) (F:AQ σ w s a.tmps.toList) {t:TypeId} {y:Operand} {f:Nat} (q:o.op = .field t y f):FV P E B w0 call σ k H w s a o:=
 LZ (m:=Instr.field t (a.eval y) f) A (by unfold execOp;rw[q]) (by unfold BP;rw[q]) (fun x G=>Zz4 z C (EY D F y) G)
theorem Zli (D:Cf E) (F:E.P=P) (z:Inv B w0 σ H w) (A:Di E σ w) (C:AQ σ w s a.tmps.toList) {t:TypeId} {y i:Operand} (q:o.op = .indexAddr t y i):FV P E B w0 call σ k H w s a o:=
 LZ (m:=Instr.indexAt t (a.eval y) (a.eval i)) z (by unfold execOp;rw[q]) (by unfold BP;rw[q]) (fun x G=>Zqo D F z (EY A C y) (EY A C i) G)
theorem Zto (C:Cf E) (F:E.P=P) (D:Inv B w0 σ H w) (z:Di E σ w) (A:AQ σ w s a.tmps.toList) {t:TypeId} {y i:Operand} (q:o.op = .index t y i):FV P E B w0 call σ k H w s a o:=
 LZ (m:=Instr.index t (a.eval y) (a.eval i)) D (by unfold execOp;rw[q]) (by unfold BP;rw[q]) (fun x G=>Zzx C F (EY z A y) (EY z A i) G)
theorem Zbw {σ:Sg} {w:World} {kd:IntKind} {n:Int}:∀(l:List MapEntry) (kvs:List V) (i:Nat),AQ σ w kvs (l.flatMap fun e=>[e.key,e.val]) ->
  (MG kd n kvs=some none->Instr.findNow (.int kd) (.int kd n) l i=some none)/\(∀v,MG kd n kvs=some (some v)->∃j u,Instr.findNow (.int kd) (.int kd n) l i=some (some (j,u))/\AQ σ w [v] [u])
 | [],kvs,i,h=>by
  cases h;exact⟨fun _=>rfl,fun v C=>by cases C⟩
 | e::l,kvs,i,h=>by
  have G : AQ σ w kvs (e.key::e.val::l.flatMap fun e=>[e.key,e.val]):=h;cases kvs with
  | nil=>cases G
  | cons x kvs=>
   obtain⟨I,J⟩:=AQ.FC.1 G;cases kvs with
   | nil=>cases J
   | cons y kvs=>
    obtain⟨M,N⟩:=AQ.FC.1 J;have S:=Zbw (kd:=kd) (n:=n) l kvs (i+1) N;generalize Q:e.key=key at I;have no:(∀k a,x≠.lit (.int k a))->MG kd n (x::y::kvs)=none:=fun D=>by
     unfold MG;split
     ·rename_i q;cases q
     ·rename_i q;simp only[List.cons.injEq]at q;exact absurd q.1 (D _ _)
     ·rfl
    by_cases D:∃k a,x = .lit (.int k a)
    ·obtain⟨k,a,rfl⟩:=D;cases I with
     | lit _ _=>
      unfold MG
      by_cases A:k=kd
      ·subst A;simp only[if_true];unfold Instr.findNow;rw[Q];simp only[Instr.sameNow,if_true]
       by_cases F:n=a
       ·subst F;simp only[if_true,beq_self_eq_true];exact⟨fun z=>by simp at z,fun v C=>by simp only[Option.some.injEq]at C;subst C;exact⟨i,e.val,rfl,M⟩⟩
       ·rw[if_neg F];have:(n==a)=false:=by simpa using F
        simp only[this];exact S
      ·rw[if_neg A];exact⟨fun z=>(by cases z),fun v z=>(by cases z)⟩
    ·rw[no (fun k a O=>D ⟨k,a,O⟩)];exact⟨fun z=>(by cases z),fun v z=>(by cases z)⟩
theorem Zxo (Q:Cf E) (S:E.P=P) {t:TypeId} {ok:Bool} {m x r:V} {mv xv:Value} (hm:AQ σ w [m] [mv]) (hx:AQ σ w [x] [xv]) (h:V7 E t ok m x=some r) :
  ∃v,(Instr.lookup t mv xv ok).run P w = .ok v w/\AQ σ w [r] [v]:=by
 unfold V7 at h;split at h
 ·rename_i k e sz by' z0 kvs kd n hti;obtain⟨inf,d,hi,hd,q1,q2,q3,q4⟩:=FD (Q.ti _ _ hti);have F : P.underlying t=some (.map k e):=by
   rw[S]at hd;rw[hd];cases d<;>simp[Kr]at q1;exact congrArg some (by rw[q1.1,q1.2])
  split at h
  ·rename_i hkd;have hk:P.underlying k=some (.int kd):=by rw[<- S];exact Q.kind _ _ hkd
   cases hm with
   | GY g es c h0 hg hus _=>
    subst hus;cases hx with
    | lit _ _=>
     obtain⟨f1,f2⟩:=Zbw (kd:=kd) (n:=n) es.toList kvs 0 h0;have D:(Instr.checkKey es.isEmpty 10000 k (.int kd n)).run P w = .ok () w:=MapKept.run_checkKey (k:=.int kd n) hk (by simp[MapKept.IsKey]) es.isEmpty 9999;have G:∀q,Instr.findNow (.int kd) (.int kd n) es.toList 0=some q->(Instr.findKey k (.int kd n) es.toList).run P w = .ok q w:=fun q hq=>by simp[Instr.findKey,run_underlying hk,hq]
     split at h
     ·rename_i v hv;obtain⟨j,u,O,C⟩:=f2 v hv;simp only[Option.some.injEq]at h;subst h;refine⟨if ok then .tuple #[u,.bool true] else u,by simp[Instr.lookup,run_underlying F,MapKept.run_getObj_map hg,D,G _ O,Result.andThen],?_⟩;cases ok with
      | true=>exact .BL (AQ.FC.2 ⟨C,.lit rfl .nil⟩) .nil
      | false=>exact C
     ·rename_i hv;have O:=f1 hv;split at h
      ·rename_i ei Y;obtain⟨J,de,I,hde,e1,e2,e3,M⟩:=FD (Q.ti _ _ Y);cases hz:ei.zero with
       | none=>simp[hz]at h
       | some z=>
        simp only[hz,Option.map_some,Option.some.injEq]at h;subst h;rw[hz]at M;cases A:J.zero with
        | none=>simp[A]at M
        | some N=>
         simp only[A,Option.map_some,Option.some.injEq]at M;have hzr:(zeroValue e).run P w = .ok N w:=by rw[S]at I;simp[zeroValue,typeInfo,I,A]
         have C:=Xp σ w N;rw[<- M]at C;refine⟨if ok then .tuple #[N,.bool false] else N,by simp[Instr.lookup,run_underlying F,MapKept.run_getObj_map hg,D,G _ O,hzr,Result.andThen],?_⟩;cases ok with
         | true=>exact .BL (AQ.FC.2 ⟨C,.lit rfl .nil⟩) .nil
         | false=>exact C
      ·cases h
     ·cases h
  ·cases h
 ·cases h
theorem ZpK (C:Cf E) (F:E.P=P) (D:Inv B w0 σ H w) (z:Di E σ w) (A:AQ σ w s a.tmps.toList) {t:TypeId} {y i:Operand} {ok:Bool} (q:o.op = .lookup t y i ok):FV P E B w0 call σ k H w s a o:=
 LZ (m:=Instr.lookup t (a.eval y) (a.eval i) ok) D (by unfold execOp;rw[q]) (by unfold BP;rw[q]) (fun x G=>Zxo C F (EY z A y) (EY z A i) G)
theorem ZnF (I:Inv B w0 σ H w) (J:Di E σ w) (O:AQ σ w s a.tmps.toList) {y:Operand} {i:Nat} (A:o.op = .extract y i):FV P E B w0 call σ k H w s a o:=by
 intro x H' z next Q M
 unfold BP at z;rw[A]at z;simp only at z;split at z
 ·rename_i vs Y;cases hb:vs[i]? with
  | none=>simp[hb]at z
  | some r=>
   simp only[hb,Option.map_some,Option.some.injEq,Prod.mk.injEq]at z;obtain⟨rfl,rfl⟩:=z;have C:=EY J O y;rw[Y]at C;have:∃ws,a.eval y = .tuple ws.toArray/\AQ σ w vs ws:=by
    generalize a.eval y=q at C;cases C with
    | BL G _=>exact⟨_,rfl,G⟩
   obtain⟨ws,D,F⟩:=this;obtain⟨u,S,N⟩:=F.get hb;exact Ib (s:=Instr.extract (a.eval y) i) (by unfold execOp;rw[A]) (by rw[D];simp[Instr.extract,S]) (M _ w σ I (Ext.refl σ w) N)
 ·cases z
theorem ZmA (F:Inv B w0 σ H w) (z:Di E σ w) (A:AQ σ w s a.tmps.toList) {f:FuncId} {first caps:Array Operand} (q:o.op = .makeFunc (.func f) first caps):FV P E B w0 call σ k H w s a o:=
 LZ (m:=Instr.makeFunc (.func f) (first.map a.eval) (caps.map a.eval)) (y:=some (.fn f (evs E s first) (evs E s caps))) F (by unfold execOp;rw[q]) (by unfold BP;rw[q];rfl)
  (fun x G=>by
   cases G;refine⟨.func (.func f) (first.map a.eval) (caps.map a.eval),rfl,?_⟩;have C:(first.toList.map a.eval).toArray=first.map a.eval:=by rw[<- Array.toList_map]
   have D:(caps.toList.map a.eval).toArray=caps.map a.eval:=by rw[<- Array.toList_map]
   rw[<- C,<- D];exact AQ.fn (f:=f) (qZ (a:=a) z A first.toList) (qZ (a:=a) z A caps.toList) (xs:=[]) (vs:=[]) .nil)
theorem Zpn {P:Program} {f:FuncId} {fn:Func} (h:P.funcs[f]? = some fn) (q:(fn.name == "runtime.NumGoroutine")=false) (hb:fn.body.isNone=false) (args:Array Value) (w:World) :
  (callFunc f args).run P w = .ok (.enter f args) w:=by
 unfold callFunc;rw[Sem.run_bind];have z:(Go.program).run P w = .ok P w:=rfl;rw[z];simp only[Result.andThen_ok,h,q,hb,Bool.false_eq_true,if_false];rfl
theorem ZkX (C:JH P E B w0 call) (hI:Inv B w0 σ H w) (S:Di E σ w) (hs:AQ σ w s a.tmps.toList) {c:Call} {f:Operand} (G:o.op = .call c) (hc:c.callee = .value f):FV P E B w0 call σ k H w s a o:=by
 intro x H' F next Q hn
 unfold BP at F;rw[G]at F;simp only[hc]at F;split at F
 ·rename_i g first caps hf
  have Y:=EY S hs f;rw[hf]at Y;have:∃us ws,a.eval f = .func (.func g) us.toArray ws.toArray/\AQ σ w first us/\AQ σ w caps ws:=by
   generalize a.eval f=q at Y;cases Y with
   | fn J M _=>exact⟨_,_,rfl,J,M⟩
  obtain⟨us,ws,e1,r1,r2⟩:=this;have r3:=qZ (a:=a) S hs c.args.toList;obtain⟨⟨fn,O,A,D⟩,z⟩:=C g _ H x H' σ w _ F hI S ((r1.append r3).append r2);have I:(execOp a.eval o).run P w = .ok (.enter g (us++c.args.toList.map a.eval++ws).toArray) w:=by
   have N:us.toArray++c.args.map a.eval++ws.toArray=(us++c.args.toList.map a.eval++ws).toArray:=by
    rw[<- Array.toList_map];simp
   have he:execOp a.eval o=callFunc g (us.toArray++c.args.map a.eval++ws.toArray):=by
    unfold execOp;rw[G];simp[resolve,hc,e1,Deferred.ofValue,invoke]
   rw[he,N];exact Zpn O D A _ w
  unfold Oper.wp;rw[I,Oper.upon_enter];refine z.mono ?_
  rintro e w' ⟨u,σ',rfl,J,M,h3⟩
  exact hn _ w' σ' J M h3
 ·cases F
theorem Zx1 (h:Inv B w0 σ H w) {x:V} {v:Value} {n:Nat} (A:AQ σ w [x] [v]) (q:lenOf H x=some n):n<=maxLen:=by
 unfold lenOf at q;split at q
 ·simp only[Option.some.injEq]at q;subst q;cases A with
  | ET _=>exact Nat.zero_le _
  | FU a _=>exact Nat.zero_le _
  | sl b o c e k0 k1 k2 k3 k4 k5 k6 k7=>exact Nat.le_trans k4 k5
 ·simp only[Option.some.injEq]at q;subst q;cases A with
  | Fz _=>exact Nat.zero_le _
  | GU a _=>exact Nat.zero_le _
  | Ce b o e k0 k1 k2 k3 k4 k5 k6=>exact k4
 ·rename_i id off len tot;split at q
  ·rename_i b hb;simp only[Option.some.injEq]at q;subst q;obtain⟨L,us,m,O,M,S,z⟩:=OA h A hb;rcases z with ⟨N,D,Q,q,Y⟩|⟨g,cap,k,N,D,I,J,F,G⟩
   ·omega
   ·omega
  ·cases q
 ·rename_i s;simp only[Option.some.injEq]at q;subst q;cases A with
  | lit C _=>simpa[leaf]using C
 ·cases q
theorem ZcZ (q:Bool) {b:Builtin} (J:Inv B w0 σ H w) {c:Call} (D:o.op = .call c) (hc:c.callee = .builtin b) {xs:List V} {vs:List Value} (Y:AQ σ w xs vs) (A:c.args.map a.eval=vs.toArray)
  (hb:b=if q then .max else .min) {x:V} {H' : Heap} (hm:(P6 q xs).map (·,H)=some (x,H')) {next:Act->World->Prop} {Q:Exit->Act->World->Prop}
  (M:∀u w' σ',Inv B w0 σ' H' w' -> Ext σ w σ' w' -> AQ σ' w' [x] [u]->next (a.put o.dst u) w'):o.wp P a w next Q:=by
 cases z : P6 q xs with
 | none=>simp[z]at hm
 | some y=>
  simp only[z,Option.map_some,Option.some.injEq,Prod.mk.injEq]at hm;obtain⟨rfl,rfl⟩:=hm;unfold P6 at z;split at z
  ·rename_i k n N;obtain⟨v,G,rfl,O,S⟩:=Y.Dw;have C:leaf (.int k n)=true/\v = .int k n:=by cases O with|lit l _=>exact⟨l,rfl⟩
   obtain⟨C,rfl⟩:=C;obtain⟨u,I,F⟩:=Z4k (P:=P) q S C z;cases q
   ·simp only[Bool.false_eq_true,if_false]at hb I;subst hb;exact Ib (s:=Builtin.min_ c.argTypes o.type (Value.int k n::G).toArray) (by unfold execOp;rw[D];simp only[resolve,hc,A];rfl) (by simpa[Builtin.min_]using I) (M _ w σ J (Ext.refl σ w) F)
   ·simp only[if_true]at hb I;subst hb;exact Ib (s:=Builtin.max_ c.argTypes o.type (Value.int k n::G).toArray) (by unfold execOp;rw[D];simp only[resolve,hc,A];rfl) (by simpa[Builtin.max_]using I) (M _ w σ J (Ext.refl σ w) F)
  ·cases z
theorem Zjl (hE:Cf E) (hP:E.P=P) (hk0:FO H k=true) (F:Inv B w0 σ H w) (hg:Di E σ w) (hs:AQ σ w s a.tmps.toList) {c:Call} {b:Builtin} (D:o.op = .call c) (hc:c.callee = .builtin b):FV P E B w0 call σ k H w s a o:=by
 intro x H' z next Q O
 unfold BP at z;rw[D]at z;simp only[hc]at z;have J:=qZ (a:=a) hg hs c.args.toList;have q:c.args.map a.eval=(c.args.toList.map a.eval).toArray:=by rw[<- Array.toList_map]
 unfold evs at z;generalize c.args.toList.map (ev E s)=xs at z J;generalize hvs:c.args.toList.map a.eval=vs at J q;generalize S:c.argTypes.toList=tys at z;have C : c.argTypes=tys.toArray:=by rw[<- S]
 unfold PI at z;split at z
 ·rename_i x0 t;obtain⟨v,Y,rfl,I,M⟩:=J.Dw;cases M.FH;split at z
  ·rename_i A;cases N:lenOf H x0 with
   | none=>simp[N]at z
   | some n=>
    simp only[N]at z;cases z;have G:(Builtin.len_ #[t] o.type #[v]).run P w = .ok (.int .i64 n) w:=by
     unfold rP at A;split at A
     ·rename_i st;have:=hE.isStr _ A;rw[hP]at this;exact Zec F I N this (.inr rfl) ⟨fun⟨e,he⟩=>(by cases he),fun hh=>absurd rfl (hh st)⟩
     ·rename_i hne;split at A
      ·rename_i e sz by' z0 hti;obtain⟨inf,d,hi,hd,q1,q2,q3,q4⟩:=FD (hE.ti _ _ hti);rw[hP]at hd;exact Zec F I N hd (.inl ⟨e,Ns q1⟩) ⟨fun _=>hne,fun _=>⟨e,Ns q1⟩⟩
      ·cases A
    have hbd:=G;have hlf:leaf (.int .i64 (n:Int))=true:=by
     have:=Zx1 F I N;have:(Lit.int .i64 (n:Int)).wf=true:=by
      simp[Lit.wf,IntKind.min,IntKind.max,IntKind.signed,IntKind.bits,maxLen]at this ⊢;omega
     simpa[leaf]using this
    exact Ib (s:=Builtin.len_ #[t] o.type #[v]) (by unfold execOp;rw[D];simp only[resolve,hc,q,C];rfl) G (O _ w σ F (Ext.refl σ w) (.lit hlf .nil))
  ·cases z
 ·rename_i s0 x0 t u;obtain⟨v,Y,rfl,I,M⟩:=J.Dw;obtain⟨v2,vs2,rfl,h3,h4⟩:=M.Dw;cases h4.FH;obtain⟨u',w',σ',hu,i1,i2,i3⟩:=Zxt (P:=P) hE hP F hk0 o.type I h3 z;exact Ib (s:=Builtin.append_ #[t,u] o.type #[v,v2]) (by unfold execOp;rw[D];simp only[resolve,hc,q,C];rfl) hu (O _ w' σ' i1 i2 i3)
 ·rename_i d0 x0 t u;obtain⟨v,Y,rfl,I,M⟩:=J.Dw;obtain⟨v2,vs2,rfl,h3,h4⟩:=M.Dw;cases h4.FH;obtain⟨u',w',σ',hu,i1,i2,i3⟩:=ZBq (P:=P) hE hP F o.type I h3 z;exact Ib (s:=Builtin.copy_ #[t,u] o.type #[v,v2]) (by unfold execOp;rw[D];simp only[resolve,hc,q,C];rfl) hu (O _ w' σ' i1 i2 i3)
 ·rename_i tys0;exact ZcZ false F D hc J q rfl (by simpa using z) O
 ·exact ZcZ true F D hc J q rfl (by simpa using z) O
 ·cases z
end
theorem Zzi {E B w0 σ H w} {P:Program} (F:Cf E) (G:E.P=P) {call:Dn} (M:JH P E B w0 call) (A:Inv B w0 σ H w) (C:Di E σ w) {k:Nat} (I:FO H k=true) {s:List V} {a:Act} (D:AQ σ w s a.tmps.toList)
  (o:Oper):FV P E B w0 call σ k H w s a o:=by
 cases q:o.op with
 | move y=>exact Zui A C D q
 | assign y=>exact Zqs I A C D q
 | pick c y z=>exact Zv1 A C D q
 | alloc t=>exact Zs0 F G I A q
 | box t y=>exact ZxL I A C D q
 | build t N=>exact Ztn F G A C D q
 | buildSlice t n N=>exact Zkf F G I A C D q
 | load t y=>exact Zuf F G A C D q
 | store t y z=>exact Ztj F G A C D q
 | nilCheck y=>exact Zma A C D q
 | binOp op t y z yt=>exact ZqN F G A C D q
 | unOp op t y=>exact Zvu A C D q
 | convert O dst y=>exact ZnP F G I A C D q
 | makeSlice t l c=>exact Zln F G I A C D q
 | slice t y S Q Y=>exact Zsm F G A C D q
 | sliceToArrayPointer t y=>exact ZyJ F G A C D q
 | fieldAddr t y f=>exact ZkW F G A C D q
 | field t y f=>exact Zsc F G A C D q
 | indexAddr t y i=>exact Zli F G A C D q
 | index t y i=>exact Zto F G A C D q
 | extract y i=>exact ZnF A C D q
 | lookup t y i ok=>exact ZpK F G A C D q
 | makeFunc fn first caps=>
  cases fn with
  | func f=>exact ZmA A C D q
  | _=>intro x H' J;unfold BP at J;rw[q]at J;cases J
 | call c=>
  cases hc:c.callee with
  | value f=>exact ZkX M A C D q hc
  | builtin b=>exact Zjl F G I A C D q hc
  | _=>intro x H' J;unfold BP at J;rw[q]at J;simp only[hc]at J;cases J
 | _=>intro x H' J;unfold BP at J;rw[q]at J;cases J
end Go.Proofs.YtjodhcdmhobmoaaGreatDoor.Le
namespace Go.Proofs.YtjodhcdmhobmoaaGreatDoor.Le
open Go.RowKit (Below)
structure Ew (E:Env) (B:Nat) (w0:Start) (σ:Sg) (st:St) (a:Act) (w:World):Prop where
 inv:Inv B w0 σ st.H w
 Ef:Di E σ w
 slots:AQ σ w st.s a.tmps.toList
 calm:a.defers=[]
theorem qH {σ w s x u} {a:Act} (h:AQ σ w s a.tmps.toList) (q:AQ σ w [x] [u]) (d:Option Tmp):AQ σ w (setSlot s d x) (a.put d u).tmps.toList:=by
 cases d with
 | none=>exact h
 | some d=>
  simp only[setSlot,Act.put,Array.toList_setIfInBounds];exact h.set d q
theorem qX {a:Act} (h:a.defers=[]) (d:Option Tmp) (u:Value):(a.put d u).defers=[]:=by
 cases d<;>exact h
theorem Zz5 {σ w s} {a:Act} {ops:Array Oper} (h:AQ σ w s a.tmps.toList) {j d:Nat} {z r:Bool} (J:(ops[j]?).bind (·.dst)=some d) (A:OM (s.getD d .und) z=some r) :
  (yielded ops a.tmps j==some z)=r:=by
 unfold yielded;rw[J];have q:∀x,s.getD d .und=x->x≠.und->∃v,a.tmps[d]? = some v/\AQ σ w [x] [v]:=by
  intro x F G;cases I:s[d]? with
  | none=>simp[List.getD,I]at F;exact absurd F.symm G
  | some y=>
   simp[List.getD,I]at F;subst F;obtain⟨v,D,C⟩:=h.get I;exact⟨v,by simpa using D,C⟩
 unfold OM at A;split at A
 ·rename_i b hb;obtain⟨v,D,C⟩:=q _ hb (by simp);simp only[Option.some.injEq]at A;have:v = .bool b:=by cases C;rfl
  subst this;simp only[Option.bind_some,D];rw[<- A];cases b<;>cases z<;>rfl
 ·rename_i hb;obtain⟨v,D,C⟩:=q _ hb (by simp);simp only[Option.some.injEq]at A;have:v=undef:=by cases C;rfl
  subst this;simp only[Option.bind_some,D];rw[<- A];rfl
 ·cases A
section
variable {E:Env} {B:Nat} {w0:Start} {σ:Sg} {P:Program} {call:Dn} {ops:Array Oper} {st st' : St} {a:Act} {w:World}
theorem Zck (hE:Cf E) (hP:E.P=P) (C:JH P E B w0 call) {k i:Nat} (hk:FO st.H k=true) (h:Ew E B w0 σ st a w) (A:Je call E ops k i st=some st')
  {K:Act->World->Prop} {Q:Exit->Act->World->Prop} (O:∀S w' σ',Ew E B w0 σ' st' S w' -> Ext σ w σ' w' -> K S w'):wpOp P ops Q i K a w:=by
 unfold Je at A;unfold wpOp;cases Y:ops[i]? with
 | none=>
  simp only[Y,Option.some.injEq]at A ⊢;subst A;exact O a w σ h (Ext.refl σ w)
 | some o=>
  simp only[Y]at A ⊢;have G:∀x H',BP call E k st.H st.s o=some (x,H')->st' = ⟨setSlot st.s o.dst x,H'⟩->o.wp P a w K Q:=by
   intro x H' hx z;refine Zzi hE hP C h.inv h.Ef hk h.slots o x H' hx K Q (fun u w' σ' h1 J h3=>O _ w' σ' ⟨?_,h.Ef.ext J,?_,qX h.calm _ _⟩ J)
   ·rw[z];exact h1
   ·rw[z];exact qH (h.slots.ext J) h3 o.dst
  have D:st' = ⟨setSlot st.s o.dst EH,st.H⟩->K (a.put o.dst undef) w:=by
   intro z;refine O _ w σ ⟨by rw[z];exact h.inv,h.Ef,?_,qX h.calm _ _⟩ (Ext.refl σ w);rw[z];exact qH h.slots (.no .nil) o.dst
  cases q:F6 call E ops k o st with
  | none=>simp[q]at A
  | some r=>
   obtain⟨v,H'⟩:=r;simp only[q,Option.some.injEq]at A;unfold F6 at q;unfold Region.wanted;cases F:o.guard with
   | none=>
    simp only[F]at q ⊢;exact .inl (G v H' q A.symm)
   | some jw=>
    obtain⟨j,I⟩:=jw;simp only[F]at q ⊢;cases M:(ops[j]?).bind (·.dst) with
    | none=>simp[M]at q
    | some d=>
     simp only[M]at q;cases N:OM (st.s.getD d .und) I with
     | none=>rw[N]at q;cases q
     | some r=>
      rw[N]at q;simp only[Zz5 h.slots M N];cases r with
      | false=>
       simp only[Option.some.injEq,Prod.mk.injEq]at q;obtain⟨rfl,rfl⟩:=q;simp only[Bool.false_eq_true,if_false];exact D A.symm
      | true=>
       simp only at q;simp only[if_true];exact .inl (G v H' q A.symm)
theorem ZdP (S:Cf E) (Y:E.P=P) (q:JH P E B w0 call):∀(C:List Nat) (st:St) (σ:Sg) (a:Act) (w:World),Ew E B w0 σ st a w->MN call E ops C st=some st' ->
  ∀{Q:Exit->Act->World->Prop},(∀A w' σ',Ew E B w0 σ' st' A w' -> Ext σ w σ' w' -> Q .normal A w')->wpOps P ops Q C a w:=by
 intro C;induction C with
 | nil=>
  intro st σ a w h z Q G;simp only[MN,Option.some.injEq]at z;subst z;exact G a w σ h (Ext.refl σ w)
 | cons i N ih=>
  intro st σ a w h z Q G;simp only[MN]at z;cases D:stepD call E ops i st with
  | none=>simp[D]at z
  | some J=>
   simp only[D]at z;rw[wpOps_cons];exact Zck S Y q (cO st.H) h D (fun O w1 M I F=>ih J M O w1 I z (fun A w' σ' hr he=>G A w' σ' hr (F.trans he)))
end
end Go.Proofs.YtjodhcdmhobmoaaGreatDoor.Le
namespace Go.Proofs.YtjodhcdmhobmoaaGreatDoor.Le
open Go.RowKit (Below)
theorem getD_set_ne' {s:List V} {d t:Nat} (h:d≠t) (v u:V):(s.set d v).getD t u=s.getD t u:=by
 simp[List.getD,List.getElem?_set_ne h]
theorem tX {E:Env} {s:List V} {d:Option Tmp} {v:V} (x:Operand) (h:∀q,d=some q -> x≠.tmp q):ev E (setSlot s d v) x=ev E s x:=by
 cases d with
 | none=>rfl
 | some d=>
  cases x with
  | tmp t=>exact getD_set_ne' (fun e=>h d rfl (by rw[e])) v .und
  | _=>rfl
theorem Z14 {E:Env} {s q : List V} (xs:List Operand) (h:∀x∈xs,ev E s x=ev E q x):xs.map (ev E s)=xs.map (ev E q):=List.map_congr_left h
theorem Zan {E:Env} {s q : List V} (ps:Array (Nat×Operand)) (h:∀x∈(ps.toList.map (·.2)).toArray,ev E s x=ev E q x) :
  (ps.toList.map fun(i,x)=>(i,ev E s x))=(ps.toList.map fun(i,x)=>(i,ev E q x)):=List.map_congr_left fun p z=>by
 obtain⟨i,x⟩:=p;simp only[h x (by simpa using ⟨i,by simpa using z⟩)]
theorem ZxC {call:Dn} {E:Env} {k:Nat} {H:Heap} {s z : List V} {o:Oper} (h:∀x∈o.op.operands,ev E s x=ev E z x):BP call E k H s o=BP call E k H z o:=by
 obtain⟨dst,op,type,pos,after,guard⟩:=o;simp only at h;cases op<;>simp only[Op.operands]at h<;>simp only[BP]
 case assign x=>
  have q:ev E s x=ev E z x:=h x (by simp);split<;>simp_all
 case build t ps=>rw[Zan ps h]
 case buildSlice t n ps=>rw[Zan ps h]
 case makeFunc fn first captured=>
  have A:evs E s first=evs E z first:=Z14 _ fun x q=>h x (by simp at q;simp[q])
  have G:evs E s captured=evs E z captured:=Z14 _ fun x q=>h x (by simp at q;simp[q]);cases fn<;>simp only[A,G]
 case call c=>
  have A:evs E s c.args=evs E z c.args:=Z14 _ fun x q=>h x (by simp at q;simp[Call.operands,q]);rw[A];cases hc:c.callee with
  | value f=>have I:ev E s f=ev E z f:=h f (by simp[Call.operands,hc]);simp only[I]
  | builtin b=>cases b<;>rfl
  | invoke r n=>rfl
 case slice t x lo hi mx=>
  have q:ev E s x=ev E z x:=h x (by simp);have D:lo.map (ev E s)=lo.map (ev E z):=by cases lo<;>simp_all
  have C:hi.map (ev E s)=hi.map (ev E z):=by cases hi<;>simp_all
  have F:mx.map (ev E s)=mx.map (ev E z):=by cases mx<;>simp_all
  rw[q,D,C,F]
 all_goals (first|rfl|(simp_all;done))
theorem rF {ops:Array Oper} {o:Oper} {d:Tmp} (h:d∉o.looksAt ops):∀x∈o.op.operands,x≠.tmp d:=fun x q e=>h (by
 subst e;exact List.mem_append_left _ (List.mem_filterMap.2 ⟨.tmp d,by simpa using q,rfl⟩))
theorem Zdu {call:Dn} {E:Env} {k:Nat} {H:Heap} {s:List V} {o:Oper} {ops:Array Oper} {d:Option Tmp} {v:V} (h:∀q,d=some q -> q ∉o.looksAt ops) :
  BP call E k H (setSlot s d v) o=BP call E k H s o:=
 ZxC fun x A=>tX x fun q z=>rF (h q z) x A
theorem Z2V {E:Env} {s:List V} {o:Oper} {ops:Array Oper} {d:Option Tmp} {v:V} (h:∀q,d=some q -> q ∉o.looksAt ops):ED E (setSlot s d v) o=ED E s o:=by
 unfold ED;rw[<- List.flatMap_map,<- List.flatMap_map (f:=ev E s)];congr 1;exact List.map_congr_left fun x A=>tX x fun q z=>rF (h q z) x (by simpa using A)
theorem Zal {E:Env} {s:List V} {o:Oper} {ops:Array Oper} {d:Option Tmp} {v:V} (h:∀z,d=some z -> z ∉o.looksAt ops):quietAt E (setSlot s d v) o=quietAt E s o:=by
 unfold quietAt;cases A:o.op with
 | call c=>
  simp only;cases q:c.callee with
  | value f=>
   cases f with
   | tmp t=>
    have D:Operand.tmp t∈o.op.operands:=by simp[A,Op.operands,Call.operands,q]
    have:=tX (E:=E) (s:=s) (v:=v) (.tmp t) fun z C=>rF (h z C) _ D;simp only[show (setSlot s d v).getD t .und=s.getD t .und from this]
   | _=>rfl
  | _=>rfl
 | _=>rfl
theorem Zd5 {call:Dn} {E:Env} {k:Nat} {H:Heap} {s:List V} {o:Oper} {ops:Array Oper} {d:Option Tmp} {v:V} (h:∀q,d=some q -> q ∉o.looksAt ops) :
  F6 call E ops k o ⟨setSlot s d v,H⟩=F6 call E ops k o ⟨s,H⟩:=by
 unfold F6;cases F:o.guard with
 | none=>exact Zdu h
 | some G=>
  obtain⟨j,C⟩:=G;simp only;cases D:(ops[j]?).bind (·.dst) with
  | none=>rfl
  | some g=>
   have A:∀q,d=some q -> q ≠g:=fun q z e=>h q z (by
    subst e;exact List.mem_append_right _ (by simp[F,D]))
   have:(setSlot s d v).getD g .und=s.getD g .und:=by
    cases d with
    | none=>rfl
    | some d=>exact getD_set_ne' (A d rfl) v .und
   simp only[this];rw[Zdu h]
def Box.low (b:Box):Box:={ b with floor:=0 }
def DW (R:List Nat) (H H' : Heap):Prop:=∀id∈R,(H[id]?).map Box.low=(H'[id]?).map Box.low
theorem PE {H H' : Heap} {id tot:Nat} {b:Box} (h:(H[id]?).map Box.low=(H'[id]?).map Box.low) (hb:DZ H id tot=some b):∃q,DZ H' id tot=some q /\ q.low=b.low:=by
 unfold DZ at *;cases z:H[id]? with
 | none=>simp[z]at hb
 | some b0=>
  simp only[z]at hb h;cases A:H'[id]? with
  | none=>simp[A]at h
  | some b1=>
   simp only[A,Option.map_some,Option.some.injEq]at h;split at hb
   ·rename_i hc;simp only[Option.some.injEq]at hb;subst hb;refine⟨b1,?_,h.symm⟩;have C:b1.live=b0.live:=(congrArg Box.live h).symm;have D:b1.xs=b0.xs:=(congrArg Box.xs h).symm;simp only[C,D,hc,if_true]
   ·cases hb
theorem SQ {b q : Box} (h:q.low=b.low):q.row=b.row/\q.EZ=b.EZ/\q.elem=b.elem/\q.Ar=b.Ar/\q.xs=b.xs:=
 ⟨congrArg (·.row) h,congrArg (·.EZ) h,congrArg (·.elem) h,congrArg (·.Ar) h,congrArg (·.xs) h⟩
theorem SA {H H' : Heap} {id tot:Nat} (h:(H[id]?).map Box.low=(H'[id]?).map Box.low) (hb:DZ H id tot=none):DZ H' id tot=none:=by
 cases q : DZ H' id tot with
 | none=>rfl
 | some b=>
  obtain⟨A,z,_⟩:=PE h.symm q;rw[hb]at z;cases z
section
variable {H H' : Heap}
theorem Z35 {x:V} (h:DW (EE x) H H'):Hu H' x=Hu H x:=by
 unfold Hu;split<;>try rfl
 rename_i id off len tot;cases hb:DZ H id tot with
 | none=>rw[SA (h id (by simp[EE])) hb]
 | some b=>
  obtain⟨F,C,D⟩:=PE (h id (by simp[EE])) hb;obtain⟨q,G,I,z,A⟩:=SQ D;simp only[C,q,z,A]
theorem ZAt {xs:List V} (h:DW (xs.flatMap EE) H H'):JB H' xs=JB H xs:=by
 induction xs with
 | nil=>rfl
 | cons x xs z=>
  simp only[JB];rw[Z35 (fun i q=>h i (by simp[q])),z (fun i q=>h i (by rw[List.flatMap_cons];exact List.mem_append_right _ q))]
theorem ZdJ {x:V} (h:DW (DC x) H H'):Hz H' x=Hz H x:=by
 unfold Hz;split
 ·rw[ZAt (by simpa[DC]using h)]
 ·rename_i q;refine Z35 (fun i z=>h i ?_);cases x with
  | fn f a b=>simp[EE]at z
  | agg cs=>exact absurd rfl (q cs)
  | _=>exact z
theorem Z1Q {xs:List V} (h:DW (xs.flatMap DC) H H'):FI H' xs=FI H xs:=by
 induction xs with
 | nil=>rfl
 | cons x xs z=>
  simp only[FI];rw[ZdJ (fun i q=>h i (by simp[q])),z (fun i q=>h i (by rw[List.flatMap_cons];exact List.mem_append_right _ q))]
theorem Z2Q {x:V} (h:DW (DC x) H H'):lenOf H' x=lenOf H x:=by
 unfold lenOf;split<;>try rfl
 rename_i id off len tot;cases hb:DZ H id tot with
 | none=>rw[SA (h id (by simp[DC,EE])) hb]
 | some b=>
  obtain⟨z,q,A⟩:=PE (h id (by simp[DC,EE])) hb;simp only[q]
theorem oH {x:V} (h:DW (DC x) H H'):elemsOf H' x=elemsOf H x:=by
 unfold elemsOf;split<;>try rfl
 rename_i id off len tot;cases hb:DZ H id tot with
 | none=>rw[SA (h id (by simp[DC,EE])) hb]
 | some b=>
  obtain⟨D,A,C⟩:=PE (h id (by simp[DC,EE])) hb;obtain⟨q,F,G,I,z⟩:=SQ C;simp only[A,q,z]
theorem pK {x:V} {n:Nat} (h:DW (DC x) H H'):Eb H' x n=Eb H x n:=by
 unfold Eb;split<;>try rfl
 rename_i id off len tot;cases hb:DZ H id tot with
 | none=>rw[SA (h id (by simp[DC,EE])) hb]
 | some b=>
  obtain⟨C,z,A⟩:=PE (h id (by simp[DC,EE])) hb;obtain⟨D,F,G,q,I⟩:=SQ A;simp only[z,q]
theorem Zyl {E:Env} {t:TypeId} {a:V} (h:DW (DC a) H H'):MJ E H' t a=MJ E H t a:=by
 unfold MJ;split
 ·rfl
 ·split<;>try rfl
  rename_i id j off tot;cases hb:DZ H id tot with
  | none=>rw[SA (h id (by simp[DC,EE])) hb]
  | some b=>
   obtain⟨C,z,A⟩:=PE (h id (by simp[DC,EE])) hb;obtain⟨D,F,G,I,q⟩:=SQ A;simp only[z,q]
theorem ZlX {E:Env} {t:TypeId} {x i:V} (h:DW (DC x) H H'):Ov E H' t x i=Ov E H t x i:=by
 unfold Ov;split<;>try rfl
 split<;>try rfl
 rename_i id off len tot C;cases hb:DZ H id tot with
 | none=>rw[SA (h id (by simp[DC,EE])) hb]
 | some b=>
  obtain⟨D,z,A⟩:=PE (h id (by simp[DC,EE])) hb;obtain⟨F,G,I,q,J⟩:=SQ A;simp only[z,q]
theorem Z7F {E:Env} {t:TypeId} {x:V} (h:DW (DC x) H H'):PH E H' t x=PH E H t x:=by
 unfold PH;split<;>try rfl
 split<;>try rfl
 split<;>try rfl
 rw[pK h]
end
def eff (ids:List Nat) (nb:Option Box) (k:Nat) (H:Heap):Heap:=
 match nb with
 | none=>bump H ids
 | some b=>place (bump H ids) k b
def sK (E:Env) (call:Dn):Prop:=
 ∀f,((E.pure f||(E.env f).isSome)&&(E.own f).isNone)=true->∀args H v H1,call f args H=some (v,H1) ->
  H1=bump H (args.flatMap Dj)/\∀H',DW (args.flatMap DC) H H' -> call f args H' = some (v,bump H' (args.flatMap Dj))
def tZ (E:Env) (call:Dn):Prop:=
 ∀f,Pe E f=true->∀args H v H1,call f args H=some (v,H1) ->
  ∃ids q,(∀i∈ids,i∈args.flatMap DC)/\H1=bump H ids++q/\∀H',H'.length=H.length->DW (args.flatMap DC) H H' -> call f args H' = some (v,bump H' ids++q)
structure OC (E:Env) (call:Dn):Prop where
 pure:sK E call
 free:tZ E call
theorem ZcU {x:V} {i:Nat} (h:i∈Ez x):i∈EE x:=by
 cases x<;>simp_all [Ez,EE]
theorem Zyk {x:V} {i:Nat} (h:i∈Dj x):i∈DC x:=by
 cases x with
 | agg cs=>
  simp only[Dj,DC,List.mem_flatMap]at *;obtain⟨c,hc,q⟩:=h;exact⟨c,hc,ZcU q⟩
 | _=>simp_all [Dj,DC,Ez,EE]
theorem Z1Z {xs:List V} {i:Nat} (h:i∈xs.flatMap Dj):i∈xs.flatMap DC:=by
 simp only[List.mem_flatMap]at *;obtain⟨c,hc,q⟩:=h;exact⟨c,hc,Zyk q⟩
theorem Zdm {y:Option V} {H H1:Heap} {v:V} (h:y.map (·,H)=some (v,H1)):y=some v/\H1=H:=by
 cases y with
 | none=>cases h
 | some x=>simp at h;exact⟨by rw[h.1],h.2.symm⟩
def Eff (call:Dn) (E:Env) (k:Nat) (H:Heap) (s:List V) (o:Oper) (v:V) (H1:Heap):Prop:=
 ∃ids nb,(∀i∈ids,i∈ED E s o)/\(nb.isSome=true->Bi E o = .a)/\H1=eff ids nb k H /\
  ∀H' k',(Bi E o = .a->k' = k)->DW (ED E s o) H H' -> BP call E k' H' s o=some (v,eff ids nb k' H')
theorem qU {call:Dn} {E:Env} {k:Nat} {H H1:Heap} {s:List V} {o:Oper} {v:V} {y:Heap->Option V} (q:∀H k,BP call E k H s o=(y H).map (·,H))
  (h:BP call E k H s o=some (v,H1)) (D:∀H',DW (ED E s o) H H' -> y H' = y H):Eff call E k H s o v H1:=by
 rw[q]at h;obtain⟨z,A⟩:=Zdm h;exact⟨[],none,by simp,by simp,A,fun H' k' _ C=>by rw[q,D H' C,z];rfl⟩
theorem fF {E:Env} {s:List V} {o:Oper} {H H' : Heap} (h:DW (ED E s o) H H') {x:Operand} (z:x∈o.op.operands):DW (DC (ev E s x)) H H' :=fun i q=>
 h i (List.mem_flatMap.2 ⟨x,by simpa using z,q⟩)
theorem Z4p {call:Dn} {E:Env} {k:Nat} {H H1:Heap} {s:List V} {o:Oper} {v:V} (hc:Bi E o = .s) (h:BP call E k H s o=some (v,H1)) :
  H1=H/\∀H' k',BP call E k' H' s o=some (v,H'):=by
 have key:∀y:Option V,(∀H k,BP call E k H s o=y.map (·,H))->H1=H/\∀H' k',BP call E k' H' s o=some (v,H'):=by
  intro y A;rw[A]at h;obtain⟨C,D⟩:=Zdm h;exact⟨D,fun H' k' =>by rw[A,C];rfl⟩
 obtain⟨dst,op,type,pos,after,guard⟩:=o;cases op<;>simp only[Bi]at hc<;>try (cases hc;done)
 case convert=>split at hc<;>cases hc
 case move x=>exact key (some (ev E s x)) (fun H k=>rfl)
 case pick c x y=>
  refine key (match ev E s c with | .lit (.bool t)=>some (if t then ev E s x else ev E s y)|_=>none) (fun H k=>?_);simp only[BP];split<;>simp_all
 case build t ps=>exact key (VU E t (ps.toList.map fun(i,x)=>(i,ev E s x))) (fun H k=>rfl)
 case binOp op t x y z=>exact key (MO E op t (ev E s x) (ev E s y)) (fun H k=>rfl)
 case unOp op t x=>exact key (iI op (ev E s x)) (fun H k=>rfl)
 case sliceToArrayPointer t x=>exact key (Vl E t (ev E s x)) (fun H k=>rfl)
 case field t x f=>exact key (VQ E t (ev E s x) f) (fun H k=>rfl)
 case fieldAddr t x f=>exact key (Uj E t (ev E s x) f) (fun H k=>rfl)
 case index t x i=>exact key (VT E t (ev E s x) (ev E s i)) (fun H k=>rfl)
 case nilCheck x=>
  refine key (match TA (ev E s x) with|some false=>some (ev E s x)|_=>none) (fun H k=>?_);simp only[BP];split<;>simp_all
 case lookup t m x ok=>exact key (V7 E t ok (ev E s m) (ev E s x)) (fun H k=>rfl)
 case extract x i=>
  refine key (match ev E s x with | .BL vs=>vs[i]? | _=>none) (fun H k=>?_);simp only[BP];split<;>simp_all
 case makeFunc fn first caps=>
  cases fn with
  | func f=>exact key (some (.fn f (evs E s first) (evs E s caps))) (fun H k=>rfl)
  | _=>simp[BP]at h
 case assign x=>
  by_cases F:x = .const (.slice none 0 0)
  ·subst F;cases hc
  ·refine key (some (ev E s x)) (fun H k=>?_);unfold BP;split<;>simp_all
 case call c=>
  split at hc
  ·cases hc
  ·rename_i q;exact key (P6 false (evs E s c.args)) (fun H k=>by simp only[BP,q];rfl)
  ·rename_i q;exact key (P6 true (evs E s c.args)) (fun H k=>by simp only[BP,q];rfl)
  ·split at hc
   ·cases hc
   ·split at hc<;>cases hc
  ·split at hc<;>cases hc
  ·cases hc
theorem ZuL {E:Env} {H H' : Heap} {q dst:TypeId} {x r:V} (h:IY E H q dst x=some (r,H')):H' = H:=by
 unfold IY at h;split at h
 ·split at h
  ·split at h
   ·cases h;rfl
   ·cases h
  ·cases h
 ·split at h
  ·cases h;rfl
  ·cases h
 ·split at h
  ·split at h
   ·split at h
    ·split at h
     ·cases h;rfl
     ·cases h
    ·cases h
   ·cases h
  ·cases h
theorem Z9P {E:Env} {H H' : Heap} {t:TypeId} {x r:V} {z q:Option V} (h:JG E H t x z q none=some (r,H')):H' = H:=by
 unfold JG at h;split at h
 ·split at h
  ·cases h
  ·split at h
   ·cases h
   ·split at h
    ·cases h
    ·split at h
     ·cases ‹none=some _›
     ·split at h<;>cases h<;>rfl
 ·cases h
theorem Z2Y {E:Env} {s:List V} {o:Oper} {c:Call} (z:o.op = .call c) {H H' : Heap} (h:DW (ED E s o) H H'):DW ((evs E s c.args).flatMap DC) H H' :=by
 intro i q;simp only[evs,List.mem_flatMap,List.mem_map]at q;obtain⟨v,⟨x,A,rfl⟩,q⟩:=q;refine h i (List.mem_flatMap.2 ⟨x,?_,q⟩);simp at A;simp[z,Op.operands,Call.operands,A]
theorem Z2X {E:Env} {s:List V} {o:Oper} {c:Call} (z:o.op = .call c) {i:Nat} (q:i∈(evs E s c.args).flatMap DC):i∈ED E s o:=by
 simp only[evs,List.mem_flatMap,List.mem_map]at q;obtain⟨v,⟨x,A,rfl⟩,q⟩:=q;refine List.mem_flatMap.2 ⟨x,?_,q⟩;simp at A;simp[z,Op.operands,Call.operands,A]
theorem ZvJ {E:Env} {s:List V} {o:Oper} {t:TypeId} {n:Nat} {ps:Array (Nat×Operand)} (z:o.op = .buildSlice t n ps) {i:Nat}
  (q:i∈((ps.toList.map fun(i,x)=>(i,ev E s x)).map (·.2)).flatMap DC):i∈ED E s o:=by
 simp only[List.map_map,List.mem_flatMap,List.mem_map]at q;obtain⟨v,⟨p,A,rfl⟩,q⟩:=q;refine List.mem_flatMap.2 ⟨p.2,?_,q⟩;simp only[z,Op.operands];exact List.mem_map.2 ⟨p,A,rfl⟩
theorem ZAD {H H' : Heap} {id:Nat} (h:(H[id]?).map Box.low=(H'[id]?).map Box.low):(H'.getD id default).Ar=(H.getD id default).Ar:=by
 simp only[List.getD];cases z:H[id]? with
 | none=>cases q:H'[id]? with
  | none=>rfl
  | some b=>simp[z,q]at h
 | some b=>cases q:H'[id]? with
  | none=>simp[z,q]at h
  | some A =>
   simp only[z,q,Option.map_some,Option.some.injEq]at h;show A.Ar=b.Ar;exact(congrArg Box.Ar h).symm
theorem bump_nil (H:Heap):bump H []=H:=rfl
theorem Zvd {E:Env} {H H1:Heap} {t:TypeId} {x v:V} {I F J:Option V} (h:JG E H t x I F J=some (v,H1)) :
  ∃ids,(∀i∈ids,i∈DC x)/\H1=bump H ids/\∀H',DW (DC x) H H' -> JG E H' t x I F J=some (v,bump H' ids):=by
 cases J with
 | none=>
  have:=Z9P h;subst this;refine⟨[],by simp,(bump_nil _).symm,fun H' q=>?_⟩;rw[bump_nil];have e:(JG E H' t x I F none).map (·.1)=(JG E H1 t x I F none).map (·.1):=by
   simp only[JG];rw[Z7F q,Z2Q q];split
   ·split
    ·rfl
    ·split
     ·rfl
     ·split
      ·rfl
      ·split<;>rfl
   ·rfl
  cases hc:JG E H' t x I F none with
  | none=>rw[hc,h]at e;simp at e
  | some r=>
   obtain⟨r,O⟩:=r;have:=Z9P hc;subst this;rw[hc,h]at e;simp only[Option.map_some,Option.some.injEq]at e;rw[e]
 | some m=>
  simp only[JG]at h ⊢;split at h
  ·rename_i M;split at h
   ·cases h
   ·rename_i n N;split at h
    ·cases h
    ·rename_i Q C;split at h
     ·cases h
     ·rename_i l D;have key:∀H',DW (DC x) H H' -> PH E H' t x=true/\lenOf H' x=some n/\elemsOf H' x=elemsOf H x:=fun H' q=>⟨by rw[Z7F q];exact M,by rw[Z2Q q];exact N,oH q⟩;split at h
      ·rename_i k xs b e G A;split at h
       ·rename_i z;simp only[Option.some.injEq,Prod.mk.injEq]at h;obtain⟨rfl,rfl⟩:=h;refine⟨[],by simp,(bump_nil _).symm,fun H' q=>?_⟩;obtain⟨q1,q2,q3⟩:=key H' q;rw[if_pos q1,q2,bump_nil];simp only[C,D,G,q3,A,if_pos z]
       ·cases h
      ·rename_i k xs b e G A;split at h
       ·rename_i z;simp only[Option.some.injEq,Prod.mk.injEq]at h;obtain⟨rfl,rfl⟩:=h;refine⟨[],by simp,(bump_nil _).symm,fun H' q=>?_⟩;obtain⟨q1,q2,q3⟩:=key H' q;rw[if_pos q1,q2,bump_nil];simp only[C,D,G,q3,A,if_pos z]
       ·cases h
      ·rename_i k xs id off len tot G A;split at h
       ·rename_i z;simp only[Option.some.injEq,Prod.mk.injEq]at h;obtain⟨rfl,rfl⟩:=h;refine⟨[id],by simp[DC,EE],rfl,fun H' q=>?_⟩;obtain⟨q1,q2,q3⟩:=key H' q;rw[if_pos q1,q2];simp only[C,D,G,q3,A,if_pos z,ZAD (q id (by simp[DC,EE]))]
       ·cases h
      ·cases h
  ·cases h
theorem Zum {E:Env} {H H1:Heap} {n:Nat} {e:TypeId} {x v:V} {D C F:Option V} (h:OL E H n e x D C F=some (v,H1)) :
  ∃ids,(∀i∈ids,i∈DC x)/\H1=bump H ids/\∀H',DW (DC x) H H' -> OL E H' n e x D C F=some (v,bump H' ids):=by
 unfold OL at h;split at h
 ·rename_i id i off tot m' z;cases hb:DZ H id tot with
  | none=>simp[hb]at h
  | some b=>
   simp only[hb]at h;split at h
   ·rename_i cs q A;split at h
    ·rename_i hc;simp only[Option.some.injEq,Prod.mk.injEq]at h;obtain⟨rfl,rfl⟩:=h;refine⟨[id],by simp[DC,EE],rfl,fun H' N=>?_⟩;obtain⟨O,J,M⟩:=PE (N id (by simp[DC,EE])) hb;obtain⟨G,Q,S,Y,I⟩:=SQ M;unfold OL;simp only[z,J,G,I,q,A];rw[if_pos hc]
    ·cases h
   ·cases h
 ·cases h
theorem Zdw {call:Dn} {E:Env} (Q:sK E call) {k:Nat} {H H1:Heap} {s:List V} {o:Oper} {v:V} (hc:Bi E o≠.w) (hcc:Bi E o≠.c) (hq:quietAt E s o=true) (h:BP call E k H s o=some (v,H1)) :
  Eff call E k H s o v H1:=by
 by_cases G:Bi E o = .s
 ·obtain⟨I,Y⟩:=Z4p G h;exact⟨[],none,by simp,by simp,I,fun H' k' _ _=>Y H' k'⟩
 have mk:∀(nb:Option Box),Bi E o = .a->(nb.isSome=true)->(∀H k,BP call E k H s o=nb.map fun b=>((if b.row then V.Bc k 0 b.xs.length b.xs.length else V.ptr k 0 0 1),place H k b))->Eff call E k H s o v H1:=by
  intro nb hca hnb D;cases nb with
  | none=>cases hnb
  | some b=>
   rw[D]at h;simp only[Option.map_some,Option.some.injEq,Prod.mk.injEq]at h;obtain⟨I,Y⟩:=h;refine⟨[],some b,by simp,fun _=>hca,Y.symm,fun H' k' hk _=>?_⟩;rw[D,hk hca];simp only[Option.map_some,I];rfl
 obtain⟨dst,op,type,pos,after,guard⟩:=o;cases op<;>try (refine absurd ?_ G;simp[Bi];done)
 case assign x=>
  by_cases hx:x = .const (.slice none 0 0)
  ·subst hx;cases q:E.ti type with
   | none=>simp[BP,q]at h
   | some i=>
    obtain⟨ty,sz,by',z0⟩:=i;cases ty with
    | slice e=>exact mk (some (Bg true false e ((E.size e).getD 0) [])) rfl rfl (fun H k=>by simp only[BP,q,Option.map_some];rfl)
    | _=>simp[BP,q]at h
  ·refine absurd ?_ G;unfold Bi;split<;>simp_all
 case alloc t=>
  cases q:E.ti t with
  | none=>simp[BP,q]at h
  | some i=>
   cases hz:i.zero with
   | none=>simp[BP,q,hz]at h
   | some z=>
    by_cases A:z.cells.length=i.size/\okV z=true
    ·exact mk (some (Bg false false t i.size [z])) rfl rfl (fun H k=>by simp only[BP,q,hz,A,and_self,if_true,Option.map_some];rfl)
    ·simp[BP,q,hz,A]at h
 case box t x=>
  cases q:E.ti t with
  | none=>simp[BP,q]at h
  | some i=>
   by_cases A:(ev E s x).cells.length=i.size/\okV (ev E s x)=true
   ·exact mk (some (Bg false false t i.size [ev E s x])) rfl rfl (fun H k=>by simp only[BP,q,A,and_self,if_true,Option.map_some];rfl)
   ·simp[BP,q,A]at h
 case makeSlice t l c=>
  have hlen:∀(n:Int) (z:V),(List.replicate n.toNat z).length=n.toNat:=fun n z=>by simp
  cases q:E.ti t with
  | none=>simp[BP,q]at h
  | some i=>
   obtain⟨ty,sz,by',z0⟩:=i;cases ty with
   | slice e=>
    cases hl:ev E s l with
    | lit lv=>
     cases lv with
     | int k1 n=>
      cases J:ev E s c with
      | lit cv=>
       cases cv with
       | int k2 m=>
        cases N:E.ti e with
        | none=>simp[BP,q,hl,J,N]at h
        | some ei=>
         cases hz:ei.zero with
         | none=>simp[BP,q,hl,J,N,hz]at h
         | some z=>
          by_cases A:0<=n/\n<=m/\m.toNat*ei.bytes<=lim/\m<=maxLen/\0<ei.size/\z.cells.length=ei.size/\okV z=true
          ·refine mk (some (Bg true false e ei.size (List.replicate n.toNat (Dz (E.rows e) z)))) rfl rfl (fun H k=>?_);simp only[BP,q,hl,J,N,hz,Option.map_some];rw[if_pos A];simp[Bg]
          ·simp only[BP,q,hl,J,N,hz]at h;rw[if_neg A]at h;cases h
       | _=>simp[BP,q,hl,J]at h
      | _=>simp[BP,q,hl,J]at h
     | _=>simp[BP,q,hl]at h
    | _=>simp[BP,q,hl]at h
   | _=>simp[BP,q]at h
 case buildSlice t n ps=>
  have D:∀H k,BP call E k H s { dst:=dst,op:=.buildSlice t n ps,type:=type,pos:=pos,after:=after,guard:=guard }=Oo E k H t n (ps.toList.map fun(i,x)=>(i,ev E s x)):=fun H k=>rfl;have M:=fun i=>ZvJ (E:=E) (s:=s) (o:={ dst:=dst,op:=.buildSlice t n ps,type:=type,pos:=pos,after:=after,guard:=guard }) rfl (i:=i);rw[D]at h;generalize (ps.toList.map fun(i,x)=>(i,ev E s x))=S at D h M;unfold Oo at h;split at h
  ·rename_i e sz by' z0 q;split at h
   ·rename_i ei N;split at h
    ·rename_i z vs hz hf;split at h
     ·rename_i A;split at h
      ·rename_i xs hfe;simp only[Option.some.injEq,Prod.mk.injEq]at h;obtain⟨I,Y⟩:=h;refine⟨(S.map (fun p:Nat×V=>p.2)).flatMap Dj,some (Bg true false e ei.size xs),fun i F=>M i (Z1Z F),fun _=>by simp[Bi],Y.symm,fun H' k' hk G=>?_⟩;have hfr:FI H' (S.map (·.2))=some vs:=by rw[Z1Q (fun i F=>G i (M i F))];exact hf
       have hkk:k' = k:=hk (by simp[Bi]);rw[D,hkk,<- I];simp only[Oo,q,N,hz,hfr,hfe];rw[if_pos A];rfl
      ·cases h
     ·cases h
    ·cases h
   ·cases h
  ·cases h
 case load t x=>exact qU (y:=fun H=>MJ E H t (ev E s x)) (fun H k=>rfl) h (fun H' G=>Zyl (fF G (by simp[Op.operands])))
 case indexAddr t x i=>exact qU (y:=fun H=>Ov E H t (ev E s x) (ev E s i)) (fun H k=>rfl) h (fun H' G=>ZlX (fF G (by simp[Op.operands])))
 case convert src dst2 x=>
  have hx:x∈(Op.convert src dst2 x).operands:=by simp[Op.operands]
  by_cases hb:(E.isStr src&&E.isBytes dst2)=true
  ·have hca:Bi E { dst:=dst,op:=.convert src dst2 x,type:=type,pos:=pos,after:=after,guard:=guard } = .a:=by simp only[Bi];rw[if_pos hb]
   have D:∀H k,BP call E k H s { dst:=dst,op:=.convert src dst2 x,type:=type,pos:=pos,after:=after,guard:=guard }=MI E k H dst2 (ev E s x):=fun H k=>by simp only[BP];rw[if_pos hb]
   cases O:ev E s x with
   | lit v=>
    cases v with
    | string st=>
     cases q:E.ti dst2 with
     | none=>rw[D,O]at h;simp[MI,q]at h
     | some i=>
      obtain⟨ty,sz,by',z0⟩:=i;cases ty with
      | slice e=>
       by_cases I:E.size e=some 1
       ·exact mk (some (Bg true false e 1 (bytesV st))) hca rfl (fun H k=>by rw[D,O];simp only[MI,q,I,if_true,Option.map_some];rw[show (Bg true false e 1 (bytesV st)).xs.length=st.size from by simp only[Bg,bytesV,List.length_map];exact Array.length_toList];rfl)
       ·rw[D,O]at h;simp[MI,q,I]at h
      | _=>rw[D,O]at h;simp[MI,q]at h
    | _=>rw[D,O]at h;simp[MI]at h
   | _=>rw[D,O]at h;simp[MI]at h
  have hcv0:∀H k,BP call E k H s { dst:=dst,op:=.convert src dst2 x,type:=type,pos:=pos,after:=after,guard:=guard }=IY E H src dst2 (ev E s x):=fun H k=>by simp only[BP];rw[if_neg hb]
  refine qU (y:=fun H=>(IY E H src dst2 (ev E s x)).map (·.1)) (fun H k=>?_) h (fun H' G=>?_)
  ·rw[hcv0];cases J:IY E H src dst2 (ev E s x) with
   | none=>rfl
   | some r=>
    obtain⟨r,H2⟩:=r;have:=ZuL J;subst this;rfl
  ·have I:=fF G hx;simp only[IY];generalize ev E s x=ex at I ⊢;split
   ·split
    ·split<;>rfl
    ·rfl
   ·split<;>rfl
   ·rw[pK I,oH I];split
    ·split
     ·split
      ·split<;>rfl
      ·rfl
     ·rfl
    ·rfl
 case slice t x lo F mx=>
  have hx:x∈(Op.slice t x lo F mx).operands:=by simp[Op.operands]
  by_cases harr:∃n e sz by' z0,E.ti t=some ⟨.array n e,sz,by',z0⟩
  ·obtain⟨n,e,sz,by',z0,q⟩:=harr;have D:∀H k,BP call E k H s { dst:=dst,op:=.slice t x lo F mx,type:=type,pos:=pos,after:=after,guard:=guard }=OL E H n e (ev E s x) (lo.map (ev E s)) (F.map (ev E s)) (mx.map (ev E s)):=fun H k=>by simp only[BP,q]
   rw[D]at h;obtain⟨ids,g1,g2,g3⟩:=Zum h;exact⟨ids,none,fun i F=>List.mem_flatMap.2 ⟨x,by simpa using hx,g1 i F⟩,by simp,g2,fun H' k' _ G=>by rw[D];exact g3 H' (fF G hx)⟩
  ·have D:∀H k,BP call E k H s { dst:=dst,op:=.slice t x lo F mx,type:=type,pos:=pos,after:=after,guard:=guard }=JG E H t (ev E s x) (lo.map (ev E s)) (F.map (ev E s)) (mx.map (ev E s)):=fun H k=>by
    simp only[BP];split
    ·rename_i n e sz by' z0 q;exact absurd ⟨n,e,sz,by',z0,q⟩ harr
    ·rfl
   rw[D]at h;obtain⟨ids,g1,g2,g3⟩:=Zvd h;exact⟨ids,none,fun i F=>List.mem_flatMap.2 ⟨x,by simpa using hx,g1 i F⟩,by simp,g2,fun H' k' _ G=>by rw[D];exact g3 H' (fF G hx)⟩
 case call c=>
  cases C:c.callee with
  | invoke r n=>exact absurd (by simp[Bi,C]) hc
  | builtin b=>
   by_cases hb:b = .len
   ·subst hb;have D:∀H k,BP call E k H s { dst:=dst,op:=.call c,type:=type,pos:=pos,after:=after,guard:=guard }=PI E k H s .len (evs E s c.args) c.argTypes.toList:=fun H k=>by simp only[BP,C]
    refine qU (y:=fun H=>(PI E 0 H s .len (evs E s c.args) c.argTypes.toList).map (·.1)) (fun H k=>?_) h (fun H' G=>?_)
    ·rw[D];unfold PI;split<;>try rfl
     ·split
      ·cases lenOf H _<;>rfl
      ·rfl
     all_goals simp_all
    ·have I:=Z2Y rfl G;generalize evs E s c.args=xs at I ⊢;simp only[PI];split<;>try rfl
     ·split
      ·rw[Z2Q (fun i F=>I i (by simpa using F))];rename_i x t _ _ _;cases lenOf H x<;>rfl
      ·rfl
     all_goals simp_all
   ·exfalso;revert hc G;unfold Bi;cases b<;>simp_all
  | value f=>
   cases f with
   | func f=>
    by_cases hp:((E.pure f||(E.env f).isSome)&&(E.own f).isNone)=true
    ·have D:∀H k,BP call E k H s { dst:=dst,op:=.call c,type:=type,pos:=pos,after:=after,guard:=guard }=call f (evs E s c.args) H:=fun H k=>by simp[BP,C,ev]
     rw[D]at h;obtain⟨I,Y⟩:=Q f hp _ _ _ _ h;refine⟨(evs E s c.args).flatMap Dj,none,fun i F=>Z2X rfl (Z1Z F),by simp,I,fun H' k' _ G=>?_⟩;rw[D];exact Y H' (Z2Y rfl G)
    ·by_cases hfr:Pe E f=true
     ·exact absurd (by unfold Bi;simp only[C];rw[if_neg hp,if_pos hfr]) hcc
     ·exact absurd (by unfold Bi;simp only[C];rw[if_neg hp,if_neg hfr]) hc
   | tmp t=>
    have hqt:(E.quiet&&type != 0)=true:=by
     cases hh:(E.quiet&&type != 0) with
     | true=>rfl
     | false=>exact absurd (by simp only[Bi,C,hh];rfl) hc
    simp only[quietAt,C,hqt,Bool.not_true,Bool.false_or]at hq;cases hv:s.getD t .und with
    | fn g a b=>
     rw[hv]at hq;simp only[tH,Bool.and_eq_true]at hq;have D:∀H k,BP call E k H s { dst:=dst,op:=.call c,type:=type,pos:=pos,after:=after,guard:=guard }=call g (a++evs E s c.args++b) H:=fun H k=>by
      simp only[BP,C,ev,hv]
     rw[D]at h;obtain⟨I,Y⟩:=Q g (by rw[Bool.and_eq_true];exact hq.1) _ _ _ _ h;have hin:∀i∈(a++evs E s c.args++b).flatMap DC,i∈ED E s { dst:=dst,op:=.call c,type:=type,pos:=pos,after:=after,guard:=guard }:=by
      intro i F;obtain⟨x,hx,hix⟩:=List.mem_flatMap.1 F;have hab:x∈a++b->i∈ED E s { dst:=dst,op:=.call c,type:=type,pos:=pos,after:=after,guard:=guard }:=fun hm=>by
       have hnf:=List.all_eq_true.1 hq.2 x hm;have hix' : i∈fQ x:=by cases x<;>first|exact hix|(simp[uS]at hnf)
       refine List.mem_flatMap.2 ⟨.tmp t,by simp[Op.operands,Call.operands,C],?_⟩;show i∈DC (s.getD t .und);rw[hv];exact List.mem_flatMap.2 ⟨x,hm,hix'⟩
      rcases List.mem_append.1 hx with hx|hx
      ·rcases List.mem_append.1 hx with hx|hx
       ·exact hab (List.mem_append_left _ hx)
       ·exact Z2X rfl (List.mem_flatMap.2 ⟨x,hx,hix⟩)
      ·exact hab (List.mem_append_right _ hx)
     refine⟨(a++evs E s c.args++b).flatMap Dj,none,fun i F=>hin i (Z1Z F),by simp,I,fun H' k' _ G=>?_⟩;rw[D];exact Y H' fun i F=>G i (hin i F)
    | _=>rw[hv]at hq;simp[tH]at hq
   | _=>exact absurd (by simp[Bi,C]) hc
 all_goals (refine absurd ?_ hc;simp[Bi];done)
theorem ZcK {call:Dn} {E:Env} (A:tZ E call) {k:Nat} {H H1:Heap} {s:List V} {o:Oper} {v:V} (hc:Bi E o = .c) (h:BP call E k H s o=some (v,H1)) :
  ∃ids z,(∀i∈ids,i∈ED E s o)/\H1=bump H ids++z/\∀H' k',H'.length=H.length->DW (ED E s o) H H' -> BP call E k' H' s o=some (v,bump H' ids++z):=by
 obtain⟨dst,op,type,pos,after,guard⟩:=o;cases op<;>simp only[Bi]at hc<;>first|(cases hc;done)|skip
 case convert=>split at hc<;>cases hc
 case assign x=>exfalso;revert hc;split<;>simp_all
 case call c=>
  cases q:c.callee with
  | builtin b=>exfalso;revert hc;simp only[q];cases b<;>simp
  | invoke r n=>exfalso;revert hc;simp[q]
  | value f=>
  cases f with
  | tmp _=>exfalso;revert hc;simp only[q];split<;>simp
  | const _=>exfalso;revert hc;simp[q]
  | global _=>exfalso;revert hc;simp[q]
  | func f=>
  simp only[q]at hc;split at hc
  ·cases hc
  ·split at hc
   ·rename_i C;have D:∀H k,BP call E k H s { dst:=dst,op:=.call c,type:=type,pos:=pos,after:=after,guard:=guard }=call f (evs E s c.args) H:=fun H k=>by simp[BP,q,ev]
    rw[D]at h;obtain⟨ids,z,F,G,I⟩:=A f C _ _ _ _ h;exact⟨ids,z,fun i J=>Z2X rfl (F i J),G,fun H' k' M N=>by rw[D];exact I H' M (Z2Y rfl N)⟩
   ·cases hc
end Go.Proofs.YtjodhcdmhobmoaaGreatDoor.Le
namespace Go.Proofs.YtjodhcdmhobmoaaGreatDoor.Le
def IC (ids:List Nat) (i:Nat) (b:Box):Box:=if i∈ids then { b with floor:=b.xs.length } else b
theorem PN {ids:List Nat} {nb:Option Box} {k:Nat} {H:Heap} (A:nb.isSome=true->k<H.length) (i:Nat) :
  (eff ids nb k H)[i]? = match nb with|some b=>if i=k then some b else (H[i]?).map (IC ids i)|none=>(H[i]?).map (IC ids i):=by
 cases nb with
 | none=>simp only[eff];rw[KR];rfl
 | some b=>
  have q : k<(bump H ids).length:=by rw[bump_length];exact A rfl
  simp only[eff,place];rw[if_pos q,List.getElem?_set]
  by_cases z:i=k
  ·subst z;simp[q]
  ·rw[if_neg (fun e=>z e.symm),if_neg z,KR];rfl
theorem Ug {ids:List Nat} {nb:Option Box} {k:Nat} {H:Heap} (z:nb.isSome=true->k<H.length):(eff ids nb k H).length=H.length:=by
 cases nb with
 | none=>exact bump_length H ids
 | some b=>
  have q : k<(bump H ids).length:=by rw[bump_length];exact z rfl
  simp only[eff,place];rw[if_pos q,List.length_set,bump_length]
theorem o5 (Ez ids2:List Nat) (i:Nat) (b:Box):IC Ez i (IC ids2 i b)=IC ids2 i (IC Ez i b):=by
 unfold IC
 by_cases q:i∈Ez<;>by_cases z:i∈ids2<;>simp[q,z]
theorem Z3f {Ez ids2:List Nat} {nb1 nb2:Option Box} {k1 k2:Nat} {H:Heap} (z:nb1.isSome=true->k1<H.length/\k1∉ids2) (A:nb2.isSome=true->k2<H.length/\k2∉Ez)
  (F:nb1.isSome=true->nb2.isSome=true->k1≠k2):eff Ez nb1 k1 (eff ids2 nb2 k2 H)=eff ids2 nb2 k2 (eff Ez nb1 k1 H):=by
 have G:=Ug (ids:=Ez) (fun h=>(z h).1);have I:=Ug (ids:=ids2) (fun h=>(A h).1);apply List.ext_getElem?;intro i;rw[PN (ids:=Ez) (H:=eff ids2 nb2 k2 H) (fun h=>by rw[I];exact(z h).1),PN (ids:=ids2) (H:=eff Ez nb1 k1 H) (fun h=>by rw[G];exact(A h).1),PN (ids:=Ez) (H:=H) (fun h=>(z h).1),PN (ids:=ids2) (H:=H) (fun h=>(A h).1)];cases nb1 with
 | none=>
  cases nb2 with
  | none=>
   simp only;cases H[i]? with
   | none=>rfl
   | some b=>simp only[Option.map_some,o5]
  | some b2=>
   simp only
   by_cases q:i=k2
   ·subst q;simp only[if_true,Option.map_some];simp[IC,(A rfl).2]
   ·simp only[q,if_false];cases H[i]? with
    | none=>rfl
    | some b=>simp only[Option.map_some,o5]
 | some b1=>
  cases nb2 with
  | none=>
   simp only
   by_cases q:i=k1
   ·subst q;simp only[if_true,Option.map_some];simp[IC,(z rfl).2]
   ·simp only[q,if_false];cases H[i]? with
    | none=>rfl
    | some b=>simp only[Option.map_some,o5]
  | some b2=>
   have D:=F rfl rfl;simp only
   by_cases q:i=k1
   ·subst q;rw[if_pos rfl,if_neg D,if_pos rfl];simp[IC,(z rfl).2]
   ·by_cases C:i=k2
    ·subst C;rw[if_neg q,if_pos rfl,if_pos rfl];simp[IC,(A rfl).2]
    ·rw[if_neg q,if_neg C,if_neg C,if_neg q];cases H[i]? with
     | none=>rfl
     | some b=>simp only[Option.map_some,o5]
theorem ZbV (ids:List Nat) (i:Nat) (b:Box):(IC ids i b).low=b.low:=by
 unfold IC;split<;>rfl
theorem Si {R ids:List Nat} {nb:Option Box} {k:Nat} {H:Heap} (q:nb.isSome=true->k<H.length/\k∉R):DW R H (eff ids nb k H):=by
 intro i z;rw[PN (fun h=>(q h).1)];cases nb with
 | none=>
  simp only;cases H[i]? with
  | none=>rfl
  | some b=>simp only[Option.map_some,ZbV]
 | some b=>
  have:i≠k:=fun e=>(q rfl).2 (e▸z);simp only[this,if_false];cases H[i]? with
  | none=>rfl
  | some b=>simp only[Option.map_some,ZbV]
theorem DW.symm {R:List Nat} {H H' : Heap} (h:DW R H H'):DW R H' H:=fun i q=>(h i q).symm
theorem ZcQ {ids:List Nat} {nb:Option Box} {k j:Nat} {H:Heap} (q:nb.isSome=true->k<H.length/\k≠j):(∃b,(eff ids nb k H)[j]? = some b/\b.live=false)↔∃b,H[j]? = some b/\b.live=false:=by
 rw[PN (fun h=>(q h).1)];have hm:(∃b,(H[j]?).map (IC ids j)=some b/\b.live=false)↔∃b,H[j]? = some b/\b.live=false:=by
  cases H[j]? with
  | none=>simp
  | some b=>
   simp only[Option.map_some,Option.some.injEq,exists_eq_left'];unfold IC;split<;>rfl
 cases nb with
 | none=>exact hm
 | some b=>
  have:j≠k:=fun e=>(q rfl).2 e.symm;simp only[this,if_false];exact hm
section
variable {call:Dn} {E:Env} {ops:Array Oper} {ms:List Nat} {lt:List (Nat×(Nat⊕Nat))} {s0:List V} {base m:Nat}
def DR (E:Env) (o:Oper) (base i:Nat) (H:Heap):Nat:=if Bi E o = .a then base+i else H.length
def P7 (E:Env) (ops:Array Oper) (ms:List Nat) (base m i:Nat) (s:List V) (o:Oper):Prop:=(∀id∈ED E s o,id<base\/(base+m<=id/\VW E ops ms i=true)\/(id<base+m/\(ms.getD i 0).testBit (id - base)=true))/\quietAt E s o=true
theorem pY {i:Nat} {o:Oper} (G:ops[i]? = some o) {st st' : St}:Ht call E ops ms lt s0 base m i st=some st' ↔
  P7 E ops ms base m i st.s o/\(GX E ms lt s0 base i st.s st.H o=true/\(Bi E o = .c->base+m<=st.H.length))/\(Bi E o = .a->∃b,st.H[base+i]? = some b/\b.live=false)/\∃v H',F6 call E ops (DR E o base i st.H) o st=some (v,H')/\st' = ⟨setSlot st.s o.dst v,H'⟩:=by
 have C:∀k,Je call E ops k i st=some st' ↔∃v H',F6 call E ops k o st=some (v,H')/\st' = ⟨setSlot st.s o.dst v,H'⟩:=by
  intro k;unfold Je;simp only[G];cases F:F6 call E ops k o st with
  | none=>simp
  | some r=>
   obtain⟨v,H'⟩:=r;simp only[Option.some.injEq,Prod.mk.injEq];exact⟨fun h=>⟨v,H',⟨rfl,rfl⟩,h.symm⟩,fun⟨S,H1,⟨I,J⟩,M⟩=>by subst I;subst J;exact M.symm⟩
 unfold Ht;simp only[G];have z:(((ED E st.s o).all fun id=>decide (id<base)||(decide (base+m<=id)&&VW E ops ms i)||(decide (id<base+m)&&(ms.getD i 0).testBit (id - base)))&&quietAt E st.s o&&(GX E ms lt s0 base i st.s st.H o&&(!decide (Bi E o = .c)||decide (base+m<=st.H.length))))=true↔
   P7 E ops ms base m i st.s o/\GX E ms lt s0 base i st.s st.H o=true/\(Bi E o = .c->base+m<=st.H.length):=by
  unfold P7;rw[Bool.and_eq_true,Bool.and_eq_true,Bool.and_eq_true,List.all_eq_true];have hc:(!decide (Bi E o = .c)||decide (base+m<=st.H.length))=true↔(Bi E o = .c->base+m<=st.H.length):=by
   by_cases h:Bi E o = .c<;>simp[h]
  rw[hc];simp only[Bool.or_eq_true,Bool.and_eq_true,decide_eq_true_eq,or_assoc]
 by_cases A:P7 E ops ms base m i st.s o/\GX E ms lt s0 base i st.s st.H o=true/\(Bi E o = .c->base+m<=st.H.length)
 ·rw[if_pos (z.2 A)];unfold DR
  by_cases q:Bi E o = .a
  ·rw[if_pos q,if_pos q];cases hb:st.H[base+i]? with
   | none=>simp[q]
   | some b=>
    cases D:b.live with
    | true=>simp[D,q]
    | false=>simp only[D,Bool.false_eq_true,if_false,C];exact⟨fun h=>⟨A.1,A.2,fun _=>⟨b,rfl,D⟩,h⟩,fun h=>h.2.2.2⟩
  ·rw[if_neg q,if_neg q,C];exact⟨fun h=>⟨A.1,A.2,fun Q=>absurd Q q,h⟩,fun h=>h.2.2.2⟩
 ·rw[if_neg (fun h=>A (z.1 h))];constructor
  ·intro h;cases h
  ·rintro ⟨N,O,_⟩;exact absurd ⟨N,O⟩ A
theorem Z16 {o:Oper} {a:Operand} (h:PK o=some a):(∃t v,o.op = .store t a v)\/∃c x,o.op = .call c/\c.callee = .builtin .append/\c.args.toList=[a,x]:=by
 unfold PK at h;split at h
 ·rename_i t z v q;cases h;exact .inl ⟨t,v,q⟩
 ·rename_i c q;split at h
  ·rename_i z x A C;cases h;exact .inr ⟨c,x,q,A,C⟩
  ·cases h
 ·cases h
theorem Z9f {o:Oper} {a:Operand} (h:PK o=some a):a∈o.op.operands:=by
 rcases Z16 h with ⟨t,v,q⟩|⟨c,x,q,A,z⟩
 ·simp[q,Op.operands]
 ·have:a∈c.args:=by
   have:a∈c.args.toList:=by rw[z];simp
   simpa using this
  simp[q,Op.operands,Call.operands,this]
theorem Qa {o:Oper} {t:Nat⊕Nat} (h:Va E ops o=some t):Bi E o = .w/\o.guard=none/\∃d,PK o=some (.tmp d):=by
 unfold Va at h;split at h
 ·rename_i d C z;refine⟨?_,C,⟨d,z⟩⟩;rcases Z16 z with ⟨t,v,q⟩|⟨c,x,q,A,D⟩
  ·unfold Bi;rw[q]
  ·unfold Bi;rw[q];simp only[A]
 ·cases h
theorem Zxn {x:Nat} {t:Nat⊕Nat} (h:(x,t)∈Pg E ops):∃ox,ops[x]? = some ox/\Va E ops ox=some t:=by
 unfold Pg at h;simp only[List.mem_filterMap]at h;obtain⟨y,_,h⟩:=h;split at h
 ·rename_i ox q;split at h
  ·rename_i A z;split at h
   ·simp only[Option.some.injEq,Prod.mk.injEq]at h;obtain⟨rfl,rfl⟩:=h;exact⟨ox,q,z⟩
   ·cases h
  ·cases h
 ·cases h
theorem Zds {o:Oper} (h:needs E o=true):Bi E o≠.w:=by
 unfold needs at h;intro hc;rw[hc]at h;cases h
theorem ZtP {s:List V} {o:Oper} {d:Option Tmp} {v:V} (h:∀q,d=some q -> q ∉o.looksAt ops):addrOf E (setSlot s d v) o=addrOf E s o:=by
 unfold addrOf;split
 ·rename_i a A;exact tX _ fun q z=>rF (h q z) a (Z9f A)
 ·rfl
theorem ZbR {s:List V} {H:Heap} {i:Nat} {o:Oper} {d:Option Tmp} {v:V} (h:∀q,d=some q -> q ∉o.looksAt ops):GX E ms lt s0 base i (setSlot s d v) H o=GX E ms lt s0 base i s H o:=by
 unfold GX;rw[ZtP h,Z2V h]
theorem La {s:List V} {H H' : Heap} {i:Nat} {o:Oper} (h:∀t,(i,t)∉lt) (D:GX E ms lt s0 base i s H o=true):GX E ms lt s0 base i s H' o=true:=by
 unfold GX at *;rw[List.all_eq_true]at *;intro p A;have q:=D p A;have z:p.1≠i:=fun e=>h p.2 (by rw[<- e];exact A);cases C:P8 base s0 p.2 with
 | none=>rw[C]at q;cases q
 | some k=>
  rw[C]at q;simp only[if_neg z]at q ⊢;exact q
theorem ZaH {s:List V} {H H' : Heap} {i:Nat} {o:Oper} (h:∀p∈lt,∀k,p.1=i->P8 base s0 p.2=some k->H'[k]? = H[k]?) (G:GX E ms lt s0 base i s H o=true):GX E ms lt s0 base i s H' o=true:=by
 unfold GX at *;rw[List.all_eq_true]at *;intro p F;have q:=G p F;cases C:P8 base s0 p.2 with
 | none=>rw[C]at q;cases q
 | some k=>
  rw[C]at q;simp only at q ⊢;split
  ·rename_i A;rw[if_pos A]at q;have D:=h p F k A C;unfold OO at *;split at q
   ·rename_i id a b tot z;simp only[Bool.and_eq_true,beq_iff_eq]at q ⊢;obtain⟨rfl,q⟩:=q;refine⟨rfl,?_⟩;unfold DZ at *;rw[D];exact q
   ·rename_i id a b tot z;simp only[Bool.and_eq_true,beq_iff_eq]at q ⊢;obtain⟨rfl,q⟩:=q;refine⟨rfl,?_⟩;rw[D];exact q
   ·cases q
  ·rename_i A;rw[if_neg A]at q;exact q
theorem Zu8 {H H1:Heap} {t:TypeId} {a v:V} {k:Nat} (q:OO H a k=true) (h:Lu E H t a v=some H1) :
  ∃b,k<H.length/\H1=H.set k b/\∀H',H'[k]? = H[k]? -> Lu E H' t a v=some (H'.set k b):=by
 unfold OO at q;split at q
 ·rename_i id i off tot;simp only[Bool.and_eq_true,beq_iff_eq]at q;obtain⟨rfl,q⟩:=q;cases hb:DZ H id tot with
  | none=>rw[hb]at q;cases q
  | some b=>
   rw[hb]at q;simp only[Bool.not_eq_true']at q;have D:id<H.length:=by
    unfold DZ at hb;cases I:H[id]? with
    | none=>rw[I]at hb;cases hb
    | some b0=>exact(List.getElem?_eq_some_iff.1 I).1
   have A : ∀H' : Heap,H'[id]? = H[id]? -> DZ H' id tot=some b:=fun H' C=>by
    unfold DZ at *;rw[C];exact hb
   unfold Lu at h;cases z:E.ti t with
   | none=>simp only[z]at h;cases h
   | some M=>
    simp only[z,hb]at h;cases G:b.xs[i]? with
    | none=>simp only[G]at h;cases h
    | some x=>
     simp only[G,q,Bool.false_eq_true,if_false]at h;split at h
     ·rename_i hc;cases F:KX x off v.cells with
      | none=>simp only[F]at h;cases h
      | some N =>
       simp only[F]at h;split at h
       ·rename_i J;simp only[Option.some.injEq]at h;refine⟨_,D,h.symm,fun H' C=>?_⟩;unfold Lu;simp only[z,A H' C,G,q,Bool.false_eq_true,if_false,if_pos hc,F,if_pos J]
       ·cases h
     ·cases h
 ·unfold Lu at h;split at h<;>cases h
 ·cases q
theorem Zsj {H H1:Heap} {k0:Nat} {t u:TypeId} {a x r:V} {k:Nat} (z:OO H a k=true) (h:Lp E k0 H t u a x=some (r,H1)) :
  ∃b,k<H.length/\H1=H.set k b/\∀k' H',H'[k]? = H[k]? -> DW (DC x) H H' -> Lp E k' H' t u a x=some (r,H'.set k b):=by
 unfold OO at z;split at z
 ·unfold Lp at h;split at h
  ·split at h
   ·split at h
    ·cases h
    ·cases h
   ·cases h
  ·cases h
 ·rename_i id off len tot;simp only[Bool.and_eq_true,beq_iff_eq]at z;obtain⟨rfl,z⟩:=z;have F:id<H.length:=by
   cases Q:H[id]? with
   | none=>rw[Q]at z;cases z
   | some b0=>exact(List.getElem?_eq_some_iff.1 Q).1
  unfold Lp at h;split at h
  ·rename_i e sz by' z0 I;split at h
   ·rename_i S ys C J M;split at h
    ·rename_i q;simp only at h;cases hb:DZ H id tot with
     | none=>rw[hb]at h;cases h
     | some b=>
      simp only[hb]at h;split at h
      ·rename_i hc;split at h
       ·rename_i D;simp only[Option.some.injEq,Prod.mk.injEq]at h;obtain⟨rfl,rfl⟩:=h;refine⟨_,F,rfl,fun k' H' O G=>?_⟩;have A : DZ H' id tot=some b:=by
         unfold DZ at *;rw[O];exact hb
        unfold Lp;simp only[I,C,J,oH G,M,pK G];rw[if_pos q];simp only[A];rw[if_pos hc,if_pos D]
       ·cases h
      ·rename_i N;split at h
       ·rename_i hc;simp only[Option.some.injEq,Prod.mk.injEq]at h;obtain⟨rfl,rfl⟩:=h;refine⟨_,F,rfl,fun k' H' O G=>?_⟩;have A : DZ H' id tot=some b:=by
         unfold DZ at *;rw[O];exact hb
        unfold Lp;simp only[I,C,J,oH G,M,pK G];rw[if_pos q];simp only[A];rw[if_neg N,if_pos hc]
       ·cases h
    ·cases h
   ·cases h
  ·cases h
 ·cases z
theorem rX {ids:List Nat} {nb:Option Box} {k k' : Nat} {H:Heap} {b:Box} (A:nb.isSome=true->k' < H.length/\k' ≠k) (q:k∉ids):eff ids nb k' (H.set k b)=(eff ids nb k' H).set k b:=by
 apply List.ext_getElem?;intro i;rw[PN (H:=H.set k b) (fun h=>by rw[List.length_set];exact(A h).1),List.getElem?_set,List.getElem?_set,Ug (fun h=>(A h).1),PN (fun h=>(A h).1)]
 by_cases z:k=i
 ·subst z;simp only[if_true];cases nb with
  | none=>
   simp only;split
   ·simp[IC,q]
   ·rfl
  | some b2=>
   have:¬k=k' :=fun e=>(A rfl).2 e.symm;simp only[this,if_false];split
   ·simp[IC,q]
   ·rfl
 ·simp only[z,if_false];cases nb<;>rfl
theorem Ze0 {ids:List Nat} {nb:Option Box} {k k' : Nat} {H:Heap} (z:nb.isSome=true->k' < H.length/\k' ≠k) (q:k∉ids):(eff ids nb k' H)[k]? = H[k]?:=by
 rw[PN (fun h=>(z h).1)];cases nb with
 | none=>
  simp only;cases H[k]? with
  | none=>rfl
  | some b=>simp[IC,q]
 | some b2=>
  have:¬k=k' :=fun e=>(z rfl).2 e.symm;simp only[this,if_false];cases H[k]? with
  | none=>rfl
  | some b=>simp[IC,q]
theorem ZcH {k i:Nat} {t:Nat⊕Nat} {o:Oper} {s:List V} {H H1:Heap} {v:V} (ht:Va E ops o=some t) (S:(i,t)∈lt) (q:GX E ms lt s0 base i s H o=true) (h:F6 call E ops k o ⟨s,H⟩=some (v,H1)) :
  ∃b n,P8 base s0 t=some n/\n∈ED E s o/\n<H.length/\H1=H.set n b/\∀k' H',H'[n]? = H[n]? -> DW (ED E s o) H H' -> F6 call E ops k' o ⟨s,H'⟩=some (v,H'.set n b):=by
 obtain⟨_,hg,⟨d,Y⟩⟩:=Qa ht;unfold GX at q;rw[List.all_eq_true]at q;have q:=q _ S;cases hn:P8 base s0 t with
 | none=>simp only[hn]at q;cases q
 | some n=>
  simp only[hn,if_true]at q;unfold addrOf at q;simp only[Y]at q;have A:n∈ED E s o:=by
   unfold ED;rw[List.mem_flatMap];refine⟨.tmp d,by simpa using Z9f Y,?_⟩;unfold OO at q;split at q
   ·rename_i F;simp only[Bool.and_eq_true,beq_iff_eq]at q;rw[F,<- q.1];simp[DC,EE]
   ·rename_i F;simp only[Bool.and_eq_true,beq_iff_eq]at q;rw[F,<- q.1];simp[DC,EE]
   ·cases q
  unfold F6 at h ⊢;simp only[hg]at h ⊢;rcases Z16 Y with ⟨t',x,C⟩|⟨c,x,C,O,I⟩
  ·unfold BP at h ⊢;simp only[C]at h ⊢;cases G:Lu E H t' (ev E s (.tmp d)) (ev E s x) with
   | none=>rw[G]at h;cases h
   | some H2=>
    rw[G]at h;simp only[Option.map_some,Option.some.injEq,Prod.mk.injEq]at h;obtain⟨rfl,rfl⟩:=h;obtain⟨b,z,M,N⟩:=Zu8 q G;exact⟨b,n,rfl,A,z,M,fun k' H' F _=>by rw[N H' F];rfl⟩
  ·have D:evs E s c.args=[ev E s (.tmp d),ev E s x]:=by unfold evs;rw[I];rfl
   unfold BP at h ⊢;simp only[C,O,D]at h ⊢;unfold PI at h ⊢;split at h
   ·rename_i z _;cases z
   ·rename_i a y t' u' hb J he2;simp only[List.cons.injEq,and_true]at J;obtain⟨rfl,rfl⟩:=J;obtain⟨b,z,M,N⟩:=Zsj q h;refine⟨b,n,rfl,A,z,M,fun k' H' F hs=>N k' H' F (fun id Q=>hs id ?_)⟩;unfold ED;rw[List.mem_flatMap];have:x∈c.args:=by
     have:x∈c.args.toList:=by rw[I];simp
     simpa using this
    exact⟨x,by simp[C,Op.operands,Call.operands,this],Q⟩
   ·rename_i z _ _;cases z
   ·rename_i z;cases z
   ·rename_i z;cases z
   ·cases h
theorem Zcb {i x n:Nat} {t:Nat⊕Nat} {o:Oper} {s:List V} {H:Heap} (C:(x,t)∈lt) (D:x≠i) (F:needs E o=true) (A:(ms.getD i 0).testBit x=false) (q : (ms.getD x 0).testBit i=false) (G:P8 base s0 t=some n)
  (z:GX E ms lt s0 base i s H o=true):n∉ED E s o:=by
 unfold GX at z;rw[List.all_eq_true]at z;have z:=z _ C;simp only[G,if_neg D,F,linked,A,q,Bool.or_self,Bool.not_true,Bool.false_or,Bool.not_eq_true']at z;simpa using z
theorem Zeg {k:Nat} {o:Oper} {s:List V} {H H1:Heap} {v:V} (hc:Bi E o = .s) (h:F6 call E ops k o ⟨s,H⟩=some (v,H1)):H1=H/\∀H' k',F6 call E ops k' o ⟨s,H'⟩=some (v,H'):=by
 unfold F6 at *;cases C:o.guard with
 | none=>simp only[C]at h ⊢;exact Z4p hc h
 | some D=>
  obtain⟨j,z⟩:=D;simp only[C]at h ⊢;cases A:(ops[j]?).bind (·.dst) with
  | none=>simp[A]at h
  | some d=>
   simp only[A]at h ⊢;cases q:OM (s.getD d .und) z with
   | none=>rw[q]at h;cases h
   | some r=>
    rw[q]at h;cases r with
    | true=>simp only at h ⊢;exact Z4p hc h
    | false=>
     simp only[Option.some.injEq,Prod.mk.injEq]at h ⊢;exact⟨h.2.symm,fun H' k' =>⟨h.1,trivial⟩⟩
theorem VF (q:sK E call) {k:Nat} {o:Oper} {s:List V} {H H1:Heap} {v:V} (hc:Bi E o≠.w) (z:Bi E o≠.c) (G:quietAt E s o=true) (h:F6 call E ops k o ⟨s,H⟩=some (v,H1)) :
  ∃ids nb,(∀i∈ids,i∈ED E s o)/\(nb.isSome=true->Bi E o = .a)/\H1=eff ids nb k H /\
   ∀H' k',(Bi E o = .a->k' = k)->DW (ED E s o) H H' -> F6 call E ops k' o ⟨s,H'⟩=some (v,eff ids nb k' H'):=by
 unfold F6 at *;cases F:o.guard with
 | none=>simp only[F]at h ⊢;exact Zdw q hc z G h
 | some I=>
  obtain⟨j,C⟩:=I;simp only[F]at h ⊢;cases D:(ops[j]?).bind (·.dst) with
  | none=>simp[D]at h
  | some d=>
   simp only[D]at h ⊢;cases A:OM (s.getD d .und) C with
   | none=>rw[A]at h;cases h
   | some r=>
    rw[A]at h;cases r with
    | true=>simp only at h ⊢;exact Zdw q hc z G h
    | false=>
     simp only[Option.some.injEq,Prod.mk.injEq]at h ⊢;exact⟨[],none,by simp,by simp,h.2.symm,fun H' k' _ _=>⟨h.1,rfl⟩⟩
theorem qJ (q:tZ E call) {k:Nat} {o:Oper} {s:List V} {H H1:Heap} {v:V} (hc:Bi E o = .c) (h:F6 call E ops k o ⟨s,H⟩=some (v,H1)) :
  ∃ids A,(∀i∈ids,i∈ED E s o)/\H1=bump H ids++A/\∀H' k',H'.length=H.length->DW (ED E s o) H H' -> F6 call E ops k' o ⟨s,H'⟩=some (v,bump H' ids++A):=by
 unfold F6 at *;cases F:o.guard with
 | none=>simp only[F]at h ⊢;exact ZcK q hc h
 | some G=>
  obtain⟨j,C⟩:=G;simp only[F]at h ⊢;cases D:(ops[j]?).bind (·.dst) with
  | none=>simp[D]at h
  | some d=>
   simp only[D]at h ⊢;cases z:OM (s.getD d .und) C with
   | none=>rw[z]at h;cases h
   | some r=>
    rw[z]at h;cases r with
    | true=>simp only at h ⊢;exact ZcK q hc h
    | false=>
     simp only[Option.some.injEq,Prod.mk.injEq]at h ⊢;exact⟨[],[],by simp,by rw[List.append_nil];exact h.2.symm,fun H' k' _ _=>⟨h.1,by rw[List.append_nil];rfl⟩⟩
theorem Z9H {ids:List Nat} {H:Heap} (ys:List Box) (h:∀i∈ids,i<H.length):bump (H++ys) ids=bump H ids++ys:=by
 apply List.ext_getElem?;intro i;rw[KR,List.getElem?_append,List.getElem?_append,bump_length,KR]
 by_cases q:i<H.length
 ·rw[if_pos q,if_pos q]
 ·have:i∉ids:=fun hm=>q (h i hm);rw[if_neg q,if_neg q];cases ys[i - H.length]? with
  | none=>rfl
  | some b=>simp[this]
theorem ZaP {ids:List Nat} {nb:Option Box} {k:Nat} {H:Heap} (ys:List Box) (h:∀i∈ids,i<H.length) (q:nb.isSome=true->k<H.length):eff ids nb k (H++ys)=eff ids nb k H++ys:=by
 cases nb with
 | none=>exact Z9H ys h
 | some b=>
  have q:=q rfl;simp only[eff,place,Z9H ys h,List.length_append,bump_length];rw[if_pos (by omega),if_pos q,List.set_append_left _ _ (by rw[bump_length];exact q)]
theorem pG {R:List Nat} {H H' : Heap} (ys:List Box) (h:DW R H H') (z:∀i∈R,i<H'.length):DW R H (H' ++ys):=by
 intro i q;rw[List.getElem?_append_left (z i q)];exact h i q
theorem Q3 (R ids:List Nat) (H:Heap):DW R H (bump H ids):=by
 have:=Si (R:=R) (ids:=ids) (nb:=none) (k:=0) (H:=H) (fun h=>by cases h);exact this
theorem Zdn {R:List Nat} {H:Heap} {n:Nat} {b:Box} (h:n∉R):DW R H (H.set n b):=by
 intro i q;rw[List.getElem?_set_ne (fun e=>h (by rw[e];exact q))]
theorem DW.trans {R:List Nat} {H H' H2:Heap} (h:DW R H H') (k:DW R H' H2):DW R H H2:=fun i q=>(h i q).trans (k i q)
theorem ZoT {s:List V} {d e:Option Tmp} {v u:V} (h:∀x,d=some x->e≠some x):setSlot (setSlot s d v) e u=setSlot (setSlot s e u) d v:=by
 cases d with
 | none=>rfl
 | some d=>
  cases e with
  | none=>rfl
  | some e=>
   have:d≠e:=fun q=>h d rfl (by rw[q]);simp only[setSlot];exact List.set_comm v u this
theorem Zwe (hcalls:OC E call) (hm:∀i o,ops[i]? = some o->Bi E o = .a->i<m) {x y:Nat} {ox oy:Oper} (hx:ops[x]? = some ox) (hy:ops[y]? = some oy) (hxy:x≠y)
  (O:(eF E ops ox oy||(NH E ops lt x ox oy||NH E ops lt y oy ox))=true) (hlt:∀x t,(x,t)∈lt->∃ox,ops[x]? = some ox/\Va E ops ox=some t) (hbit:(ms.getD y 0).testBit x=false) (hbit' : (ms.getD x 0).testBit y=false) {st st1 st2:St}
  (h1:Ht call E ops ms lt s0 base m x st=some st1) (h2:Ht call E ops ms lt s0 base m y st1=some st2) :
  ∃st1',Ht call E ops ms lt s0 base m y st=some st1' /\ Ht call E ops ms lt s0 base m x st1' = some st2:=by
 have Q:=hcalls.pure;have hfree:=hcalls.free;have hap:ox.apart ops oy=true\/oy.apart ops ox=true:=by
  simp only[Bool.or_eq_true,eF,NH,Bool.and_eq_true]at O;rcases O with h|h|h
  ·exact .inl h.2
  ·exact .inl h.1
  ·exact .inr h.1
 have hsp:(∀d,ox.dst=some d->d∉oy.looksAt ops)/\(∀d,ox.dst=some d->oy.dst≠some d)/\(∀d,oy.dst=some d->d∉ox.looksAt ops):=by
  rcases hap with h|h
  ·exact Oper.apart_spec h
  ·obtain⟨b1,b2,b3⟩:=Oper.apart_spec h;exact⟨b3,fun d h1 h2=>b2 d h2 h1,b1⟩
 obtain⟨a1,a2,a3⟩:=hsp;obtain⟨s1,⟨l1,c1⟩,d1,vx,Hx,e1,rfl⟩:=(pY hx).1 h1;obtain⟨s2,⟨l2,c2⟩,d2,vy,Hy,e2,rfl⟩:=(pY hy).1 h2;obtain⟨s,H⟩:=st;simp only at *;rw[Zd5 a1]at e2;rw[ZbR a1]at l2;have M : P7 E ops ms base m y s oy:=by unfold P7 at *;rw[Z2V a1,Zal a1]at s2;exact s2
 have s1' : P7 E ops ms base m x (setSlot s oy.dst vy) ox:=by unfold P7 at *;rw[Z2V a3,Zal a3];exact s1
 have keptx:Bi E ox = .a->base+x<H.length:=fun hc=>by
  obtain⟨b,hb,_⟩:=d1 hc;exact(List.getElem?_eq_some_iff.1 hb).1
 have nox:Bi E ox = .a->base+x∉ED E s oy:=fun hc A=>by
  rcases M.1 _ A with h|⟨h,_⟩|⟨_,h⟩
  ·omega
  ·have:=hm x ox hx hc;omega
  ·rw[show base+x - base=x by omega,hbit]at h;cases h
 have noy:Bi E oy = .a->base+y∉ED E s ox:=fun hc A=>by
  rcases s1.1 _ A with h|⟨h,_⟩|⟨_,h⟩
  ·omega
  ·have:=hm y oy hy hc;omega
  ·rw[show base+y - base=y by omega,hbit']at h;cases h
 have seex:Bi E oy = .c->∀id∈ED E s ox,id<base+m:=fun hc id hid=>by
  rcases s1.1 id hid with h|⟨_,h⟩|⟨h,_⟩
  ·omega
  ·exfalso;unfold VW at h;rw[List.all_eq_true]at h;have:=h y (by simpa using (Array.getElem?_eq_some_iff.1 hy).1);simp only[hy,hc,linked,hbit,hbit',decide_true,Bool.not_true,Bool.or_self,Bool.or_false,beq_iff_eq]at this;exact hxy this.symm
  ·exact h
 have seey:Bi E ox = .c->∀id∈ED E s oy,id<base+m:=fun hc id hid=>by
  rcases M.1 id hid with h|⟨_,h⟩|⟨h,_⟩
  ·omega
  ·exfalso;unfold VW at h;rw[List.all_eq_true]at h;have:=h x (by simpa using (Array.getElem?_eq_some_iff.1 hx).1);simp only[hx,hc,linked,hbit,hbit',decide_true,Bool.not_true,Bool.or_self,Bool.or_false,beq_iff_eq]at this;exact hxy this
  ·exact h
 have fin:∀(N : Heap),P7 E ops ms base m y s oy->(GX E ms lt s0 base y s H oy=true/\(Bi E oy = .c->base+m<=H.length))->(Bi E oy = .a->∃b,H[base+y]? = some b/\b.live=false)->F6 call E ops (DR E oy base y H) oy ⟨s,H⟩=some (vy,N) ->
   (GX E ms lt s0 base x s N ox=true/\(Bi E ox = .c->base+m<=N.length))->(Bi E ox = .a->∃b,N[base+x]? = some b/\b.live=false)->F6 call E ops (DR E ox base x N) ox ⟨s,N⟩=some (vx,Hy) ->
   ∃st1',Ht call E ops ms lt s0 base m y ⟨s,H⟩=some st1' /\ Ht call E ops ms lt s0 base m x st1' = some ⟨setSlot (setSlot s ox.dst vx) oy.dst vy,Hy⟩:=by
  intro N g1 l3 g2 g3 l4 g4 g5;refine⟨⟨setSlot s oy.dst vy,N⟩,(pY hy).2 ⟨g1,l3,g2,vy,N,g3,rfl⟩,(pY hx).2 ⟨s1',⟨(by rw[ZbR a3];exact l4.1),l4.2⟩,g4,vx,Hy,?_,?_⟩⟩
  ·rw[Zd5 a3];exact g5
  ·rw[ZoT a2]
 have q:∀(z:Nat) (oz:Oper),ops[z]? = some oz->Bi E oz≠.w->∀t,(z,t)∉lt:=by
  intro z oz hz hc t A;obtain⟨o',ho',ht'⟩:=hlt z t A;rw[hz]at ho';cases ho';exact hc (Qa ht').1
 cases hlx:NH E ops lt x ox oy with
 | true=>
  unfold NH at hlx;simp only[Bool.and_eq_true,List.any_eq_true,beq_iff_eq]at hlx;obtain⟨_,hny,⟨x',t⟩,A,hx'⟩:=hlx;simp only at hx';subst hx';obtain⟨ox',hox',htx⟩:=hlt _ t A;rw[hx]at hox';cases hox';have hnw:=Zds hny;obtain⟨b,n,hn,hnin,hnlt,rfl,f3⟩:=ZcH htx A l1 e1;have hjy:n∉ED E s oy:=Zcb A hxy hny hbit hbit' hn l2;have late1:∀N : Heap,N[n]? = H[n]? -> GX E ms lt s0 base x' s N ox=true:=fun N J=>by
   refine ZaH (fun p hp k he hk=>?_) l1;obtain⟨o',ho',ht'⟩:=hlt p.1 p.2 hp;rw[he,hx]at ho';cases ho';rw[htx]at ht';cases ht';rw[hn]at hk;cases hk;exact J
  have ncx:Bi E ox = .c->False:=fun hc=>by rw[(Qa htx).1]at hc;cases hc
  by_cases I:Bi E oy = .c
  ·obtain⟨idy,S,y1,rfl,y4⟩:=qJ hfree I e2;have hl:base+m<=H.length:=by have:=c2 I;rw[List.length_set]at this;exact this
   have F:n∉idy:=fun h=>hjy (y1 _ h);have g3:=y4 H (DR E oy base y H) (by rw[List.length_set]) (Zdn hjy).symm;have J:(bump H idy++S)[n]? = H[n]?:=by
    rw[List.getElem?_append_left (by rw[bump_length];exact hnlt),KR];cases H[n]? with
    | none=>rfl
    | some b=>simp[F]
   refine fin _ M ⟨La (q y oy hy hnw) l2,fun _=>hl⟩ (fun hc=>by rw[I]at hc;cases hc) g3 ⟨late1 _ J,fun hc=>(ncx hc).elim⟩ (fun hc=>by rw[(Qa htx).1]at hc;cases hc) ?_;rw[f3 _ _ J (pG S (Q3 _ _ _) (fun i hi=>by rw[bump_length];exact Nat.lt_of_lt_of_le (seex I i hi) hl))];congr 2;rw[List.set_append_left _ _ (by rw[bump_length];exact hnlt)];congr 1;have:=rX (ids:=idy) (nb:=none) (k' :=0) (H:=H) (b:=b) (k:=n) (fun h=>by cases h) F;exact this.symm
  have hne:Bi E oy = .a->base+y≠n:=fun hc e=>noy hc (by rw[e];exact hnin);obtain⟨idy,C,y1,y2,rfl,y4⟩:=VF Q hnw I M.2 e2;have hkH:DR E oy base y (H.set n b)=DR E oy base y H:=by unfold DR;rw[List.length_set]
  have Y:Bi E oy = .a->∃b,H[base+y]? = some b/\b.live=false:=fun hc=>by
   obtain⟨b',hb',hd⟩:=d2 hc;rw[List.getElem?_set_ne (fun e=>hne hc e.symm)]at hb';exact⟨b',hb',hd⟩
  have hyl:C.isSome=true->DR E oy base y H<H.length/\DR E oy base y H≠n:=fun h=>by
   have hc:=y2 h;obtain⟨b',hb',_⟩:=Y hc;have:=(List.getElem?_eq_some_iff.1 hb').1;unfold DR;rw[if_pos hc];exact⟨this,hne hc⟩
  have F:n∉idy:=fun h=>hjy (y1 _ h);have g3:=y4 H (DR E oy base y H) (fun hc=>by rw[hkH]) (fun i hi=>by rw[List.getElem?_set_ne (fun e=>hjy (by rw[e];exact hi))]);have J:=Ze0 (H:=H) hyl F;refine fin _ M ⟨La (q y oy hy hnw) l2,fun hc=>absurd hc I⟩ Y g3 ⟨late1 _ J,fun hc=>(ncx hc).elim⟩ (fun hc=>by rw[(Qa htx).1]at hc;cases hc) ?_;rw[f3 _ _ J (Si (fun h=>⟨(hyl h).1,by
    have hk:DR E oy base y H=base+y:=by simp[DR,y2 h]
    rw[hk];exact noy (y2 h)⟩)),hkH,rX hyl F]
 | false=>
 cases hly:NH E ops lt y oy ox with
 | true=>
  unfold NH at hly;simp only[Bool.and_eq_true,List.any_eq_true,beq_iff_eq]at hly;obtain⟨_,hnx,⟨y',t⟩,A,hy'⟩:=hly;simp only at hy';subst hy';obtain⟨oy',hoy',hty⟩:=hlt _ t A;rw[hy]at hoy';cases hoy';have hnw:=Zds hnx;obtain⟨b,n,hn,hnin,hnlt,rfl,f3⟩:=ZcH hty A l2 e2;have hjx:n∉ED E s ox:=Zcb A (Ne.symm hxy) hnx hbit' hbit hn l1;have late2:Hx[n]? = H[n]? -> GX E ms lt s0 base y' s H oy=true:=fun J=>by
   refine ZaH (fun p hp k he hk=>?_) l2;obtain⟨o',ho',ht'⟩:=hlt p.1 p.2 hp;rw[he,hy]at ho';cases ho';rw[hty]at ht';cases ht';rw[hn]at hk;cases hk;exact J.symm
  have ncy:Bi E oy = .c->False:=fun hc=>by rw[(Qa hty).1]at hc;cases hc
  by_cases G:Bi E ox = .c
  ·obtain⟨idx,S,x1,rfl,x4⟩:=qJ hfree G e1;have hl:base+m<=H.length:=c1 G;have hnl:n<H.length:=Nat.lt_of_lt_of_le (seey G n hnin) hl;have F:n∉idx:=fun h=>hjx (x1 _ h);have J:(bump H idx++S)[n]? = H[n]?:=by
    rw[List.getElem?_append_left (by rw[bump_length];exact hnl),KR];cases H[n]? with
    | none=>rfl
    | some b=>simp[F]
   refine fin _ M ⟨late2 J,fun hc=>(ncy hc).elim⟩ (fun hc=>by rw[(Qa hty).1]at hc;cases hc) (f3 _ H J.symm (pG S (Q3 _ _ _) (fun i hi=>by rw[bump_length];exact Nat.lt_of_lt_of_le (seey G i hi) hl)).symm)
    ⟨La (q x ox hx hnw) l1,fun _=>by rw[List.length_set];exact hl⟩ (fun hc=>by rw[G]at hc;cases hc) ?_
   rw[x4 _ _ (by rw[List.length_set]) (Zdn hjx)];congr 2;rw[List.set_append_left _ _ (by rw[bump_length];exact hnl)];congr 1;have:=rX (ids:=idx) (nb:=none) (k' :=0) (H:=H) (b:=b) (k:=n) (fun h=>by cases h) F;exact this
  obtain⟨idx,D,x1,x2,rfl,x4⟩:=VF Q hnw G s1.2 e1;have hne:Bi E ox = .a->base+x≠n:=fun hc e=>nox hc (by rw[e];exact hnin);have hxl:D.isSome=true->DR E ox base x H<H.length/\DR E ox base x H≠n:=fun h=>by
   have hc:=x2 h;have:=keptx hc;unfold DR;rw[if_pos hc];exact⟨this,hne hc⟩
  have F:n∉idx:=fun h=>hjx (x1 _ h);have J:=Ze0 (H:=H) hxl F;have hkS:DR E ox base x (H.set n b)=DR E ox base x H:=by unfold DR;rw[List.length_set]
  have hsy:DW (ED E s oy) (eff idx D (DR E ox base x H) H) H:=(Si (fun h=>⟨(hxl h).1,by
   have hk:DR E ox base x H=base+x:=by simp[DR,x2 h]
   rw[hk];exact nox (x2 h)⟩)).symm
  refine fin _ M ⟨late2 J,fun hc=>(ncy hc).elim⟩ (fun hc=>by rw[(Qa hty).1]at hc;cases hc) (f3 _ H J.symm hsy) ⟨La (q x ox hx hnw) l1,fun hc=>absurd hc G⟩ (fun hc=>?_) ?_
  ·obtain⟨b',hb',hd⟩:=d1 hc;exact⟨b',by rw[List.getElem?_set_ne (fun e=>hne hc e.symm)];exact hb',hd⟩
  ·rw[x4 _ _ (fun hc=>by rw[hkS]) (fun i hi=>by rw[List.getElem?_set_ne (fun e=>hjx (by rw[e];exact hi))]),hkS,rX hxl F]
 | false=>
 rw[hlx,hly,Bool.or_false,Bool.or_false]at O;unfold eF at O;simp only[Bool.and_eq_true]at O;have hcomp:=O.1
 by_cases hcx:Bi E ox = .s
 ·obtain⟨f1,f2⟩:=Zeg hcx e1;subst f1;exact fin Hy M ⟨l2,c2⟩ d2 e2 ⟨La (q x ox hx (by rw[hcx];intro h;cases h)) l1,fun hc=>by rw[hcx]at hc;cases hc⟩ (fun hc=>by rw[hcx]at hc;cases hc) (f2 _ _)
 by_cases hcy:Bi E oy = .s
 ·obtain⟨f1,f2⟩:=Zeg hcy e2;subst f1;exact fin H M ⟨La (q y oy hy (by rw[hcy];intro h;cases h)) l2,fun hc=>by rw[hcy]at hc;cases hc⟩ (fun hc=>by rw[hcy]at hc;cases hc) (f2 _ _) ⟨l1,c1⟩ d1 e1
 have hwx:Bi E ox≠.w:=fun hw=>by rw[hw]at hcomp;cases hh:Bi E oy<;>simp_all [Z41]
 have hwy:Bi E oy≠.w:=fun hw=>by rw[hw]at hcomp;cases hh:Bi E ox<;>simp_all [Z41]
 by_cases G:Bi E ox = .c
 ·have I:Bi E oy≠.c:=fun hc=>by rw[G,hc]at hcomp;cases hcomp
  obtain⟨idx,S,x1,rfl,x4⟩:=qJ hfree G e1;obtain⟨idy,C,y1,y2,rfl,y4⟩:=VF Q hwy I M.2 e2;have hl:base+m<=H.length:=c1 G;have hry:∀i∈ED E s oy,i<H.length:=fun i hi=>Nat.lt_of_lt_of_le (seey G i hi) hl;have kyl:C.isSome=true->base+y<H.length:=fun h=>by have:=hm y oy hy (y2 h);omega
  have g3:=y4 H (DR E oy base y H) (fun hc=>by simp[DR,hc]) (pG S (Q3 _ _ _) (fun i hi=>by rw[bump_length];exact hry i hi)).symm;have hke:∀H' : Heap,eff idy C (DR E oy base y H')=eff idy C (base+y):=fun H' =>by
   cases hnb:C with
   | none=>rfl
   | some b=>simp[DR,y2 (by rw[hnb];rfl)]
  rw[hke]at g3;have kyn:C.isSome=true->base+y∉ED E s ox:=fun h=>noy (y2 h);have hlen:(eff idy C (base+y) H).length=H.length:=Ug kyl;have dy:Bi E oy = .a->∃b,H[base+y]? = some b/\b.live=false:=fun hc=>by
   obtain⟨b,hb,hd⟩:=d2 hc;have hlt:base+y<H.length:=by have:=hm y oy hy hc;omega
   rw[List.getElem?_append_left (by rw[bump_length];exact hlt),KR]at hb;cases hh:H[base+y]? with
   | none=>simp[hh]at hb
   | some b0=>
    simp only[hh,Option.map_some,Option.some.injEq]at hb;refine⟨b0,rfl,?_⟩;subst hb;split at hd<;>exact hd
  refine fin _ M ⟨La (q y oy hy hwy) l2,fun hc=>absurd hc I⟩ dy g3 ⟨La (q x ox hx hwx) l1,fun _=>by rw[hlen];exact hl⟩ (fun hc=>by rw[G]at hc;cases hc) ?_;rw[x4 _ _ hlen (Si (fun h=>⟨kyl h,kyn h⟩)),hke];congr 2;rw[ZaP S (fun i hi=>by rw[bump_length];exact hry i (y1 i hi)) (fun h=>by rw[bump_length];exact kyl h)];congr 1;have:=Z3f (Ez:=idx) (ids2:=idy) (nb1:=none) (nb2:=C) (k1:=0) (k2:=base+y) (H:=H) (fun h=>by cases h) (fun h=>⟨kyl h,fun A=>kyn h (x1 _ A)⟩) (fun h=>by cases h);exact this
 by_cases I:Bi E oy = .c
 ·obtain⟨idx,D,x1,x2,rfl,x4⟩:=VF Q hwx G s1.2 e1;obtain⟨idy,S,y1,rfl,y4⟩:=qJ hfree I e2;have kxl:D.isSome=true->base+x<H.length:=fun h=>keptx (x2 h);have hke:∀H' : Heap,eff idx D (DR E ox base x H')=eff idx D (base+x):=fun H' =>by
   cases hnb:D with
   | none=>rfl
   | some b=>simp[DR,x2 (by rw[hnb];rfl)]
  rw[hke]at c2 y4;have hlen:(eff idx D (base+x) H).length=H.length:=Ug kxl;have hl:base+m<=H.length:=by have:=c2 I;rw[hlen]at this;exact this
  have hrx:∀i∈ED E s ox,i<H.length:=fun i hi=>Nat.lt_of_lt_of_le (seex I i hi) hl;have g3:=y4 H (DR E oy base y H) hlen.symm (Si (fun h=>⟨kxl h,nox (x2 h)⟩)).symm;refine fin _ M ⟨La (q y oy hy hwy) l2,fun _=>hl⟩ (fun hc=>by rw[I]at hc;cases hc) g3 ⟨La (q x ox hx hwx) l1,fun hc=>absurd hc G⟩ (fun hc=>?_) ?_
  ·obtain⟨b,hb,hd⟩:=d1 hc;have hlt:=keptx hc;rw[List.getElem?_append_left (by rw[bump_length];exact hlt),KR,hb];refine⟨_,rfl,?_⟩;simp only;split<;>exact hd
  ·rw[x4 _ (DR E ox base x (bump H idy++S)) (fun hc=>by simp[DR,hc]) (pG S (Q3 _ _ _) (fun i hi=>by rw[bump_length];exact hrx i hi)),hke,hke];congr 2;rw[ZaP S (fun i hi=>by rw[bump_length];exact hrx i (x1 i hi)) (fun h=>by rw[bump_length];exact kxl h)];congr 1;have:=Z3f (Ez:=idx) (ids2:=idy) (nb1:=D) (nb2:=none) (k1:=base+x) (k2:=0) (H:=H) (fun h=>⟨kxl h,fun A=>nox (x2 h) (y1 _ A)⟩) (fun h=>by cases h) (fun _ h=>by cases h);exact this
 obtain⟨idx,D,x1,x2,rfl,x4⟩:=VF Q hwx G s1.2 e1;obtain⟨idy,C,y1,y2,rfl,y4⟩:=VF Q hwy I M.2 e2;have kx:D.isSome=true->DR E ox base x H=base+x:=fun h=>by simp[DR,x2 h]
 have hxlt:D.isSome=true->DR E ox base x H<H.length:=fun h=>by rw[kx h];exact keptx (x2 h)
 have hlen:=Ug (ids:=idx) hxlt;have ky:C.isSome=true->∀H',DR E oy base y H' = base+y:=fun h H' =>by simp[DR,y2 h]
 have simx:DW (ED E s oy) (eff idx D (DR E ox base x H) H) H:=(Si (fun h=>⟨hxlt h,by rw[kx h];exact nox (x2 h)⟩)).symm;have Y:Bi E oy = .a->∃b,H[base+y]? = some b/\b.live=false:=fun hc=>
  (ZcQ (fun h=>⟨hxlt h,by rw[kx h];omega⟩)).1 (d2 hc)
 have hylt:Bi E oy = .a->base+y<H.length:=fun hc=>by
  obtain⟨b,hb,_⟩:=Y hc;exact(List.getElem?_eq_some_iff.1 hb).1
 have g3:=y4 H (DR E oy base y H) (fun hc=>by simp[DR,hc]) simx;have hylt' : C.isSome=true->DR E oy base y H<H.length:=fun h=>by rw[ky h];exact hylt (y2 h)
 refine fin _ M ⟨La (q y oy hy hwy) l2,fun hc=>absurd hc I⟩ Y g3 ⟨La (q x ox hx hwx) l1,fun hc=>absurd hc G⟩ (fun hc=>(ZcQ (fun h=>⟨hylt' h,by rw[ky h];omega⟩)).2 (d1 hc)) ?_;have simy:DW (ED E s ox) H (eff idy C (DR E oy base y H) H):=Si (fun h=>⟨hylt' h,by rw[ky h];exact noy (y2 h)⟩);have g5:=x4 _ (DR E ox base x (eff idy C (DR E oy base y H) H)) (fun hc=>by simp[DR,hc]) simy;rw[g5];have hk1:D.isSome=true->DR E ox base x (eff idy C (DR E oy base y H) H)=base+x:=fun h=>by simp[DR,x2 h]
 have hkx:eff idx D (DR E ox base x (eff idy C (DR E oy base y H) H)) (eff idy C (DR E oy base y H) H)=eff idx D (DR E ox base x H) (eff idy C (DR E oy base y H) H):=by
  cases D with
  | none=>rfl
  | some b=>rw[hk1 rfl,kx rfl]
 have hky:eff idy C (DR E oy base y (eff idx D (DR E ox base x H) H)) (eff idx D (DR E ox base x H) H)=eff idy C (DR E oy base y H) (eff idx D (DR E ox base x H) H):=by
  cases C with
  | none=>rfl
  | some b=>rw[ky rfl,ky rfl]
 rw[hkx,hky];congr 2;exact Z3f (fun h=>⟨hxlt h,by rw[kx h];exact fun A=>nox (x2 h) (y1 _ A)⟩) (fun h=>⟨hylt' h,by rw[ky h];exact fun A=>noy (y2 h) (x1 _ A)⟩) (fun h1 h2=>by rw[kx h1,ky h2];omega)
end
end Go.Proofs.YtjodhcdmhobmoaaGreatDoor.Le
namespace Go.Proofs.YtjodhcdmhobmoaaGreatDoor.Le
open Go.RowKit (Below)
theorem Zxr (acc:List Nat) (j:Nat):∀(es:List Edge) (m:Nat),(es.foldl (fun m e=>if Region.binds .any e then m ||| (1 <<< e.on) ||| acc.getD e.on 0 else m) m).testBit j=true↔
  m.testBit j=true\/∃e∈es,Region.binds .any e=true/\(j=e.on\/(acc.getD e.on 0).testBit j=true):=by
 intro es;induction es with
 | nil=>intro m;simp
 | cons e es q=>
  intro m;rw[List.foldl_cons,q]
  by_cases hb:Region.binds .any e=true
  ·simp only[hb,if_true,Nat.testBit_or,Bool.or_eq_true,Nat.one_shiftLeft,Nat.testBit_two_pow,decide_eq_true_eq,List.mem_cons,exists_eq_or_imp,true_and];constructor
   ·rintro (((h|h)|h)|h)
    ·exact .inl h
    ·exact .inr (.inl (.inl h.symm))
    ·exact .inr (.inl (.inr h))
    ·exact .inr (.inr h)
   ·rintro (h|(h|h)|h)
    ·exact .inl (.inl (.inl h))
    ·exact .inl (.inl (.inr h.symm))
    ·exact .inl (.inr h)
    ·exact .inr h
  ·simp only[hb,Bool.false_eq_true,if_false,List.mem_cons,exists_eq_or_imp,false_and,false_or]
theorem Zvb (q:List Nat) (o:Oper) (j:Nat):(VR q o).testBit j=true↔∃e∈o.after,Region.binds .any e=true/\(j=e.on\/(q.getD e.on 0).testBit j=true):=by
 unfold VR;rw[Zxr];simp
theorem Zb2:∀(os:List Oper) (q:List Nat) (i:Nat),i<q.length->(Ff q os)[i]? = q[i]?:=by
 intro os;induction os with
 | nil=>intro q i z;rfl
 | cons o os A=>
  intro q i z;simp only[Ff];rw[A _ i (by simp;omega),List.getElem?_append_left z]
theorem Zxq:∀(os:List Oper) (z:List Nat) (i:Nat) (o:Oper),os[i]? = some o ->
  ∃q,(Ff z os)[z.length+i]? = some (VR q o)/\q.length=z.length+i/\∀j,j<q.length->(Ff z os)[j]? = q[j]?:=by
 intro os;induction os with
 | nil=>intro z i o h;simp at h
 | cons p os G=>
  intro z i o h;cases i with
  | zero=>
   simp at h;subst h;refine⟨z,?_,rfl,fun j F=>?_⟩
   ·simp only[Ff];rw[Zb2 _ _ _ (by simp)];simp
   ·simp only[Ff];rw[Zb2 _ _ _ (by simp;omega),List.getElem?_append_left F]
  | succ i=>
   simp at h;obtain⟨q,A,C,D⟩:=G (z++[VR z p]) i o h;refine⟨q,?_,by rw[C];simp;omega,D⟩;simp only[Ff];rw[<- A];congr 1;simp;omega
section
variable {E:Env} {ops:Array Oper}
structure Zcg (E:Env) (ops:Array Oper):Prop where
 low:∀(i:Nat) (o:Oper),ops[i]? = some o->∀e∈o.after,Region.binds .any e=true->e.on<i
 bit:∀(i:Nat) (o:Oper),ops[i]? = some o->∀j,((Ff [] ops.toList).getD i 0).testBit j=true↔∃e∈o.after,Region.binds .any e=true/\(j=e.on\/((Ff [] ops.toList).getD e.on 0).testBit j=true)
 lt:∀(i j:Nat),i<ops.size->((Ff [] ops.toList).getD i 0).testBit j=true->j<i
 pass:∀(x y:Nat) (ox oy:Oper),ops[x]? = some ox->ops[y]? = some oy->x<y->((Ff [] ops.toList).getD y 0).testBit x=true\/(eF E ops ox oy||(NH E ops (Pg E ops) x ox oy||NH E ops (Pg E ops) y oy ox))=true
theorem Zog (h:tC E ops=true):Zcg E ops:=by
 unfold tC at h;simp only[List.all_eq_true,List.mem_range]at h;have q:∀(i:Nat) (o:Oper),ops[i]? = some o->∀e∈o.after,Region.binds .any e=true->e.on<i:=by
  intro i o A e z;have:=h i (Array.getElem?_eq_some_iff.1 A).1;simp only[A,Bool.and_eq_true,Array.all_eq_true_iff_forall_mem,Bool.or_eq_true,Bool.not_eq_true',decide_eq_true_eq]at this;intro hb;rcases this.1 e z with hh|hh
  ·rw[hb]at hh;cases hh
  ·exact hh
 have C:∀(i:Nat) (o:Oper),ops[i]? = some o->∀j,((Ff [] ops.toList).getD i 0).testBit j=true↔∃e∈o.after,Region.binds .any e=true/\(j=e.on\/((Ff [] ops.toList).getD e.on 0).testBit j=true):=by
  intro i o A j;obtain⟨D,M,F,N⟩:=Zxq ops.toList [] i o (by simpa using A);simp only[List.length_nil,Nat.zero_add]at M F;have G:(Ff [] ops.toList).getD i 0=VR D o:=by simp[List.getD,M]
  rw[G,Zvb];constructor
  ·rintro ⟨e,z,hb,hj⟩
   refine⟨e,z,hb,?_⟩;have:=N e.on (by rw[F];exact q i o A e z hb);rcases hj with hj|hj
   ·exact .inl hj
   ·right;simp only[List.getD]at hj ⊢;rw[this];exact hj
  ·rintro ⟨e,z,hb,hj⟩
   refine⟨e,z,hb,?_⟩;have:=N e.on (by rw[F];exact q i o A e z hb);rcases hj with hj|hj
   ·exact .inl hj
   ·right;simp only[List.getD]at hj ⊢;rw[<- this];exact hj
 refine⟨q,C,?_,?_⟩
 ·intro i;induction i using Nat.strongRecOn with
  | _ i S=>
   intro j G hj;have A:ops[i]? = some ops[i]:=by simp[G]
   obtain⟨e,z,hb,hh⟩:=(C i _ A j).1 hj;have I:=q i _ A e z hb;rcases hh with hh|hh
   ·omega
   ·have:=S e.on I j (by omega) hh;omega
 ·intro x y ox oy Q O J;have:=h y (Array.getElem?_eq_some_iff.1 O).1;simp only[O,Bool.and_eq_true,List.all_eq_true,List.mem_range,Bool.or_eq_true]at this;have:=this.2 x J;simp only[Q]at this;simpa only[Bool.or_eq_true]using this
end
section
variable {call:Dn} {E:Env} {ops:Array Oper} {ms:List Nat} {lt:List (Nat×(Nat⊕Nat))} {s0:List V} {base m:Nat}
theorem Zsd {i:Nat} {r:St}:∀(C F:List Nat) (st:St),(∀y∈C,∀st q I,Ht call E ops ms lt s0 base m y st=some q->Ht call E ops ms lt s0 base m i q=some I ->
      ∃A,Ht call E ops ms lt s0 base m i st=some A /\ Ht call E ops ms lt s0 base m y A = some I) ->
  Lt call E ops ms lt s0 base m (C++i::F) st=some r->∃q,Ht call E ops ms lt s0 base m i st=some q/\Lt call E ops ms lt s0 base m (C++F) q=some r:=by
 intro C;induction C with
 | nil=>
  intro F st _ h;simp only[List.nil_append,Lt]at h;cases D:Ht call E ops ms lt s0 base m i st with
  | none=>simp[D]at h
  | some q=>simp only[D]at h;exact⟨q,rfl,h⟩
 | cons y C Y=>
  intro F st G h;simp only[List.cons_append,Lt]at h;cases D:Ht call E ops ms lt s0 base m y st with
  | none=>simp[D]at h
  | some J=>
   simp only[D]at h;obtain⟨sb,M,N⟩:=Y F J (fun z S=>G z (List.mem_cons_of_mem _ S)) h;obtain⟨sc,O,Q⟩:=G y (by simp) st J sb D M;exact⟨sc,O,by simp only[List.cons_append,Lt,Q];exact N⟩
theorem ZAh {B:Nat} {w0:Start} {σ:Sg} {P:Program} {st st' : St} {a:Act} {w:World} (F:Cf E) (G:E.P=P) (A:JH P E B w0 call) {i:Nat} (h:Ew E B w0 σ st a w) (q:Ht call E ops ms lt s0 base m i st=some st')
  {K:Act->World->Prop} {Q:Exit->Act->World->Prop} (M:∀D w' σ',Ew E B w0 σ' st' D w' -> Ext σ w σ' w' -> K D w'):wpOp P ops Q i K a w:=by
 have z:∃k,FO st.H k=true/\Je call E ops k i st=some st' :=by
  unfold Ht at q;cases C:ops[i]? with
  | none=>
   simp only[C]at q;exact⟨st.H.length,cO _,by unfold Je;simp only[C];exact q⟩
  | some o=>
   simp only[C]at q;split at q
   ·split at q
    ·split at q
     ·rename_i b hb;split at q
      ·cases q
      ·rename_i J;exact⟨base+i,by unfold FO;simp only[hb];simpa using J,q⟩
     ·cases q
    ·exact⟨st.H.length,cO _,q⟩
   ·cases q
 obtain⟨k,I,z⟩:=z;exact Zck F G A I h z M
theorem ZA2 {B:Nat} {w0:Start} {P:Program} {r:St} (hE:Cf E) (hP:E.P=P) (hcall:JH P E B w0 call) (hpure:OC E call) (hf:Zcg E ops) (hm:∀(i:Nat) (o:Oper),ops[i]? = some o->Bi E o = .a->i<m)
  {Q:Exit->Act->World->Prop}:∀(fuel:Nat) (M:List Nat) (listed:Array Bool) (st:St) (σ:Sg) (a:Act) (w:World),M.length<=fuel->listed.size=ops.size ->
  (∀j,j∈M↔listed.getD j true=false)->M.Pairwise (· < ·)->(∀k j,listed.getD k false=true->((Ff [] ops.toList).getD k 0).testBit j=true->listed.getD j false=true) ->
  Lt call E ops (Ff [] ops.toList) (Pg E ops) s0 base m M st=some r->Ew E B w0 σ st a w->(∀a' w' σ',Ew E B w0 σ' r a' w' -> Ext σ w σ' w' -> Q .normal a' w')->wpAny P .any ops Q fuel listed a w:=by
 intro fuel;induction fuel with
 | zero=>
  intro M listed st σ a w hl hsz hM q A hs hr hn;have hnil:M=[]:=List.eq_nil_of_length_eq_zero (by omega);subst hnil;simp only[Lt,Option.some.injEq]at hs;subst hs;refine⟨?_,hn a w σ hr (Ext.refl σ w)⟩;cases hrd:Region.ready .any ops listed with
  | nil=>rfl
  | cons i rest=>
   have hi:i∈Region.ready .any ops listed:=by rw[hrd];simp
   have:=(hM i).2 (mem_ready.1 hi).1;cases this
 | succ fuel ih=>
  intro M listed st σ a w hl hsz hM q A hs hr hn;have hlist:∀j,j<ops.size->j∉M->listed.getD j false=true:=by
   intro j hj hn;have:¬listed.getD j true=false:=fun h=>hn ((hM j).2 h);have hjl:j<listed.size:=by omega
   simp[hjl]at this ⊢;exact this
  refine⟨fun I=>?_,fun i hi=>?_⟩
  ·
   cases M with
   | nil=>
    simp only[Lt,Option.some.injEq]at hs;subst hs;exact hn a w σ hr (Ext.refl σ w)
   | cons i rest=>
    exfalso;have J:=(hM i).1 (by simp);have Y:i<ops.size:=by
     rcases Nat.lt_or_ge i listed.size with h|h
     ·omega
     ·simp[Array.getElem?_eq_none h]at J
    have ho:ops[i]? = some ops[i]:=by simp[Y]
    have:i∈Region.ready .any ops listed:=mem_ready.2 ⟨J,_,ho,fun e he hb=>by
     have hlt:=hf.low i _ ho e he hb;refine hlist e.on (by omega) (fun hin=>?_);rcases List.mem_cons.1 hin with h|h
     ·omega
     ·have:=(List.pairwise_cons.1 q).1 _ h;omega⟩
    rw[I]at this;cases this
  ·obtain⟨J,oi,G,N⟩:=mem_ready.1 hi;have hin:=(hM i).2 J;obtain⟨M1,M2,rfl⟩:=List.append_of_mem hin;have Y:i<ops.size:=(Array.getElem?_eq_some_iff.1 G).1;have C:∀y∈M1,y<i:=fun y F=>(List.pairwise_append.1 q).2.2 y F i (by simp);have D:∀j,((Ff [] ops.toList).getD i 0).testBit j=true->listed.getD j false=true:=by
    intro j hj;obtain⟨e,he,hb,hh⟩:=(hf.bit i oi G j).1 hj;rcases hh with hh|hh
    ·rw[hh];exact N e he hb
    ·exact A e.on j (N e he hb) hh
   have hunl:∀y,listed.getD y true=false->listed.getD y false=false:=by
    intro y F;rcases Nat.lt_or_ge y listed.size with h|h
    ·simp[h]at F ⊢;exact F
    ·simp[Array.getElem?_eq_none h]at F
   obtain⟨st1,h1,h2⟩:=Zsd M1 M2 st (fun y F sa sb sc hsa hsb=>by
    have hyun:listed.getD y true=false:=(hM y).1 (by simp[F]);have hylt:y<ops.size:=by have:=C y F;omega
    have hoy:ops[y]? = some ops[y]:=by simp[hylt]
    have O:((Ff [] ops.toList).getD i 0).testBit y=false:=by
     cases hb:((Ff [] ops.toList).getD i 0).testBit y with
     | false=>rfl
     | true=>have:=D y hb;rw[hunl y hyun]at this;cases this
    have hbit' : ((Ff [] ops.toList).getD y 0).testBit i=false:=by
     cases hb:((Ff [] ops.toList).getD y 0).testBit i with
     | false=>rfl
     | true=>have:=hf.lt y i hylt hb;have:=C y F;omega
    have hp:=(hf.pass y i _ oi hoy G (C y F)).resolve_left (by rw[O];simp);exact Zwe hpure hm hoy G (by have:=C y F;omega) hp (fun x t h=>Zxn h) O hbit' hsa hsb) hs
   refine ZAh hE hP hcall hr h1 (fun a1 w1 σ1 hr1 he1=>?_);have S:∀j d,(listed.setIfInBounds i true).getD j d=if j=i then true else listed.getD j d:=by
    intro j d
    by_cases z:j=i
    ·subst z;have:j<listed.size:=by omega
     simp[this]
    ·rw[if_neg z,getD_set_ne d (fun e=>z e.symm)]
   have hnot:i∉M1++M2:=by
    intro h;rcases List.mem_append.1 h with h|h
    ·have:=C i h;omega
    ·have:=(List.pairwise_cons.1 (List.pairwise_append.1 q).2.1).1 i h;omega
   refine ih (M1++M2) (listed.setIfInBounds i true) st1 σ1 a1 w1 (by simp at hl ⊢;omega) (by simpa using hsz) (fun j=>?_) ?_ (fun k j hk hj=>?_) h2 hr1 (fun a' w' σ' hr' he' =>hn a' w' σ' hr' (he1.trans he'))
   ·rw[S]
    by_cases z:j=i
    ·subst z;rw[if_pos rfl];exact⟨fun h=>absurd h hnot,fun h=>by cases h⟩
    ·rw[if_neg z,<- hM j];simp[z]
   ·exact q.sublist (List.Sublist.append_left (List.sublist_cons_self i M2) M1)
   ·rw[S]at hk ⊢
    by_cases z:j=i
    ·rw[if_pos z]
    ·rw[if_neg z]
     by_cases hki:k=i
     ·subst hki;exact D j hj
     ·rw[if_neg hki]at hk;exact A k j hk hj
theorem Inv.reserve {B:Nat} {w0:Start} {σ:Sg} {H:Heap} {w:World} (h:Inv B w0 σ H w) (n:Nat):Inv B w0 σ (H++List.replicate n Q9) w:=by
 have q:∀(i:Nat) (b:Box),(H++List.replicate n Q9)[i]? = some b->b.live=true->H[i]? = some b:=by
  intro i b hb z;rw[List.getElem?_append]at hb;split at hb
  ·exact hb
  ·have:=(List.mem_replicate.1 (List.mem_of_getElem? hb)).2;subst this;cases z
 refine⟨h.below,h.size,fun id L J=>?_,fun i b hb z=>h.boxes i b (q i b hb z) z,fun i j b1 b2 G I g A C D F=>h.apart i j b1 b2 G I g (q i b1 A D) (q j b2 C F) D F,h.cells,
  fun b c hc i bx L hb z=>h.floor b c hc i bx L (q i bx hb z) z,fun i b hb z=>h.low i b (q i b hb z) z,h.old,h.kept⟩
 obtain⟨b,A,C⟩:=h.dom id L J;exact⟨b,by rw[List.getElem?_append_left (List.getElem?_eq_some_iff.1 A).1];exact A,C⟩
theorem Zdv {B:Nat} {w0:Start} {σ:Sg} {P:Program} {st st' : St} {a:Act} {w:World} (J:Cf E) (N:E.P=P) (C:P.follows .mixedOrders=true) (z:JH P E B w0 call) (A:OC E call) (O:tC E ops=true)
  (h:Ew E B w0 σ st a w) (I:TL call E ops st=some st') {id:Nat} {Q:Exit->Act->World->Prop} (hn:∀D w' σ',Ew E B w0 σ' st' D w' -> Ext σ w σ' w' -> Q .normal D w'):(Code.region id ops true).wp P Q a w:=by
 have Y:w.grownBy { w with drawn:=w.drawn+1 } none:=⟨rfl,rfl,rfl,Nat.le_refl _,fun _ _ _=>rfl⟩;obtain⟨M,q⟩:=h.inv.grown Y;refine wp_region_any C ?_;unfold TL at I;refine ZA2 J N z A (Zog O) (m:=if ops.any (fun o=>decide (Bi E o = .a)) then ops.size else 0) (fun i o G hc=>?_) ops.size (List.range ops.size) _ _ σ a _ (by simp) (by simp) (fun j=>?_) List.pairwise_lt_range (fun k j F=>?_) I
  ⟨M.reserve _,h.Ef.ext q,h.slots.ext q,h.calm⟩ (fun D w' σ' hr S=>hn D w' σ' hr (q.trans S))
 ·have:ops.any (fun o=>decide (Bi E o = .a))=true:=Array.any_eq_true'.2 ⟨o,Array.mem_of_getElem? G,by simpa using hc⟩;rw[if_pos this];exact(Array.getElem?_eq_some_iff.1 G).1
 ·rw[List.mem_range];rcases Nat.lt_or_ge j ops.size with hj|hj
  ·simp[hj]
  ·simp[Nat.not_lt.2 hj]
 ·exfalso;rcases Nat.lt_or_ge k ops.size with hj|hj
  ·simp[hj]at F
  ·simp[hj]at F
end
end Go.Proofs.YtjodhcdmhobmoaaGreatDoor.Le
namespace Go.Proofs.YtjodhcdmhobmoaaGreatDoor.Le
open Go.RowKit (Below)
def Ex.out:Ex->Exit
 | .normal=>.normal
 | .ret=>.ret
 | .exit id=>.exit id
def Z42 (P:Program) (E:Env) (B:Nat) (w0:Start) (f:FuncId) (A:Code->St->Option (Ex×St)):Prop:=
 ∀b st z st',Ed E f b=true->A b st=some (z,st')->∀(Q:Exit->Act->World->Prop) σ a w,Ew E B w0 σ st a w ->
  (∀q w' σ',Ew E B w0 σ' st' q w' -> Ext σ w σ' w' -> Q z.out q w')->(Code.loop b).wp P Q a w
section
variable {P:Program} {E:Env} {B:Nat} {w0:Start} {call:Dn} {f:FuncId}
theorem SX (hE:Cf E) (hP:E.P=P) (G:JH P E B w0 call) (Y:OC E call) {lp:Code->St->Option (Ex×St)} (hlp:Z42 P E B w0 f lp) :
  ∀(c:Code) (st:St) (A:Ex) (st' : St),Ed E f c=true->GG call lp E f c st=some (A,st')->∀(Q:Exit->Act->World->Prop) (σ:Sg) (a:Act) (w:World),Ew E B w0 σ st a w ->
   (∀a' w' σ',Ew E B w0 σ' st' a' w' -> Ext σ w σ' w' -> Q A.out a' w')->c.wp P Q a w:=by
 intro c;induction c with
 | skip=>
  intro st A st' hc h Q σ a w q z;simp only[GG,Option.some.injEq,Prod.mk.injEq]at h;obtain⟨rfl,rfl⟩:=h;exact wp_skip (z a w σ q (Ext.refl σ w))
 | region id ops draw=>
  intro st A st' hc h Q σ a w q z;cases draw with
  | false=>
   simp only[GG]at h;cases hs:MN call E ops (List.range ops.size) st with
   | none=>simp[hs]at h
   | some r=>
    simp only[hs,Option.map_some,Option.some.injEq,Prod.mk.injEq]at h;obtain⟨rfl,rfl⟩:=h;exact wp_region (ZdP hE hP G _ st σ a w q hs z)
  | true=>
   simp only[GG]at h;split at h
   ·rename_i O;cases hs:TL call E ops st with
    | none=>simp[hs]at h
    | some r=>
     simp only[hs,Option.map_some,Option.some.injEq,Prod.mk.injEq]at h;obtain⟨rfl,rfl⟩:=h;refine Zdv hE hP (by rw[<- hP];exact hE.mix) G Y ?_ q hs z;simpa[Ed,O]using hc
   ·cases h
 | seq x y M ihy=>
  intro st A st' hc h Q σ a w q z;simp only[Ed,Bool.and_eq_true]at hc;simp only[GG]at h;split at h
  ·rename_i N h1;exact wp_seq (M st .normal N hc.1 h1 _ σ a w q (fun I J F D C=>ihy N A st' hc.2 h Q F I J D (fun a' w' σ' hr' he' =>z a' w' σ' hr' (C.trans he'))))
  ·rename_i S;refine wp_seq (M st A st' hc.1 h _ σ a w q (fun I J F D C=>?_));have:=z I J F D C;cases A with
   | normal=>exact absurd h (S _)
   | ret=>exact this
   | exit id=>exact this
 | cond c x y M ihy=>
  intro st A st' hc h Q σ a w q z;simp only[Ed,Bool.and_eq_true]at hc;simp only[GG]at h;split at h
  ·rename_i t ht;have hv:=EY (a:=a) q.Ef q.slots c;rw[ht]at hv;have hb:a.eval c = .bool t:=by generalize a.eval c=v at hv;cases hv;rfl
   refine wp_cond hb ?_;cases t with
   | true=>exact M st A st' hc.1 h Q σ a w q z
   | false=>exact ihy st A st' hc.2 h Q σ a w q z
  ·cases h
 | block id b ih=>
  intro st A st' hc h Q σ a w q z;simp only[Ed]at hc;simp only[GG]at h;split at h
  ·rename_i i N h1;refine wp_block (ih st (.exit i) N hc h1 _ σ a w q (fun I J F D C=>?_));simp only[Ex.out,Exit.inBlock];split at h
   ·rename_i hi;cases h;rw[if_pos hi];exact z I J F D C
   ·rename_i hi;cases h;rw[if_neg hi];exact z I J F D C
  ·rename_i S;refine wp_block (ih st A st' hc h _ σ a w q (fun I J F D C=>?_));have:=z I J F D C;cases A with
   | normal=>exact this
   | ret=>exact this
   | exit i=>exact absurd h (S _ _)
 | loop b ih=>
  intro st A st' hc h Q σ a w q z;exact hlp b st A st' hc h Q σ a w q z
 | scope b ih=>
  intro st A st' hc h Q σ a w q z;simp only[Ed]at hc;simp only[GG]at h;refine wp_scope_straight (ih st A st' hc h _ σ a w q (fun I J F D C=>?_));have:=z I J F D C;cases A with
  | normal=>exact this
  | ret=>exact this
  | exit i=>exact this
 | label l=>
  intro st A st' hc h Q σ a w q z;simp only[GG,Option.some.injEq,Prod.mk.injEq]at h;obtain⟨rfl,rfl⟩:=h;exact wp_label (z a w σ q (Ext.refl σ w))
 | exit id=>
  intro st A st' hc h Q σ a w q z;simp only[GG,Option.some.injEq,Prod.mk.injEq]at h;obtain⟨rfl,rfl⟩:=h;exact wp_exit (z a w σ q (Ext.refl σ w))
 | ret=>
  intro st A st' hc h Q σ a w q z;simp only[GG,Option.some.injEq,Prod.mk.injEq]at h;obtain⟨rfl,rfl⟩:=h;exact wp_ret (z a w σ q (Ext.refl σ w))
 | _=>
  intro st A st' hc h;cases h
theorem Z3v (hE:Cf E) (hP:E.P=P) (z:JH P E B w0 call) (A:OC E call):∀n,Z42 P E B w0 f (TM call E f n):=by
 have key:∀n,∀b st q st',Ed E f b=true->TM call E f n b st=some (q,st')->∀(Q:Exit->Act->World->Prop) σ a w,Ew E B w0 σ st a w ->
  (∀N w' σ',Ew E B w0 σ' st' N w' -> Ext σ w σ' w' -> Q q.out N w')->Code.rounds P b Q n a w:=by
  intro n;induction n with
  | zero=>intro b st q st' hc h;cases h
  | succ n ih=>
   intro b st q st' hc h Q σ a w I G;rw[rounds_succ];have J:Z42 P E B w0 f (TM call E f n):=fun b st q st' hc h Q σ a w I G=>wp_loop_rounds n (ih b st q st' hc h Q σ a w I G);simp only[TM]at h;split at h
   ·rename_i M h1;exact SX hE hP z A J b st .normal M hc h1 _ σ a w I (fun O w1 F D C=>ih b M q st' hc h Q F O w1 D (fun N w' σ' hr' S =>G N w' σ' hr' (C.trans S)))
   ·rename_i Y;refine SX hE hP z A J b st q st' hc h _ σ a w I (fun O w1 F D C=>?_);have:=G O w1 F D C;cases q with
    | normal=>exact absurd h (Y _)
    | ret=>exact this
    | exit id=>exact this
 exact fun n b st q st' hc h Q σ a w I G=>wp_loop_rounds n (key n b st q st' hc h Q σ a w I G)
theorem ZuS {σ:Sg} {H:Heap} {w:World} (C:Cf E) (F:E.P=P) (D:Inv B w0 σ H w) {t:TypeId} {x r:V} {v:Value} (q:AQ σ w [x] [v]) (h:MJ E H t x=some r) :
  ∃u,(do loadVar t (<- asAddr v):Sem Value).run P w = .ok u w/\AQ σ w [r] [u]:=by
 obtain⟨u,I,G⟩:=ZdF (P:=P) C F D q h;refine⟨u,?_,G⟩;have J:∃A,v = .pointer (some A):=by
  unfold MJ at h;split at h
  ·cases h
  ·split at h
   ·cases q;exact⟨_,rfl⟩
   ·cases q with
    | ptr g _ _ _ z _=>exact⟨_,z⟩
   ·cases h
 obtain⟨A,rfl⟩:=J;rw[<- I];simp[Instr.loadAt,asAddr,Instr.sureAddr]
theorem ZDZ {σ:Sg} {H:Heap} {w:World} {s:List V} {tmps:Array Value} (G:Cf E) (J:E.P=P) (I:Inv B w0 σ H w) (M:AQ σ w s tmps.toList):∀(rs:List ResultVar) (xs:List V),rs.mapM (resD E H s)=some xs ->
  ∃vs,(rs.mapM (fun(r:ResultVar)=>(match r with | .tmp t=>pure (tmps.getD t undef) | .cell a t=>do loadVar t (<- asAddr (tmps.getD a undef)):Sem Value))).run P w = .ok vs w/\AQ σ w xs vs:=by
 have q:∀t,AQ σ w [s.getD t .und] [tmps.getD t undef]:=fun t=>by
  have:=Zcz M t;simpa using this
 intro rs;induction rs with
 | nil=>
  intro xs h;simp at h;subst h;exact⟨[],rfl,.nil⟩
 | cons r rs S=>
  intro xs h;rw[List.mapM_cons]at h;cases A:resD E H s r with
  | none=>simp[A]at h
  | some x=>
   cases z:rs.mapM (resD E H s) with
   | none=>simp[A,z]at h
   | some D =>
    simp[A,z]at h;subst h;obtain⟨vs,O,Q⟩:=S D z;have F:∃u,((match r with | .tmp t=>pure (tmps.getD t undef) | .cell a t=>do loadVar t (<- asAddr (tmps.getD a undef)):Sem Value)).run P w = .ok u w/\AQ σ w [x] [u]:=by
     cases r with
     | tmp t=>
      simp only[resD,Option.some.injEq]at A;subst A;exact⟨_,rfl,q t⟩
     | cell a t=>exact ZuS G J I (q a) A
    obtain⟨u,N,C⟩:=F;refine⟨u::vs,?_,AQ.FC.2 ⟨C,Q⟩⟩;rw[List.mapM_cons,Sem.run_bind,N,Result.andThen_ok,Sem.run_bind,O,Result.andThen_ok];rfl
theorem pI {σ:Sg} {H:Heap} {w:World} {s:List V} {tmps:Array Value} (J:Cf E) (N:E.P=P) (M:Inv B w0 σ H w) (O:AQ σ w s tmps.toList) {fn:Func} {x:V} (h:KU E H s fn.results.toList=some x) :
  ∃u,(results fn tmps).run P w = .ok u w/\AQ σ w [x] [u]:=by
 unfold KU at h;cases hm:fn.results.toList.mapM (resD E H s) with
 | none=>simp[hm]at h
 | some xs=>
  obtain⟨vs,Q,F⟩:=ZDZ (P:=P) J N M O _ xs hm;have A:(results fn tmps).run P w = .ok (if h:vs.toArray.size=1 then vs.toArray[0] else .tuple vs.toArray) w:=by
   unfold results;rw[Sem.run_bind];have C:(fn.results.mapM (fun(r:ResultVar)=>(match r with | .tmp t=>pure (tmps.getD t undef) | .cell a t=>do loadVar t (<- asAddr (tmps.getD a undef)):Sem Value))).run P w = .ok vs.toArray w:=by
    rw[Array.mapM_eq_mapM_toList,map_eq_pure_bind,Sem.run_bind,Q,Result.andThen_ok];rfl
   have:=congrArg (fun r=>Result.andThen r fun(vs:Array Value) (w' : World)=>(pure (if h:vs.size=1 then vs[0] else .tuple vs):Sem Value).run P w') C;exact this
  refine⟨_,A,?_⟩;rw[hm]at h;have z:=F.length;split at h
  ·rename_i v q;cases q;simp only[Option.some.injEq]at h;subst h;obtain⟨u,S,rfl,G,I⟩:=F.Dw;cases I.FH;simpa using G
  ·rename_i ys D q;cases q;simp only[Option.some.injEq]at h;subst h;have:¬vs.toArray.size=1:=by
    intro q;simp at q;rw[<- z]at q;obtain⟨y,rfl⟩:=List.length_eq_one_iff.1 q;exact D y rfl
   rw[dif_neg this];exact .BL F .nil
  ·rename_i q;cases q
end
end Go.Proofs.YtjodhcdmhobmoaaGreatDoor.Le
namespace Go.Proofs.YtjodhcdmhobmoaaGreatDoor.Le
open Go.RowKit (Below)
def bare (fz:Nat->Nat->Prop):Sg:=⟨fun _=>none,fz⟩
theorem Lies.bare {σ σ' : Sg} {w w' : World} {b o:Nat} {us:List Value} (h:Lies σ w b o us) (q:∀b c,σ.fz b c->σ'.fz b c/\w'.cell? ⟨b,c,none⟩=w.cell? ⟨b,c,none⟩):Lies σ' w' b o us:=fun j u F=>by
 obtain⟨C,D⟩:=h j u F;obtain⟨z,A⟩:=q _ _ C;exact⟨z,A.trans D⟩
theorem AQ.bare {σ σ' : Sg} {w w' : World} {xs:List V} {vs:List Value} (h:AQ σ w xs vs) (I:∀b c,σ.fz b c->σ'.fz b c/\w'.cell? ⟨b,c,none⟩=w.cell? ⟨b,c,none⟩) (O:EP w w') :
  Bz xs=true->AQ σ' w' xs vs:=by
 induction h with
 | nil=>intro _;exact .nil
 | und u _ C=>intro q;simp[Bz]at q;exact .und u (C q.2)
 | no _ C=>intro q;simp[Bz]at q;exact .no (C q.2)
 | lit Y _ C=>intro q;simp[Bz]at q;exact .lit Y (C q.2)
 | agg _ ho _ z A=>intro q;simp[Bz,CW]at q;exact .agg (z q.1) ho (A q.2)
 | BL _ _ z A=>intro q;simp[Bz,CW]at q;exact .BL (z q.1) (A q.2)
 | ET _ C=>intro q;simp[Bz]at q;exact .ET (C q.2)
 | Fz _ C=>intro q;simp[Bz]at q;exact .Fz (C q.2)
 | FU a _ C=>intro q;simp[Bz]at q;exact .FU a (C q.2)
 | GU a _ C=>intro q;simp[Bz]at q;exact .GU a (C q.2)
 | sl b o c J _ M D F G N S _ z A=>intro q;simp[Bz,CW]at q;exact .sl b o c J (z q.1) M D F G N (S.bare I) (A q.2)
 | Ce b o J _ M D F G N _ z A=>intro q;simp[Bz,CW]at q;exact .Ce b o J (z q.1) M D F G (N.bare I) (A q.2)
 | Bc D F G N _ C=>intro q;simp[Bz,CW]at q
 | ptr g D F G N _ C=>intro q;simp[Bz,CW]at q
 | CG b o J i off _ M D F G _ z A=>intro q;simp[Bz,CW]at q;exact .CG b o J i off (z q.1) M D F (G.bare I) (A q.2)
 | fn _ _ _ z A Q=>intro q;simp[Bz,CW]at q;exact .fn (z q.1.1) (A q.1.2) (Q q.2)
 | Gx _ _ z A=>intro q;simp[Bz,CW]at q;exact .Gx (z (by simp[Bz,q.1])) (A q.2)
 | GY g es c _ D F _ z A=>intro q;simp[Bz,CW]at q;exact .GY g es c (z q.1) (O _ _ _ D) F (A q.2)
theorem Di.bare {E:Env} {σ σ' : Sg} {w w' : World} (h:Di E σ w) (q:∀b c,σ.fz b c->σ'.fz b c/\w'.cell? ⟨b,c,none⟩=w.cell? ⟨b,c,none⟩) (z:EP w w'):Di E σ' w' :=by
 intro g r C;have A:=h g r C;generalize F:Value.pointer (some ⟨g,0,none⟩)=v at A ⊢;cases A with
 | CG b o D i off k0 k1 k2 k3 k4 _=>exact .CG b o _ _ _ (k0.bare q z (Oq k1)) k1 k2 k3 (k4.bare q) .nil
theorem Z2p (q:Nat->Nat) (xs:List V):Gg q xs=xs.map (FT q):=by
 induction xs with
 | nil=>rfl
 | cons x xs z=>simp[Gg,z]
theorem Z0Q (q:Nat->Nat) (xs:List V):(Gg q xs).length=xs.length:=by rw[Z2p];simp
theorem Zdq (q:Nat->Nat) (x:V):okV (FT q x)=okV x:=by cases x<;>simp[FT,okV]
theorem Z1V {σ σ' : Sg} {w w' : World} {S:Nat->Nat} {xs:List V} {vs:List Value} (h:AQ σ w xs vs) (D:∀b c,σ.fz b c->σ'.fz b c/\w'.cell? ⟨b,c,none⟩=w.cell? ⟨b,c,none⟩) (J:EP w w') :
  (∀id∈Dc xs,σ'.box (S id)=σ.box id)->AQ σ' w' (Gg S xs) vs:=by
 induction h with
 | nil=>intro _;exact .nil
 | und u _ C=>intro q;exact .und u (C fun id h=>q id (by simp[Dc,h]))
 | no _ C=>intro q;exact .no (C fun id h=>q id (by simp[Dc,h]))
 | lit hl _ C=>intro q;exact .lit hl (C fun id h=>q id (by simp[Dc,h]))
 | agg _ ho _ A z=>intro q;exact .agg (A fun id h=>q id (by simp[Dc,EO,h])) ho (z fun id h=>q id (by simp[Dc,h]))
 | BL _ _ A z=>intro q;exact .BL (A fun id h=>q id (by simp[Dc,EO,h])) (z fun id h=>q id (by simp[Dc,h]))
 | ET _ C=>intro q;exact .ET (C fun id h=>q id (by simp[Dc,h]))
 | Fz _ C=>intro q;exact .Fz (C fun id h=>q id (by simp[Dc,h]))
 | FU a _ C=>intro q;exact .FU a (C fun id h=>q id (by simp[Dc,h]))
 | GU a _ C=>intro q;exact .GU a (C fun id h=>q id (by simp[Dc,h]))
 | sl b o c O h M F G I N Y _ _ z=>intro q;exact .sl b o c O (h.bare D J (Oq M)) M F G I N (Y.bare D) (z fun id h=>q id (by simp[Dc,h]))
 | Ce b o O h M F G I N _ _ z=>intro q;exact .Ce b o O (h.bare D J (Oq M)) M F G I (N.bare D) (z fun id h=>q id (by simp[Dc,h]))
 | Bc F G I N _ C=>intro q;exact .Bc ((q _ (by simp[Dc,EO])).trans F) G I N (C fun id h=>q id (by simp[Dc,h]))
 | ptr g F G I N _ C=>intro q;exact .ptr g ((q _ (by simp[Dc,EO])).trans F) G I N (C fun id h=>q id (by simp[Dc,h]))
 | CG b o O i off h M F G I _ _ z=>intro q;exact .CG b o O i off (h.bare D J (Oq M)) M F G (I.bare D) (z fun id h=>q id (by simp[Dc,h]))
 | fn _ _ _ A z Q=>intro q;exact .fn (A fun id h=>q id (by simp[Dc,EO,h])) (z fun id h=>q id (by simp[Dc,EO,h])) (Q fun id h=>q id (by simp[Dc,h]))
 | Gx _ _ A z=>intro q;exact .Gx (A fun id h=>q id (by simp[Dc,EO]at h ⊢;simp[h])) (z fun id h=>q id (by simp[Dc,h]))
 | GY g es c _ F G _ A z=>intro q;exact .GY g es c (A fun id h=>q id (by simp[Dc,EO,h])) (J _ _ _ F) G (z fun id h=>q id (by simp[Dc,h]))
theorem ZxP {σ σ' : Sg} {w w' : World} {A:Nat->Nat} {x:V} {v:Value} (h:AQ σ w [x] [v]) (q:∀b c,σ.fz b c->σ'.fz b c/\w'.cell? ⟨b,c,none⟩=w.cell? ⟨b,c,none⟩) (z:EP w w')
  (C:∀id∈EO x,σ'.box (A id)=σ.box id):AQ σ' w' [FT A x] [v]:=Z1V h q z (by simpa[Dc]using C)
structure GI (H H1:Heap):Prop where
 len:H.length<=H1.length
 at_:∀(id:Nat) (b:Box),H[id]? = some b->∃b',H1[id]? = some b' /\ b'.live=b.live/\b'.row=b.row/\b'.xs=b.xs
theorem GI.refl (H:Heap):GI H H:=⟨Nat.le_refl _,fun id b h=>⟨b,h,rfl,rfl,rfl⟩⟩
theorem GI.trans {A B C:Heap} (h:GI A B) (k:GI B C):GI A C:=
 ⟨Nat.le_trans h.len k.len,fun id b hb=>by
  obtain⟨b1,q,z,D,F⟩:=h.at_ id b hb;obtain⟨b2,k1,k2,k3,k4⟩:=k.at_ id b1 q;exact⟨b2,k1,k2.trans z,k3.trans D,k4.trans F⟩⟩
theorem GI.bump (H:Heap) (ids:List Nat):GI H (bump H ids):=
 ⟨by rw[bump_length];exact Nat.le_refl _,fun id b hb=>⟨_,by rw[KR,hb];rfl,by split<;>rfl,by split<;>rfl,by split<;>rfl⟩⟩
theorem GI.push (H:Heap) (b:Box):GI H (H++[b]):=
 ⟨by simp,fun id q hb=>⟨q,by rw[List.getElem?_append_left (List.getElem?_eq_some_iff.1 hb).1];exact hb,rfl,rfl,rfl⟩⟩
section
variable {B:Nat} {w0:Start} {σ:Sg} {H H1:Heap} {w:World}
theorem Zdb (h:Inv B w0 σ H w) {f:Fk} {x y:V} {v:Value} (z:AQ σ w [x] [v]) (q:Hq f H x=some (y,H1)):GI H H1/\∃σ',Inv B w0 σ' H1 w/\Ext σ w σ' w/\AQ σ' w [y] [v]:=by
 have mk:∀(e:TypeId) (sz:Nat),∃σ',Inv B w0 σ' (H++[Bg true false e sz []]) w/\Ext σ w σ' w/\AQ σ' w [.Bc H.length 0 0 0] [.slice none 0 0]:=by
  intro e sz;obtain⟨σ',A,C,F⟩:=NK (e:=e) (Ar:=sz) (v' :=.slice none 0 0) h (cO H) (grownBy_refl w none) (xs:=[]) (us:=[]) .nil (by simp) (by simp) (by simp[flat]) ⟨by simp[flat],.inl ⟨rfl,rfl⟩⟩ (by simp[Value.ownBlock]) false (by simp);exact⟨σ',by rw[Zyu]at A;exact A,C,F⟩
 cases f with
 | s e sz=>
  simp only[Hq]at q;cases D:Hu H x with
  | none=>simp[D]at q
  | some I=>
   simp only[D,Option.map_some,Option.some.injEq,Prod.mk.injEq]at q;obtain⟨rfl,rfl⟩:=q;obtain⟨A,C⟩:=h.freeze (Ez x);exact⟨GI.bump _ _,_,A,C,Z0S sz (pO h z D (Ez x) (fun i G=>G))⟩
 | own e sz=>
  simp only[Hq]at q;unfold fJ at q;split at q
  ·simp only[Option.some.injEq,Prod.mk.injEq]at q;obtain⟨rfl,rfl⟩:=q;cases z with
   | ET _=>exact⟨GI.push _ _,mk e sz⟩
  ·simp only[Option.some.injEq,Prod.mk.injEq]at q;obtain⟨rfl,rfl⟩:=q;cases z with
   | Fz _=>exact⟨GI.push _ _,mk e sz⟩
  ·split at q
   ·simp only[Option.some.injEq,Prod.mk.injEq]at q;obtain⟨rfl,rfl⟩:=q;exact⟨GI.refl _,σ,h,Ext.refl _ _,z⟩
   ·cases q
  ·cases q
 | keep=>
  simp only[Hq,Option.some.injEq,Prod.mk.injEq]at q;obtain⟨rfl,rfl⟩:=q;exact⟨GI.refl _,σ,h,Ext.refl _ _,z⟩
 | drop=>
  simp only[Hq,Option.some.injEq,Prod.mk.injEq]at q;obtain⟨rfl,rfl⟩:=q;exact⟨GI.refl _,σ,h,Ext.refl _ _,.und _ .nil⟩
theorem ZAs:∀{fl:List Fk} {H:Heap} {σ:Sg} {xs ys:List V} {vs:List Value} {H1:Heap},Inv B w0 σ H w->AQ σ w xs vs->Hr fl H xs=some (ys,H1)->GI H H1/\∃σ',Inv B w0 σ' H1 w/\Ext σ w σ' w/\AQ σ' w ys vs:=by
 intro fl;induction fl with
 | nil=>
  intro H σ xs ys vs H1 h C q;cases xs with
  | nil=>
   simp only[Hr,Option.some.injEq,Prod.mk.injEq]at q;obtain⟨rfl,rfl⟩:=q;exact⟨GI.refl _,σ,h,Ext.refl _ _,C⟩
  | cons=>simp[Hr]at q
 | cons f fl Q=>
  intro H σ xs ys vs H1 h C q;cases xs with
  | nil=>simp[Hr]at q
  | cons x xs=>
   obtain⟨v,vs',rfl,D,F⟩:=C.Dw;simp only[Hr]at q;cases z:Hq f H x with
   | none=>simp[z]at q
   | some r=>
    obtain⟨y,M⟩:=r;simp only[z]at q;cases A:Hr fl M xs with
    | none=>simp[A]at q
    | some r=>
     obtain⟨ys',Hb⟩:=r;simp only[A,Option.some.injEq,Prod.mk.injEq]at q;obtain⟨rfl,rfl⟩:=q;obtain⟨k1,σ1,N,I,S⟩:=Zdb h D z;obtain⟨k2,G,O,J,Y⟩:=Q N (F.ext I) A;exact⟨k1.trans k2,G,O,I.trans J,AQ.FC.2 ⟨S.ext J,Y⟩⟩
theorem ZcN (h:Inv B w0 σ H w) {fl:List Fk} {x y:V} {v:Value} (C:AQ σ w [x] [v]) (q:Jh fl H x=some (y,H1)):GI H H1/\∃σ',Inv B w0 σ' H1 w/\Ext σ w σ' w/\AQ σ' w [y] [v]:=by
 unfold Jh at q;split at q
 ·rename_i cs;cases z:Hr fl H cs with
  | none=>simp[z]at q
  | some r=>
   obtain⟨ys,M⟩:=r;simp only[z,Option.map_some,Option.some.injEq,Prod.mk.injEq]at q;obtain⟨rfl,rfl⟩:=q;cases C with
   | agg F G _=>
    obtain⟨k1,A,I,D,J⟩:=ZAs h F z;exact⟨k1,A,I,D,.agg J G .nil⟩
 ·split at q
  ·exact Zdb h C q
  ·cases q
theorem Zzb:∀{fl:List (List Fk)} {H:Heap} {σ:Sg} {xs ys:List V} {vs:List Value} {H1:Heap},Inv B w0 σ H w->AQ σ w xs vs->IG fl H xs=some (ys,H1)->GI H H1/\∃σ',Inv B w0 σ' H1 w/\Ext σ w σ' w/\AQ σ' w ys vs:=by
 intro fl;induction fl with
 | nil=>
  intro H σ xs ys vs H1 h C q;cases xs with
  | nil=>
   simp only[IG,Option.some.injEq,Prod.mk.injEq]at q;obtain⟨rfl,rfl⟩:=q;exact⟨GI.refl _,σ,h,Ext.refl _ _,C⟩
  | cons=>simp[IG]at q
 | cons f fl Q=>
  intro H σ xs ys vs H1 h C q;cases xs with
  | nil=>simp[IG]at q
  | cons x xs=>
   obtain⟨v,vs',rfl,D,F⟩:=C.Dw;simp only[IG]at q;cases z:Jh f H x with
   | none=>simp[z]at q
   | some r=>
    obtain⟨y,M⟩:=r;simp only[z]at q;cases A:IG fl M xs with
    | none=>simp[A]at q
    | some r=>
     obtain⟨ys',Hb⟩:=r;simp only[A,Option.some.injEq,Prod.mk.injEq]at q;obtain⟨rfl,rfl⟩:=q;obtain⟨k1,σ1,N,I,S⟩:=ZcN h D z;obtain⟨k2,G,O,J,Y⟩:=Q N (F.ext I) A;exact⟨k1.trans k2,G,O,I.trans J,AQ.FC.2 ⟨S.ext J,Y⟩⟩
structure uV (ids:List Nat) (H:Heap):Prop where
 nodup:ids.Nodup
 at_:∀id∈ids,∃b,H[id]? = some b/\b.live=true/\(b.row=false->∀r∈Dc b.xs,r∈ids)
theorem Zzz:∀(n:Nat) {fb:List Bf} {H:Heap} {σ:Sg} {q seen ids:List Nat} {H2:Heap},Inv B w0 σ H w->Jf n fb H q seen=some (H2,ids)->seen.Nodup ->
  (∀id∈seen,∃b,H[id]? = some b/\b.live=true/\(b.row=false->∀r∈Dc b.xs,r∈seen++q)) ->
  H.length<=H2.length/\(∀id∈seen++q,id∈ids)/\uV ids H2/\∃σ',Inv B w0 σ' H2 w/\Ext σ w σ' w:=by
 intro n;induction n with
 | zero=>intro fb H σ q seen ids H2 _ h;cases h
 | succ n ih=>
  intro fb H σ q seen ids H2 hI h hnd Y;cases q with
  | nil=>
   simp only[Jf,Option.some.injEq,Prod.mk.injEq]at h;obtain⟨rfl,rfl⟩:=h;exact⟨Nat.le_refl _,by simp,⟨hnd,by simpa using Y⟩,σ,hI,Ext.refl _ _⟩
  | cons id q=>
   unfold Jf at h
   by_cases hin:seen.contains id=true
   ·rw[if_pos hin]at h;have G : id∈seen:=by simpa using hin
    obtain⟨h1,h2,h3⟩:=ih hI h hnd (fun i hi=>by
     obtain⟨b,k1,k2,k3⟩:=Y i hi;exact⟨b,k1,k2,fun hr r F=>by
      have:=k3 hr r F;simp only[List.mem_append,List.mem_cons]at this ⊢;rcases this with hx|rfl|hx
      ·exact .inl hx
      ·exact .inl G
      ·exact .inr hx⟩)
    refine⟨h1,fun i hi=>h2 i ?_,h3⟩;simp only[List.mem_append,List.mem_cons]at hi ⊢;rcases hi with hx|rfl|hx
    ·exact .inl hx
    ·exact .inl G
    ·exact .inr hx
   ·rw[if_neg hin]at h;have G : id∉seen:=by simpa using hin
    have hnd' : (seen++[id]).Nodup:=by
     rw[List.nodup_append];exact⟨hnd,by simp,fun a ha b hb=>by simp at hb;subst hb;intro e;subst e;exact G ha⟩
    have I:∀{i:Nat} {t:List Nat},i∈seen++id::q->i∈(seen++[id])++(q++t):=by
     intro i t hi;simp only[List.mem_append,List.mem_cons]at hi ⊢;rcases hi with hx|hx|hx
     ·exact .inl (.inl hx)
     ·exact .inl (.inr (.inl hx))
     ·exact .inr (.inl hx)
    split at h
    ·rename_i b fresh fb' hb;split at h
     ·rename_i hc;simp only[Bool.and_eq_true]at hc;generalize O : (if fresh then H else bump H [id])=H' at h;have hk:GI H H' /\ ∃σ',Inv B w0 σ' H' w/\Ext σ w σ' w:=by
       cases fresh with
       | true=>rw[if_pos rfl]at O;subst O;exact⟨GI.refl _,σ,hI,Ext.refl _ _⟩
       | false=>
        rw[if_neg (by simp)]at O;subst O;obtain⟨i1,i2⟩:=hI.freeze [id];exact⟨GI.bump _ _,_,i1,i2⟩
      obtain⟨hk,σ1,Q,N⟩:=hk;obtain⟨h1,h2,h3,M,h4,h5⟩:=ih Q h hnd' (fun i hi=>by
       simp only[List.mem_append,List.mem_singleton]at hi;have key:∃b0,H[i]? = some b0/\b0.live=true/\(b0.row=false->∀r∈Dc b0.xs,r∈seen++id::q):=by
        rcases hi with hi|rfl
        ·exact Y i hi
        ·exact⟨b,hb,hc.1,fun hr=>by rw[hc.2]at hr;cases hr⟩
       obtain⟨b0,k1,k2,k3⟩:=key;obtain⟨b',m1,m2,m3,m4⟩:=hk.at_ i b0 k1;refine⟨b',m1,m2.trans k2,fun hr r F=>?_⟩;rw[m4]at F;have:=I (t:=[]) (k3 (m3▸hr) r F);simpa using this)
      refine⟨Nat.le_trans hk.len h1,fun i hi=>h2 i ?_,h3,M,h4,N.trans h5⟩;have:=I (t:=[]) hi;simpa using this
     ·cases h
    ·rename_i b fl fb' hb;split at h
     ·rename_i hc;simp only[Bool.and_eq_true,Bool.not_eq_true']at hc;split at h
      ·rename_i x hx;split at h
       ·rename_i y H1 hp;split at h
        ·rename_i b1 S;split at h
         ·rename_i hoky;obtain⟨L,hL,hok⟩:=hI.boxes id b hb hc.1;obtain⟨us,r1,r2,r3,r4⟩:=hok.Dh;rw[hx]at r1;obtain⟨u,us',rfl,r5,r6⟩:=r1.Dw;obtain⟨hk,σ1,Q,N,hy⟩:=ZcN hI r5 hp;obtain⟨b1',m1,m2,m3,m4⟩:=hk.at_ id b hb;rw[S]at m1;cases m1;have A:b1.live=true:=m2.trans hc.1;have hrow1:b1.row=false:=m3.trans hc.2;have D:b1.xs=[x]:=m4.trans hx;have hsw:∃M,Inv B w0 M (H1.set id { b1 with xs:=[y] }) w/\Ext σ1 w M w:=by
           obtain⟨L1,hL1,C⟩:=Q.boxes id b1 S A;obtain⟨us1,s1,s2,s3,s4⟩:=C.Dh;rw[D]at s1;obtain⟨u1,us1',rfl,s5,s6⟩:=s1.Dw;cases s6.FH;cases r6.FH;have hu:u1.cells.toList=u.cells.toList:=by
            obtain⟨L',hL',he,hLL⟩:=N.box id L hL;rw[hL1]at hL';cases hL';have ht1:L1.tot=1:=by rw[C.tot,D];rfl
            have ht:L.tot=1:=by rw[hok.tot,hx];rfl
            have hLe:L1=L:=by
             rcases hLL with e|e
             ·exact e
             ·omega
            subst hLe;rcases r4.2 with ⟨hv,hn⟩|⟨g,cap,cur,tg,hv,_,hg,_,_,_,_,hcur⟩
            ·rw[hx]at hn;simp at hn
            ·rcases s4.2 with ⟨hv',hn'⟩|⟨g',cap',cur',tg',hv',_,hg',_,_,_,_,J⟩
             ·rw[D]at hn';simp at hn'
             ·rw[hv]at hv';simp only[Value.slice.injEq,Option.some.injEq,Addr.mk.injEq,and_true]at hv';obtain⟨rfl,_,_⟩:=hv';rw[hg]at hg';simp only[Option.some.injEq,Obj.cells.injEq]at hg';obtain⟨rfl,_⟩:=hg';rw[NF]at hcur J;rw[<- hcur,<- J,hx,D]
           obtain⟨i1,i2⟩:=Q.upd S A hL1 (grownBy_refl w _) { b1 with xs:=[y] } A L1 rfl (.inl rfl) rfl (by simp[D]) (fun g hg=>.inl hg) (fun _ _ _ _=>rfl)
            (fun ex=>⟨by rw[C.tot,D];rfl,⟨[u],hy.ext ex,fun z hz=>by simp at hz;subst hz;rw[<- s2 u1 (by simp)];exact(congrArg List.length hu).symm,fun z hz=>s3 z (by rw[NF]at hz ⊢;rw[hu];exact hz),by
             rw[NF,<- hu,<- NF];simpa[D]using s4⟩,C.EZ,C.Ar,by simpa using hoky,fun F=>by simp only at F;rw[hrow1]at F;cases F⟩)
           exact⟨_,i1,i2⟩
          obtain⟨M,hI2,hE2⟩:=hsw;have hlen1:id<H1.length:=(List.getElem?_eq_some_iff.1 S).1;obtain⟨h1,h2,h3,σ3,h4,h5⟩:=ih hI2 h hnd' (fun i hi=>by
           simp only[List.mem_append,List.mem_singleton]at hi
           by_cases hid:i=id
           ·subst hid;refine⟨{ b1 with xs:=[y] },by simp[hlen1],A,fun _ r F=>?_⟩;simp only[Dc,List.append_nil]at F;simp[F]
           ·have hi' : i∈seen:=by rcases hi with hi|hi;exact hi;exact absurd hi hid
            obtain⟨b0,k1,k2,k3⟩:=Y i hi';obtain⟨b',q1,q2,q3,q4⟩:=hk.at_ i b0 k1;refine⟨b',by rw[List.getElem?_set_ne (fun e=>hid e.symm)];exact q1,q2.trans k2,fun hr r F=>?_⟩;rw[q4]at F;exact I (k3 (q3▸hr) r F))
          refine⟨Nat.le_trans hk.len (by simpa using h1),fun i hi=>h2 i (I hi),h3,σ3,h4,N.trans (hE2.trans h5)⟩
         ·cases h
        ·cases h
       ·cases h
      ·cases h
     ·cases h
    ·cases h
end
end Go.Proofs.YtjodhcdmhobmoaaGreatDoor.Le
