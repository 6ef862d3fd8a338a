/- A part of it. -/
import Derived.Test.YteinepnbndegdaaGreatL5
import Derived.OpenShut
import Derived.Carry
import Derived.ProofKit
set_option linter.unusedVariables false
set_option linter.unusedSimpArgs false
namespace Go.Proofs.YteinepnbndegdaaGreat.Le
structure AA (Ty:Nat->Type) (T:Type) where
 Af:T->List V
 encS:T->List (SV Ty)
 dec:List (SV Ty)->Option (T×List (SV Ty))
section
variable {Ty:Nat->Type}
def AA.int (k:IntKind):AA Ty Int where
 Af:=fun a=>[.lit (.int k a)]
 encS:=fun a=>[.si k a]
 dec:=fun cs=>match cs with
  | .si j a::r=>if j=k then some (a,r) else none
  | .lit (.int j a)::r=>if j=k then some (a,r) else none
  | _=>none
def AA.bool:AA Ty Bool where
 Af:=fun b=>[.lit (.bool b)]
 encS:=fun b=>[.sb b]
 dec:=fun cs=>match cs with
  | .sb b::r=>some (b,r)
  | .lit (.bool b)::r=>some (b,r)
  | _=>none
def AA.str:AA Ty ByteArray where
 Af:=fun b=>[.lit (.string b)]
 encS:=fun b=>[.ss b]
 dec:=fun cs=>match cs with
  | .ss b::r=>some (b,r)
  | .lit (.string b)::r=>some (b,r)
  | _=>none
def AA.list (t n:Nat) (e:Ty t->V):AA Ty (List (Ty t)) where
 Af:=fun xs=>[.sl false n (xs.map e)]
 encS:=fun xs=>[.sl t xs]
 dec:=fun cs=>match cs with
  | .sl z xs::r=>if h:z = t then some (h▸xs,r) else none
  | .nil _::r=>some ([],r)
  | _=>none
def AA.unit:AA Ty Unit where
 Af:=fun _=>[]
 encS:=fun _=>[]
 dec:=fun cs=>some ((),cs)
def AA.pair {A B:Type} (a:AA Ty A) (b:AA Ty B):AA Ty (A×B) where
 Af:=fun x=>a.Af x.1++b.Af x.2
 encS:=fun x=>a.encS x.1++b.encS x.2
 dec:=fun cs=>match a.dec cs with
  | some (x,r)=>match b.dec r with|some (y,z)=>some ((x,y),z)|none=>none
  | none=>none
def AA.Bg {A B:Type} (f:A->B) (g:B->A) (b:AA Ty B):AA Ty A where
 Af:=fun x=>b.Af (f x)
 encS:=fun x=>b.encS (f x)
 dec:=fun cs=>match b.dec cs with|some (y,r)=>some (g y,r)|none=>none
def AA.agg {T:Type} (c:AA Ty T) (v:SV Ty):Option T:=match v with
 | .agg cs=>match c.dec cs with|some (a,[])=>some a|_=>none
 | _=>none
def AA.one {T:Type} (c:AA Ty T) (v:SV Ty):Option T:=match c.dec [v] with|some (a,[])=>some a|_=>none
def AA.Am {T:Type} (c:AA Ty T) (a:T):V:=(c.Af a).headD .no
def AA.Bq {T:Type} (c:AA Ty T) (a:T):SV Ty:=(c.encS a).headD .no
end
structure AP (U:CX) {T:Type} (c:AA U.Ty T) (rs:List Nat):Prop where
 enc:∀a,Aj U (c.encS a)=c.Af a
 len:∀a,(c.Af a).length=rs.length
 dec:∀cs a rest,c.dec cs=some (a,rest)->∃pre,cs=pre++rest/\pre.length=rs.length/\GK rs (Aj U pre)=c.Af a
 nr:∀a,Be (c.Af a)=true
 inj:∀a b,c.Af a=c.Af b->a=b
section
variable {U:CX}
theorem AP.int (k:IntKind):AP U (AA.int k:AA U.Ty Int) [0]:=by
 refine⟨fun a=>rfl,fun a=>rfl,?_,fun a=>rfl,fun a b h=>by simpa[AA.int]using h⟩;intro cs a C h;simp only[AA.int]at h;split at h
 ·rename_i j x r;split at h
  ·rename_i z;simp only[Option.some.injEq,Prod.mk.injEq]at h;obtain⟨rfl,rfl⟩:=h;subst z;exact⟨[_],rfl,rfl,rfl⟩
  ·cases h
 ·rename_i j x r;split at h
  ·rename_i z;simp only[Option.some.injEq,Prod.mk.injEq]at h;obtain⟨rfl,rfl⟩:=h;subst z;exact⟨[_],rfl,rfl,rfl⟩
  ·cases h
 ·cases h
theorem AP.bool:AP U (AA.bool:AA U.Ty Bool) [0]:=by
 refine⟨fun a=>rfl,fun a=>rfl,?_,fun a=>rfl,fun a b h=>by simpa[AA.bool]using h⟩;intro cs a z h;simp only[AA.bool]at h;split at h<;>cases h<;>exact⟨[_],rfl,rfl,rfl⟩
theorem AP.str:AP U (AA.str:AA U.Ty ByteArray) [0]:=by
 refine⟨fun a=>rfl,fun a=>rfl,?_,fun a=>rfl,fun a b h=>by simpa[AA.str]using h⟩;intro cs a z h;simp only[AA.str]at h;split at h<;>cases h<;>exact⟨[_],rfl,rfl,rfl⟩
theorem Zr1 {α z:Type} {f:α->z} (C:∀a b,f a=f b->a=b):∀{xs ys:List α},xs.map f=ys.map f->xs=ys:=by
 intro xs;induction xs with
 | nil=>simp_all
 | cons x xs D=>intro ys h;cases ys with
  | nil=>simp at h
  | cons y ys=>
   grind
theorem AP.list {t n:Nat} {e:U.Ty t->V} (I:∀a,U.enc t a=e a) (D:U.Ag t=n) (J:∀a,Bz (e a)=true) (C:∀a b,e a=e b->a=b):AP U (AA.list t n e:AA U.Ty (List (U.Ty t))) [n]:=by
 have z:∀xs:List (U.Ty t),xs.map (U.enc t)=xs.map e:=fun xs=>List.map_congr_left fun a _=>I a;refine⟨fun a=>?_,fun a=>rfl,?_,fun a=>?_,fun a b h=>?_⟩
 ·simp[AA.list,Aj,AU,D,z]
 ·intro cs a G h;simp only[AA.list]at h;split at h
  ·rename_i Q xs r;split at h
   ·rename_i M;subst M;simp only[Option.some.injEq,Prod.mk.injEq]at h;obtain⟨rfl,rfl⟩:=h;exact⟨[_],rfl,rfl,by simp[Aj,AU,GK,Gl,AA.list,D,z]⟩
   ·cases h
  ·cases h;exact⟨[_],rfl,rfl,by simp[Aj,AU,GK,Gl,AA.list]⟩
  ·cases h
 ·simp only[AA.list,Be,Bz,Bool.and_true];rw[JU]
  simp_all
 ·simp only[AA.list,List.cons.injEq,V.sl.injEq,true_and,and_true]at h;exact Zr1 C h
theorem AP.unit:AP U (AA.unit:AA U.Ty Unit) []:=
 ⟨fun a=>rfl,fun a=>rfl,fun cs a z h=>by cases h;exact⟨[],rfl,rfl,rfl⟩,fun a=>rfl,fun a b _=>rfl⟩
theorem Zhv:∀(z C:List Nat) (x y:List V),x.length=z.length->GK (z++C) (x++y)=GK z x++GK C y:=by
 intro z;induction z with
 | nil=>intro C x y h;cases x with
  | nil=>simp[GK]
  | cons=>simp at h
 | cons r z D=>intro C x y h;cases x with
  | nil=>simp at h
  | cons v x=>simp[GK,D C x y (by simpa using h)]
theorem ZhV (x y:List V):Be (x++y)=(Be x&&Be y):=by
 induction x with
 | nil=>simp[Be]
 | cons a x z=>simp[Be,z,Bool.and_assoc]
theorem AP.pair {A B:Type} {a:AA U.Ty A} {b:AA U.Ty B} {C D:List Nat} (z:AP U a C) (hb:AP U b D):AP U (AA.pair a b) (C++D):=by
 refine⟨fun x=>?_,fun x=>?_,?_,fun x=>?_,fun x y h=>?_⟩
 ·simp only[AA.pair,QR,z.enc,hb.enc]
 ·simp only[AA.pair,List.length_append,z.len,hb.len]
 ·intro cs x G h;simp only[AA.pair]at h;split at h
  ·rename_i p r M;split at h
   ·rename_i q r' Q;cases h;obtain⟨R,e1,l1,t1⟩:=z.dec _ _ _ M;obtain⟨S,e2,l2,Y⟩:=hb.dec _ _ _ Q;refine⟨R++S,by simp_all,by simp[l1,l2],?_⟩;rw[QR,Zhv _ _ _ _ (by rw[Iu];exact l1),t1,Y];rfl
   ·cases h
  ·cases h
 ·simp only[AA.pair,ZhV,z.nr,hb.nr,Bool.and_self]
 ·simp only[AA.pair]at h;obtain⟨I,J⟩:=List.append_inj h (by rw[z.len,z.len]);obtain⟨x1,x2⟩:=x;obtain⟨y1,y2⟩:=y;exact Prod.ext (z.inj _ _ I) (hb.inj _ _ J)
theorem AP.Bg {A B:Type} {f:A->B} {g:B->A} {b:AA U.Ty B} {r:List Nat} (hb:AP U b r) (z:∀y,f (g y)=y) (D:∀x,g (f x)=x):AP U (AA.Bg f g b) r:=by
 refine⟨fun x=>hb.enc _,fun x=>hb.len _,?_,fun x=>hb.nr _,fun x y h=>?_⟩
 ·intro cs x C h;simp only[AA.Bg]at h;split at h
  ·rename_i y I G;cases h;obtain⟨p,e,l,t⟩:=hb.dec _ _ _ G;exact⟨p,e,l,by simp only[AA.Bg,z];exact t⟩
  ·cases h
 ·have:=hb.inj _ _ h
  grind
theorem AP.agg {T:Type} {c:AA U.Ty T} {r:List Nat} (h:AP U c r) {v:SV U.Ty} {a:T} (z:c.agg v=some a):DX r (AU U v) = .agg (c.Af a):=by
 unfold AA.agg at z;split at z
 ·split at z
  ·rename_i cs _ C;cases z;obtain⟨p,e,l,t⟩:=h.dec _ _ _ C;simp only[List.append_nil]at e;subst e;simp only[AU,DX,t]
  ·cases z
 ·cases z
theorem AP.one {T:Type} {c:AA U.Ty T} {n:Nat} (h:AP U c [n]) {v:SV U.Ty} {a:T} (z:c.one v=some a) (D:∀cs,AU U v≠.agg cs):DX [n] (AU U v)=c.Am a:=by
 unfold AA.one at z;split at z
 ·rename_i C;cases z;obtain⟨p,e,l,t⟩:=h.dec _ _ _ C;simp only[List.append_nil]at e;subst e;simp only[Aj,GK]at t;unfold AA.Am;rw[<- t];unfold DX
  grind
 ·cases z
theorem Q5 {k:IntKind} {v:SV U.Ty} {a:Int} (h:(AA.int k:AA U.Ty Int).one v=some a):∀cs,AU U v≠.agg cs:=by
 rintro cs hc
 cases v<;>simp_all [AU,AA.one,AA.int]
theorem Zqm {v:SV U.Ty} {a:Bool} (h:(AA.bool:AA U.Ty Bool).one v=some a):∀cs,AU U v≠.agg cs:=by
 rintro cs hc
 cases v<;>simp_all [AU,AA.one,AA.bool]
theorem ZtJ {v:SV U.Ty} {a:ByteArray} (h:(AA.str:AA U.Ty ByteArray).one v=some a):∀cs,AU U v≠.agg cs:=by
 rintro cs hc
 cases v<;>simp_all [AU,AA.one,AA.str]
theorem G6 {t n:Nat} {e:U.Ty t->V} {v:SV U.Ty} {a:List (U.Ty t)} (h:(AA.list t n e:AA U.Ty (List (U.Ty t))).one v=some a):∀cs,AU U v≠.agg cs:=by
 rintro cs hc
 cases v<;>simp_all [AU,AA.one,AA.list]
theorem AP.ZaW {T:Type} {c:AA U.Ty T} {n:Nat} (h:AP U c [n]) (a:T):AU U (c.Bq a)=c.Am a:=by
 unfold AA.Bq AA.Am;rw[<- h.enc a];have z:=h.len a;rw[<- h.enc a,Iu]at z;cases C:c.encS a with
 | nil=>simp_all
 | cons x xs=>rfl
theorem AP.Fg {T:Type} {c:AA U.Ty T} {n:Nat} (h:AP U c [n]) {a b:T} (z:c.Am a=c.Am b):a=b:=by
 refine h.inj a b ?_;have C:=h.len a;have D:=h.len b;unfold AA.Am at z;cases G:c.Af a with
 | nil=>simp_all
 | cons x xs=>
  cases hb:c.Af b with
  | nil=>simp_all
  | cons y ys=>
   simp_all
theorem AP.Fq {T:Type} {c:AA U.Ty T} {n:Nat} (h:AP U c [n]) (a:T):Bz (c.Am a)=true:=by
 have:=h.nr a;unfold AA.Am;cases z:c.Af a with
 | nil=>rfl
 | cons x xs=>rw[z]at this;simp[Be]at this;exact this.1
end
def AA.skip {Ty:Nat->Type}:AA Ty Unit where
 Af:=fun _=>[.und]
 encS:=fun _=>[.und]
 dec:=fun cs=>match cs with
  | .und::r=>some ((),r)
  | _=>none
theorem AP.skip {U:CX}:AP U (AA.skip:AA U.Ty Unit) [0]:=by
 refine⟨fun a=>rfl,fun a=>rfl,?_,fun a=>rfl,fun a b _=>rfl⟩;intro cs a z h;simp only[AA.skip]at h;split at h<;>cases h;exact⟨[_],rfl,rfl,rfl⟩
def rawS {Ty:Nat->Type}:V->SV Ty
 | .lit v=>.lit v
 | .und=>.und
 | _=>.no
def YY:V->Bool
 | .lit _=>true
 | .und=>true
 | _=>false
def AA.Pn {Ty:Nat->Type} {T:Type} (c:AA Ty T) (n:Nat) (a:T):V:=.Bj n [.agg (c.Af a)] 0 0
def AA.ptrD {Ty:Nat->Type} {T:Type} (c:AA Ty T) (n:Nat) (v:SV Ty):Option T:=match v with
 | .raw (.Bj m [.agg cs] 0 0)=>if m=n/\cs.all YY=true then c.agg (.agg (cs.map rawS)) else none
 | _=>none
theorem ZoM {U:CX}:∀{cs:List V},cs.all YY=true->Aj U (cs.map rawS)=cs:=by
 intro cs;induction cs with
 | nil=>intro _;rfl
 | cons c cs z=>
  intro h;simp only[List.all_cons,Bool.and_eq_true]at h;simp only[List.map_cons,Aj,z h.2];cases c<;>simp_all [YY,rawS,AU]
theorem ZkT:∀{cs:List V},cs.all YY=true->∀rs,GK rs cs=cs:=by
 intro cs;induction cs with
 | nil=>intro _ rs;cases rs<;>rfl
 | cons c cs z=>
  intro h rs;simp only[List.all_cons,Bool.and_eq_true]at h;cases rs with
  | nil=>rfl
  | cons r rs=>
   simp only[GK,z h.2];cases c<;>simp_all [YY,Gl]
theorem AP.ZrM {U:CX} {T:Type} {c:AA U.Ty T} {r:List Nat} (h:AP U c r) {n:Nat} {v:SV U.Ty} {a:T} (C:c.ptrD n v=some a) (rs:List Nat):DX rs (AU U v)=c.Pn n a:=by
 unfold AA.ptrD at C;split at C
 ·rename_i m cs;split at C
  ·rename_i hc;obtain⟨rfl,z⟩:=hc;have:=h.agg C;simp only[AU,DX,ZoM z,V.agg.injEq]at this;rw[ZkT z]at this;simp only[AU,DX,Gl,AA.Pn,this]
  ·cases C
 ·cases C
theorem AP.Ztf {U:CX} {T:Type} {c:AA U.Ty T} {r:List Nat} (h:AP U c r) (n:Nat) (a:T):Bz (c.Pn n a)=true:=by
 simp[AA.Pn,Bz,Be,h.nr]
theorem AP.ZpX {U:CX} {T:Type} {c:AA U.Ty T} {r:List Nat} (h:AP U c r) {n:Nat} {a b:T} (z:c.Pn n a=c.Pn n b):a=b:=by
 simp only[AA.Pn,V.Bj.injEq,List.cons.injEq,V.agg.injEq,and_true,true_and]at z;exact h.inj _ _ z
noncomputable def Lp {U:CX} (P:Program) (gl:Nat->Option (List V)) (f:FuncId) (mods:FuncId->Option (BF U)) (hmods:FuncId->List FuncId->Option (HMod U)) (mk:MW P):Env:=
 { JW P (fun _=>false) (OD mods) with
  func:=fun g=>if g=f then P.funcs[g]? else none
  D5:=gl
  hm:=Vt hmods
  maps:=mk.tab
  par:=fun g=>match mods g with|some m=>m.ts|none=>[] }
def ZpA (E:Env) (P:Program) (f:FuncId):Bool:=match (P.funcs[f]?).bind (·.body) with|some c=>!Dy E f c|none=>false
noncomputable def EV {U:CX} (P:Program) (gl:Nat->Option (List V)) (f:FuncId) (mods:FuncId->Option (BF U)) (hmods:FuncId->List FuncId->Option (HMod U)) (mk:MW P):Env:=
 { Lp P gl f mods hmods mk with quiet:=ZpA (Lp P gl f mods hmods mk) P f }
section
variable {U:CX} {P:Program} {gl:Nat->Option (List V)} {f:FuncId} {mods:FuncId->Option (BF U)} {hmods:FuncId->List FuncId->Option (HMod U)} {mk:MW P}
theorem mM (G:P.follows .mixedOrders=true) {fn:Func} {c:Code} (D:P.funcs[f]? = some fn) (C:(fn.name == "runtime.NumGoroutine")=false) (hb:fn.body=some c) (J:Dy (EV P gl f mods hmods mk) f c=true):Bl (EV P gl f mods hmods mk):=by
 refine⟨fun t i h=>h,?_,G,?_,?_,?_,?_,fun t S h=>h,?_⟩
 ·intro g I h;simp only[EV,Lp]at h;split at h
  ·rename_i R;subst R;rw[D]at h;cases h;exact⟨D,C⟩
  ·cases h
 ·intro g I c' h M;simp only[EV,Lp]at h
  simp_all
 ·intro t k h;simp only[EV,Lp,JW]at h;split at h
  ·rename_i d z;simp only[Option.some.injEq]at h;subst h;exact z
  ·cases h
 ·intro t h;simp only[EV,Lp,JW]at h;split at h
  ·rename_i z;exact z
  ·cases h
 ·intro t h;simp only[EV,Lp,JW]at h;split at h
  ·rename_i z;exact z
  ·cases h
 ·intro t h;simp only[EV,Lp,JW]at h;split at h
  ·rename_i e Q;split at h
   ·rename_i z;exact⟨e,Q,z⟩
   ·cases h
  ·cases h
def iY:(ts:List Nat)->FZ U ts->List (SV U.Ty)
 | [],_=>[]
 | t::ts,x=>U.encS t x.1::iY ts x.2
def YJ (ts:List Nat) (x:FZ U ts) (n:Nat):DI U:=⟨iY ts x++List.replicate (n - ts.length) .no,[]⟩
theorem Zjo {E:Env} (z:Cm U E):∀{ts:List Nat} (x:FZ U ts),Aj U (iY ts x)=GL ts x:=by
 intro ts;induction ts with
 | nil=>intro x;rfl
 | cons t ts C=>intro x;simp only[iY,Aj,GL,z.encS,C]
theorem Z5a:∀{ts:List Nat} (x:FZ U ts),(GL ts x).length=ts.length:=by
 intro ts;induction ts with
 | nil=>intro x;rfl
 | cons t ts z=>intro x;simp[GL,z]
theorem Zl4 {E:Env} (z:Cm U E) {ts:List Nat} (x:FZ U ts) (n:Nat):CB U (YJ ts x n)=⟨GL ts x++List.replicate (n - (GL ts x).length) DT,[]⟩:=by
 simp only[CB,YJ,QR,Zjo z,Z5a];congr 1;congr 1;rw[Eb,List.map_replicate];rfl
theorem fn_ok {E0:Env} (C:E0.D5=gl) (S:Cm U (EV P gl f mods hmods mk)) (M:P.follows .mixedOrders=true) {fn:Func} {c:Code} (Q:∀g m,mods g=some m->BD P E0 g m) (J:∀g k m,hmods g k=some m->Bi P E0 g m) (G:P.funcs[f]? = some fn) (z:(fn.name == "runtime.NumGoroutine")=false)
  (hb:fn.body=some c) (D:Dy (EV P gl f mods hmods mk) f c=true) (m:BF U)
  (h:∀x a,m.fn x=some a->Ce (DY (EV P gl f mods hmods mk) 1) (EV P gl f mods hmods mk) f fn 0 (Zp (EV P gl f mods hmods mk) fn) (.run c) [] (CB U (YJ m.ts x fn.ntmps)) (U.enc m.rt a,[])):BD P E0 f m:=by
 have Y:=mM (gl:=gl) (mods:=mods) M G z hb D;have hF:LK P (EV P gl f mods hmods mk):=iQ S rfl rfl (fun _=>rfl) (fun g m hm=>(Q g m hm).D5 (by rw[C];rfl)) (fun g k m hm=>(J g k m hm).D5 (by rw[C];rfl)) mk rfl;have I : (EV P gl f mods hmods mk).func f=some fn:=by simp only[EV,Lp,if_true];exact G
 have key:∀x a,m.fn x=some a->Ky P f/\MX P (EV P gl f mods hmods mk) f (GL m.ts x) (U.enc m.rt a):=by
  intro x a R;have:=h x a R;rw[Zl4 S]at this;exact ZjW Y rfl hF I hb this
 refine⟨⟨fn,G,by simp[hb],z⟩,fun x a R fz w vs hc hg hr=>(key x a R).2 fz w vs hc ?_ hr⟩;intro g r hh;exact hg g r (by rw[C];exact hh)
def VV (e:List (SV U.Ty)×Au U) (n:Nat):DI U:=⟨e.1++List.replicate (n - e.1.length) .no,e.2⟩
theorem Z7h (e:List (SV U.Ty)×Au U) (n:Nat):CB U (VV e n)=⟨Aj U e.1++List.replicate (n - (Aj U e.1).length) DT,BC U e.2⟩:=by
 simp only[CB,VV,QR,Iu];congr 1;congr 1;rw[Eb,List.map_replicate];rfl
theorem Zta {E0:Env} (C:E0.D5=gl) (hU:Cm U (EV P gl f mods hmods mk)) (M:P.follows .mixedOrders=true) {fn:Func} {c:Code} (R:∀g m,mods g=some m->BD P E0 g m) (J:∀g k m,hmods g k=some m->Bi P E0 g m) (G:P.funcs[f]? = some fn) (z:(fn.name == "runtime.NumGoroutine")=false)
  (hb:fn.body=some c) (D:Dy (EV P gl f mods hmods mk) f c=true) (m:HMod U) {fa:List (List Fk)} {fb:List Bf} {k:Nat} (hk:∀x:m.Ba.X U,(m.Ba.enc x).2.length=k)
  (h:∀(x:m.Ba.X U) (y:U.Ty m.ky),m.fn x=some y->Ce (DY (EV P gl f mods hmods mk) 1) (EV P gl f mods hmods mk) f fn k (Zh (EV P gl f mods hmods mk) fn fa fb k) (.run c) [] (CB U (VV (m.Ba.enc x) fn.ntmps)) (AU U (m.out y).1,BC U (m.out y).2)):Bi P E0 f m:=by
 have Y:=mM (gl:=gl) (mods:=mods) (hmods:=hmods) M G z hb D;have hF:LK P (EV P gl f mods hmods mk):=iQ hU rfl rfl (fun _=>rfl) (fun g m hm=>(R g m hm).D5 (by rw[C];rfl)) (fun g k m hm=>(J g k m hm).D5 (by rw[C];rfl)) mk rfl;have I : (EV P gl f mods hmods mk).func f=some fn:=by simp only[EV,Lp,if_true];exact G
 refine⟨⟨fn,G,by simp[hb],z⟩,fun x y hx B w0 σ w vs Q hi hg hr=>?_⟩;have S:=h x y hx;rw[Z7h]at S;exact(ZjS Y rfl hF I hb (by rw[Oj];exact hk x) S).2 B w0 σ w vs Q hi (fun g r hh=>hg g r (by rw[C];exact hh)) hr
theorem lM (z:Cm U (EV P gl f mods hmods mk)):NH U (ND mods hmods mk.tab) (DY (EV P gl f mods hmods mk) 1):=
 Zpm z rfl rfl (fun _=>rfl) (fun g m h=>by simp only[EV,Lp,h]) (fun _=>rfl) 0
end
structure BP (U:CX) (E:Env) (t:Nat):Prop where
 encS:∀a,AU U (U.encS t a)=U.enc t a
 dec:∀v a,U.Gq t v=some a->DX (E.rows t) (AU U v)=U.enc t a
 cells:∀a,(U.enc t a).cells=Aj U (cellsS (U.encS t a))
 nr:∀a,Bz (U.enc t a)=true
 inj:∀a b,U.enc t a=U.enc t b->a=b
def YE (U:CX) (E:Env) {α:Type}:List ((i:Nat)×(α->U.Ty i))->Prop
 | []=>True
 | c::cs=>BP U E c.1/\YE U E cs
def Z17 (U:CX) {α:Type} (x y:α):List ((i:Nat)×(α->U.Ty i))->Prop
 | []=>True
 | c::cs=>c.2 x=c.2 y/\Z17 U x y cs
theorem Z85 {U:CX} {E:Env} {α:Type} (x:α):∀{cs:List ((i:Nat)×(α->U.Ty i))},YE U E cs->Aj U (cs.map fun c=>U.encS c.1 (c.2 x))=cs.map fun c=>U.enc c.1 (c.2 x):=by
 intro cs;induction cs with
 | nil=>intro _;rfl
 | cons c cs z=>intro h;simp only[List.map_cons,Aj,h.1.encS,z h.2]
theorem Zqz {U:CX} {E:Env} {α:Type} (x:α):∀{cs:List ((i:Nat)×(α->U.Ty i))},YE U E cs->Be (cs.map fun c=>U.enc c.1 (c.2 x))=true:=by
 intro cs;induction cs with
 | nil=>intro _;rfl
 | cons c cs z=>intro h;simp only[List.map_cons,Be,h.1.nr,z h.2,Bool.and_self]
theorem Zpc {U:CX} {E:Env} {α:Type} (x y:α):∀{cs:List ((i:Nat)×(α->U.Ty i))},YE U E cs->(cs.map fun c=>U.enc c.1 (c.2 x))=(cs.map fun c=>U.enc c.1 (c.2 y))->Z17 U x y cs:=by
 intro cs;induction cs with
 | nil=>intro _ _;trivial
 | cons c cs z=>intro h e;simp only[List.map_cons,List.cons.injEq]at e;exact⟨h.1.inj _ _ e.1,z h.2 e.2⟩
theorem BP.Ap {U:CX} {E:Env} {t:Nat} (cs:List ((i:Nat)×(U.Ty t->U.Ty i))) (h:YE U E cs) (z:∀x,U.enc t x = .Ap (cs.map fun c=>U.enc c.1 (c.2 x))) (C:∀x,U.encS t x = .Ap (cs.map fun c=>U.encS c.1 (c.2 x))) (D:∀v,U.Gq t v=none)
  (G:∀x y,Z17 U x y cs->x=y):BP U E t:=by
 refine⟨fun a=>?_,fun v a e=>?_,fun a=>?_,fun a=>?_,fun a b e=>?_⟩
 ·rw[z,C,AU,Z85 a h]
 ·rw[D]at e;cases e
 ·rw[z,C];show [V.Ap _]=[V.Ap _];rw[Z85 a h]
 ·rw[z];exact Zqz a h
 ·rw[z,z]at e;exact G a b (Zpc a b h (V.Ap.inj e))
theorem BP.Es {U:CX} {E:Env} {t:Nat} {c:AA U.Ty (U.Ty t)} {rs:List Nat} (hc:AP U c rs) (G:E.rows t=rs) (z:∀a,U.enc t a = .agg (c.Af a)) (C:∀a,U.encS t a = .agg (c.encS a)) (D:∀v,U.Gq t v=c.agg v):BP U E t:=by
 refine⟨fun a=>?_,fun v a h=>?_,fun a=>?_,fun a=>?_,fun a b h=>?_⟩
 ·rw[z,C,AU,hc.enc]
 ·rw[G,z];exact hc.agg (by rw[<- D];exact h)
 ·rw[z,C];exact(hc.enc a).symm
 ·rw[z];exact hc.nr a
 ·rw[z,z]at h;exact hc.inj _ _ (V.agg.inj h)
theorem BP.Eh {U:CX} {E:Env} {t n:Nat} {c:AA U.Ty (U.Ty t)} (hc:AP U c [n]) (J:E.rows t=[n]) (M:∀{v:SV U.Ty} {a:U.Ty t},c.one v=some a->∀cs,AU U v≠.agg cs) (z:∀a,U.enc t a=c.Am a) (C:∀a,U.encS t a=c.Bq a) (D:∀v,U.Gq t v=c.one v)
  (G:∀a,(c.Am a).cells=[c.Am a]) (I:∀a,cellsS (c.Bq a)=[c.Bq a]):BP U E t:=by
 refine⟨fun a=>?_,fun v a h=>?_,fun a=>?_,fun a=>?_,fun a b h=>?_⟩
 ·rw[z,C];exact hc.ZaW a
 ·rw[D]at h;rw[J,z];exact hc.one h (M h)
 ·rw[z,C,G,I,Aj,Aj,hc.ZaW]
 ·rw[z];exact hc.Fq a
 ·rw[z,z]at h;exact hc.Fg h
def Y1 (p:Nat->Prop):List Nat->Prop
 | []=>True
 | t::ts=>p t/\Y1 p ts
theorem Y1.at {p:Nat->Prop} {t:Nat}:∀{l:List Nat},Y1 p l->t∈l->p t:=by
 intro l;induction l with
 | nil=>intro _ m;cases m
 | cons x l z=>
  intro h m;rcases List.mem_cons.1 m with rfl|m
  ·exact h.1
  ·exact z h.2 m
section
variable {U:CX} {R P:Type}
def GN {R P:Type} (g:P->Option R):R⊕P->Option R
 | .inl r=>some r
 | .inr q=>g q
def Qj (T:P->Tr U (R⊕P)):Nat->P->Option R
 | 0,_=>none
 | n+1,p=>(T p).den (GN (Qj T n))
noncomputable def AY (T:P->Tr U (R⊕P)) (p:P):Option R:=Y8 fun n=>Qj T n p
theorem Zb0 {L:Type} {J K:L->Option R} (h:∀l r,J l=some r->K l=some r):∀{T:Tr U L} {r:R},T.den J=some r->T.den K=some r:=by
 intro T;induction T with
 | leaf l=>intro r z;exact h l r z
 | br c a b D G=>intro r z;cases c with
  | true=>exact D z
  | false=>exact G z
 | bind t o k C=>intro r z;cases o with
  | none=>cases z
  | some a=>exact C a z
 | chk c a C=>intro r z;cases c with
  | true=>exact C z
  | false=>cases z
 | fail=>intro r z;cases z
theorem ZlS (T:P->Tr U (R⊕P)):∀n p r,Qj T n p=some r->Qj T (n+1) p=some r:=by
 intro n;induction n with
 | zero=>intro p r h;cases h
 | succ n C=>
  intro p r h;refine Zb0 ?_ h;intro l r z;cases l with
  | inl a=>exact z
  | inr q=>exact C q r z
theorem Z9Z (T:P->Tr U (R⊕P)) {n:Nat} {p:P} {r:R} (h:Qj T n p=some r):AY T p=some r:=
 Zrp (fun n a h=>ZlS T n p a h) h
theorem AQ (T:P->Tr U (R⊕P)) (p:P):AY T p=(T p).den (GN (AY T)):=by
 have Q:∀r,AY T p=some r->(T p).den (GN (AY T))=some r:=by
  intro r h;obtain⟨n,C⟩:=Zi h;cases n with
  | zero=>cases C
  | succ n=>
   refine Zb0 ?_ C;intro l r D;cases l with
   | inl a=>exact D
   | inr q=>exact Z9Z T D
 have Y:∀r,(T p).den (GN (AY T))=some r->AY T p=some r:=by
  intro r h;obtain⟨l,D,M⟩:=Z9h h;have key:∃n,(T p).den (GN (Qj T n))=some r:=by
   have C:∃n,GN (Qj T n) l=some r:=by
    cases l with
    | inl a=>exact⟨0,M⟩
    | inr q=>obtain⟨n,C⟩:=Zi M;exact⟨n,C⟩
   obtain⟨n,C⟩:=C;refine⟨n,?_⟩;have:∀(X:Tr U (R⊕P)),X.AV l->X.den (GN (Qj T n))=some r:=by
    intro X;induction X with
    | leaf x=>intro z;simp only[Tr.AV]at z;subst z;exact C
    | br c a b I J=>
     rintro (⟨rfl,z⟩|⟨rfl,z⟩)
     ·exact I z
     ·exact J z
    | bind t o k G=>rintro ⟨a,rfl,z⟩;exact G a z
    | chk c a G=>rintro ⟨rfl,z⟩;exact G z
    | fail=>intro z;exact z.elim
   exact this _ D
  obtain⟨n,C⟩:=key;exact Z9Z T (n:=n+1) C
 cases S:AY T p with
 | some r=>exact(Q r S).symm
 | none=>
  cases hb:(T p).den (GN (AY T)) with
  | none=>rfl
  | some r=>simp_all
structure BN (U:CX) where
 c:Code
 K:List Fr
 st:DI U
 sk:Bool
def Nw {R:Type} (out:R->SV U.Ty×Au U) (z:P->BN U):R⊕P->Vk U
 | .inl r=>.done (out r)
 | .inr q=>.jump (z q).c (z q).K (z q).st
end
def outP {U:CX} (rt:Nat) (r:U.Ty rt):SV U.Ty×Au U:=(U.encS rt r,[])
structure Lay where
 keep:List Nat
 fa:List (List Fk)
 fb:List Bf
 sh:Shape
section
variable {U:CX}
def kU {L:Type} (bs:List Bool) (t:Tr U L):Tr U L:=match bs with
 | []=>t
 | c::cs=>.chk (V6 (c::cs)) t
theorem yV {L:Type} {bs:List Bool} {t:Tr U L} {l:L} (h:(kU bs t).AV l):(∀b∈bs,b=true)/\t.AV l:=by
 cases bs with
 | nil=>exact⟨by intro b hb;simp at hb,h⟩
 | cons c cs=>exact⟨Z7e h.1,h.2⟩
def layT (z:Nat) (l:Lay) (st:DI U):Tr U (DI U):=
 (V8 l.fa l.fb z (l.keep.map fun i=>st.s.getD i .und) st.H).andThen fun r=>
  .when (r.1.take z=List.range z) (match l.sh.dec (MZ (r.1.idxOf ·) r.2.1) (Va r.2.2 r.1) with
   | some x=>kU x.2 (.leaf ⟨spread .und st.s.length l.keep (l.sh.enc x.1).1,(l.sh.enc x.1).2⟩)
   | none=>.fail)
theorem ZnI (s:List (SV U.Ty)) (keep:List Nat):Aj U (keep.map fun i=>s.getD i .und)=keep.map fun i=>(Aj U s).getD i .und:=by
 induction keep with
 | nil=>rfl
 | cons i keep z=>simp only[List.map_cons,Aj,z,<- Uu]
theorem ZrA {E:Env} (J:Cm U E) {C:Nat} {l:Lay} {st st' : DI U} (h:(layT C l st).AV st'):∃ids as D,pack l.fa l.fb C (l.keep.map fun i=>(CB U st).s.getD i .und) (CB U st).H=some (ids,as,D)/\ids.take C=List.range C /\
  CB U st' = ⟨spread .und (CB U st).s.length l.keep (Fv (ids.idxOf ·) as),GU D ids⟩:=by
 simp only[layT,Dn,ER]at h;obtain⟨p,Q,M,h⟩:=h;have z :=iW Q;rw[ZnI]at z;split at h
 ·rename_i x R;obtain⟨hb,h⟩:=yV h;simp only[Tr.AV]at h;subst h;obtain⟨G,I⟩:=Shape.kE J R hb;refine⟨_,_,_,z,M,?_⟩;rw[Ot]at G;rw[iH]at I;simp only[CB];rw[G,I,Iu];congr 1;rw[Eb,Zlr,<- Eb];rfl
 ·simp[Tr.AV]at h
def Qb (E:Env) (fn:Func) (fa:List (List Fk)) (fb:List Bf) (k:Nat) (sh:Shape) (one:Bool) (st:DI U):Tr U (SV U.Ty×Au U):=
 (Z1o E fn fa fb k st).andThen fun r=>match one,r.1 with
  | true,.Ap _=>.fail
  | true,v=>(match sh.dec [v] r.2 with
   | some x=>kU x.2 (.leaf ((sh.enc x.1).1.headD .und,(sh.enc x.1).2))
   | none=>.fail)
  | false,.Ap vs=>(match sh.dec vs r.2 with
   | some x=>kU x.2 (.leaf (.Ap (sh.enc x.1).1,(sh.enc x.1).2))
   | none=>.fail)
  | false,_=>.fail
theorem ZT {E:Env} (D:Cm U E) {fn:Func} {fa:List (List Fk)} {fb:List Bf} {k:Nat} {sh:Shape} {one:Bool} {st:DI U} {r:SV U.Ty×Au U} (h:(Qb E fn fa fb k sh one st).AV r):Zh E fn fa fb k (CB U st) (AU U r.1,BC U r.2):=by
 simp only[Qb,Dn]at h;obtain⟨q,M,h⟩:=h;have Q:=Zoz D M;have key:AU U q.1=AU U r.1/\BC U q.2=BC U r.2:=by
  split at h
  ·simp[Tr.AV]at h
  ·split at h
   ·rename_i x I;obtain⟨hb,h⟩:=yV h;simp only[Tr.AV]at h;subst h;obtain⟨z,C⟩:=Shape.kE D I hb;refine⟨?_,C⟩;cases J:(sh.enc x.1).1 with
    | nil=>rw[J]at z;cases z
    | cons y ys=>
     rw[J]at z;simp only[Aj,List.cons.injEq]at z;exact z.1
   ·simp[Tr.AV]at h
  ·rename_i vs G;split at h
   ·rename_i x I;obtain⟨hb,h⟩:=yV h;simp only[Tr.AV]at h;subst h;obtain⟨z,C⟩:=Shape.kE D I hb;refine⟨?_,C⟩;rw[G];simp only[AU,z]
   ·simp[Tr.AV]at h
  ·simp[Tr.AV]at h
 simp_all
def Dv (E:Env) (M:IK U) (A:Nat->Option Lay) (f:FuncId) (fn:Func) (z:Nat) (D:DI U->Tr U (SV U.Ty×Au U)):Nat->WE->List Fr->DI U->Bool->Tr U (Vk U)
 | 0,_,_,_,_=>.fail
 | n+1,.run c,K,st,sk=>
  match c with
  | .skip=>Dv E M A f fn z D n .nxt K st sk
  | .region id ops draw=>
   let C:Tr U (Vk U):=if draw then (if E.calm f id then (mV E M ops st).andThen fun st' =>Dv E M A f fn z D n .nxt K st' false else .fail)
    else (opsT E M ops (List.range ops.size) st).andThen fun st' =>Dv E M A f fn z D n .nxt K st' false
   match sk with
   | true=>C
   | false=>match A id with
    | none=>C
    | some l=>(layT z l st).andThen fun st' =>.leaf (.jump (.region id ops draw) K st')
  | .seq a b=>Dv E M A f fn z D n (.run a) (.seq b::K) st sk
  | .cond c a b=>match CQ E st.s c with
   | .lit (.bool true)=>Dv E M A f fn z D n (.run a) K st sk
   | .lit (.bool false)=>Dv E M A f fn z D n (.run b) K st sk
   | .sb t=>.br t (Dv E M A f fn z D n (.run a) K st sk) (Dv E M A f fn z D n (.run b) K st sk)
   | _=>.fail
  | .block id b=>Dv E M A f fn z D n (.run b) (.blk id::K) st sk
  | .loop b=>Dv E M A f fn z D n (.run b) (.loop b::K) st sk
  | .scope b=>Dv E M A f fn z D n (.run b) K st sk
  | .label _=>Dv E M A f fn z D n .nxt K st sk
  | .exit id=>Dv E M A f fn z D n (.exit id) K st sk
  | .ret=>Dv E M A f fn z D n .ret K st sk
  | _=>.fail
 | n+1,.nxt,[],st,_=>(D st).andThen fun v=>.leaf (.done v)
 | n+1,.nxt,.seq c::K,st,sk=>Dv E M A f fn z D n (.run c) K st sk
 | n+1,.nxt,.blk _::K,st,sk=>Dv E M A f fn z D n .nxt K st sk
 | n+1,.nxt,.loop b::K,st,sk=>Dv E M A f fn z D n (.run b) (.loop b::K) st sk
 | n+1,.exit id,.blk i::K,st,sk=>if id=i then Dv E M A f fn z D n .nxt K st sk else Dv E M A f fn z D n (.exit id) K st sk
 | n+1,.exit id,_::K,st,sk=>Dv E M A f fn z D n (.exit id) K st sk
 | n+1,.exit _,[],_,_=>.fail
 | n+1,.ret,[],st,_=>(D st).andThen fun v=>.leaf (.done v)
 | n+1,.ret,_::K,st,sk=>Dv E M A f fn z D n .ret K st sk
theorem Zrv {E:Env} {M:IK U} {A:Nat->Option Lay} {call:CV} (hU:Cm U E) (hM:NH U M call) {f:FuncId} {fn:Func} {Q:Nat} {D:DI U->Tr U (SV U.Ty×Au U)} {Z:St->V×Heap->Prop} (hD:∀st s,(D st).AV s->Z (CB U st) (AU U s.1,BC U s.2)) {r:V×Heap}:∀(n:Nat) (ctl:WE) (K:List Fr) (st:DI U) (sk:Bool) (l:Vk U),
  (Dv E M A f fn Q D n ctl K st sk).AV l->Zp6 call E f fn Q Z l r->Ce call E f fn Q Z ctl K (CB U st) r:=by
 intro n;induction n with
 | zero=>intro ctl K st sk l h;simp[Dv,Tr.AV]at h
 | succ n C=>
  intro ctl K st sk l h z;cases ctl with
  | run c=>
   cases c with
   | skip=>exact .skip (C _ _ _ _ _ h z)
   | region id ops draw=>
    simp only[Dv]at h;have go:(if draw=true then (if E.calm f id=true then (mV E M ops st).andThen fun st' =>Dv E M A f fn Q D n .nxt K st' false else .fail)
      else (opsT E M ops (List.range ops.size) st).andThen fun st' =>Dv E M A f fn Q D n .nxt K st' false:Tr U (Vk U)).AV l->Ce call E f fn Q Z (.run (.region id ops draw)) K (CB U st) r:=by
     intro J;cases draw with
     | true=>
      simp only[if_true]at J
      by_cases hc:E.calm f id=true
      ·rw[if_pos hc,Dn]at J;obtain⟨R,I,S⟩:=J;exact .draw hc (Zox hU hM I) (C _ _ _ _ _ S z)
      ·rw[if_neg hc]at J;simp[Tr.AV]at J
     | false=>
      simp only[Bool.false_eq_true,if_false]at J;rw[Dn]at J;obtain⟨R,I,S⟩:=J;exact .region (ZrL hU hM I) (C _ _ _ _ _ S z)
    cases sk with
    | true=>exact go h
    | false=>
     simp only at h;split at h
     ·exact go h
     ·rename_i l' hA;simp only[Dn,Tr.AV]at h;obtain⟨R,ht,rfl⟩:=h;obtain⟨ids,as,H2,I,S,h3⟩:=ZrA hU ht;have Y : Ce call E f fn Q Z (.run (.region id ops draw)) K (CB U R) r:=z;rw[h3]at Y;exact .Zb8 I S Y
   | seq a b=>exact .seq (C _ _ _ _ _ h z)
   | cond c a b=>
    simp only[Dv]at h;have G:ev E (CB U st).s c=AU U (CQ E st.s c):=FX E st.s c;split at h
    ·rename_i hc;rw[hc]at G;exact .cond (t:=true) G (C _ _ _ _ _ h z)
    ·rename_i hc;rw[hc]at G;exact .cond (t:=false) G (C _ _ _ _ _ h z)
    ·rename_i t hc;rw[hc]at G;simp only[Tr.AV]at h;rcases h with ⟨rfl,h⟩|⟨rfl,h⟩
     ·exact .cond (t:=true) G (C _ _ _ _ _ h z)
     ·exact .cond (t:=false) G (C _ _ _ _ _ h z)
    ·simp[Tr.AV]at h
   | block id b=>exact .block (C _ _ _ _ _ h z)
   | loop b=>exact .loop (C _ _ _ _ _ h z)
   | scope b=>exact .scope (C _ _ _ _ _ h z)
   | label l=>exact .label (C _ _ _ _ _ h z)
   | exit id=>exact .exit (C _ _ _ _ _ h z)
   | ret=>exact .ret (C _ _ _ _ _ h z)
   | _=>simp[Dv,Tr.AV]at h
  | nxt=>
   cases K with
   | nil=>
    simp only[Dv,Dn,Tr.AV]at h;obtain⟨v,I,rfl⟩:=h;have:r=(AU U v.1,BC U v.2):=z;rw[this];exact .finN (hD _ _ I)
   | cons x K=>
    cases x with
    | seq c=>exact .nseq (C _ _ _ _ _ h z)
    | blk i=>exact .nblk (C _ _ _ _ _ h z)
    | loop b=>exact .Zbn (C _ _ _ _ _ h z)
  | exit id=>
   cases K with
   | nil=>simp[Dv,Tr.AV]at h
   | cons x K=>
    cases x with
    | seq c=>exact .nR (C _ _ _ _ _ h z)
    | blk i=>
     simp only[Dv]at h;split at h
     ·rename_i hi;subst hi;exact .eblk (C _ _ _ _ _ h z)
     ·rename_i hi;exact .Zb7 hi (C _ _ _ _ _ h z)
    | loop b=>exact .Zb6 (C _ _ _ _ _ h z)
  | ret=>
   cases K with
   | nil=>
    simp only[Dv,Dn,Tr.AV]at h;obtain⟨v,I,rfl⟩:=h;have:r=(AU U v.1,BC U v.2):=z;rw[this];exact .finR (hD _ _ I)
   | cons x K=>exact .rany (C _ _ _ _ _ h z)
theorem gY {R P:Type} {E:Env} {M:IK U} {A:Nat->Option Lay} {call:CV} (hU:Cm U E) (hM:NH U M call) {f:FuncId} {fn:Func} {Q:Nat} {D:DI U->Tr U (SV U.Ty×Au U)} {Z:St->V×Heap->Prop} (Y:∀st s,(D st).AV s->Z (CB U st) (AU U s.1,BC U s.2))
  {out:R->SV U.Ty×Au U} {N:Nat} (T:P->Tr U (R⊕P)) (z:P->BN U)
  (h:∀p,Dv E M A f fn Q D N (.run (z p).c) (z p).K (z p).st (z p).sk=(T p).map (Nw out z)) {p:P} {r:R} (J:AY T p=some r) :
  Ce call E f fn Q Z (.run (z p).c) (z p).K (CB U (z p).st) (AU U (out r).1,BC U (out r).2):=by
 obtain⟨n,I⟩:=Zi J;clear J;induction n generalizing p r with
 | zero=>cases I
 | succ n ih=>
  obtain⟨l,S,C⟩:=Z9h I;have G:=ZoS (g:=Nw out z) S;rw[<- h p]at G;refine Zrv hU hM Y N _ _ _ _ _ G ?_;cases l with
  | inl a=>
   simp only[GN,Option.some.injEq]at C;subst C;rfl
  | inr q=>exact ih C
end
def spot {U:CX} (c:Code) (p:List Nat) (n:Nat) (keep:List Nat) (e:List (SV U.Ty)×Au U):BN U:=⟨(Pv c p []).1,(Pv c p []).2,⟨spread .und n keep e.1,e.2⟩,true⟩
theorem Zon {U:CX} {P:Program} {gl:Nat->Option (List V)} {f:FuncId} {mods:FuncId->Option (BF U)} {hmods:FuncId->List FuncId->Option (HMod U)} {mk:MW P} {E0:Env} (Q:E0.D5=gl) (G:Cm U (EV P gl f mods hmods mk)) (J:P.follows .mixedOrders=true) {fn:Func} {c:Code}
  (S:∀g m,mods g=some m->BD P E0 g m) (I:∀g k m,hmods g k=some m->Bi P E0 g m) (R:P.funcs[f]? = some fn) (C:(fn.name == "runtime.NumGoroutine")=false) (hb:fn.body=some c) (z:Dy (EV P gl f mods hmods mk) f c=true) (m:BF U)
  {M:Type} {A:Nat->Option Lay} {N:Nat} (T:M->Tr U (U.Ty m.rt⊕M)) (D:M->BN U)
  (h:∀p,Dv (EV P gl f mods hmods mk) (ND mods hmods mk.tab) A f fn 0 (mQ (EV P gl f mods hmods mk) fn) N (.run (D p).c) (D p).K (D p).st (D p).sk=(T p).map (Nw (outP m.rt) D))
  (b0:FZ U m.ts->M) (hm:∀x,m.fn x=AY T (b0 x)) (Y:∀x,D (b0 x)=⟨c,[],YJ m.ts x fn.ntmps,false⟩):BD P E0 f m:=by
 refine fn_ok Q G J S I R C hb z m fun x a hx=>?_;rw[hm]at hx;have:=gY G (lM G) (fun st s hs=>Zo4 G hs) T D h hx;rw[Y]at this;simp only[outP,G.encS]at this;exact this
theorem Znx {U:CX} {P:Program} {gl:Nat->Option (List V)} {f:FuncId} {mods:FuncId->Option (BF U)} {hmods:FuncId->List FuncId->Option (HMod U)} {mk:MW P} {E0:Env} (Q:E0.D5=gl) (M:Cm U (EV P gl f mods hmods mk)) (I:P.follows .mixedOrders=true) {fn:Func} {c:Code}
  (S:∀g m,mods g=some m->BD P E0 g m) (G:∀g k m,hmods g k=some m->Bi P E0 g m) (R:P.funcs[f]? = some fn) (C:(fn.name == "runtime.NumGoroutine")=false) (hb:fn.body=some c) (z:Dy (EV P gl f mods hmods mk) f c=true) (m:HMod U)
  {fa:List (List Fk)} {fb:List Bf} {k:Nat} (hk:∀x:m.Ba.X U,(m.Ba.enc x).2.length=k) {J:Type} {A:Nat->Option Lay} {N:Nat} (T:J->Tr U (U.Ty m.ky⊕J)) (D:J->BN U)
  (h:∀p,Dv (EV P gl f mods hmods mk) (ND mods hmods mk.tab) A f fn k (Qb (EV P gl f mods hmods mk) fn fa fb k m.FM m.one) N (.run (D p).c) (D p).K (D p).st (D p).sk=(T p).map (Nw m.out D))
  (b0:m.Ba.X U->J) (hm:∀x:m.Ba.X U,m.fn x=AY T (b0 x)) (Y:∀x:m.Ba.X U,D (b0 x)=⟨c,[],VV (m.Ba.enc x) fn.ntmps,false⟩):Bi P E0 f m:=by
 refine Zta Q M I S G R C hb z m hk (fa:=fa) (fb:=fb) fun x y hx=>?_;rw[hm]at hx;have:=gY M (lM M) (fun st s hs=>ZT M hs) T D h hx;rw[Y]at this;exact this
end Go.Proofs.YteinepnbndegdaaGreat.Le
namespace Go.Proofs.YteinepnbndegdaaGreat.Le
open Go.RowKit (Below)
def LJ (P:Program):TypeDesc->Option (List (Nat×TypeId))
 | .struct fs=>some (fs.toList.map fun f=>(f.offset,f.type))
 | .array n e=>some ((List.range n).map fun i=>(i*P.cellsOf e,e))
 | _=>none
def JB (P:Program) (t:TypeId):Bool:=match P.underlying t with|some d=>d.isRow|none=>false
def Fp (P:Program):Nat->TypeId->List V->Prop
 | 0,_,_=>False
 | d+1,t,cs=>match P.underlying t with
  | some .bool=>∃b,cs=[.lit (.bool b)]
  | some (.int k)=>∃n,cs=[.lit (.int k n)]/\(Lit.int k n).wf=true
  | some .string=>∃s,cs=[.lit (.string s)]/\s.size<=maxLen
  | some (.slice e)=>∃xs,cs=[.sl false (P.cellsOf e) xs]/\(xs.length<=reachBytes/\xs.length*P.bytesOf e<=reachBytes)/\∀x∈xs,(if JB P e then ∃C,x = .agg C else x.cells=[x])/\Fp P d e x.cells
  | some z=>match LJ P z with
   | some ss=>cs.length=P.cellsOf t/\∀s∈ss,Fp P d s.2 ((cs.drop s.1).take (P.cellsOf s.2))
   | none=>False
  | none=>False
def covers (P:Program):Nat->List (Nat×TypeId)->Nat->Bool
 | off,[],n=>off==n
 | off,s::ss,n=>s.1==off&&covers P (off+P.cellsOf s.2) ss n
def Rn (P:Program):Nat->TypeId->Bool
 | 0,_=>false
 | d+1,t=>match P.underlying t with
  | some .bool=>true
  | some (.int _)=>true
  | some .string=>true
  | some (.slice e)=>Rn P d e&&decide (0<P.cellsOf e)&&decide (0<P.bytesOf e)
  | some z=>match LJ P z with
   | some ss=>ss.all (fun s=>Rn P d s.2)&&covers P 0 ss (P.cellsOf t)
   | none=>false
  | none=>false
def Qc (w:World):Nat->Nat->Prop:=fun b c=>∃u,w.cell? ⟨b,c,none⟩=some u
structure Read (P:Program) (w:World) (d:Nat) (t:TypeId) (cs:List Value) (xs:List V):Prop where
 Cj:AL (bare (Qc w)) w xs cs
 ty:Fp P d t xs
 ok:∀x∈xs,DU x=true
 one:∀u∈cs,u.oneCell' = true
theorem Z8b {P:Program}:∀{ss:List (Nat×TypeId)} {off n:Nat},covers P off ss n=true->off<=n/\∀s∈ss,off<=s.1/\s.1+P.cellsOf s.2<=n:=by
 intro ss;induction ss with
 | nil=>intro off n h;simp only[covers,beq_iff_eq]at h;exact⟨by omega,by simp⟩
 | cons s ss z=>
  intro off n h;simp only[covers,Bool.and_eq_true,beq_iff_eq]at h
  grind
theorem Znn {P:Program} {w:World} {d:Nat} {cs:List Value}:∀{ss:List (Nat×TypeId)} {off:Nat},covers P off ss cs.length=true->(∀s∈ss,∃xs,Read P w d s.2 ((cs.drop s.1).take (P.cellsOf s.2)) xs) ->
  ∃xs,AL (bare (Qc w)) w xs (cs.drop off)/\(∀x∈xs,DU x=true)/\(∀u∈cs.drop off,u.oneCell' = true)/\∀s∈ss,Fp P d s.2 ((xs.drop (s.1 - off)).take (P.cellsOf s.2)):=by
 intro ss;induction ss with
 | nil=>
  intro off hc _;simp only[covers,beq_iff_eq]at hc;refine⟨[],?_,by simp,?_,by simp⟩
  ·rw[hc,List.drop_length];exact .nil
  ·rw[hc,List.drop_length];simp
 | cons s ss S=>
  intro off hc h;simp only[covers,Bool.and_eq_true,beq_iff_eq]at hc;obtain⟨I,G⟩:=hc;obtain⟨x1,D⟩:=h s (by simp);obtain⟨x2,q1,q2,q3,q4⟩:=S G (fun C hs' =>h C (by simp[hs']));have R:=(Z8b G).1;rw[I]at D;have J:x1.length=P.cellsOf s.2:=by
   have:=D.Cj.length;rw[List.length_take,List.length_drop]at this;omega
  have z:cs.drop off=(cs.drop off).take (P.cellsOf s.2)++cs.drop (off+P.cellsOf s.2):=by
   rw[<- List.drop_drop,List.take_append_drop]
  refine⟨x1++x2,?_,?_,?_,?_⟩
  ·rw[z];exact D.Cj.append q1
  ·intro x hx;rcases List.mem_append.1 hx with hx|hx
   ·exact D.ok x hx
   ·exact q2 x hx
  ·intro u hu;rw[z]at hu;rcases List.mem_append.1 hu with hu|hu
   ·exact D.one u hu
   ·exact q3 u hu
  ·intro C hs';rcases List.mem_cons.1 hs' with rfl|hs'
   ·rw[I,Nat.sub_self,List.drop_zero,List.take_append_of_le_length (by omega),List.take_of_length_le (by omega)];exact D.ty
   ·have Q:=((Z8b G).2 C hs').1;have:C.1 - off=x1.length+(C.1 - (off+P.cellsOf s.2)):=by omega
    rw[this,List.drop_append];have M:x1.drop (x1.length+(C.1 - (off+P.cellsOf s.2)))=[]:=List.drop_eq_nil_of_le (by omega);rw[M,List.nil_append];have Y:x1.length+(C.1 - (off+P.cellsOf s.2)) - x1.length=C.1 - (off+P.cellsOf s.2):=by omega
    grind
def Ld (P:Program) (t:TypeId) (xs:List V):V:=if JB P t then .agg xs else xs.headD .no
def TJ (P:Program) (t:TypeId) (cs:List Value):Value:=if JB P t then .agg cs.toArray else cs.headD undef
theorem Fp.single {P:Program} {d:Nat} {t:TypeId} {xs:List V} (h:Fp P d t xs) (C:JB P t=false):∃x,xs=[x]/\x.cells=[x]:=by
 cases d with
 | zero=>exact h.elim
 | succ d=>
  unfold Fp at h;unfold JB at C;split at h
  ·obtain⟨b,rfl⟩:=h;exact⟨_,rfl,rfl⟩
  ·obtain⟨n,rfl,_⟩:=h;exact⟨_,rfl,rfl⟩
  ·obtain⟨s,rfl,_⟩:=h;exact⟨_,rfl,rfl⟩
  ·obtain⟨ys,rfl,_⟩:=h;exact⟨_,rfl,rfl⟩
  ·rename_i G _ _ _ _ D;rw[D]at C;split at h
   ·rename_i ss z;unfold LJ at z
    grind
   ·exact h.elim
  ·exact h.elim
theorem Read.arg {P:Program} {w:World} {d:Nat} {t:TypeId} {cs:List Value} {xs:List V} (h:Read P w d t cs xs) :
  AL (bare (Qc w)) w [Ld P t xs] [TJ P t cs]/\DU (Ld P t xs)=true/\(TJ P t cs).cells.toList=cs/\(Ld P t xs).cells=xs/\(if JB P t then ∃D,Ld P t xs = .agg D else (Ld P t xs).cells=[Ld P t xs]):=by
 unfold Ld TJ;cases J:JB P t with
 | true=>
  simp only[if_true];refine⟨?_,?_,by simp[Value.cells],rfl,⟨xs,rfl⟩⟩
  ·have:=AL.agg h.Cj h.one (xs:=[]) (vs:=[]) .nil;exact this
  ·simp only[DU,okV,Bz,Bool.true_and];rw[JU];exact fun x z=>Oy (h.ok x z)
 | false=>
  simp only[Bool.false_eq_true,if_false];obtain⟨x,rfl,z⟩:=h.ty.single J;obtain⟨u,us,rfl,G,I⟩:=h.Cj.Bd;have:us=[]:=I.Dx;subst this;refine⟨G,h.ok x (by simp),?_,z,z⟩;have C:=h.one u (by simp);simp only[List.headD_cons];cases u<;>simp_all [Value.cells,Value.oneCell']
section
variable {H:Type} {enc:TypeId×Value->H} {P:Program} {w:World} {base:Nat} {held:Bool}
theorem weightsAll_mem {e:TypeId}:∀{l:List (DataW H)} {y:DataW H},y∈l->∀n∈y.weights P e,n∈DataW.weightsAll P e l
 | z::l,y,hy,n,C=>by
  simp only[DataW.weightsAll,List.mem_append];rcases List.mem_cons.1 hy with rfl|hy
  ·exact .inl C
  ·exact .inr (weightsAll_mem hy n C)
theorem Z4A:∀{ts:List TypeId} {l:List (DataW H)} {i:Nat} {t:TypeId} {y:DataW H},ts[i]? = some t->l[i]? = some y->∀n∈y.weights P t,n∈DataW.weightsEach P ts l
 | [],_,_,_,_,h,_,_,_=>by simp at h
 | _::_,[],_,_,_,_,h,_,_=>by simp at h
 | t0::ts,z::l,i,t,y,C,D,n,G=>by
  simp only[DataW.weightsEach,List.mem_append];cases i with
  | zero=>
   simp only[List.getElem?_cons_zero,Option.some.injEq]at C D;subst C D;exact .inl G
  | succ i=>
   simp only[List.getElem?_cons_succ]at C D;exact .inr (Z4A C D n G)
theorem Z4z {us:List TypeId} {C:List (DataW H)}:∀{ts:List TypeId} {l:List (DataW H)},l.length=ts.length->∀n∈DataW.weightsEach P ts l,n∈DataW.weightsEach P (ts++us) (l++C)
 | [],_,_,n,h=>by simp[DataW.weightsEach]at h
 | _::_,[],h,_,_=>by simp at h
 | t::ts,z::l,D,n,hn=>by
  simp only[DataW.weightsEach,List.cons_append,List.mem_append]at hn ⊢;rcases hn with hn|hn
  ·exact .inl hn
  ·exact .inr (Z4z (by simpa using D) n hn)
theorem ZpU:∀(d:Nat) (t:TypeId) (n:Nat) (cs:List Value) (x:DataW H×List MemPlace),Rn P d t=true->(∀k∈x.1.weights P t,k<=reachBytes)->DataW.trod enc P w base (fun _=>true) held n t cs=some x->∃xs,Read P w d t cs xs:=by
 intro d;induction d with
 | zero=>intro t n cs x h;simp[Rn]at h
 | succ d ih=>
  intro t n cs x hp hw h;unfold Rn at hp;split at hp
  ·rename_i I;obtain⟨b,rfl,_⟩:=DataW.trod_bool I h;exact⟨[.lit (.bool b)],.lit rfl .nil,by unfold Fp;rw[I];exact⟨b,rfl⟩,by simp[DU,okV,Bz],by simp[Value.oneCell']⟩
  ·rename_i k I;obtain⟨m,rfl,_,hm⟩:=DataW.trod_int I h;exact⟨[.lit (.int k m)],.lit (by simp[leaf,hm]) .nil,by unfold Fp;rw[I];exact⟨m,rfl,hm⟩,by simp[DU,okV,Bz],by simp[Value.oneCell']⟩
  ·rename_i I;obtain⟨s,rfl,_,hs⟩:=DataW.trod_string I h;exact⟨[.lit (.string s)],.lit (by simp[leaf,hs]) .nil,by unfold Fp;rw[I];exact⟨s,rfl,hs⟩,by simp[DU,okV,Bz],by simp[Value.oneCell']⟩
  ·rename_i e I;simp only[Bool.and_eq_true,decide_eq_true_eq]at hp;obtain⟨⟨hpe,hpos⟩,hbpos⟩:=hp;have mk:∀(v:Value) (es:List V),AL (bare (Qc w)) w [.sl false (P.cellsOf e) es] [v]->v.oneCell' = true->(es.length<=reachBytes/\es.length*P.bytesOf e<=reachBytes)->(∀y∈es,DU y=true) ->
     (∀y∈es,(if JB P e then ∃ds,y = .agg ds else y.cells=[y])/\Fp P d e y.cells)->∃xs,Read P w (d+1) t [v] xs:=by
    intro v es h1 h2 h3 h4 h5;refine⟨_,h1,?_,?_,by simpa using h2⟩
    ·unfold Fp;rw[I];exact⟨es,rfl,h3,h5⟩
    ·intro y hy;simp only[List.mem_singleton]at hy;subst hy;simp only[DU,okV,Bz,Bool.true_and];rw[JU];exact fun z hz=>Oy (h4 z hz)
   rcases DataW.trod_slice I h with ⟨rfl,_⟩|⟨a,len,cap,C,rest,m,rfl,rfl,hx,hb,hlc,hcm,hel,R,J,_⟩
   ·exact mk _ [] (.EI .nil) rfl (by simp) (by simp) (by simp)
   ·obtain⟨hrl,J⟩:=J rfl;rw[hx]at hw;simp only[DataW.weights,I,List.length_map,List.mem_cons,List.mem_append,forall_eq_or_imp]at hw;obtain⟨hw0,hw⟩:=hw;have D:C.length<=reachBytes/\C.length*P.bytesOf e<=reachBytes:=by
     have h1:=Nat.le_mul_of_pos_right (C.length+rest.length) hbpos;have h2:C.length*P.bytesOf e<=(C.length+rest.length)*P.bytesOf e:=Nat.mul_le_mul_right _ (by omega);exact⟨by omega,Nat.le_trans h2 hw0⟩
    by_cases hc0:cap=0
    ·subst hc0;have:len=0:=by omega
     subst this;exact mk _ [] (.Et a .nil) rfl (by simp) (by simp) (by simp)
    ·
     have Y:a.spot=none:=by
      have hfirst:∃c0,w.cells? base (a.add 0) (P.cellsOf e)=some c0:=by
       by_cases hl0:0<len
       ·have:=R 0 hl0;rw[Nat.zero_mul]at this;have G:0<C.length:=by omega
        rw[List.getElem?_eq_getElem G]at this;cases Q:w.cells? base (a.add 0) (P.cellsOf e) with
        | none=>simp[Q]at this
        | some c0=>exact⟨c0,rfl⟩
       ·have hl0:len=0:=by omega
        subst hl0;have:=J 0 (by omega);simp only[Nat.zero_add,Nat.zero_mul]at this;have G:0<rest.length:=by omega
        rw[List.getElem?_eq_getElem G]at this;cases Q:w.cells? base (a.add 0) (P.cellsOf e) with
        | none=>simp[Q]at this
        | some c0=>exact⟨c0,rfl⟩
      obtain⟨c0,hc0'⟩:=hfirst;obtain⟨_,e2,e3⟩:=World.cells?_some hc0';have:=e3 0 hpos;have G:0<c0.length:=by omega
      rw[List.getElem?_eq_getElem G]at this;simp only[Addr.add,if_true]at this;unfold World.cell? at this;split at this
      ·simp_all
      ·cases this
     obtain⟨ab,ao,as⟩:=a;simp only at Y;subst Y;have each:∀i,i<len->∃ci xi,w.cells? base (Addr.add ⟨ab,ao,none⟩ (i*P.cellsOf e)) (P.cellsOf e)=some ci/\Read P w d e ci xi:=by
      intro i hi;have:=R i hi;have G:i<C.length:=by omega
      rw[List.getElem?_eq_getElem G]at this;cases Q:w.cells? base (Addr.add ⟨ab,ao,none⟩ (i*P.cellsOf e)) (P.cellsOf e) with
      | none=>simp[Q]at this
      | some ci=>
       rw[Q,Option.bind_some]at this;obtain⟨xi,hxi⟩:=ih e m ci C[i] hpe (fun k hk=>hw k (.inl (weightsAll_mem (List.mem_map.2 ⟨C[i],List.getElem_mem G,rfl⟩) k hk))) this;exact⟨ci,xi,rfl,hxi⟩
     have list:∀k,k<=len->∃(es:List V) (us:List Value),es.length=k/\AL (bare (Qc w)) w es us/\(∀y∈es,DU y=true)/\(∀u∈us,u.cells.size=P.cellsOf e)/\(∀u∈flat us,u.oneCell' = true) /\
       (∀y∈es,(if JB P e then ∃ds,y = .agg ds else y.cells=[y])/\Fp P d e y.cells)/\(∀j u,(flat us)[j]? = some u->w.cell? ⟨ab,ao+j,none⟩=some u):=by
      intro k;induction k with
      | zero=>intro _;exact⟨[],[],rfl,.nil,by simp,by simp,by simp[flat],by simp,by simp[flat]⟩
      | succ k ihk=>
       intro hk;obtain⟨es,us,l1,l2,l3,l4,l5,l6,l7⟩:=ihk (by omega);obtain⟨ci,xi,hci,hr⟩:=each k (by omega);obtain⟨a1,a2,a3,a4,a5⟩:=hr.arg;obtain⟨_,c2,c3⟩:=World.cells?_some hci;have hsz:(TJ P e ci).cells.size=P.cellsOf e:=by
        have:=congrArg List.length a3;simpa[c2]using this
       refine⟨es++[Ld P e xi],us++[TJ P e ci],by simp[l1],l2.append a1,?_,?_,?_,?_,?_⟩
       ·grind
       ·grind
       ·intro u hu;rw[Nc]at hu;rcases List.mem_append.1 hu with hu|hu
        ·exact l5 u hu
        ·rw[ML,a3]at hu;exact hr.one u hu
       ·intro y hy;rcases List.mem_append.1 hy with hy|hy
        ·exact l6 y hy
        ·rw[List.mem_singleton.1 hy];exact⟨a5,by rw[a4];exact hr.ty⟩
       ·intro j u hj;rw[Nc,ML,a3]at hj;have hfl:(flat us).length=k*P.cellsOf e:=by rw[flat_length l4,<- l2.length,l1]
        by_cases G:j<(flat us).length
        ·grind
        ·rw[List.getElem?_append_right (by omega)]at hj;have hjl:j - (flat us).length<P.cellsOf e:=by
          have:=(List.getElem?_eq_some_iff.1 hj).1;omega
         have:=c3 _ hjl;rw[hj]at this;rw[<- this];congr 1;have hadd:Addr.add (Addr.add ⟨ab,ao,none⟩ (k*P.cellsOf e)) (j - (flat us).length)=⟨ab,ao+j,none⟩:=by
          simp only[Addr.add];split<;>split<;>simp<;>omega
         rw[hadd]
     obtain⟨es,us,l1,l2,l3,l4,l5,l6,l7⟩:=list len (Nat.le_refl _);subst l1;refine mk _ es ?_ rfl ⟨by omega,(show es.length=C.length by omega)▸D.2⟩ l3 l6;exact .sl ab ao cap (P.cellsOf e) l2 l3 l4 l5 hlc hcm (fun j u hj=>⟨⟨u,l7 j u hj⟩,l7 j u hj⟩) .nil
  ·rename_i dd _ _ _ _ I;split at hp
   ·rename_i ss M;simp only[Bool.and_eq_true,List.all_eq_true]at hp;obtain⟨hall,hcov⟩:=hp;have parts:cs.length=P.cellsOf t/\∀s∈ss,∃xs,Read P w d s.2 ((cs.drop s.1).take (P.cellsOf s.2)) xs:=by
     cases dd with
     | struct fs=>
      simp only[LJ,Option.some.injEq]at M;obtain⟨xs,m,_,hx,D,hxl,hf⟩:=DataW.trod_struct I h;rw[hx]at hw;simp only[DataW.weights,I]at hw;refine⟨D,fun s hs=>?_⟩;have hs' :=hs;rw[<- M]at hs;obtain⟨f,hfm,rfl⟩:=List.mem_map.1 hs;obtain⟨i,hi,hfi⟩:=List.getElem_of_mem hfm;have hfi' : fs[i]? = some f:=by simp at hi;rw[Array.getElem?_eq_getElem hi];simp at hfi;rw[hfi]
      have S:i<xs.length:=by rw[hxl];simpa using hi
      have hti:=hf i f hfi';rw[List.getElem?_eq_getElem S]at hti;exact ih _ m _ _ (hall _ hs') (fun k hk=>hw k (Z4A (i:=i) (t:=f.type) (y:=xs[i].1) (by simp[hfi']) (by simp[S]) k hk)) hti
     | array n' e=>
      simp only[LJ,Option.some.injEq]at M;obtain⟨xs,m,_,hx,D,hxl,hf⟩:=DataW.trod_array I h;rw[hx]at hw;simp only[DataW.weights,I]at hw;refine⟨D,fun s hs=>?_⟩;have hs' :=hs;rw[<- M]at hs;obtain⟨i,him,rfl⟩:=List.mem_map.1 hs;have hi:i<n' :=List.mem_range.1 him;have S:i<xs.length:=by omega
      have hti:=hf i hi;rw[List.getElem?_eq_getElem S]at hti;exact ih _ m _ _ (hall _ hs') (fun k hk=>hw k (weightsAll_mem (List.mem_map.2 ⟨xs[i],List.getElem_mem S,rfl⟩) k hk)) hti
     | _=>simp[LJ]at M
    obtain⟨D,hparts⟩:=parts;obtain⟨xs,h1,h2,h3,h4⟩:=Znn (by rw[D];exact hcov) hparts;rw[List.drop_zero]at h1 h3;refine⟨xs,h1,?_,h2,h3⟩;unfold Fp;rw[I];simp only[Nat.sub_zero]at h4;split<;>first|(rename_i Q;simp only[Option.some.injEq]at Q;subst Q;simp[LJ]at M;done)|skip
    ·rename_i Q;simp only[Option.some.injEq]at Q;subst Q;rw[M];exact⟨by rw[h1.length];exact D,h4⟩
    ·rename_i Q;cases Q
   ·cases hp
  ·cases hp
inductive X9 (P:Program) (d:Nat):List TypeId->List V->Prop where
 | nil:X9 P d [] []
 | cons {t ts xs as}:Fp P d t xs->X9 P d ts as->X9 P d (t::ts) (Ld P t xs::as)
theorem ZlP {r:Reach} {b0:Nat} {d:Nat} {t:TypeId} {v:Value} {xs:List V} (C:Value.okWide P w r b0 t v) (h:Read P w d t v.cells.toList xs):TJ P t v.cells.toList=v:=by
 unfold TJ;cases z:JB P t with
 | true=>
  simp only[if_true];unfold JB at z;split at z
  ·rename_i I D;unfold Value.okWide at C;rw[D]at C;cases I<;>simp[TypeDesc.isRow]at z
   ·obtain⟨cs,rfl,_⟩:=C;simp[Value.cells]
   ·obtain⟨cs,rfl,_⟩:=C;simp[Value.cells]
  ·cases z
 | false=>
  simp only[Bool.false_eq_true,if_false];obtain⟨x,rfl,_⟩:=h.ty.single z;have G:∀cs,v≠.agg cs:=by
   rintro cs rfl
   unfold JB at z;unfold Value.okWide at C;split at C
   ·rename_i D;rw[D]at z;simp[TypeDesc.isRow]at z
   ·rename_i D;rw[D]at z;simp[TypeDesc.isRow]at z
   ·unfold Cell.okWide at C;split at C<;>simp_all [Cell.ok]
  cases v<;>first|rfl|exact absurd rfl (G _)
theorem ZpB {d:Nat}:∀{ts:List TypeId} {vs:List Value} {z:List (DataW H)} {ps:List MemPlace},DataW.TrodAll enc P w base (fun _=>true) held ts vs z ps->(∀k∈DataW.weightsEach P ts z,k<=reachBytes)->(∀t∈ts,Rn P d t=true) ->
  (∀(j:Nat) t v,ts[j]? = some t->vs[j]? = some v->∃r b0,Value.okWide P w r b0 t v)->∃as,AL (bare (Qc w)) w as vs/\X9 P d ts as:=by
 intro ts;induction ts with
 | nil=>
  intro vs z ps h _ _ _;cases vs with
  | nil=>exact⟨[],.nil,.nil⟩
  | cons v vs=>cases z<;>exact h.elim
 | cons t ts ih=>
  intro vs z ps h C Y hv;cases vs with
  | nil=>exact h.elim
  | cons v vs=>
   cases z with
   | nil=>exact h.elim
   | cons d0 z=>
    obtain⟨p,q,⟨D,h1⟩,h2,_⟩:=h;simp only[DataW.weightsEach,List.mem_append]at C;obtain⟨as,r1,r2⟩:=ih h2 (fun k I=>C k (.inr I)) (fun R M =>Y R (by simp[M])) (fun j R v' hj G =>hv (j+1) R v' (by simpa using hj) (by simpa using G));obtain⟨xs,Q⟩:=ZpU d t D _ _ (Y t (by simp)) (fun k I=>C k (.inl I)) h1;obtain⟨r,b0,J⟩:=hv 0 t v rfl rfl;have S:=Q.arg.1;rw[ZlP J Q]at S;exact⟨_,AL.Dk.2 ⟨S,r1⟩,.cons Q.ty r2⟩
end
end Go.Proofs.YteinepnbndegdaaGreat.Le
namespace Go.Proofs.YteinepnbndegdaaGreat.Le
open Go.RowKit (Below)
open Go.ChangeShapes
structure EH (P:Program) {Ty:Nat->Type} {T:Type} (c:AA Ty T) (t:TypeId) (wf:T->Prop):Prop where
 rd:∀(d:Nat) (xs:List V),Fp P d t xs->∃a,c.Af a=xs/\wf a
structure Hm (P:Program) {Ty:Nat->Type} {T:Type} (c:AA Ty T) (ss:List (Nat×TypeId)) (off n:Nat) (wf:T->Prop):Prop where
 rd:∀(d:Nat) (xs:List V),xs.length=n->(∀s∈ss,Fp P d s.2 ((xs.drop s.1).take (P.cellsOf s.2)))->∃a,c.Af a=xs.drop off/\wf a
def WI (k:IntKind) (a:Int):Prop:=(Lit.int k a).wf=true
def WB (_:Bool):Prop:=True
def WS (s:ByteArray):Prop:=s.size<=maxLen
def WL {α:Type} (k:Nat) (p:α->Prop) (xs:List α):Prop:=(xs.length<=reachBytes/\xs.length*k<=reachBytes)/\∀x∈xs,p x
def WU (_:Unit):Prop:=True
section
variable {P:Program} {Ty:Nat->Type} {T:Type}
theorem EH.int {k:IntKind} {t:TypeId} (z:P.underlying t=some (.int k)):EH P (AA.int k:AA Ty Int) t (WI k):=by
 refine⟨fun d xs h=>?_⟩;cases d with
 | zero=>exact h.elim
 | succ d=>
  unfold Fp at h;rw[z]at h;obtain⟨n,rfl,C⟩:=h;exact⟨n,rfl,C⟩
theorem EH.bool {t:TypeId} (z:P.underlying t=some .bool):EH P (AA.bool:AA Ty Bool) t WB:=by
 refine⟨fun d xs h=>?_⟩;cases d with
 | zero=>exact h.elim
 | succ d=>
  unfold Fp at h;rw[z]at h;obtain⟨n,rfl⟩:=h;exact⟨n,rfl,trivial⟩
theorem EH.str {t:TypeId} (z:P.underlying t=some .string):EH P (AA.str:AA Ty ByteArray) t WS:=by
 refine⟨fun d xs h=>?_⟩;cases d with
 | zero=>exact h.elim
 | succ d=>
  unfold Fp at h;rw[z]at h;obtain⟨n,rfl,C⟩:=h;exact⟨n,rfl,C⟩
theorem Zap {α:Type} {p:α->Prop} {e:α->V}:∀{xs:List V},(∀x∈xs,∃a,e a=x/\p a)->∃as:List α,as.map e=xs/\∀a∈as,p a:=by
 intro xs;induction xs with
 | nil=>simp_all
 | cons x xs G=>
  intro h;obtain⟨a,z,I⟩:=h x (by simp);obtain⟨as,has,C⟩:=G (fun y D=>h y (by simp[D]));refine⟨a::as,by simp[z,has],fun b hb=>?_⟩
  grind
theorem EH.rows {t e n k:Nat} {c:AA Ty (Ty e)} {wf:Ty e->Prop} (Y:P.underlying t=some (.slice e)) (M:P.cellsOf e=n) (I:P.bytesOf e=k) (S:JB P e=true) (hc:EH P c e wf) :
  EH P (AA.list e n (fun a=>.agg (c.Af a)):AA Ty (List (Ty e))) t (WL k wf):=by
 refine⟨fun d xs h=>?_⟩;cases d with
 | zero=>exact h.elim
 | succ d=>
  unfold Fp at h;rw[Y]at h;obtain⟨ys,rfl,J,hy⟩:=h;obtain⟨as,has,Q⟩:=Zap (p:=wf) (e:=fun a=>V.agg (c.Af a)) (xs:=ys) (fun y z =>by
   obtain⟨C,D⟩:=hy y z;rw[if_pos S]at C;obtain⟨ds,rfl⟩:=C;obtain⟨a,G,hw⟩:=hc.rd d _ D;exact⟨a,by rw[G];rfl,hw⟩)
  subst M;subst I;have R:as.length=ys.length:=by rw[<- has,List.length_map]
  exact⟨as,by simp only[AA.list,has],by rw[R];exact J,Q⟩
theorem EH.ones {t e n k:Nat} {c:AA Ty (Ty e)} {wf:Ty e->Prop} (Y:P.underlying t=some (.slice e)) (M:P.cellsOf e=n) (I:P.bytesOf e=k) (S:JB P e=false) (hc:EH P c e wf) :
  EH P (AA.list e n (fun a=>c.Am a):AA Ty (List (Ty e))) t (WL k wf):=by
 refine⟨fun d xs h=>?_⟩;cases d with
 | zero=>exact h.elim
 | succ d=>
  unfold Fp at h;rw[Y]at h;obtain⟨ys,rfl,J,hy⟩:=h;obtain⟨as,has,Q⟩:=Zap (p:=wf) (e:=fun a=>c.Am a) (xs:=ys) (fun y z =>by
   obtain⟨C,D⟩:=hy y z;rw[if_neg (by simp[S])]at C;obtain⟨a,G,hw⟩:=hc.rd d _ D;exact⟨a,by simp only[AA.Am,G,C];rfl,hw⟩)
  subst M;subst I;have R:as.length=ys.length:=by rw[<- has,List.length_map]
  exact⟨as,by simp only[AA.list,has],by rw[R];exact J,Q⟩
theorem Hm.unit {off n:Nat} (h:off=n):Hm P (AA.unit:AA Ty Unit) [] off n WU:=by
 refine⟨fun d xs z _=>⟨(),?_,trivial⟩⟩;subst h;rw[<- z,List.drop_length];rfl
theorem Hm.pair {A B:Type} {a:AA Ty A} {b:AA Ty B} {t off n k:Nat} {ss:List (Nat×TypeId)} {D:A->Prop} {G:B->Prop} (I:EH P a t D) (J:P.cellsOf t=k) (hb:Hm P b ss (off+k) n G) :
  Hm P (AA.pair a b) ((off,t)::ss) off n (fun x=>D x.1/\G x.2):=by
 refine⟨fun d xs M h=>?_⟩;obtain⟨x,R,z⟩:=I.rd d _ (h (off,t) (by simp));obtain⟨y,S,C⟩:=hb.rd d xs M (fun s Q=>h s (by simp[Q]));refine⟨(x,y),?_,z,C⟩;simp only[AA.pair,R,S];rw[J,<- List.drop_drop,List.take_append_drop]
theorem EH.row {c:AA Ty T} {t n:Nat} {z:TypeDesc} {ss:List (Nat×TypeId)} {wf:T->Prop} (I:P.underlying t=some z) (C:LJ P z=some ss) (G:P.cellsOf t=n) (h:Hm P c ss 0 n wf):EH P c t wf:=by
 refine⟨fun d xs D=>?_⟩;cases d with
 | zero=>exact D.elim
 | succ d=>
  unfold Fp at D;rw[I]at D;have key:xs.length=P.cellsOf t/\∀s∈ss,Fp P d s.2 ((xs.drop s.1).take (P.cellsOf s.2)):=by
   cases z with
   | struct fs=>simp_all
   | array m e=>simp_all
   | _=>simp[LJ]at C
  obtain⟨a,J,M⟩:=h.rd d xs (key.1.trans G) key.2
  grind
theorem EH.Bg {A B:Type} {f:A->B} {g:B->A} {b:AA Ty B} {t:TypeId} {wf:B->Prop} (hb:EH P b t wf) (z:∀y,f (g y)=y):EH P (AA.Bg f g b) t (fun x=>wf (f x)):=by
 refine⟨fun d xs h=>?_⟩;obtain⟨y,D,C⟩:=hb.rd d xs h;exact⟨g y,by simp only[AA.Bg,z];exact D,by rw[z];exact C⟩
end
structure Qq (P:Program) (U:CX) (t:TypeId) (wf:U.Ty t->Prop):Prop where
 rd:∀d xs,Fp P d t xs->∃a,U.enc t a=Ld P t xs/\wf a
theorem Qq.rows {P:Program} {U:CX} {t:TypeId} {c:AA U.Ty (U.Ty t)} {wf:U.Ty t->Prop} (D:JB P t=true) (hc:EH P c t wf) (C:∀a,U.enc t a = .agg (c.Af a)):Qq P U t wf:=by
 refine⟨fun d xs h=>?_⟩;obtain⟨a,z,G⟩:=hc.rd d xs h;exact⟨a,by rw[C,z];simp[Ld,D],G⟩
theorem Qq.ones {P:Program} {U:CX} {t:TypeId} {c:AA U.Ty (U.Ty t)} {wf:U.Ty t->Prop} (D:JB P t=false) (hc:EH P c t wf) (C:∀a,U.enc t a=c.Am a):Qq P U t wf:=by
 refine⟨fun d xs h=>?_⟩;obtain⟨a,z,G⟩:=hc.rd d xs h;exact⟨a,by rw[C];simp[Ld,D,AA.Am,z],G⟩
inductive PZ (P:Program) (U:CX):(ts:List Nat)->(FZ U ts->Prop)->Prop where
 | nil:PZ P U [] (fun _=>True)
 | cons {t ts wf W}:Qq P U t wf->PZ P U ts W->PZ P U (t::ts) (fun x=>wf x.1/\W x.2)
theorem Zo9 {P:Program} {U:CX} {ts:List Nat} {W:FZ U ts->Prop} (h:PZ P U ts W):∀{d:Nat} {as:List V},X9 P d ts as->∃x:FZ U ts,GL ts x=as/\W x:=by
 induction h with
 | nil=>intro d as z;cases z;exact⟨(),rfl,trivial⟩
 | cons I _ Q=>
  intro d as z;cases z with
  | cons C D=>
   obtain⟨a,z,J⟩:=I.rd _ _ C;obtain⟨x,M,G⟩:=Q D;exact⟨(a,x),by simp[GL,z,M],J,G⟩
section
variable {H:Type} {enc:TypeId×Value->H} {P:Program}
theorem Z5L {W M : World} {R:Nat->Bool} (Q:laidOutB P=true):∀{ts:List TypeId} {vs:List Value} {D:List (DataW H)} {ps:List MemPlace},(∀t∈ts,P.readableRec t=true/\t<P.types.size) ->
  DataW.TrodAll enc P W 0 (fun _=>true) true ts vs D ps->Below W.heap.size W M -> (∀p∈ps,p.block<W.heap.size)->(∀p∈ps,R p.block=true)->DataW.TrodAll enc P M 0 R true ts vs D ps
 | [],[],[],_,_,h,_,_,_=>h
 | t::ts,v::vs,d::D,_,G,⟨p,q,S,Y,e⟩,hb,z,C=>
  ⟨p,q,WideElems.Trod_stays Q (G t (by simp)).1 (G t (by simp)).2 S (fun x J=>hb.same (z x (by simp_all))) (fun x J=>C x (by simp_all)),
   Z5L Q (fun t I =>G t (by simp[I])) Y hb (fun x J=>z x (by simp_all)) (fun x J=>C x (by simp_all)),e⟩
theorem ZoW {f:Func} {s:ChangeSpec} {apart fresh D R:Bool} {W W' : World} {args:Array Value} {J C:List (DataW H)} {before:List MemPlace} {tb:TypeId} (hl:laidOutB P=true) (hts:∀t∈f.params.toList,P.readableRec t=true/\t<P.types.size)
  (hW:DataW.Whole enc P f.params.toList s.vars apart W args.toList J C before) (hb:Below W.heap.size W W') (hr:f.resultTypes = #[tb]) (htb:P.underlying tb=some .bool)
  (h1:(s.fn H (J++C)).results=[.lit (.bool true)]) (h2:(s.fn H (J++C)).args=J) (h3:(s.fn H (J++C)).vars=C)
  (hvars:∀(pv:List MemPlace),DataW.TrodVars enc P W (fun _=>true) s.vars C pv->(∀p∈pv,p.block<W.heap.size)->∀z:Nat->Bool,(∀p∈pv,z p.block=true)->DataW.TrodVars enc P W' z s.vars C pv) :
  s.post enc P f apart fresh D R W args (.bool true) W' :=by
 have S:=hW.lt;have hW0:=hW;obtain⟨pa,pv,hA,hV,hps,hz,hn⟩:=hW;have M:∀p∈before,(fun b=>decide (b<W.heap.size)) p.block=true:=fun p I=>by simpa using S p I
 have Y:∀p∈pa,p∈before:=fun p I=>by simp_all
 have hpv:∀p∈pv,p∈before:=fun p I=>by simp_all
 have G:∀z:Nat->Bool,(∀p∈before,z p.block=true)->DataW.TrodAll enc P W' 0 z true f.params.toList args.toList (s.fn H (J++C)).args pa:=fun z hsp=>by
  rw[h2];exact Z5L hl hts hA hb (fun p I=>S p (Y p I)) (fun p I=>hsp p (Y p I))
 have hvs:∀z:Nat->Bool,(∀p∈before,z p.block=true)->DataW.TrodVars enc P W' z s.vars (s.fn H (J++C)).vars pv:=fun z hsp=>by
  simp_all
 have Q:∀(b:Nat) (z:Nat->Bool) (hd:Bool),DataW.TrodAll enc P W' b z hd f.resultTypes.toList ((Value.bool true).resultList f.resultTypes.size) (s.fn H (J++C)).results []:=fun b z hd=>by
  rw[h1,hr];exact trodAll_cons_mk (p:=[]) (p' :=[]) (RowKit.shut_bool htb _) trodAll_mk0
 refine⟨J,C,before,[],pa,pv,hW0,Q _ _ _,G _ M,hvs _ M,World.keptBut_mono (fun p I=>⟨I,?_⟩) (hb.frame (·∈before)),fun _=>?_⟩
 ·simp_all
 ·refine⟨RowKit.ok_one hr rfl (RowKit.okWide_bool_mk htb _),_,_,([]++pa)++pv,⟨[]++pa,pv,trodAll_append (G _ (fun _ _=>rfl)) (Q _ _ _),hvs _ (fun _ _=>rfl),rfl,?_,?_⟩,?_⟩
  ·intro b off I;have hm:MemPlace.cell b off∈before:=by rw[hps];simpa using I
   rw[hb.frozen (p:=⟨b,off,none⟩) (S _ hm)];exact hz b off hm
  ·simp_all
  simp_all
theorem ZsN {U:CX} {E0:Env} {f:FuncId} {fn:Func} {m:BF U} {s:ChangeSpec} {apart fresh D J:Bool} {tb:TypeId} (hok:BD P E0 f m) {Wf:FZ U m.ts->Prop} (hrd:PZ P U m.ts Wf) (z:fn.params.toList=m.ts) {d:Nat} (hpl:∀t∈m.ts,Rn P d t=true)
  (hl:laidOutB P=true) (hts:∀t∈m.ts,P.readableRec t=true/\t<P.types.size) (hr:fn.resultTypes = #[tb]) (htb:P.underlying tb=some .bool) {tt:U.Ty m.rt} (htt:U.enc m.rt tt = .lit (.bool true)) (Y:∀x,Wf x->m.fn x=some tt)
  (S:∀(G C:List (DataW H)),G.length=m.ts.length->C.length=s.vars.length->(s.fn H (G++C)).results=[.lit (.bool true)]/\(s.fn H (G++C)).args=G/\(s.fn H (G++C)).vars=C)
  {W:World} {args:Array Value} {G C:List (DataW H)} {I:List MemPlace} (hval:∀(j:Nat) t v,fn.params[j]? = some t->args[j]? = some v->∃r b0,Value.okWide P W r b0 t v)
  (hW:DataW.Whole enc P fn.params.toList s.vars apart W args.toList G C I) (hg:Ci E0 (bare (Qc W)) W)
  (hvars:∀(W' : World),Below W.heap.size W W' -> ∀(pv:List MemPlace),DataW.TrodVars enc P W (fun _=>true) s.vars C pv->(∀p∈pv,p.block<W.heap.size)->∀sp:Nat->Bool,(∀p∈pv,sp p.block=true)->DataW.TrodVars enc P W' sp s.vars C pv)
  (hdl:G.length=m.ts.length) (hgl:C.length=s.vars.length) (hsz:(DataW.weightsEach P (fn.params.toList++s.plain.varTypes P) (G++C)).all (· <= reachBytes)=true) :
  Calls P f args W fun e W' =>∃v,e = .returned v/\s.post enc P fn apart fresh D J W args v W' :=by
 have hW0:=hW;obtain⟨pa,pv,hA,hV,hps,hz,hn⟩:=hW;rw[z]at hA;obtain⟨as,R,Q⟩:=ZpB hA (fun k hk=>of_decide_eq_true (List.all_eq_true.1 hsz k (Z4z (by rw[z,hdl]) k (by rw[z];exact hk)))) hpl (fun j t v hj hv=>hval j t v (by grind) (by simp_all));obtain⟨x,hx,hwf⟩:=Zo9 hrd Q;have M:=hok.pure x tt (Y x hwf) (Qc W) W args.toList (fun b c hh=>hh) hg (by rw[hx];exact R);refine M.mono ?_
 rintro e W' ⟨u,fz',rfl,hb,_,_,_,hru,_⟩
 rw[htt]at hru;cases hru with
 | lit _ _=>
  obtain⟨s1,s2,s3⟩:=S G C hdl hgl;exact⟨_,rfl,ZoW hl (by rw[z];exact hts) hW0 hb hr htb s1 s2 s3 (hvars W' hb)⟩
end
end Go.Proofs.YteinepnbndegdaaGreat.Le
namespace Go.Proofs.YteinepnbndegdaaGreat.Le
def Z0F (n by' : Nat):List V->Option V
 | [.sl false e xs]=>if e=n/\xs.length*by' <= lim/\xs.length<=maxLen then some (.sl false e xs) else none
 | _=>none
def YQ (z:List (Nat×Nat×Nat×Nat)):FuncId->Option (List V->Option V):=fun g=>(z.find? fun p=>p.1==g).map fun p=>Z0F p.2.1 p.2.2.1
def YZ (z:List (Nat×Nat×Nat×Nat)):FuncId->Option TypeId:=fun g=>(z.find? fun p=>p.1==g).map fun p=>p.2.2.2
structure FN (P:Program) (f n by' e:Nat):Prop where
 entered:Ky P f
 pure:∀(E:Env) (xs:List V),xs.length*by' <= lim->xs.length<=maxLen->MX P E f [.sl false n xs] (.sl false n xs)
 own:∀(E:Env) (xs:List V),xs.length*by' <= lim->xs.length<=maxLen->jQ P E f [.sl false n xs] e n xs
theorem ZmK {P:Program} {E:Env} {I:List (Nat×Nat×Nat×Nat)} (R:E.env=YQ I) (Y:E.own=YZ I) (J:∀f k,E.hm f k=none) (M:∀f,E.maps f=none) (h:∀p∈I,FN P p.1 p.2.1 p.2.2.1 p.2.2.2):LK P E:=by
 refine⟨?_,fun f key hs h=>(by rw[J]at h;cases h),M⟩;intro f F C;rw[R]at C;unfold YQ at C;cases G:I.find? (fun p=>p.1==f) with
 | none=>simp[G]at C
 | some p=>
  simp only[G,Option.map_some,Option.some.injEq]at C;subst C;have hm:=h p (List.mem_of_find?_eq_some G);have S:p.1=f:=by simpa using List.find?_some G
  rw[S]at hm;have D:E.own f=some p.2.2.2:=by rw[Y];unfold YZ;rw[G];rfl
  refine⟨hm.entered,fun as r _ z=>?_⟩;rw[D];intro sz xs Q;subst Q;unfold Z0F at z;split at z
  ·split at z
   ·rename_i hc;simp only[Option.some.injEq,V.sl.injEq]at z;obtain⟨_,rfl,rfl⟩:=z;rw[hc.1];exact hm.own E _ hc.2.1 hc.2.2
   ·cases z
  ·cases z
noncomputable def EC (P:Program) (gl:Nat->Option (List V)) (fs:List FuncId) (pu:FuncId->Bool) (bad:List (Nat×Nat):=[]) (z:List (Nat×Nat×Nat×Nat):=[]):Env:=
 { JW P pu (YQ z) with
  func:=fun g=>if fs.contains g then P.funcs[g]? else none
  D5:=gl
  own:=YZ z
  calm:=fun f id=>!(bad.any fun p=>p.1==f&&p.2==id) }
noncomputable def Xw (P:Program) (gl:Nat->Option (List V)) (fs:List FuncId) (pu:FuncId->Bool) (bad:List (Nat×Nat):=[]) (z:List (Nat×Nat×Nat×Nat):=[]):Bool:=
 fs.all fun g=>match P.funcs[g]? with
  | some fn=>!(fn.name == "runtime.NumGoroutine")&&(match fn.body with|some c=>Dy (EC P gl fs pu bad z) g c|none=>true)
  | none=>true
theorem Zbk {P:Program} {gl:Nat->Option (List V)} {fs:List FuncId} {pu:FuncId->Bool} {bad:List (Nat×Nat)} {G:List (Nat×Nat×Nat×Nat)} (D:P.follows .mixedOrders=true) (z:Xw P gl fs pu bad G=true):Bl (EC P gl fs pu bad G):=by
 have z:=List.all_eq_true.1 z;refine⟨fun t i h=>h,?_,D,?_,?_,?_,?_,fun t M h=>h,?_⟩
 ·intro g fn h;simp only[EC]at h;split at h
  ·rename_i J;have:=z g (by simpa using J);rw[h]at this;simp only[Bool.and_eq_true,Bool.not_eq_true']at this;exact⟨h,this.1⟩
  ·cases h
 ·intro g fn c h hb;simp only[EC]at h
  grind
 ·intro t k h;simp only[EC,JW]at h;split at h
  ·rename_i d C;simp only[Option.some.injEq]at h;subst h;exact C
  ·cases h
 ·intro t h;simp only[EC,JW]at h;split at h
  ·rename_i C;exact C
  ·cases h
 ·intro t h;simp only[EC,JW]at h;split at h
  ·rename_i C;exact C
  ·cases h
 ·intro t h;simp only[EC,JW]at h;split at h
  ·rename_i e I;split at h
   ·rename_i C;exact⟨e,I,C⟩
   ·cases h
  ·cases h
theorem Z6B {H:Type} {enc:TypeId×Value->H} {P:Program} {w:World} {base:Nat} {z:Nat->Bool} {held:Bool}:∀{ts:List TypeId} {vs:List Value} {C:List (DataW H)} {ps:List MemPlace},DataW.TrodAll enc P w base z held ts vs C ps->C.length=ts.length
 | [],[],[],_,_=>rfl
 | _::_,_::_,_::_,_,⟨_,_,_,h,_⟩=>congrArg (· + 1) (Z6B h)
end Go.Proofs.YteinepnbndegdaaGreat.Le
namespace Go.Proofs.YteinepnbndegdaaGreat.Le
open Go.RowKit (Below)
def Pq:Operand:=.const (.slice none 0 0)
def Z0V (t:TypeId):Code:=.seq (.region 2 #[.mk (some 2) (.assign Pq) t "slices.go:358" #[] none] false) .ret
def kJ (t:TypeId):Code:=.seq (.region 3 #[.mk (some 5) (.buildSlice t 0 #[]) t "slices.go:362" #[] none,.mk (some 6) (.move (.tmp 0)) t "slices.go:362" #[] none,
 .mk (some 7) (.call (.mk (.builtin .append) #[.tmp 5,.tmp 6] #[t,t])) t "slices.go:362" #[.mk 0 .data,.mk 1 .data] none,
 .mk (some 2) (.assign (.tmp 7)) t "slices.go:362" #[.mk 2 .data,.mk 2 .chain,.mk 0 .phase,.mk 1 .phase,.mk 2 .phase] none] false) .ret
def Xp (t tb:TypeId):Array Oper:=#[.mk (some 3) (.move (.tmp 0)) t "slices.go:357" #[] none,.mk (some 4) (.binOp .eql t (.tmp 3) Pq t) tb "slices.go:357" #[.mk 0 .data] none]
def kK (t tb:TypeId):Code:=
 .seq (.region 0 #[.mk (some 2) (.assign Pq) t "slices.go:355" #[] none] false) (.seq (.seq (.region 1 (Xp t tb) false) (.cond (.tmp 4) (Z0V t) .skip)) (kJ t))
section
variable {P:Program} {E:Env} {B:Nat} {w0:Start} {call:CV}
theorem ZjF (w:World) (d:Nat) (t e:TypeId) (a:Option Addr) (l c:Nat) (h:P.underlying t=some (.slice e)):(Op.equalIn (d+1) t (.slice a l c) (.slice none 0 0)).run P w = .ok a.isNone w:=by
 cases a<;>simp[Op.equalIn,run_underlying h]
theorem ZlV (w:World) (t e:TypeId) (a:Option Addr) (l c:Nat) (h:P.underlying t=some (.slice e)):(Op.equal t (.slice a l c) (.slice none 0 0)).run P w = .ok a.isNone w:=ZjF w 9999 t e a l c h
theorem Znh {t e:TypeId} {y z:Operand} {v:Value} {w:World} (C:P.underlying t=some (.slice e)) (D:∃a n c,v = .slice a n c/\(a=none->n=0)) :
  ∃b,(do eqGuard .eql t y z v (.slice none 0 0);binOp .eql t v (.slice none 0 0)).run P w = .ok (.bool b) w/\(b=true->∃c,v = .slice none 0 c):=by
 obtain⟨a,n,c,rfl,G⟩:=D;refine⟨a.isNone,?_,fun h=>?_⟩
 ·simp only[Sem.run_bind];rw[MH _ _ _ _ _ _ (by simp) (by simp)];simp[binOp,ZlV w t e a n c C]
 simp_all
theorem ZoK (hE:Bl E) (hP:E.P=P) (J:JX P E B w0 call) {id:Nat} {t tb e n:TypeId} (ht:P.underlying t=some (.slice e)) {st:St} {σ:Sg} {a:Act} {w:World} (D:EK E B w0 σ st a w)
  {xs:List V} (hx:ev E st.s (.tmp 0) = .sl false n xs) (h3:3<st.s.length) {Q:Exit->Act->World->Prop}
  (hq:∀b a',EK E B w0 σ ⟨setSlot (setSlot st.s (some 3) (.sl false n xs)) (some 4) (.lit (.bool b)),st.H⟩ a' w->(b=true->xs=[])->Q .normal a' w) :
  (Code.region id (Xp t tb) false).wp P Q a w:=by
 refine wp_region ?_;show wpOps P (Xp t tb) Q [0,1] a w;have S:∃v,a.eval (.tmp 0)=v/\AL σ w [.sl false n xs] [v]:=by
  have:=Dp (a:=a) D.D5 D.slots (.tmp 0);rw[hx]at this;exact⟨_,rfl,this⟩
 obtain⟨v,S,G⟩:=S;rw[wpOps_cons];unfold wpOp;have h0:(Xp t tb)[0]? = some (.mk (some 3) (.move (.tmp 0)) t "slices.go:357" #[] none):=rfl;have h1:(Xp t tb)[1]? = some (.mk (some 4) (.binOp .eql t (.tmp 3) Pq t) tb "slices.go:357" #[.mk 0 .data] none):=rfl;simp only[h0];rw[if_pos (show Region.wanted _ _=true from rfl)];refine .inl (Gx (s:=pure v) (u:=v) (w' :=w) (by unfold execOp;simp[S]) (by simp[Sem.run_pure]) ?_);rw[wpOps_cons];unfold wpOp;simp only[h1];rw[if_pos (show Region.wanted _ _=true from rfl)];have C:EK E B w0 σ ⟨setSlot st.s (some 3) (.sl false n xs),st.H⟩ (a.put (some 3) v) w:=⟨D.inv,D.D5,iO D.slots G (some 3),jE D.calm _ _⟩;have M:(a.put (some 3) v).eval (.tmp 3)=v:=by
  have:3<a.tmps.size:=by
   have:=D.slots.length;simp only[Array.length_toList]at this;omega
  simp[Act.put,Act.eval,this]
 have R:∃a n c,v = .slice a n c/\(a=none->n=0)/\(a=none->xs=[]):=by
  cases G with
  | EI _=>grind
  | Et a _=>grind
  | sl b o c e' h1 h2 h3 h4 h5 h6 h7 _=>grind
 obtain⟨va,vn,vc,hvs,Y,hvx⟩:=R;obtain⟨b,I,hb2⟩:=Znh (P:=P) (t:=t) (e:=e) (y:=.tmp 3) (z:=Pq) (w:=w) ht ⟨va,vn,vc,hvs,Y⟩;refine .inl (Gx (s:=do eqGuard .eql t (.tmp 3) Pq v (.slice none 0 0);binOp .eql t v (.slice none 0 0)) (u:=.bool b) ?_ I ?_)
 ·unfold execOp;simp only[M];rfl
 ·show Q .normal _ _;refine hq b _ ⟨C.inv,C.D5,iO C.slots (.lit rfl .nil) (some 4),jE C.calm _ _⟩ (fun h=>?_)
  simp_all
theorem Z8C (hmix:P.follows .mixedOrders=true) {f:FuncId} {fn:Func} {t tb e:TypeId} {i1 i2:Nat} {iz:Option V} {ei:TI} {z:V} (hfn:P.funcs[f]? = some fn) (Y:fn.body=some (kK t tb)) (hnt:fn.ntmps=8) (R:fn.results = #[.tmp 2])
  (hti:Jv P t=some ⟨.slice e,i1,i2,iz⟩) (htu:P.underlying t=some (.slice e)) (hei:Jv P e=some ei) (hez:ei.zero=some z) (hpos:0<ei.size) (hzl:z.cells.length=ei.size) (hzo:okV z=true)
  {xs:List V} (h1:xs.length*ei.bytes<=lim) (h2:xs.length<=maxLen) (fz:Nat->Nat->Prop) (w:World) (vs:List Value) (hcells:∀b c,fz b c->∃u,w.cell? ⟨b,c,none⟩=some u) (hr:AL (bare fz) w [.sl false ei.size xs] vs) :
  Calls P f vs.toArray w fun e' w' =>∃u σ',e' = .returned u/\Inv w.heap.size (Start.of w fz) σ' [BO true false e ei.size [],BO true false e ei.size xs] w' /\ Ext (bare fz) w σ' w' /\ AL σ' w' [.BK 1 0 xs.length xs.length] [u]:=by
 have hck:Xw P (fun _=>none) [] (fun _=>false) []=true:=rfl;have S:=Zbk (P:=P) (gl:=fun _=>none) (fs:=[]) (pu:=fun _=>false) (bad:=[]) hmix hck;generalize G:EC P (fun _=>none) [] (fun _=>false) []=E0 at S;have hP:E0.P=P:=by rw[<- G];rfl
 have t1:E0.ti t=some ⟨.slice e,i1,i2,iz⟩:=by rw[<- G];exact hti
 have t2:E0.ti e=some ei:=by rw[<- G];exact hei
 have hcm:∀g id,E0.calm g id=true:=fun g id=>by rw[<- G];rfl
 have hI:Inv w.heap.size (Start.of w fz) (bare fz) [] w:=⟨Below.refl _ w,Nat.le_refl _,fun id L hL=>(by cases hL),fun id bx hb=>by simp at hb,fun i j b1 b2 L1 L2 g h1=>by simp at h1,hcells,
  fun b c hc id bx L hb=>by simp at hb,fun id bx hb=>by simp at hb,fun b c hc _=>hc,fun b hb=>hb.elim,⟨fun id b hb=>by simp at hb,fun id g h=>(by cases h),fun id id' g h=>(by cases h)⟩⟩
 have hg0:Ci E0 (bare fz) w:=fun g r hh=>by rw[<- G]at hh;cases hh
 have C:JX P E0 w.heap.size (Start.of w fz) (DY E0 0):=fun f args H x H' σ w vs h=>by cases h
 have D:Nr E0 (DY E0 0):=Nb 0;have hlp:=Z0i (f:=f) S hP C D 0
 ·refine calls_of_wp hfn Y ?_;have M:AL (bare fz) w ([.sl false ei.size xs]++List.replicate 7 DT) (vs.toArray++Array.replicate (fn.ntmps - vs.toArray.size) undef).toList:=by
   simp only[Array.toList_append,Array.toList_replicate,List.size_toArray];rw[<- hr.length,hnt];exact hr.append (AL.replicate _ (.no .nil))
  have hrel:EK E0 w.heap.size (Start.of w fz) (bare fz) ⟨[.sl false ei.size xs]++List.replicate 7 DT,[]⟩ { tmps:=vs.toArray++Array.replicate (fn.ntmps - vs.toArray.size) undef,defers:=[] } w:=⟨hI,hg0,M,rfl⟩;have Q:∀(s:List V),KF E0 [BO true false e ei.size [],BO true false e ei.size xs] s fn.results.toList=some (.BK 1 0 xs.length xs.length)->∀a' w' σ',EK E0 w.heap.size (Start.of w fz) σ' ⟨s,[BO true false e ei.size [],BO true false e ei.size xs]⟩ a' w' -> Ext (bare fz) w σ' w' ->
    a'.defers=[]/\∃v,(results fn a'.tmps).run P w' = .ok v w' /\ (fun e' w' =>∃u σ',e' = Ending.returned u/\Inv w.heap.size (Start.of w fz) σ' [BO true false e ei.size [],BO true false e ei.size xs] w' /\ Ext (bare fz) w σ' w' /\ AL σ' w' [.BK 1 0 xs.length xs.length] [u]) (.returned v) w' :=by
   intro s hx a' w' σ' I he';obtain⟨u,hu,hur⟩:=XQ (P:=P) S hP I.inv I.slots hx;exact⟨I.calm,u,hu,u,σ',rfl,I.inv,he',hur⟩
  have c0:∀lp,EO (DY E0 0) lp E0 f (.region 0 #[.mk (some 2) (.assign Pq) t "slices.go:355" #[] none] false) ⟨[.sl false ei.size xs]++List.replicate 7 DT,[]⟩ =
    some (.normal,⟨[.sl false ei.size xs,DT,.BK 0 0 0 0,DT,DT,DT,DT,DT],[BO true false e ei.size []]⟩):=by
   intro lp;simp[EO,Jt,stepD,JC,Di,BI,Pq,t1,Env.size,t2,place,setSlot,List.range,List.range.loop,List.replicate]
  refine wp_seq (Rq S hP C D hlp _ _ .normal _ rfl (c0 _) _ _ _ _ hrel (fun a1 w1 σ1 hr1 he1=>?_));show (Code.seq _ _).wp P _ a1 w1;refine wp_seq (wp_seq (ZoK S hP C htu hr1 (xs:=xs) (n:=ei.size) rfl (by simp) (fun b a2 J hb=>?_)));show (Code.cond _ _ _).wp P _ a2 w1;refine wp_cond (t:=b) ?_ ?_
  ·have:=Dp (a:=a2) J.D5 J.slots (.tmp 4);generalize a2.eval (.tmp 4)=v4 at this ⊢;simp only[ev,setSlot]at this;cases this with
   | lit _ _=>rfl
  ·cases b with
   | true=>
    have hx:=hb rfl;subst hx;have cA:∀lp,EO (DY E0 0) lp E0 f (Z0V t) ⟨setSlot (setSlot [.sl false ei.size [],DT,.BK 0 0 0 0,DT,DT,DT,DT,DT] (some 3) (.sl false ei.size [])) (some 4) (.lit (.bool true)),[BO true false e ei.size []]⟩ =
      some (.ret,⟨[.sl false ei.size [],DT,.BK 1 0 0 0,.sl false ei.size [],.lit (.bool true),DT,DT,DT],[BO true false e ei.size [],BO true false e ei.size []]⟩):=by
     intro lp;simp[Z0V,EO,Jt,stepD,JC,Di,BI,Pq,t1,Env.size,t2,place,setSlot,List.range,List.range.loop]
    refine Rq S hP C D hlp _ _ .ret _ rfl (cA _) _ _ _ _ J (fun a3 w3 σ3 hr3 he3=>?_);exact Q _ (by rw[R];rfl) a3 w3 σ3 hr3 (he1.trans he3)
   | false=>
    refine wp_skip ?_;show (kJ t).wp P _ a2 w1;have cB:∀lp,EO (DY E0 0) lp E0 f (kJ t) ⟨setSlot (setSlot [.sl false ei.size xs,DT,.BK 0 0 0 0,DT,DT,DT,DT,DT] (some 3) (.sl false ei.size xs)) (some 4) (.lit (.bool false)),[BO true false e ei.size []]⟩ =
      some (.ret,⟨[.sl false ei.size xs,DT,.BK 1 0 xs.length xs.length,.sl false ei.size xs,.lit (.bool false),.BK 1 0 0 0,.sl false ei.size xs,.BK 1 0 xs.length xs.length],[BO true false e ei.size [],BO true false e ei.size xs]⟩):=by
     intro lp;have hzk:ei.TQ=true:=by simp[TI.TQ,hez,hzl,hzo]
     simp[kJ,EO,Jt,stepD,JC,Di,BI,t1,t2,place,setSlot,List.range,List.range.loop,MM,hez,FC,hpos,hzl,hzo,L8,bump,ev,evs,Kw,IP,elemsOf,EW,Cc,BO,h1,h2,hzk]
    refine Rq S hP C D hlp _ _ .ret _ rfl (cB _) _ _ _ _ J (fun a3 w3 σ3 hr3 he3=>?_);exact Q _ (by rw[R];rfl) a3 w3 σ3 hr3 (he1.trans he3)
theorem Zlz (R:P.follows .mixedOrders=true) {f:FuncId} {fn:Func} {t tb e:TypeId} {i1 i2:Nat} {iz:Option V} {C:TI} {z:V} (hfn:P.funcs[f]? = some fn) (I:fn.body=some (kK t tb)) (hnt:fn.ntmps=8) (hres:fn.results = #[.tmp 2])
  (hti:Jv P t=some ⟨.slice e,i1,i2,iz⟩) (htu:P.underlying t=some (.slice e)) (hei:Jv P e=some C) (hez:C.zero=some z) (S:0<C.size) (hzl:z.cells.length=C.size) (hzo:okV z=true)
  {xs:List V} (h1:xs.length*C.bytes<=lim) (h2:xs.length<=maxLen):MX P E f [.sl false C.size xs] (.sl false C.size xs):=by
 intro fz w vs hcells hg hr;refine(Z8C R hfn I hnt hres hti htu hei hez S hzl hzo h1 h2 fz w vs hcells hr).mono ?_
 rintro e' w' ⟨u,σ',rfl,D,J,Y⟩
 have Q:JJ [BO true false e C.size [],BO true false e C.size xs] (.BK 1 0 xs.length xs.length)=some (.sl false C.size xs):=by simp[JJ,H9,F9,Cc,BO]
 obtain⟨G,M⟩:=D.freeze (OX (.BK 1 0 xs.length xs.length));have hr2:=ZF D Y Q (OX (.BK 1 0 xs.length xs.length)) (fun i hi=>hi);have hn:=zQ D Y Q;refine⟨u,_,rfl,G.below,fun b c h=>(M.fz b c (J.fz b c h).1).1,fun b c h hlt=>G.old b c h hlt,G.cells,?_,hn⟩;exact hr2.bare (fun b c h=>⟨h,rfl⟩) (by simp[Be,hn])
theorem ZmS (R:P.follows .mixedOrders=true) {f:FuncId} {fn:Func} {t tb e:TypeId} {i1 i2:Nat} {iz:Option V} {D:TI} {z:V} (hfn:P.funcs[f]? = some fn) (J:fn.body=some (kK t tb)) (hnt:fn.ntmps=8) (Y:fn.results = #[.tmp 2])
  (hti:Jv P t=some ⟨.slice e,i1,i2,iz⟩) (htu:P.underlying t=some (.slice e)) (hei:Jv P e=some D) (hez:D.zero=some z) (S:0<D.size) (hzl:z.cells.length=D.size) (hzo:okV z=true)
  {xs:List V} (h1:xs.length*D.bytes<=lim) (h2:xs.length<=maxLen):jQ P E f [.sl false D.size xs] e D.size xs:=by
 intro fz w vs hcells hg hr;have I:∀x∈xs,DU x=true:=by
  cases hr with
  | EI _=>simp
  | Et a _=>simp
  | sl b o c e' k1 k2 k3 k4 k5 k6 k7 _=>exact k2
 refine(Z8C R hfn J hnt Y hti htu hei hez S hzl hzo h1 h2 fz w vs hcells hr).mono ?_
 rintro e' w' ⟨u,σ',rfl,C,Q,hr'⟩
 obtain⟨L,hL,M⟩:=C.boxes 1 _ rfl rfl;obtain⟨us,k1,k2,k3,k4⟩:=M.Cj;have htot:L.tot=xs.length:=M.tot;have G:L.Ag=D.size:=M.Ag.symm;have hu:u=L.v:=by
  cases hr' with
  | BK q1 q2 q3 q4 _=>
   rw[hL]at q1;cases q1;obtain⟨_,a,n,c,k,r1,r2,r3,r4,_⟩:=q3 htot;have hk0:k=0:=by omega
   subst hk0;rw[r2,r1];rcases k4.2 with ⟨hv,hn⟩|⟨g,cap,cur,tg,hv,_⟩
   ·rw[r1]at hv;cases hv;have:xs.length=0:=hn;simp[this]
   ·rw[r1]at hv;cases hv;simp[Addr.add,BO]
 subst hu;refine⟨L.v,us,σ'.fz,rfl,C.below,fun b c h=>(Q.fz b c h).1,fun b c h hlt=>C.old b c h hlt,C.cells,k1.bare (fun b c h=>⟨h,rfl⟩) (Ko I),I,fun x hx=>by rw[k2 x hx,G],k3,by rw[<- G];exact k4,fun g c hg' hfz=>?_⟩;have:=C.floor g c hfz 1 _ L rfl rfl hL hg';simp[BO]at this
theorem G5 (G:P.follows .mixedOrders=true) {f:FuncId} {fn:Func} {t tb e:TypeId} (R:P.funcs[f]? = some fn) (C:fn.body=some (kK t tb)) (Y:fn.ntmps=8) (J:fn.results = #[.tmp 2]) (S:(fn.name == "runtime.NumGoroutine")=false)
  (D:(Jv P t).map TI.ty=some (.slice e)) (htu:P.underlying t=some (.slice e)) {n by' : Nat} (Q:(Jv P e).map (fun i=>(i.size,i.bytes,i.TQ))=some (n,by',true)) (I:0<n):FN P f n by' e:=by
 cases h1:Jv P t with
 | none=>simp_all
 | some ti=>
  cases h2:Jv P e with
  | none=>simp_all
  | some ei=>
   rw[h1]at D;rw[h2]at Q;simp only[Option.map_some,Option.some.injEq,Prod.mk.injEq]at D Q;obtain⟨ty,i1,i2,iz⟩:=ti;simp only at D;subst D;obtain⟨rfl,rfl,M⟩:=Q;unfold TI.TQ at M;split at M
   ·rename_i z hz0;simp only[Bool.and_eq_true,beq_iff_eq]at M;exact⟨⟨fn,R,by rw[C];rfl,S⟩,fun E xs h3 h4=>Zlz G R C Y J h1 htu h2 hz0 I M.2 M.1 h3 h4,fun E xs h3 h4=>ZmS G R C Y J h1 htu h2 hz0 I M.2 M.1 h3 h4⟩
   ·cases M
theorem KE {U:CX} {E0:Env} {f n by' e:Nat} (h:FN P f n by' e) {m:HMod U}
  (hm:∀(x:m.Ba.X U) (y:U.Ty m.ky),m.fn x=some y->∃xs,Aj U (m.Ba.enc x).1=[.sl false n xs]/\BC U (m.Ba.enc x).2=[]/\AU U (m.out y).1 = .BK 0 0 xs.length xs.length/\BC U (m.out y).2=[BO true false e n xs]/\xs.length*by' <= lim/\xs.length<=maxLen):Bi P E0 f m:=by
 refine⟨h.entered,fun x y S=>?_⟩;obtain⟨xs,z,C,D,G,I,J⟩:=hm x y S;rw[z,C,D,G];intro B w0 σ w vs _ M Q R;have:=Zt (P:=P) (E:=E0) (f:=f) (e:=e) (sz:=n) (xs:=xs) (as:=[.sl false n xs]) [] (by simpa[Ff]using h.own E0 xs I J) rfl M Q R;exact this
end
end Go.Proofs.YteinepnbndegdaaGreat.Le
namespace Go.Proofs.YteinepnbndegdaaGreat.Le
def Y9 (ex:FuncId->Option (List V->Option V)) (z:List (Nat×Nat×Nat×Nat)):FuncId->Option (List V->Option V):=fun g=>match ex g with|some F=>some F|none=>YQ z g
def nM (ex:FuncId->Option (List V->Option V)) (z:List (Nat×Nat×Nat×Nat)):FuncId->Option TypeId:=fun g=>match ex g with|some _=>none|none=>YZ z g
structure Gj (P:Program) (gl:Nat->Option (List V)) (f:FuncId) (F:List V->Option V):Prop where
 entered:Ky P f
 pure:∀(E:Env) (as:List V) (r:V),E.D5=gl->F as=some r->MX P E f as r
def Z0u (n by' e:Nat):NC where
 fa:=[[.s e n]]
 fb:=[]
 run:=fun as H=>match as,H with
  | [.sl false m xs],[]=>if m=n/\xs.length*by' <= lim/\xs.length<=maxLen then some (.BK 0 0 xs.length xs.length,[BO true false e n xs]) else none
  | _,_=>none
def hmL (z:List (Nat×Nat×Nat×Nat)):FuncId->List FuncId->Option NC:=fun g key=>match key with
 | []=>(z.find? fun p=>p.1==g).map fun p=>Z0u p.2.1 p.2.2.1 p.2.2.2
 | _=>none
theorem ZlD {P:Program} {E:Env} {f n by' e:Nat} (h:FN P f n by' e) {as:List V} {D H1:Heap} {r:V} (z:(Z0u n by' e).run as D=some (r,H1)):SN P E f as D r H1:=by
 simp only[Z0u]at z;split at z
 ·rename_i m xs;split at z
  ·rename_i hc;obtain⟨rfl,G,I⟩:=hc;simp only[Option.some.injEq,Prod.mk.injEq]at z;obtain⟨rfl,rfl⟩:=z;intro B w0 σ w vs _ J M C;have:=Zt (P:=P) (E:=E) (f:=f) (e:=e) (sz:=m) (xs:=xs) (as:=[.sl false m xs]) [] (by simpa[Ff]using h.own E xs G I) rfl J M C;exact this
  ·cases z
 ·cases z
theorem Ztx {P:Program} {E:Env} {D:List (Nat×Nat×Nat×Nat)} (h:∀p∈D,FN P p.1 p.2.1 p.2.2.1 p.2.2.2) {f:FuncId} {key:List FuncId} {G:NC} (hh:hmL D f key=some G) :
  Ky P f/\∀as C r H1,G.run as C=some (r,H1)->SN P E f as C r H1:=by
 unfold hmL at hh;split at hh
 ·cases z:D.find? (fun p=>p.1==f) with
  | none=>simp[z]at hh
  | some p=>
   simp only[z,Option.map_some,Option.some.injEq]at hh;subst hh;have hm:=h p (List.mem_of_find?_eq_some z);have I:p.1=f:=by simpa using List.find?_some z
   rw[I]at hm;exact⟨hm.entered,fun as C r H1 J=>ZlD hm J⟩
 ·cases hh
theorem Z9a {P:Program} {gl:Nat->Option (List V)} {E:Env} {ex:FuncId->Option (List V->Option V)} {J:List (Nat×Nat×Nat×Nat)} (hg:E.D5=gl) (hE:E.env=Y9 ex J) (ho:E.own=nM ex J) {Y:List (Nat×Nat×Nat×Nat)} (Q:E.hm=hmL Y) (M:∀p∈Y,FN P p.1 p.2.1 p.2.2.1 p.2.2.2) (R:∀f,E.maps f=none) (h:∀p∈J,FN P p.1 p.2.1 p.2.2.1 p.2.2.2) (hx:∀g F,ex g=some F->Gj P gl g F):LK P E:=by
 refine⟨?_,fun f key hs h=>Ztx M (by rw[<- Q];exact h),R⟩;intro f F C;rw[hE]at C;cases D:ex f with
 | some F' =>
  simp only[Y9,D,Option.some.injEq]at C;subst C;refine⟨(hx f _ D).entered,fun as r _ z=>?_⟩;rw[show E.own f=none by rw[ho];simp only[nM,D]];exact(hx f _ D).pure E as r hg z
 | none=>
 simp only[Y9,D]at C;unfold YQ at C;cases I:J.find? (fun p=>p.1==f) with
 | none=>simp[I]at C
 | some p=>
  simp only[I,Option.map_some,Option.some.injEq]at C;subst C;have hm:=h p (List.mem_of_find?_eq_some I);have hf:p.1=f:=by simpa using List.find?_some I
  rw[hf]at hm;have G:E.own f=some p.2.2.2:=by rw[ho];simp only[nM,D];unfold YZ;rw[I];rfl
  refine⟨hm.entered,fun as r _ z=>?_⟩;rw[G];intro sz xs S;subst S;unfold Z0F at z;split at z
  ·split at z
   ·rename_i hc;simp only[Option.some.injEq,V.sl.injEq]at z;obtain⟨_,rfl,rfl⟩:=z;rw[hc.1];exact hm.own E _ hc.2.1 hc.2.2
   ·cases z
  ·cases z
noncomputable def EX (P:Program) (gl:Nat->Option (List V)) (fs:List FuncId) (pu:FuncId->Bool) (bad:List (Nat×Nat)) (z:List (Nat×Nat×Nat×Nat)) (ex:FuncId->Option (List V->Option V)) (C:List (Nat×Nat×Nat×Nat)):Env:=
 { JW P pu (Y9 ex z) with
  func:=fun g=>if fs.contains g then P.funcs[g]? else none
  D5:=gl
  own:=nM ex z
  hm:=hmL C
  calm:=fun f id=>!(bad.any fun p=>p.1==f&&p.2==id) }
noncomputable def VN (P:Program) (gl:Nat->Option (List V)) (fs:List FuncId) (pu:FuncId->Bool) (bad:List (Nat×Nat)) (z:List (Nat×Nat×Nat×Nat)) (ex:FuncId->Option (List V->Option V)) (C:List (Nat×Nat×Nat×Nat)):Bool:=
 fs.all fun g=>match P.funcs[g]? with
  | some fn=>!(fn.name == "runtime.NumGoroutine")&&(match fn.body with|some c=>Dy (EX P gl fs pu bad z ex C) g c|none=>true)
  | none=>true
theorem Zbi {P:Program} {gl:Nat->Option (List V)} {fs:List FuncId} {pu:FuncId->Bool} {bad:List (Nat×Nat)} {G:List (Nat×Nat×Nat×Nat)} {ex:FuncId->Option (List V->Option V)} {I:List (Nat×Nat×Nat×Nat)} (D:P.follows .mixedOrders=true) (z:VN P gl fs pu bad G ex I=true):Bl (EX P gl fs pu bad G ex I):=by
 have z:=List.all_eq_true.1 z;refine⟨fun t i h=>h,?_,D,?_,?_,?_,?_,fun t Q h=>h,?_⟩
 ·intro g fn h;simp only[EX]at h;split at h
  ·rename_i M;have:=z g (by simpa using M);rw[h]at this;simp only[Bool.and_eq_true,Bool.not_eq_true']at this;exact⟨h,this.1⟩
  ·cases h
 ·intro g fn c h hb;simp only[EX]at h
  grind
 ·intro t k h;simp only[EX,JW]at h;split at h
  ·rename_i d C;simp only[Option.some.injEq]at h;subst h;exact C
  ·cases h
 ·intro t h;simp only[EX,JW]at h;split at h
  ·rename_i C;exact C
  ·cases h
 ·intro t h;simp only[EX,JW]at h;split at h
  ·rename_i C;exact C
  ·cases h
 ·intro t h;simp only[EX,JW]at h;split at h
  ·rename_i e J;split at h
   ·rename_i C;exact⟨e,J,C⟩
   ·cases h
  ·cases h
noncomputable def IZ (E:Env) (n:Nat) (f:FuncId):List V->Option V:=fun as=>match E.func f with
 | some fn=>(match Jp (DY E n) n E f fn as [] with
  | some (r,H)=>JJ H r
  | none=>none)
 | none=>none
theorem Z8l {P:Program} {gl:Nat->Option (List V)} {fs:List FuncId} {pu:FuncId->Bool} {bad:List (Nat×Nat)} {D:List (Nat×Nat×Nat×Nat)} (J:P.follows .mixedOrders=true) (Q:Xw P gl fs pu bad D=true) (R:∀p∈D,FN P p.1 p.2.1 p.2.2.1 p.2.2.2) {f:FuncId} (hf:fs.contains f=true) {fn:Func} (I:P.funcs[f]? = some fn) (hb:fn.body.isNone=false) (n:Nat):Gj P gl f (IZ (EC P gl fs pu bad D) n f):=by
 have M:=Zbk J Q;have C:(EC P gl fs pu bad D).func f=some fn:=by simp only[EC,hf,if_true];exact I
 refine⟨⟨fn,I,hb,(M.func f fn C).2⟩,fun E as r hg G=>?_⟩;unfold IZ at G;rw[C]at G;simp only at G;cases z:Jp (DY (EC P gl fs pu bad D) n) n (EC P gl fs pu bad D) f fn as [] with
 | none=>simp[z]at G
 | some rr=>
  obtain⟨r0,H2⟩:=rr;simp only[z]at G;have Y:=iL M rfl (Rk M rfl (ZmK rfl rfl (fun _ _=>rfl) (fun _=>rfl) R) n) (Nb n) C z G;intro fz w vs hcells S hr';exact Y fz w vs hcells (fun g r hh=>S g r (by rw[hg];exact hh)) hr'
theorem Zo3 {U:CX} {P:Program} {gl:Nat->Option (List V)} {E0:Env} {f:FuncId} {m:BF U} (z:E0.D5=gl) (h:BD P E0 f m) {F:List V->Option V} (G:∀as r,F as=some r->∃x a,as=GL m.ts x/\m.fn x=some a/\r=U.enc m.rt a):Gj P gl f F:=by
 refine⟨h.entered,fun E as r J M=>?_⟩;obtain⟨x,a,rfl,I,rfl⟩:=G as r M;intro fz w vs hcells C D;exact h.pure x a I fz w vs hcells (fun g r hh=>C g r (by rw[J,<- z];exact hh)) D
theorem Zm7 {U:CX} {P:Program} {gl:Nat->Option (List V)} {fs:List FuncId} {pu:FuncId->Bool} {bad:List (Nat×Nat)} {D:List (Nat×Nat×Nat×Nat)} {ex:FuncId->Option (List V->Option V)} {C:List (Nat×Nat×Nat×Nat)} {E0:Env} (M:E0.D5=gl) (I:P.follows .mixedOrders=true) (Q:VN P gl fs pu bad D ex C=true) (hx:∀g F,ex g=some F->Gj P gl g F) (S:∀p∈C,FN P p.1 p.2.1 p.2.2.1 p.2.2.2) (R:∀p∈D,FN P p.1 p.2.1 p.2.2.1 p.2.2.2) {f:FuncId} (Y:Y9 ex D f=none) (hf:fs.contains f=true) (hp:pu f=true) {fn:Func} (G:P.funcs[f]? = some fn)
  (hb:fn.body.isNone=false) {n:Nat} {m:BF U} (hts:m.ts=[]) {a:U.Ty m.rt} (hm:∀x,m.fn x=some a) (h:(DY (EX P gl fs pu bad D ex C) (n+1) f [] []).map (·.1)=some (U.enc m.rt a)):BD P E0 f m:=by
 have hE:=Zbi I Q;have z:(fn.name == "runtime.NumGoroutine")=false:=(hE.func f fn (by simp only[EX,hf,if_true];exact G)).2;refine⟨⟨fn,G,hb,z⟩,fun x a' J =>?_⟩;rw[hm x]at J;cases J;cases hc:DY (EX P gl fs pu bad D ex C) (n+1) f [] [] with
 | none=>simp[hc]at h
 | some rr=>
  obtain⟨r,H'⟩:=rr;simp only[hc,Option.map_some,Option.some.injEq]at h;subst h;have hpf:=ZmQ hE rfl (Z9a (gl:=gl) rfl rfl rfl rfl S (fun _=>rfl) R hx) hp Y rfl rfl hc;have he:GL m.ts x=[]:=by
   have C:=Z5a x;exact List.eq_nil_of_length_eq_zero (by rw[C,congrArg List.length hts];rfl)
  rw[he];intro fz w vs hcells hg hr;exact hpf fz w vs hcells (fun g r hh=>hg g r (by rw[M];exact hh)) hr
theorem RZ {P:Program} {gl:Nat->Option (List V)} {fs:List FuncId} {pu:FuncId->Bool} {bad:List (Nat×Nat)} {D:List (Nat×Nat×Nat×Nat)} {ex:FuncId->Option (List V->Option V)} {G:List (Nat×Nat×Nat×Nat)} (M:P.follows .mixedOrders=true) (R:VN P gl fs pu bad D ex G=true) (hx:∀g F,ex g=some F->Gj P gl g F) (hhl:∀p∈G,FN P p.1 p.2.1 p.2.2.1 p.2.2.2) (S:∀p∈D,FN P p.1 p.2.1 p.2.2.1 p.2.2.2) {f:FuncId} (hf:fs.contains f=true) {fn:Func} (J:P.funcs[f]? = some fn) (hb:fn.body.isNone=false) (n:Nat):Gj P gl f (IZ (EX P gl fs pu bad D ex G) n f):=by
 have Q:=Zbi M R;have C:(EX P gl fs pu bad D ex G).func f=some fn:=by simp only[EX,hf,if_true];exact J
 refine⟨⟨fn,J,hb,(Q.func f fn C).2⟩,fun E as r hg I=>?_⟩;unfold IZ at I;rw[C]at I;simp only at I;cases z:Jp (DY (EX P gl fs pu bad D ex G) n) n (EX P gl fs pu bad D ex G) f fn as [] with
 | none=>simp[z]at I
 | some rr=>
  obtain⟨r0,H2⟩:=rr;simp only[z]at I;have hpf:=iL Q rfl (Rk Q rfl (Z9a (gl:=gl) rfl rfl rfl rfl hhl (fun _=>rfl) S hx) n) (Nb n) C z I;intro fz w vs hcells Y hr';exact hpf fz w vs hcells (fun g r hh=>Y g r (by rw[hg];exact hh)) hr'
mutual
def JP:V->V->Bool
 | .lit (.int k a),.lit (.int k' b)=>k==k' && a==b
 | .lit (.bool a),.lit (.bool b)=>a==b
 | .agg a,.agg b=>O4 a b
 | .Ap a,.Ap b=>O4 a b
 | .sl n e a,.sl C z b=>n==C && e==z && O4 a b
 | _,_=>false
def O4:List V->List V->Bool
 | [],[]=>true
 | a::as,b::bs=>JP a b&&O4 as bs
 | _,_=>false
end
mutual
theorem Ztw:∀(a b:V),JP a b=true->a=b
 | .lit u,b,h=>by unfold JP at h;split at h<;>simp_all
 | .agg a,b,h=>by
  unfold JP at h;split at h<;>simp_all;exact Xk _ _ h
 | .Ap a,b,h=>by
  unfold JP at h;split at h<;>simp_all;exact Xk _ _ h
 | .sl n e a,b,h=>by
  unfold JP at h;split at h<;>simp_all;exact Xk _ _ h.2
 | .CE ..,b,h=>by simp[JP]at h
 | .BK ..,b,h=>by simp[JP]at h
 | .ptr ..,b,h=>by simp[JP]at h
 | .Bj ..,b,h=>by simp[JP]at h
 | .fn ..,b,h=>by simp[JP]at h
 | .GX ..,b,h=>by simp[JP]at h
 | .Lt ..,b,h=>by simp[JP]at h
 | .FQ ..,b,h=>by simp[JP]at h
 | .no,b,h=>by simp[JP]at h
 | .und,b,h=>by simp[JP]at h
theorem Xk:∀(a b:List V),O4 a b=true->a=b
 | [],b,h=>by cases b<;>simp_all [O4]
 | x::xs,b,h=>by
  cases b with
  | nil=>simp[O4]at h
  | cons y ys=>
   simp only[O4,Bool.and_eq_true]at h;rw[Ztw x y h.1,Xk xs ys h.2]
end
def JH (l:List (List V×V)):List V->Option V:=fun as=>(l.find? fun p=>O4 p.1 as).map (·.2)
theorem Ro {F:List V->Option V}:∀p∈([]:List (List V×V)),F p.1=some p.2:=fun p h=>by cases h
theorem Kv {F:List V->Option V} {x:List V} {y:V} {l:List (List V×V)} (h:F x=some y) (z:∀p∈l,F p.1=some p.2):∀p∈(x,y)::l,F p.1=some p.2:=fun p hp=>by
 rcases List.mem_cons.1 hp with rfl|hp
 ·exact h
 ·exact z p hp
theorem Rj {P:Program} {gl:Nat->Option (List V)} {f:FuncId} {F:List V->Option V} {l:List (List V×V)} (h:Gj P gl f F) (I:∀p∈l,F p.1=some p.2):Gj P gl f (JH l):=
 ⟨h.entered,fun E as r G C=>by
  unfold JH at C;obtain⟨p,z,rfl⟩:=Option.map_eq_some_iff.1 C;have D:p.1=as:=Xk _ _ (List.find?_some (p:=fun p:List V×V=>O4 p.1 as) z);exact h.pure E as _ G (D▸I p (List.mem_of_find?_eq_some z))⟩
end Go.Proofs.YteinepnbndegdaaGreat.Le
namespace Go.Proofs.YteinepnbndegdaaGreat.Le
open Go.RowKit (Below)
def nV (k:Nat) (P:Program) (fn:Func) (B:Nat) (w0:Start) (σ0:Sg) (ws:World) (r:V×Heap) (a:Act) (w:World):Prop:=
 a.defers=[]/\∃u σ',(results fn a.tmps).run P w = .ok u w/\Inv B w0 σ' r.2 w/\Hq k σ0 ws σ' w/\AL σ' w [r.1] [u]/\k<=r.2.length
theorem Za9 {k:Nat} {P:Program} {E:Env} {B:Nat} {w0:Start} {fn:Func} (hE:Bl E) (hP:E.P=P) {fa:List (List Fk)} {fb:List Bf} {σ0:Sg} {ws:World} {σ:Sg} {st:St} {a:Act} {w:World} {r:V×Heap} (h:EK E B w0 σ st a w) (hx:Hq k σ0 ws σ w)
  (hz:Zh E fn fa fb k st r):nV k P fn B w0 σ0 ws r a w:=by
 obtain⟨r0,hr,z⟩:=hz;obtain⟨u,hu,M⟩:=XQ (P:=P) hE hP h.inv h.slots hr;have key:∀{args as:List V} {vs:List Value} {ids:List Nat} {D:Heap},AL σ w args vs->pack fa fb k args st.H=some (ids,as,D)->ids.take k=List.range k ->
   ∃σ',Inv B w0 σ' (GU D ids) w/\Hq k σ0 ws σ' w/\AL σ' w (Fv (ids.idxOf ·) as) vs/\k<=(GU D ids).length:=by
  intro args as vs ids D Y I G;obtain⟨hs,hm,_,σ1,C,R,S⟩:=jP h.inv Y I;have J:=kT C hs w0 C.below C.old (fun b hb=>by
   obtain⟨k1,k2,k3,k4⟩:=C.kept b hb
   grind)
  exact⟨_,J,(hx.trans R).ren G,VH S hm,by
   have Q:=congrArg List.length G;rw[List.length_take,List.length_range]at Q;unfold GU;rw[List.length_map];omega⟩
 refine⟨h.calm,u,?_⟩;unfold YW at z;split at z
 ·rename_i vs;split at z
  ·rename_i ids as D I;split at z
   ·rename_i G;simp only[Option.some.injEq]at z;subst z;cases M with
    | Ap Q _=>
     obtain⟨σ',i1,i2,i3,i4⟩:=key Q I G;exact⟨σ',hu,i1,i2,.Ap i3 .nil,i4⟩
   ·cases z
  ·cases z
 ·split at z
  ·rename_i ids x D I;split at z
   ·rename_i G;simp only[Option.some.injEq]at z;subst z;obtain⟨σ',i1,i2,i3,i4⟩:=key M I G;exact⟨σ',hu,i1,i2,i3,i4⟩
   ·cases z
  ·cases z
def Gf (k d i:Nat):Nat:=if i<k then i else i+d
def Gz (k d i:Nat):Option Nat:=if i<k then some i else if i<k+d then none else some (i - d)
theorem iG (k d i:Nat):Gz k d (Gf k d i)=some i:=by
 unfold Gz Gf
 by_cases h:i<k
 ·rw[if_pos h,if_pos h]
 ·rw[if_neg h,if_neg (by omega),if_neg (by omega)];congr 1;omega
theorem XN {k d i j:Nat} (h:Gz k d i=some j):i=Gf k d j:=by
 unfold Gz at h;unfold Gf;split at h
 ·cases h;rw[if_pos ‹_›]
 ·split at h
  ·cases h
  ·cases h;rw[if_neg (by omega)];omega
def G7 (k d:Nat) (H:Heap):Heap:=(H.take k).map (EN (Gf k d))++(List.replicate d Ry++(H.drop k).map (EN (Gf k d)))
theorem yU {k d:Nat} {H:Heap} (D:k<=H.length) (i:Nat):(G7 k d H)[i]? = match Gz k d i with|some j=>(H[j]?).map (EN (Gf k d))|none=>some Ry:=by
 unfold G7 Gz;have C:((H.take k).map (EN (Gf k d))).length=k:=by rw[List.length_map,List.length_take];omega
 rw[List.getElem?_append,C];split
 ·rw[List.getElem?_map,List.getElem?_take];rw[if_pos ‹_›]
 ·rw[List.getElem?_append,List.length_replicate]
  by_cases z:i<k+d
  ·rw[if_pos (by omega),if_pos z,List.getElem?_replicate,if_pos (by omega)]
  ·rw[if_neg (by omega),if_neg z,List.getElem?_map,List.getElem?_drop];rw[show k+(i - k - d)=i - d by omega]
def Sg.G7 (σ z:Sg) (k d:Nat):Sg:=⟨fun i=>match Gz k d i with|some j=>z.box j|none=>σ.box i,z.fz,fun i=>match Gz k d i with|some j=>z.mp j|none=>none⟩
theorem Z8N {B k d:Nat} {w0:Start} {σ D:Sg} {H0 H1:Heap} {w w' : World} (h:Inv B w0 σ H0 w) (J:Inv B w0 D H1 w') (hk:k<=H1.length) (hd:H0.length=k+d) (hE:Hq k σ w D w') (hm0:∀id,σ.mp id=none) :
  Inv B w0 (σ.G7 D k d) (G7 k d H1) w' /\ Ext σ w (σ.G7 D k d) w' :=by
 have z:∀{i j:Nat},Gz k d i=some j->(σ.G7 D k d).box i=D.box j:=by
  intro i j hi;simp only[Sg.G7,hi]
 have S:∀{i j:Nat},Gz k d i=some j->(σ.G7 D k d).mp i=D.mp j:=by
  intro i j hi;simp only[Sg.G7,hi]
 have G:∀{i:Nat} {b:Box},(G7 k d H1)[i]? = some b->(Gz k d i=none/\b=Ry)\/∃j b0,Gz k d i=some j/\H1[j]? = some b0/\b=EN (Gf k d) b0:=by
  intro i b hb;rw[yU hk]at hb;cases C:Gz k d i with
  | none=>rw[C]at hb;cases hb;exact .inl ⟨rfl,rfl⟩
  | some j=>
   rw[C]at hb;obtain⟨b0,q1,q2⟩:=Option.map_eq_some_iff.1 hb;exact .inr ⟨j,b0,rfl,q1,q2.symm⟩
 have Q:∀{i j:Nat} {b:Box},Gz k d i=some j->H1[j]? = some b->(G7 k d H1)[i]? = some (EN (Gf k d) b):=by
  intro i j b C hb;rw[yU hk,C];simp only[hb,Option.map_some]
 have R:∀{i g:Nat},(σ.G7 D k d).mp i=some g->∃j,Gz k d i=some j/\D.mp j=some g:=by
  intro i g hm;cases C:Gz k d i with
  | none=>simp only[Sg.G7,C]at hm;cases hm
  | some j=>exact⟨j,rfl,by rw[<- S C];exact hm⟩
 refine⟨⟨J.below,J.size,?_,?_,?_,J.cells,?_,?_,J.old,fun b hb=>?_,⟨fun i bx hb hm=>?_,fun i g hm=>?_,fun i j g Y p2=>?_⟩⟩,?_⟩
 ·intro i L I;cases C:Gz k d i with
  | none=>
   refine⟨Ry,?_,.inr rfl⟩;rw[yU hk,C]
  | some j=>
   rw[z C]at I;obtain⟨b,k1,k2⟩:=J.dom _ L I;exact⟨_,Q C k1,by rw[(GZ _ b).1,(GZ _ b).2.1];exact k2⟩
 ·intro i bx hb M;rcases G hb with ⟨_,rfl⟩|⟨j,b0,hi,k1,rfl⟩
  ·cases M
  ·rw[(GZ _ b0).1]at M;obtain⟨L,I,hok⟩:=J.boxes _ b0 k1 M;refine⟨L,by rw[z hi];exact I,hok.ren _ (fun b c hh=>⟨hh,rfl⟩) (fun _ r _=>?_) (fun _ _=>rfl)⟩;rw[z (iG k d r),S (iG k d r)];exact⟨rfl,rfl⟩
 ·intro i j b1 b2 L1 L2 g Y p2 l1 l2 s1 s2 g1 g2;rcases G Y with ⟨_,rfl⟩|⟨j1,c1,i1,k1,rfl⟩
  ·cases l1
  ·rcases G p2 with ⟨_,rfl⟩|⟨j2,c2,i2,k2,rfl⟩
   ·cases l2
   ·rw[z i1]at s1;rw[z i2]at s2;rw[(GZ _ _).1]at l1 l2;have:=J.apart _ _ c1 c2 L1 L2 g k1 k2 l1 l2 s1 s2 g1 g2;rw[XN i1,XN i2,this]
 ·intro b c hc i bx L hb M I hg;rcases G hb with ⟨_,rfl⟩|⟨j,b0,hi,k1,rfl⟩
  ·cases M
  ·rw[z hi]at I;rw[(GZ _ b0).1]at M;rw[(GZ _ b0).2.2.2.2.2.1];exact J.floor b c hc _ b0 L k1 M I hg
 ·intro i bx hb M;rcases G hb with ⟨_,rfl⟩|⟨j,b0,hi,k1,rfl⟩
  ·cases M
  ·obtain⟨e1,_,_,_,_,e6,e7⟩:=GZ (Gf k d) b0;rw[e6,e7];rw[e1]at M;exact J.low _ b0 k1 M
 ·obtain⟨k1,k2,k3,k4⟩:=J.kept b hb;refine⟨k1,k2,fun i L I=>?_,k4⟩;cases C:Gz k d i with
  | none=>
   simp only[Sg.G7,C]at I;exact(h.kept b hb).2.2.1 i L I
  | some j=>
   rw[z C]at I;exact k3 _ L I
 ·rcases G hb with ⟨_,rfl⟩|⟨j,b0,hi,k1,rfl⟩
  ·simp[EY,Ry]at hm
  ·obtain⟨e1,e2,e3,_⟩:=GZ (Gf k d) b0;have hmb:EY b0=true:=by simpa only[EY,e1,e2,e3]using hm
   obtain⟨g,es,c,us,q1,q2,q3,q4,q5⟩:=J.maps.ok _ b0 k1 hmb;have hx:(EN (Gf k d) b0).xs=b0.xs:=by unfold EN;rw[if_pos (Nk hmb).2]
   exact⟨g,es,c,us,by rw[S hi];exact q1,q2,by rw[hx];exact q3.bare (fun b c hh=>⟨hh,rfl⟩) (Ko q5),q4,by rw[hx];exact q5⟩
 ·obtain⟨j,hi,hm⟩:=R hm;obtain⟨d1,d2,d3,b,d4,d5⟩:=J.maps.dom _ g hm;obtain⟨e1,e2,e3,_⟩:=GZ (Gf k d) b;exact⟨d1,d2,d3,_,Q hi d4,by simpa only[EY,e1,e2,e3]using d5⟩
 ·obtain⟨j1,hi,Y⟩:=R Y;obtain⟨j2,hj,p2⟩:=R p2;rw[XN hi,XN hj,J.maps.apart _ _ g Y p2]
 ·refine⟨fun i L I=>?_,hE.fz,fun id g hg=>by rw[hm0]at hg;cases hg⟩;cases C:Gz k d i with
  | none=>exact⟨L,by simp only[Sg.G7,C];exact I,rfl,.inl rfl⟩
  | some j=>
   have hi:=h.kY I;have hs:=XN C;have hj:i<k:=by
    unfold Gz at C;split at C
    ·assumption
    ·split at C
     ·cases C
     ·omega
   have:j=i:=by
    unfold Gz at C;rw[if_pos hj]at C;cases C;rfl
   subst this;obtain⟨L',Y,p2⟩:=hE.box _ L hj I;exact⟨L',by rw[z C];exact Y,p2⟩
theorem ZhM {k d:Nat} {P:Program} {E:Env} (R:Bl E) (hP:E.P=P) (hF:LK P E) {n:Nat} {f:FuncId} {fn:Func} (hfn:E.func f=some fn) {c:Code} (hb:fn.body=some c) {as:List V} {H0:Heap} {r:V} {H1:Heap} {fa:List (List Fk)} {fb:List Bf} (hd:H0.length=k+d)
  (h:Ce (DY E n) E f fn k (Zh E fn fa fb k) (.run c) [] ⟨as++List.replicate (fn.ntmps - as.length) DT,H0⟩ (r,H1)):SN P E f as H0 (Ei (Gf k d) r) (G7 k d H1):=by
 obtain⟨Y,hf2⟩:=R.func f fn hfn;rw[hP]at Y;intro B w0 σ w vs hnm hI hg hr;have C:AL σ w (as++List.replicate (fn.ntmps - as.length) DT) (vs.toArray++Array.replicate (fn.ntmps - vs.toArray.size) undef).toList:=by
  simp only[Array.toList_append,Array.toList_replicate,List.size_toArray];rw[<- hr.length];exact hr.append (AL.replicate _ (.no .nil))
 have hrel:EK E B w0 σ ⟨as++List.replicate (fn.ntmps - as.length) DT,H0⟩ { tmps:=vs.toArray++Array.replicate (fn.ntmps - vs.toArray.size) undef,defers:=[] } w:=⟨hI,hg,C,rfl⟩;have hwp:=jX R hP (Rk R hP hF n B w0) (Nb n) (F:=nV k P fn B w0 σ w) (σ0:=σ) (ws:=w)
  (fun st r σ' a w' hz hr hx=>Za9 R hP hr hx hz) h (R.calm f fn c hfn hb) rfl _ _ _ hrel (Ext.refl _ _).k
 have G:∀{r:V×Heap} {u:Value} {σ' : Sg} {w' : World},Inv B w0 σ' r.2 w' -> Hq k σ w σ' w' -> AL σ' w' [r.1] [u]->k<=r.2.length ->
   ∃z,Inv B w0 z (G7 k d r.2) w' /\ Ext σ w z w' /\ AL z w' [Ei (Gf k d) r.1] [u]:=by
  intro r u σ' w' I J M Q;obtain⟨i1,i2⟩:=Z8N hI I Q hd J hnm;refine⟨_,i1,i2,ZI M (fun b c hh=>⟨hh,rfl⟩) (fun id _=>?_)⟩;simp only[Sg.G7,iG,and_self]
 refine calls_of_wp Y hb ?_;intro fr k' cs;obtain⟨e,a',w',D,S⟩:=hwp fr k' cs;refine⟨e,a',w',?_,S⟩;cases e with
 | normal=>
  obtain⟨h0,u,σ',h1,I,J,M,Q⟩:=D;obtain⟨z,j1,j2,j3⟩:=G I J M Q;exact⟨h0,u,h1,u,z,rfl,j1,j2,j3⟩
 | ret=>
  obtain⟨h0,u,σ',h1,I,J,M,Q⟩:=D;obtain⟨z,j1,j2,j3⟩:=G I J M Q;exact⟨h0,u,h1,u,z,rfl,j1,j2,j3⟩
 | exit id=>exact D.elim
 | goto l=>exact D.elim
 | panic c=>exact D.elim
 | outgrown=>exact D.elim
section
variable {U:CX}
def V3 (k d:Nat) (r:SV U.Ty×Au U):SV U.Ty×Au U:=(FP (Gf k d) r.1,(r.2.take k).map (Rt (Gf k d))++(List.replicate d .gone++(r.2.drop k).map (Rt (Gf k d))))
theorem Z7G (k d:Nat) (r:SV U.Ty×Au U):AU U (V3 k d r).1=Ei (Gf k d) (AU U r.1)/\BC U (V3 k d r).2=G7 k d (BC U r.2):=by
 refine⟨Xb _ _,?_⟩;simp only[V3,BC,G7,List.map_append,List.map_replicate,List.map_map,BQ,<- List.map_take,<- List.map_drop];have z:BQ U ∘ Rt (Gf k d)=EN (Gf k d) ∘ BQ U:=funext fun b=>xI _ b;rw[z]
theorem Zmm {kv d:Nat} {P:Program} {gl:Nat->Option (List V)} {f:FuncId} {mods:FuncId->Option (BF U)} {hmods:FuncId->List FuncId->Option (HMod U)} {mk:MW P} {E0:Env} (C:E0.D5=gl) (Y:Cm U (EV P gl f mods hmods mk)) (Q:P.follows .mixedOrders=true) {fn:Func} {c:Code}
  (hok:∀g m,mods g=some m->BD P E0 g m) (M:∀g k m,hmods g k=some m->Bi P E0 g m) (G:P.funcs[f]? = some fn) (z:(fn.name == "runtime.NumGoroutine")=false) (hb:fn.body=some c) (D:Dy (EV P gl f mods hmods mk) f c=true) (m:HMod U)
  {fa:List (List Fk)} {fb:List Bf} (hk:∀x:m.Ba.X U,(m.Ba.enc x).2.length=kv+d) {S:Type} {A:Nat->Option Lay} {N:Nat} (sh:Shape) (out:U.Ty m.ky->SV U.Ty×Au U) (R:∀y,m.out y=V3 kv d (out y)) (T:S->Tr U (U.Ty m.ky⊕S)) (I:S->BN U)
  (h:∀p,Dv (EV P gl f mods hmods mk) (ND mods hmods mk.tab) A f fn kv (Qb (EV P gl f mods hmods mk) fn fa fb kv sh m.one) N (.run (I p).c) (I p).K (I p).st (I p).sk=(T p).map (Nw out I))
  (b0:m.Ba.X U->S) (hm:∀x:m.Ba.X U,m.fn x=AY T (b0 x)) (hsp:∀x:m.Ba.X U,I (b0 x)=⟨c,[],VV (m.Ba.enc x) fn.ntmps,false⟩):Bi P E0 f m:=by
 have hE:=mM (gl:=gl) (mods:=mods) (hmods:=hmods) Q G z hb D;have hF:LK P (EV P gl f mods hmods mk):=iQ Y rfl rfl (fun _=>rfl) (fun g m hm=>(hok g m hm).D5 (by rw[C];rfl)) (fun g k m hm=>(M g k m hm).D5 (by rw[C];rfl)) mk rfl;have J : (EV P gl f mods hmods mk).func f=some fn:=by simp only[EV,Lp,if_true];exact G
 refine⟨⟨fn,G,by simp[hb],z⟩,fun x y hx B w0 σ w vs hnm hi hg hr=>?_⟩;rw[hm]at hx;have h1:=gY Y (lM Y) (fun st s hs=>ZT Y hs) T I h hx;rw[hsp,Z7h]at h1;have h2:=ZhM hE rfl hF J hb (by rw[Oj,hk x]) h1 B w0 σ w vs hnm hi (fun g r hh=>hg g r (by rw[C];exact hh)) hr;obtain⟨e1,e2⟩:=Z7G kv d (out y);rw[<- e1,<- e2,<- R]at h2;exact h2
end
end Go.Proofs.YteinepnbndegdaaGreat.Le
namespace Go.Proofs.YteinepnbndegdaaGreat.Le
open Go.RowKit (Below)
section
variable {U:CX}
theorem Zop {kv d:Nat} {P:Program} {gl:Nat->Option (List V)} {f f0:FuncId} {mods:FuncId->Option (BF U)} {hmods:FuncId->List FuncId->Option (HMod U)} {mk:MW P} {E0:Env} (J:E0.D5=gl) (hU:Cm U (EV P gl f0 mods hmods mk)) (hmix:P.follows .mixedOrders=true)
  (hok:∀g m,mods g=some m->BD P E0 g m) (hhok:∀g k m,hmods g k=some m->Bi P E0 g m)
  {I:Func} {c0:Code} (hfn0:P.funcs[f0]? = some I) (G:(I.name == "runtime.NumGoroutine")=false) (hb0:I.body=some c0) (D:Dy (EV P gl f0 mods hmods mk) f0 c0=true)
  {fn:Func} {c:Code} (hfn:P.funcs[f]? = some fn) (M:(fn.name == "runtime.NumGoroutine")=false) (hb:fn.body=some c) (m:HMod U)
  {fa:List (List Fk)} {fb:List Bf} (hk:∀x:m.Ba.X U,(m.Ba.enc x).2.length=kv+d) {S:Type} {A:Nat->Option Lay} {N:Nat} (sh:Shape) (out:U.Ty m.ky->SV U.Ty×Au U) (hout:∀y,m.out y=V3 kv d (out y)) (T:S->Tr U (U.Ty m.ky⊕S)) (C:S->BN U)
  (h:∀p,Dv (EV P gl f0 mods hmods mk) (ND mods hmods mk.tab) A f fn kv (Qb (EV P gl f0 mods hmods mk) fn fa fb kv sh m.one) N (.run (C p).c) (C p).K (C p).st (C p).sk=(T p).map (Nw out C))
  (b0:m.Ba.X U->Option S) (hm:∀x:m.Ba.X U,m.fn x=(b0 x).bind (AY T)) (hcp:∀x p,b0 x=some p->Dy (EV P gl f0 mods hmods mk) f (C p).c=true/\KN (EV P gl f0 mods hmods mk) f (C p).K=true)
  (hand:∀(x:m.Ba.X U) (p:S),b0 x=some p->∀(B:Nat) (w0:Start) (σ:Sg) (w:World) (vs:List Value) (Z:Act->World->Prop),(∀id,σ.mp id=none)->Inv B w0 σ (BC U (m.Ba.enc x).2) w->Ci (EV P gl f0 mods hmods mk) σ w->AL σ w (Aj U (m.Ba.enc x).1) vs ->
   (∀(σ' : Sg) (a:Act) (w' : World),EK (EV P gl f0 mods hmods mk) B w0 σ' (CB U (C p).st) a w' -> Hq kv σ w σ' w' -> lT P Z (C p).K a w' (.run (C p).c)) ->
   c.wp P (QK P Z []) { tmps:=vs.toArray++Array.replicate (fn.ntmps - vs.toArray.size) undef,defers:=[] } w):Bi P E0 f m:=by
 have hE:=mM (gl:=gl) (mods:=mods) (hmods:=hmods) (mk:=mk) hmix hfn0 G hb0 D;have hF:LK P (EV P gl f0 mods hmods mk):=iQ hU rfl rfl (fun _=>rfl) (fun g m hm=>(hok g m hm).D5 (by rw[J];rfl)) (fun g k m hm=>(hhok g k m hm).D5 (by rw[J];rfl)) mk rfl;refine⟨⟨fn,hfn,by simp[hb],M⟩,fun x y R B w0 σ w vs hnm hi hg hr=>?_⟩;rw[hm]at R;obtain⟨p,hp,R⟩:=Option.bind_eq_some_iff.1 R;have h1:=gY hU (lM hU) (fun st s hs=>ZT hU hs) T C h R;obtain⟨hc1,hc2⟩:=hcp x p hp;have hg' : Ci (EV P gl f0 mods hmods mk) σ w:=fun g r hh=>hg g r (by rw[J];exact hh);have hwp:=hand x p hp B w0 σ w vs (nV kv P fn B w0 σ w (AU U (out y).1,BC U (out y).2)) hnm hi hg' hr (fun σ' a w' hrel hx' =>
  jX hE rfl (Rk hE rfl hF _ B w0) (Nb _) (F:=nV kv P fn B w0 σ w) (σ0:=σ) (ws:=w)
   (fun st r σ' a w' hz hr R=>Za9 hE rfl hr R hz) h1 hc1 hc2 σ' a w' hrel hx')
 have hd:(BC U (m.Ba.enc x).2).length=kv+d:=by rw[Oj,hk x]
 have Y:∀{r:V×Heap} {u:Value} {σ' : Sg} {w' : World},Inv B w0 σ' r.2 w' -> Hq kv σ w σ' w' -> AL σ' w' [r.1] [u]->kv<=r.2.length ->
   ∃z,Inv B w0 z (G7 kv d r.2) w' /\ Ext σ w z w' /\ AL z w' [Ei (Gf kv d) r.1] [u]:=by
  intro r u σ' w' h2 h3 h4 h5;obtain⟨i1,i2⟩:=Z8N hi h2 h5 hd h3 hnm;refine⟨_,i1,i2,ZI h4 (fun b c hh=>⟨hh,rfl⟩) (fun id _=>?_)⟩;simp only[Sg.G7,iG,and_self]
 obtain⟨e1,e2⟩:=Z7G kv d (out y);rw[hout,e1,e2];refine calls_of_wp hfn hb ?_;intro fr k' cs;obtain⟨e,a',w',Q,harr⟩:=hwp fr k' cs;refine⟨e,a',w',?_,harr⟩;cases e with
 | normal=>
  obtain⟨h0,u,σ',h1,h2,h3,h4,h5⟩:=Q;obtain⟨z,j1,j2,j3⟩:=Y h2 h3 h4 h5;exact⟨h0,u,h1,u,z,rfl,j1,j2,j3⟩
 | ret=>
  obtain⟨h0,u,σ',h1,h2,h3,h4,h5⟩:=Q;obtain⟨z,j1,j2,j3⟩:=Y h2 h3 h4 h5;exact⟨h0,u,h1,u,z,rfl,j1,j2,j3⟩
 | exit id=>exact Q.elim
 | goto l=>exact Q.elim
 | panic c=>exact Q.elim
 | outgrown=>exact Q.elim
end
end Go.Proofs.YteinepnbndegdaaGreat.Le
