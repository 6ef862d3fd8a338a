/- . -/
import Derived.Test.YtjodhcdmhobmoaaGreatDoorWQ2a
set_option linter.unusedVariables false
set_option linter.unusedSimpArgs false
namespace Go.Proofs.YtjodhcdmhobmoaaGreatDoor
open Go Go.Proofs.YtjodhcdmhobmoaaGreatDoor.Le
set_option linter.defProp false
set_option maxRecDepth 100000
set_option maxHeartbeats 40000000
open Go Go.Proofs.YtjodhcdmhobmoaaGreatDoor.Le Go.Proofs.YtjodhcdmhobmoaaGreatDoor.Na
theorem Znn:∀(k:Int) (Y:FT) (p1:DD) (p2:Int) (p3:Bool) (p4:Int),JR Y->0<=k->k<=500000->DW k p1->∃r,ZN Y p1 p2 p3 p4=some r/\DW (k+200) r.1:=by
 refine fun k Y p1 p2 p3 p4 h0 h1 h2 h3=>Bd (fun(p:Yc)=>match p with | .b0 N D _ _ _=>JR N/\DW k D | .b1 _ _ _ z G q _=>JR G/\DW (k+2*z) q/\0<=z/\z<=8 | .b2 _ _ _ z G q _=>JR G/\DW (k+2*z) q/\0<=z/\z<8/\z<(G.TB.length:Int) | .b3 _ _ _ z G _=>JR z/\DW (k+16) G | .b4 _ _ _ z G q _=>JR G/\DW (k+2*z+2) q/\0<=z/\z<8 | .b5 _ _ _ z G q _ A=>JR G/\EW A/\(DW (k+2*z) q/\0<=z/\z<8/\(A.Side=0\/A.Side=1)) | .b6 _ _ _ z _ q J A _=>JR J/\DW (k+16+20*q) A/\0<=q/\q<=6/\z<=6 | .b7 _ D _=>DW (k+150) D | .b8 _ _ _ z _ q J A _=>JR J/\DW (k+16+20*q) A/\0<=q/\q<6/\q<z/\z<=6 | .b9 _ _ _ z _=>DW (k+150) z | .b10 _ _ _ z _ q J A S C _=>JR S/\(DW (k+16+20*q) C/\0<=q/\q<6/\q<z/\z<=6/\(J=0\/J=1)/\A.length<=300/\Cj A) | .b11 _ D _=>DW (k+150) D | .b12 _ D _=>DW (k+150) D | .b13 _ _ _ z _ q _ A _ C F I _=>A.length<=4/\JR F/\DW (k+16+20*q+8+2*C) I/\0<=q/\q<6/\q<z/\z<=6/\A.length<=4/\0<=C/\C<=(A.length:Int) | .b14 _ D O _=>DW (k+150+8*D) O/\0<=D/\D<=2 | .b15 _ _ _ z _ q _ A _ C F I _=>A.length<=4/\JR F/\DW (k+16+20*q+8+2*C) I/\0<=q/\q<6/\q<z/\z<=6/\A.length<=4/\0<=C/\C<(A.length:Int) | .b16 _ _ _ z _ q _ A _ C F I _=>A.length<=4/\JR F/\DW (k+16+20*q+10+2*C) I/\0<=q/\q<6/\q<z/\z<=6/\A.length<=4/\0<=C/\C<(A.length:Int) | .b17 _ _ _ z _ q J A _=>JR J/\DW (k+16+20*q+20) A/\0<=q/\q<6/\z<=6) (fun(p:Yc)=>match p with | .b0 ..=>(5,0,0) | .b1 _ _ _ z _ _ _=>(4,(8 - z).toNat,3) | .b2 _ _ _ z _ _ _=>(4,(8 - z).toNat,2) | .b3 ..=>(3,0,0) | .b4 _ _ _ z _ _ _=>(4,(8 - z).toNat,0) | .b5 _ _ _ z _ _ _ _=>(4,(8 - z).toNat,1) | .b6 _ _ _ _ _ q _ _ _=>(2,(6 - q).toNat,200) | .b8 _ _ _ _ _ q _ _ _=>(2,(6 - q).toNat,199) | .b9 ..=>(1,1,0) | .b10 _ _ _ _ _ q _ _ _ _ _=>(2,(6 - q).toNat,198) | .b13 _ _ _ _ _ q _ A _ C _ _ _=>(2,(6 - q).toNat,(45+(10*((A.length:Int) - C))).toNat) | .b14 _ D _ _=>(0,(2 - D).toNat,0) | .b15 _ _ _ _ _ q _ A _ C _ _ _=>(2,(6 - q).toNat,(44+(10*((A.length:Int) - C))).toNat) | .b16 _ _ _ _ _ q _ A _ C _ _ _=>(2,(6 - q).toNat,(43+(10*((A.length:Int) - C))).toNat) | .b17 _ _ _ _ _ q _ _ _=>(2,(6 - q).toNat,1)|_=>(1,0,0)) ?_ _ ?_
 all_goals try (intro p hp;cases p)
 case' b5 N D O z G q J A=>
  have M:=Zge (k+2*z)
 case' b8 N D O z G q J A S=>
  have M:=ZxW (k+(16+20*q))
 case' b10 N D O z G q J A S C F=>
  have M:=Zsg (k+(16+20*q))
 case' b14 N D O z=>
  have M:=Zx3 (k+(150+8*D))
 case' b15 N D O z G q J A S C F I a12=>
  have M:=Zge (k+(16+20*q+8+2*C))
 all_goals
  try dsimp only at hp
  try exact False.elim hp
  try have hx:=hp
  try dsimp only[BV,Cm,BF,DW,Be,ES,EW,EE,Ba,Ed,Bh]at hx
  try (repeat with_reducible (have hq:=And.left hp;replace hp:=And.right hp))
  try simp only[Z8e]
  try dsimp only
  repeat' first|(refine D9 ?_;dsimp only;try simp(disch:=omega) only[Bv,Bi,List.nil_append,List.drop_zero])|(refine EN (fun h=>?_) (fun h=>?_)<;>(try simp only[Fe,reduceCtorEq]at h;try simp(disch:=omega) only[Bv]at h))|refine Dq ?_ ?_|refine GN ?_|refine ZFG ?_ fun v Q=>?_|refine Am (Zdb (k+16) _ ?_ ?_ ?_) fun(v:Bool) hm Q=>?_|refine Am (M _ _ _ ?_ ?_ ?_ ?_) fun(v:(Ad×Int)) hm Q=>?_|refine Am (M _ ?_ ?_ ?_) fun(v:(Ad×(List Int))) hm Q=>?_|refine Am (M _ _ _ _ ?_ ?_ ?_ ?_ ?_) fun(v:(Ad×(List Au)×Bool)) hm Q=>?_|refine Z3I ?_ fun v Q=>?_|refine Am (M _ _ ?_ ?_ ?_) fun(v:(Ad×(List Au))) hm Q=>?_|with_reducible apply And.intro|rfl|assumption|exact True.intro|omega|exact decide_eq_true (GG _).1|exact Fz (by assumption) (by omega)|exact Fh (by assumption) (by omega) |  exact GM (by assumption) (by omega)|(refine ET.2 ?_;first|omega|grind)|(apply GX;first|omega|(simp only[Bi];omega))|(simp only[Dp,Bi,Cb,maxLen_eq,kL,kA]<;>omega)|(simp(disch:=omega) only[Bv,decide_eq_true_eq,bne_iff_ne,ne_eq];(repeat' split)<;>omega)|(simp[Di,Eu];done)|grind|(simp only[Dp,Bi,Cb,maxLen_eq,kL,kA]<;>grind)|grind [EG]
theorem Zpe:∀(D:JV),EE D->∃r,Z0k D=some r/\((r.2.2=true->BV 20000 r.1)):=by
 refine fun D M=>Bd (fun(p:Yt)=>match p with | .b0 q=>EE q | .b1 ..=>True | .b2 q _=>EE q/\q.Events.length<=60/\EG q.CB | .b3 q z _ C=>EE z/\((0<q->BV 0 C.x0)/\(1<q->BV 0 C.x1)/\0<=q/\q<=2/\z.Events.length<=60/\EG z.CB) | .b4 _ z A _ F=>EE A/\DW (200*z) F/\0<=z/\z<=(A.Events.length:Int)/\A.Events.length<=60/\EG A.CB) (fun(p:Yt)=>match p with | .b0 ..=>(4,0,0) | .b1 ..=>(0,0,0) | .b2 ..=>(3,0,0) | .b3 q _ _ _=>(2,(2 - q).toNat,0) | .b4 _ z A _ _=>(1,((A.Events.length:Int) - z).toNat,0)) ?_ _ ?_
 all_goals try (intro p hp;cases p)
 case' b4 q z A C F=>
  have I:=Znn (200*z)
 all_goals
  try dsimp only at hp
  try exact False.elim hp
  try have J:=hp
  try dsimp only[BV,Cm,BF,DW,Be,ES,EW,EE,Ba,Ed,Bh]at J
  try (repeat with_reducible (have N:=And.left hp;replace hp:=And.right hp))
  try simp only[Z8T]
  try dsimp only
  repeat' first|(refine D9 ?_;dsimp only;try simp(disch:=omega) only[Bv,Bi,List.nil_append,List.drop_zero])|(refine EN (fun h=>?_) (fun h=>?_)<;>(try simp only[Fe,reduceCtorEq]at h;try simp(disch:=omega) only[Bv]at h))|refine Dq ?_ ?_|refine GN ?_|refine Am (ZB0 _ _ _ _ _ _ ?_ ?_ ?_) fun(v:(Ad×Int)) hm G=>?_|refine Am (I _ _ _ _ _ ?_ ?_ ?_ ?_) fun(v:(DD×Int)) hm G=>?_|refine ZD7 ?_ fun v G=>?_|with_reducible apply And.intro|rfl|assumption|exact True.intro|omega|exact decide_eq_true (GG _).1|exact Fz (by assumption) (by omega)|exact Fh (by assumption) (by omega) |  exact GM (by assumption) (by omega)|(refine ET.2 ?_;first|omega|grind)|(apply GX;first|omega|(simp only[Bi];omega))|(simp only[Dp,Bi,Cb,maxLen_eq,kL,kA]<;>omega)|(simp(disch:=omega) only[Bv,decide_eq_true_eq,bne_iff_ne,ne_eq];(repeat' split)<;>omega)|(simp[Di,Eu];done)|grind|(simp only[Dp,Bi,Cb,maxLen_eq,kL,kA]<;>grind)|grind [EG]
def updB (u:DR):List Int:=num 1 (IntKind.wrap .u64 u.FP)++num 2 (IntKind.wrap .u64 u.FC)++num 2 (IntKind.wrap .u64 u.E5)++num 2 (IntKind.wrap .u64 u.C9)++num 2 (IntKind.wrap .u64 u.FY)
def BJ (c:AO) (u:CP):List Int:=[IntKind.wrap .u8 c.Kind]++((bif u.BL then updB c.BL else [])++((bif u.Map then num 5 c.Map else [])++((bif u.DZ then num 2 (IntKind.wrap .u64 c.DZ) else [])++((bif u.CQ then [IntKind.wrap .u8 c.CQ] else [])++((bif u.ER then [IntKind.wrap .u8 c.ER] else [])++
 ((bif u.CZ then num 8 c.CZ else [])++((bif u.Mark then num 8 c.Mark else [])++((bif u.D7 then num 8 c.D7 else [])++((bif u.Version then [IntKind.wrap .u8 c.Version] else [])++(bif u.Length then [IntKind.wrap .u8 c.Length] else []))))))))))
theorem n1 (r:Int):num 1 (IntKind.wrap .u64 r)=[IntKind.wrap .u8 r]:=by
 simp only[num,IntKind.wrap_u64,IntKind.wrap_u8];congr 1;omega
theorem Zg4 (xs:List Int) (h:xs.length<=100000):Jk xs=some ⟨xs⟩:=by
 have:=Us;have:=U6;unfold Jk;rw[if_pos ⟨by omega,by omega⟩]
theorem Zgu (x:Az) (h:x.Payload.length<=100000):rC x=some x:=(Aj _ _).trans (by
 simp only[ZcI,DN,Zg4 _ h,Option.bind_some,beq_self_eq_true,cond_true])
def lC (q:List Az):Prop:=q.length<=1000/\∀x∈q,x.Payload.length<=100000
theorem ZGy (q:List Az) (C:lC q) (a z:BR):∀d i:Nat,i+d=q.length->AU fZ (.b1 (q.take i) q (q.length:Int) (i:Int) a z)=some ⟨{ a with Ap:=q }⟩:=by
 intro d;induction d with
 | zero=>
  intro i D;have e:i=q.length:=by omega
  subst e;refine(Aj _ _).trans ?_;simp only[fZ,Int.lt_irrefl,DN,SL,SM];rw[List.take_length]
 | succ d G=>
  intro i D;refine(Aj _ _).trans ?_;have A:i<q.length:=by omega
  have hl:(q.take i).length=i:=by rw[List.length_take];omega
  have F:=C.2 q[i] (List.getElem_mem A);have:=C.1;simp(disch:=omega) only[fZ,A,Zgu _ F,hl,DN,SL,SM];have:=G (i+1) (by omega);rw[List.take_succ_eq_append_getElem A]at this;exact this
theorem v_own (a:BR) (q:lC a.Ap):Z3r a=some ⟨a⟩:=(Aj _ _).trans (by
 have z:decide ((0:Int)<=(0:Int)/\(0:Int)<=((a.Ap.length:Nat):Int)/\a.Ap.length*32<=lim/\((a.Ap.length:Nat):Int)<=((maxLen:Nat):Int))=true:=by
  have:=Us;have:=U6;have:=q.1;exact decide_eq_true ⟨by omega,by omega,by omega,by omega⟩
 simp only[fZ,DN,Int.toNat_natCast,z,cond_true,beq_self_eq_true,List.length_nil,Bool.and_self];exact ZGy a.Ap q a _ a.Ap.length 0 (by omega))
def lab (st:ByteArray):List Int:=st.data.toList.map fun b=>(b.toNat:Int)
theorem ZE1 (st:ByteArray):X6 U 5 st=true:=List.all_eq_true.2 fun b _=>rfl
theorem ZzC (st:ByteArray):KL U 5 st=lab st:=by
 unfold KL lab;induction st.data.toList with
 | nil=>rfl
 | cons b l q=>exact congrArg (List.cons ((b.toNat:Nat):Int)) q
theorem ZB5 (st:ByteArray):Bytes (lab st):=fun x q=>by
 obtain⟨b,_,rfl⟩:=List.mem_map.1 q;have:b.toNat<256:=b.toNat_lt;omega
theorem ZEY (st:ByteArray):(lab st).length=st.size:=by rw[lab,List.length_map,Array.length_toList];rfl
theorem ZBA (l:List Int) (n:Nat):Bytes (l.flatMap (num n)):=Bytes.flat _ _ fun x _=>U5 n x
theorem ZxZ:Bytes [0]:=Bytes.cons ⟨by decide,by decide⟩ Bytes.nil
noncomputable def jC (k:Int) (st:ByteArray) (q:List Int):Int:=TF k (lab st++[0]++q.flatMap (num 8))
theorem ZyK (k:Int) (st:ByteArray) (q:List Int):Gn (jC k st q):=Z43 _ _
theorem Zt5 (k:Int) (st:ByteArray) (q:List Int) (hs:st.size<=1000) (hp:∀x∈q,Gn x) (hl:q.length<=100):Z1k k st q=some (jC k st q):=(Aj _ _).trans (by
 have z:=Zdf (num 8) 8 q fun x _=>KN 8 x;have A:=ZEY st;simp only[Zci,ZE1,ZzC,ZgL q hp hl,DN,SL,SM];rw[jR _ (by simp[z,A];omega) (by simp)];simp only[Option.bind_some,List.flatten_cons,List.flatten_nil,List.append_nil];rw[Zi6 k _ ((ZB5 st).app (ZxZ.app (ZBA q 8))) (by simp[z,A];omega)];rw[jC,List.append_assoc];rfl)
noncomputable def TE (k s:Int):Nat->List Int
 | 0=>[]
 | i+1=>TE k s i++num 8 (Nk k (IntKind.wrap .u64 (s+i)))
theorem vU (k s:Int) (i:Nat):(TE k s i).length=8*i:=by
 induction i with
 | zero=>rfl
 | succ i q=>rw[TE,List.length_append,q,KN];omega
noncomputable def Z41 (k q:Int) (n:Nat):List Int:=(TE k (Nk k q) ((n+7) / 8)).take n
theorem Z3z (x:Int) (h:Gn x):UT [x]=some (num 8 x):=by
 rw[ZgL [x] (fun y q=>by rw[List.mem_singleton.1 q];exact h) (by simp)];simp
theorem Zsm (k s:Int) (n:Nat) (D:n<=100000):∀d i:Nat,i+d=(n+7) / 8->AU bI (.b1 k n s (TE k s i) i)=some ((TE k s ((n+7) / 8)).take n):=by
 intro d;induction d with
 | zero=>
  intro i A;obtain rfl:i=(n+7) / 8:=by omega
  have hl:=vU k s ((n+7) / 8);refine(Aj _ _).trans ?_;have z:decide ((n:Int)<=((8*((n+7) / 8):Nat):Int))=true:=decide_eq_true (by omega);simp(disch:=omega) only[bI,hl,z,List.drop_zero,Nat.sub_zero,DN,SL,SM]
 | succ d C=>
  intro i A;have hl:=vU k s i;refine(Aj _ _).trans ?_;have q:8*i<n:=by omega
  simp(disch:=omega) only[bI,hl,q,XY,Z3z _ (wI _ _),KN,DN,SL,SM];rw[wu64 (n:=(i:Int)+1) (by omega) (by omega)];exact C (i+1) (by omega)
theorem ZsX (k q:Int) (n:Nat) (z:n<=100000):Z1E k q n=some (Z41 k q n):=(Aj _ _).trans (by
 have e:AQ ((n:Int)+8)=((n+8:Nat):Int):=by rw[E8 (by omega) (by omega)];simp
 have h:decide ((0:Int)<=0/\(0:Int)<=((n+8:Nat):Int)/\Int.toNat ((n+8:Nat):Int)*1<=lim/\((n+8:Nat):Int)<=(↑maxLen:Int))=true:=
  decide_eq_true ⟨by decide,by omega,by rw[Int.toNat_natCast];exact Nat.le_trans (by omega) Us,by exact_mod_cast Nat.le_trans (show n+8<=1000000000 by omega) U6⟩
 simp only[bI,DN,XY,Option.bind_some,e];rw[h];exact Zsm k _ n z ((n+7) / 8) 0 (by omega))
theorem Zrl (k:Int) (hk:Gn k) (s:Int) (n:Nat) (I:n<=100000):∀d i:Nat,i+d=(n+7) / 8->AU Vq (.b1 k n (TE k s i) s i)=some ((TE k s ((n+7) / 8)).take n):=by
 intro d;induction d with
 | zero=>
  intro i F;obtain rfl:i=(n+7) / 8:=by omega
  have hl:=vU k s ((n+7) / 8);refine(Aj _ _).trans ?_;have z:decide ((n:Int)<=((8*((n+7) / 8):Nat):Int))=true:=decide_eq_true (by omega);have A:decide (0+n<=8*((n+7) / 8))=true:=decide_eq_true (by omega);have C:decide (n<=8*((n+7) / 8))=true:=decide_eq_true (by omega);simp(disch:=omega) only[Vq,hl,z,A,C,List.drop_zero,Nat.sub_zero,DN,SL,SM]
 | succ d G=>
  intro i F;have hl:=vU k s i;refine(Aj _ _).trans ?_;have q:8*i<n:=by omega
  have hm:=wI k (IntKind.wrap .u64 (s+i));have D:ND 8 (Nk k (IntKind.wrap .u64 (s+i)))=some ⟨num 8 (Nk k (IntKind.wrap .u64 (s+i)))⟩:=yL 8 (by decide) _ hm;simp(disch:=omega) only[Vq,hl,q,wu64 (n:=(i:Int)) (by omega) (by omega),uZ k _ hk (r64 _),D,KN,DN,SL,SM];exact G (i+1) (by omega)
theorem Zto (k:Int) (hk:Gn k) (q:Int) (A:Gn q) (n:Nat) (z:n<=100000):aV k q n=some (Z41 k q n):=(Aj _ _).trans (by
 simp only[Vq,uZ k _ hk A,DN,SL,SM];exact Zrl k hk _ n z ((n+7) / 8) 0 (by omega))
def Ej (a b:List Int):List Int:=List.zipWith (bits .xor .u8) a b
theorem Z3y (a b:List Int):(Ej a b).length=min a.length b.length:=List.length_zipWith
theorem ZG2 (ys:List Int) (i:Nat) (h:i<ys.length):(ys.take i++List.replicate (ys.length - i) (0:Int)).set i ys[i]=ys.take (i+1)++List.replicate (ys.length - (i+1)) 0:=by
 rw[show ys.length - i=(ys.length - (i+1))+1 by omega,List.replicate_succ,List.set_append_right _ _ (by rw[List.length_take];omega),List.length_take,Nat.min_eq_left (by omega),Nat.sub_self,List.set_cons_zero,List.take_add_one,List.getElem?_eq_getElem h,List.append_assoc];rfl
theorem Zrn (a b:List Int) (G:a.length<=100000):∀d i:Nat,i+d=(Ej a b).length->AU bK (.b1 a b ((Ej a b).take i++List.replicate ((Ej a b).length - i) 0) (Ej a b).length i)=some (Ej a b):=by
 have I:=Z3y a b;intro d;induction d with
 | zero=>
  intro i C;obtain rfl:i=(Ej a b).length:=by omega
  refine(Aj _ _).trans ?_;simp only[bK,Int.lt_irrefl,Nat.sub_self,List.replicate_zero,List.append_nil,List.take_length,DN,SL,SM]
 | succ d D=>
  intro i C;have q:i<(Ej a b).length:=by omega
  have z:i<a.length:=by omega
  have A:i<b.length:=by omega
  have hs:=ZG2 (Ej a b) i q;have hb:bits .xor .u8 a[i] b[i]=(Ej a b)[i]:=by simp only[Ej,List.getElem_zipWith]
  have hl:((Ej a b).take i++List.replicate ((Ej a b).length - i) (0:Int)).length=(Ej a b).length:=by
   rw[List.length_append,List.length_take,List.length_replicate];omega
  rw[<- D (i+1) (by omega)];refine(Aj _ _).trans ?_;generalize F:(Ej a b).take i++List.replicate ((Ej a b).length - i) (0:Int)=O at *;simp(disch:=omega) only[bK,DN,Int.natCast_nonneg,Int.ofNat_lt,q,z,A,Int.toNat_natCast,List.getElem?_eq_getElem,Option.bind_some,decide_true,cond_true,true_and,hl,beq_self_eq_true,Bool.true_and,Nat.zero_le,List.length_set,Ru,hb,hs]
theorem ZtE (a b:List Int) (q:a.length<=100000):Z1r a b=some (Ej a b):=(Aj _ _).trans (by
 have z:=Z3y a b;have e:(if (↑b.length:Int)<(↑a.length:Int) then (↑b.length:Int) else (↑a.length:Int))=((Ej a b).length:Int):=by rw[z];split<;>omega
 have h:decide (0<=((Ej a b).length:Int)/\((Ej a b).length:Int)<=((Ej a b).length:Int)/\(Ej a b).length*1<=lim/\((Ej a b).length:Int)<=(↑maxLen:Int))=true:=
  decide_eq_true ⟨by omega,by omega,Nat.le_trans (by omega) Us,by exact_mod_cast Nat.le_trans (show (Ej a b).length<=1000000000 by omega) U6⟩
 simp only[bK,DN,e,Int.toNat_natCast,h,cond_true,beq_self_eq_true,List.length_replicate];exact Zrn a b q _ 0 (Nat.zero_add _))
theorem ZA6 (a b:List Int) (G:a.length<=100000):∀d i:Nat,i+d=(Ej a b).length->AU U3 (.b1 a b ((Ej a b).take i) i)=some ⟨Ej a b⟩:=by
 have I:=Z3y a b;intro d;induction d with
 | zero=>
  intro i C;obtain rfl:i=(Ej a b).length:=by omega
  refine(Aj _ _).trans ?_;simp only[U3,DN,SL,SM]
  by_cases q:(Ej a b).length<a.length
  ·have z:¬(Ej a b).length<b.length:=by omega
   simp only[q,z,decide_true,decide_false,cond_true,cond_false,List.take_length]
  ·simp only[q,decide_false,cond_false,List.take_length]
 | succ d F=>
  intro i C;have A:i<(Ej a b).length:=by omega
  have q:i<a.length:=by omega
  have z:i<b.length:=by omega
  have hb:bits .xor .u8 a[i] b[i]=(Ej a b)[i]:=by simp only[Ej,List.getElem_zipWith]
  have hl:((Ej a b).take i).length=i:=by rw[List.length_take];omega
  have D:(Ej a b).take i++[(Ej a b)[i]]=(Ej a b).take (i+1):=by rw[List.take_add_one,List.getElem?_eq_getElem A];rfl
  refine(Aj _ _).trans ?_;simp(disch:=omega) only[U3,q,z,DN,SL,SM];refine(Aj _ _).trans ?_;simp(disch:=omega) only[U3,q,z,hl,hb,D,DN,SL,SM];exact F (i+1) (by omega)
theorem ZBd (a b:List Int) (q:a.length<=100000):fU a b=some ⟨Ej a b⟩:=(Aj _ _).trans (by
 simp only[U3,DN,SL,SM];exact ZA6 a b q _ 0 (Nat.zero_add _))
noncomputable def OQ (k q:Int) (z c:List Int):List Int:=num 4 (TF k (num 8 q++num 4 z.length++z++c))
theorem Zfm (k q:Int) (z c:List Int):(OQ k q z c).length=4:=KN _ _
theorem ZxH (k q:Int) (C:Gn q) (z c:List Int) (A:Bytes z) (hc:Bytes c) (hl:z.length<=1000) (hm:c.length<=50000):Z2K k q z c=some (OQ k q z c):=(Aj _ _).trans (by
 simp only[ZeF,Jy (n:=(z.length:Int)) (by omega) (by omega),wu64 (n:=(z.length:Int)) (by omega) (by omega),Z3z q C,DN,SL,SM];rw[Zil [⟨4,z.length⟩] (fun f hf=>by
  rw[List.mem_singleton.1 hf];exact⟨show (1:Int)<=4 by decide,show (4:Int)<=8 by decide,show (0:Int)<=z.length by omega,show (z.length:Int)<4294967296 by omega⟩) (by simp[Ug,KN]) (by simp)]
 simp only[Option.bind_some,List.flatMap_cons,List.flatMap_nil,List.append_nil,Ug,show Int.toNat 4=4 from rfl];rw[jR _ (by simp[KN];omega) (by simp)];simp only[Option.bind_some,List.flatten_cons,List.flatten_nil,List.append_nil];rw[Zi6 k _ ((U5 _ _).app ((U5 _ _).app (A.app hc))) (by simp[KN];omega)];simp only[Option.bind_some];rw[Z3z _ (Z43 _ _)];simp only[Option.bind_some,KN];rw[show decide ((0:Int)<=4/\(4:Int)<=((8:Nat):Int))=true from rfl];simp only[cond_true,List.drop_zero,show Int.toNat 4 - 0=4 from rfl,ZDn 4 8 _ (by decide),OQ,List.append_assoc])
theorem ZBy (k:Int) (hk:Gn k) (q:Int) (I:Gn q) (z c:List Int) (D:Bytes z) (hc:Bytes c) (hl:z.length<=1000) (hm:c.length<=50000):fQ k q z c=some (OQ k q z c):=(Aj _ _).trans (by
 have C:ND 8 q=some ⟨num 8 q⟩:=yL 8 (by decide) _ I;have A:ND 4 z.length=some ⟨num 4 z.length⟩:=yL 4 (by decide) _ ⟨by omega,by omega⟩;have F:qY q z c=some ⟨num 8 q++num 4 z.length++z++c⟩:=(Aj _ _).trans (by
  simp(disch:=omega) only[Z1S,wu64 (n:=(z.length:Int)) (by omega) (by omega),C,A,KN,DN,SL,SM])
 have G:ND 4 (TF k (num 8 q++num 4 z.length++z++c))=some ⟨num 4 (TF k (num 8 q++num 4 z.length++z++c))⟩:=yL 4 (by decide) _ (Z43 _ _);simp only[Z2Z,F,DN,SL,SM];rw[ZB6 k hk _ ((((U5 _ _).app (U5 _ _)).app D).app hc) (by simp[KN];omega)];simp only[Option.bind_some,G,OQ])
def bt (a:Int):Bool:=bif a==0 then true else a==1
theorem ZGA (a:Int):aP a=some (bt a):=(Aj _ _).trans (by
 simp only[Zbt,DN];unfold bt;cases (a==0)<;>rfl)
theorem ZHg (a:Int):Wi a=some (bt a):=(Aj _ _).trans (by
 simp only[Z3e,DN];unfold bt;cases (a==0)<;>rfl)
def Xv (x:Az):Int:=bif decide (x.Bz<1) then 12 else bif decide (x.Bz>3) then 12 else bif (((x.Payload.length:Nat):Int)==0)&&(x.Bz != 1) then 1 else bif decide (((x.Payload.length:Nat):Int)>255) then 4 else 0
def O0 (p:BM):Int:=bif !(bt p.SN) then 5 else bif !(bt p.EI) then 5 else bif !(bt p.MD) then 5 else Xv p.Aw
theorem ZEf (n:Int):AU RS (.b3 n)=some (bif decide (n>255) then 4 else 0):=(Aj _ _).trans (by
 simp only[RS,DN];cases decide (n>255)<;>rfl)
theorem ZEI (p:BM):AU RS (.b1 ((p.Aw.Payload.length:Nat):Int) p)=some (Xv p.Aw):=(Aj _ _).trans (by
 have q:AU RS (.b2 ((p.Aw.Payload.length:Nat):Int) p)=some (bif (((p.Aw.Payload.length:Nat):Int)==0)&&(p.Aw.Bz != 1) then 1 else bif decide (((p.Aw.Payload.length:Nat):Int)>255) then 4 else 0):=(Aj _ _).trans (by
  simp only[RS,DN,ZEf];cases (((p.Aw.Payload.length:Nat):Int)==0)<;>cases (p.Aw.Bz != 1)<;>rfl)
 simp only[RS,DN,q];unfold Xv;cases decide (p.Aw.Bz<1)<;>cases decide (p.Aw.Bz>3)<;>rfl)
theorem Z9m (p:BM):nY p=some (O0 p):=(Aj _ _).trans (by
 simp only[RS,DN,ZGA,Option.bind_some,ZEI];unfold O0;cases bt p.SN<;>cases bt p.EI<;>cases bt p.MD<;>rfl)
theorem Zov (x:Az):nI x=some (Xv x):=(Aj _ _).trans (by
 have z:AU UH (.b2 x)=some (bif decide (((x.Payload.length:Nat):Int)>255) then 4 else 0):=(Aj _ _).trans (by
  simp only[UH,DN];cases decide (((x.Payload.length:Nat):Int)>255)<;>rfl)
 have q:AU UH (.b1 x)=some (bif (((x.Payload.length:Nat):Int)==0)&&(x.Bz != 1) then 1 else bif decide (((x.Payload.length:Nat):Int)>255) then 4 else 0):=(Aj _ _).trans (by
  simp only[UH,DN,z];cases (((x.Payload.length:Nat):Int)==0)<;>cases (x.Bz != 1)<;>rfl)
 simp only[UH,DN,q];unfold Xv;cases decide (x.Bz<1)<;>cases decide (x.Bz>3)<;>rfl)
theorem ZdC (p:BM):QE p=some (O0 p):=(Aj _ _).trans (by
 have q:AU dR (.b1 p)=some (Xv p.Aw):=(Aj _ _).trans (by
  simp only[dR,DN,Zov,Option.bind_some])
 simp only[dR,DN,ZHg,Option.bind_some,q];unfold O0;cases bt p.SN<;>cases bt p.EI<;>cases bt p.MD<;>rfl)
theorem Zgx (x:Az):Vb x=some (bif x.Bz==1 then ((x.Payload.length:Nat):Int)==0 else false):=(Aj _ _).trans (by
 simp only[Z0A,DN];cases (x.Bz==1)<;>rfl)
theorem Zwk (x:Az):UU x=some (bif x.Bz==1 then ((x.Payload.length:Nat):Int)==0 else false):=(Aj _ _).trans (by
 simp only[Z21,DN];cases (x.Bz==1)<;>rfl)
theorem ZhI (p:BM) (l:List Int):oN p l=some ({ p with Aw:=⟨p.Aw.Bz,l⟩ }:BM):=(Aj _ _).trans rfl
theorem Zzz (p:BM) (l:List Int):fH p l=some ({ p with Aw:=⟨p.Aw.Bz,l⟩ }:BM):=(Aj _ _).trans rfl
theorem ZEg (s:Bq):Z0y s=some (bif s.CB==1 then (1,0) else (0,1)):=(Aj _ _).trans (by
 simp only[Z9l,DN];cases (s.CB==1)<;>rfl)
theorem ZDm (c:Int) (w:RY) (d:Int):ZW c w d=some (bits .xor .u64 w.CZ (IntKind.wrap .u64 ((IntKind.wrap .u64 ((2:Int)*c))+d))):=(Aj _ _).trans rfl
theorem ZEX (s:Bq) (d:Int):Z0D s d=some ⟨s,d⟩:=(Aj _ _).trans rfl
noncomputable def Ib (c:AO):List Int:=((qG c).getD ([],0)).1
theorem Zgy (x y:Nat):(x ^^^ y) / 2=x / 2 ^^^ y / 2:=by
 apply Nat.eq_of_testBit_eq;intro i;rw[Nat.testBit_xor];simp only[Nat.testBit_div_two];rw[Nat.testBit_xor]
theorem ZEn (x y:Nat):(x ^^^ y) % 2=(x % 2+y % 2) % 2:=by
 have h:=Nat.xor_mod_two_pow (a:=x) (b:=y) (n:=1);rw[Nat.pow_one]at h;rw[h];rcases Nat.mod_two_eq_zero_or_one x with hx|hx<;>rcases Nat.mod_two_eq_zero_or_one y with hy|hy<;>simp only[hx,hy]<;>rfl
def Jc (x:Nat):Nat:=if x % 2=1 then x / 2 ^^^ 14311424 else x / 2
theorem Zf3 (x y:Nat):Jc (x ^^^ y)=Jc x ^^^ Jc y:=by
 unfold Jc;rw[Zgy,ZEn];rcases Nat.mod_two_eq_zero_or_one x with hx|hx<;>rcases Nat.mod_two_eq_zero_or_one y with hy|hy<;>simp only[hx,hy]<;>simp
 ·rw[Nat.xor_assoc]
 ·rw[Nat.xor_assoc,Nat.xor_assoc,Nat.xor_comm (y / 2)]
 ·rw[Nat.xor_assoc,Nat.xor_comm 14311424,Nat.xor_assoc,Nat.xor_self,Nat.xor_zero]
theorem ZfF (x:Nat):Jc (2*x)=x:=by
 unfold Jc;rw[if_neg (by omega)];omega
def step4 (x:Nat):Nat:=Jc (Jc (Jc (Jc x)))
theorem ZCr (x y:Nat):step4 (x ^^^ y)=step4 x ^^^ step4 y:=by
 unfold step4;simp only[Zf3]
theorem ZDC (x:Nat):step4 (16*x)=x:=by
 unfold step4;rw[show 16*x=2*(2*(2*(2*x))) by omega];simp only[ZfF]
theorem ZEQ (x:Nat):16*(x / 16) ^^^ x % 16=x:=by
 apply Nat.eq_of_testBit_eq;intro i;rw[Nat.testBit_xor,show 16=2 ^ 4 from rfl,Nat.testBit_two_pow_mul,Nat.testBit_mod_two_pow,Nat.testBit_div_two_pow]
 by_cases h:4<=i
 ·have e:i - 4+4=i:=by omega
  simp[h,e,Nat.not_lt.2 h]
 ·simp[h,Nat.lt_of_not_le h]
theorem ZC2 (x:Nat):step4 x=x / 16 ^^^ step4 (x % 16):=by
 conv=>lhs;rw[<- ZEQ x,ZCr,ZDC]
def fb (r b:Nat):Nat:=Jc (r ^^^ b)
theorem fb4 (r v:Nat) (q:v<16):fb (fb (fb (fb r (v % 2)) (v / 2 % 2)) (v / 4 % 2)) (v / 8 % 2)=step4 (r ^^^ v):=by
 have hs:∀z b,Jc z ^^^ b=Jc (z ^^^ 2*b):=fun z b=>by rw[Zf3,ZfF]
 unfold fb step4;rw[hs,hs,hs,hs,hs,hs];have:v % 2 ^^^ 2*(v / 2 % 2) ^^^ 2*(2*(v / 4 % 2)) ^^^ 2*(2*(2*(v / 8 % 2)))=v:=by
  have:∀v:Fin 16,v.val % 2 ^^^ 2*(v.val / 2 % 2) ^^^ 2*(2*(v.val / 4 % 2)) ^^^ 2*(2*(2*(v.val / 8 % 2)))=v.val:=by decide +kernel
  exact this ⟨v,q⟩
 rw[Nat.xor_assoc,Nat.xor_assoc,Nat.xor_assoc,<- Nat.xor_assoc (v % 2),<- Nat.xor_assoc (v % 2 ^^^ _),this]
theorem iV (x:Nat) (h:x<16777216):Jc x<16777216:=by
 unfold Jc;split
 ·exact Nat.xor_lt_two_pow (n:=24) (by omega) (by decide)
 ·omega
theorem Z3O {x y:Nat} (h:x<16777216) (q : y<16777216):x ^^^ y<16777216:=Nat.xor_lt_two_pow (n:=24) h q
theorem FH {x b:Nat} (h:x<16777216) (hb:b<2):fb x b<16777216:=iV _ (Z3O h (by omega))
def Qu (r v:Nat):Nat:=fb (fb (fb (fb (fb (fb (fb (fb r (v % 2)) (v / 2 % 2)) (v / 4 % 2)) (v / 8 % 2)) (v / 16 % 2)) (v / 32 % 2)) (v / 64 % 2)) (v / 128 % 2)
theorem ZIo (r v:Nat) (A:v<256):Qu r v=step4 (step4 (r ^^^ v % 16) ^^^ v / 16):=by
 have q:=fb4 r (v % 16) (by omega);have z:=fb4 (step4 (r ^^^ v % 16)) (v / 16) (by omega);rw[show v % 16 % 2=v % 2 by omega,show v % 16 / 2 % 2=v / 2 % 2 by omega,show v % 16 / 4 % 2=v / 4 % 2 by omega,show v % 16 / 8 % 2=v / 8 % 2 by omega]at q;rw[<- q,show v / 16 / 2=v / 32 by omega,show v / 16 / 4=v / 64 by omega,show v / 16 / 8=v / 128 by omega,q]at z;unfold Qu;rw[q];exact z
theorem ZEh (t:Nat) (h:t<16):([0,1788928,3577856,3003392,7155712,7764992,6006784,4252672,14311424,12659712,15529984,16233472,12013568,11279360,8505344,10126336]:List Int)[t]? = some ((step4 t:Nat):Int):=by
 have:∀t:Fin 16,([0,1788928,3577856,3003392,7155712,7764992,6006784,4252672,14311424,12659712,15529984,16233472,12013568,11279360,8505344,10126336]:List Int)[t.val]? = some ((step4 t.val:Nat):Int):=by decide +kernel
 exact this ⟨t,h⟩
theorem and15 (a:Nat) (h:a<4294967296):bits .and .u32 (a:Int) 15=((a % 16:Nat):Int):=by
 rw[show (15:Int)=((15:Nat):Int) from rfl,(bits_nat .u32 32 (by decide) wraps_u32 a 15 h (by decide)).1,show 15=2 ^ 4 - 1 from rfl,Nat.and_two_pow_sub_one_eq_mod]
theorem andM (a:Nat) (h:a<4294967296):bits .and .u32 (a:Int) 16777215=((a % 16777216:Nat):Int):=by
 rw[show (16777215:Int)=((16777215:Nat):Int) from rfl,(bits_nat .u32 32 (by decide) wraps_u32 a 16777215 h (by decide)).1,show 16777215=2 ^ 24 - 1 from rfl,Nat.and_two_pow_sub_one_eq_mod]
theorem yG (a j:Nat):Int.fdiv (a:Int) (2 ^ j)=((a / 2 ^ j:Nat):Int):=by
 rw[show (2:Int) ^ j=((2 ^ j:Nat):Int) by simp];exact(Int.ofNat_fdiv a (2 ^ j)).symm
theorem Zg9 (x:Nat) (h:x<16777216):step4 x<16777216:=iV _ (iV _ (iV _ (iV _ h)))
theorem tab (r w:Nat) (q:w<16):r / 16 ^^^ step4 ((r ^^^ w) % 16)=step4 (r ^^^ w):=by
 conv=>rhs;rw[ZC2]
 congr 1;have:=Nat.xor_div_two_pow (a:=r) (b:=w) (n:=4);rw[show (2:Nat) ^ 4=16 from rfl,Nat.div_eq_of_lt q,Nat.xor_zero]at this;exact this.symm
theorem ZFF (r w:Nat):(r ^^^ w) % 16=(r ^^^ w % 16) % 16:=by
 have q:=Nat.xor_mod_two_pow (a:=r) (b:=w) (n:=4);have z:=Nat.xor_mod_two_pow (a:=r) (b:=w % 16) (n:=4);rw[show (2:Nat) ^ 4=16 from rfl]at q z;rw[q,z,Nat.mod_mod]
theorem half (n w:Nat) (q:n<16777216) (z:w<256) :
  bits .and .u32 (bits .xor .u32 (n:Int) (w:Int)) 15=(((n ^^^ w) % 16:Nat):Int)/\bits .xor .u32 (Int.fdiv (n:Int) (2 ^ 4)) ((step4 ((n ^^^ w) % 16):Nat):Int)=((step4 (n ^^^ w % 16):Nat):Int):=by
 have A:n ^^^ w<16777216:=Z3O q (by omega);refine⟨?_,?_⟩
 ·rw[u32_xor_nat n w (by omega) (by omega),and15 _ (by omega)]
 ·have:=Zg9 ((n ^^^ w) % 16) (by omega);rw[yG,u32_xor_nat _ _ (by omega) (by omega),show n / 2 ^ 4=n / 16 from rfl,ZFF,tab n (w % 16) (by omega)]
theorem in16 (t:Nat) (h:t<16):decide ((0:Int)<=(t:Int)/\(t:Int)<16)=true:=decide_eq_true (by omega)
theorem Zzx (n v:Nat) (q:n<16777216) (z:v<256):tN (n:Int) (v:Int)=some ((Qu n v:Nat):Int):=(Aj _ _).trans (by
 obtain⟨A,C⟩:=half n v q z;have hl:n ^^^ v % 16<16777216:=Z3O q (by omega);obtain⟨b1,b2⟩:=half (step4 (n ^^^ v % 16)) (v / 16) (Zg9 _ hl) (by omega);have D:=Jy (n:=(v:Int)) (by omega) (by omega);have F:=Jy (n:=((v / 16:Nat):Int)) (by omega) (by omega);have G:Int.fdiv (v:Int) (2 ^ 4)=((v / 16:Nat):Int):=yG v 4;rw[show v / 16 % 16=v / 16 by omega,<- ZIo n v z]at b2;simp only[ZdS,DN,D,F,G,A,in16 _ (Nat.mod_lt _ (by decide)),cond_true,Int.toNat_natCast,ZEh _ (Nat.mod_lt _ (by decide)),Option.bind_some,C,b1,b2])
theorem Z4j {n v:Nat} (z:n<16777216):Qu n v<16777216:=by
 have q:∀x,x % 2<2:=fun x=>Nat.mod_lt _ (by decide);exact FH (FH (FH (FH (FH (FH (FH (FH z (q _)) (q _)) (q _)) (q _)) (q _)) (q _)) (q _)) (q _)
def Qp (r:Nat) (xs:List Int):Nat:=xs.foldl (fun r x=>Qu r x.toNat) r
theorem ZgV {r:Nat} (xs:List Int) (h:r<16777216):Qp r xs<16777216:=by
 induction xs generalizing r with
 | nil=>exact h
 | cons x xs q=>exact q (Z4j h)
theorem ZxU (n:Nat) (x:Int) (q:n<16777216) (z:0<=x/\x<256):tN (n:Int) x=some ((Qu n x.toNat:Nat):Int):=by
 have:=Zzx n x.toNat q (by omega);rwa[Int.toNat_of_nonneg z.1]at this
theorem ZAW (r:Int) (z:0<=r/\r<4294967296) (xs:List Int) (hb:Bytes xs) (hl:xs.length<=100000):Z3h r xs=some ((Qp (r.toNat % 16777216) xs:Nat):Int):=(Aj _ _).trans (by
 obtain⟨n,rfl⟩:=Int.eq_ofNat_of_zero_le z.1;simp only[gU,DN,andM n (by omega),Int.toNat_natCast];exact(uT (fun(s:Nat) i=>AU gU (.b1 (s:Int) xs (xs.length:Int) i)) xs (fun r x=>Qu r x.toNat) (fun s=>some (s:Int)) (fun _ s=>s<16777216)
  (fun i s q hs=>⟨(Aj _ _).trans (by
   simp(disch:=omega) only[gU,q,ZxU s _ hs (hb.get i q),DN,SL,SM]),Z4j hs⟩)
  (fun s _=>(Aj _ _).trans (by simp only[gU,Int.lt_irrefl,DN,SL,SM])) _ (Nat.mod_lt _ (by decide))).1)
theorem ZxE (n b:Nat) (J:n<16777216) (hb:b<2):sZ (n:Int) (b:Int)=some ((fb n b:Nat):Int):=(Aj _ _).trans (by
 have z:Int.tmod (n:Int) 2=((n % 2:Nat):Int):=(Int.ofNat_tmod n 2).symm;have A:Int.tdiv (n:Int) 2=((n / 2:Nat):Int):=(Int.ofNat_tdiv n 2).symm;have q:(n ^^^ b) % 2=n % 2 ^^^ b:=by
  have:=Nat.xor_mod_two_pow (a:=n) (b:=b) (n:=1);rwa[Nat.pow_one,Nat.mod_eq_of_lt hb]at this
 have C:(n ^^^ b) / 2=n / 2:=by rw[Zgy,Nat.div_eq_of_lt hb,Nat.xor_zero]
 have I:n % 2 ^^^ b<2:=by rw[<- q];omega
 have D:=u32_xor_nat (n % 2) b (by omega) (by omega);have F:=u32_xor_nat (n / 2) 14311424 (by omega) (by decide);have G:=Jy (n:=((n / 2:Nat):Int)) (by omega) (by omega);simp only[Z2v,DN,z,A,D,G];unfold fb Jc;rw[q,C]
 by_cases h:n % 2 ^^^ b=1
 ·rw[if_pos h,h];exact congrArg some F
 ·rw[if_neg h,show n % 2 ^^^ b=0 by omega];rfl)
theorem Rl (xs:List Int) (s:Nat) (i:Int) (v k:Nat) (hs:s<16777216) (F:v<4294967296) (hk:k<8) :
  AU NC (.b2 xs (s:Int) i (v:Int) (k:Int))=AU NC (.b2 xs ((fb s (v % 2):Nat):Int) i ((v / 2:Nat):Int) ((k+1:Nat):Int)):=(Aj _ _).trans (by
 have z:Int.tmod (v:Int) 2=((v % 2:Nat):Int):=(Int.ofNat_tmod v 2).symm;have A:Int.tdiv (v:Int) 2=((v / 2:Nat):Int):=(Int.ofNat_tdiv v 2).symm;have C:=Jy (n:=((v / 2:Nat):Int)) (by omega) (by omega);have D:decide ((k:Int)<8)=true:=decide_eq_true (by omega);have q:=Ru k (by omega);simp only[NC,DN,z,A,C,D,q,ZxE s (v % 2) hs (Nat.mod_lt _ (by decide)),cond_true,Option.bind_some])
theorem ZAa (xs:List Int) (s i v:Nat) (hs:s<16777216) (C:v<256) (A:i<1000000) :
  AU NC (.b2 xs (s:Int) (i:Int) (v:Int) ((0:Nat):Int))=AU NC (.b1 xs ((Qu s v:Nat):Int) ((i+1:Nat):Int)):=by
 have q:∀x,x % 2<2:=fun x=>Nat.mod_lt _ (by decide);rw[Rl _ _ _ _ _ hs (by omega) (by omega),Rl _ _ _ _ _ (FH hs (q _)) (by omega) (by omega),Rl _ _ _ _ _ (FH (FH hs (q _)) (q _)) (by omega) (by omega),
  Rl _ _ _ _ _ (FH (FH (FH hs (q _)) (q _)) (q _)) (by omega) (by omega),Rl _ _ _ _ _ (FH (FH (FH (FH hs (q _)) (q _)) (q _)) (q _)) (by omega) (by omega),
  Rl _ _ _ _ _ (FH (FH (FH (FH (FH hs (q _)) (q _)) (q _)) (q _)) (q _)) (by omega) (by omega),
  Rl _ _ _ _ _ (FH (FH (FH (FH (FH (FH hs (q _)) (q _)) (q _)) (q _)) (q _)) (q _)) (by omega) (by omega),
  Rl _ _ _ _ _ (FH (FH (FH (FH (FH (FH (FH hs (q _)) (q _)) (q _)) (q _)) (q _)) (q _)) (q _)) (by omega) (by omega)]
 have e:∀a b:Nat,v / a / b=v / (a*b):=fun a b=>Nat.div_div_eq_div_mul v a b;simp only[e,Nat.reduceMul,Nat.reduceAdd];refine(Aj _ _).trans ?_;have z:decide (((8:Nat):Int)<8)=false:=by decide
 simp only[NC,DN,z,cond_false,Ru i (by omega)];rfl
theorem ZAO (r:Int) (C:0<=r/\r<4294967296) (xs:List Int) (hb:Bytes xs) (hl:xs.length<=100000):iC r xs=some ((Qp (r.toNat % 16777216) xs:Nat):Int):=(Aj _ _).trans (by
 obtain⟨n,rfl⟩:=Int.eq_ofNat_of_zero_le C.1;have A:Int.tmod (n:Int) 16777216=((n % 16777216:Nat):Int):=(Int.ofNat_tmod n 16777216).symm;simp only[NC,DN,A,Int.toNat_natCast];exact(uT (fun(s:Nat) i=>AU NC (.b1 xs (s:Int) i)) xs (fun r x=>Qu r x.toNat) (fun s=>some (s:Int)) (fun _ s=>s<16777216)
  (fun i s q hs=>⟨(Aj _ _).trans (by
   have z:=hb.get i q;have h:=ZAa xs s i xs[i].toNat hs (by omega) (by omega);rw[Int.toNat_of_nonneg z.1]at h;simp(disch:=omega) only[NC,q,Jy z.1 (by omega),DN,SL,SM];exact h),Z4j hs⟩)
  (fun s _=>(Aj _ _).trans (by simp only[NC,Int.lt_irrefl,DN,SL,SM])) _ (Nat.mod_lt _ (by decide))).1)
def Ll (n:Nat):List Int:=[((n % 256:Nat):Int),((n / 256 % 256:Nat):Int),((n / 65536:Nat):Int)]
theorem ZwI {n:Nat} (h:n<16777216):Bytes (Ll n):=by
 unfold Ll;exact Bytes.cons (by omega) (Bytes.cons (by omega) (Bytes.cons (by omega) Bytes.nil))
def Qq (r:Int) (xs:List Int):List Int:=xs++Ll (Qp (r.toNat % 16777216) xs)
theorem Zti (r:Int) (z:0<=r/\r<4294967296) (xs:List Int) (hb:Bytes xs) (hl:xs.length<=100000):Z1m r xs=some (Qq r xs):=(Aj _ _).trans (by
 have hs:=ZgV (r:=r.toNat % 16777216) xs (Nat.mod_lt _ (by decide));have hc:Jk xs=some ⟨xs⟩:=by
  have:=Us;have:=U6;unfold Jk;rw[if_pos ⟨by omega,by omega⟩]
 unfold Qq;generalize q:Qp (r.toNat % 16777216) xs=n at hs;have e:[IntKind.wrap .u8 (n:Int),IntKind.wrap .u8 (Int.fdiv (n:Int) (2 ^ 8)),IntKind.wrap .u8 (Int.fdiv (n:Int) (2 ^ 16))]=Ll n:=by
  rw[yG,yG,IntKind.wrap_u8,IntKind.wrap_u8,IntKind.wrap_u8];unfold Ll;simp only[List.cons.injEq,and_true];refine⟨by omega,by omega,by omega⟩
 simp(disch:=omega) only[Zc9,ZAW r z xs hb hl,q,hc,e,DN,SL,SM,Ll])
theorem bytes5:∀xs:List Int,Le.bytesOf (xs.map (U.enc 5))=some (xs.map fun x=>UInt8.ofNat x.toNat)
 | []=>rfl
 | x::xs=>by
  show (match Le.byteOf (U.enc 5 x),Le.bytesOf (xs.map (U.enc 5)) with|some b,some q=>some (b::q)|_,_=>none)=_;rw[bytes5 xs];rfl
theorem Xm (xs:List Int) (h:xs.length<=1000000):NG U 5 xs=true:=by
 unfold NG;rw[bytes5];exact decide_eq_true (by rw[List.length_map];exact Nat.le_trans (Nat.le_trans h (by decide)) (by decide:1000000000<=maxLen))
theorem ZhZ:∀{xs ys:List Int},Bytes xs->Bytes ys->xs.map (fun x=>UInt8.ofNat x.toNat)=ys.map (fun x=>UInt8.ofNat x.toNat)->xs=ys
 | [],[],_,_,_=>rfl
 | [],y::ys,_,_,h=>by cases h
 | x::xs,[],_,_,h=>by cases h
 | x::xs,y::ys,q,A,h=>by
  simp only[List.map_cons,List.cons.injEq]at h;obtain⟨C,D⟩:=h;have a:=q x List.mem_cons_self;have b:=A y List.mem_cons_self;have e:=congrArg UInt8.toNat C;simp only[UInt8.toNat_ofNat']at e;rw[Nat.mod_eq_of_lt (by omega),Nat.mod_eq_of_lt (by omega)]at e;rw[ZhZ (fun z hz=>q z (List.mem_cons_of_mem _ hz)) (fun z hz=>A z (List.mem_cons_of_mem _ hz)) D];congr 1;omega
theorem str_eq {xs ys:List Int} (A:Bytes xs) (C:Bytes ys):((strOf U 5 xs).toList==(strOf U 5 ys).toList)=decide (xs=ys):=by
 have e:∀z:List Int,strOf U 5 z=⟨(z.map fun x=>UInt8.ofNat x.toNat).toArray⟩:=fun z=>by unfold strOf;rw[bytes5];rfl
 have k:∀l:List UInt8,(ByteArray.mk l.toArray).toList=l:=fun l=>by simp
 rw[e,e,k,k]
 by_cases h:xs=ys
 ·rw[h];simp
 ·rw[decide_eq_false h,beq_eq_false_iff_ne];exact fun q=>h (ZhZ A C q)
theorem v_EqB (xs ys:List Int) (hl:xs.length<=100000) (C:xs.length=ys.length):Zk xs ys=some (decide (xs=ys)):=(Aj _ _).trans (by
 have key:∀d i:Nat,i+d=xs.length->AU V4 (.b1 xs ys (xs.length:Nat) i)=some (decide (xs.drop i=ys.drop i)):=by
  intro d;induction d with
  | zero=>
   intro i D;obtain rfl:i=xs.length:=by omega
   refine(Aj _ _).trans ?_;rw[show ys.drop xs.length=[] by rw[C,List.drop_length],List.drop_length];simp(disch:=omega) only[V4,Int.lt_irrefl,DN,SL,SM]
  | succ d G=>
   intro i D;have z:i<xs.length:=by omega
   have A:i<ys.length:=by omega
   refine(Aj _ _).trans ?_;have e:decide (xs.drop i=ys.drop i)=(decide (xs[i]=ys[i])&&decide (xs.drop (i+1)=ys.drop (i+1))):=by
    rw[List.drop_eq_getElem_cons z,List.drop_eq_getElem_cons A,<- Bool.decide_and,decide_eq_decide,List.cons.injEq]
   rw[e]
   by_cases q:xs[i]=ys[i]
   ·rw[decide_eq_true q,Bool.true_and,<- G (i+1) (by omega)];simp(disch:=omega) only[V4,z,A,q,bne_self_eq_false,DN,SL,SM]
   ·have F:(xs[i] != ys[i])=true:=by simpa using q
    rw[decide_eq_false q,Bool.false_and];simp(disch:=omega) only[V4,z,A,F,DN,SL,SM]
 simp only[V4,C,bne_self_eq_false,DN,SL,SM];have:=key xs.length 0 (by omega);rw[List.drop_zero,List.drop_zero]at this;rw[<- C];exact this)
def Xo (r:Int) (b:List Int):List Int×Int:=bif decide (b.length<3) then ([],3) else bif decide (Qq r (b.take (b.length - 3))=b) then (b.take (b.length - 3),0) else ([],10)
theorem Zgp {b:List Int} (h:¬b.length<3) (hl:b.length<=90000) :
  AQ ((b.length:Int) - 3)=((b.length - 3:Nat):Int)/\(b.drop 0).take (b.length - 3 - 0)=b.take (b.length - 3)/\decide (((b.length - 3:Nat):Int)<=(b.length:Int))=true/\decide (((b.length - 3:Nat):Int)<0)=false/\(b.drop (b.length - 3)).take (b.length - (b.length - 3))=b.drop (b.length - 3):=by
 refine⟨by rw[E8 (by omega) (by omega)];omega,by rw[Nat.sub_zero,List.drop_zero],decide_eq_true (by omega),decide_eq_false (by omega),List.take_of_length_le (by rw[List.length_drop];omega)⟩
theorem ZwV (r:Int) (F:0<=r/\r<4294967296) (b:List Int) (hb:Bytes b) (hl:b.length<=90000):qX r b=some (Xo r b):=(Aj _ _).trans (by
 unfold Xo
 by_cases h:b.length<3
 ·have e:decide (AQ ((b.length:Int) - 3)<0)=true:=decide_eq_true (by rw[E8 (by omega) (by omega)];omega);rw[decide_eq_true h];simp only[Z1K,e,DN,SL,SM]
 ·obtain⟨z,A,C,D,_⟩:=Zgp h hl;rw[decide_eq_false h];have hc:=Zti r F (b.take (b.length - 3)) (hb.take _) (by rw[List.length_take];omega);have q:(Qq r (b.take (b.length - 3))).length=b.length:=by simp[Qq,Ll];omega
  simp only[Z1K,z,A,C,D,hc,v_EqB _ b (by rw[q];omega) q,Zg4 (b.take (b.length - 3)) (by rw[List.length_take];omega),DN,SL,SM];cases decide (Qq r (b.take (b.length - 3))=b)<;>rfl)
theorem ZxV (n:Nat) (h:n<16777216):eQ (n:Int)=some (Ll n):=(Aj _ _).trans (by
 have q:Int.tmod (n:Int) 256=((n % 256:Nat):Int):=(Int.ofNat_tmod n 256).symm;have z:Int.tdiv (n:Int) 256=((n / 256:Nat):Int):=(Int.ofNat_tdiv n 256).symm;have A:Int.tdiv (n:Int) 65536=((n / 65536:Nat):Int):=(Int.ofNat_tdiv n 65536).symm;have C:=Jy (n:=((n / 256:Nat):Int)) (by omega) (by omega);have D:=Jy (n:=((n / 65536:Nat):Int)) (by omega) (by omega);have F:Int.tmod ((n / 256:Nat):Int) 256=((n / 256 % 256:Nat):Int):=(Int.ofNat_tmod _ 256).symm;simp only[Z2J,q,z,A,C,D,F,Xx (n:=((n % 256:Nat):Int)) (by omega) (by omega),Xx (n:=((n / 256 % 256:Nat):Int)) (by omega) (by omega),Xx (n:=((n / 65536:Nat):Int)) (by omega) (by omega),DN,SL,SM];rfl)
theorem Zwx (r:Int) (N:0<=r/\r<4294967296) (b:List Int) (hb:Bytes b) (hl:b.length<=90000):qP r b=some (Xo r b):=(Aj _ _).trans (by
 unfold Xo
 by_cases h:b.length<3
 ·have e:decide (AQ ((b.length:Int) - 3)<0)=true:=decide_eq_true (by rw[E8 (by omega) (by omega)];omega);rw[decide_eq_true h];simp only[rP,e,DN,SL,SM]
 ·obtain⟨D,F,G,I,J⟩:=Zgp h hl;rw[decide_eq_false h];have hs:=ZgV (r:=r.toNat % 16777216) (b.take (b.length - 3)) (Nat.mod_lt _ (by decide));have M:(Qq r (b.take (b.length - 3))=b)↔(b.drop (b.length - 3)=Ll (Qp (r.toNat % 16777216) (b.take (b.length - 3)))):=by
   have q:=List.take_append_drop (b.length - 3) b;unfold Qq;constructor
   ·intro A;have:b.take (b.length - 3)++Ll (Qp (r.toNat % 16777216) (b.take (b.length - 3)))=b.take (b.length - 3)++b.drop (b.length - 3):=A.trans q.symm;exact(List.append_cancel_left this).symm
   ·intro A;rw[<- A];exact q
  have O:(Ll (Qp (r.toNat % 16777216) (b.take (b.length - 3)))).length<=1000000:=by unfold Ll;simp
  have C:(b.take (b.length - 3)).length<=90000:=by rw[List.length_take];omega
  have k1:decide ((b.take (b.length - 3)).length*1<=lim)=true:=decide_eq_true (Nat.le_trans (by omega) (by decide:90000<=lim));have k2:decide ((b.take (b.length - 3)).length<=maxLen)=true:=decide_eq_true (Nat.le_trans C (by decide:90000<=maxLen));have z:=ZAO r N (b.take (b.length - 3)) (hb.take _) (by omega);simp only[rP,D,F,G,I,J,z,ZxV _ hs,Xm (b.drop (b.length - 3)) (by rw[List.length_drop];omega),Xm _ O,str_eq (hb.drop (b.length - 3)) (ZwI hs),k1,k2,List.nil_append,DN,SL,SM];rw[decide_eq_decide.2 M];cases decide (b.drop (b.length - 3)=Ll (Qp (r.toNat % 16777216) (b.take (b.length - 3))))<;>rfl)
theorem hd_of:∀k:Fin 256,((Int.fdiv ((k.val:Nat):Int) (2 ^ 5) != 0)=decide (32<=k.val))/\AQ (bits .and .u8 ((k.val:Nat):Int) 3)=((k.val % 4:Nat):Int) /\
  AQ (bits .and .u8 (Int.fdiv ((k.val:Nat):Int) (2 ^ (min (Int.toNat 3) (IntKind.bits .u8)))) 1)=((k.val / 8 % 2:Nat):Int)/\AQ (bits .and .u8 (Int.fdiv ((k.val:Nat):Int) (2 ^ (min (Int.toNat 2) (IntKind.bits .u8)))) 1)=((k.val / 4 % 2:Nat):Int) /\
  AQ (bits .and .u8 (Int.fdiv ((k.val:Nat):Int) (2 ^ (min (Int.toNat 4) (IntKind.bits .u8)))) 1)=((k.val / 16 % 2:Nat):Int):=by decide +kernel
def zI (k n:Nat) (r:List Int):BM×Int:=
 bif decide (32<=k) then (Dk,2) else bif (((k % 4:Nat):Int)==0) then (Dk,12) else bif (((n:Nat):Int)==0)&&(((k % 4:Nat):Int) != 1) then (Dk,1) else
 bif decide ((r.length:Int)<n) then (Dk,3) else bif decide ((r.length:Int)>n) then (Dk,2) else (⟨((k / 8 % 2:Nat):Int),((k / 4 % 2:Nat):Int),((k / 16 % 2:Nat):Int),⟨((k % 4:Nat):Int),r⟩⟩,0)
def Xu (b:List Int):BM×Int:=match b with
 | h::n::r=>zI h.toNat n.toNat r
 | _=>(Dk,3)
theorem Z4o (j a:Int) (q:0<=j):Yd j a=some (AQ (bits .and .u8 (Int.fdiv a (2 ^ (min (Int.toNat j) (IntKind.bits .u8)))) 1)):=(Aj _ _).trans (by
 simp only[Z7V,DN,decide_eq_true q,cond_true])
theorem ZoM (b:List Int) (hb:Bytes b) (hl:b.length<=90000):nX b=some (Xu b):=(Aj _ _).trans (by
 match b,hb,hl with
 | [],_,_=>rfl
 | [x],_,_=>rfl
 | h::n::r,hb,hl=>
  have Q:=hb h List.mem_cons_self;have S:=hb n (List.mem_cons_of_mem _ List.mem_cons_self);obtain⟨k,rfl⟩:∃k:Nat,h=(k:Int):=⟨h.toNat,by omega⟩;obtain⟨m,rfl⟩:∃m:Nat,n=(m:Int):=⟨n.toNat,by omega⟩;obtain⟨f1,f2,f3,f4,f5⟩:=hd_of ⟨k,by omega⟩;simp only at f1 f2 f3 f4 f5;have O : r.length<=90000:=by simp only[List.length_cons]at hl;omega
  have A:AQ ((((k:Int)::(m:Int)::r).length:Int) - 2)=(r.length:Int):=by rw[E8 (by simp only[List.length_cons];omega) (by simp only[List.length_cons];omega)];simp only[List.length_cons];omega
  have C:AQ (m:Int)=(m:Int):=E8 (by omega) (by omega);have D:(((k:Int)::(m:Int)::r).drop (Int.toNat 2)).take (((k:Int)::(m:Int)::r).length - Int.toNat 2)=r:=by
   show r.take _=_;exact List.take_of_length_le (by simp)
  have F:decide ((0:Int)<=2/\(2:Int)<=(((k:Int)::(m:Int)::r).length:Int))=true:=decide_eq_true ⟨by decide,by simp only[List.length_cons];omega⟩;have G:decide ((((k:Int)::(m:Int)::r).length:Int)<2)=false:=decide_eq_false (by simp only[List.length_cons];omega);have I:decide ((0:Int)<=0/\(0:Int)<(((k:Int)::(m:Int)::r).length:Int))=true:=decide_eq_true ⟨by decide,by simp only[List.length_cons];omega⟩;have J:decide ((0:Int)<=1/\(1:Int)<(((k:Int)::(m:Int)::r).length:Int))=true:=decide_eq_true ⟨by decide,by simp only[List.length_cons];omega⟩;have M:(((k:Int)::(m:Int)::r)[Int.toNat 0]? : Option Int)=some (k:Int):=rfl;have N:(((k:Int)::(m:Int)::r)[Int.toNat 1]? : Option Int)=some (m:Int):=rfl;have q:=jR [r] (by simp;omega) (by simp);rw[show [r].flatten=r by simp]at q;have b1:∀z,AU Yv (.b1 z)=some (Dk,1):=fun z=>(Aj _ _).trans rfl;have b2:∀z,AU Yv (.b2 ((k:Int)::(m:Int)::r) (m:Int) ((k % 4:Nat):Int) z (k:Int))=some (bif decide ((r.length:Int)<m) then (Dk,3) else bif decide ((r.length:Int)>m) then (Dk,2) else (⟨((k / 8 % 2:Nat):Int),((k / 4 % 2:Nat):Int),((k / 16 % 2:Nat):Int),⟨((k % 4:Nat):Int),r⟩⟩,0)):=fun z=>(Aj _ _).trans (by
   simp only[Yv,DN,A,D,F,Z4o 3 _ (by decide),Z4o 2 _ (by decide),Z4o 4 _ (by decide),f3,f4,f5,Option.bind_some,cond_true,q];cases decide ((r.length:Int)<m)
   ·cases decide ((r.length:Int)>m)<;>rfl
   ·rfl)
  simp only[Yv,DN,G,I,J,M,N,f1,f2,C,b1,b2,Option.bind_some,cond_true,cond_false];unfold Xu zI;simp only[Int.toNat_natCast];cases decide (32<=k)
  ·cases (((k % 4:Nat):Int)==0)
   ·cases ((m:Int)==0)
    ·rfl
    ·cases (((k % 4:Nat):Int) != 1)<;>rfl
   ·rfl
  ·rfl)
theorem ZtN (b:List Int) (hb:Bytes b) (hl:b.length<=90000):qB b=some (Xu b):=(Aj _ _).trans (by
 match b,hb,hl with
 | [],_,_=>rfl
 | [x],_,_=>rfl
 | h::n::r,hb,hl=>
  have hh:=hb h List.mem_cons_self;have hn:=hb n (List.mem_cons_of_mem _ List.mem_cons_self);obtain⟨k,rfl⟩:∃k:Nat,h=(k:Int):=⟨h.toNat,by omega⟩;obtain⟨m,rfl⟩:∃m:Nat,n=(m:Int):=⟨n.toNat,by omega⟩;have Y : r.length<=90000:=by simp only[List.length_cons]at hl;omega
  have D:AQ (k:Int)=(k:Int):=E8 (by omega) (by omega);have f1:decide ((k:Int)>=32)=decide (32<=k):=by rw[decide_eq_decide];omega
  have f2:Int.tmod (k:Int) 4=((k % 4:Nat):Int):=(Int.ofNat_tmod k 4).symm;have d:∀j:Nat,j<=100->Int.tmod (AQ (Int.tdiv (k:Int) (j:Int))) 2=((k / j % 2:Nat):Int):=fun j hj=>by
   have C:=Nat.div_le_self k j;rw[show Int.tdiv (k:Int) (j:Int)=((k / j:Nat):Int) from(Int.ofNat_tdiv k j).symm];generalize k / j=q at C ⊢;rw[E8 (by omega) (by omega)];exact(Int.ofNat_tmod q 2).symm
  have f3:Int.tmod (AQ (Int.tdiv (k:Int) 8)) 2=((k / 8 % 2:Nat):Int):=d 8 (by decide);have f4:Int.tmod (AQ (Int.tdiv (k:Int) 4)) 2=((k / 4 % 2:Nat):Int):=d 4 (by decide);have f5:Int.tmod (AQ (Int.tdiv (k:Int) 16)) 2=((k / 16 % 2:Nat):Int):=d 16 (by decide);have F:AQ ((((k:Int)::(m:Int)::r).length:Int) - 2)=(r.length:Int):=by rw[E8 (by simp only[List.length_cons];omega) (by simp only[List.length_cons];omega)];simp only[List.length_cons];omega
  have G:AQ (m:Int)=(m:Int):=E8 (by omega) (by omega);have I:(((k:Int)::(m:Int)::r).drop (Int.toNat 2)).take (((k:Int)::(m:Int)::r).length - Int.toNat 2)=r:=by
   show r.take _=_;exact List.take_of_length_le (by simp)
  have J:decide ((0:Int)<=2/\(2:Int)<=(((k:Int)::(m:Int)::r).length:Int))=true:=decide_eq_true ⟨by decide,by simp only[List.length_cons];omega⟩;have M:decide ((((k:Int)::(m:Int)::r).length:Int)<2)=false:=decide_eq_false (by simp only[List.length_cons];omega);have N:decide ((0:Int)<=0/\(0:Int)<(((k:Int)::(m:Int)::r).length:Int))=true:=decide_eq_true ⟨by decide,by simp only[List.length_cons];omega⟩;have O:decide ((0:Int)<=1/\(1:Int)<(((k:Int)::(m:Int)::r).length:Int))=true:=decide_eq_true ⟨by decide,by simp only[List.length_cons];omega⟩;have Q:(((k:Int)::(m:Int)::r)[Int.toNat 0]? : Option Int)=some (k:Int):=rfl;have S:(((k:Int)::(m:Int)::r)[Int.toNat 1]? : Option Int)=some (m:Int):=rfl;have hk:kA (0+r.length) 1=true:=by
   unfold kA;rw[decide_eq_true (Nat.le_trans (by omega) (by decide:90000<=lim)),decide_eq_true (Nat.le_trans (by omega) (by decide:90000<=maxLen))];rfl
  have b1:∀z,AU Vs (.b1 z)=some (Dk,1):=fun z=>(Aj _ _).trans rfl;have b2:∀z,AU Vs (.b2 ((k:Int)::(m:Int)::r) (k:Int) (m:Int) ((k % 4:Nat):Int) z)=some (bif decide ((r.length:Int)<m) then (Dk,3) else bif decide ((r.length:Int)>m) then (Dk,2) else (⟨((k / 8 % 2:Nat):Int),((k / 4 % 2:Nat):Int),((k / 16 % 2:Nat):Int),⟨((k % 4:Nat):Int),r⟩⟩,0)):=fun z=>(Aj _ _).trans (by
   have A:=hk;simp only[DN]at A;simp only[Vs,DN,F,I,J,f3,f4,f5,A,cond_true,List.nil_append];cases decide ((r.length:Int)<m)
   ·cases decide ((r.length:Int)>m)<;>rfl
   ·rfl)
  simp only[Vs,DN,M,N,O,Q,S,D,f1,f2,G,b1,b2,Option.bind_some,cond_true,cond_false];unfold Xu zI;simp only[Int.toNat_natCast];cases decide (32<=k)
  ·cases (((k % 4:Nat):Int)==0)
   ·cases ((m:Int)==0)
    ·rfl
    ·cases (((k % 4:Nat):Int) != 1)<;>rfl
   ·rfl
  ·rfl)
noncomputable def KE (k q:Int) (z s:List Int):List Int×Int:=
 bif decide (s.length<4) then ([],3) else bif decide (OQ k q z (s.take (s.length - 4))=s.drop (s.length - 4)) then (Ej (s.take (s.length - 4)) (Z41 k q (s.length - 4)),0) else ([],15)
theorem Zg8 {b:List Int} (h:¬b.length<4) (hl:b.length<=50000) :
  AQ ((b.length:Int) - 4)=((b.length - 4:Nat):Int)/\(b.drop 0).take (b.length - 4 - 0)=b.take (b.length - 4)/\decide (((b.length - 4:Nat):Int)<=(b.length:Int))=true/\decide (((b.length - 4:Nat):Int)<0)=false/\(b.drop (b.length - 4)).take (b.length - (b.length - 4))=b.drop (b.length - 4):=by
 refine⟨by rw[E8 (by omega) (by omega)];omega,by rw[Nat.sub_zero,List.drop_zero],decide_eq_true (by omega),decide_eq_false (by omega),List.take_of_length_le (by rw[List.length_drop];omega)⟩
theorem ZyP {xs ys:List Int} (A:Bytes xs) (C:Bytes ys) (q:xs.length<=1000000) (z:ys.length<=1000000):uB xs ys=some (decide (xs=ys)):=(Aj _ _).trans (by
 simp only[Z2r,Xm _ q,Xm _ z,str_eq A C,DN,SL,SM])
theorem ZAb (k:Int) (q:Int) (M:Gn q) (z s:List Int) (I:Bytes z) (hs:Bytes s) (hl:z.length<=1000) (hm:s.length<=50000):Z2L k q z s=some (KE k q z s):=(Aj _ _).trans (by
 unfold KE
 by_cases h:s.length<4
 ·have e:decide (AQ ((s.length:Int) - 4)<0)=true:=decide_eq_true (by rw[E8 (by omega) (by omega)];omega);rw[decide_eq_true h];simp only[Z2N,e,DN,SL,SM]
 ·obtain⟨A,C,D,F,G⟩:=Zg8 h hm;rw[decide_eq_false h];have hc:(s.take (s.length - 4)).length<=50000:=by rw[List.length_take];omega
  have J:=ZxH k q M z (s.take (s.length - 4)) I (hs.take _) hl hc;have hb:Bytes (OQ k q z (s.take (s.length - 4))):=U5 _ _;simp only[Z2N,A,C,D,F,G,J,Xm (OQ k q z (s.take (s.length - 4))) (by rw[Zfm];decide),Xm (s.drop (s.length - 4)) (by rw[List.length_drop];omega),str_eq hb (hs.drop (s.length - 4)),ZsX k q (s.length - 4) (by omega),ZtE (s.take (s.length - 4)) _ (by omega),DN,SL,SM];cases decide (OQ k q z (s.take (s.length - 4))=s.drop (s.length - 4))<;>rfl)
theorem Zzl (k:Int) (hk:Gn k) (q:Int) (A:Gn q) (z s:List Int) (J:Bytes z) (hs:Bytes s) (hl:z.length<=1000) (hm:s.length<=50000):sJ k q z s=some (KE k q z s):=(Aj _ _).trans (by
 unfold KE
 by_cases h:s.length<4
 ·have e:decide (AQ ((s.length:Int) - 4)<0)=true:=decide_eq_true (by rw[E8 (by omega) (by omega)];omega);rw[decide_eq_true h];simp only[tV,e,DN,SL,SM]
 ·obtain⟨C,D,F,G,I⟩:=Zg8 h hm;rw[decide_eq_false h];have hc:(s.take (s.length - 4)).length<=50000:=by rw[List.length_take];omega
  have N:=ZBy k hk q A z (s.take (s.length - 4)) J (hs.take _) hl hc;have hb:Bytes (OQ k q z (s.take (s.length - 4))):=U5 _ _;have M:=ZyP hb (hs.drop (s.length - 4)) (by rw[Zfm];decide) (by rw[List.length_drop];omega);simp only[tV,C,D,F,G,I,N,M,Zto k hk q A (s.length - 4) (by omega),ZBd (s.take (s.length - 4)) _ (by omega),DN,SL,SM];cases decide (OQ k q z (s.take (s.length - 4))=s.drop (s.length - 4))<;>rfl)
def JC (s:Bq):Int:=bits .xor .u64 s.CZ (IntKind.wrap .u64 ((IntKind.wrap .u64 ((2:Int)*s.Rx))+(bif s.CB==1 then 0 else 1)))
noncomputable def zH (s:Bq) (p:BM):BM×Int:=
 bif O0 p != 0 then (Dk,O0 p) else bif !s.IY||(bif p.Aw.Bz==1 then ((p.Aw.Payload.length:Nat):Int)==0 else false) then (p,0) else bif decide (((p.Aw.Payload.length:Nat):Int)<5) then (Dk,3) else
 bif (KE s.Key (JC s) [IntKind.wrap .u8 p.Aw.Bz] p.Aw.Payload).2 != 0 then (Dk,(KE s.Key (JC s) [IntKind.wrap .u8 p.Aw.Bz] p.Aw.Payload).2) else ({ p with Aw:=⟨p.Aw.Bz,(KE s.Key (JC s) [IntKind.wrap .u8 p.Aw.Bz] p.Aw.Payload).1⟩ },0)
theorem Zh8 (s:Bq):Gn (JC s):=b64 _ _ _
theorem Zzi (s:Bq) (p:BM) (hk:Gn s.Key) (hb:Bytes p.Aw.Payload) (hl:p.Aw.Payload.length<=50000):tZ s p=some (zH s p):=(Aj _ _).trans (by
 have q:Bytes [IntKind.wrap .u8 p.Aw.Bz]:=Bytes.cons (r8 _) Bytes.nil;have A:rU s.CB=some (bif s.CB==1 then 0 else 1):=(Aj _ _).trans (by
  simp only[Z2l,DN];cases (s.CB==1)<;>rfl)
 have C:dX s (bif s.CB==1 then 0 else 1) s.Rx=some (JC s):=(Aj _ _).trans (by
  have b1:∀c d x,AU rQ (.b1 c d x)=some (bits .xor .u64 x.CZ (IntKind.wrap .u64 ((IntKind.wrap .u64 ((2:Int)*c))+d))):=fun c d x=>(Aj _ _).trans rfl;unfold JC;simp only[rQ,DN,b1];cases (s.CB==1)<;>rfl)
 have b1:∀z,AU eX (.b1 s p z)=some (bif decide (((p.Aw.Payload.length:Nat):Int)<5) then (Dk,3) else
   bif (KE s.Key (JC s) [IntKind.wrap .u8 p.Aw.Bz] p.Aw.Payload).2 != 0 then (Dk,(KE s.Key (JC s) [IntKind.wrap .u8 p.Aw.Bz] p.Aw.Payload).2) else ({ p with Aw:=⟨p.Aw.Bz,(KE s.Key (JC s) [IntKind.wrap .u8 p.Aw.Bz] p.Aw.Payload).1⟩ },0)):=fun z=>(Aj _ _).trans (by
  simp only[eX,DN,A,C,Zzl s.Key hk (JC s) (Zh8 s) _ p.Aw.Payload q hb (by simp) hl,Zzz,Option.bind_some];cases decide (((p.Aw.Payload.length:Nat):Int)<5)
  ·cases ((KE s.Key (JC s) [IntKind.wrap .u8 p.Aw.Bz] p.Aw.Payload).2 != 0)<;>rfl
  ·rfl)
 simp only[eX,DN,ZdC,Zwk,Option.bind_some,b1];unfold zH;cases (O0 p != 0)
 ·cases s.IY
  ·rfl
  ·cases (bif p.Aw.Bz==1 then ((p.Aw.Payload.length:Nat):Int)==0 else false)<;>rfl
 ·rfl)
theorem Zr4 (s:Bq) (p:BM) (hk:Gn s.Key) (hb:Bytes p.Aw.Payload) (hl:p.Aw.Payload.length<=50000):oJ s p=some (zH s p):=(Aj _ _).trans (by
 have A:Bytes [IntKind.wrap .u8 p.Aw.Bz]:=Bytes.cons (r8 _) Bytes.nil;have q:=jR [p.Aw.Payload] (by simp;omega) (by simp);rw[show [p.Aw.Payload].flatten=p.Aw.Payload by simp]at q;have C:bits .xor .u64 s.CZ (IntKind.wrap .u64 ((IntKind.wrap .u64 ((2:Int)*s.Rx))+(bif s.CB==1 then ((1:Int),(0:Int)) else (0,1)).2))=JC s:=by
  unfold JC;cases (s.CB==1)<;>rfl
 have b1:∀z,AU Ve (.b1 p z)=some (p,0):=fun z=>(Aj _ _).trans (by
  simp only[Ve,DN,q,ZhI,Option.bind_some];rfl)
 have b2:∀z,AU Ve (.b2 s p z)=some (bif decide (((p.Aw.Payload.length:Nat):Int)<5) then (Dk,3) else
   bif (KE s.Key (JC s) [IntKind.wrap .u8 p.Aw.Bz] p.Aw.Payload).2 != 0 then (Dk,(KE s.Key (JC s) [IntKind.wrap .u8 p.Aw.Bz] p.Aw.Payload).2) else ({ p with Aw:=⟨p.Aw.Bz,(KE s.Key (JC s) [IntKind.wrap .u8 p.Aw.Bz] p.Aw.Payload).1⟩ },0)):=fun z=>(Aj _ _).trans (by
  simp only[Ve,DN,ZEg,ZEX,ZDm,C,ZAb s.Key (JC s) (Zh8 s) _ p.Aw.Payload A hb (by simp) hl,ZhI,Option.bind_some];cases decide (((p.Aw.Payload.length:Nat):Int)<5)
  ·cases ((KE s.Key (JC s) [IntKind.wrap .u8 p.Aw.Bz] p.Aw.Payload).2 != 0)<;>rfl
  ·rfl)
 simp only[Ve,DN,Z9m,Zgx,Option.bind_some,b1,b2];unfold zH;cases (O0 p != 0)
 ·cases s.IY
  ·rfl
  ·cases (bif p.Aw.Bz==1 then ((p.Aw.Payload.length:Nat):Int)==0 else false)<;>rfl
 ·rfl)
def kV (a:BR):BR:=bif !a.Empty&&decide (((a.Ap.length:Nat):Int)>0) then { a with SN:=AQ ((1:Int) - a.SN),Ap:=a.Ap.drop 1,EX:=AQ (a.EX+1),Open:=false,Empty:=false } else { a with SN:=AQ ((1:Int) - a.SN),Open:=false,Empty:=false }
def Lm (p:BM) (k:Bool) (a:BR):BR×Az×Bool×Bool:=
 bif p.SN==a.EI then bif !(bif p.Aw.Bz==1 then ((p.Aw.Payload.length:Nat):Int)==0 else false) then ({ a with EI:=AQ ((1:Int) - a.EI),Taken:=AQ (a.Taken+1) },p.Aw,true,k) else ({ a with EI:=AQ ((1:Int) - a.EI) },⟨0,[]⟩,false,k) else (a,⟨0,[]⟩,false,k)
def zD (a:BR) (p:BM):BR×Az×Bool×Bool:=
 bif O0 p != 0 then (a,⟨0,[]⟩,false,false) else bif a.Open then bif p.EI != a.SN then Lm p true (kV a) else Lm p false a else Lm p false a
theorem drop1 {q:List Az}:(q.drop 1).take (q.length - 1)=q.drop 1:=List.take_of_length_le (by rw[List.length_drop];exact Nat.le_refl _)
theorem ZHs (a:BR) (p:BM) (I:lC a.Ap) (hp:p.Aw.Payload.length<=100000):sH a p=some (zD a p):=(Aj _ _).trans (by
 have b2:∀(k:Bool) (x z:BR),AU OE (.b2 false k x p z ⟨0,[]⟩)=some (Lm p k x):=fun k x z=>(Aj _ _).trans (by
  have b5:∀u v w y t,AU OE (.b5 u v w y t)=some (w,t,u,v):=fun u v w y t=>(Aj _ _).trans rfl;simp only[OE,DN,b5,Zgx,Zgu _ hp,Option.bind_some];unfold Lm;cases (p.SN==x.EI)
  ·rfl
  ·cases (bif p.Aw.Bz==1 then ((p.Aw.Payload.length:Nat):Int)==0 else false)<;>rfl)
 have b4:∀(x z:BR),AU OE (.b4 false true x p z ⟨0,[]⟩)=some (Lm p true { x with Open:=false,Empty:=false }):=fun x z=>(Aj _ _).trans (by
  simp only[OE,DN,b2])
 have b3:∀(x z:BR),0<x.Ap.length->AU OE (.b3 false true (x.Ap.length:Nat) x p z ⟨0,[]⟩)=some (Lm p true { x with Ap:=x.Ap.drop 1,EX:=AQ (x.EX+1),Open:=false,Empty:=false }):=fun x z O=>(Aj _ _).trans (by
  have D:decide ((0:Int)<=(x.Ap.length:Nat)/\((x.Ap.length:Nat):Int)<=((x.Ap.length:Nat):Int))=true:=decide_eq_true ⟨by omega,by omega⟩;have F:decide ((0:Int)<=(1:Int)/\(1:Int)<=((Int.toNat ((x.Ap.length:Nat):Int):Nat):Int))=true:=decide_eq_true ⟨by decide,by omega⟩;have G:(x.Ap.drop (Int.toNat 1)).take (Int.toNat ((x.Ap.length:Nat):Int) - Int.toNat 1)=x.Ap.drop 1:=drop1;simp only[OE,DN,D,F,G,b4,beq_self_eq_true,cond_true])
 have b1:∀z,AU OE (.b1 false a p z ⟨0,[]⟩)=some (Lm p true (kV a)):=fun z=>(Aj _ _).trans (by
  rcases a with ⟨M,J,q,op,em,C,N⟩
  simp only[OE,DN,b4];unfold kV;cases em
  ·cases A:decide (((q.length:Nat):Int)>0)
   ·simp only[A];rfl
   ·have:=b3 ⟨AQ ((1:Int) - M),J,q,op,false,C,N⟩ z (by have:=of_decide_eq_true A;exact Int.ofNat_lt.1 this);simp only[A];exact this
  ·rfl)
 simp only[OE,DN,v_own a I,Z9m,Option.bind_some,b1,b2];unfold zD;cases (O0 p != 0)
 ·cases a.Open
  ·rfl
  ·cases (p.EI != a.SN)<;>rfl
 ·rfl)
theorem Zym (a:BR) (p:BM) (I:lC a.Ap):uD a p=some (zD a p):=(Aj _ _).trans (by
 have hb:aO p.Aw=some (bif p.Aw.Bz==1 then ((p.Aw.Payload.length:Nat):Int)==0 else false):=(Aj _ _).trans (by
  simp only[Z1d,DN];cases (p.Aw.Bz==1)<;>rfl)
 have b2:∀(k:Bool) (x z:BR),AU Me (.b2 k x p z ⟨0,[]⟩)=some (Lm p k x):=fun k x z=>(Aj _ _).trans (by
  have b5:∀u v w y,AU Me (.b5 u v w y)=some (v,⟨0,[]⟩,false,u):=fun u v w y=>(Aj _ _).trans rfl;simp only[Me,DN,b5,hb,Option.bind_some];unfold Lm;cases (p.SN==x.EI)
  ·rfl
  ·cases (bif p.Aw.Bz==1 then ((p.Aw.Payload.length:Nat):Int)==0 else false)<;>rfl)
 have b4:∀(x z:BR),AU Me (.b4 true x p z ⟨0,[]⟩)=some (Lm p true { x with Open:=false,Empty:=false }):=fun x z=>(Aj _ _).trans (by
  simp only[Me,DN,b2])
 have b3:∀(x z:BR),x.Ap=a.Ap->0<x.Ap.length->AU Me (.b3 true x p z ⟨0,[]⟩)=some (Lm p true { x with Ap:=x.Ap.drop 1,EX:=AQ (x.EX+1),Open:=false,Empty:=false }):=fun x z G O=>(Aj _ _).trans (by
  have D:decide ((0:Int)<=(1:Int)/\(1:Int)<=((x.Ap.length:Nat):Int))=true:=decide_eq_true ⟨by decide,by omega⟩;have F:(x.Ap.drop (Int.toNat 1)).take (x.Ap.length - Int.toNat 1)=x.Ap.drop 1:=drop1;have hl:(x.Ap.drop 1).length<=1000:=by rw[List.length_drop,G];have:=I.1;omega
  have k1:decide ((0+(x.Ap.drop 1).length)*32<=lim)=true:=decide_eq_true (Nat.le_trans (show _<=90000 by omega) (by decide:90000<=lim));have k2:decide (0+(x.Ap.drop 1).length<=maxLen)=true:=decide_eq_true (Nat.le_trans (show _<=90000 by omega) (by decide:90000<=maxLen));simp only[Me,DN,D,F,k1,k2,b4,List.nil_append,cond_true,Bool.and_self])
 have b1:∀z,AU Me (.b1 a p z ⟨0,[]⟩)=some (Lm p true (kV a)):=fun z=>(Aj _ _).trans (by
  rcases a with ⟨M,J,q,op,em,C,N⟩
  simp only[Me,DN,b4];unfold kV;cases em
  ·cases A:decide (((q.length:Nat):Int)>0)
   ·simp only[A];rfl
   ·have:=b3 ⟨AQ ((1:Int) - M),J,q,op,false,C,N⟩ z rfl (by have:=of_decide_eq_true A;exact Int.ofNat_lt.1 this);simp only[A];exact this
  ·rfl)
 simp only[Me,DN,ZdC,Option.bind_some,b1,b2];unfold zD;cases (O0 p != 0)
 ·cases a.Open
  ·rfl
  ·cases (p.EI != a.SN)<;>rfl
 ·rfl)
theorem fe {P R:Type} {T:P->Tr U (R⊕P)} {p:P} {o:Option R} (h:(T p).den (IL (AU T))=o):AU T p=o:=(Aj T p).trans h
theorem beqL {n:Nat}:(n==n)=true:=beq_self_eq_true n
theorem HY {a:Int} (h : -9223372036854775808<=a) (q : a<=9223372036854775807):AQ a=a:=by
 simp only[AQ,IntKind.wrap,IntKind.signed,IntKind.bits];simp;omega
def TN:List Int->List Int->List Int
 | [],_=>[]
 | n::q,b=>val (b.take n.toNat)::TN q (b.drop n.toNat)
def Ci (q:List Int):Nat:=(q.map Int.toNat).sum
theorem Zhk (a b:List Int):Ci (a++b)=Ci a+Ci b:=by simp[Ci]
theorem tk1 (b:List Int) (hb:Bytes b) (out sz:List Int) (n:Int) (m i:Nat) (L:Int) (hm:m<=8) (N:n=m) (M:m<=b.length) (Y:out.length<=1000) (S:i<=1000):∀d j:Nat,j+d=m ->
  AU Kz (.b3 b out n (val (b.take j)) sz L i n j)=AU Kz (.b2 (b.drop m) (out++[val (b.take m)]) sz L ((i+1:Nat):Int)):=by
 subst N;intro d;induction d with
 | zero=>
  intro j J;obtain rfl:j=m:=by omega
  refine(Aj _ _).trans ?_;have A:decide ((j:Int)<=(b.length:Int))=true:=decide_eq_true (by omega);have G:(b.drop j).take (b.length - j)=b.drop j:=List.take_of_length_le (by rw[List.length_drop];omega);simp(disch:=omega) only[Kz,Int.lt_irrefl,A,G,DN,SL,SM]
 | succ d Q=>
  intro j J;have C : j<m:=by omega
  have q:j<b.length:=by omega
  have O:=hb.get j q;have D:=xU (hb.take j);have F:=XE (hb.take (j+1)) (by rw[List.length_take];omega);have e:val (b.take (j+1))=val (b.take j)+256 ^ j*b[j]:=by
   rw[List.take_add_one,List.getElem?_eq_getElem q,val_append];simp[val,Nat.min_eq_left (show j<=b.length by omega)]
  rw[List.length_take,Nat.min_eq_left (by omega)]at D;rw[e]at F;have z:0<=256 ^ j*b[j]:=Int.mul_nonneg (Int.le_of_lt (by exact_mod_cast Nat.pow_pos (by decide))) O.1;rw[<- Q (j+1) (by omega)];refine(Aj _ _).trans ?_;have A:decide (0<=AQ (8*(j:Int)))=true:=decide_eq_true (by rw[E8 (by omega) (by omega)];omega);have I:bits .or .u64 (val (b.take j)) (IntKind.wrap .u64 ((IntKind.wrap .u64 (b[j]))*2 ^ (min (Int.toNat (AQ ((8:Int)*(j:Int)))) (IntKind.bits .u64))))=val (b.take (j+1)):=by
   rw[E8 (by omega) (by omega),show Int.toNat (8*(j:Int))=8*j by omega,show min (8*j) (IntKind.bits .u64)=8*j from Nat.min_eq_left (by show 8*j<=64;omega),VG,wu64 (n:=b[j]) (by omega) (by omega),Int.mul_comm b[j],wu64 z (by omega),e];refine Z4O .u64 64 (by decide) wraps_u64 (8*j) (by omega) _ _ z ?_ (by show _<(18446744073709551616:Int);omega) D.1 ?_
   ·rw[VG];exact Int.mul_emod_right _ _
   ·rw[VG];exact D.2
  simp(disch:=omega) only[Kz,C,q,A,I,DN,SL,SM]
theorem tk2 (sz:List Int):∀(ns done b out:List Int),sz=done++ns->Bytes b->(∀n∈ns,1<=n/\n<=8)->Ci ns<=b.length->out.length=done.length->sz.length<=100->b.length<=100000 ->
  AU Kz (.b2 b out sz sz.length done.length)=some (out++TN ns b,b.drop (Ci ns),0):=by
 intro ns;induction ns with
 | nil=>
  intro done b out hz hb D hs G hl z;refine(Aj _ _).trans ?_;rw[List.append_nil]at hz;subst hz;simp only[Kz,Int.lt_irrefl,DN,SL,SM];rw[jR [b] (by simpa using z) (by simp)];simp[TN,Ci]
 | cons n ns I=>
  intro done b out hz hb D hs G hl z;have C:done.length<sz.length:=by rw[hz];simp
  have A:sz[done.length]=n:=by simp[hz]
  have J:=D n List.mem_cons_self;have q:Ci (n::ns)=n.toNat+Ci ns:=by simp[Ci]
  rw[q]at hs;refine(Aj _ _).trans ?_;simp(disch:=omega) only[Kz,C,A,DN,SL,SM];have:=tk1 b hb out sz n n.toNat done.length sz.length (by omega) (by omega) (by omega) (by omega) (by omega) n.toNat 0 (by omega);simp only[List.take_zero,val]at this;refine this.trans ?_;have F:=I (done++[n]) (b.drop n.toNat) (out++[val (b.take n.toNat)]) (by simp[hz]) (hb.drop _) (fun m hm=>D m (List.mem_cons_of_mem _ hm)) (by rw[List.length_drop];omega) (by simp[G]) hl (by rw[List.length_drop];omega);rw[List.length_append]at F;refine F.trans ?_;rw[q,TN,List.drop_drop,List.append_assoc];rfl
theorem Zhf (sz b:List Int) (hb:Bytes b) (F:∀n∈sz,1<=n/\n<=8) (hl:sz.length<=100) (D:b.length<=100000):aS b sz=some (if b.length<Ci sz then ([],[],3) else (TN sz b,b.drop (Ci sz),0)):=(Aj _ _).trans (by
 simp only[Kz,DN,SL,SM];have C:∀q:List Int,(∀n∈q,1<=n/\n<=8)->Ci q<=8*q.length:=by
  intro q;induction q with
  | nil=>intro _;exact Nat.le_refl _
  | cons n q I=>
   intro h;have z:=h n List.mem_cons_self;have A:=I fun m hm=>h m (List.mem_cons_of_mem _ hm);simp only[Ci,List.map_cons,List.sum_cons,List.length_cons]at A ⊢;omega
 have hs:=C sz F;have key:=uT (fun(s:Int) i=>AU Kz (.b1 b sz s sz sz.length i)) sz (fun s x=>s+x) (fun s=>if (b.length:Int)<s then some ([],[],3) else AU Kz (.b2 b [] sz sz.length 0))
  (fun i s=>s=Ci (sz.take i)) (fun i s h M=>by
   have z:=F sz[i] (List.getElem_mem h);have e:Ci (sz.take (i+1))=Ci (sz.take i)+sz[i].toNat:=by
    rw[List.take_add_one,List.getElem?_eq_getElem h,Zhk];rfl
   have J:Ci (sz.take (i+1))<=Ci sz:=by
    have A:=Zhk (sz.take (i+1)) (sz.drop (i+1));rw[List.take_append_drop]at A;omega
   refine⟨?_,by omega⟩;refine(Aj _ _).trans ?_;simp(disch:=omega) only[Kz,h,Zhw _ z.1 z.2,DN,SL,SM];rw[E8 (by omega) (by omega)])
  (fun s G =>(Aj _ _).trans (by
   simp only[Kz,Int.lt_irrefl,DN,SL,SM]
   by_cases hc:(b.length:Int)<s
   ·simp[hc]
   ·simp[hc])) 0 (by simp[Ci])
 rw[key.1,key.2,List.take_length]
 by_cases hc:b.length<Ci sz
 ·rw[if_pos hc,if_pos (by omega)]
 ·rw[if_neg hc,if_neg (by omega)];exact tk2 sz sz [] b [] rfl hb F (by omega) rfl hl D)
def fl (r:List Int) (a n:Nat):Int:=val ((r.drop a).take n)
theorem XT {r:List Int} (h:Bytes r) (a n:Nat):0<=fl r a n/\fl r a n<256 ^ n:=by
 have q:=xU ((h.drop a).take n);have z:(256:Int) ^ ((r.drop a).take n).length<=256 ^ n:=by
  exact_mod_cast Nat.pow_le_pow_right (by decide:0<256) (by rw[List.length_take];omega)
 exact⟨q.1,Int.lt_of_lt_of_le q.2 z⟩
theorem YE {r:List Int} {a:Nat} (h:a<r.length):r[a]? = some (fl r a 1):=by
 unfold fl;rw[List.getElem?_eq_getElem h,List.drop_eq_getElem_cons h];show some r[a]=some (r[a]+256*val ((List.drop (a+1) r).take 0));rw[List.take_zero];show some r[a]=some (r[a]+256*0);rw[Int.mul_zero,Int.add_zero]
theorem ZCH (b:List Int) (hb:Bytes b) (a n:Nat) (O:n<=8) (h:a+n<=b.length) (hl:b.length<=100000):Gh b (a:Int) (n:Int)=some (fl b a n):=(Aj _ _).trans (by
 have key:∀i:Nat,i<=n->AU Wq (.b1 b a (val ((b.drop (a+i)).take (n - i))) ((i:Int) - 1))=some (fl b a n):=by
  intro i;induction i with
  | zero=>
   intro _;refine(Aj _ _).trans ?_;simp only[Wq,DN,show decide ((((0:Nat):Int) - 1)>=0)=false from rfl,cond_false,Nat.add_zero,Nat.sub_zero];rfl
  | succ i M=>
   intro N;have S:=hb.get (a+i) (by omega);have A:AQ ((a:Int)+(((i+1:Nat):Int) - 1))=((a+i:Nat):Int):=by rw[E8 (by omega) (by omega)];omega
   have C:AQ ((((i+1:Nat):Int) - 1) - 1)=(i:Int) - 1:=by rw[E8 (by omega) (by omega)];omega
   have D:decide ((((i+1:Nat):Int) - 1)>=0)=true:=decide_eq_true (by omega);have F:decide ((0:Int)<=((a+i:Nat):Int)/\((a+i:Nat):Int)<(b.length:Int))=true:=decide_eq_true ⟨by omega,by omega⟩;have G:(b[Int.toNat ((a+i:Nat):Int)]? : Option Int)=some b[a+i]:=by rw[Int.toNat_natCast];exact List.getElem?_eq_getElem _
   have q:val ((b.drop (a+i)).take (n - i))=b[a+i]+256*val ((b.drop (a+(i+1))).take (n - (i+1))):=by
    rw[List.drop_eq_getElem_cons (show a+i<b.length by omega),show n - i=(n - (i+1))+1 by omega,List.take_succ_cons];rfl
   have J:=XE ((hb.drop (a+i)).take (n - i)) (by rw[List.length_take];omega);have Q:=XE ((hb.drop (a+(i+1))).take (n - (i+1))) (by rw[List.length_take];omega);rw[q]at J;have I:IntKind.wrap .u64 ((IntKind.wrap .u64 (val ((b.drop (a+(i+1))).take (n - (i+1)))*256))+(IntKind.wrap .u64 b[a+i]))=val ((b.drop (a+i)).take (n - i)):=by
    rw[wu64 (n:=b[a+i]) (by omega) (by omega),wu64 (n:=_*256) (by omega) (by omega),wu64 (by omega) (by omega),q];omega
   refine(Aj _ _).trans ?_;simp only[Wq,DN,A,C,D,F,G,I,Option.bind_some,cond_true];exact M (by omega)
 have z:AQ ((n:Int) - 1)=(n:Int) - 1:=E8 (by omega) (by omega);have:=key n (Nat.le_refl _);rw[Nat.sub_self,List.take_zero]at this;simp only[Wq,DN,z];exact this)
theorem nm (k:Int) (r:List Int) (hb:Bytes (k::r)) (a n:Nat) (q:n<=8) (h:a+n<=r.length) (hl:r.length<=90000):Gh (k::r) ((a:Int)+1) (n:Int)=some (fl r a n):=by
 have:=ZCH (k::r) hb (a+1) n q (by simp only[List.length_cons];omega) (by simp only[List.length_cons];omega);rw[show ((a+1:Nat):Int)=(a:Int)+1 by omega]at this;exact this
noncomputable def Ic {Y:Type} (q:Y->AO) (f:List Int->AO->Option Y) (r:List Int) (k:Int) (sz:List Int):Option (AO×Int):=
 (aS r sz).bind fun x=>bif x.2.2 != 0 then some (EZ,x.2.2) else bif decide ((x.2.1.length:Int)>0) then some (EZ,2) else
  (f x.1 ⟨AQ k,CE,0,0,0,0,0,0,0,0,0⟩).bind fun y=>(OA (q y)).bind fun e=>bif e != 0 then some (EZ,e) else some (q y,0)
theorem Gx (k:Int) (r:List Int):MC (k::r) =
  bif AQ k==5 then Ic (·.q0) JU r k [] else bif AQ k==6 then Ic (·.q0) JU r k [] else bif AQ k==18 then Ic (·.q0) JU r k [] else bif AQ k==19 then Ic (·.q0) JU r k [] else bif AQ k==8 then Ic (·.q0) O7 r k [8] else bif AQ k==9 then Ic (·.q0) O7 r k [8] else bif AQ k==20 then Ic (·.q0) O8 r k [1] else bif AQ k==21 then Ic (·.q0) O8 r k [1] else bif AQ k==0 then Ic (·.q0) UB r k [1,2,2,2,2,2] else bif AQ k==1 then Ic (·.q0) UD r k [5,2] else bif AQ k==15 then Ic (·.q0) UJ r k [1,2,2,2,2] else bif AQ k==2 then Ic (·.q0) Tu r k [1] else bif AQ k==3 then Ic (·.q0) Tz r k [8,8] else bif AQ k==4 then Ic (·.q0) Tm r k [8] else bif AQ k==7 then Ic (·.q0) UA r k [1] else bif AQ k==12 then Ic (·.q0) Tv r k [1] else bif AQ k==13 then Ic (·.q0) Tn r k [1,1] else some (EZ,12):=fe (by
 have hf:QC=some ():=rfl;have A:(((k::r).length:Int)==0)=false:=beq_false_of_ne (by simp only[List.length_cons];omega);have C:decide ((0:Int)<=0/\(0:Int)<((k::r).length:Int))=true:=decide_eq_true ⟨by decide,by simp only[List.length_cons];omega⟩;have z:decide ((0:Int)<=1/\(1:Int)<=((k::r).length:Int))=true:=decide_eq_true ⟨by decide,by simp only[List.length_cons];omega⟩;have D:((k::r)[Int.toNat 0]? : Option Int)=some k:=rfl;have q:((k::r).drop (Int.toNat 1)).take ((k::r).length - Int.toNat 1)=r:=by
  show r.take _=_;exact List.take_of_length_le (by simp)
 simp only[Z92,JE,DN,hf,q,z,A,C,D,Option.bind_some,Bool.not_true,Bool.not_false,cond_true,cond_false];rfl)
def kZ:List Int->List Int->Nat->List Int
 | [],_,_=>[]
 | n::q,r,a=>fl r a n.toNat::kZ q r (a+n.toNat)
theorem tkF (r:List Int):∀(sz:List Int) (a:Nat),TN sz (r.drop a)=kZ sz r a
 | [],_=>rfl
 | n::q,a=>by rw[TN,kZ,List.drop_drop,tkF r q (a+n.toNat)];rfl
def DE (k:Int) (r:List Int) (c:AO) (e:Int):Prop:=
 MC (k::r)=some (bif e != 0 then (EZ,e) else (c,0))/\OC (k::r)=some (bif e != 0 then (EZ,e) else (c,0))
section
variable {Y:Type} {k:Int} {r:List Int} {u:CP} {sz:List Int} {q:Y->AO} {f:List Int->AO->Option Y}
 (hk:R8 k) (hb:Bytes r) (hf:DU k=some u) (hu:u.Fq=true) (hz:∀n∈sz,1<=n/\n<=8) (hzl:sz.length<=100) (hs:JG k=some (1+(Ci sz:Int))) (hl:r.length<=90000) (hp:MC (k::r)=Ic q f r k sz)
include hk hf hu hs in
theorem dd0:OC (k::r)=bif decide (r.length<Ci sz) then some (EZ,3) else bif decide (Ci sz<r.length) then some (EZ,2) else
  (WC ⟨k,CE,0,0,0,0,0,0,0,0,0⟩ (k::r)).bind fun c=>(JZ c).bind fun e=>bif e != 0 then some (EZ,e) else some (c,0):=fe (by
 have F:AQ k=k:=E8 (by have:=hk.1;omega) (by have:=hk.2;omega);have A:(((k::r).length:Int)==0)=false:=beq_false_of_ne (by simp only[List.length_cons];omega);have C:decide ((0:Int)<=0/\(0:Int)<((k::r).length:Int))=true:=decide_eq_true ⟨by decide,by simp only[List.length_cons];omega⟩;have D:((k::r)[Int.toNat 0]? : Option Int)=some k:=rfl;have q:decide (((k::r).length:Int)<1+(Ci sz:Int))=decide (r.length<Ci sz):=decide_eq_decide.2 (by simp only[List.length_cons];omega);have z:decide (((k::r).length:Int)>1+(Ci sz:Int))=decide (Ci sz<r.length):=decide_eq_decide.2 (by simp only[List.length_cons];omega);simp only[qL,DN,A,C,D,F,hf,hu,hs,q,z,Option.bind_some,Bool.not_true,cond_true,cond_false];rfl)
include hk hb hf hu hz hzl hs hl hp in
theorem NV (h:r.length≠Ci sz):∃x,MC (k::r)=some x/\OC (k::r)=some x/\x.2≠0:=by
 rw[hp,dd0 hk hf hu hs];unfold Ic;rw[Zhf sz r hb hz hzl (by omega)]
 by_cases q:r.length<Ci sz
 ·rw[decide_eq_true q,if_pos q];exact⟨(EZ,3),rfl,rfl,by decide⟩
 ·have z:Ci sz<r.length:=by omega
  have A:decide (((r.drop (Ci sz)).length:Int)>0)=true:=decide_eq_true (by rw[List.length_drop];omega);rw[decide_eq_false q,decide_eq_true z,if_neg q];refine⟨(EZ,2),?_,rfl,by decide⟩;show (bif decide (((r.drop (Ci sz)).length:Int)>0) then _ else _)=_;rw[A];rfl
include hk hb hf hu hz hzl hs hp in
theorem NW (h:r.length=Ci sz) (A:Ci sz<=60) {y:Y} {c:AO} {e:Int} (I:f (kZ sz r 0) ⟨k,CE,0,0,0,0,0,0,0,0,0⟩=some y) (C:q y=c) (D:WC ⟨k,CE,0,0,0,0,0,0,0,0,0⟩ (k::r)=some c)
  (hc:OA c=some e/\JZ c=some e):DE k r c e:=by
 have F:AQ k=k:=E8 (by have:=hk.1;omega) (by have:=hk.2;omega);have z:decide (((r.drop (Ci sz)).length:Int)>0)=false:=decide_eq_false (by rw[List.length_drop];omega);have G:TN sz r=kZ sz r 0:=tkF r sz 0;unfold DE;rw[hp,dd0 hk hf hu hs,decide_eq_false (by omega),decide_eq_false (by omega)];unfold Ic;rw[Zhf sz r hb hz hzl (by omega),if_neg (by omega),F,G];subst C;constructor
 ·show (bif decide (((r.drop (Ci sz)).length:Int)>0) then _ else _)=_;rw[z,I];show (OA (q y)).bind _=_;rw[hc.1];show (bif e != 0 then _ else _)=_;cases e != 0<;>rfl
 ·show (WC _ _).bind _=_;rw[D];show (JZ (q y)).bind _=_;rw[hc.2];show (bif e != 0 then _ else _)=_;cases e != 0<;>rfl
end
theorem Ls {r:List Int} (hb:Bytes r) (a:Nat):R8 (AQ (fl r a 1)):=by
 have:=XT hb a 1;rw[E8 (by omega) (by omega)];exact⟨by omega,by omega⟩
theorem gb8 {r:List Int} (hb:Bytes r) (a:Nat):CO (fl r a 8):=⟨(XT hb a 8).1,Int.lt_of_lt_of_le (XT hb a 8).2 (by decide)⟩
theorem gb5 {r:List Int} (hb:Bytes r) (a:Nat):CO (fl r a 5):=⟨(XT hb a 5).1,Int.lt_of_lt_of_le (XT hb a 5).2 (by decide)⟩
theorem zK {r:List Int} (hb:Bytes r) (a:Nat):R16 (AQ (fl r a 2)):=by
 have:=XT hb a 2;rw[E8 (by omega) (by omega)];exact⟨by omega,by omega⟩
theorem yR (n:Int):R16 (IntKind.wrap .u16 n):=by unfold R16;rw[IntKind.wrap_u16];omega
def up0 (u:DR):Prop:=R16 u.FP/\R16 u.FC/\R16 u.E5/\R16 u.C9/\R16 u.FY
theorem up_r {r:List Int} (hb:Bytes r):up0 ⟨AQ (fl r 0 1),AQ (fl r 1 2),AQ (fl r 3 2),AQ (fl r 5 2),AQ (fl r 7 2)⟩:=⟨⟨(Ls hb 0).1,by have:=(Ls hb 0).2;show AQ (fl r 0 1)<_;omega⟩,zK hb 1,zK hb 3,zK hb 5,zK hb 7⟩
theorem nzR (x:Int):(bif (true&&(x != 0)) then x else 0)=x:=by
 by_cases h:x=0
 ·rw[h];rfl
 ·rw[show (x != 0)=true by simpa using h];rfl
theorem z00:(0:Int)<=0/\(0:Int)<18446744073709551616:=⟨by decide,by decide⟩
theorem ZIl (u:DR) (i:Int) (h:up0 u) (I:R16 i) (hf:DU 0=some ⟨true,true,false,true,false,false,false,false,false,false,false⟩):OA ⟨0,u,0,i,0,0,0,0,0,0,0⟩=some (Hu u)/\JZ ⟨0,u,0,i,0,0,0,0,0,0,0⟩=some (Hu u):=by
 have G:QC=some ():=rfl;obtain⟨⟨q,J⟩,⟨A,M⟩,⟨C,N⟩,⟨D,O⟩,⟨F,z⟩⟩:=h;refine⟨fe ?_,?_⟩
 ·simp only[JF,F7,DN,G,Option.bind_some,LZ,KI,LY,ww q (by omega),ww A (by omega),ww C (by omega),ww D (by omega),ww F (by omega),yZ I,J7,Int.reduceBEq,beq_self_eq_true,Bool.not_true,cond_true,cond_false]
 ·rw[WH ⟨0,u,0,i,0,0,0,0,0,0,0⟩ _ hf z00];exact congrArg some (nzR _)
theorem ZGJ (u:DR) (h:up0 u) (hf:DU 15=some ⟨true,true,false,false,false,false,false,false,false,false,false⟩):OA ⟨15,u,0,0,0,0,0,0,0,0,0⟩=some (Hu u)/\JZ ⟨15,u,0,0,0,0,0,0,0,0,0⟩=some (Hu u):=by
 have G:QC=some ():=rfl;obtain⟨⟨q,I⟩,⟨A,J⟩,⟨C,M⟩,⟨D,N⟩,⟨F,z⟩⟩:=h;refine⟨fe ?_,?_⟩
 ·simp only[JF,F7,DN,G,Option.bind_some,LV,KH,LU,ww q (by omega),ww A (by omega),ww C (by omega),ww D (by omega),ww F (by omega),J7,Int.reduceBEq,beq_self_eq_true,Bool.not_true,cond_true,cond_false]
 ·rw[WH _ _ hf z00];exact congrArg some (nzR _)
theorem ZHT (m i:Int) (h:CO m) (z:R16 i) (hf:DU 1=some ⟨true,false,true,true,false,false,false,false,false,false,false⟩):OA ⟨1,CE,m,i,0,0,0,0,0,0,0⟩=some (JI m)/\JZ ⟨1,CE,m,i,0,0,0,0,0,0,0⟩=some (JI m):=by
 have q:QC=some ():=rfl;refine⟨fe ?_,?_⟩
 ·simp only[JF,F7,DN,q,Option.bind_some,L6,KG,Ze7 (⟨1,CE,m,i,0,0,0,0,0,0,0⟩:AO) h,yZ z,J7,Int.reduceBEq,beq_self_eq_true,Bool.not_true,cond_true,cond_false]
 ·rw[WH (⟨1,CE,m,i,0,0,0,0,0,0,0⟩:AO) _ hf h];exact congrArg some (nzR _)
theorem ZHW (k n:Int) (hk:k=20\/k=21) (h:R8 n) (hf:DU k=some ⟨true,false,false,false,false,false,false,false,false,false,true⟩):OA ⟨k,CE,0,0,0,0,0,0,0,0,n⟩=some (Io n 27 251)/\JZ ⟨k,CE,0,0,0,0,0,0,0,0,n⟩=some (Io n 27 251):=by
 have z:QC=some ():=rfl;obtain⟨q,C⟩:=h;have A:AQ (IntKind.wrap .u64 n)=n:=ww q (by omega);refine⟨?_,?_⟩
 ·rcases hk with rfl|rfl<;>(refine fe ?_;simp only[JF,F7,DN,z,Option.bind_some,LD,KF,LM,A,J7,Int.reduceBEq,beq_self_eq_true,Bool.not_true,cond_true,cond_false])
 ·rw[WH ⟨k,CE,0,0,0,0,0,0,0,0,n⟩ _ hf z00];refine congrArg some ?_;show (bif true&&(decide (n<27)||decide (n>251)) then (5:Int) else 0)=_;unfold Io;cases decide (n<27)<;>cases decide (n>251)<;>rfl
theorem SX {c:AO} (h:CV c):OA c=some 0/\JZ c=some 0:=⟨Zpw h,Zwz h⟩
theorem tu (k:Int) (r:List Int) (hb:Bytes (k::r)) (h:9<=r.length) (hl:r.length<=90000):nU (k::r) 1=some ⟨AQ (fl r 0 1),AQ (fl r 1 2),AQ (fl r 3 2),AQ (fl r 5 2),AQ (fl r 7 2)⟩:=fe (by
 have q:Gh (k::r) 1 1=some (fl r 0 1):=nm k r hb 0 1 (by decide) (by omega) hl;have n1:Gh (k::r) 2 2=some (fl r 1 2):=nm k r hb 1 2 (by decide) (by omega) hl;have z:Gh (k::r) 4 2=some (fl r 3 2):=nm k r hb 3 2 (by decide) (by omega) hl;have n5:Gh (k::r) 6 2=some (fl r 5 2):=nm k r hb 5 2 (by decide) (by omega) hl;have A:Gh (k::r) 8 2=some (fl r 7 2):=nm k r hb 7 2 (by decide) (by omega) hl;simp only[Z0l,DN,show AQ ((1:Int)+1)=2 from rfl,show AQ ((1:Int)+3)=4 from rfl,show AQ ((1:Int)+5)=6 from rfl,show AQ ((1:Int)+7)=8 from rfl,q,n1,z,n5,A,Option.bind_some])
theorem ZhF (hf:DU 0=some ⟨true,true,false,true,false,false,false,false,false,false,false⟩):JG 0=some (1+((Ci [1,2,2,2,2,2]:Nat):Int)):=by
 iterate 9 (try (refine fe ?_;simp(disch:=decide) only[J6,DN,hf,Option.bind_some,cond_true,cond_false,Int.reduceAdd,HY]))
 rfl
theorem ZIe (r:List Int) (hb:Bytes r) (hf:DU 0=some ⟨true,true,false,true,false,false,false,false,false,false,false⟩) (h:r.length=Ci [1,2,2,2,2,2]):DE 0 r ⟨0,⟨AQ (fl r 0 1),AQ (fl r 1 2),AQ (fl r 3 2),AQ (fl r 5 2),AQ (fl r 7 2)⟩,0,IntKind.wrap .u16 (fl r 9 2),0,0,0,0,0,0,0⟩ (Hu ⟨AQ (fl r 0 1),AQ (fl r 1 2),AQ (fl r 3 2),AQ (fl r 5 2),AQ (fl r 7 2)⟩):=by
 have z:R8 0:=⟨by decide,by decide⟩;have A : Bytes (0::r):=Bytes.cons ⟨z.1,z.2⟩ hb;have D:r.length=11:=h;have tt:=tu 0 r A (by omega) (by omega);have C:Gh (0::r) 10 2=some (fl r 9 2):=nm 0 r A 9 2 (by decide) (by omega) (by omega);refine NW (q:=(·.q0)) (f:=UB) z hb hf rfl (by decide) (by decide) (ZhF hf) (by rw[Gx];rfl) h (by decide) (KI _ _ _ _ _ _ _) rfl ?_ (ZIl _ _ (up_r hb) (yR _) hf)
 iterate 10 (refine fe ?_;simp(disch:=decide) only[J5,DN,hf,tt,C,Option.bind_some,cond_true,cond_false,Int.reduceAdd,HY])
theorem ZhC (hf:DU 1=some ⟨true,false,true,true,false,false,false,false,false,false,false⟩):JG 1=some (1+((Ci [5,2]:Nat):Int)):=by
 iterate 9 (try (refine fe ?_;simp(disch:=decide) only[J6,DN,hf,Option.bind_some,cond_true,cond_false,Int.reduceAdd,HY]))
 rfl
theorem ZIn (r:List Int) (hb:Bytes r) (hf:DU 1=some ⟨true,false,true,true,false,false,false,false,false,false,false⟩) (h:r.length=Ci [5,2]):DE 1 r ⟨1,CE,fl r 0 5,IntKind.wrap .u16 (fl r 5 2),0,0,0,0,0,0,0⟩ (JI (fl r 0 5)):=by
 have z:R8 1:=⟨by decide,by decide⟩;have A : Bytes (1::r):=Bytes.cons ⟨z.1,z.2⟩ hb;have D:r.length=7:=h;have C:Gh (1::r) 1 5=some (fl r 0 5):=nm 1 r A 0 5 (by decide) (by omega) (by omega);have n5:Gh (1::r) 6 2=some (fl r 5 2):=nm 1 r A 5 2 (by decide) (by omega) (by omega);refine NW (q:=(·.q0)) (f:=UD) z hb hf rfl (by decide) (by decide) (ZhC hf) (by rw[Gx];rfl) h (by decide) (KG _ _ _) rfl ?_ (ZHT _ _ (gb5 hb 0) (yR _) hf)
 iterate 10 (refine fe ?_;simp(disch:=decide) only[J5,DN,hf,C,n5,Option.bind_some,cond_true,cond_false,Int.reduceAdd,HY])
theorem Zhh (hf:DU 2=some ⟨true,false,false,false,true,false,false,false,false,false,false⟩):JG 2=some (1+((Ci [1]:Nat):Int)):=by
 iterate 9 (try (refine fe ?_;simp(disch:=decide) only[J6,DN,hf,Option.bind_some,cond_true,cond_false,Int.reduceAdd,HY]))
 rfl
theorem ZFo (r:List Int) (hb:Bytes r) (hf:DU 2=some ⟨true,false,false,false,true,false,false,false,false,false,false⟩) (h:r.length=Ci [1]):DE 2 r ⟨2,CE,0,0,AQ (fl r 0 1),0,0,0,0,0,0⟩ (0):=by
 have z:R8 2:=⟨by decide,by decide⟩;have C : Bytes (2::r):=Bytes.cons ⟨z.1,z.2⟩ hb;have F:r.length=1:=h;have D:decide ((0:Int)<=1/\(1:Int)<((2::r).length:Int))=true:=decide_eq_true ⟨by decide,by simp only[List.length_cons];omega⟩;have A:((2::r)[Int.toNat 1]? : Option Int)=some (fl r 0 1):=YE (a:=0) (by omega);refine NW (q:=(·.q0)) (f:=Tu) z hb hf rfl (by decide) (by decide) (Zhh hf) (by rw[Gx];rfl) h (by decide) (LG _ _) rfl ?_ (SX (CV.term _ (Ls hb 0)))
 iterate 10 (refine fe ?_;simp(disch:=decide) only[J5,DN,hf,D,A,Option.bind_some,cond_true,cond_false,Int.reduceAdd,HY])
theorem ZhM (hf:DU 3=some ⟨true,false,false,false,false,false,true,true,false,false,false⟩):JG 3=some (1+((Ci [8,8]:Nat):Int)):=by
 iterate 9 (try (refine fe ?_;simp(disch:=decide) only[J6,DN,hf,Option.bind_some,cond_true,cond_false,Int.reduceAdd,HY]))
 rfl
theorem ZGP (r:List Int) (hb:Bytes r) (hf:DU 3=some ⟨true,false,false,false,false,false,true,true,false,false,false⟩) (h:r.length=Ci [8,8]):DE 3 r ⟨3,CE,0,0,0,0,fl r 0 8,fl r 8 8,0,0,0⟩ (0):=by
 have z:R8 3:=⟨by decide,by decide⟩;have A : Bytes (3::r):=Bytes.cons ⟨z.1,z.2⟩ hb;have F:r.length=16:=h;have C:Gh (3::r) 1 8=some (fl r 0 8):=nm 3 r A 0 8 (by decide) (by omega) (by omega);have D:Gh (3::r) 9 8=some (fl r 8 8):=nm 3 r A 8 8 (by decide) (by omega) (by omega);refine NW (q:=(·.q0)) (f:=Tz) z hb hf rfl (by decide) (by decide) (ZhM hf) (by rw[Gx];rfl) h (by decide) (LP _ _ _) rfl ?_ (SX (CV.enc _ _ (gb8 hb 0) (gb8 hb 8)))
 iterate 10 (refine fe ?_;simp(disch:=decide) only[J5,DN,hf,C,D,Option.bind_some,cond_true,cond_false,Int.reduceAdd,HY])
theorem Zhz (hf:DU 4=some ⟨true,false,false,false,false,false,true,false,false,false,false⟩):JG 4=some (1+((Ci [8]:Nat):Int)):=by
 iterate 9 (try (refine fe ?_;simp(disch:=decide) only[J6,DN,hf,Option.bind_some,cond_true,cond_false,Int.reduceAdd,HY]))
 rfl
theorem ZIw (r:List Int) (hb:Bytes r) (hf:DU 4=some ⟨true,false,false,false,false,false,true,false,false,false,false⟩) (h:r.length=Ci [8]):DE 4 r ⟨4,CE,0,0,0,0,fl r 0 8,0,0,0,0⟩ (0):=by
 have z:R8 4:=⟨by decide,by decide⟩;have A : Bytes (4::r):=Bytes.cons ⟨z.1,z.2⟩ hb;have D:r.length=8:=h;have C:Gh (4::r) 1 8=some (fl r 0 8):=nm 4 r A 0 8 (by decide) (by omega) (by omega);refine NW (q:=(·.q0)) (f:=Tm) z hb hf rfl (by decide) (by decide) (Zhz hf) (by rw[Gx];rfl) h (by decide) (LK _ _) rfl ?_ (SX (CV.ans _ (gb8 hb 0)))
 iterate 10 (refine fe ?_;simp(disch:=decide) only[J5,DN,hf,C,Option.bind_some,cond_true,cond_false,Int.reduceAdd,HY])
theorem Zic (k:Int) (hf:DU k=some ⟨true,false,false,false,false,false,false,false,false,false,false⟩):JG k=some (1+((Ci []:Nat):Int)):=by
 iterate 9 (try (refine fe ?_;simp(disch:=decide) only[J6,DN,hf,Option.bind_some,cond_true,cond_false,Int.reduceAdd,HY]))
 rfl
theorem dk_pl (k:Int) (hk:k=5\/k=6\/k=18\/k=19) (r:List Int) (hb:Bytes r) (hf:DU k=some ⟨true,false,false,false,false,false,false,false,false,false,false⟩) (h:r.length=Ci []):DE k r ⟨k,CE,0,0,0,0,0,0,0,0,0⟩ (0):=by
 have z:R8 k:=⟨by rcases hk with rfl|rfl|rfl|rfl<;>decide,by rcases hk with rfl|rfl|rfl|rfl<;>decide⟩;have A : Bytes (k::r):=Bytes.cons ⟨z.1,z.2⟩ hb;have C:r.length=0:=h;refine NW (q:=(·.q0)) (f:=JU) z hb hf rfl (by decide) (by decide) (Zic k hf) (by rcases hk with rfl|rfl|rfl|rfl<;>(rw[Gx];rfl)) h (by decide) (LW _ _) rfl ?_ (SX (CV.plain _ hk))
 iterate 10 (refine fe ?_;simp(disch:=decide) only[J5,DN,hf,Option.bind_some,cond_true,cond_false,Int.reduceAdd,HY])
theorem ZhG (hf:DU 7=some ⟨true,false,false,false,false,true,false,false,false,false,false⟩):JG 7=some (1+((Ci [1]:Nat):Int)):=by
 iterate 9 (try (refine fe ?_;simp(disch:=decide) only[J6,DN,hf,Option.bind_some,cond_true,cond_false,Int.reduceAdd,HY]))
 rfl
theorem ZI8 (r:List Int) (hb:Bytes r) (hf:DU 7=some ⟨true,false,false,false,false,true,false,false,false,false,false⟩) (h:r.length=Ci [1]):DE 7 r ⟨7,CE,0,0,0,AQ (fl r 0 1),0,0,0,0,0⟩ (0):=by
 have z:R8 7:=⟨by decide,by decide⟩;have C : Bytes (7::r):=Bytes.cons ⟨z.1,z.2⟩ hb;have F:r.length=1:=h;have D:decide ((0:Int)<=1/\(1:Int)<((7::r).length:Int))=true:=decide_eq_true ⟨by decide,by simp only[List.length_cons];omega⟩;have A:((7::r)[Int.toNat 1]? : Option Int)=some (fl r 0 1):=YE (a:=0) (by omega);refine NW (q:=(·.q0)) (f:=UA) z hb hf rfl (by decide) (by decide) (ZhG hf) (by rw[Gx];rfl) h (by decide) (LC _ _) rfl ?_ (SX (CV.VK _ (Ls hb 0)))
 iterate 10 (refine fe ?_;simp(disch:=decide) only[J5,DN,hf,D,A,Option.bind_some,cond_true,cond_false,Int.reduceAdd,HY])
theorem ZgY (k:Int) (hf:DU k=some ⟨true,false,false,false,false,false,false,false,true,false,false⟩):JG k=some (1+((Ci [8]:Nat):Int)):=by
 iterate 9 (try (refine fe ?_;simp(disch:=decide) only[J6,DN,hf,Option.bind_some,cond_true,cond_false,Int.reduceAdd,HY]))
 rfl
theorem ZFN (k:Int) (hk:k=8\/k=9) (r:List Int) (hb:Bytes r) (hf:DU k=some ⟨true,false,false,false,false,false,false,false,true,false,false⟩) (h:r.length=Ci [8]):DE k r ⟨k,CE,0,0,0,0,0,0,fl r 0 8,0,0⟩ (0):=by
 have z:R8 k:=⟨by rcases hk with rfl|rfl<;>decide,by rcases hk with rfl|rfl<;>decide⟩;have A : Bytes (k::r):=Bytes.cons ⟨z.1,z.2⟩ hb;have D:r.length=8:=h;have C:Gh (k::r) 1 8=some (fl r 0 8):=nm k r A 0 8 (by decide) (by omega) (by omega);refine NW (q:=(·.q0)) (f:=O7) z hb hf rfl (by decide) (by decide) (ZgY k hf) (by rcases hk with rfl|rfl<;>(rw[Gx];rfl)) h (by decide) (Ky _ _) rfl ?_ (SX (CV.kK _ _ hk (gb8 hb 0)))
 iterate 10 (refine fe ?_;simp(disch:=decide) only[J5,DN,hf,C,Option.bind_some,cond_true,cond_false,Int.reduceAdd,HY])
theorem ZhK (hf:DU 12=some ⟨true,false,false,false,false,false,false,false,false,true,false⟩):JG 12=some (1+((Ci [1]:Nat):Int)):=by
 iterate 9 (try (refine fe ?_;simp(disch:=decide) only[J6,DN,hf,Option.bind_some,cond_true,cond_false,Int.reduceAdd,HY]))
 rfl
theorem ZHQ (r:List Int) (hb:Bytes r) (hf:DU 12=some ⟨true,false,false,false,false,false,false,false,false,true,false⟩) (h:r.length=Ci [1]):DE 12 r ⟨12,CE,0,0,0,0,0,0,0,AQ (fl r 0 1),0⟩ (0):=by
 have z:R8 12:=⟨by decide,by decide⟩;have C : Bytes (12::r):=Bytes.cons ⟨z.1,z.2⟩ hb;have F:r.length=1:=h;have D:decide ((0:Int)<=1/\(1:Int)<((12::r).length:Int))=true:=decide_eq_true ⟨by decide,by simp only[List.length_cons];omega⟩;have A:((12::r)[Int.toNat 1]? : Option Int)=some (fl r 0 1):=YE (a:=0) (by omega);refine NW (q:=(·.q0)) (f:=Tv) z hb hf rfl (by decide) (by decide) (ZhK hf) (by rw[Gx];rfl) h (by decide) (LJ _ _) rfl ?_ (SX (CV.Xr _ (Ls hb 0)))
 iterate 10 (refine fe ?_;simp(disch:=decide) only[J5,DN,hf,D,A,Option.bind_some,cond_true,cond_false,Int.reduceAdd,HY])
theorem ZhW (hf:DU 13=some ⟨true,false,false,false,true,true,false,false,false,false,false⟩):JG 13=some (1+((Ci [1,1]:Nat):Int)):=by
 iterate 9 (try (refine fe ?_;simp(disch:=decide) only[J6,DN,hf,Option.bind_some,cond_true,cond_false,Int.reduceAdd,HY]))
 rfl
theorem ZHD (r:List Int) (hb:Bytes r) (hf:DU 13=some ⟨true,false,false,false,true,true,false,false,false,false,false⟩) (h:r.length=Ci [1,1]):DE 13 r ⟨13,CE,0,0,AQ (fl r 0 1),AQ (fl r 1 1),0,0,0,0,0⟩ (0):=by
 have z:R8 13:=⟨by decide,by decide⟩;have D : Bytes (13::r):=Bytes.cons ⟨z.1,z.2⟩ hb;have I:r.length=2:=h;have F:decide ((0:Int)<=1/\(1:Int)<((13::r).length:Int))=true:=decide_eq_true ⟨by decide,by simp only[List.length_cons];omega⟩;have A:((13::r)[Int.toNat 1]? : Option Int)=some (fl r 0 1):=YE (a:=0) (by omega);have G:decide ((0:Int)<=2/\(2:Int)<((13::r).length:Int))=true:=decide_eq_true ⟨by decide,by simp only[List.length_cons];omega⟩;have C:((13::r)[Int.toNat 2]? : Option Int)=some (fl r 1 1):=YE (a:=1) (by omega);refine NW (q:=(·.q0)) (f:=Tn) z hb hf rfl (by decide) (by decide) (ZhW hf) (by rw[Gx];rfl) h (by decide) (LQ _ _ _) rfl ?_ (SX (CV.VS _ _ (Ls hb 0) (Ls hb 1)))
 iterate 10 (refine fe ?_;simp(disch:=decide) only[J5,DN,hf,F,A,G,C,Option.bind_some,cond_true,cond_false,Int.reduceAdd,HY])
theorem Zi2 (hf:DU 15=some ⟨true,true,false,false,false,false,false,false,false,false,false⟩):JG 15=some (1+((Ci [1,2,2,2,2]:Nat):Int)):=by
 iterate 9 (try (refine fe ?_;simp(disch:=decide) only[J6,DN,hf,Option.bind_some,cond_true,cond_false,Int.reduceAdd,HY]))
 rfl
theorem ZIi (r:List Int) (hb:Bytes r) (hf:DU 15=some ⟨true,true,false,false,false,false,false,false,false,false,false⟩) (h:r.length=Ci [1,2,2,2,2]):DE 15 r ⟨15,⟨AQ (fl r 0 1),AQ (fl r 1 2),AQ (fl r 3 2),AQ (fl r 5 2),AQ (fl r 7 2)⟩,0,0,0,0,0,0,0,0,0⟩ (Hu ⟨AQ (fl r 0 1),AQ (fl r 1 2),AQ (fl r 3 2),AQ (fl r 5 2),AQ (fl r 7 2)⟩):=by
 have z:R8 15:=⟨by decide,by decide⟩;have A : Bytes (15::r):=Bytes.cons ⟨z.1,z.2⟩ hb;have C:r.length=9:=h;have tt:=tu 15 r A (by omega) (by omega);refine NW (q:=(·.q0)) (f:=UJ) z hb hf rfl (by decide) (by decide) (Zi2 hf) (by rw[Gx];rfl) h (by decide) (KH _ _ _ _ _ _) rfl ?_ (ZGJ _ (up_r hb) hf)
 iterate 10 (refine fe ?_;simp(disch:=decide) only[J5,DN,hf,tt,Option.bind_some,cond_true,cond_false,Int.reduceAdd,HY])
theorem ZhB (k:Int) (hf:DU k=some ⟨true,false,false,false,false,false,false,false,false,false,true⟩):JG k=some (1+((Ci [1]:Nat):Int)):=by
 iterate 9 (try (refine fe ?_;simp(disch:=decide) only[J6,DN,hf,Option.bind_some,cond_true,cond_false,Int.reduceAdd,HY]))
 rfl
theorem ZGI (k:Int) (hk:k=20\/k=21) (r:List Int) (hb:Bytes r) (hf:DU k=some ⟨true,false,false,false,false,false,false,false,false,false,true⟩) (h:r.length=Ci [1]):DE k r ⟨k,CE,0,0,0,0,0,0,0,0,AQ (fl r 0 1)⟩ (Io (AQ (fl r 0 1)) 27 251):=by
 have z:R8 k:=⟨by rcases hk with rfl|rfl<;>decide,by rcases hk with rfl|rfl<;>decide⟩;have C : Bytes (k::r):=Bytes.cons ⟨z.1,z.2⟩ hb;have F:r.length=1:=h;have D:decide ((0:Int)<=1/\(1:Int)<((k::r).length:Int))=true:=decide_eq_true ⟨by decide,by simp only[List.length_cons];omega⟩;have A:((k::r)[Int.toNat 1]? : Option Int)=some (fl r 0 1):=YE (a:=0) (by omega);refine NW (q:=(·.q0)) (f:=O8) z hb hf rfl (by decide) (by decide) (ZhB k hf) (by rcases hk with rfl|rfl<;>(rw[Gx];rfl)) h (by decide) (KF _ _) rfl ?_ (ZHW k _ hk (Ls hb 0) hf)
 iterate 10 (refine fe ?_;simp(disch:=decide) only[J5,DN,hf,D,A,Option.bind_some,cond_true,cond_false,Int.reduceAdd,HY])
theorem wlen {k n:Int} (hk:k=20\/k=21) (h:Io n 27 251=0):CV ⟨k,CE,0,0,0,0,0,0,0,0,n⟩:=by
 unfold Io at h
 by_cases q:n<27
 ·rw[decide_eq_true q]at h;cases h
 ·by_cases z:n>251
  ·rw[decide_eq_false q,decide_eq_true z]at h;cases h
  ·exact CV.len k n hk (by omega) (by omega)
theorem ZDv (b:List Int) (hb:Bytes b) (hl:b.length<=90000):∃x,MC b=some x/\OC b=some x/\(x.2=0->CV x.1)/\(x.2=12->1<=b.length):=by
 match b,hb,hl with
 | [],_,_=>exact⟨(EZ,3),fe rfl,fe rfl,fun h=>absurd h (by decide),fun h=>absurd h (by decide)⟩
 | k::r,D,G=>
  have z:R8 k:=⟨(D k List.mem_cons_self).1,(D k List.mem_cons_self).2⟩;have hb:Bytes r:=fun x Y=>D x (List.mem_cons_of_mem _ Y);have hl:r.length<=90000:=by simp only[List.length_cons]at G;omega
  have A:∀{c:AO} {e:Int},DE k r c e->(e=0->CV c)->∃x,MC (k::r)=some x/\OC (k::r)=some x/\(x.2=0->CV x.1)/\(x.2=12->1<=(k::r).length):=fun {c e} h hc=>by
   refine⟨_,h.1,h.2,?_,fun _=>by simp only[List.length_cons];omega⟩
   by_cases F:e=0
   ·subst F;exact fun _=>hc rfl
   ·rw[show (e != 0)=true by simpa using F];exact fun h=>absurd h F
  have C:(∃x,MC (k::r)=some x/\OC (k::r)=some x/\x.2≠0)->∃x,MC (k::r)=some x/\OC (k::r)=some x/\(x.2=0->CV x.1)/\(x.2=12->1<=(k::r).length):=fun⟨x,O,Q,S⟩=>⟨x,O,Q,fun h=>absurd h S,fun _=>by simp only[List.length_cons];omega⟩;rcases Z4b k with ⟨hf,hk⟩|⟨hf,hk⟩|⟨hf,hk⟩|⟨hf,hk⟩|⟨hf,hk⟩|⟨hf,hk⟩|⟨hf,hk⟩|⟨hf,hk⟩|⟨hf,hk⟩|⟨hf,hk⟩|⟨hf,hk⟩|⟨hf,hk⟩|⟨hf,hk⟩
  ·subst hk;by_cases h:r.length=Ci [1,2,2,2,2,2]
   ·exact A (ZIe r hb hf h) (fun h=>CV.upd _ _ h (yR _))
   ·exact C (NV (q:=(·.q0)) (f:=UB) z hb hf rfl (by decide) (by decide) (ZhF hf) hl (by rw[Gx];rfl) h)
  ·subst hk;by_cases h:r.length=Ci [5,2]
   ·exact A (ZIn r hb hf h) (fun h=>CV.map _ _ (gb5 hb 0) h (yR _))
   ·exact C (NV (q:=(·.q0)) (f:=UD) z hb hf rfl (by decide) (by decide) (ZhC hf) hl (by rw[Gx];rfl) h)
  ·subst hk;by_cases h:r.length=Ci [1]
   ·exact A (ZFo r hb hf h) (fun _=>CV.term _ (Ls hb 0))
   ·exact C (NV (q:=(·.q0)) (f:=Tu) z hb hf rfl (by decide) (by decide) (Zhh hf) hl (by rw[Gx];rfl) h)
  ·subst hk;by_cases h:r.length=Ci [8,8]
   ·exact A (ZGP r hb hf h) (fun _=>CV.enc _ _ (gb8 hb 0) (gb8 hb 8))
   ·exact C (NV (q:=(·.q0)) (f:=Tz) z hb hf rfl (by decide) (by decide) (ZhM hf) hl (by rw[Gx];rfl) h)
  ·subst hk;by_cases h:r.length=Ci [8]
   ·exact A (ZIw r hb hf h) (fun _=>CV.ans _ (gb8 hb 0))
   ·exact C (NV (q:=(·.q0)) (f:=Tm) z hb hf rfl (by decide) (by decide) (Zhz hf) hl (by rw[Gx];rfl) h)
  ·by_cases h:r.length=Ci []
   ·exact A (dk_pl k hk r hb hf h) (fun _=>CV.plain _ hk)
   ·exact C (NV (q:=(·.q0)) (f:=JU) z hb hf rfl (by decide) (by decide) (Zic k hf) hl (by rcases hk with rfl|rfl|rfl|rfl<;>(rw[Gx];rfl)) h)
  ·subst hk;by_cases h:r.length=Ci [1]
   ·exact A (ZI8 r hb hf h) (fun _=>CV.VK _ (Ls hb 0))
   ·exact C (NV (q:=(·.q0)) (f:=UA) z hb hf rfl (by decide) (by decide) (ZhG hf) hl (by rw[Gx];rfl) h)
  ·by_cases h:r.length=Ci [8]
   ·exact A (ZFN k hk r hb hf h) (fun _=>CV.kK _ _ hk (gb8 hb 0))
   ·exact C (NV (q:=(·.q0)) (f:=O7) z hb hf rfl (by decide) (by decide) (ZgY k hf) hl (by rcases hk with rfl|rfl<;>(rw[Gx];rfl)) h)
  ·subst hk;by_cases h:r.length=Ci [1]
   ·exact A (ZHQ r hb hf h) (fun _=>CV.Xr _ (Ls hb 0))
   ·exact C (NV (q:=(·.q0)) (f:=Tv) z hb hf rfl (by decide) (by decide) (ZhK hf) hl (by rw[Gx];rfl) h)
  ·subst hk;by_cases h:r.length=Ci [1,1]
   ·exact A (ZHD r hb hf h) (fun _=>CV.VS _ _ (Ls hb 0) (Ls hb 1))
   ·exact C (NV (q:=(·.q0)) (f:=Tn) z hb hf rfl (by decide) (by decide) (ZhW hf) hl (by rw[Gx];rfl) h)
  ·subst hk;by_cases h:r.length=Ci [1,2,2,2,2]
   ·exact A (ZIi r hb hf h) (fun h=>CV.par _ h)
   ·exact C (NV (q:=(·.q0)) (f:=UJ) z hb hf rfl (by decide) (by decide) (Zi2 hf) hl (by rw[Gx];rfl) h)
  ·by_cases h:r.length=Ci [1]
   ·exact A (ZGI k hk r hb hf h) (fun h=>wlen hk h)
   ·exact C (NV (q:=(·.q0)) (f:=O8) z hb hf rfl (by decide) (by decide) (ZhB k hf) hl (by rcases hk with rfl|rfl<;>(rw[Gx];rfl)) h)
  ·have I:AQ k=k:=E8 (by have:=z.1;omega) (by have:=z.2;omega);have J:(((k::r).length:Int)==0)=false:=beq_false_of_ne (by simp only[List.length_cons];omega);have M:decide ((0:Int)<=0/\(0:Int)<((k::r).length:Int))=true:=decide_eq_true ⟨by decide,by simp only[List.length_cons];omega⟩;have N:((k::r)[Int.toNat 0]? : Option Int)=some k:=rfl;refine⟨(EZ,12),?_,fe ?_,fun h=>absurd h (by decide),fun _=>by simp only[List.length_cons];omega⟩
   ·rw[Gx,I,beq_false_of_ne (show k≠5 by omega),beq_false_of_ne (show k≠6 by omega),beq_false_of_ne (show k≠18 by omega),beq_false_of_ne (show k≠19 by omega),beq_false_of_ne (show k≠8 by omega),beq_false_of_ne (show k≠9 by omega),beq_false_of_ne (show k≠20 by omega),beq_false_of_ne (show k≠21 by omega),beq_false_of_ne (show k≠0 by omega),beq_false_of_ne (show k≠1 by omega),beq_false_of_ne (show k≠15 by omega),beq_false_of_ne (show k≠2 by omega),beq_false_of_ne (show k≠3 by omega),beq_false_of_ne (show k≠4 by omega),beq_false_of_ne (show k≠7 by omega),beq_false_of_ne (show k≠12 by omega),beq_false_of_ne (show k≠13 by omega)];rfl
   ·simp only[qL,DN,J,M,N,I,hf,Option.bind_some,Bool.not_false,cond_true,cond_false]
def VQ (r:Nat):Nat:=if r<64 then 2*r else (2*r % 128) ^^^ 17
theorem ZIx {r:Nat} (h:r<128):VQ r<128:=by
 unfold VQ;split
 ·omega
 ·exact Nat.xor_lt_two_pow (n:=7) (by omega) (by decide)
def FQ (r:Nat):Nat->Nat
 | 0=>r
 | j+1=>VQ (FQ r j)
theorem jJ {r:Nat} (h:r<128):∀j,FQ r j<128
 | 0=>h
 | j+1=>ZIx (jJ h j)
def JS (r:Nat):Nat->Nat
 | 0=>0
 | j+1=>JS r j+2 ^ j*(FQ r j / 64)
theorem Z4I {r:Nat} (h:r<128):∀j,JS r j<2 ^ j
 | 0=>by simp[JS]
 | j+1=>by
  have z:=Z4I h j;have A:=jJ h j;have q:FQ r j / 64<=1:=by omega
  have C:2 ^ j*(FQ r j / 64)<=2 ^ j*1:=Nat.mul_le_mul_left _ q;rw[JS,Nat.pow_succ];omega
def Jt (r:Nat):Nat->List Int
 | 0=>[]
 | n+1=>Jt r n++[((JS (FQ r (8*n)) 8:Nat):Int)]
theorem dH (r:Nat):∀n,(Jt r n).length=n
 | 0=>rfl
 | n+1=>by rw[Jt,List.length_append,dH r n];rfl
theorem Z48 (r a:Nat):∀b,FQ r (a+b)=FQ (FQ r a) b
 | 0=>rfl
 | b+1=>by rw[<- Nat.add_assoc,FQ,FQ,Z48 r a b]
def KQ (c:Int):Nat:=64+(max 0 (min c 39)).toNat
theorem Zfa (c:Int):KQ c<128:=by unfold KQ;omega
theorem Zrc (c:Int):Z0I c=some ((KQ c:Nat):Int):=(Aj _ _).trans (by
 simp only[Zaa,DN,Option.some.injEq];rw[E8 (by split<;>(try split)<;>omega) (by split<;>(try split)<;>omega)];unfold KQ;split<;>(try split)<;>omega)
theorem ZwN (c:Int):rG c=some ((KQ c:Nat):Int):=(Aj _ _).trans (by
 simp only[Z2h,DN,Option.some.injEq];rw[E8 (by split<;>(try split)<;>omega) (by split<;>(try split)<;>omega)];unfold KQ;split<;>(try split)<;>omega)
theorem Zyg (r:Nat) (h:r<128):sU (r:Int)=some ((VQ r:Nat):Int):=by
 have:∀r:Fin 128,bits .xor .i64 (Int.tmod (AQ ((r.val:Int)*2)) 128) (17:Int)=(((2*r.val % 128) ^^^ 17:Nat):Int):=by decide +kernel
 have q:=this ⟨r,h⟩;refine(Aj _ _).trans ?_;simp only[Z2B,DN]at q ⊢;unfold VQ
 by_cases z:r<64
 ·rw[decide_eq_false (by omega),if_pos z,cond_false,E8 (by omega) (by omega),show (r:Int)*2=((2*r:Nat):Int) by omega,show Int.tmod ((2*r:Nat):Int) 128=((2*r % 128:Nat):Int) from(Int.ofNat_tmod _ _).symm,Nat.mod_eq_of_lt (by omega)]
 ·rw[decide_eq_true (by omega),if_neg z,cond_true,q]
theorem Zsf (r:Nat) (h:r<128):Z0Y (r:Int)=some (((r / 64:Nat):Int),((VQ r:Nat):Int)):=by
 have:∀r:Fin 128,bits .xor .i64 (bits .and .i64 (AQ ((r.val:Int)*2 ^ (1:Nat))) (127:Int)) (17:Int)=(((2*r.val % 128) ^^^ 17:Nat):Int):=by decide +kernel
 have q:=this ⟨r,h⟩;refine(Aj _ _).trans ?_;simp only[Zb7,DN]at q ⊢;unfold VQ
 by_cases z:r<64
 ·rw[decide_eq_true (by omega),if_pos z,cond_true,E8 (by omega) (by omega),show r / 64=0 by omega,show (r:Int)*2 ^ 1=((2*r:Nat):Int) by omega];rfl
 ·rw[decide_eq_false (by omega),if_neg z,cond_false,q,show r / 64=1 by omega];rfl
theorem ZhL {r j:Nat} (h:r<128) (q:j<8):2 ^ j<=128/\FQ r j / 64<=1/\2 ^ j*(FQ r j / 64)<=2 ^ j/\JS r j<2 ^ j/\FQ r j<128:=by
 have hs:=jJ h j;have hb:FQ r j / 64<=1:=by omega
 exact⟨Nat.pow_le_pow_right (j:=7) (by decide) (by omega),hb,Nat.le_trans (Nat.mul_le_mul_left _ hb) (by omega),Z4I h j,hs⟩
theorem ZBR (n i:Int) (acc:List Int) (r j:Nat) (h:r<128) (F:j<8) :
  AU MF (.b2 n acc ((FQ r j:Nat):Int) i ((JS r j:Nat):Int) ((2 ^ j:Nat):Int) (j:Int))=AU MF (.b2 n acc ((FQ r (j+1):Nat):Int) i ((JS r (j+1):Nat):Int) ((2 ^ (j+1):Nat):Int) ((j+1:Nat):Int)):=(Aj _ _).trans (by
 obtain⟨b1,b2,b3,b4,b5⟩:=ZhL h F;have q:Int.tdiv ((FQ r j:Nat):Int) 64=((FQ r j / 64:Nat):Int):=(Int.ofNat_tdiv _ 64).symm;have z:AQ (((2 ^ j:Nat):Int)*AQ ((FQ r j / 64:Nat):Int))=((2 ^ j*(FQ r j / 64):Nat):Int):=by
  rw[E8 (n:=((FQ r j / 64:Nat):Int)) (by omega) (by omega),<- Int.natCast_mul,E8 (by omega) (by omega)]
 have A:AQ (((JS r j:Nat):Int)+((2 ^ j*(FQ r j / 64):Nat):Int))=((JS r (j+1):Nat):Int):=by
  rw[<- Int.natCast_add,E8 (by omega) (by omega)];rfl
 have C:AQ (((2 ^ j:Nat):Int)*2)=((2 ^ (j+1):Nat):Int):=by
  rw[E8 (by omega) (by omega),Nat.pow_succ];exact(Int.natCast_mul _ 2).symm
 have D:decide ((j:Int)<8)=true:=decide_eq_true (by omega);simp only[MF,DN,D,cond_true,Zyg _ b5,Option.bind_some,beq_self_eq_true,q,z,A,C,Ru j (by omega)];rfl)
theorem ZA8 (n:Int) (acc:List Int) (r i:Nat) (h:r<128) (D:i<1000000) (C:acc.length<=100000) :
  AU MF (.b2 n acc (r:Int) (i:Int) 0 1 0)=AU MF (.b1 n (acc++[((JS r 8:Nat):Int)]) ((FQ r 8:Nat):Int) ((i+1:Nat):Int)):=by
 have s:=fun j A=>ZBR n (i:Int) acc r j h A;refine(s 0 (by omega)).trans ((s 1 (by omega)).trans ((s 2 (by omega)).trans ((s 3 (by omega)).trans ((s 4 (by omega)).trans ((s 5 (by omega)).trans ((s 6 (by omega)).trans ((s 7 (by omega)).trans ((Aj _ _).trans ?_))))))));have F:JS r 8<256:=Z4I h 8;have q:decide (((7+1:Nat):Int)<8)=false:=by decide
 have z:=Xx (n:=((JS r (7+1):Nat):Int)) (by omega) (by show ((JS r 8:Nat):Int)<256;omega);simp(disch:=omega) only[MF,q,z,DN,SL,SM]
theorem ZyL (n r:Nat) (h:r<128) (A:n<=100000):∀d i:Nat,i+d=n->AU MF (.b1 (n:Int) (Jt r i) ((FQ r (8*i):Nat):Int) (i:Int))=some (Jt r n):=by
 intro d;induction d with
 | zero=>
  intro i q;rw[show i=n by omega];refine(Aj _ _).trans ?_;simp only[MF,Int.lt_irrefl,DN,SL,SM]
 | succ d z=>
  intro i q;refine(Aj _ _).trans ?_;have hl:i<n:=by omega
  simp(disch:=omega) only[MF,hl,DN,SL,SM];refine(ZA8 (n:Int) (Jt r i) (FQ r (8*i)) i (jJ h _) (by omega) (by rw[dH];omega)).trans ?_;have:=z (i+1) (by omega);rw[show 8*(i+1)=8*i+8 by omega,Z48]at this;exact this
theorem ZqT (c:Int) (n:Nat) (q:n<=100000):o5 c (n:Int)=some (Jt (KQ c) n):=(Aj _ _).trans (by
 simp only[MF,ZwN,DN,SL,SM];exact ZyL n (KQ c) (Zfa c) q n 0 (by omega))
theorem or_bit (v y j:Nat) (z:j<8) (A:v<2 ^ j) (q:y<=1):bits .or .u8 (v:Int) ((2 ^ j*y:Nat):Int)=((v+2 ^ j*y:Nat):Int):=by
 have hp:2 ^ j<=128:=Nat.pow_le_pow_right (j:=7) (by decide) (by omega);have hm:2 ^ j*y<=2 ^ j*1:=Nat.mul_le_mul_left _ q;rw[Z4O .u8 8 (by decide) wraps_u8 j (by omega) (v:Int) ((2 ^ j*y:Nat):Int) (by omega) (by
  rw[show (2:Int) ^ j=((2 ^ j:Nat):Int) by simp,<- Int.natCast_emod,Nat.mul_mod_right];rfl) (by omega) (by omega) (by
  rw[show (2:Int) ^ j=((2 ^ j:Nat):Int) by simp];omega)]
 omega
theorem ZgQ (pre post:List Int) (v:Int) (i:Nat) (h:pre.length=i):(pre++v::post)[i]? = some v:=by
 subst h;simp
theorem Zh1 (pre post:List Int) (v u:Int) (i:Nat) (h:pre.length=i):(pre++v::post).set i u=pre++u::post:=by
 subst h;simp
theorem Zte (n:Int) (pre post:List Int) (r j i:Nat) (h:r<128) (q:j<8) (hp:pre.length=i) :
  AU Ny (.b2 ((FQ r j:Nat):Int) (pre++((JS r j:Nat):Int)::post) (i:Int) n (i:Int) (j:Int))=AU Ny (.b2 ((FQ r (j+1):Nat):Int) (pre++((JS r (j+1):Nat):Int)::post) (i:Int) n (i:Int) ((j+1:Nat):Int)):=(Aj _ _).trans (by
 obtain⟨b1,b2,b3,b4,b5⟩:=ZhL h q;have z:decide ((j:Int)<8)=true:=decide_eq_true (by omega);have A:decide ((0:Int)<=(i:Int)/\(i:Int)<((pre.length+(post.length+1):Nat):Int))=true:=decide_eq_true ⟨by omega,by omega⟩;have C:decide ((0:Int)<=(j:Int))=true:=decide_eq_true (by omega);have D:IntKind.wrap .u8 (AQ (((FQ r j / 64:Nat):Int)*2 ^ (min j (IntKind.bits .i64))))=((2 ^ j*(FQ r j / 64):Nat):Int):=by
  rw[show min j (IntKind.bits .i64)=j from Nat.min_eq_left (by show j<=64;omega),show ((FQ r j / 64:Nat):Int)*2 ^ j=((2 ^ j*(FQ r j / 64):Nat):Int) by rw[Int.natCast_mul,Int.mul_comm];simp,E8 (by omega) (by omega),Xx (by omega) (by omega)]
 have F:(decide (0<=i))=true:=rfl;simp only[Ny,DN,z,A,C,D,F,cond_true,Zsf _ b5,Option.bind_some,beq_self_eq_true,Bool.and_self,Int.toNat_natCast,ZgQ _ _ _ _ hp,Zh1 _ _ _ _ _ hp,or_bit _ _ _ q b4 b2,List.length_append,List.length_cons,Ru j (by omega)];rfl)
theorem Zst (n:Int) (pre post:List Int) (r i:Nat) (h:r<128) (hp:pre.length=i) (A:i<1000000) :
  AU Ny (.b2 (r:Int) (pre++0::post) (i:Int) n (i:Int) 0)=AU Ny (.b1 ((FQ r 8:Nat):Int) (pre++[((JS r 8:Nat):Int)]++post) n ((i+1:Nat):Int)):=by
 have s:=fun j z=>Zte n pre post r j i h z hp;refine(s 0 (by omega)).trans ((s 1 (by omega)).trans ((s 2 (by omega)).trans ((s 3 (by omega)).trans ((s 4 (by omega)).trans ((s 5 (by omega)).trans ((s 6 (by omega)).trans ((s 7 (by omega)).trans ((Aj _ _).trans ?_))))))));have q:decide (((7+1:Nat):Int)<8)=false:=by decide
 simp(disch:=omega) only[Ny,q,Ru i (by omega),DN,cond_false,cond_true,beq_self_eq_true];rw[List.append_assoc];rfl
theorem Zry (n r:Nat) (h:r<128) (A:n<=100000):∀d i:Nat,i+d=n->AU Ny (.b1 ((FQ r (8*i):Nat):Int) (Jt r i++List.replicate (n - i) 0) (n:Int) (i:Int))=some ⟨Jt r n⟩:=by
 intro d;induction d with
 | zero=>
  intro i q;rw[show i=n by omega,Nat.sub_self,List.replicate_zero,List.append_nil];refine(Aj _ _).trans ?_;simp only[Ny,Int.lt_irrefl,DN,SL,SM]
 | succ d z=>
  intro i q;refine(Aj _ _).trans ?_;have hl:i<n:=by omega
  simp(disch:=omega) only[Ny,hl,DN,SL,SM];rw[show n - i=(n - (i+1))+1 by omega,List.replicate_succ];refine(Zst (n:Int) (Jt r i) (List.replicate (n - (i+1)) 0) (FQ r (8*i)) i (jJ h _) (dH r i) (by omega)).trans ?_;have:=z (i+1) (by omega);rw[show 8*(i+1)=8*i+8 by omega,Z48]at this;exact this
theorem Zoo (c:Int) (n:Nat) (z:n<=100000):Z01 c (n:Int)=some ⟨Jt (KQ c) n⟩:=(Aj _ _).trans (by
 have q:decide ((0:Int)<=(n:Int)/\(n:Int)<=(n:Int)/\n*1<=lim/\(n:Int)<=((maxLen:Nat):Int))=true:=by
  have:=Us;have:=U6;exact decide_eq_true ⟨by omega,by omega,by omega,by omega⟩
 simp only[Ny,DN,Zrc,Option.bind_some,Int.toNat_natCast,q,cond_true,beq_self_eq_true,List.length_replicate];exact Zry n (KQ c) (Zfa c) z n 0 (by omega))
def xw (s b:List Int):List Int:=List.zipWith (fun x y=>bits .xor .u8 x y) s b
theorem ZGl {s b:List Int} (h:s.length=b.length):(xw s b).length=b.length:=by
 unfold xw;rw[List.length_zipWith,h,Nat.min_self]
theorem ZC1 (x y:Int):bits .xor .u8 x y=bits .xor .u8 y x:=by
 simp only[bits,BitVec.xor_comm]
theorem Zhu (s b:List Int) (i:Nat) (hs:i<s.length) (hb:i<b.length):xw (s.take (i+1)) (b.take (i+1))=xw (s.take i) (b.take i)++[bits .xor .u8 s[i] b[i]]:=by
 unfold xw;rw[List.take_succ_eq_append_getElem hs,List.take_succ_eq_append_getElem hb,List.zipWith_append (by rw[List.length_take,List.length_take];omega)];rfl
theorem Zhv (s b:List Int) (i:Nat) (hs:i<=s.length) (hb:i<=b.length):(xw (s.take i) (b.take i)).length=i:=by
 rw[ZGl (by rw[List.length_take,List.length_take];omega),List.length_take];omega
theorem ZrC (s b:List Int) (hl:s.length=b.length) (J:b.length<=100000):∀d i:Nat,i+d=b.length->AU aB (.b1 (xw (s.take i) (b.take i)++s.drop i) b (b.length:Int) (i:Int))=some (xw s b):=by
 intro d;induction d with
 | zero=>
  intro i G;have e:i=b.length:=by omega
  subst e;refine(Aj _ _).trans ?_;simp only[aB,Int.lt_irrefl,DN,SL,SM];rw[List.drop_eq_nil_of_le (by omega),List.append_nil,List.take_of_length_le (by omega),List.take_of_length_le (by omega)]
 | succ d I=>
  intro i G;refine(Aj _ _).trans ?_;have q:i<b.length:=by omega
  have z:i<s.length:=by omega
  have hp:=Zhv s b i (by omega) (by omega);have A:decide ((0:Int)<=(i:Int)/\(i:Int)<((i+((s.drop (i+1)).length+1):Nat):Int))=true:=decide_eq_true ⟨by omega,by omega⟩;have C:decide ((0:Int)<=(i:Int)/\(i:Int)<(b.length:Int))=true:=decide_eq_true ⟨by omega,by omega⟩;have D:decide ((i:Int)<(b.length:Int))=true:=decide_eq_true (by omega);have F:(decide (0<=i))=true:=rfl;rw[List.drop_eq_getElem_cons z];simp only[aB,DN,C,D,F,cond_true,Option.bind_some,beq_self_eq_true,Bool.and_self,Int.toNat_natCast,ZgQ _ _ _ _ hp,Zh1 _ _ _ _ _ hp,List.length_append,List.length_cons,hp,A,List.getElem?_eq_getElem q,Ru i (by omega)];have:=I (i+1) (by omega);rw[Zhu s b i z q,List.append_assoc]at this;exact this
theorem Zqe (c:Int) (b:List Int) (q:b.length<=100000):oU c b=some (xw (Jt (KQ c) b.length) b):=(Aj _ _).trans (by
 simp only[aB,DN,Zoo c b.length q,Option.bind_some,beq_self_eq_true,cond_true];exact ZrC (Jt (KQ c) b.length) b (dH _ _) q b.length 0 (by omega))
theorem Zzt (s b:List Int) (hl:s.length=b.length) (D:b.length<=100000):∀d i:Nat,i+d=b.length->AU WJ (.b1 b s (xw (s.take i) (b.take i)) (i:Int))=some ⟨xw s b⟩:=by
 intro d;induction d with
 | zero=>
  intro i A;have e:i=b.length:=by omega
  subst e;refine(Aj _ _).trans ?_;simp only[WJ,Int.lt_irrefl,DN,SL,SM];rw[List.take_of_length_le (by omega),List.take_of_length_le (by omega)]
 | succ d C=>
  intro i A;refine(Aj _ _).trans ?_;have q:i<b.length:=by omega
  have z:i<s.length:=by omega
  have hp:=Zhv s b i (by omega) (by omega);simp(disch:=omega) only[WJ,q,z,hp,DN,SL,SM];have:=C (i+1) (by omega);rw[Zhu s b i z q,ZC1]at this;exact this
theorem Zvs (c:Int) (b:List Int) (q:b.length<=100000):dW c b=some ⟨xw (Jt (KQ c) b.length) b⟩:=(Aj _ _).trans (by
 simp only[WJ,ZqT c b.length q,DN,SL,SM];exact Zzt (Jt (KQ c) b.length) b (dH _ _) q b.length 0 (by omega))
theorem kD (n:Int):IntKind.u16.wrap n=n % 65536:=by simp[IntKind.wrap,IntKind.bits,IntKind.signed]
theorem ZD6 (x a i:Nat) (C:x<65536) (A:a<65536) (D:i<8):AU Vo (.b1 x a i)=AU Vo (.b1 x (a ||| ((x >>> i &&& 257) <<< (7 - i)):Nat) (i+1:Nat)):=by
 refine(Aj _ _).trans ?_;simp only[Vo,DN];have hs:(x >>> i &&& 257) <<< (7 - i)<65536:=by
  have q:(x >>> i &&& 257)<=257:=Nat.and_le_right;rw[Nat.shiftLeft_eq];have z:2 ^ (7 - i)<=2 ^ 7:=Nat.pow_le_pow_right (by decide) (by omega);exact Nat.lt_of_le_of_lt (Nat.mul_le_mul q z) (by decide)
 rw[show decide ((i:Int)<8)=true by simp;omega,Ox (n:=7 - (i:Int)) (by omega) (by omega),show decide ((0:Int)<=(i:Int))=true by simp,show decide ((0:Int)<=7 - (i:Int))=true by simp;omega];simp only[cond_true];rw[Ox (n:=(i:Int)+1) (by omega) (by omega),show (i:Int).toNat=i by omega,show (7 - (i:Int)).toNat=7 - i by omega,
  show min i IntKind.u16.bits=i from Nat.min_eq_left (by simp[IntKind.bits];omega),show min (7 - i) IntKind.u16.bits=7 - i from Nat.min_eq_left (by simp[IntKind.bits];omega),fd]
 rw[show (257:Int)=((257:Nat):Int) from rfl,u16_and_nat _ _ (Nat.lt_of_le_of_lt (Nat.div_le_self _ _) C) (by decide),kD];rw[show ((x / 2 ^ i &&& 257:Nat):Int)*2 ^ (7 - i)=(((x >>> i &&& 257) <<< (7 - i):Nat):Int) by rw[Nat.shiftLeft_eq,Nat.shiftRight_eq_div_pow];simp];have hm:(((x >>> i &&& 257) <<< (7 - i):Nat):Int) % 65536=(((x >>> i &&& 257) <<< (7 - i):Nat):Int):=Int.emod_eq_of_lt (Int.natCast_nonneg _) (Int.ofNat_lt.mpr hs);rw[hm,u16_or_nat _ _ A hs];rfl
theorem ZEG {a b:Nat} (q:a<65536) (hb:b<65536):a ||| b<65536:=Nat.or_lt_two_pow (n:=16) q hb
theorem sh_lt (x i:Nat):(x >>> i &&& 257) <<< (7 - i)<65536:=by
 have q:(x >>> i &&& 257)<=257:=Nat.and_le_right;rw[Nat.shiftLeft_eq];have z:2 ^ (7 - i)<=2 ^ 7:=Nat.pow_le_pow_right (by decide) (by omega);exact Nat.lt_of_le_of_lt (Nat.mul_le_mul q z) (by decide)
def Xy (x:Nat):Nat->Nat
 | 0=>0
 | i+1=>Xy x i ||| ((x >>> i &&& 257) <<< (7 - i))
theorem ZGY (x i:Nat):Xy x i<65536:=by
 induction i with
 | zero=>exact(by decide:(0:Nat)<65536)
 | succ i q=>exact ZEG q (sh_lt x i)
theorem ZDt (x:Nat) (z:x<65536):∀j i:Nat,i+j=8->AU Vo (.b1 x (Xy x i:Nat) i)=some ((Xy x 8:Nat):Int):=by
 intro j;induction j with
 | zero=>
  intro i q;refine(Aj _ _).trans ?_;simp only[Vo,DN];rw[show decide ((i:Int)<8)=false by simp;omega,show i=8 by omega];rfl
 | succ j A=>
  intro i q;rw[ZD6 x _ i z (ZGY x i) (by omega)];exact A (i+1) (by omega)
theorem ZEU (x:Nat):Xy x 8=Kr x:=by
 simp only[Xy,Kr,Nat.zero_or]
theorem Zs7 (x:Nat) (q:x<65536):Z16 (x:Int)=some ((Kr x:Nat):Int):=(Aj _ _).trans (by
 rw[<- ZEU];exact ZDt x q 8 0 (by omega))
def VJ (c:Nat):Nat->Nat->Nat
 | 0,a=>a ^^^ c
 | k+1,a=>VJ c k ((17*Kr a+c) % 65536)
theorem ZI0 (c:Nat) (hc:c<65536):∀k a,a<65536->VJ c k a<65536:=by
 intro k;induction k with
 | zero=>intro a q;exact Nat.xor_lt_two_pow (n:=16) q hc
 | succ k z=>intro a q;exact z _ (Nat.mod_lt _ (by decide))
theorem ZDy (c:Nat) (hc:c<65536):∀j i a:Nat,i+j=3->a<65536->AU bW (.b1 c a i)=some ((VJ c j a:Nat):Int):=by
 intro j;induction j with
 | zero=>
  intro i a z q;refine(Aj _ _).trans ?_;simp only[bW,DN];rw[show decide ((i:Int)<3)=false by simp;omega];simp only[cond_false];rw[u16_xor_nat _ _ q hc];rfl
 | succ j A=>
  intro i a z q;refine(Aj _ _).trans ?_;simp only[bW,DN];rw[show decide ((i:Int)<3)=true by simp;omega,Zs7 a q];simp only[cond_true,Option.bind_some];rw[kD,kD,Ox (by omega) (by omega)];have hl:=ZIc a q;rw[show (((Kr a:Nat):Int)*17 % 65536+(c:Int)) % 65536=(((17*Kr a+c) % 65536:Nat):Int) by omega];exact A (i+1) _ (by omega) (Nat.mod_lt _ (by decide))
theorem Zcr (c d:Nat) (hc:c<65536) (q:d<65536):qO (c:Int) (d:Int)=some ((VJ d 3 (c ^^^ d):Nat):Int):=(Aj _ _).trans (by
 simp only[bW,DN];rw[u16_xor_nat _ _ hc q];exact ZDy d q 3 0 _ (by omega) (Nat.xor_lt_two_pow (n:=16) hc q))
def ident (a:Nat):Nat:=(a / 65536) ^^^ (a % 65536)
theorem vI (a:Nat) (q:a<4294967296):ident a<65536:=Nat.xor_lt_two_pow (n:=16) (by omega) (by omega)
theorem Zd1 (a:Nat) (q:a<4294967296):rM (a:Int)=some ((ident a:Nat):Int):=(Aj _ _).trans (by
 simp only[Zdj,DN];rw[fd,kD,kD,show ((a / 2 ^ 16:Nat):Int) % 65536=((a / 65536:Nat):Int) by omega,show (a:Int) % 65536=((a % 65536:Nat):Int) by omega,u16_xor_nat _ _ (by omega) (by omega)];rfl)
def draw (e a:Nat):Nat:=VJ (ident a) 3 (e ^^^ ident a)
theorem ZgJ (e a:Nat) (z:e<65536) (q:a<4294967296):draw e a<65536:=ZI0 _ (vI a q) 3 _ (Nat.xor_lt_two_pow (n:=16) z (vI a q))
def mix (m:Int) (e a:Nat):Int:=if has m ((draw e a % 37:Nat):Int) then ((draw e a % 37:Nat):Int) else P7 m (cnt m*(draw e a:Nat) / 65536)
theorem tm37 (n:Nat) (h:n<65536):Int.tmod (AQ (n:Int)) 37=((n % 37:Nat):Int):=by
 rw[Ox (by omega) (by omega),Int.tmod_eq_emod_of_nonneg (Int.natCast_nonneg _)];omega
theorem cd_bd (m:Int) (n:Nat) (h:n<65536):0<=cnt m*(n:Int)/\cnt m*(n:Int)<=2424832:=by
 have:=ZHo m;refine⟨Int.mul_nonneg this.1 (by omega),?_⟩;exact Int.le_trans (Int.mul_le_mul this.2 (show (n:Int)<=65536 by omega) (by omega) (by decide)) (by decide)
theorem ZCg (m e a:Nat) (hm:m<18446744073709551616) (A:e<65536) (q:a<4294967296):Z3c (m:Int) (e:Int) (a:Int)=some (mix m e a):=(Aj _ _).trans (by
 simp only[ZfM,DN,Zd1 a q,Option.bind_some,Zcr e _ A (vI a q),Zbb (m:Int) _ (Int.natCast_nonneg m),Z0w m hm,Zb3,mix];rw[show VJ (ident a) 3 (e ^^^ ident a)=draw e a from rfl];have z:=ZgJ e a A q;have hc:=cd_bd m _ z;rw[tm37 _ z,Ox (n:=((draw e a:Nat):Int)) (by omega) (by omega),Ox (by omega) (by omega),show ((2:Int) ^ 16)=65536 from rfl,Int.fdiv_eq_ediv_of_nonneg _ (by decide)];cases has (m:Int) ((draw e a % 37:Nat):Int)<;>rfl)
def step (l h:Int):Int:=Int.tmod (AQ ((AQ ((Int.tmod l (37:Int))+(Int.tmod h (37:Int))))+(74:Int))) (37:Int)
theorem Zzb (l h:Int):Z2y l h=some (step l h):=(Aj _ _).trans rfl
structure PWF (p:FO):Prop where
 acc:0<=p.Jq/\p.Jq<4294967296
 map:0<=p.Map/\p.Map<18446744073709551616
def Zio (p:FO) (e:Nat) (l:Int):Int×Int:=
 if p.QL=2 then (mix p.Map e p.Jq.toNat,((draw e p.Jq.toNat % 37:Nat):Int)) else (Z52 p.Map (step l p.Hop),step l p.Hop)
theorem ZyX (p:FO) (hp:PWF p) (e:Nat) (q:e<65536) (l:Int):eU p (e:Int) l=some (Zio p e l):=(Aj _ _).trans (by
 obtain⟨a,z⟩:∃a:Nat,p.Jq=a:=⟨p.Jq.toNat,by have:=hp.acc;omega⟩;obtain⟨m,hm⟩:∃m:Nat,p.Map=m:=⟨p.Map.toNat,by have:=hp.map;omega⟩;have A:=hp.acc;have C:=hp.map;simp only[ZdW,DN,Zio,z,hm,Int.toNat_natCast]at *;rw[Zd1 a (by omega)];simp only[Option.bind_some];rw[Zcr e _ q (vI a (by omega)),ZCg m e a (by omega) q (by omega),Zzb];simp only[Option.bind_some];rw[ZpZ m (by omega)];rw[show VJ (ident a) 3 (e ^^^ ident a)=draw e a from rfl];have D:=ZgJ e a q (by omega)
 by_cases h:p.QL=2
 ·rw[h,show Int.tmod ((draw e a:Nat):Int) 37=((draw e a % 37:Nat):Int) by rw[Int.tmod_eq_emod_of_nonneg (Int.natCast_nonneg _)];omega,Ox (by omega) (by omega)];rfl
 ·rw[show (p.QL==2)=false by simpa using h,if_neg h];rfl)
theorem ZdV (A:FO) (q F:Int) (C:JD A) (D:R16 q):∃r,eU A q F=some r/\True:=by
 obtain⟨e,G⟩:∃e:Nat,q=e:=⟨q.toNat,by have:=D.1;omega⟩;have z:e<65536:=by have:=D.2;omega
 exact⟨_,by rw[G];exact ZyX A ⟨C.1,C.2.2⟩ e z F,trivial⟩
theorem Z8j (q:Jm):∃r,nD q=some r/\r=(q.Link.CQ==0):=⟨_,fe rfl,rfl⟩
theorem ZsT (p0:Ad):∃r,aW p0=some r/\r=JA p0:=⟨_,ZbW p0,rfl⟩
def TJ (l:CW):CW:=bif must l false then l else { l with EJ:=AQ (l.EJ+1) }
theorem ZqU (p0:CW):∃r,Z0G p0=some r/\r.1=TJ p0:=by
 unfold TJ;cases h:must p0 false
 ·exact⟨({ p0 with EJ:=AQ (p0.EJ+1) },0),fe (by simp only[Z0N,DN,Z0F,h,Option.bind_some,cond_false]),rfl⟩
 ·exact⟨(p0,9),fe (by simp only[Z0N,DN,Z0F,h,Option.bind_some,cond_true]),rfl⟩
theorem Z3W (l:CW):(TJ l).C9=l.C9:=by unfold TJ;cases must l false<;>rfl
theorem Zi8 (l:CW) (z:Gm l.C9) (q:Gm l.EJ):Gm (TJ l).EJ:=by
 unfold TJ;cases h:must l false
 ·unfold must at h;have hs:l.EJ<l.C9:=by
   simp only[Bool.or_eq_false_iff,decide_eq_false_iff_not]at h;have:=h.2.2;omega
  show Gm (AQ (l.EJ+1));have A:=z.2;have C:=q.1;rw[Bv (by omega) (by omega)];exact⟨by omega,by omega⟩
 ·exact q
theorem vJ {l:Ad} (h:JA l=true):l.CQ=0/\l.AA.Aq=[]/\l.DY.EJ<l.DY.C9/\must l.DY false=false:=by
 unfold JA must at h;simp only[Bool.and_eq_true,beq_iff_eq,Bool.not_eq_true',Bool.or_eq_false_iff,decide_eq_false_iff_not]at h;exact⟨h.1,List.eq_nil_of_length_eq_zero (by have:=h.2.2.2.2.1;omega),by have:=h.2.2.2.2.2.2.2;omega,by unfold must;rw[h.2.2.2.2.2.1,decide_eq_false h.2.2.2.2.2.2.2];rfl⟩
theorem Zih {l:Ad} (h:JA l=true):l.DY.EJ<l.DY.C9:=(vJ h).2.2.1
theorem ZEW {l:Ad} (h:JA l=true) (hl:zG l):(TJ l.DY).EJ=l.DY.EJ+1:=by
 unfold TJ;rw[(vJ h).2.2.2];have q:=hl.2.2.1;have z:=hl.2.2.2;exact Bv (by omega) (by omega)
theorem ZrR (D C q A:Int) (M:CO C) (I:CO q) (J:CO A):∃r,Z18 D C q A=some r/\FN r:=by
 have F:∀x∈[q,A],Gn x:=fun x F=>by
  simp only[List.mem_cons,List.not_mem_nil,or_false]at F;rcases F with rfl|rfl<;>assumption
 have G:=Zt5 C (⟨#[115,101,115,115,105,111,110]⟩:ByteArray) [q,A] (by decide) F (by simp);have b1:∀(r:Int) z,AU pO (.b1 r C q A z)=some ⟨r,jC C (⟨#[115,101,115,115,105,111,110]⟩:ByteArray) [q,A],bits .xor .u64 q A,false,false,0,0⟩:=fun r z=>fe (by
  simp only[pO,DN,cond_true,G,Option.bind_some])
 obtain⟨r,f1,f2⟩:=Zf5 D C q A I J;refine⟨⟨if D=1 then D else 0,jC C (⟨#[115,101,115,115,105,111,110]⟩:ByteArray) [q,A],bits .xor .u64 q A,false,false,0,0⟩,fe ?_,?_,(show CO (bits .xor .u64 q A) from ZgZ _ _ _),Ii,Ii⟩
 ·simp only[pO,DN,b1]
  by_cases h:D=1
  ·rw[h];rfl
  ·rw[show (D != 1)=true by simpa using h,if_neg h];rfl
 ·exact ZyK _ _ _
theorem ZEZ (b:List Int):(Xu b).1.Aw.Payload.length<=b.length:=by
 unfold Xu;split
 ·rename_i h n r;unfold zI;cases decide (32<=h.toNat)<;>cases (((h.toNat % 4:Nat):Int)==0)<;>cases ((((n.toNat:Nat):Int)==0)&&(((h.toNat % 4:Nat):Int) != 1))<;>cases decide ((r.length:Int)<(n.toNat:Nat))<;>cases decide ((r.length:Int)>(n.toNat:Nat))
  all_goals first|exact Nat.zero_le _|(simp only[cond_true,cond_false,List.length_cons];omega)
 ·exact Nat.zero_le _
theorem ZFK (r:Int) (b:List Int):(Xo r b).1.length<=b.length:=by
 unfold Xo;cases decide (b.length<3)<;>cases decide (Qq r (b.take (b.length - 3))=b)
 all_goals first|exact Nat.zero_le _|(simp only[cond_true,cond_false,List.length_take];omega)
theorem Zr5 (z:Bq) (q:BM) (A:FN z) (C:Be q.Aw) (D:q.Aw.Payload.length<=50000):∃r,oJ z q=some r/\Be r.1.Aw:=by
 obtain⟨r,F,G⟩:=ZeB z q A C;exact⟨r,(Zr4 z q A.1 C.2 D).trans ((Zzi z q A.1 C.2 D).symm.trans F),G⟩
theorem ZoV (q:List Int) (D:q.length<=4096) (z:Cj q):∃r,nX q=some r/\(Be r.1.Aw/\r.1.Aw.Payload.length<=50000):=by
 obtain⟨r,A,C⟩:=ZbT q (by omega) z;rw[ZtN q z (by omega)]at A;cases A;exact⟨_,ZoM q z (by omega),C,by have:=ZEZ q;omega⟩
theorem ZuY (z:Int) (q:List Int) (D:R32 z) (G:q.length<=4096) (A:Cj q):∃r,qX z q=some r/\(r.1.length<=4096/\Cj r.1):=by
 obtain⟨r,C,-,F⟩:=Zd8 z q (by omega) A;rw[Zwx z D q A (by omega)]at C;cases C;exact⟨_,ZwV z D q A (by omega),by have:=ZFK z q;omega,F⟩
theorem Zqp (z:Int) (q:List Int) (F:q.length<=4096):∃r,oU z q=some r/\(r.length<=4096/\Cj r):=by
 obtain⟨r,A,C,D⟩:=ZcK z q (by omega);rw[Zvs z q (by omega)]at A;cases A;exact⟨_,Zqe z q (by omega),by dsimp only at C;omega,D⟩
theorem Z97 (q:List Int) (D:q.length<=65536) (C:Cj q):∃r,MC q=some r/\((r.2=0->CV r.1)/\(r.2=12->1<=q.length)):=by
 obtain⟨x,z,-,A⟩:=ZDv q C (by omega);exact⟨x,z,A⟩
theorem ZhE {a:BR} (h:Cm a):lC a.Ap:=⟨by have:=h.2.2.1;omega,fun x q=>by have:=(h.2.2.2.1 x q).2.2.2.1;omega⟩
theorem ZyT (q:BR) (z:BM) (A:Cm q) (C:Be z.Aw):∃r,sH q z=some r/\(Cm r.1/\Be r.2.1):=by
 obtain⟨r,D,F⟩:=ZeR q z A C;exact⟨r,(ZHs q z (ZhE A) (by have:=C.1;omega)).trans ((Zym q z (ZhE A)).symm.trans D),F⟩
theorem Z9U (q:AZ) (C D:Int) (A:BF q):∃r,Vg q C D=some r/\r.q0=⟨q,C,D,[],[]⟩:=by
 have G:=A.1;have I:=A.2.1;obtain⟨⟨x⟩,F,z⟩:=Z5 q.A8 (by omega);obtain⟨⟨y⟩,f1,f2⟩:=Zc q.Aq (by omega);dsimp only at z f2;subst z f2;exact⟨_,fe (by simp only[Za2,DN,F,f1,Option.bind_some,beqL,Bool.and_self,cond_true,List.length_nil]),rfl⟩
theorem Z9f (q z:Int):∃r,RU q z=some r/\True:=⟨decide (AQ (IntKind.wrap .i16 (IntKind.wrap .u16 (q - z)))>=0),fe (by simp only[Z9h,DN,show ∀a b,Z0R a b=some (AQ (IntKind.wrap .i16 (IntKind.wrap .u16 (b - a)))) from fun a b=>fe rfl,Option.bind_some]),trivial⟩
theorem ZFJ (l:List BC) (h:l.length<=1):l=[]\/∃x,l=[x]:=by
 cases l with
 | nil=>exact .inl rfl
 | cons x r=>exact .inr ⟨x,by rw[List.eq_nil_of_length_eq_zero (by simpa using h:r.length=0)]⟩
theorem Zs4 (q:List BC) (C:Int) (h:q.length<=1/\EY q):∃r,Z1c q C=some r/\(r.1.length<=1/\EY r.1/\r.2.length<=1/\EY r.2/\(q=[]->r.2=[])):=by
 obtain⟨D,z⟩:=h;rcases ZFJ q D with rfl|⟨c,rfl⟩
 ·exact⟨([],[]),fe (by simp only[Vl,DN];rfl),by simp,iW,by simp,iW,fun _=>rfl⟩
 ·obtain⟨b,hb,-⟩:=Z9f C c.DZ;have A:([c][(Int.toNat 0)]? : Option BC)=some c:=rfl;cases b
  ·exact⟨([c],[]),fe (by simp only[Vl,DN,A,Option.bind_some,hb];simp[show lim=140737488355328 from rfl,show maxLen=9223372036854775807 from rfl]),by simp,z,by simp,iW,fun _=>rfl⟩
  ·exact⟨([],[c]),fe (by simp only[Vl,DN,A,Option.bind_some,hb];simp[show lim=140737488355328 from rfl,show maxLen=9223372036854775807 from rfl]),by simp,iW,by simp,z,fun h=>nomatch h⟩
theorem v_few (l:Ad):Z1V l=some (decide (l.Ar.Ap.length<=64)&&(decide (l.Ac.length<=64)&&(decide (l.AA.A8.length<=64)&&decide (l.AA.Aq.length<=4)))):=fe (by
 have e:∀n k:Nat,decide ((n:Int)<=(k:Int))=decide (n<=k):=fun n k=>decide_eq_decide.2 (by omega);have q:decide ((l.Ar.Ap.length:Int)<=64)=decide (l.Ar.Ap.length<=64):=e _ 64;have z:decide ((l.Ac.length:Int)<=64)=decide (l.Ac.length<=64):=e _ 64;have A:decide ((l.AA.A8.length:Int)<=64)=decide (l.AA.A8.length<=64):=e _ 64;have C:decide ((l.AA.Aq.length:Int)<=4)=decide (l.AA.Aq.length<=4):=e _ 4;simp only[Zd5,DN,q,z,A,C];cases decide (l.Ar.Ap.length<=64)<;>cases decide (l.Ac.length<=64)<;>cases decide (l.AA.A8.length<=64)<;>rfl)
theorem ZIa {k:Int} {l:Ad} (h:BV k l) (hf:(decide (l.Ar.Ap.length<=64)&&(decide (l.Ac.length<=64)&&(decide (l.AA.A8.length<=64)&&decide (l.AA.Aq.length<=4))))=true):Ba 64 l:=by
 simp only[Bool.and_eq_true,decide_eq_true_eq]at hf;have g:=ZHw h;exact⟨g.1,g.2.1,g.2.2.1,g.2.2.2.1,by have:=hf.2.1;omega,g.2.2.2.2.2⟩
theorem by6:Cj [1,2,3,4,5,6]:=by
 intro b hb;simp only[List.mem_cons,List.not_mem_nil,or_false]at hb;unfold R8;omega
attribute [grind =] Z3W
attribute [grind .] Zi8
end Go.Proofs.YtjodhcdmhobmoaaGreatDoor
