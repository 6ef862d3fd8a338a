/- . -/
import Derived.Test.YtjodhcdmhobmoaaGreatDoorVQ2f
set_option linter.unusedVariables false
set_option linter.unusedSimpArgs false
namespace Go.Proofs.YtjodhcdmhobmoaaGreatDoor
open Go Go.Proofs.YtjodhcdmhobmoaaGreatDoor.Le
set_option maxRecDepth 100000
set_option linter.defProp false
set_option maxHeartbeats 40000000
open Go Go.Proofs.YtjodhcdmhobmoaaGreatDoor.Le Go.Proofs.YtjodhcdmhobmoaaGreatDoor.Na
theorem Z4L:(∀(k:Int) (C:Ac),BR k C->0<=k->k<=1000000->∃r,uS C=some r/\BR k r.1/\r.2.length<=300/\DZ r.2) /\
  (∀(k:Int) (C:Ac) (F:Hg) (I:Int),BR k C->Fj F->0<=k->k<=1000000->∃r,jX C F I=some r/\BR (k+2) r.1) /\
  (∀(k:Int) (C:Ac) (F:List Int) (I:Bool) (Q:Int),BR k C->0<=k->k<=1000000->F.length<=65536->DZ F->∃r,SC C F I Q=some r/\BR (k+8) r.1/\r.2.1.length<=4):=by
 refine⟨fun k C M N O=>CW (fun(p:gU)=>match p with | .b0 z=>BR k z | .b1 z _ q=>BR k z/\Cb q.Ap) (fun(p:gU)=>match p with | .b0 ..=>(0,0,1) | .b1 ..=>(0,0,0)) ?_ _ ?_,
  fun k C F I M N O h3=>CW (fun(p:jL)=>match p with | .b0 z D _=>BR k z/\Fj D | .b1 _ _ q=>BR (k+2) q | .b2 _ _ q=>BR (k+2) q) (fun(p:jL)=>match p with | .b0 ..=>(0,0,1)|_=>(0,0,0)) ?_ _ ?_,
  fun k C F I Q M N O h3 h4=>CW (fun(p:bW)=>match p with | .b0 z D _ _=>BR k z/\D.length<=65536/\DZ D | .b1 z _ q _=>BR k q/\z.length<=65536/\DZ z | .b2 z _ q _=>BR k q/\z.length<=65536/\DZ z | .b3 _ _ q _ A=>BR k q/\Cb A.Ap | .b4 _ _ q _ A=>BR k q/\Cb A.Ap | .b5 _ _ q _ A _=>BR k q/\Cb A.Ap/\q.Ar.Open=true/\q.Ar.Empty=false | .b6 _ _ q _ A G=>BR k q/\Cb A.Ap/\Cb G | .b7 _ _ q _ A _=>BR k q/\Cb A.Ap | .b8 _ _ q _ A G=>BR k q/\Cb A.Ap/\Cb G | .b9 _ _ _ J A _ S Y=>J.length<=2/\BR k A/\Cb S.Ap/\Cb Y | .b10 _ D q _ A G=>D.length<=2/\BR k q/\Cb A.Ap/\Cb G | .b11 z D _ J=>z.length<=4/\BR (k+8) D/\Cb J.Ap) (fun(p:bW)=>match p with | .b0 ..=>(0,0,11) | .b1 ..=>(0,0,10) | .b2 ..=>(0,0,9) | .b3 ..=>(0,0,8) | .b4 ..=>(0,0,7) | .b5 ..=>(0,0,6) | .b6 ..=>(0,0,5) | .b7 ..=>(0,0,4) | .b8 ..=>(0,0,3) | .b9 ..=>(0,0,2) | .b10 ..=>(0,0,1) | .b11 ..=>(0,0,0)) ?_ _ ?_⟩
 all_goals try (intro p hp;cases p)
 all_goals
  try dsimp only at hp
  try exact False.elim hp
  try have hx:=hp
  try dsimp only[BR,Dl,BM,EE,Cb,F6,Fj,FB]at hx
  try (repeat with_reducible (have hq:=And.left hp;replace hp:=And.right hp))
  try simp only[Ze4,ZfF,Dp]
  try dsimp only
  repeat' first|(refine FP ?_;dsimp only;try simp(disch:=omega) only[Ce,CZ,List.nil_append,List.drop_zero])|(refine GH (fun h=>?_) (fun h=>?_)<;>(try simp only[Ht,reduceCtorEq]at h;try simp(disch:=omega) only[Ce]at h))|refine EU ?_ ?_|refine Ii ?_|refine BA (Zuf k _ ?_ ?_ ?_) fun(v:Ac) hm hv=>?_|refine BA (Zxb _ ?_) fun(v:(BQ×BI)) hm hv=>?_|refine BA (Zwc _ _ ?_ ?_) fun(v:(BI×Int)) hm hv=>?_|refine BA (Zsq _ ?_) fun(v:((List Int)×Int)) hm hv=>?_|refine BA (Zqg k _ ?_ ?_ ?_) fun(v:Int) hm hv=>?_|refine BA (Zsv _ _ ?_ ?_) fun(v:(List Int)) hm hv=>?_|refine BA (ZtM _ _ ?_) fun(v:SQ) hm hv=>?_|refine BA (Zwk k _ _ ?_ ?_ ?_ ?_) fun(v:(Ac×Int)) hm hv=>?_|refine BA (ZuF k _ _ _ ?_ ?_ ?_ ?_) fun(v:(Ac×Int)) hm hv=>?_|refine BA (ZsQ _) fun(v:Int) hm hv=>?_|refine BA (ZAE k _ _ ?_ ?_ ?_ ?_) fun(v:(Ac×Int)) hm hv=>?_|refine BA (ZpU _ _ _ ?_) fun(v:Int) hm hv=>?_|refine BA (Zv8 _ ?_) fun(v:(List BJ)) hm hv=>?_|refine BA (ZcC _ _ ?_ ?_) fun(v:((List Int)×Int)) hm hv=>?_|refine BA (Zbz _ _ _ ?_) fun(v:(List BJ)) hm hv=>?_|refine BA (ZbT _ ?_ ?_) fun(v:(BI×Int)) hm hv=>?_|refine BA (Z2X _) fun(v:Bool) hm hv=>?_|refine BA (Zdx _ _ ?_ ?_) fun(v:(BI×Int)) hm hv=>?_|refine BA (Zeu k _ _ ?_ ?_ ?_) fun(v:(Ac×(List Am))) hm hv=>?_|refine Zgi ?_ fun v hv=>?_|refine BA (Zx0 _ _ ?_ ?_) fun(v:(BQ×Aq×Bool×Bool)) hm hv=>?_|refine BA (Ztv k _ _ ?_ ?_ ?_ ?_) fun(v:(Ac×(List Am))) hm hv=>?_|refine BA (ZdA _ _ _ ?_) fun(v:Bc) hm hv=>?_|refine BA (ZqV k _ _ _ ?_ ?_ ?_ ?_ ?_) fun(v:(Ac×(List Am))) hm hv=>?_|with_reducible apply And.intro|rfl|assumption|exact True.intro|omega|exact decide_eq_true (IP _).1|exact IM (by assumption) (by omega)|exact Ih (by assumption) (by omega)|(refine Gu.2 ?_;first|omega|grind)|(apply IX;first|omega|(simp only[CZ];omega))|(simp only[Ei,CZ,D6,maxLen_eq,kL,kA]<;>omega)|(simp(disch:=omega) only[Ce,decide_eq_true_eq,bne_iff_ne,ne_eq];(repeat' split)<;>omega)|(simp[EJ,Fq];done)|grind|(simp only[Ei,CZ,D6,maxLen_eq,kL,kA]<;>grind)|grind [Ee]
def Zy4:=Z4L.1
def ZfY:=Z4L.2.1
def ZaT:=Z4L.2.2
theorem Zm4:∀(k:Int) (S:FD) (Y:Cm) (p2:Int) (p3:Bool) (p4:Int),J7 S->0<=k->k<=500000->EE k Y->∃r,Z0x S Y p2 p3 p4=some r/\EE (k+200) r.1:=by
 refine fun k S Y p2 p3 p4 h0 h1 h2 h3=>CW (fun(p:aC)=>match p with | .b0 N D _ _ _=>J7 N/\EE k D | .b1 _ _ _ z G q _=>J7 G/\EE (k+2*z) q/\0<=z/\z<=8 | .b2 _ _ _ z G q _=>J7 G/\EE (k+2*z) q/\0<=z/\z<8/\z<(G.Tc.length:Int) | .b3 _ _ _ z G _=>J7 z/\EE (k+16) G | .b4 _ _ _ z G q _=>J7 G/\EE (k+2*z+2) q/\0<=z/\z<8 | .b5 _ _ _ z G q _ A=>J7 G/\Fj A/\(EE (k+2*z) q/\0<=z/\z<8/\(A.Side=0\/A.Side=1)) | .b6 _ _ _ z _ q J A _=>J7 J/\EE (k+16+20*q) A/\0<=q/\q<=6/\z<=6 | .b7 _ D _=>EE (k+150) D | .b8 _ _ _ z _ q J A _=>J7 J/\EE (k+16+20*q) A/\0<=q/\q<6/\q<z/\z<=6 | .b9 _ _ _ z _=>EE (k+150) z | .b10 _ _ _ z _ q J A Q C _=>J7 Q/\(EE (k+16+20*q) C/\0<=q/\q<6/\q<z/\z<=6/\(J=0\/J=1)/\A.length<=300/\DZ A) | .b11 _ D _=>EE (k+150) D | .b12 _ D _=>EE (k+150) D | .b13 _ _ _ z _ q _ A _ C F I _=>A.length<=4/\J7 F/\EE (k+16+20*q+8+2*C) I/\0<=q/\q<6/\q<z/\z<=6/\A.length<=4/\0<=C/\C<=(A.length:Int) | .b14 _ D O _=>EE (k+150+8*D) O/\0<=D/\D<=2 | .b15 _ _ _ z _ q _ A _ C F I _=>A.length<=4/\J7 F/\EE (k+16+20*q+8+2*C) I/\0<=q/\q<6/\q<z/\z<=6/\A.length<=4/\0<=C/\C<(A.length:Int) | .b16 _ _ _ z _ q _ A _ C F I _=>A.length<=4/\J7 F/\EE (k+16+20*q+10+2*C) I/\0<=q/\q<6/\q<z/\z<=6/\A.length<=4/\0<=C/\C<(A.length:Int) | .b17 _ _ _ z _ q J A _=>J7 J/\EE (k+16+20*q+20) A/\0<=q/\q<6/\z<=6) (fun(p:aC)=>match p with | .b0 ..=>(5,0,0) | .b1 _ _ _ z _ _ _=>(4,(8 - z).toNat,3) | .b2 _ _ _ z _ _ _=>(4,(8 - z).toNat,2) | .b3 ..=>(3,0,0) | .b4 _ _ _ z _ _ _=>(4,(8 - z).toNat,0) | .b5 _ _ _ z _ _ _ _=>(4,(8 - z).toNat,1) | .b6 _ _ _ _ _ q _ _ _=>(2,(6 - q).toNat,200) | .b8 _ _ _ _ _ q _ _ _=>(2,(6 - q).toNat,199) | .b9 ..=>(1,1,0) | .b10 _ _ _ _ _ q _ _ _ _ _=>(2,(6 - q).toNat,198) | .b13 _ _ _ _ _ q _ A _ C _ _ _=>(2,(6 - q).toNat,(45+(10*((A.length:Int) - C))).toNat) | .b14 _ D _ _=>(0,(2 - D).toNat,0) | .b15 _ _ _ _ _ q _ A _ C _ _ _=>(2,(6 - q).toNat,(44+(10*((A.length:Int) - C))).toNat) | .b16 _ _ _ _ _ q _ A _ C _ _ _=>(2,(6 - q).toNat,(43+(10*((A.length:Int) - C))).toNat) | .b17 _ _ _ _ _ q _ _ _=>(2,(6 - q).toNat,1)|_=>(1,0,0)) ?_ _ ?_
 all_goals try (intro p hp;cases p)
 case' b5 N D O z G q J A=>
  have M:=ZfY (k+2*z)
 case' b8 N D O z G q J A Q=>
  have M:=Zy4 (k+(16+20*q))
 case' b10 N D O z G q J A Q C F=>
  have M:=ZaT (k+(16+20*q))
 case' b14 N D O z=>
  have M:=ZtF (k+(150+8*D))
 case' b15 N D O z G q J A Q C F I a12=>
  have M:=ZfY (k+(16+20*q+8+2*C))
 all_goals
  try dsimp only at hp
  try exact False.elim hp
  try have hx:=hp
  try dsimp only[BR,Dl,BM,EE,Cb,F6,Fj,FB]at hx
  try (repeat with_reducible (have hq:=And.left hp;replace hp:=And.right hp))
  try simp only[Z8k]
  try dsimp only
  repeat' first|(refine FP ?_;dsimp only;try simp(disch:=omega) only[Ce,CZ,List.nil_append,List.drop_zero])|(refine GH (fun h=>?_) (fun h=>?_)<;>(try simp only[Ht,reduceCtorEq]at h;try simp(disch:=omega) only[Ce]at h))|refine EU ?_ ?_|refine Ii ?_|refine ZD5 ?_ fun v hv=>?_|refine BA (Zcy (k+16) _ ?_ ?_ ?_) fun(v:Bool) hm hv=>?_|refine BA (M _ _ _ ?_ ?_ ?_ ?_) fun(v:(Ac×Int)) hm hv=>?_|refine BA (M _ ?_ ?_ ?_) fun(v:(Ac×(List Int))) hm hv=>?_|refine BA (M _ _ _ _ ?_ ?_ ?_ ?_ ?_) fun(v:(Ac×(List Am)×Bool)) hm hv=>?_|refine ZfN ?_ fun v hv=>?_|refine BA (M _ _ ?_ ?_ ?_) fun(v:(Ac×(List Am))) hm hv=>?_|with_reducible apply And.intro|rfl|assumption|exact True.intro|omega|exact decide_eq_true (IP _).1|exact IM (by assumption) (by omega)|exact Ih (by assumption) (by omega)|(refine Gu.2 ?_;first|omega|grind)|(apply IX;first|omega|(simp only[CZ];omega))|(simp only[Ei,CZ,D6,maxLen_eq,kL,kA]<;>omega)|(simp(disch:=omega) only[Ce,decide_eq_true_eq,bne_iff_ne,ne_eq];(repeat' split)<;>omega)|(simp[EJ,Fq];done)|grind|(simp only[Ei,CZ,D6,maxLen_eq,kL,kA]<;>grind)|grind [Ee]
theorem ZnS:∀(D:Jc),FB D->∃r,Z11 D=some r/\((r.2.2=true->BR 20000 r.1)):=by
 refine fun D I=>CW (fun(p:aP)=>match p with | .b0 q=>FB q | .b1 ..=>True | .b2 q _=>FB q/\q.Events.length<=60/\Ee q.BK | .b3 q z _ C=>FB z/\((0<q->BR 0 C.x0)/\(1<q->BR 0 C.x1)/\0<=q/\q<=2/\z.Events.length<=60/\Ee z.BK) | .b4 _ z A _ F=>FB A/\EE (200*z) F/\0<=z/\z<=(A.Events.length:Int)/\A.Events.length<=60/\Ee A.BK) (fun(p:aP)=>match p with | .b0 ..=>(4,0,0) | .b1 ..=>(0,0,0) | .b2 ..=>(3,0,0) | .b3 q _ _ _=>(2,(2 - q).toNat,0) | .b4 _ z A _ _=>(1,((A.Events.length:Int) - z).toNat,0)) ?_ _ ?_
 all_goals try (intro p hp;cases p)
 case' b4 q z A C F=>
  have G:=Zm4 (200*z)
 all_goals
  try dsimp only at hp
  try exact False.elim hp
  try have hx:=hp
  try dsimp only[BR,Dl,BM,EE,Cb,F6,Fj,FB]at hx
  try (repeat with_reducible (have J:=And.left hp;replace hp:=And.right hp))
  try simp only[Z8Q]
  try dsimp only
  repeat' first|(refine FP ?_;dsimp only;try simp(disch:=omega) only[Ce,CZ,List.nil_append,List.drop_zero])|(refine GH (fun h=>?_) (fun h=>?_)<;>(try simp only[Ht,reduceCtorEq]at h;try simp(disch:=omega) only[Ce]at h))|refine EU ?_ ?_|refine Ii ?_|refine BA (ZAs _ _ _ _ _ _ ?_ ?_ ?_) fun(v:(Ac×Int)) hm hv=>?_|refine BA (G _ _ _ _ _ ?_ ?_ ?_ ?_) fun(v:(Cm×Int)) hm hv=>?_|refine ZCv ?_ fun v hv=>?_|with_reducible apply And.intro|rfl|assumption|exact True.intro|omega|exact decide_eq_true (IP _).1|exact IM (by assumption) (by omega)|exact Ih (by assumption) (by omega)|(refine Gu.2 ?_;first|omega|grind)|(apply IX;first|omega|(simp only[CZ];omega))|(simp only[Ei,CZ,D6,maxLen_eq,kL,kA]<;>omega)|(simp(disch:=omega) only[Ce,decide_eq_true_eq,bne_iff_ne,ne_eq];(repeat' split)<;>omega)|(simp[EJ,Fq];done)|grind|(simp only[Ei,CZ,D6,maxLen_eq,kL,kA]<;>grind)|grind [Ee]
def Zn (a b:Int):Bool:=decide (AQ (IntKind.wrap .i16 (IntKind.wrap .u16 (a - b)))>=0)
theorem ZoJ (a b:Int):qJ a b=some (Zn a b):=fe (by
 have h:qY b a=some (AQ (IntKind.wrap .i16 (IntKind.wrap .u16 (a - b)))):=fe rfl;simp only[Z1m,DN,h,Option.bind_some];rfl)
def lH (a:Int) (c:BG):Int:=bif c.Kind != 0&&c.Kind != 1 then 12 else bif Zn a c.Ci then 18 else 0
theorem Zoy (a:Int) (c:BG):qI a c=some (lH a c):=by
 have hb:AU Uc (.b1 a c)=some (bif Zn a c.Ci then 18 else 0):=fe (by
  simp only[Uc,DN,ZoJ,Option.bind_some];cases Zn a c.Ci<;>rfl)
 refine fe ?_;simp only[Uc,DN,hb];unfold lH;cases c.Kind != 0<;>cases c.Kind != 1<;>rfl
def JZ (l:List BG) (a:Int) (c:BG):List BG×Int:=bif lH a c != 0 then (l,lH a c) else if l.length=0 then ([c],0) else (l,20)
theorem ZaE (l:List BG) (a:Int) (c:BG) (hl:l.length<=1):qU l a c=some (JZ l a c):=fe (by
 simp only[Z1J,DN,Zoy,Z4s l (by omega),MR,cond_true,Option.bind_some];unfold JZ;cases lH a c != 0 with
 | true=>rfl
 | false=>
  cases l with
  | nil=>rfl
  | cons x xs=>
   rw[decide_eq_true (show ((x::xs).length:Int)>0 by rw[List.length_cons];omega),if_neg (by rw[List.length_cons];omega)];rfl)
theorem ZzS (l:List BG) (a:Int) (c:BG) (hl:l.length<=1) (h:r16 a) (hc:r16 c.Ci):VD l a c=some (JZ l a c):=(Zqf l a c hl h hc).symm.trans (ZaE l a c hl)
def Iw (c:AO):BG:=⟨c.Kind,c.Ci,c.BB,c.Map⟩
theorem Iu (s:A7) (ev now:Int) (q:s.Ah.length<=100) (z:s.Ak.length<=1):aZ s ev now=some ⟨⟨s,ev,now,[],[]⟩⟩:=fe (by
 simp only[Z9x,DN,ZBC _ (show s.Ah.length<=1000000 by omega),Z4s _ (show s.Ak.length<=1000000 by omega),Option.bind_some,MR,Bool.and_self,cond_true,List.length_nil])
def ind (k n:Int):Am:=⟨k,0,⟨0,[]⟩,I7,n,Be⟩
theorem MN (k n:Int) (p:A7) (ev now:Int) (o:List AO):QP k n ⟨p,ev,now,o,[]⟩=some ⟨⟨p,ev,now,o,[ind k n]⟩⟩:=fe (by
 simp only[Z7l,DN,Bool.and_self,cond_true,beq_self_eq_true,Bool.and_true,List.length_nil,List.nil_append];rfl)
theorem MJ (c:AO) (p:A7) (ev now:Int) (t:List Am):Ou c ⟨p,ev,now,[],t⟩=some ⟨⟨p,ev,now,[c],t⟩⟩:=fe (by
 simp only[Z75,DN,Bool.and_self,cond_true,beq_self_eq_true,Bool.and_true,List.length_nil,List.nil_append];rfl)
theorem MQ (p:A7) (ev now:Int) (o:List AO) (t:List Am):RX (U9 ⟨p,ev,now,o,t⟩)=some (p.BK != 1):=fe rfl
theorem Fh (c:AO):N8 c=some [c]:=fe rfl
theorem Fb (k n:Int):Lr k n=some [ind k n]:=fe rfl
theorem MO (c:AO):Z0y c=some (Iw c):=fe rfl
theorem Ff (c:AO):dA c=some (Iw c):=fe rfl
theorem lV {s:A7} (h:s.BK=0\/s.BK=1):(s.BK==0)=(s.BK != 1)/\(s.BK != 0) = !(s.BK != 1):=by
 rcases h with h|h<;>(rw[h];exact⟨rfl,rfl⟩)
abbrev HR:=A7×List AO×List Am
def pl6 (k:Int):AO:=⟨k,Be,0,0,0,0,0,0,0,0,0⟩
def Tt (s:A7) (c:AO) (ev now:Int):HR:=
 (bif s.BK != 1 then s else bif (JZ s.Ak ev (Iw c)).2==0 then bif c.Kind==0 then bif s.Own==15 then { s with Other:=c.Kind,Ez:=now,Ak:=(JZ s.Ak ev (Iw c)).1,Own:=-1 } else { s with Other:=c.Kind,Ez:=now,Ak:=(JZ s.Ak ev (Iw c)).1 } else { s with Other:=c.Kind,Ez:=now,Ak:=(JZ s.Ak ev (Iw c)).1 } else
  bif (JZ s.Ak ev (Iw c)).2==18 then { s with Bz:=40 } else { s with Bz:=42 },[],[])
def mF (s:A7) (c:AO):HR:=(bif c.Bl==0 then { s with Bz:=19 } else { s with Bz:=c.Bl },[],[])
def Vd (s:A7) (c:AO) (now:Int):HR:=bif s.BK != 1 then (s,[],[]) else bif s.CP != 0 then (s,[],[]) else ({ s with Other:=3,Ez:=now,F5:=c.Bj,Mark:=c.Mark,CP:=1 },[],[ind 8 c.Mark])
def Va (s:A7) (c:AO):HR:=bif s.BK != 1 then bif s.CP==1 then ({ s with F5:=c.Bj,CP:=2 },[],[]) else (s,[],[]) else (s,[],[])
def Vj (s:A7):HR:=bif s.BK != 1 then bif s.CP==2 then ({ s with CP:=3 },[pl6 6],[]) else (s,[],[]) else (s,[],[])
def Vy (s:A7):HR:=bif s.CP != 3 then (s,[],[]) else bif s.BK != 1 then ({ s with CP:=4,Own:=-1 },[],[ind 3 0]) else ({ s with CP:=4,Other:=-1 },[pl6 6],[ind 3 0])
def QC (s:A7) (c:AO):HR:=bif s.Own != c.DL then (s,[],[]) else bif (s.Own==0||s.Own==1) then (s,[],[]) else bif s.Own==2 then (s,[],[]) else bif s.Own==3 then ({ s with CP:=0,Own:=-1 },[],[ind 9 (IntKind.wrap .u64 c.DL)]) else ({ s with Own:=-1 },[],[ind 9 (IntKind.wrap .u64 c.DL)])
def ftF (s:A7) (c:AO):A7:={ s with Hl:=bits .and .u64 s.Bv c.Bv,FI:=true }
def Oi (s:A7) (c:AO):HR:=bif c.Kind==9 then bif s.Own != 8 then (s,[],[]) else ({ ftF s c with Own:=-1 },[],[ind 5 (bits .and .u64 s.Bv c.Bv)]) else
 (ftF s c,[⟨9,Be,0,0,0,0,0,0,s.Bv,0,0⟩],[ind 5 (bits .and .u64 s.Bv c.Bv)])
def Vb (s:A7) (c:AO):HR:=bif s.Own==12 then ({ s with Version:=c.Version,Own:=-1 },[],[ind 6 (IntKind.wrap .u64 c.Version)]) else bif s.FY then ({ s with Version:=c.Version },[],[ind 6 (IntKind.wrap .u64 c.Version)]) else
 ({ s with Version:=c.Version,FY:=true },[⟨12,Be,0,0,0,0,0,0,0,11,0⟩],[ind 6 (IntKind.wrap .u64 c.Version)])
def Vh (s:A7) (c:AO) (now:Int):HR:=bif s.BK != 1 then bif (s.Own==0||s.Own==1) then (s,[⟨13,Be,0,0,42,15,0,0,0,0,0⟩],[]) else ({ s with Other:=15,Ez:=now },[],[⟨12,0,⟨0,[]⟩,I7,0,c.BB⟩]) else (s,[],[])
def Y8 (s:A7):HR:=(s,[pl6 19],[])
def V7 (s:A7):HR:=bif s.Own==18 then ({ s with Own:=-1 },[],[ind 7 0]) else (s,[],[])
def Zg (s:A7) (c:AO):Int:=if s.Limit<c.Length then s.Limit else c.Length
def hLen (s:A7) (c:AO):HR:=bif c.Kind==21 then bif s.Own != 20 then (s,[],[]) else ({ s with Length:=Zg s c,Own:=-1 },[],[ind 11 (IntKind.wrap .u64 (Zg s c))]) else
 ({ s with Length:=Zg s c },[⟨21,Be,0,0,0,0,0,0,0,0,s.Limit⟩],[ind 11 (IntKind.wrap .u64 (Zg s c))])
def LM (ev now:Int) (r:HR):BV:=⟨r.1,ev,now,r.2.1,r.2.2⟩
end Go.Proofs.YtjodhcdmhobmoaaGreatDoor
