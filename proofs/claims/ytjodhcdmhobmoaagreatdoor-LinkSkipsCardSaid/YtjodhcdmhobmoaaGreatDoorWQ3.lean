/- A part of it. -/
import Derived.Test.YtjodhcdmhobmoaaGreatDoorWQ2
set_option linter.unusedVariables false
set_option linter.unusedSimpArgs false
namespace Go.Proofs.YtjodhcdmhobmoaaGreatDoor
open Go Go.Proofs.YtjodhcdmhobmoaaGreatDoor.Le
set_option linter.defProp false
set_option maxRecDepth 100000
set_option maxHeartbeats 40000000
theorem wX:(∀(C:AZ) (A D:Int),BF C->R16 A->∃r,ZY C A D=some r/\BF r.1/\r.2.length<=8) /\
  (∀(k:Int) (C:Int) (A:BQ),(Ba k A.Link/\A.Ak.length<=30)->0<=k->k<=1000000->∃r,Zw C A=some r/\Ba k r.q1.Link/\r.q1.Ak=A.Ak/\r.q1.Link.DY=A.Link.DY) /\
  (∀(k:Int) (C:List Int) (A:Int) (D:BQ),(Ba k D.Link/\D.Ak.length<=30)->0<=k->k<=1000000->C.length<=4096->∃r,ZJ C A D=some r/\((r.q1=true->Be r.q0.Aw/\r.q0.Aw.Payload.length<=50000)/\Ba k r.q2.Link/\r.q2.Ak=D.Ak)) /\
  (∀(C:AZ) (A:AO) (D N:Int),BF C->CV A->R16 D->∃r,ZO C A D N=some r/\BF r.1/\r.2.1.length<=2/\r.2.2.length<=2/\IE r.2.2):=by
 refine⟨fun C A D I J=>Bd (fun(p:Yo)=>match p with | .b0 G q _=>BF G/\R16 q | .b1 _ q=>q.f_out.length+q.AA.A8.length<=8/\q.BG=[]/\R16 q.FX/\BF q.AA | .b2 _ q=>q.f_out.length+q.AA.A8.length<=8/\q.BG=[]/\R16 q.FX/\BF q.AA/\0<q.AA.A8.length | .b3 _ q=>q.f_out.length+q.AA.A8.length<=8/\q.BG=[]/\R16 q.FX/\BF q.AA | .b4 _ q F=>CV F/\q.f_out.length+q.AA.A8.length<=8/\q.BG=[]/\R16 q.FX/\BF q.AA/\0<q.AA.A8.length | .b5 _ q F=>CV F/\q.f_out.length+q.AA.A8.length<=7/\q.BG=[]/\R16 q.FX/\BF q.AA) (fun(p:Yo)=>match p with | .b0 ..=>(1,0,0) | .b1 _ q=>(0,q.AA.A8.length,2) | .b2 _ q=>(0,q.AA.A8.length,1) | .b3 ..=>(0,0,0) | .b4 _ q _=>(0,q.AA.A8.length,0) | .b5 _ q _=>(0,q.AA.A8.length,3)) ?_ _ ?_,
  fun k C A I J M=>Bd (fun(p:Yb)=>match p with | .b0 _ q=>Ba k q.Link/\q.Ak.length<=30/\q=A | .b1 _ q=>Ba k q.Link/\q.Ak.length<=30/\q=A) (fun(p:Yb)=>match p with | .b0 ..=>(0,0,1) | .b1 ..=>(0,0,0)) ?_ _ ?_,
  fun k C A D I J M Q=>Bd (fun(p:Ya)=>match p with | .b0 G _ F=>Ba k F.Link/\F.Ak.length<=30/\F=D/\G.length<=4096) (fun(p:Ya)=>(0,0,0)) ?_ _ ?_,
  fun C A D N I J M=>Bd (fun(p:V6)=>match p with | .b0 G q F _=>BF G/\CV q/\R16 F | .b1 _ q=>Bh 2 2 q) (fun(p:V6)=>match p with | .b0 ..=>(0,0,1) | .b1 ..=>(0,0,0)) ?_ _ ?_⟩
 all_goals try (intro p hp;cases p)
 all_goals
  try dsimp only at hp
  try exact False.elim hp
  try have O:=hp
  try dsimp only[BV,Cm,BF,DW,Be,ES,EW,EE,Ba,Ed,Bh]at O
  try (repeat with_reducible (have S:=And.left hp;replace hp:=And.right hp))
  try simp only[Z8q,Z8l,Z8i,Z88]
  try dsimp only
  repeat' first|(refine D9 ?_;dsimp only;try simp(disch:=omega) only[Bv,Bi,List.nil_append,List.drop_zero])|(refine EN (fun h=>?_) (fun h=>?_)<;>(try simp only[Fe,reduceCtorEq]at h;try simp(disch:=omega) only[Bv]at h))|refine Dq ?_ ?_|refine GN ?_|refine Am (Z9U _ _ _ ?_) fun(v:OB) hm z=>?_|refine Am (Z7w _) fun(v:Bool) hm z=>?_|refine vY ?_ fun v z=>?_|refine Am (ZjN _ _ ?_ ?_) fun(v:TR) hm z=>?_|refine Am (ZlS _ _) fun(v:Bool) hm z=>?_|refine Am (ZnI _) fun(v:Int) hm z=>?_|refine Am (Z7c _) fun(v:Int) hm z=>?_|refine Am (Z9R k _ ?_ ?_ ?_) fun(v:Int) hm z=>?_|refine Am (Zqp _ _ ?_) fun(v:(List Int)) hm z=>?_|refine Am (ZuY _ _ ?_ ?_ ?_) fun(v:((List Int)×Int)) hm z=>?_|refine Am (Z8s k _ _ ?_ ?_ ?_) fun(v:Oa) hm z=>?_|refine Am (ZoV _ ?_ ?_) fun(v:(BM×Int)) hm z=>?_|refine Am (ZjG _ _ ?_ ?_ ?_) fun(v:Kt) hm z=>?_|refine Am (Zj2 _ _ ?_ ?_) fun(v:Qx) hm z=>?_|refine Am (Zkq _ _ ?_ ?_) fun(v:Pm) hm z=>?_|refine Am (Zk8 _ _ ?_ ?_) fun(v:Ph) hm z=>?_|refine Am (ZjR _ _ ?_ ?_) fun(v:Pe) hm z=>?_|refine Am (Zm6 _ _ ?_ ?_) fun(v:Py) hm z=>?_|refine Am (Zjx _ _ ?_ ?_) fun(v:Lu) hm z=>?_|refine Am (Zju _ _ ?_ ?_) fun(v:O4) hm z=>?_|refine Am (ZjQ _ _ ?_ ?_) fun(v:P9) hm z=>?_|refine Am (Zkg _ _ ?_ ?_) fun(v:Pj) hm z=>?_|refine Am (ZkQ _ _ ?_ ?_) fun(v:TV) hm z=>?_|refine Am (Zk0 _ _ ?_ ?_) fun(v:RD) hm z=>?_|refine Am (Zkb _ _ ?_ ?_) fun(v:O6) hm z=>?_|refine Am (Z65 _ _ ?_) fun(v:Jj) hm z=>?_|with_reducible apply And.intro|rfl|assumption|exact True.intro|omega|exact decide_eq_true (GG _).1|exact Fz (by assumption) (by omega)|exact Fh (by assumption) (by omega) |  exact GM (by assumption) (by omega)|(refine ET.2 ?_;first|omega|grind)|(apply GX;first|omega|(simp only[Bi];omega))|(simp only[Dp,Bi,Cb,maxLen_eq,kL,kA]<;>omega)|(simp(disch:=omega) only[Bv,decide_eq_true_eq,bne_iff_ne,ne_eq];(repeat' split)<;>omega)|(simp[Di,Eu];done)|grind|(simp only[Dp,Bi,Cb,maxLen_eq,kL,kA]<;>grind)|grind [EG]
def Zok:=wX.1
def ZmB:=wX.2.1
def Zmt:=wX.2.2.1
def Znr:=wX.2.2.2
theorem Znv:∀(k:Int) (D:AO) (F:Int) (q:BQ),CV D->(Ba k q.Link/\q.Ak.length<=30)->0<=k->k<=900000->q.Ak.length<=15->∃r,ZC D F q=some r/\Ba (k+2) r.q0.Link/\r.q0.Ak.length<=30:=by
 refine fun k D F q J M N O Q=>Bd (fun(p:Y6)=>match p with | .b0 z _ A=>CV z/\Ba k A.Link/\A.Ak.length<=30/\A.Ak.length<=15 | .b1 z G=>Ba (k+2) z.Link/\z.Ak.length<=30/\BF G) (fun(p:Y6)=>match p with | .b0 ..=>(0,0,1) | .b1 ..=>(0,0,0)) ?_ _ ?_
 all_goals try (intro p hp;cases p)
 all_goals
  try dsimp only at hp
  try exact False.elim hp
  try have I:=hp
  try dsimp only[BV,Cm,BF,DW,Be,ES,EW,EE,Ba,Ed,Bh]at I
  try (repeat with_reducible (have S:=And.left hp;replace hp:=And.right hp))
  try simp only[Z8a]
  try dsimp only
  repeat' first|(refine D9 ?_;dsimp only;try simp(disch:=omega) only[Bv,Bi,List.nil_append,List.drop_zero])|(refine EN (fun h=>?_) (fun h=>?_)<;>(try simp only[Fe,reduceCtorEq]at h;try simp(disch:=omega) only[Bv]at h))|refine Dq ?_ ?_|refine GN ?_|refine Am (Znr _ _ _ _ ?_ ?_ ?_) fun(v:(AZ×(List AO)×(List Au))) hm C=>?_|refine Am (Z70 (k+2) _ _ _ ?_ ?_ ?_ ?_) fun(v:Px) hm C=>?_|refine Am (ZrR _ _ _ _ ?_ ?_ ?_) fun(v:Bq) hm C=>?_|refine Am (Za5 _ _ _ ?_) fun(v:Bq) hm C=>?_|with_reducible apply And.intro|rfl|assumption|exact True.intro|omega|exact decide_eq_true (GG _).1|exact Fz (by assumption) (by omega)|exact Fh (by assumption) (by omega) |  exact GM (by assumption) (by omega)|(refine ET.2 ?_;first|omega|grind)|(apply GX;first|omega|(simp only[Bi];omega))|(simp only[Dp,Bi,Cb,maxLen_eq,kL,kA]<;>omega)|(simp(disch:=omega) only[Bv,decide_eq_true_eq,bne_iff_ne,ne_eq];(repeat' split)<;>omega)|(simp[Di,Eu];done)|grind|(simp only[Dp,Bi,Cb,maxLen_eq,kL,kA]<;>grind)|grind [EG]
theorem Zus:∀(k:Int) (q:Ad) (N:Int),Ba k q->0<=k->k<=900000->∃r,Z1f q N=some r/\(Ba (k+8) r.1/\(q.Ez=false->JA q=true->r.1.DY.EJ=q.DY.EJ+1)):=by
 refine fun k q N Y h1 h2=>Bd (fun(p:bF)=>match p with | .b0 M _=>Ba k M/\M=q | .b1 _ C _ A=>Ba k A.Link/\A.Ak.length<=30/\(A=⟨q,[]⟩/\(q.Ez=false->JA q=true->C=true)) | .b2 _ _ _ A=>Ba k A.Link/\A.Ak.length<=30/\((q.Ez=false->JA q=true->A.Link.DY.EJ=q.DY.EJ+1/\A.Link.AA.Aq=[])/\A.Ak.length<=5) | .b3 _ _ D=>Ba k D.Link/\D.Ak.length<=30/\((q.Ez=false->JA q=true->D.Link.DY.EJ=q.DY.EJ+1/\D.Link.AA.Aq=[])/\D.Ak.length<=5) | .b4 _ _ D=>Ba k D.Link/\D.Ak.length<=30/\((q.Ez=false->JA q=true->D.Link.DY.EJ=q.DY.EJ+1/\D.Link.AA.Aq=[])/\D.Ak.length<=5) | .b5 _ C D A _ G _=>C.length<=1/\EY C/\Ba k G.Link/\G.Ak.length<=30/\(0<=A/\A<=(C.length:Int)/\D=(C.length:Int)/\(A=0->G.Ak.length<=5)/\G.Ak.length<=25/\(q.Ez=false->JA q=true->G.Link.DY.EJ=q.DY.EJ+1/\C=[])) | .b6 _ C=>Ba (k+8) C.Link/\C.Ak.length<=30/\((q.Ez=false->JA q=true->C.Link.DY.EJ=q.DY.EJ+1))) (fun(p:bF)=>match p with | .b0 ..=>(6,0,0) | .b1 ..=>(5,0,0) | .b2 ..=>(4,0,0) | .b3 ..=>(3,0,0) | .b4 ..=>(2,0,0) | .b5 _ C _ A _ _ _=>(1,((C.length:Int) - A).toNat,0) | .b6 ..=>(0,0,0)) ?_ _ ?_
 all_goals try (intro p hp;cases p)
 case' b1=>
  dsimp only at hp;have J:=hp
  try dsimp only[BV,Cm,BF,DW,Be,ES,EW,EE,Ba,Ed,Bh]at J
  simp only[Z1j];obtain⟨F,S,rfl,O⟩:=hp;refine EN (fun h=>?_) (fun h=>?_)
  ·subst h;refine Am (ZqU _) (fun(v:CW×Int) hm z=>?_)
   repeat' first|(refine Dq ?_ ?_)|(refine D9 ?_)
   all_goals first
    | (refine⟨⟨?_,Nat.zero_le _,?_,Nat.zero_le _⟩,ET.2 (by omega)⟩
       ·have hl:=F.2.2.2.2.2.2.2.2.2;exact⟨F.1,F.2.1,F.2.2.1,F.2.2.2.1,F.2.2.2.2.1,F.2.2.2.2.2.1,F.2.2.2.2.2.2.1,F.2.2.2.2.2.2.2.1,F.2.2.2.2.2.2.2.2.1,by rw[z];exact⟨(Z3W _).trans hl.1,(by rw[Z3W];exact hl.2.1),Zi8 _ hl.2.1 hl.2.2⟩⟩
       ·exact fun I hs=>⟨by rw[z];exact ZEW hs F.2.2.2.2.2.2.2.2.2,(vJ hs).2.1⟩)
    | grind
  ·repeat' first|(refine EN (fun Q =>?_) (fun Q =>?_))|(refine Am (ZoL _ _) (fun(v:CW) hm z=>?_))|(refine Dq ?_ ?_)|(refine D9 ?_)
   all_goals first|(refine⟨⟨by first|exact F|grind,Nat.zero_le _,fun I hs=>absurd (O I hs) (by rw[h];decide),Nat.zero_le _⟩,ET.2 (by omega)⟩)|grind
 all_goals
  try dsimp only at hp
  try exact False.elim hp
  try have J:=hp
  try dsimp only[BV,Cm,BF,DW,Be,ES,EW,EE,Ba,Ed,Bh]at J
  try (repeat with_reducible (have hq:=And.left hp;replace hp:=And.right hp))
  try simp only[Z1j]
  try dsimp only
  repeat' first|(refine D9 ?_;dsimp only;try simp(disch:=omega) only[Bv,Bi,List.nil_append,List.drop_zero])|(refine EN (fun h=>?_) (fun h=>?_)<;>(try simp only[Fe,reduceCtorEq]at h;try simp(disch:=omega) only[Bv]at h))|refine Dq ?_ ?_|refine GN ?_|refine Am (Zd7 k _ ?_ ?_ ?_) fun(v:QD) hm z=>?_|refine Am (Z8j _) fun(v:Bool) hm z=>?_|refine Am (ZsT _) fun(v:Bool) hm z=>?_|refine Am (Z8s k _ _ ?_ ?_ ?_) fun(v:Oa) hm z=>?_|refine Am (ZdV _ _ _ ?_ ?_) fun(v:(Int×Int)) hm z=>?_|refine Am (Zcj _ _) fun(v:Int) hm z=>?_|refine Am (Z7c _) fun(v:Int) hm z=>?_|refine Am (ZpO _ _ ?_ ?_) fun(v:(AZ×(List BC))) hm z=>?_|refine Am (Zm4 k _ _ ?_ ?_ ?_ ?_ ?_) fun(v:TZ) hm z=>?_|refine Am (Zln _) fun(v:Int) hm z=>?_|refine Am (Zok _ _ _ ?_ ?_) fun(v:(AZ×(List AO))) hm z=>?_|refine Am (ZmB (k+8) _ _ ?_ ?_ ?_) fun(v:MB) hm z=>?_|refine Am (ZnT (k+8) _ _ _ ?_ ?_ ?_ ?_) fun(v:UF) hm z=>?_|refine iK ?_ fun v z=>?_|(refine fun(I:q.Ez=false) (hs:JA q=true)=>?_;have hr:=(vJ hs).1;first|(exfalso;simp_all [WG];done)|grind [WG])|with_reducible apply And.intro|rfl|assumption|exact True.intro|omega|exact decide_eq_true (GG _).1|exact Fz (by assumption) (by omega)|exact Fh (by assumption) (by omega) |  exact GM (by assumption) (by omega)|(refine ET.2 ?_;first|omega|grind)|(apply GX;first|omega|(simp only[Bi];omega))|(simp only[Dp,Bi,Cb,maxLen_eq,kL,kA]<;>omega)|(simp(disch:=omega) only[Bv,decide_eq_true_eq,bne_iff_ne,ne_eq];(repeat' split)<;>omega)|(simp[Di,Eu];done)|grind|(simp only[Dp,Bi,Cb,maxLen_eq,kL,kA]<;>grind)|grind [EG]
theorem Zm1:∀(k:Int) (D:Az) (G:Int) (z:BQ),Be D->(Ba k z.Link/\z.Ak.length<=30)->0<=k->k<=900000->z.Ak.length<=15->∃r,Zj D G z=some r/\Ba (k+2) r.q0.Link/\r.q0.Ak.length<=30:=by
 refine fun k D G z J M N O Q=>Bd (fun(p:Y5)=>match p with | .b0 q _ A=>Be q/\Ba k A.Link/\A.Ak.length<=30/\A.Ak.length<=15 | .b1 q F=>Ba k q.Link/\q.Ak.length<=30/\Be F/\1<=F.Payload.length/\q.Ak.length<=15) (fun(p:Y5)=>match p with | .b0 ..=>(0,0,1) | .b1 ..=>(0,0,0)) ?_ _ ?_
 all_goals try (intro p hp;cases p)
 all_goals
  try dsimp only at hp
  try exact False.elim hp
  try have I:=hp
  try dsimp only[BV,Cm,BF,DW,Be,ES,EW,EE,Ba,Ed,Bh]at I
  try (repeat with_reducible (have S:=And.left hp;replace hp:=And.right hp))
  try simp only[Z7O]
  try dsimp only
  repeat' first|(refine D9 ?_;dsimp only;try simp(disch:=omega) only[Bv,Bi,List.nil_append,List.drop_zero])|(refine EN (fun h=>?_) (fun h=>?_)<;>(try simp only[Fe,reduceCtorEq]at h;try simp(disch:=omega) only[Bv]at h))|refine Dq ?_ ?_|refine GN ?_|refine Am (Zls k _ _ _ ?_ ?_ ?_ ?_) fun(v:TY) hm C=>?_|refine Am (Z97 _ ?_ ?_) fun(v:(AO×Int)) hm C=>?_|refine Am (Znv k _ _ _ ?_ ?_ ?_ ?_ ?_) fun(v:O9) hm C=>?_|refine Qd ?_ fun v C=>?_|with_reducible apply And.intro|rfl|assumption|exact True.intro|omega|exact decide_eq_true (GG _).1|exact Fz (by assumption) (by omega)|exact Fh (by assumption) (by omega) |  exact GM (by assumption) (by omega)|(refine ET.2 ?_;first|omega|grind)|(apply GX;first|omega|(simp only[Bi];omega))|(simp only[Dp,Bi,Cb,maxLen_eq,kL,kA]<;>omega)|(simp(disch:=omega) only[Bv,decide_eq_true_eq,bne_iff_ne,ne_eq];(repeat' split)<;>omega)|(simp[Di,Eu];done)|grind|(simp only[Dp,Bi,Cb,maxLen_eq,kL,kA]<;>grind)|grind [EG]
theorem Zra:∀(k:Int) (M:Ad) (J:List Int) (N:Bool) (O:Int),Ba k M->0<=k->k<=900000->J.length<=4096->Cj J->∃r,Z0H M J N O=some r/\Ba (k+8) r.1:=by
 refine fun k M J N O S Y h2 h3 h4=>Bd (fun(p:aF)=>match p with | .b0 D F _ _=>Ba k D/\F.length<=4096/\Cj F | .b1 D _ _ z=>Ba k z.Link/\z.Ak.length<=30/\D.length<=4096/\z.Ak.length<=0 | .b2 D _ _ z=>Ba k z.Link/\z.Ak.length<=30/\D.length<=4096/\z.Ak.length<=0 | .b3 _ _ _ z q=>Ba k z.Link/\z.Ak.length<=30/\Be q.Aw/\q.Aw.Payload.length<=50000/\z.Ak.length<=0 | .b4 _ _ _ z q=>Ba k z.Link/\z.Ak.length<=30/\Be q.Aw/\z.Ak.length<=0 | .b5 _ _ C _ q G I=>Ba k q.Link/\q.Ak.length<=30/\Be G.Aw/\Be I/\(q.Ak.length<=0/\(C=false->0<q.Link.Ar.Ap.length)) | .b6 _ _ _ _ q G I=>Ba k q.Link/\q.Ak.length<=30/\Be G.Aw/\Be I/\q.Ak.length<=0 | .b7 _ _ _ _ q G I=>Ba k q.Link/\q.Ak.length<=30/\Be G.Aw/\Be I/\q.Ak.length<=10 | .b8 _ _ C z q=>Ba k C.Link/\C.Ak.length<=30/\Be z.Aw/\Be q/\C.Ak.length<=10 | .b9 _ F C=>Ba (k+8) F.Link/\F.Ak.length<=30/\Be C.Aw) (fun(p:aF)=>match p with | .b0 ..=>(0,0,9) | .b1 ..=>(0,0,8) | .b2 ..=>(0,0,7) | .b3 ..=>(0,0,6) | .b4 ..=>(0,0,5) | .b5 ..=>(0,0,4) | .b6 ..=>(0,0,3) | .b7 ..=>(0,0,2) | .b8 ..=>(0,0,1) | .b9 ..=>(0,0,0)) ?_ _ ?_
 all_goals try (intro p hp;cases p)
 all_goals
  try dsimp only at hp
  try exact False.elim hp
  try have Q:=hp
  try dsimp only[BV,Cm,BF,DW,Be,ES,EW,EE,Ba,Ed,Bh]at Q
  try (repeat with_reducible (have hq:=And.left hp;replace hp:=And.right hp))
  try simp only[Z9N]
  try dsimp only
  repeat' first|(refine D9 ?_;dsimp only;try simp(disch:=omega) only[Bv,Bi,List.nil_append,List.drop_zero])|(refine EN (fun h=>?_) (fun h=>?_)<;>(try simp only[Fe,reduceCtorEq]at h;try simp(disch:=omega) only[Bv]at h))|refine Dq ?_ ?_|refine GN ?_|refine Am (Zd7 k _ ?_ ?_ ?_) fun(v:QD) hm A=>?_|refine Am (Z8j _) fun(v:Bool) hm A=>?_|refine Am (Zmt k _ _ _ ?_ ?_ ?_ ?_) fun(v:Pz) hm A=>?_|refine Am (Zpy _) fun(v:Bool) hm A=>?_|refine Am (Zr5 _ _ ?_ ?_ ?_) fun(v:(BM×Int)) hm A=>?_|refine Am (Zoe k _ _ _ ?_ ?_ ?_ ?_) fun(v:UE) hm A=>?_|refine Z47 ?_ fun v A=>?_|refine Am (ZyT _ _ ?_ ?_) fun(v:(BR×Az×Bool×Bool)) hm A=>?_|refine Am (Zky k _ _ _ ?_ ?_ ?_ ?_ ?_) fun(v:Nu) hm A=>?_|refine Am (Za8 _ _ _ ?_) fun(v:Bq) hm A=>?_|refine Am (Zm1 k _ _ _ ?_ ?_ ?_ ?_ ?_) fun(v:Nw) hm A=>?_|with_reducible apply And.intro|rfl|assumption|exact True.intro|omega|exact decide_eq_true (GG _).1|exact Fz (by assumption) (by omega)|exact Fh (by assumption) (by omega) |  exact GM (by assumption) (by omega)|(refine ET.2 ?_;first|omega|grind)|(apply GX;first|omega|(simp only[Bi];omega))|(simp only[Dp,Bi,Cb,maxLen_eq,kL,kA]<;>omega)|(simp(disch:=omega) only[Bv,decide_eq_true_eq,bne_iff_ne,ne_eq];(repeat' split)<;>omega)|(simp[Di,Eu];done)|grind|(simp only[Dp,Bi,Cb,maxLen_eq,kL,kA]<;>grind)|grind [EG]
theorem Zoi:∀(Q:JV) (p1:List Bool),EE Q->∃r,Z8u Q p1=some r/\r=true:=by
 refine fun Q p1 h0=>Bd (fun(p:Yg)=>match p with | .b0 z _=>EE z | .b1 z _ A=>Ba 64 A/\z.length<=200 | .b2 z _ A q C=>(Ba (64+16*q) C/\0<=q/\q<=(z.length:Int)/\z.length<=200/\(A=0\/(0<=A/\A<=C.DY.EJ))) | .b3 z _ A q C=>(Ba (64+16*q) C/\0<=q/\q<(z.length:Int)/\z.length<=200/\C.Ez=false/\JA C=true/\(A=0\/(0<=A/\A<=C.DY.EJ))) | .b4 z _ A q=>Ba (64+16*A) q/\0<=A/\A<(z.length:Int)/\z.length<=200 | .b5 z _ A q C=>(Ba (64+16*q+8) C/\0<=q/\q<(z.length:Int)/\z.length<=200/\(A=0\/(C.Ez=false/\JA C=true/\0<=A/\A<=C.DY.EJ+1))) | .b6 z _ A q C=>(Ba (64+16*q+8) C/\0<=q/\q<(z.length:Int)/\z.length<=200/\(A=0\/(C.Ez=false/\JA C=true/\0<=A/\A<=C.DY.EJ+1)))) (fun(p:Yg)=>match p with | .b0 ..=>(3,0,0) | .b1 ..=>(2,0,0) | .b2 z _ _ q _=>(1,((z.length:Int) - q).toNat,9) | .b3 z _ _ q _=>(1,((z.length:Int) - q).toNat,8) | .b4 z _ A _=>(1,((z.length:Int) - A).toNat,8) | .b5 z _ _ q _=>(1,((z.length:Int) - q).toNat,7) | .b6 z _ _ q _=>(1,((z.length:Int) - q).toNat,6)) ?_ _ ?_
 all_goals try (intro p hp;cases p)
 case' b0 z a1=>
  dsimp only at hp;have D:=hp
  try dsimp only[BV,Cm,BF,DW,Be,ES,EW,EE,Ba,Ed,Bh]at D
  simp only[QB];clear D;refine Wv (a:=true) rfl ?_;refine EN (fun h=>absurd h (by decide)) (fun _=>?_);refine Am (Zpe z hp) (fun(v:Ad×Int×Bool) hm hv=>?_);refine EN (fun h=>D9 rfl) (fun h=>?_);have F:BV 20000 v.1:=hv (by simpa using h);refine EN (fun h=>D9 rfl) (fun hr=>?_);refine EN (fun h=>D9 rfl) (fun hl=>?_);refine Wv (v_few v.1) ?_;refine EN (fun h=>D9 rfl) (fun hf=>?_);have h9:((a1.length:Nat):Int)<=200:=by simpa using hl
  exact D9 ⟨⟨ZIa F (by simpa using hf),by omega⟩,ET.2 (by omega)⟩
 case' b1=>
  dsimp only at hp;have D:=hp
  try dsimp only[BV,Cm,BF,DW,Be,ES,EW,EE,Ba,Ed,Bh]at D
  simp only[QB];obtain⟨F,g1⟩:=hp;clear D;exact D9 ⟨⟨F,Int.le_refl _,Int.natCast_nonneg _,g1,.inl rfl⟩,ET.2 (by omega)⟩
 case' b2 z a1 A q C=>
  dsimp only at hp;have D:=hp
  try dsimp only[BV,Cm,BF,DW,Be,ES,EW,EE,Ba,Ed,Bh]at D
  simp only[QB];obtain⟨F,G,M,I,J⟩:=hp;clear D;have O:AQ (q+1)=q+1:=Bv (by omega) (by omega);refine EN (fun h=>?_) (fun h=>D9 rfl);have h:=of_decide_eq_true h;refine EN (fun N=>?_) (fun N=>D9 ⟨⟨F,G,h,I⟩,ET.2 (by omega)⟩);refine Am (ZxC (64+16*q) _ F (by omega) (by omega)) (fun(w:Ad) hm hw=>?_);subst hw;refine Wv (ZbW _) ?_;exact EN (fun hs=>D9 ⟨⟨F,G,h,I,by simpa using N,hs,J⟩,ET.2 (by omega)⟩) (fun hs=>D9 ⟨⟨F,G,h,I⟩,ET.2 (by omega)⟩)
 case' b3 z a1 A q C=>
  dsimp only at hp;have D:=hp
  try dsimp only[BV,Cm,BF,DW,Be,ES,EW,EE,Ba,Ed,Bh]at D
  simp only[QB];obtain⟨F,G,M,I,N,hs,J⟩:=hp;clear D;have hk:=Zih hs;have hl:=F.2.2.2.2.2.2.2.2.2;have hc:A=0\/(0<=A/\A<=C.DY.EJ):=J;have O:AQ (A+1)=A+1:=Bv (by have:=hl.2.2.2;omega) (by have:=hl.2.2.2;omega);refine D9 ⟨⟨Fh F (by omega),G,M,I,.inr ⟨N,hs,?_,?_⟩⟩,ET.2 (by omega)⟩
  ·rw[O];omega
  ·rw[O];have:=hl.2.2.1;omega
 case' b4 z a1 A q=>
  dsimp only at hp;have D:=hp
  try dsimp only[BV,Cm,BF,DW,Be,ES,EW,EE,Ba,Ed,Bh]at D
  simp only[QB];obtain⟨F,G,M,I⟩:=hp;clear D;refine Dq (decide_eq_true ⟨G,M⟩) ?_;refine OL ⟨G,M⟩ (fun v hv=>?_);refine EN (fun _=>?_) (fun _=>D9 ⟨⟨Fh F (by omega),G,M,I,.inl rfl⟩,ET.2 (by omega)⟩);refine Dq rfl ?_;obtain⟨r,S,Y⟩:=Zra (64+16*A) q [1,2,3,4,5,6] true a1 F (by omega) (by omega) (by decide) by6;exact Wv S (D9 ⟨⟨Y,G,M,I,.inl rfl⟩,ET.2 (by omega)⟩)
 case' b5=>
  dsimp only at hp;have D:=hp
  try dsimp only[BV,Cm,BF,DW,Be,ES,EW,EE,Ba,Ed,Bh]at D
  simp only[QB];obtain⟨F,G,M,I,J⟩:=hp;clear D;have hl:=F.2.2.2.2.2.2.2.2.2;refine EN (fun _=>?_) (fun _=>D9 ⟨⟨F,G,M,I,J⟩,ET.2 (by omega)⟩);refine EN (fun h=>?_) (fun _=>D9 ⟨⟨F,G,M,I,J⟩,ET.2 (by omega)⟩);have h:=of_decide_eq_true h;exfalso;have h1:=hl.1;have h2:=hl.2.1.1;rcases J with J|⟨N,hs,c1,c2⟩
  ·omega
  ·have:=Zih hs;omega
 case' b6 z a1 A q C=>
  dsimp only at hp;have D:=hp
  try dsimp only[BV,Cm,BF,DW,Be,ES,EW,EE,Ba,Ed,Bh]at D
  simp only[QB];obtain⟨F,G,M,I,J⟩:=hp;clear D;obtain⟨r,S,Y,r3⟩:=Zus (64+16*q+8) C a1 F (by omega) (by omega);have O:AQ (q+1)=q+1:=Bv (by omega) (by omega);refine Wv S (D9 ⟨?_,ET.2 (by rw[O];omega)⟩);rw[O];refine⟨Fh Y (by omega),by omega,by omega,I,?_⟩;rcases J with J|⟨N,hs,c1,c2⟩
  ·exact .inl J
  ·exact .inr ⟨c1,by rw[r3 N hs];exact c2⟩
 all_goals
  try dsimp only at hp
  try exact False.elim hp
  try have D:=hp
  try dsimp only[BV,Cm,BF,DW,Be,ES,EW,EE,Ba,Ed,Bh]at D
  try (repeat with_reducible (have hq:=And.left hp;replace hp:=And.right hp))
  try simp only[QB]
  try dsimp only
  repeat' first|(refine D9 ?_;dsimp only;try simp(disch:=omega) only[Bv,Bi,List.nil_append,List.drop_zero])|(refine EN (fun h=>?_) (fun h=>?_)<;>(try simp only[Fe,reduceCtorEq]at h;try simp(disch:=omega) only[Bv]at h))|refine Dq ?_ ?_|refine GN ?_|with_reducible apply And.intro|rfl|assumption|exact True.intro|omega|exact decide_eq_true (GG _).1|exact Fz (by assumption) (by omega)|exact Fh (by assumption) (by omega) |  exact GM (by assumption) (by omega)|(refine ET.2 ?_;first|omega|grind)|(apply GX;first|omega|(simp only[Bi];omega))|(simp only[Dp,Bi,Cb,maxLen_eq,kL,kA]<;>omega)|(simp(disch:=omega) only[Bv,decide_eq_true_eq,bne_iff_ne,ne_eq];(repeat' split)<;>omega)|(simp[Di,Eu];done)|grind|(simp only[Dp,Bi,Cb,maxLen_eq,kL,kA]<;>grind)|grind [EG]
end Go.Proofs.YtjodhcdmhobmoaaGreatDoor
