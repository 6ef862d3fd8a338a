/- . -/
import Derived.Test.YtjodhcdmhobmoaaGreatDoorWQ1d
set_option linter.unusedVariables false
set_option linter.unusedSimpArgs false
namespace Go.Proofs.YtjodhcdmhobmoaaGreatDoor
open Go Go.Proofs.YtjodhcdmhobmoaaGreatDoor.Le
open Go Go.Proofs.YtjodhcdmhobmoaaGreatDoor.Le Go.Proofs.YtjodhcdmhobmoaaGreatDoor.Na
set_option maxRecDepth 100000
set_option maxHeartbeats 2000000
set_option linter.defProp false
set_option maxHeartbeats 40000000
theorem Zvp:∀(G:AO) (I:List Int),Ce G->(∃u,DU G.Kind=some u/\(I.length:Int)=IQ u/\Di u)->I.length<=65536->∃r,WC G I=some r/\Ce r:=by
 refine fun G I Q J N=>Bd (fun(p:dD)=>match p with | .b0 z A=>Ce z/\z.Kind=G.Kind/\A=I | .b1 z A C _ q=>Ce C/\Di q/\(z.length:Int)=IQ q/\A=1+cond q.BL 9 0/\z.length<=65536 | .b2 z A C _ q=>Ce C/\Di q/\(z.length:Int)=IQ q/\A=1+cond q.BL 9 0+cond q.Map 5 0/\z.length<=65536 | .b3 z A C _ q=>Ce C/\Di q/\(z.length:Int)=IQ q/\A=1+cond q.BL 9 0+cond q.Map 5 0/\z.length<=65536 | .b4 z A C _ q=>Ce C/\Di q/\(z.length:Int)=IQ q/\A=1+cond q.BL 9 0+cond q.Map 5 0+cond q.CQ 1 0/\z.length<=65536 | .b5 z A C _ q=>Ce C/\Di q/\(z.length:Int)=IQ q/\A=1+cond q.BL 9 0+cond q.Map 5 0+cond q.CQ 1 0/\z.length<=65536 | .b6 z A C _ q=>Ce C/\Di q/\(z.length:Int)=IQ q/\A=1+cond q.BL 9 0+cond q.Map 5 0+cond q.CQ 1 0+cond q.CZ 8 0/\z.length<=65536 | .b7 z A C _ q=>Ce C/\Di q/\(z.length:Int)=IQ q/\A=1+cond q.BL 9 0+cond q.Map 5 0+cond q.CQ 1 0+cond q.CZ 8 0/\z.length<=65536 | .b8 z A C _ q=>Ce C/\Di q/\(z.length:Int)=IQ q/\A=1+cond q.BL 9 0+cond q.Map 5 0+cond q.CQ 1 0+cond q.CZ 8 0/\z.length<=65536 | .b9 z A C _ q=>Ce C/\Di q/\(z.length:Int)=IQ q/\A=1+cond q.BL 9 0+cond q.Map 5 0+cond q.CQ 1 0+cond q.CZ 8 0/\z.length<=65536) (fun(p:dD)=>match p with | .b0 ..=>(0,0,9) | .b1 ..=>(0,0,8) | .b2 ..=>(0,0,7) | .b3 ..=>(0,0,6) | .b4 ..=>(0,0,5) | .b5 ..=>(0,0,4) | .b6 ..=>(0,0,3) | .b7 ..=>(0,0,2) | .b8 ..=>(0,0,1) | .b9 ..=>(0,0,0)) ?_ _ ?_
 all_goals try (intro p hp;cases p)
 case' b0=>
  dsimp only at hp;have D:=hp
  try dsimp only[BV,Cm,BF,DW,Be,ES,EW,EE,Ba,Ed,Bh]at D
  simp only[J5];obtain⟨O,hk,rfl⟩:=hp;obtain⟨u,J,N,M⟩:=J;refine Wv (hk▸J) ?_;clear D J hk;simp only[Di,Eu,List.mem_cons,List.not_mem_nil,or_false]at M;rcases M with rfl|rfl|rfl|rfl|rfl|rfl|rfl|rfl|rfl|rfl|rfl|rfl|rfl<;>simp only[IQ,cond_true,cond_false,Bool.or_true,Bool.true_or,Bool.or_false,Bool.false_or,Bool.or_self,reduceCtorEq,and_false]at *<;>repeat' first|(refine EN (fun h=>?_) (fun h=>?_)<;>(try simp only[Fe,reduceCtorEq]at h;try simp(disch:=omega) only[Bv]at h))|(refine Am (Z3q _ _ _ (by omega) (by omega) (by omega) (by omega) (by omega)) (fun(v:Int) hm F=>?_))|(refine Qd ?_ (fun v F=>?_))|(refine Am (Z8S _ _ (by omega) (by omega) (by omega)) (fun(v:DR) hm F=>?_))|(refine D9 ?_;dsimp only;(try simp(disch:=omega) only[Bv]);first|exact⟨⟨by grind,by simp[Di,Eu],by first|omega|(simp only[IQ,cond_true,cond_false,Bool.or_true,Bool.true_or,Bool.or_false,Bool.false_or,Bool.or_self,reduceCtorEq,and_false]at *<;>omega),by first|omega|(simp only[IQ,cond_true,cond_false,Bool.or_true,Bool.true_or,Bool.or_false,Bool.false_or,Bool.or_self,reduceCtorEq,and_false]at *<;>omega),by omega⟩,ET.2 (by omega)⟩|grind)
 case' b1|b2|b3|b4|b5|b6|b7|b8|b9=>
  dsimp only at hp;have D:=hp
  try dsimp only[BV,Cm,BF,DW,Be,ES,EW,EE,Ba,Ed,Bh]at D
  simp only[J5];have hc:=hp.1;have hu:=hp.2.1;have hl:=hp.2.2.1;have S:=hp.2.2.2.1;have hs:=hp.2.2.2.2;clear hp D;simp only[Di,Eu,List.mem_cons,List.not_mem_nil,or_false]at hu;rcases hu with rfl|rfl|rfl|rfl|rfl|rfl|rfl|rfl|rfl|rfl|rfl|rfl|rfl<;>simp only[IQ,cond_true,cond_false,Bool.or_true,Bool.true_or,Bool.or_false,Bool.false_or,Bool.or_self,reduceCtorEq,and_false]at *<;>repeat' first|(refine EN (fun h=>?_) (fun h=>?_)<;>(try simp only[Fe,reduceCtorEq]at h;try simp(disch:=omega) only[Bv]at h))|(refine Dq ?_ ?_)|(refine Am (Z3q _ _ _ (by omega) (by omega) (by omega) (by omega) (by omega)) (fun(v:Int) hm F=>?_))|(refine Qd ?_ (fun v F=>?_))|(refine Am (Z8S _ _ (by omega) (by omega) (by omega)) (fun(v:DR) hm F=>?_))|(refine D9 ?_;dsimp only;(try simp(disch:=omega) only[Bv]);first|exact⟨⟨by grind,by simp[Di,Eu],by first|omega|(simp only[IQ,cond_true,cond_false,Bool.or_true,Bool.true_or,Bool.or_false,Bool.false_or,Bool.or_self,reduceCtorEq,and_false]at *<;>omega),by first|omega|(simp only[IQ,cond_true,cond_false,Bool.or_true,Bool.true_or,Bool.or_false,Bool.false_or,Bool.or_self,reduceCtorEq,and_false]at *<;>omega),by omega⟩,ET.2 (by omega)⟩|grind)
 all_goals
  try dsimp only at hp
  try exact False.elim hp
  try have D:=hp
  try dsimp only[BV,Cm,BF,DW,Be,ES,EW,EE,Ba,Ed,Bh]at D
  try (repeat with_reducible (have O:=And.left hp;replace hp:=And.right hp))
  try simp only[J5]
  try dsimp only
  repeat' first|(refine D9 ?_;dsimp only;try simp(disch:=omega) only[Bv,Bi,List.nil_append,List.drop_zero])|(refine EN (fun h=>?_) (fun h=>?_)<;>(try simp only[Fe,reduceCtorEq]at h;try simp(disch:=omega) only[Bv]at h))|refine Dq ?_ ?_|refine GN ?_|with_reducible apply And.intro|rfl|assumption|exact True.intro|omega|exact decide_eq_true (GG _).1|exact Fz (by assumption) (by omega)|exact Fh (by assumption) (by omega) |  exact GM (by assumption) (by omega)|(refine ET.2 ?_;first|omega|grind)|(apply GX;first|omega|(simp only[Bi];omega))|(simp only[Dp,Bi,Cb,maxLen_eq,kL,kA]<;>omega)|(simp(disch:=omega) only[Bv,decide_eq_true_eq,bne_iff_ne,ne_eq];(repeat' split)<;>omega)|(simp[Di,Eu];done)|grind|(simp only[Dp,Bi,Cb,maxLen_eq,kL,kA]<;>grind)|grind [EG]
theorem Ot:(∀(C:Int),∃r,WM C=some r/\0<=r/\r<=37) /\
  (∀(C F:Int),∃r,vH C F=some r/\True) /\
  (∀(k:Int) (C:Ad),BV k C->0<=k->k<=1000000->∃r,Z29 C=some r/\BV k r) /\
  (∀(C F I:Int),0<=I->I<=100000->∃r,aV C F I=some r/\(r.length:Int)=I/\Cj r) /\
  (∀(C:Int) (F:List Int),F.length<=1000000->∃r,iD C F=some r/\CO r) /\
  (∀(C:AZ) (F:Int),BF C->∃r,Z31 C F=some r/\BF r.1/\r.2.length<=1/\EY r.2) /\
  (∀(C:List BC) (F:Int) (I:BC),(C.length<=1/\EY C)->Hr I->∃r,uJ C F I=some r/\r.1.length<=1/\EY r.1) /\
  (∀(k:Int) (C:Ad) (F:Az),BV k C->Be F->0<=k->k<=1000000->∃r,Z2p C F=some r/\BV k r.1) /\
  (∀(C:List BO) (F:List Int),C.length<=37->F.length<=37->∃r,Z2a C F=some r/\r<(F.length:Int)) /\
  (∀(C:List Int),C.length<=65536->Cj C->∃r,OC C=some r/\(Ce r.1/\(r.2=0->CV r.1)/\(r.2=12->1<=C.length))):=by
 refine⟨fun C=>CG (True) ?_ fun hp=>?_,
  fun C F=>Bd (fun(p:gI)=>match p with | .b0 ..=>True | .b1 z q=>0<=z/\z<(q.length:Int)) (fun(p:gI)=>match p with | .b0 ..=>(0,0,1) | .b1 ..=>(0,0,0)) ?_ _ ?_,
  fun k C J N Q=>Bd (fun(p:dO)=>match p with | .b0 z=>BV k z | .b1 z _ A D _=>F6 z/\BV k D/\0<=A/\A<=(D.Ac.length:Int)/\(z.length:Int)<=A | .b2 z _ A D _ O=>F6 z/\BV k D/\CV O/\0<=A/\A<(D.Ac.length:Int)/\(z.length:Int)<=A | .b3 z _ A D _ O=>F6 z/\BV k D/\CV O/\0<=A/\A<(D.Ac.length:Int)/\(z.length:Int)<=A | .b4 z _ A D _=>F6 z/\BV k D/\0<=A/\A<(D.Ac.length:Int)/\(z.length:Int)<=A+1) (fun(p:dO)=>match p with | .b0 ..=>(1,0,0) | .b1 _ _ A D _=>(0,((D.Ac.length:Int) - A).toNat,2) | .b2 _ _ A D _ _=>(0,((D.Ac.length:Int) - A).toNat,1) | .b3 _ _ A D _ _=>(0,((D.Ac.length:Int) - A).toNat,1) | .b4 _ _ A D _=>(0,((D.Ac.length:Int) - A).toNat,0)) ?_ _ ?_,
  fun C F I J N=>Bd (fun(p:aX)=>match p with | .b0 _ _ A=>A=I/\0<=A/\A<=100000 | .b1 _ q A _ M=>q=I/\0<=q/\q<=100000/\0<=M/\(A.length:Int)=8*M/\8*M<=q+8/\Cj A) (fun(p:aX)=>match p with | .b0 ..=>(1,0,0) | .b1 _ q _ _ M=>(0,(q+8 - 8*M).toNat,0)) ?_ _ ?_,
  fun C F J=>Bd (fun(p:fP)=>match p with | .b0 _ q=>q.length<=1000000 | .b1 _ q A D=>0<=D/\D<=(q.length:Int)+8/\q.length<=1000000/\CO A) (fun(p:fP)=>match p with | .b0 ..=>(1,0,0) | .b1 _ q _ D=>(0,((q.length:Int)+8 - D).toNat,0)) ?_ _ ?_,
  fun C F J=>Bd (fun(p:fV)=>match p with | .b0 z _=>BF z | .b1 z _=>BF z | .b2 z q _=>z.length<=1/\EY z/\BF q | .b3 z q A _=>z.length<=1/\EY z/\BF A/\0<=q/\q<=(z.length:Int) | .b4 z q A _=>z.length<=1/\EY z/\BF A/\0<=q/\q<(z.length:Int) | .b5 z q A _=>z.length<=1/\EY z/\BF A/\0<=q/\q<(z.length:Int)) (fun(p:fV)=>match p with | .b0 ..=>(2,0,0) | .b1 ..=>(1,0,0) | .b2 ..=>(1,0,1) | .b3 z q _ _=>(0,((z.length:Int) - q).toNat,3) | .b4 z q _ _=>(0,((z.length:Int) - q).toNat,2) | .b5 z q _ _=>(0,((z.length:Int) - q).toNat,1)) ?_ _ ?_,
  fun C F I J N=>CG (C.length<=1/\EY C/\Hr I) ?_ fun hp=>?_,
  fun k C F J N Q Y=>Bd (fun(p:eP)=>match p with | .b0 z q=>BV k z/\Be q | .b1 z q _=>BV k z/\Be q) (fun(p:eP)=>match p with | .b0 ..=>(0,0,1) | .b1 ..=>(0,0,0)) ?_ _ ?_,
  fun C F J N=>Bd (fun(p:dB)=>match p with | .b0 z q=>z.length<=37/\q=F/\q.length<=37 | .b1 z q A D=>z.length<=37/\q=F/\q.length<=37/\A<(q.length:Int)/\0<=D/\D<=(q.length:Int) | .b2 z q A D=>z.length<=37/\q=F/\q.length<=37/\A<(q.length:Int)/\0<=D/\D<(q.length:Int) | .b3 z q A=>z.length<=37/\q=F/\q.length<=37/\A<(q.length:Int)/\0<=A) (fun(p:dB)=>match p with | .b0 ..=>(1,0,0) | .b1 _ q _ D=>(0,((q.length:Int) - D).toNat,2) | .b2 _ q _ D=>(0,((q.length:Int) - D).toNat,0) | .b3 _ q A=>(0,((q.length:Int) - A).toNat,1)) ?_ _ ?_,
  fun C J N=>CG (C=C/\C.length<=65536/\Cj C) ?_ fun hp=>?_⟩
 all_goals try (intro p hp;cases p)
 all_goals
  try dsimp only at hp
  try exact False.elim hp
  try have S:=hp
  try dsimp only[BV,Cm,BF,DW,Be,ES,EW,EE,Ba,Ed,Bh]at S
  try (repeat with_reducible (have hq:=And.left hp;replace hp:=And.right hp))
  try simp only[Z2b,Zfs,ZdJ,Vq,Wl,Zg2,Zfq,ZeE,Zcz,qL]
  try dsimp only
  repeat' first|(refine D9 ?_;dsimp only;try simp(disch:=omega) only[Bv,Bi,List.nil_append,List.drop_zero])|(refine EN (fun h=>?_) (fun h=>?_)<;>(try simp only[Fe,reduceCtorEq]at h;try simp(disch:=omega) only[Bv]at h))|refine Dq ?_ ?_|refine GN ?_|refine Am (Zev _) fun(v:(List Int)) hm G=>?_|refine ZhA ?_ fun v G=>?_|refine Am (Zxp _ ?_) fun(v:Bool) hm G=>?_|refine Am (ZrV _) fun(v:Bool) hm G=>?_|refine vY ?_ fun v G=>?_|refine Am (ZtU _ ?_) fun(v:((List Int)×Int)) hm G=>?_|refine Am (Zx5 _ _ ?_ ?_) fun(v:(BR×Int)) hm G=>?_|refine Am (ZAL _ _) fun(v:Int) hm G=>?_|refine Am (Z3b _ _ ?_ ?_) fun(v:La) hm G=>?_|refine Am (ZvY _ ?_) fun(v:Int) hm G=>?_|refine Am (ZAo _ _ ?_) fun(v:((List BC)×(List BC))) hm G=>?_|refine iK ?_ fun v G=>?_|refine Am (ZwM _ _ ?_) fun(v:Int) hm G=>?_|refine Am (Z1O _) fun(v:Int) hm G=>?_|refine Am (ZCN _ _ ?_) fun(v:BO) hm G=>?_|refine Am (ZBT _) fun(v:Bool) hm G=>?_|refine Am (Zea _) fun(v:Int) hm G=>?_|refine Am (bH _) fun(v:CP) hm G=>?_|refine Am (Zxr _) fun(v:Int) hm G=>?_|refine Am (Zvp _ _ ?_ ?_ ?_) fun(v:AO) hm G=>?_|refine Am (Z23 _ ?_) fun(v:Int) hm G=>?_|refine Qd ?_ fun v G=>?_|(exact ZCR (by assumption) (by assumption))|with_reducible apply And.intro|rfl|assumption|exact True.intro|omega|exact decide_eq_true (GG _).1|exact Fz (by assumption) (by omega)|exact Fh (by assumption) (by omega) |  exact GM (by assumption) (by omega)|(refine ET.2 ?_;first|omega|grind)|(apply GX;first|omega|(simp only[Bi];omega))|(simp only[Dp,Bi,Cb,maxLen_eq,kL,kA]<;>omega)|(simp(disch:=omega) only[Bv,decide_eq_true_eq,bne_iff_ne,ne_eq];(repeat' split)<;>omega)|(simp[Di,Eu];done)|grind|(simp only[Dp,Bi,Cb,maxLen_eq,kL,kA]<;>grind)|grind [EG]
def ZvV:=Ot.1
def ZAA:=Ot.2.1
def Zw4:=Ot.2.2.1
def ZsO:=Ot.2.2.2.1
def ZCf:=Ot.2.2.2.2.1
def ZC7:=Ot.2.2.2.2.2.1
def ZBo:=Ot.2.2.2.2.2.2.1
def Zy9:=Ot.2.2.2.2.2.2.2.1
def Zvf:=Ot.2.2.2.2.2.2.2.2.1
def Zcp:=Ot.2.2.2.2.2.2.2.2.2
end Go.Proofs.YtjodhcdmhobmoaaGreatDoor
