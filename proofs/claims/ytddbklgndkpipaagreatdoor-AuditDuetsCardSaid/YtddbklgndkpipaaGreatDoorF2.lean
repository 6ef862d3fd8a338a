/- A part of it. -/
import Derived.Test.YtddbklgndkpipaaGreatDoorF1
set_option linter.unusedVariables false
set_option linter.unusedSimpArgs false
namespace Go.Proofs.YtddbklgndkpipaaGreatDoor
open Go Go.Proofs.YtddbklgndkpipaaGreatDoor.Le
set_option maxRecDepth 100000
noncomputable section
def Z3O:S1 (Int×Int×Unit) Int
 | (a0,a1,_)=>.br ((bits .xor .u32 (Int.tmod a0 2) a1)==1) ( AQ (bits .xor .u32 (IntKind.wrap .u32 (Int.tdiv a0 2)) (14311424:Int))) ( AQ (IntKind.wrap .u32 (Int.tdiv a0 2)))
def oL (a0 a1:Int):Option Int:=Ad Z3O (a0,a1,())
def Zg6:Az U:=⟨[22,22],22,fun x=>oL x.1 x.2.1,by decide⟩
theorem ZfW:BA Tryz.prog B0 244 Zg6:=ok1 BC BB Tryz.func244 (fun _=>by kernel_rfl) (by kernel_rfl)
inductive Vr where
 | b0 (a0:Int) (a1:List Int)
 | b1 (a0:List Int) (a1 a2:Int)
 | b2 (a0:List Int) (a1 a2 a3 a4:Int)
def Z4Q:Vr->Tr U (Int⊕Vr)
 | .b0 a0 a1=>AL (.b1 a1 (Int.tmod a0 16777216) (0:Int))
 | .b1 a0 a1 a2=>.br (decide (a2<(↑a0.length:Int))) ( .chk (kI a2 a0) ( .bind 5 (a0[(Int.toNat a2)]?) (fun(x1:Int)=>AL (.b2 a0 a1 a2 (IntKind.wrap .u32 (x1)) (0:Int))))) ( AQ a1)
 | .b2 a0 a1 a2 a3 a4=>.br (decide (a4<8)) ( .bind 22 (oL a1 (Int.tmod a3 2)) (fun(x1:Int)=>AL (.b2 a0 x1 a2 (IntKind.wrap .u32 (Int.tdiv a3 2)) (A7 (a4+1))))) ( AL (.b1 a0 a1 (A7 (a2+1))))
def aH (a0:Int) (a1:List Int):Option Int:=Ad Z4Q (.b0 a0 a1)
def ZiA:Az U:=⟨[22,65],22,fun x=>aH x.1 x.2.1,by decide⟩
def Z2H:Lay:=LT [1,5,6] [.v 65,.v 22,.v 3] []
def Z2s:Lay:=LT [1,5,6,7,8] [.v 65,.v 22,.v 3,.v 22,.v 3] []
def ZgS:Vr->BQ U
 | .b0 a0 a1=>Bi Tryz.f187 [22,65] (a0,a1,())
 | .b1 a0 a1 a2=>Ah Tryz.f187 [1,1,0,1,0,0,0,0] Z2H (((a0,()),((a1,()),((a2,()),()))),())
 | .b2 a0 a1 a2 a3 a4=>Ah Tryz.f187 [1,1,0,1,0,0,1,0,0,1,1,0,0,0,0] Z2s (((a0,()),((a1,()),((a2,()),((a3,()),((a4,()),()))))),())
theorem Z3u:BA Tryz.prog B0 187 ZiA:=Bl (mc ZfW BC) BB (al [(3,Z2H),(7,Z2s)]) ZgS Tryz.func187 (fun p=>by cases p<;>kernel_rfl) (by kernel_rfl) fun _=>rfl
def Z1F:S1 (Int×(List Int)×Unit) ((List Int)×Int)
 | (a0,a1,_)=>.br (decide ((A7 ((↑a1.length:Int) - 3))<0)) ( .chk true ( AQ (([]:List Int),(3:Int)))) ( .chk (decide (0<=(A7 ((↑a1.length:Int) - 3))/\(A7 ((↑a1.length:Int) - 3))<=(↑a1.length:Int))) ( .chk (MP U 5 ((a1.drop (Int.toNat (A7 ((↑a1.length:Int) - 3)))).take (a1.length - (Int.toNat (A7 ((↑a1.length:Int) - 3)))))) ( .chk (decide (0<=(A7 ((↑a1.length:Int) - 3))/\(A7 ((↑a1.length:Int) - 3))<=(↑a1.length:Int))) ( .bind 22 (aH a0 ((a1.drop 0).take ((Int.toNat (A7 ((↑a1.length:Int) - 3))) - 0))) (fun(x1:Int)=>.bind 65 (Y9 x1) (fun(x2:List Int)=>.chk (MP U 5 x2) ( .br (!((strOf U 5 ((a1.drop (Int.toNat (A7 ((↑a1.length:Int) - 3)))).take (a1.length - (Int.toNat (A7 ((↑a1.length:Int) - 3)))))).toList==(strOf U 5 x2).toList)) ( .chk true ( AQ (([]:List Int),(10:Int)))) ( .chk (decide (0<=(A7 ((↑a1.length:Int) - 3))/\(A7 ((↑a1.length:Int) - 3))<=(↑a1.length:Int))) ( .chk true ( .chk (kA (0+((a1.drop 0).take ((Int.toNat (A7 ((↑a1.length:Int) - 3))) - 0)).length) 1) ( kl (([]:List Int)++((a1.drop 0).take ((Int.toNat (A7 ((↑a1.length:Int) - 3))) - 0))) ( AQ ((([]:List Int)++((a1.drop 0).take ((Int.toNat (A7 ((↑a1.length:Int) - 3))) - 0))),(0:Int))))))))))))))
def lJ (a0:Int) (a1:List Int):Option ((List Int)×Int):=Ad Z1F (a0,a1,())
def ZeE:Az U:=⟨[22,65],200,fun x=>lJ x.1 x.2.1,by decide⟩
theorem Zce:BA Tryz.prog B0 131 ZeE:=ok1 (mc Z2k (mc Z3u BC)) BB Tryz.func131 (fun _=>by kernel_rfl) (by kernel_rfl)
inductive U8 where
 | b0 (a0:List Ba) (a1:Int) (a2:Bool)
 | b1 (a0:Int) (a1:Bool) (a2:List Ba)
 | b2 (a0:Int) (a1:Bool) (a2:List Ba)
 | b3 (a0:Int) (a1:Bool) (a2:List Ba)
 | b4 (a0:Int) (a1:List Ba)
def Z1i:U8->Tr U ((List Ba)⊕U8)
 | .b0 a0 a1 a2=>.chk true ( .chk (kA (0+a0.length) 16) ( .br (decide (a1<0)) ( kl (([]:List Ba)++a0) ( AQ (([]:List Ba)++a0))) ( .br (decide (a1>=(↑a0.length:Int))) ( kl (([]:List Ba)++a0) ( AQ (([]:List Ba)++a0))) ( kl (([]:List Ba)++a0) ( AL (.b1 a1 a2 (([]:List Ba)++a0)))))))
 | .b1 a0 a1 a2=>.br a1 ( kl a2 ( .chk (kI a0 a2) ( kl a2 ( .bind 380 (a2[(Int.toNat a0)]?) (fun(x1:Ba)=>.br (decide (x1.Good<65536)) ( kl a2 ( AL (.b2 a0 a1 a2))) ( kl a2 ( AL (.b3 a0 a1 a2)))))))) ( kl a2 ( AL (.b3 a0 a1 a2)))
 | .b2 a0 a1 a2=>kl a2 ( .chk (kI a0 a2) ( kl a2 ( .bind 380 (a2[(Int.toNat a0)]?) (fun(x1:Ba)=>kl a2 ( .chk (kI a0 a2) ( .chk (a2.length==a2.length&&decide (0<=(Int.toNat a0))) ( .bind 380 (a2[(Int.toNat a0)]?) (fun(x2:Ba)=>.chk ((a2.set (Int.toNat a0) (⟨(A7 (x1.Good+1)),x2.O8⟩:Ba)).length==a2.length) ( AL (.b3 a0 a1 (a2.set (Int.toNat a0) (⟨(A7 (x1.Good+1)),x2.O8⟩:Ba))))))))))))
 | .b3 a0 a1 a2=>.br (!a1) ( kl a2 ( .chk (kI a0 a2) ( kl a2 ( .bind 380 (a2[(Int.toNat a0)]?) (fun(x1:Ba)=>.br (decide (x1.O8<65536)) ( kl a2 ( AL (.b4 a0 a2))) ( kl a2 ( AQ a2))))))) ( kl a2 ( AQ a2))
 | .b4 a0 a1=>kl a1 ( .chk (kI a0 a1) ( kl a1 ( .bind 380 (a1[(Int.toNat a0)]?) (fun(x1:Ba)=>kl a1 ( .chk (kI a0 a1) ( .chk (a1.length==a1.length&&decide (0<=(Int.toNat a0))) ( .bind 380 (a1[(Int.toNat a0)]?) (fun(x2:Ba)=>.chk ((a1.set (Int.toNat a0) (⟨x2.Good,(A7 (x1.O8+1))⟩:Ba)).length==a1.length) ( AQ (a1.set (Int.toNat a0) (⟨x2.Good,(A7 (x1.O8+1))⟩:Ba)))))))))))
def U9 (a0:List Ba) (a1:Int) (a2:Bool):Option (List Ba):=Ad Z1i (.b0 a0 a1 a2)
def Zcq:Az U:=⟨[53,3,4],53,fun x=>U9 x.1 x.2.1 x.2.2.1,by decide⟩
def RD:Lay:=LT [1,2,7] [.v 3,.v 4,.o 380 2 0] [.r 380]
def zZ:Lay:=LT [1,7] [.v 3,.o 380 2 0] [.r 380]
def Zbt:U8->BQ U
 | .b0 a0 a1 a2=>Bi Tryz.f132 [53,3,4] (a0,a1,a2,())
 | .b1 a0 a1 a2=>Ah Tryz.f132 [1,1,1,0,0] RD (((a0,()),((a1,()),((),()))),(a2,()))
 | .b2 a0 a1 a2=>Ah Tryz.f132 [1,1,1,0,1,0] RD (((a0,()),((a1,()),((),()))),(a2,()))
 | .b3 a0 a1 a2=>Ah Tryz.f132 [1,1,1,1,0,0] RD (((a0,()),((a1,()),((),()))),(a2,()))
 | .b4 a0 a1=>Ah Tryz.f132 [1,1,1,1,0,1,0] zZ (((a0,()),((),())),(a1,()))
theorem ZI:BA Tryz.prog B0 132 Zcq:=Bl BC BB (al [(4,RD),(5,RD),(6,RD),(7,zZ)]) Zbt Tryz.func132 (fun p=>by cases p<;>kernel_rfl) (by kernel_rfl) fun _=>rfl
inductive U0 where
 | b0 (a0:List Int)
 | b1 (a0:CG)
 | b2 (a0:List Int) (a1 a2 a3:Int) (a4:CG)
def Z1g:U0->Tr U ((CG×Int)⊕U0)
 | .b0 a0=>.br (decide ((↑a0.length:Int)<2)) ( AQ (H7,3)) ( .chk (kI (0:Int) a0) ( .bind 5 (a0[(Int.toNat 0)]?) (fun(x1:Int)=>.chk (kI (1:Int) a0) ( .bind 5 (a0[(Int.toNat 1)]?) (fun(x2:Int)=>.br (decide ((A7 (x1))>=32)) ( AQ (H7,2)) ( .br ((Int.tmod (A7 (x1)) 4)==0) ( AQ (H7,12)) ( .br ((A7 (x2))==0) ( .br ((Int.tmod (A7 (x1)) 4) != 1) ( AL (.b1 H7)) ( AL (.b2 a0 (A7 (x1)) (A7 (x2)) (Int.tmod (A7 (x1)) 4) H7))) ( AL (.b2 a0 (A7 (x1)) (A7 (x2)) (Int.tmod (A7 (x1)) 4) H7)))))))))
 | .b1 a0=>AQ (H7,1)
 | .b2 a0 a1 a2 a3 a4=>.br (decide ((A7 ((↑a0.length:Int) - 2))<a2)) ( AQ (H7,3)) ( .br (decide ((A7 ((↑a0.length:Int) - 2))>a2)) ( AQ (H7,2)) ( .chk (decide (0<=(2:Int)/\(2:Int)<=(↑a0.length:Int))) ( .chk true ( .chk (kA (0+((a0.drop (Int.toNat 2)).take (a0.length - (Int.toNat 2))).length) 1) ( kl (([]:List Int)++((a0.drop (Int.toNat 2)).take (a0.length - (Int.toNat 2)))) ( AQ ((⟨(Int.tmod (A7 (Int.tdiv a1 8)) (2:Int)),(Int.tmod (A7 (Int.tdiv a1 4)) (2:Int)),(Int.tmod (A7 (Int.tdiv a1 16)) (2:Int)),(⟨a3,(([]:List Int)++((a0.drop (Int.toNat 2)).take (a0.length - (Int.toNat 2))))⟩:Ai)⟩:CG),(0:Int))))))))
def lC (a0:List Int):Option (CG×Int):=Ad Z1g (.b0 a0)
def Zdl:Az U:=⟨[65],322,fun x=>lC x.1,by decide⟩
def Zi:Lay:=LT [2] [.p 0] [.s 319]
def Zk:Lay:=LT [0,2,4,5,6] [.v 65,.p 0,.v 3,.v 3,.v 3] [.s 319]
def Zbs:U0->BQ U
 | .b0 a0=>Bi Tryz.f133 [65] (a0,())
 | .b1 a0=>Ah Tryz.f133 [1,1,1,1,1,1,0,1,0,0] Zi (((),()),((a0,()),()))
 | .b2 a0 a1 a2 a3 a4=>Ah Tryz.f133 [1,1,1,1,1,1,1,0,0] Zk (((a0,()),((),((a1,()),((a2,()),((a3,()),()))))),((a4,()),()))
theorem Zau:BA Tryz.prog B0 133 Zdl:=Bl BC BB (al [(10,Zi),(11,Zk)]) Zbs Tryz.func133 (fun p=>by cases p<;>kernel_rfl) (by kernel_rfl) fun _=>rfl
def Z2N:S1 (Ai×Unit) Bool
 | (a0,_)=>.br (a0.Dn==1) ( AQ ((↑a0.Payload.length:Int)==0)) ( AQ false)
def Ri (a0:Ai):Option Bool:=Ad Z2N (a0,())
def Zeu:Az U:=⟨[67],4,fun x=>Ri x.1,by decide⟩
theorem YC:BA Tryz.prog B0 134 Zeu:=ok1 BC BB Tryz.func134 (fun _=>by kernel_rfl) (by kernel_rfl)
def Z3E:S1 (CG×(List Int)×Unit) CG
 | (a0,a1,_)=>AQ ({ a0 with Bg:=(⟨a0.Bg.Dn,a1⟩:Ai) }:CG)
def Yf (a0:CG) (a1:List Int):Option CG:=Ad Z3E (a0,a1,())
def ZgC:Az U:=⟨[319,65],319,fun x=>Yf x.1 x.2.1,by decide⟩
theorem Z2K:BA Tryz.prog B0 182 ZgC:=ok1 BC BB Tryz.func182 (fun _=>by kernel_rfl) (by kernel_rfl)
inductive Us where
 | b0 (a0:DX) (a1 a2:Int)
 | b1 (a0 a1:Int) (a2:DX)
def Z1H:Us->Tr U (Int⊕Us)
 | .b0 a0 a1 a2=>.br (a1==1) ( AL (.b1 a2 (1:Int) a0)) ( AL (.b1 a2 (0:Int) a0))
 | .b1 a0 a1 a2=>AQ (bits .xor .u64 a2.EG (IntKind.wrap .u64 ((IntKind.wrap .u64 ((2:Int)*a0))+a1)))
def YM (a0:DX) (a1 a2:Int):Option Int:=Ad Z1H (.b0 a0 a1 a2)
def ZdZ:Az U:=⟨[52,3,25],25,fun x=>YM x.1 x.2.1 x.2.2.1,by decide⟩
def Z0o:Lay:=LT [2,3,7] [.v 25,.p 0,.v 25] [.s 52]
def ZbN:Us->BQ U
 | .b0 a0 a1 a2=>Bi Tryz.f184 [52,3,25] (a0,a1,a2,())
 | .b1 a0 a1 a2=>Ah Tryz.f184 [1,1,1,0] Z0o (((a0,()),((),((a1,()),()))),((a2,()),()))
theorem Z0C:BA Tryz.prog B0 184 ZdZ:=Bl BC BB (al [(4,Z0o)]) ZbN Tryz.func184 (fun p=>by cases p<;>kernel_rfl) (by kernel_rfl) fun _=>rfl
inductive U4 where
 | b0 (a0 a1 a2:Int)
 | b1 (a0 a1:Int) (a2:List Int) (a3 a4:Int)
def Z0J:U4->Tr U ((List Int)⊕U4)
 | .b0 a0 a1 a2=>.bind 25 (Rt a0 a1) (fun(x1:Int)=>.chk true ( AL (.b1 a0 a2 ([]:List Int) x1 (0:Int))))
 | .b1 a0 a1 a2 a3 a4=>kl a2 ( .br (decide ((↑a2.length:Int)<a1)) ( .bind 25 (Rt a0 (IntKind.wrap .u64 (a3+(IntKind.wrap .u64 (a4))))) (fun(x1:Int)=>.bind 1585 (QR (8:Int) x1) (fun(y2:Jh)=>kl y2.q0 ( kl a2 ( .chk (kA (a2.length+y2.q0.length) 1) ( kl (a2++y2.q0) ( AL (.b1 a0 a1 (a2++y2.q0) a3 (A7 (a4+1)))))))))) ( kl a2 ( .chk (decide (0<=a1/\a1<=(↑a2.length:Int))) ( kl a2 ( .chk (decide (0+((Int.toNat a1) - 0)<=a2.length)) ( AQ ((a2.drop 0).take ((Int.toNat a1) - 0))))))))
def Xt (a0 a1 a2:Int):Option (List Int):=Ad Z0J (.b0 a0 a1 a2)
def ZbH:Az U:=⟨[32,25,3],65,fun x=>Xt x.1 x.2.1 x.2.2.1,by decide⟩
def zT:Lay:=LT [0,2,7,8,9] [.v 32,.v 3,.o 5 1 0,.v 25,.v 3] [.r 5]
def Zb0:U4->BQ U
 | .b0 a0 a1 a2=>Bi Tryz.f240 [32,25,3] (a0,a1,a2,())
 | .b1 a0 a1 a2 a3 a4=>Ah Tryz.f240 [1,1,1,0,1,0,0,0,0] zT (((a0,()),((a1,()),((),((a3,()),((a4,()),()))))),(a2,()))
theorem ZR:BA Tryz.prog B0 240 ZbH:=Bl (mc Z3A BC) (hc [] Yg BB) (al [(4,zT)]) Zb0 Tryz.func240 (fun p=>by cases p<;>kernel_rfl) (by kernel_rfl) fun _=>rfl
inductive Ug where
 | b0 (a0:Int) (a1 a2:List Int)
def Z2n:Ug->Tr U (QI⊕Ug)
 | .b0 a0 a1 a2=>.bind 1585 (QR (8:Int) a0) (fun(y1:Jh)=>.bind 1585 (QR (4:Int) (IntKind.wrap .u64 ((↑a1.length:Int)))) (fun(y2:Jh)=>kl y2.q0 ( kl y1.q0 ( .chk (kA (y1.q0.length+y2.q0.length) 1) ( kl (y1.q0++y2.q0) ( .chk (kA ((y1.q0++y2.q0).length+a1.length) 1) ( kl ((y1.q0++y2.q0)++a1) ( .chk (kA (((y1.q0++y2.q0)++a1).length+a2.length) 1) ( kl (((y1.q0++y2.q0)++a1)++a2) ( AQ (⟨(((y1.q0++y2.q0)++a1)++a2)⟩:QI)))))))))))
def lX (a0:Int) (a1 a2:List Int):Option QI:=Ad Z2n (.b0 a0 a1 a2)
def Zy:Shape:=⟨[OV 25,OV 65,OV 65],[]⟩
def Z9R:Shape:=⟨[.one (.own 5 0)],[.row 5 true]⟩
noncomputable def Zfh:HMod U:=⟨[KP,[.s 5 1],[.s 5 1]],[],Zy,Z9R,true,1587,fun(y:QI)=>(((),()),(y.q0,())),fun x=>lX x.1.1.1 x.1.2.1.1 x.1.2.2.1.1,okS rfl⟩
def ZbY:Ug->BQ U
 | .b0 a0 a1 a2=>HY Tryz.f278 Zy (((a0,()),((a1,()),((a2,()),()))),())
theorem Zcb:E8 Tryz.prog B0 278 Zfh:=okR BC (hc [] Yg BB) AN [[.own 5 1]] [.row true] 0 ZbY Tryz.func278 (fun p=>by cases p<;>kernel_rfl) (by kernel_rfl) fun x=>by kernel_rfl
def Z5c:S1 (Int×Int×(List Int)×(List Int)×Unit) (List Int)
 | (a0,a1,a2,a3,_)=>.bind 1587 (lX a1 a2 a3) (fun(y1:QI)=>kl y1.q0 ( .bind 25 (aG a0 y1.q0) (fun(x2:Int)=>.bind 1585 (QR (4:Int) x2) (fun(y3:Jh)=>kl y3.q0 ( AQ y3.q0)))))
def Yu (a0 a1:Int) (a2 a3:List Int):Option (List Int):=Ad Z5c (a0,a1,a2,a3,())
def ZjB:Az U:=⟨[32,25,65,65],65,fun x=>Yu x.1 x.2.1 x.2.2.1 x.2.2.2.1,by decide⟩
theorem Z3T:BA Tryz.prog B0 241 ZjB:=ok1 (mc Z3w BC) (hc [] Yg (hc [] Zcb BB)) Tryz.func241 (fun _=>by kernel_rfl) (by kernel_rfl)
def Z3r:S1 ((List Int)×(List Int)×Unit) Bool
 | (a0,a1,_)=>.chk (MP U 5 a0) ( .chk (MP U 5 a1) ( AQ ((strOf U 5 a0).toList==(strOf U 5 a1).toList)))
def oC (a0 a1:List Int):Option Bool:=Ad Z3r (a0,a1,())
def Zh3:Az U:=⟨[65,65],4,fun x=>oC x.1 x.2.1,by decide⟩
theorem Zfe:BA Tryz.prog B0 245 Zh3:=ok1 BC BB Tryz.func245 (fun _=>by kernel_rfl) (by kernel_rfl)
inductive Vd where
 | b0 (a0 a1:List Int)
 | b1 (a0 a1 a2:List Int) (a3:Int)
 | b2 (a0 a1 a2:List Int) (a3:Int)
def Z5x:Vd->Tr U (Np⊕Vd)
 | .b0 a0 a1=>.chk true ( AL (.b1 a0 a1 ([]:List Int) (0:Int)))
 | .b1 a0 a1 a2 a3=>.br (decide (a3<(↑a0.length:Int))) ( .br (decide (a3<(↑a1.length:Int))) ( kl a2 ( AL (.b2 a0 a1 a2 a3))) ( kl a2 ( AQ (⟨a2⟩:Np)))) ( kl a2 ( AQ (⟨a2⟩:Np)))
 | .b2 a0 a1 a2 a3=>.chk (kI a3 a0) ( .bind 5 (a0[(Int.toNat a3)]?) (fun(x1:Int)=>.chk (kI a3 a1) ( .bind 5 (a1[(Int.toNat a3)]?) (fun(x2:Int)=>.chk true ( kl a2 ( .chk (kA (a2.length+1) 1) ( kl (a2++[(bits .xor .u8 x1 x2)]) ( AL (.b1 a0 a1 (a2++[(bits .xor .u8 x1 x2)]) (A7 (a3+1)))))))))))
def aA (a0 a1:List Int):Option Np:=Ad Z5x (.b0 a0 a1)
def Z23:Shape:=⟨[OV 65,OV 65],[]⟩
def Zcm:Shape:=⟨[.one (.own 5 0)],[.row 5 true]⟩
noncomputable def Zjs:HMod U:=⟨[[.s 5 1],[.s 5 1]],[],Z23,Zcm,true,1586,fun(y:Np)=>(((),()),(y.q0,())),fun x=>aA x.1.1.1 x.1.2.1.1,okS rfl⟩
def YH:Lay:=LT [0,1,5,6] [.v 65,.v 65,.o 5 1 0,.v 3] [.r 5]
def Zhs:Vd->BQ U
 | .b0 a0 a1=>HY Tryz.f239 Z23 (((a0,()),((a1,()),())),())
 | .b1 a0 a1 a2 a3=>Ah Tryz.f239 [1,1,0,1,0,0,0,0] YH (((a0,()),((a1,()),((),((a3,()),())))),(a2,()))
 | .b2 a0 a1 a2 a3=>Ah Tryz.f239 [1,1,0,1,0,0,1,0,0] YH (((a0,()),((a1,()),((),((a3,()),())))),(a2,()))
theorem Z4e:E8 Tryz.prog B0 239 Zjs:=okR BC BB (al [(3,YH),(5,YH)]) [[.own 5 1]] [.row true] 0 Zhs Tryz.func239 (fun p=>by cases p<;>kernel_rfl) (by kernel_rfl) fun x=>by kernel_rfl
def Z3R:S1 (Int×Int×(List Int)×(List Int)×Unit) ((List Int)×Int)
 | (a0,a1,a2,a3,_)=>.br (decide ((A7 ((↑a3.length:Int) - 4))<0)) ( .chk true ( AQ (([]:List Int),(3:Int)))) ( .chk (decide (0<=(A7 ((↑a3.length:Int) - 4))/\(A7 ((↑a3.length:Int) - 4))<=(↑a3.length:Int))) ( .bind 65 (Yu a0 a1 a2 ((a3.drop 0).take ((Int.toNat (A7 ((↑a3.length:Int) - 4))) - 0))) (fun(x1:List Int)=>.chk (decide (0<=(A7 ((↑a3.length:Int) - 4))/\(A7 ((↑a3.length:Int) - 4))<=(↑a3.length:Int))) ( .bind 4 (oC x1 ((a3.drop (Int.toNat (A7 ((↑a3.length:Int) - 4)))).take (a3.length - (Int.toNat (A7 ((↑a3.length:Int) - 4)))))) (fun(x2:Bool)=>.br (!x2) ( .chk true ( AQ (([]:List Int),(15:Int)))) ( .bind 65 (Xt a0 a1 (A7 ((↑a3.length:Int) - 4))) (fun(x3:List Int)=>.bind 1586 (aA ((a3.drop 0).take ((Int.toNat (A7 ((↑a3.length:Int) - 4))) - 0)) x3) (fun(y4:Np)=>kl y4.q0 ( AQ (y4.q0,0))))))))))
def oQ (a0 a1:Int) (a2 a3:List Int):Option ((List Int)×Int):=Ad Z3R (a0,a1,a2,a3,())
def Zh4:Az U:=⟨[32,25,65,65],200,fun x=>oQ x.1 x.2.1 x.2.2.1 x.2.2.2.1,by decide⟩
theorem Zfo:BA Tryz.prog B0 190 Zh4:=ok1 (mc ZR (mc Z3T (mc Zfe BC))) (hc [] Z4e BB) Tryz.func190 (fun _=>by kernel_rfl) (by kernel_rfl)
def Z2b:S1 (Int×Unit) Int
 | (a0,_)=>.br (a0==1) ( AQ (0:Int)) ( AQ (1:Int))
def lH (a0:Int):Option Int:=Ad Z2b (a0,())
def ZfL:Az U:=⟨[3],3,fun x=>lH x.1,by decide⟩
theorem ZcU:BA Tryz.prog B0 191 ZfL:=ok1 BC BB Tryz.func191 (fun _=>by kernel_rfl) (by kernel_rfl)
inductive VS where
 | b0 (a0:DX) (a1:CG)
 | b1 (a0:DX) (a1 a2:CG)
def Z3p:VS->Tr U ((CG×Int)⊕VS)
 | .b0 a0 a1=>.bind 61 (Ou a1) (fun(x1:Int)=>.br (x1 != 0) ( AQ (H7,x1)) ( .br (!a0.TW) ( AQ (a1,0)) ( .bind 4 (Ri a1.Bg) (fun(x2:Bool)=>.br x2 ( AQ (a1,0)) ( AL (.b1 a0 a1 H7))))))
 | .b1 a0 a1 a2=>.br (decide ((↑a1.Bg.Payload.length:Int)<5)) ( AQ (H7,3)) ( .bind 3 (lH a0.Dl) (fun(x1:Int)=>.bind 25 (YM a0 x1 a0.Rx) (fun(x2:Int)=>.chk true ( .bind 200 (oQ a0.Key x2 ([(IntKind.wrap .u8 (a1.Bg.Dn))]) a1.Bg.Payload) (fun(x3:(List Int)×Int)=>.br (x3.2 != 0) ( AQ (H7,x3.2)) ( .bind 319 (Yf a1 x3.1) (fun(x4:CG)=>AQ (x4,0))))))))
def oZ (a0:DX) (a1:CG):Option (CG×Int):=Ad Z3p (.b0 a0 a1)
def ZhQ:Az U:=⟨[52,319],322,fun x=>oZ x.1 x.2.1,by decide⟩
def Z0P:Lay:=LT [2,3,4] [.p 0,.p 1,.p 2] [.s 52,.s 319,.s 319]
def ZdW:VS->BQ U
 | .b0 a0 a1=>Bi Tryz.f135 [52,319] (a0,a1,())
 | .b1 a0 a1 a2=>Ah Tryz.f135 [1,1,1,0,0] Z0P (((),((),((),()))),((a0,()),((a1,()),((a2,()),()))))
theorem ZfY:BA Tryz.prog B0 135 ZhQ:=Bl (mc YC (mc RY (mc Z2K (mc Z0C (mc Zfo (mc ZcU BC)))))) BB (al [(6,Z0P)]) ZdW Tryz.func135 (fun p=>by cases p<;>kernel_rfl) (by kernel_rfl) fun _=>rfl
def Z5b:S1 (Af×Int×Unit) (Af×(List Ar))
 | (a0,a1,_)=>.chk true ( AQ (({ a0 with BV:=a1 }:Af),[(⟨4,a0.Event,(⟨0,[]⟩:Ai),RS,(IntKind.wrap .u64 (a1)),ET⟩:Ar)]))
def aF (a0:Af) (a1:Int):Option (Af×(List Ar)):=Ad Z5b (a0,a1,())
def Zjg:Az U:=⟨[55,3],316,fun x=>aF x.1 x.2.1,by decide⟩
theorem Z3F:BA Tryz.prog B0 136 Zjg:=ok1 BC BB Tryz.func136 (fun _=>by kernel_rfl) (by kernel_rfl)
inductive VL where
 | b0 (a0:CZ) (a1:CG)
 | b1 (a0:CZ) (a1:CG) (a2:CZ) (a3:Ai)
 | b2 (a0:Bool) (a1:CZ) (a2:CG) (a3:CZ) (a4:Ai)
 | b3 (a0:Bool) (a1:CZ) (a2:CG) (a3:CZ) (a4:Ai)
 | b4 (a0:Bool) (a1:CZ) (a2:CG) (a3:CZ) (a4:Ai)
 | b5 (a0:Bool) (a1 a2:CZ) (a3:Ai)
def Z3P:VL->Tr U ((CZ×Ai×Bool×Bool)⊕VL)
 | .b0 a0 a1=>.bind 61 (Ou a1) (fun(x1:Int)=>.br (x1 != 0) ( AQ (a0,(⟨0,[]⟩:Ai),false,false)) ( .br a0.Open ( .br (a1.GG != a0.SN) ( AL (.b1 a0 a1 MG (⟨0,([]:List Int)⟩:Ai))) ( AL (.b2 false a0 a1 MG (⟨0,([]:List Int)⟩:Ai)))) ( AL (.b2 false a0 a1 MG (⟨0,([]:List Int)⟩:Ai)))))
 | .b1 a0 a1 a2 a3=>.br (!a0.Empty) ( .br (decide ((↑a0.Am.length:Int)>0)) ( AL (.b3 true ({ a0 with SN:=(A7 ((1:Int) - a0.SN)) }:CZ) a1 a2 a3)) ( AL (.b4 true ({ a0 with SN:=(A7 ((1:Int) - a0.SN)) }:CZ) a1 a2 a3))) ( AL (.b4 true ({ a0 with SN:=(A7 ((1:Int) - a0.SN)) }:CZ) a1 a2 a3))
 | .b2 a0 a1 a2 a3 a4=>.br (a2.SN==a1.GG) ( .bind 4 (Xf a2.Bg) (fun(x1:Bool)=>.br (!x1) ( AQ (({ a1 with GG:=(A7 ((1:Int) - a1.GG)),Taken:=(A7 (a1.Taken+1)) }:CZ),a2.Bg,true,a0)) ( AL (.b5 a0 ({ a1 with GG:=(A7 ((1:Int) - a1.GG)) }:CZ) a3 a4)))) ( AL (.b5 a0 a1 a3 a4))
 | .b3 a0 a1 a2 a3 a4=>.chk (decide (0<=(1:Int)/\(1:Int)<=(↑a1.Am.length:Int))) ( .chk true ( .chk (kA (0+((a1.Am.drop (Int.toNat 1)).take (a1.Am.length - (Int.toNat 1))).length) 32) ( kl (([]:List Ai)++((a1.Am.drop (Int.toNat 1)).take (a1.Am.length - (Int.toNat 1)))) ( AL (.b4 a0 ({ a1 with Am:=(([]:List Ai)++((a1.Am.drop (Int.toNat 1)).take (a1.Am.length - (Int.toNat 1)))),Hl:=(A7 (a1.Hl+1)) }:CZ) a2 a3 a4)))))
 | .b4 a0 a1 a2 a3 a4=>AL (.b2 a0 ({ a1 with Open:=false,Empty:=false }:CZ) a2 a3 a4)
 | .b5 a0 a1 a2 a3=>AQ (a1,(⟨0,[]⟩:Ai),false,a0)
def nX (a0:CZ) (a1:CG):Option (CZ×Ai×Bool×Bool):=Ad Z3P (.b0 a0 a1)
def Zhq:Az U:=⟨[44,319],332,fun x=>nX x.1 x.2.1,by decide⟩
def Z0X:Lay:=LT [2,3,4,5] [.p 0,.p 1,.p 2,.p 3] [.s 44,.s 319,.s 44,.s 67]
def RZ:Lay:=LT [2,3,4,5,7] [.p 0,.p 1,.p 2,.p 3,.v 4] [.s 44,.s 319,.s 44,.s 67]
def Z16:Lay:=LT [2,4,5,7] [.p 0,.p 1,.p 2,.v 4] [.s 44,.s 44,.s 67]
def Zet:VL->BQ U
 | .b0 a0 a1=>Bi Tryz.f137 [44,319] (a0,a1,())
 | .b1 a0 a1 a2 a3=>Ah Tryz.f137 [1,1,0,1,0,0] Z0X (((),((),((),((),())))),((a0,()),((a1,()),((a2,()),((a3,()),())))))
 | .b2 a0 a1 a2 a3 a4=>Ah Tryz.f137 [1,1,1,0,0] RZ (((),((),((),((),((a0,()),()))))),((a1,()),((a2,()),((a3,()),((a4,()),())))))
 | .b3 a0 a1 a2 a3 a4=>Ah Tryz.f137 [1,1,0,1,0,1,1,0,1,0,0] RZ (((),((),((),((),((a0,()),()))))),((a1,()),((a2,()),((a3,()),((a4,()),())))))
 | .b4 a0 a1 a2 a3 a4=>Ah Tryz.f137 [1,1,0,1,0,1,1,1] RZ (((),((),((),((),((a0,()),()))))),((a1,()),((a2,()),((a3,()),((a4,()),())))))
 | .b5 a0 a1 a2 a3=>Ah Tryz.f137 [1,1,1,1,0] Z16 (((),((),((),((a0,()),())))),((a1,()),((a2,()),((a3,()),()))))
theorem ZeY:BA Tryz.prog B0 137 Zhq:=Bl (mc RY (mc Zc BC)) BB (al [(4,Z0X),(10,RZ),(7,RZ),(9,RZ),(15,Z16)]) Zet Tryz.func137 (fun p=>by cases p<;>kernel_rfl) (by kernel_rfl) fun _=>rfl
inductive VM where
 | b0 (a0:DX) (a1 a2:Bool)
 | b1 (a0:Bool) (a1 a2:DX)
 | b2 (a0:Bool) (a1 a2:DX)
 | b3 (a0 a1:DX)
def Z3S:VM->Tr U (DX⊕VM)
 | .b0 a0 a1 a2=>.br a1 ( .br a0.TU ( AL (.b1 a2 a0 QD)) ( AL (.b2 a2 a0 QD))) ( AL (.b2 a2 a0 QD))
 | .b1 a0 a1 a2=>AL (.b2 a0 ({ a1 with Tx:=(IntKind.wrap .u64 (a1.Tx+1)) }:DX) a2)
 | .b2 a0 a1 a2=>.br a0 ( .br a1.TW ( AL (.b3 a1 a2)) ( AQ a1)) ( AQ a1)
 | .b3 a0 a1=>AQ ({ a0 with Rx:=(IntKind.wrap .u64 (a0.Rx+1)) }:DX)
def Ya (a0:DX) (a1 a2:Bool):Option DX:=Ad Z3S (.b0 a0 a1 a2)
def Zi1:Az U:=⟨[52,4,4],52,fun x=>Ya x.1 x.2.1 x.2.2.1,by decide⟩
def YA:Lay:=LT [2,3,6] [.v 4,.p 0,.p 1] [.s 52,.s 52]
def Z0O:Lay:=LT [3,6] [.p 0,.p 1] [.s 52,.s 52]
def Zfp:VM->BQ U
 | .b0 a0 a1 a2=>Bi Tryz.f139 [52,4,4] (a0,a1,a2,())
 | .b1 a0 a1 a2=>Ah Tryz.f139 [1,0,1,0] YA (((a0,()),((),((),()))),((a1,()),((a2,()),())))
 | .b2 a0 a1 a2=>Ah Tryz.f139 [1,1,0,0] YA (((a0,()),((),((),()))),((a1,()),((a2,()),())))
 | .b3 a0 a1=>Ah Tryz.f139 [1,1,0,1,0] Z0O (((),((),())),((a0,()),((a1,()),())))
theorem Z20:BA Tryz.prog B0 139 Zi1:=Bl BC BB (al [(2,YA),(3,YA),(4,Z0O)]) Zfp Tryz.func139 (fun p=>by cases p<;>kernel_rfl) (by kernel_rfl) fun _=>rfl
inductive VZ where
 | b0 (a0:Int)
 | b1 (a0:Int) (a1:CQ)
 | b2 (a0:Int) (a1:CQ)
 | b3 (a0:Int) (a1:CQ)
 | b4 (a0:Int) (a1:CQ)
 | b5 (a0:Int) (a1:CQ)
 | b6 (a0:Int) (a1:CQ)
 | b7 (a0:Int) (a1:CQ)
 | b8 (a0:Int) (a1:CQ)
def Yd:VZ->Tr U (Int⊕VZ)
 | .b0 a0=>.bind 448 (Gv a0) (fun(x1:CQ)=>.br x1.BM ( AL (.b1 (10:Int) x1)) ( AL (.b1 (1:Int) x1)))
 | .b1 a0 a1=>.br a1.Map ( AL (.b2 (A7 (a0+5)) a1)) ( AL (.b2 a0 a1))
 | .b2 a0 a1=>.br a1.EN ( AL (.b3 (A7 (a0+2)) a1)) ( AL (.b3 a0 a1))
 | .b3 a0 a1=>.br a1.BV ( AL (.b4 a0 a1)) ( .br a1.Version ( AL (.b4 a0 a1)) ( .br a1.Length ( AL (.b4 a0 a1)) ( AL (.b5 a0 a1))))
 | .b4 a0 a1=>AL (.b5 (A7 (a0+1)) a1)
 | .b5 a0 a1=>.br a1.H9 ( AL (.b6 (A7 (a0+1)) a1)) ( AL (.b6 a0 a1))
 | .b6 a0 a1=>.br a1.EG ( AL (.b7 a0 a1)) ( .br a1.EU ( AL (.b7 a0 a1)) ( AL (.b8 a0 a1)))
 | .b7 a0 a1=>AL (.b8 (A7 (a0+8)) a1)
 | .b8 a0 a1=>.br a1.Mark ( AQ (A7 (a0+8))) ( AQ a0)
def Yb (a0:Int):Option Int:=Ad Yd (.b0 a0)
def Zhl:Az U:=⟨[3],3,fun x=>Yb x.1,by decide⟩
def Ih:Lay:=LT [3,4] [.p 0,.v 3] [.s 448]
def ZeO:VZ->BQ U
 | .b0 a0=>Bi Tryz.f246 [3] (a0,())
 | .b1 a0 a1=>Ah Tryz.f246 [1,1,1,1,0,0] Ih (((),((a0,()),())),((a1,()),()))
 | .b2 a0 a1=>Ah Tryz.f246 [1,1,1,1,1,0,0] Ih (((),((a0,()),())),((a1,()),()))
 | .b3 a0 a1=>Ah Tryz.f246 [1,1,1,1,1,1,0,0] Ih (((),((a0,()),())),((a1,()),()))
 | .b4 a0 a1=>Ah Tryz.f246 [1,1,1,1,1,1,0,1,0] Ih (((),((a0,()),())),((a1,()),()))
 | .b5 a0 a1=>Ah Tryz.f246 [1,1,1,1,1,1,1,0,0] Ih (((),((a0,()),())),((a1,()),()))
 | .b6 a0 a1=>Ah Tryz.f246 [1,1,1,1,1,1,1,1,0,0] Ih (((),((a0,()),())),((a1,()),()))
 | .b7 a0 a1=>Ah Tryz.f246 [1,1,1,1,1,1,1,1,0,1,0] Ih (((),((a0,()),())),((a1,()),()))
 | .b8 a0 a1=>Ah Tryz.f246 [1,1,1,1,1,1,1,1,1,0,0] Ih (((),((a0,()),())),((a1,()),()))
theorem ZfI:BA Tryz.prog B0 246 Zhl:=Bl (mc Oi BC) BB (al [(5,Ih),(7,Ih),(9,Ih),(10,Ih),(11,Ih),(13,Ih),(14,Ih),(15,Ih)]) ZeO Tryz.func246 (fun p=>by cases p<;>kernel_rfl) (by kernel_rfl) fun _=>rfl
inductive Vm where
 | b0 (a0:List Int) (a1 a2:Int)
 | b1 (a0:List Int) (a1 a2 a3:Int)
def Z4S:Vm->Tr U (Int⊕Vm)
 | .b0 a0 a1 a2=>AL (.b1 a0 a1 (0:Int) (A7 (a2 - 1)))
 | .b1 a0 a1 a2 a3=>.br (decide (a3>=0)) ( .chk (kI (A7 (a1+a3)) a0) ( .bind 5 (a0[(Int.toNat (A7 (a1+a3)))]?) (fun(x1:Int)=>AL (.b1 a0 a1 (IntKind.wrap .u64 ((IntKind.wrap .u64 (a2*256))+(IntKind.wrap .u64 (x1)))) (A7 (a3 - 1)))))) ( AQ a2)
def KE (a0:List Int) (a1 a2:Int):Option Int:=Ad Z4S (.b0 a0 a1 a2)
def ZjN:Az U:=⟨[65,3,3],25,fun x=>KE x.1 x.2.1 x.2.2.1,by decide⟩
def Z29:Lay:=LT [0,1,7,8] [.v 65,.v 3,.v 25,.v 3] []
def Zht:Vm->BQ U
 | .b0 a0 a1 a2=>Bi Tryz.f280 [65,3,3] (a0,a1,a2,())
 | .b1 a0 a1 a2 a3=>Ah Tryz.f280 [1,1,0,1,0,0,0,0] Z29 (((a0,()),((a1,()),((a2,()),((a3,()),())))),())
theorem Z3M:BA Tryz.prog B0 280 ZjN:=Bl BC BB (al [(3,Z29)]) Zht Tryz.func280 (fun p=>by cases p<;>kernel_rfl) (by kernel_rfl) fun _=>rfl
def yS:S1 ((List Int)×Int×Unit) ER
 | (a0,a1,_)=>.bind 25 (KE a0 a1 (1:Int)) (fun(x1:Int)=>.bind 25 (KE a0 (A7 (a1+1)) (2:Int)) (fun(x2:Int)=>.bind 25 (KE a0 (A7 (a1+3)) (2:Int)) (fun(x3:Int)=>.bind 25 (KE a0 (A7 (a1+5)) (2:Int)) (fun(x4:Int)=>.bind 25 (KE a0 (A7 (a1+7)) (2:Int)) (fun(x5:Int)=>AQ (⟨(A7 (x1)),(A7 (x2)),(A7 (x3)),(A7 (x4)),(A7 (x5))⟩:ER))))))
def iP (a0:List Int) (a1:Int):Option ER:=Ad yS (a0,a1,())
def Z9h:Az U:=⟨[65,3],24,fun x=>iP x.1 x.2.1,by decide⟩
theorem Z8G:BA Tryz.prog B0 279 Z9h:=ok1 (mc Z3M BC) BB Tryz.func279 (fun _=>by kernel_rfl) (by kernel_rfl)
inductive Uu where
 | b0 (a0:AV) (a1:List Int)
 | b1 (a0:List Int) (a1:Int) (a2 a3:AV) (a4:CQ)
 | b2 (a0:List Int) (a1:Int) (a2 a3:AV) (a4:CQ)
 | b3 (a0:List Int) (a1:Int) (a2 a3:AV) (a4:CQ)
 | b4 (a0:List Int) (a1:Int) (a2 a3:AV) (a4:CQ)
 | b5 (a0:List Int) (a1:Int) (a2 a3:AV) (a4:CQ)
 | b6 (a0:List Int) (a1:Int) (a2 a3:AV) (a4:CQ)
 | b7 (a0:List Int) (a1:Int) (a2 a3:AV) (a4:CQ)
 | b8 (a0:List Int) (a1:Int) (a2 a3:AV) (a4:CQ)
 | b9 (a0:List Int) (a1:Int) (a2 a3:AV) (a4:CQ)
def Y3:Uu->Tr U (AV⊕Uu)
 | .b0 a0 a1=>.bind 448 (Gv a0.Kind) (fun(x1:CQ)=>.br x1.BM ( .bind 24 (iP a1 (1:Int)) (fun(x2:ER)=>AL (.b1 a1 (10:Int) ({ a0 with BM:=x2 }:AV) Ig x1))) ( AL (.b1 a1 (1:Int) a0 Ig x1)))
 | .b1 a0 a1 a2 a3 a4=>.br a4.Map ( .bind 25 (KE a0 a1 (5:Int)) (fun(x1:Int)=>AL (.b2 a0 (A7 (a1+5)) ({ a2 with Map:=x1 }:AV) a3 a4))) ( AL (.b2 a0 a1 a2 a3 a4))
 | .b2 a0 a1 a2 a3 a4=>.br a4.EN ( .bind 25 (KE a0 a1 (2:Int)) (fun(x1:Int)=>AL (.b3 a0 a1 ({ a2 with EN:=(IntKind.wrap .u16 (x1)) }:AV) a3 a4))) ( AL (.b3 a0 a1 a2 a3 a4))
 | .b3 a0 a1 a2 a3 a4=>.br a4.BV ( .chk (kI a1 a0) ( .bind 5 (a0[(Int.toNat a1)]?) (fun(x1:Int)=>AL (.b4 a0 (A7 (a1+1)) ({ a2 with BV:=(A7 (x1)) }:AV) a3 a4)))) ( AL (.b4 a0 a1 a2 a3 a4))
 | .b4 a0 a1 a2 a3 a4=>.br a4.H9 ( .chk (kI a1 a0) ( .bind 5 (a0[(Int.toNat a1)]?) (fun(x1:Int)=>AL (.b5 a0 a1 ({ a2 with H9:=(A7 (x1)) }:AV) a3 a4)))) ( AL (.b5 a0 a1 a2 a3 a4))
 | .b5 a0 a1 a2 a3 a4=>.br a4.EG ( .bind 25 (KE a0 a1 (8:Int)) (fun(x1:Int)=>AL (.b6 a0 (A7 (a1+8)) ({ a2 with EG:=x1 }:AV) a3 a4))) ( AL (.b6 a0 a1 a2 a3 a4))
 | .b6 a0 a1 a2 a3 a4=>.br a4.Mark ( .bind 25 (KE a0 a1 (8:Int)) (fun(x1:Int)=>AL (.b7 a0 a1 ({ a2 with Mark:=x1 }:AV) a3 a4))) ( AL (.b7 a0 a1 a2 a3 a4))
 | .b7 a0 a1 a2 a3 a4=>.br a4.EU ( .bind 25 (KE a0 a1 (8:Int)) (fun(x1:Int)=>AL (.b8 a0 a1 ({ a2 with EU:=x1 }:AV) a3 a4))) ( AL (.b8 a0 a1 a2 a3 a4))
 | .b8 a0 a1 a2 a3 a4=>.br a4.Version ( .chk (kI a1 a0) ( .bind 5 (a0[(Int.toNat a1)]?) (fun(x1:Int)=>AL (.b9 a0 a1 ({ a2 with Version:=(A7 (x1)) }:AV) a3 a4)))) ( AL (.b9 a0 a1 a2 a3 a4))
 | .b9 a0 a1 a2 a3 a4=>.br a4.Length ( .chk (kI a1 a0) ( .bind 5 (a0[(Int.toNat a1)]?) (fun(x1:Int)=>AQ ({ a2 with Length:=(A7 (x1)) }:AV)))) ( AQ a2)
def mO (a0:AV) (a1:List Int):Option AV:=Ad Y3 (.b0 a0 a1)
def ZeU:Az U:=⟨[310,65],310,fun x=>mO x.1 x.2.1,by decide⟩
def IK:Lay:=LT [1,2,4,5,6] [.v 65,.p 0,.p 1,.p 2,.v 3] [.s 310,.s 310,.s 448]
def Zcz:Uu->BQ U
 | .b0 a0 a1=>Bi Tryz.f247 [310,65] (a0,a1,())
 | .b1 a0 a1 a2 a3 a4=>Ah Tryz.f247 [1,1,1,1,0,0] IK (((a0,()),((),((),((),((a1,()),()))))),((a2,()),((a3,()),((a4,()),()))))
 | .b2 a0 a1 a2 a3 a4=>Ah Tryz.f247 [1,1,1,1,1,0,0] IK (((a0,()),((),((),((),((a1,()),()))))),((a2,()),((a3,()),((a4,()),()))))
 | .b3 a0 a1 a2 a3 a4=>Ah Tryz.f247 [1,1,1,1,1,1,0,0] IK (((a0,()),((),((),((),((a1,()),()))))),((a2,()),((a3,()),((a4,()),()))))
 | .b4 a0 a1 a2 a3 a4=>Ah Tryz.f247 [1,1,1,1,1,1,1,0,0] IK (((a0,()),((),((),((),((a1,()),()))))),((a2,()),((a3,()),((a4,()),()))))
 | .b5 a0 a1 a2 a3 a4=>Ah Tryz.f247 [1,1,1,1,1,1,1,1,0,0] IK (((a0,()),((),((),((),((a1,()),()))))),((a2,()),((a3,()),((a4,()),()))))
 | .b6 a0 a1 a2 a3 a4=>Ah Tryz.f247 [1,1,1,1,1,1,1,1,1,0,0] IK (((a0,()),((),((),((),((a1,()),()))))),((a2,()),((a3,()),((a4,()),()))))
 | .b7 a0 a1 a2 a3 a4=>Ah Tryz.f247 [1,1,1,1,1,1,1,1,1,1,0,0] IK (((a0,()),((),((),((),((a1,()),()))))),((a2,()),((a3,()),((a4,()),()))))
 | .b8 a0 a1 a2 a3 a4=>Ah Tryz.f247 [1,1,1,1,1,1,1,1,1,1,1,0,0] IK (((a0,()),((),((),((),((a1,()),()))))),((a2,()),((a3,()),((a4,()),()))))
 | .b9 a0 a1 a2 a3 a4=>Ah Tryz.f247 [1,1,1,1,1,1,1,1,1,1,1,1,0,0] IK (((a0,()),((),((),((),((a1,()),()))))),((a2,()),((a3,()),((a4,()),()))))
theorem ZbZ:BA Tryz.prog B0 247 ZeU:=Bl (mc Oi (mc Z8G (mc Z3M BC))) BB (al [(6,IK),(9,IK),(11,IK),(14,IK),(16,IK),(19,IK),(21,IK),(23,IK),(25,IK)]) Zcz Tryz.func247 (fun p=>by cases p<;>kernel_rfl) (by kernel_rfl) fun _=>rfl
end
noncomputable section
def Z12:S1 ((List Int)×Unit) (AV×Int)
 | (a0,_)=>.br ((↑a0.length:Int)==0) ( AQ (Ig,3)) ( .chk (kI (0:Int) a0) ( .bind 5 (a0[(Int.toNat 0)]?) (fun(x1:Int)=>.bind 448 (Gv (A7 (x1))) (fun(x2:CQ)=>.br (!x2.JG) ( AQ (Ig,12)) ( .bind 3 (Yb (A7 (x1))) (fun(x3:Int)=>.br (decide ((↑a0.length:Int)<x3)) ( AQ (Ig,3)) ( .bind 3 (Yb (A7 (x1))) (fun(x4:Int)=>.br (decide ((↑a0.length:Int)>x4)) ( AQ (Ig,2)) ( .bind 310 (mO (⟨(A7 (x1)),ET,0,0,0,0,0,0,0,0,0⟩:AV) a0) (fun(x5:AV)=>.bind 61 (Uw x5) (fun(x6:Int)=>.br (x6 != 0) ( AQ (Ig,x6)) ( AQ (x5,0)))))))))))))
def Xv (a0:List Int):Option (AV×Int):=Ad Z12 (a0,())
def ZdC:Az U:=⟨[65],401,fun x=>Xv x.1,by decide⟩
theorem ZE:BA Tryz.prog B0 193 ZdC:=ok1 (mc kR (mc Oi (mc ZfI (mc ZbZ BC)))) BB Tryz.func193 (fun _=>by kernel_rfl) (by kernel_rfl)
inductive VV where
 | b0 (a0:Ae) (a1:AV)
 | b1 (a0:Ae) (a1:AV) (a2:Ae)
 | b2 (a0:Ae) (a1:AV) (a2:Ae)
 | b3 (a0 a1:Ae)
def Z3Q:VV->Tr U ((Ae×(List Ar))⊕VV)
 | .b0 a0 a1=>.br (a0.Gp==0) ( .br (a0.Own==2) ( .br (a1.Kind==2) ( AL (.b1 a0 a1 EI)) ( AL (.b2 a0 a1 EI))) ( AL (.b2 a0 a1 EI))) ( AL (.b2 a0 a1 EI))
 | .b1 a0 a1 a2=>AL (.b2 ({ a0 with Gp:=22 }:Ae) a1 a2)
 | .b2 a0 a1 a2=>.bind 4 (Oo a1.Kind) (fun(x1:Bool)=>.br x1 ( .br (a0.Own==a1.Kind) ( AL (.b3 a0 a2)) ( .chk true ( AQ (a0,([]:List Ar))))) ( .chk true ( AQ (a0,([]:List Ar)))))
 | .b3 a0 a1=>.chk true ( AQ (({ a0 with Told:=true }:Ae),([]:List Ar)))
def nN (a0:Ae) (a1:AV):Option (Ae×(List Ar)):=Ad Z3Q (.b0 a0 a1)
def Zhu:Az U:=⟨[50,310],403,fun x=>nN x.1 x.2.1,by decide⟩
def Xu:Lay:=LT [2,3,4] [.p 0,.p 1,.p 2] [.s 50,.s 310,.s 50]
def Z1k:Lay:=LT [2,4] [.p 0,.p 1] [.s 50,.s 50]
def ZeL:VV->BQ U
 | .b0 a0 a1=>Bi Tryz.f194 [50,310] (a0,a1,())
 | .b1 a0 a1 a2=>Ah Tryz.f194 [1,0,1,0] Xu (((),((),((),()))),((a0,()),((a1,()),((a2,()),()))))
 | .b2 a0 a1 a2=>Ah Tryz.f194 [1,1,0,0] Xu (((),((),((),()))),((a0,()),((a1,()),((a2,()),()))))
 | .b3 a0 a1=>Ah Tryz.f194 [1,1,0,1,0] Z1k (((),((),())),((a0,()),((a1,()),())))
theorem ZdN:BA Tryz.prog B0 194 Zhu:=Bl (mc RX BC) BB (al [(2,Xu),(3,Xu),(4,Z1k)]) ZeL Tryz.func194 (fun p=>by cases p<;>kernel_rfl) (by kernel_rfl) fun _=>rfl
inductive VE where
 | b0 (a0:List Ar) (a1:Int)
 | b1 (a0:List Ar) (a1:Int) (a2:List Ar) (a3:Int)
def Z2y:VE->Tr U ((List Ar)⊕VE)
 | .b0 a0 a1=>.chk true ( AL (.b1 a0 a1 ([]:List Ar) (0:Int)))
 | .b1 a0 a1 a2 a3=>.br (decide (a3<(↑a0.length:Int))) ( .chk (kI a3 a0) ( .bind 226 (a0[(Int.toNat a3)]?) (fun(x1:Ar)=>.chk true ( kl a2 ( .chk (kA (a2.length+1) 160) ( kl (a2++[({ x1 with Event:=a1 }:Ar)]) ( AL (.b1 a0 a1 (a2++[({ x1 with Event:=a1 }:Ar)]) (A7 (a3+1)))))))))) ( kl a2 ( AQ a2))
def YJ (a0:List Ar) (a1:Int):Option (List Ar):=Ad Z2y (.b0 a0 a1)
def ZeA:Az U:=⟨[119,41],119,fun x=>YJ x.1 x.2.1,by decide⟩
def ZK:Lay:=LT [0,1,5,6] [.v 119,.v 41,.o 226 18 0,.v 3] [.r 226]
def Zc8:VE->BQ U
 | .b0 a0 a1=>Bi Tryz.f195 [119,41] (a0,a1,())
 | .b1 a0 a1 a2 a3=>Ah Tryz.f195 [1,1,0,1,0,0,0,0] ZK (((a0,()),((a1,()),((),((a3,()),())))),(a2,()))
theorem Z0W:BA Tryz.prog B0 195 ZeA:=Bl BC BB (al [(3,ZK)]) Zc8 Tryz.func195 (fun p=>by cases p<;>kernel_rfl) (by kernel_rfl) fun _=>rfl
inductive Uh where
 | b0 (a0:Af) (a1:Ai)
 | b1 (a0:Af) (a1:Ai) (a2:Af)
 | b2 (a0:List Ar) (a1 a2:Af)
def Z2a:Uh->Tr U ((Af×(List Ar))⊕Uh)
 | .b0 a0 a1=>.bind 4 (Ri a1) (fun(x1:Bool)=>.br x1 ( .chk true ( AQ (a0,([]:List Ar)))) ( .br a0.Ef.TU ( .bind 52 (Ya a0.Ef true false) (fun(x2:DX)=>AL (.b1 ({ a0 with Ef:=x2 }:Af) a1 CU))) ( AL (.b1 a0 a1 CU))))
 | .b1 a0 a1 a2=>.br (a1.Dn != 3) ( .chk true ( AQ (a0,([]:List Ar)))) ( .bind 401 (Xv a1.Payload) (fun(x1:AV×Int)=>.bind 403 (nN a0.AP x1.1) (fun(x2:Ae×(List Ar))=>.br (x1.1.Kind==5) ( .bind 52 (VW a0.Ef true a0.Ef.TW) (fun(x3:DX)=>AL (.b2 x2.2 ({ a0 with AP:=x2.1,Ef:=x3 }:Af) a2))) ( AL (.b2 x2.2 ({ a0 with AP:=x2.1 }:Af) a2)))))
 | .b2 a0 a1 a2=>.bind 119 (YJ a0 a1.Event) (fun(x1:List Ar)=>AQ (a1,x1))
def mM (a0:Af) (a1:Ai):Option (Af×(List Ar)):=Ad Z2a (.b0 a0 a1)
def Zez:Az U:=⟨[55,67],316,fun x=>mM x.1 x.2.1,by decide⟩
def ZY:Lay:=LT [2,3,4] [.p 0,.p 1,.p 2] [.s 55,.s 67,.s 55]
def Z05:Lay:=LT [2,4,9] [.p 0,.p 1,.v 119] [.s 55,.s 55]
def ZcT:Uh->BQ U
 | .b0 a0 a1=>Bi Tryz.f138 [55,67] (a0,a1,())
 | .b1 a0 a1 a2=>Ah Tryz.f138 [1,1,1,0,0] ZY (((),((),((),()))),((a0,()),((a1,()),((a2,()),()))))
 | .b2 a0 a1 a2=>Ah Tryz.f138 [1,1,1,1,1,1,1,1,0] Z05 (((),((),((a0,()),()))),((a1,()),((a2,()),())))
theorem Zck:BA Tryz.prog B0 138 Zez:=Bl (mc YC (mc Z20 (mc lW (mc ZE (mc ZdN (mc Z0W BC)))))) BB (al [(5,ZY),(12,Z05)]) ZcT Tryz.func138 (fun p=>by cases p<;>kernel_rfl) (by kernel_rfl) fun _=>rfl
inductive Tz where
 | b0 (a0:Ae) (a1:AV) (a2 a3:Int)
 | b1 (a0 a1:Ae)
def yI:Tz->Tr U (Ae⊕Tz)
 | .b0 a0 a1 a2 a3=>.br (a0.Dl != 1) ( AQ a0) ( .bind 111 (YB a1) (fun(x1:BP)=>.bind 471 (Yt a0.Ap a2 x1) (fun(x2:(List BP)×Int)=>.br (x2.2==18) ( AQ ({ a0 with Gp:=40 }:Ae)) ( .br (x2.2 != 0) ( AQ ({ a0 with Gp:=42 }:Ae)) ( .br (a1.Kind==0) ( .br (a0.Own==15) ( AL (.b1 ({ a0 with Other:=a1.Kind,Jj:=a3,Ap:=x2.1 }:Ae) EI)) ( AQ ({ a0 with Other:=a1.Kind,Jj:=a3,Ap:=x2.1 }:Ae))) ( AQ ({ a0 with Other:=a1.Kind,Jj:=a3,Ap:=x2.1 }:Ae)))))))
 | .b1 a0 a1=>AQ ({ a0 with Own:=-1 }:Ae)
def gX (a0:Ae) (a1:AV) (a2 a3:Int):Option Ae:=Ad yI (.b0 a0 a1 a2 a3)
def Z8n:Az U:=⟨[50,310,41,3],50,fun x=>gX x.1 x.2.1 x.2.2.1 x.2.2.2.1,by decide⟩
def xO:Lay:=LT [4,8] [.p 0,.p 1] [.s 50,.s 50]
def Z8a:Tz->BQ U
 | .b0 a0 a1 a2 a3=>Bi Tryz.f249 [50,310,41,3] (a0,a1,a2,a3,())
 | .b1 a0 a1=>Ah Tryz.f249 [1,1,1,1,1,1,1,1,0,1,0] xO (((),((),())),((a0,()),((a1,()),())))
theorem Z8i:BA Tryz.prog B0 249 Z8n:=Bl (mc Z3k (mc ZG BC)) BB (al [(14,xO)]) Z8a Tryz.func249 (fun p=>by cases p<;>kernel_rfl) (by kernel_rfl) fun _=>rfl
def Z4g:S1 (Int×Int×Unit) (List Ar)
 | (a0,a1,_)=>.chk true ( AQ ([(⟨a0,0,(⟨0,[]⟩:Ai),RS,a1,ET⟩:Ar)]))
def KA (a0 a1:Int):Option (List Ar):=Ad Z4g (a0,a1,())
def Zh8:Az U:=⟨[3,25],119,fun x=>KA x.1 x.2.1,by decide⟩
theorem YR:BA Tryz.prog B0 281 Zh8:=ok1 BC BB Tryz.func281 (fun _=>by kernel_rfl) (by kernel_rfl)
inductive UA where
 | b0 (a0:Ae) (a1:AV) (a2:Int)
 | b1 (a0:Int) (a1:Ae) (a2:AV) (a3:Ae)
 | b2 (a0:Bool) (a1:Ae) (a2:AV) (a3:Ae)
 | b3 (a0:Ae) (a1:AV) (a2:Ae)
 | b4 (a0:Bool) (a1:Ae) (a2:AV) (a3:Ae)
 | b5 (a0 a1:Ae)
 | b6 (a0 a1:Ae)
 | b7 (a0:Bool) (a1:Ae) (a2:AV) (a3:Ae)
 | b8 (a0:Bool) (a1 a2:Ae)
def yO:UA->Tr U ((Ae×(List AV)×(List Ar))⊕UA)
 | .b0 a0 a1 a2=>.br (a1.Kind==3) ( .br (!(a0.Dl==0)) ( .br (a0.EJ==0) ( AL (.b1 a2 a0 a1 EI)) ( AL (.b2 (a0.Dl==0) a0 a1 EI))) ( AL (.b2 (a0.Dl==0) a0 a1 EI))) ( AL (.b2 (a0.Dl==0) a0 a1 EI))
 | .b1 a0 a1 a2 a3=>.bind 119 (KA (8:Int) a2.Mark) (fun(x1:List Ar)=>.chk true ( AQ (({ a1 with Other:=3,Jj:=a0,Ku:=a2.EG,Mark:=a2.Mark,EJ:=1 }:Ae),([]:List AV),x1)))
 | .b2 a0 a1 a2 a3=>.br (a2.Kind==4) ( .br a0 ( .br (a1.EJ==1) ( AL (.b3 a1 a2 a3)) ( AL (.b4 a0 a1 a2 a3))) ( AL (.b4 a0 a1 a2 a3))) ( AL (.b4 a0 a1 a2 a3))
 | .b3 a0 a1 a2=>AL (.b5 ({ a0 with Ku:=a1.EG,EJ:=2 }:Ae) a2)
 | .b4 a0 a1 a2 a3=>.br (a2.Kind==5) ( .br a0 ( .br (a1.EJ==2) ( AL (.b6 a1 a3)) ( AL (.b7 a0 a1 a2 a3))) ( AL (.b7 a0 a1 a2 a3))) ( AL (.b7 a0 a1 a2 a3))
 | .b5 a0 a1=>.chk true ( .chk true ( AQ (a0,([]:List AV),([]:List Ar))))
 | .b6 a0 a1=>.bind 47 (LV (⟨6,ET,0,0,0,0,0,0,0,0,0⟩:AV)) (fun(x1:List AV)=>.chk true ( AQ (({ a0 with EJ:=3 }:Ae),x1,([]:List Ar))))
 | .b7 a0 a1 a2 a3=>.br (a2.Kind==6) ( .br (a1.EJ==3) ( AL (.b8 a0 a1 a3)) ( AL (.b5 a1 a3))) ( AL (.b5 a1 a3))
 | .b8 a0 a1 a2=>.br a0 ( .bind 119 (KA (3:Int) (0:Int)) (fun(x1:List Ar)=>.chk true ( AQ (({ a1 with Own:=-1,EJ:=4 }:Ae),([]:List AV),x1)))) ( .bind 47 (LV (⟨6,ET,0,0,0,0,0,0,0,0,0⟩:AV)) (fun(x2:List AV)=>.bind 119 (KA (3:Int) (0:Int)) (fun(x3:List Ar)=>AQ (({ a1 with Other:=-1,EJ:=4 }:Ae),x2,x3))))
def iJ (a0:Ae) (a1:AV) (a2:Int):Option (Ae×(List AV)×(List Ar)):=Ad yO (.b0 a0 a1 a2)
def Z8O:Az U:=⟨[50,310,3],406,fun x=>iJ x.1 x.2.1 x.2.2.1,by decide⟩
def xR:Lay:=LT [2,3,4,6] [.v 3,.p 0,.p 1,.p 2] [.s 50,.s 310,.s 50]
def Qw:Lay:=LT [3,4,6,9] [.p 0,.p 1,.p 2,.v 4] [.s 50,.s 310,.s 50]
def xY:Lay:=LT [3,4,6] [.p 0,.p 1,.p 2] [.s 50,.s 310,.s 50]
def XP:Lay:=LT [3,6] [.p 0,.p 1] [.s 50,.s 50]
def yA:Lay:=LT [3,6,9] [.p 0,.p 1,.v 4] [.s 50,.s 50]
def Z8o:UA->BQ U
 | .b0 a0 a1 a2=>Bi Tryz.f250 [50,310,3] (a0,a1,a2,())
 | .b1 a0 a1 a2 a3=>Ah Tryz.f250 [1,1,0,0,1,0,0] xR (((a0,()),((),((),((),())))),((a1,()),((a2,()),((a3,()),()))))
 | .b2 a0 a1 a2 a3=>Ah Tryz.f250 [1,1,0,0,1,1,0] Qw (((),((),((),((a0,()),())))),((a1,()),((a2,()),((a3,()),()))))
 | .b3 a0 a1 a2=>Ah Tryz.f250 [1,1,0,0,1,1,1,0,0] xY (((),((),((),()))),((a0,()),((a1,()),((a2,()),()))))
 | .b4 a0 a1 a2 a3=>Ah Tryz.f250 [1,1,0,0,1,1,1,1,0] Qw (((),((),((),((a0,()),())))),((a1,()),((a2,()),((a3,()),()))))
 | .b5 a0 a1=>Ah Tryz.f250 [1,1,1,0] XP (((),((),())),((a0,()),((a1,()),())))
 | .b6 a0 a1=>Ah Tryz.f250 [1,1,0,0,1,1,1,1,1,0,0] XP (((),((),())),((a0,()),((a1,()),())))
 | .b7 a0 a1 a2 a3=>Ah Tryz.f250 [1,1,0,0,1,1,1,1,1,1,0] Qw (((),((),((),((a0,()),())))),((a1,()),((a2,()),((a3,()),()))))
 | .b8 a0 a1 a2=>Ah Tryz.f250 [1,1,0,0,1,1,1,1,1,1,1,0,0] yA (((),((),((a0,()),()))),((a1,()),((a2,()),())))
theorem Z8B:BA Tryz.prog B0 250 Z8O:=Bl (mc Rl (mc YR BC)) BB (al [(3,xR),(9,Qw),(10,xY),(12,Qw),(22,XP),(13,XP),(15,Qw),(16,yA)]) Z8o Tryz.func250 (fun p=>by cases p<;>kernel_rfl) (by kernel_rfl) fun _=>rfl
inductive Tu where
 | b0 (a0:Ae) (a1:AV)
 | b1 (a0 a1:Ae)
 | b2 (a0:Ae) (a1:AV) (a2:Ae)
 | b3 (a0:Ae) (a1:AV) (a2:Ae)
def yJ:Tu->Tr U ((Ae×(List AV)×(List Ar))⊕Tu)
 | .b0 a0 a1=>.br (a0.Own != a1.H9) ( AL (.b1 a0 EI)) ( .bind 4 (Oo a0.Own) (fun(x1:Bool)=>.br x1 ( AL (.b1 a0 EI)) ( .br (a0.Own==2) ( AL (.b1 a0 EI)) ( AL (.b2 a0 a1 EI)))))
 | .b1 a0 a1=>.chk true ( .chk true ( AQ (a0,([]:List AV),([]:List Ar))))
 | .b2 a0 a1 a2=>.br (a0.Own==3) ( AL (.b3 ({ a0 with EJ:=0 }:Ae) a1 a2)) ( AL (.b3 a0 a1 a2))
 | .b3 a0 a1 a2=>.bind 119 (KA (9:Int) (IntKind.wrap .u64 (a1.H9))) (fun(x1:List Ar)=>.chk true ( AQ (({ a0 with Own:=-1 }:Ae),([]:List AV),x1)))
def iD (a0:Ae) (a1:AV):Option (Ae×(List AV)×(List Ar)):=Ad yJ (.b0 a0 a1)
def Z8E:Az U:=⟨[50,310],406,fun x=>iD x.1 x.2.1,by decide⟩
def xP:Lay:=LT [2,4] [.p 0,.p 1] [.s 50,.s 50]
def XM:Lay:=LT [2,3,4] [.p 0,.p 1,.p 2] [.s 50,.s 310,.s 50]
def Z8c:Tu->BQ U
 | .b0 a0 a1=>Bi Tryz.f251 [50,310] (a0,a1,())
 | .b1 a0 a1=>Ah Tryz.f251 [1,0,1,0,0] xP (((),((),())),((a0,()),((a1,()),())))
 | .b2 a0 a1 a2=>Ah Tryz.f251 [1,1,0,0] XM (((),((),((),()))),((a0,()),((a1,()),((a2,()),()))))
 | .b3 a0 a1 a2=>Ah Tryz.f251 [1,1,1,0] XM (((),((),((),()))),((a0,()),((a1,()),((a2,()),()))))
theorem Z8f:BA Tryz.prog B0 251 Z8E:=Bl (mc RX (mc YR BC)) BB (al [(2,xP),(3,XM),(5,XM)]) Z8c Tryz.func251 (fun p=>by cases p<;>kernel_rfl) (by kernel_rfl) fun _=>rfl
def yK:S1 (Ae×AV×Int×Unit) (Ae×(List AV)×(List Ar))
 | (a0,a1,a2,_)=>.br (a0.Dl != 0) ( .chk true ( .chk true ( AQ (a0,([]:List AV),([]:List Ar))))) ( .bind 4 (Oo a0.Own) (fun(x1:Bool)=>.br x1 ( .bind 47 (LV (⟨13,ET,0,0,42,15,0,0,0,0,0⟩:AV)) (fun(x2:List AV)=>.chk true ( AQ (a0,x2,([]:List Ar))))) ( .chk true ( .chk true ( AQ (({ a0 with Other:=15,Jj:=a2 }:Ae),([]:List AV),[(⟨12,0,(⟨0,[]⟩:Ai),RS,0,a1.BM⟩:Ar)]))))))
def gZ (a0:Ae) (a1:AV) (a2:Int):Option (Ae×(List AV)×(List Ar)):=Ad yK (a0,a1,a2,())
def Z8l:Az U:=⟨[50,310,3],406,fun x=>gZ x.1 x.2.1 x.2.2.1,by decide⟩
theorem Z89:BA Tryz.prog B0 252 Z8l:=ok1 (mc Rl (mc RX BC)) BB Tryz.func252 (fun _=>by kernel_rfl) (by kernel_rfl)
inductive Tv where
 | b0 (a0:Ae) (a1:AV)
 | b1 (a0 a1:Ae)
 | b2 (a0:Ae) (a1:AV) (a2:Ae)
def yH:Tv->Tr U ((Ae×(List AV)×(List Ar))⊕Tv)
 | .b0 a0 a1=>.br (a1.Kind==21) ( .br (a0.Own != 20) ( AL (.b1 a0 EI)) ( AL (.b2 a0 a1 EI))) ( AL (.b2 a0 a1 EI))
 | .b1 a0 a1=>.chk true ( .chk true ( AQ (a0,([]:List AV),([]:List Ar))))
 | .b2 a0 a1 a2=>.br (a1.Kind==21) ( .bind 119 (KA (11:Int) (IntKind.wrap .u64 ((if a0.Limit<a1.Length then a0.Limit else a1.Length)))) (fun(x1:List Ar)=>.chk true ( AQ (({ a0 with Own:=-1,Length:=(if a0.Limit<a1.Length then a0.Limit else a1.Length) }:Ae),([]:List AV),x1)))) ( .bind 47 (LV (⟨21,ET,0,0,0,0,0,0,0,0,a0.Limit⟩:AV)) (fun(x2:List AV)=>.bind 119 (KA (11:Int) (IntKind.wrap .u64 ((if a0.Limit<a1.Length then a0.Limit else a1.Length)))) (fun(x3:List Ar)=>AQ (({ a0 with Length:=(if a0.Limit<a1.Length then a0.Limit else a1.Length) }:Ae),x2,x3))))
def iE (a0:Ae) (a1:AV):Option (Ae×(List AV)×(List Ar)):=Ad yH (.b0 a0 a1)
def Z8y:Az U:=⟨[50,310],406,fun x=>iE x.1 x.2.1,by decide⟩
def xM:Lay:=LT [2,4] [.p 0,.p 1] [.s 50,.s 50]
def xQ:Lay:=LT [2,3,4] [.p 0,.p 1,.p 2] [.s 50,.s 310,.s 50]
def Z87:Tv->BQ U
 | .b0 a0 a1=>Bi Tryz.f253 [50,310] (a0,a1,())
 | .b1 a0 a1=>Ah Tryz.f253 [1,0,1,0,0] xM (((),((),())),((a0,()),((a1,()),())))
 | .b2 a0 a1 a2=>Ah Tryz.f253 [1,1,0] xQ (((),((),((),()))),((a0,()),((a1,()),((a2,()),()))))
theorem Z8g:BA Tryz.prog B0 253 Z8y:=Bl (mc Rl (mc YR BC)) BB (al [(2,xM),(3,xQ)]) Z87 Tryz.func253 (fun p=>by cases p<;>kernel_rfl) (by kernel_rfl) fun _=>rfl
inductive UF where
 | b0 (a0:Ae) (a1:AV)
 | b1 (a0:Ae) (a1:AV) (a2:Ae)
 | b2 (a0:Ae) (a1:AV) (a2:Ae)
 | b3 (a0 a1:Ae)
 | b4 (a0 a1:Ae)
def yV:UF->Tr U ((Ae×(List AV)×(List Ar))⊕UF)
 | .b0 a0 a1=>.br (a1.Kind==8) ( .bind 47 (LV (⟨9,ET,0,0,0,0,0,0,a0.EU,0,0⟩:AV)) (fun(x1:List AV)=>.bind 119 (KA (5:Int) (bits .and .u64 a0.EU a1.EU)) (fun(x2:List Ar)=>AQ (({ a0 with OJ:=(bits .and .u64 a0.EU a1.EU),JG:=true }:Ae),x1,x2)))) ( .br (a1.Kind==9) ( .br (a0.Own==8) ( AL (.b1 a0 a1 EI)) ( AL (.b2 a0 a1 EI))) ( AL (.b2 a0 a1 EI)))
 | .b1 a0 a1 a2=>.bind 119 (KA (5:Int) (bits .and .u64 a0.EU a1.EU)) (fun(x1:List Ar)=>.chk true ( AQ (({ a0 with Own:=-1,OJ:=(bits .and .u64 a0.EU a1.EU),JG:=true }:Ae),([]:List AV),x1)))
 | .b2 a0 a1 a2=>.br (a1.Kind==12) ( .bind 119 (KA (6:Int) (IntKind.wrap .u64 (a1.Version))) (fun(x1:List Ar)=>.br (a0.Own==12) ( .chk true ( AQ (({ a0 with Own:=-1,Version:=a1.Version }:Ae),([]:List AV),x1))) ( .br a0.KG ( .chk true ( AQ (({ a0 with Version:=a1.Version }:Ae),([]:List AV),x1))) ( .bind 47 (LV (⟨12,ET,0,0,0,0,0,0,0,11,0⟩:AV)) (fun(x2:List AV)=>AQ (({ a0 with KG:=true,Version:=a1.Version }:Ae),x2,x1)))))) ( .br (a1.Kind==18) ( .bind 47 (LV (⟨19,ET,0,0,0,0,0,0,0,0,0⟩:AV)) (fun(x3:List AV)=>.chk true ( AQ (a0,x3,([]:List Ar))))) ( .br (a1.Kind==19) ( .br (a0.Own==18) ( AL (.b3 a0 a2)) ( AL (.b4 a0 a2))) ( AL (.b4 a0 a2))))
 | .b3 a0 a1=>.bind 119 (KA (7:Int) (0:Int)) (fun(x1:List Ar)=>.chk true ( AQ (({ a0 with Own:=-1 }:Ae),([]:List AV),x1)))
 | .b4 a0 a1=>.chk true ( .chk true ( AQ (a0,([]:List AV),([]:List Ar))))
def iO (a0:Ae) (a1:AV):Option (Ae×(List AV)×(List Ar)):=Ad yV (.b0 a0 a1)
def Z9a:Az U:=⟨[50,310],406,fun x=>iO x.1 x.2.1,by decide⟩
def XQ:Lay:=LT [2,3,4] [.p 0,.p 1,.p 2] [.s 50,.s 310,.s 50]
def XR:Lay:=LT [2,4] [.p 0,.p 1] [.s 50,.s 50]
def Z8U:UF->BQ U
 | .b0 a0 a1=>Bi Tryz.f254 [50,310] (a0,a1,())
 | .b1 a0 a1 a2=>Ah Tryz.f254 [1,0,0,1,1,1,0,0] XQ (((),((),((),()))),((a0,()),((a1,()),((a2,()),()))))
 | .b2 a0 a1 a2=>Ah Tryz.f254 [1,0,0,1,1,1,1,0] XQ (((),((),((),()))),((a0,()),((a1,()),((a2,()),()))))
 | .b3 a0 a1=>Ah Tryz.f254 [1,0,0,1,1,1,1,1,1,1,1,1,0,0] XR (((),((),())),((a0,()),((a1,()),())))
 | .b4 a0 a1=>Ah Tryz.f254 [1,1,0] XR (((),((),())),((a0,()),((a1,()),())))
theorem Z8L:BA Tryz.prog B0 254 Z9a:=Bl (mc Rl (mc YR BC)) BB (al [(6,XQ),(10,XQ),(23,XR),(25,XR)]) Z8U Tryz.func254 (fun p=>by cases p<;>kernel_rfl) (by kernel_rfl) fun _=>rfl
inductive UR where
 | b0 (a0:Ae) (a1:AV) (a2 a3:Int)
 | b1 (a0 a1:Int) (a2:Ae) (a3:AV) (a4:Ae)
 | b2 (a0 a1:Int) (a2:Ae) (a3:AV) (a4:Ae)
 | b3 (a0 a1:Ae)
 | b4 (a0:Int) (a1:Ae) (a2:AV) (a3:Ae)
 | b5 (a0 a1:Int) (a2:Ae) (a3:AV) (a4:Ae)
 | b6 (a0:Ae) (a1:AV) (a2:Ae)
 | b7 (a0 a1:Int) (a2:Ae) (a3:AV) (a4:Ae)
 | b8 (a0:Ae) (a1:AV) (a2:Ae)
 | b9 (a0:Ae) (a1:AV) (a2:Ae)
def Z1r:UR->Tr U ((Ae×(List AV)×(List Ar))⊕UR)
 | .b0 a0 a1 a2 a3=>.br (a0.Gp != 0) ( .chk true ( .chk true ( AQ (a0,([]:List AV),([]:List Ar))))) ( .bind 448 (Gv a1.Kind) (fun(x1:CQ)=>.br (!x1.JG) ( .bind 47 (LV (⟨7,ET,0,0,0,(if (255:Int)<(if (0:Int)>a1.Kind then (0:Int) else a1.Kind) then (255:Int) else (if (0:Int)>a1.Kind then (0:Int) else a1.Kind)),0,0,0,0,0⟩:AV)) (fun(x2:List AV)=>.chk true ( AQ (a0,x2,([]:List Ar))))) ( .br (a1.Kind==0) ( .br (a1.Kind==0) ( AL (.b1 a2 a3 a0 a1 EI)) ( AL (.b2 a3 a1.Kind a0 a1 EI))) ( .br (a1.Kind==1) ( AL (.b1 a2 a3 a0 a1 EI)) ( AL (.b2 a3 a1.Kind a0 a1 EI))))))
 | .b1 a0 a1 a2 a3 a4=>.bind 50 (gX a2 a3 a0 a1) (fun(x1:Ae)=>.chk true ( .chk true ( AQ (x1,([]:List AV),([]:List Ar)))))
 | .b2 a0 a1 a2 a3 a4=>.br (a1==2) ( .br (a3.BV==0) ( AL (.b3 ({ a2 with Gp:=19 }:Ae) a4)) ( AL (.b3 ({ a2 with Gp:=a3.BV }:Ae) a4))) ( .br (a1==3) ( .br (a1==3) ( AL (.b4 a0 a2 a3 a4)) ( AL (.b5 a0 a1 a2 a3 a4))) ( .br (a1==4) ( .br (a1==4) ( AL (.b4 a0 a2 a3 a4)) ( AL (.b5 a0 a1 a2 a3 a4))) ( .br (a1==5) ( .br (a1==5) ( AL (.b4 a0 a2 a3 a4)) ( AL (.b5 a0 a1 a2 a3 a4))) ( .br (a1==6) ( AL (.b4 a0 a2 a3 a4)) ( AL (.b5 a0 a1 a2 a3 a4))))))
 | .b3 a0 a1=>.chk true ( .chk true ( AQ (a0,([]:List AV),([]:List Ar))))
 | .b4 a0 a1 a2 a3=>.bind 406 (iJ a1 a2 a0) (fun(x1:Ae×(List AV)×(List Ar))=>AQ (x1.1,x1.2.1,x1.2.2))
 | .b5 a0 a1 a2 a3 a4=>.br (a1==7) ( .br (a1==7) ( AL (.b6 a2 a3 a4)) ( AL (.b7 a0 a1 a2 a3 a4))) ( .br (a1==13) ( AL (.b6 a2 a3 a4)) ( AL (.b7 a0 a1 a2 a3 a4)))
 | .b6 a0 a1 a2=>.bind 406 (iD a0 a1) (fun(x1:Ae×(List AV)×(List Ar))=>AQ (x1.1,x1.2.1,x1.2.2))
 | .b7 a0 a1 a2 a3 a4=>.br (a1==15) ( .bind 406 (gZ a2 a3 a0) (fun(x1:Ae×(List AV)×(List Ar))=>AQ (x1.1,x1.2.1,x1.2.2))) ( .br (a1==20) ( .br (a1==20) ( AL (.b8 a2 a3 a4)) ( AL (.b9 a2 a3 a4))) ( .br (a1==21) ( AL (.b8 a2 a3 a4)) ( AL (.b9 a2 a3 a4))))
 | .b8 a0 a1 a2=>.bind 406 (iE a0 a1) (fun(x1:Ae×(List AV)×(List Ar))=>AQ (x1.1,x1.2.1,x1.2.2))
 | .b9 a0 a1 a2=>.bind 406 (iO a0 a1) (fun(x1:Ae×(List AV)×(List Ar))=>AQ (x1.1,x1.2.1,x1.2.2))
def kT (a0:Ae) (a1:AV) (a2 a3:Int):Option (Ae×(List AV)×(List Ar)):=Ad Z1r (.b0 a0 a1 a2 a3)
def ZdA:Az U:=⟨[50,310,41,3],406,fun x=>kT x.1 x.2.1 x.2.2.1 x.2.2.2.1,by decide⟩
def zU:Lay:=LT [2,3,4,5,8] [.v 41,.v 3,.p 0,.p 1,.p 2] [.s 50,.s 310,.s 50]
def RG:Lay:=LT [3,4,5,8,28] [.v 3,.p 0,.p 1,.p 2,.v 3] [.s 50,.s 310,.s 50]
def zY:Lay:=LT [4,8] [.p 0,.p 1] [.s 50,.s 50]
def zS:Lay:=LT [3,4,5,8] [.v 3,.p 0,.p 1,.p 2] [.s 50,.s 310,.s 50]
def RF:Lay:=LT [4,5,8] [.p 0,.p 1,.p 2] [.s 50,.s 310,.s 50]
def Zb1:UR->BQ U
 | .b0 a0 a1 a2 a3=>Bi Tryz.f196 [50,310,41,3] (a0,a1,a2,a3,())
 | .b1 a0 a1 a2 a3 a4=>Ah Tryz.f196 [1,1,1,0,1,0,1,0,0] zU (((a0,()),((a1,()),((),((),((),()))))),((a2,()),((a3,()),((a4,()),()))))
 | .b2 a0 a1 a2 a3 a4=>Ah Tryz.f196 [1,1,1,0,1,0,1,1,0] RG (((a0,()),((),((),((),((a1,()),()))))),((a2,()),((a3,()),((a4,()),()))))
 | .b3 a0 a1=>Ah Tryz.f196 [1,1,1,0,1,0,1,1,1,0,1,1,0] zY (((),((),())),((a0,()),((a1,()),())))
 | .b4 a0 a1 a2 a3=>Ah Tryz.f196 [1,1,1,0,1,0,1,1,1,1,1,0,0] zS (((a0,()),((),((),((),())))),((a1,()),((a2,()),((a3,()),()))))
 | .b5 a0 a1 a2 a3 a4=>Ah Tryz.f196 [1,1,1,0,1,0,1,1,1,1,1,1,0,0] RG (((a0,()),((),((),((),((a1,()),()))))),((a2,()),((a3,()),((a4,()),()))))
 | .b6 a0 a1 a2=>Ah Tryz.f196 [1,1,1,0,1,0,1,1,1,1,1,1,1,0,0] RF (((),((),((),()))),((a0,()),((a1,()),((a2,()),()))))
 | .b7 a0 a1 a2 a3 a4=>Ah Tryz.f196 [1,1,1,0,1,0,1,1,1,1,1,1,1,1,0] RG (((a0,()),((),((),((),((a1,()),()))))),((a2,()),((a3,()),((a4,()),()))))
 | .b8 a0 a1 a2=>Ah Tryz.f196 [1,1,1,0,1,0,1,1,1,1,1,1,1,1,1,1,1,0,0] RF (((),((),((),()))),((a0,()),((a1,()),((a2,()),()))))
 | .b9 a0 a1 a2=>Ah Tryz.f196 [1,1,1,1,0] RF (((),((),((),()))),((a0,()),((a1,()),((a2,()),()))))
theorem Zbc:BA Tryz.prog B0 196 ZdA:=Bl (mc Rl (mc Oi (mc Z8i (mc Z8B (mc Z8f (mc Z89 (mc Z8g (mc Z8L BC)))))))) BB (al [(8,zU),(9,RG),(13,zY),(18,zS),(19,RG),(21,RF),(22,RG),(26,RF),(27,RF)]) Zb1 Tryz.func196 (fun p=>by cases p<;>kernel_rfl) (by kernel_rfl) fun _=>rfl
inductive UM where
 | b0 (a0:Af) (a1:List Int) (a2:Int)
 | b1 (a0:List Ar) (a1 a2:Af) (a3:Ae)
 | b2 (a0:List Ar) (a1 a2:Af)
def ZX:UM->Tr U ((Af×(List Ar))⊕UM)
 | .b0 a0 a1 a2=>.bind 401 (Xv a1) (fun(x1:AV×Int)=>.br (x1.2==12) ( .chk true ( .chk (kA (0+a0.A8.length) 120) ( .chk (kI (0:Int) a1) ( .bind 5 (a1[(Int.toNat 0)]?) (fun(x2:Int)=>.chk true ( kl (([]:List AV)++a0.A8) ( .chk (kA ((([]:List AV)++a0.A8).length+1) 120) ( kl ((([]:List AV)++a0.A8)++[(⟨7,ET,0,0,0,(A7 (x2)),0,0,0,0,0⟩:AV)]) ( .chk true ( AQ (({ a0 with A8:=((([]:List AV)++a0.A8)++[(⟨7,ET,0,0,0,(A7 (x2)),0,0,0,0,0⟩:AV)]) }:Af),([]:List Ar)))))))))))) ( .br (x1.2 != 0) ( .chk true ( AQ (a0,([]:List Ar)))) ( .bind 406 (kT a0.AP x1.1 a0.Event a2) (fun(x3:Ae×(List AV)×(List Ar))=>.chk true ( .chk (kA (0+a0.A8.length) 120) ( kl (([]:List AV)++a0.A8) ( .chk (kA ((([]:List AV)++a0.A8).length+x3.2.1.length) 120) ( .br (a0.Dl==0) ( .br (x1.1.Kind==5) ( .br (x3.1.EJ==3) ( kl ((([]:List AV)++a0.A8)++x3.2.1) ( AL (.b1 x3.2.2 ({ a0 with AP:=x3.1,A8:=((([]:List AV)++a0.A8)++x3.2.1) }:Af) CU x3.1))) ( kl ((([]:List AV)++a0.A8)++x3.2.1) ( AL (.b2 x3.2.2 ({ a0 with AP:=x3.1,A8:=((([]:List AV)++a0.A8)++x3.2.1) }:Af) CU)))) ( kl ((([]:List AV)++a0.A8)++x3.2.1) ( AL (.b2 x3.2.2 ({ a0 with AP:=x3.1,A8:=((([]:List AV)++a0.A8)++x3.2.1) }:Af) CU)))) ( kl ((([]:List AV)++a0.A8)++x3.2.1) ( AL (.b2 x3.2.2 ({ a0 with AP:=x3.1,A8:=((([]:List AV)++a0.A8)++x3.2.1) }:Af) CU)))))))))))
 | .b1 a0 a1 a2 a3=>.bind 52 (Yw a1.Dl a1.Key a3.EG a3.Ku) (fun(x1:DX)=>.bind 52 (VW x1 true true) (fun(x2:DX)=>kl a1.A8 ( AL (.b2 a0 ({ a1 with Ef:=x2 }:Af) a2))))
 | .b2 a0 a1 a2=>.bind 119 (YJ a0 a1.Event) (fun(x1:List Ar)=>kl a1.A8 ( AQ (a1,x1)))
def jI (a0:Af) (a1:List Int) (a2:Int):Option (Af×(List Ar)):=Ad ZX (.b0 a0 a1 a2)
def ZaJ:Az U:=⟨[55,65,3],316,fun x=>jI x.1 x.2.1 x.2.2.1,by decide⟩
def zK:Lay:=⟨[3,6,10,12],[KP,KP,KP,[.s 226 18]],[.var k10,.var k2,.var k0,.row true],⟨[PQ 0,PQ 1,PQ 2,OV 119],[.var 55 66 (XH 3),VA 55 66,VA 50 20,.row 310 true]⟩⟩
def zD:Lay:=⟨[3,6,12],[KP,KP,[.s 226 18]],[.var k10,.var k2,.row true],⟨[PQ 0,PQ 1,OV 119],[.var 55 66 (XH 2),VA 55 66,.row 310 true]⟩⟩
def Zaj:UM->BQ U
 | .b0 a0 a1 a2=>Bi Tryz.f140 [55,65,3] (a0,a1,a2,())
 | .b1 a0 a1 a2 a3=>Ah Tryz.f140 [1,1,1,1,1,1,1,0,1,0] zK (((),((),((),((a0,()),())))),((Tm a1),((a2,()),((a3,()),(a1.A8,())))))
 | .b2 a0 a1 a2=>Ah Tryz.f140 [1,1,1,1,1,1,1,1,0] zD (((),((),((a0,()),()))),((Tm a1),((a2,()),(a1.A8,()))))
theorem Zai:BA Tryz.prog B0 140 ZaJ:=Bl (mc lW (mc Z4k (mc ZE (mc Z0W (mc Zbc BC))))) BB (al [(11,zK),(12,zD)]) Zaj Tryz.func140 (fun p=>by cases p<;>kernel_rfl) (by kernel_rfl) fun _=>rfl
def Z2e:S1 (Int×Unit) Int
 | (a0,_)=>AQ (A7 ((64:Int)+(if (if (39:Int)<a0 then (39:Int) else a0)>0 then (if (39:Int)<a0 then (39:Int) else a0) else (0:Int))))
def mX (a0:Int):Option Int:=Ad Z2e (a0,())
def Zen:Az U:=⟨[3],3,fun x=>mX x.1,by decide⟩
theorem ZbO:BA Tryz.prog B0 242 Zen:=ok1 BC BB Tryz.func242 (fun _=>by kernel_rfl) (by kernel_rfl)
def Z45:S1 (Int×Unit) Int
 | (a0,_)=>.br (decide (a0>=64)) ( AQ (bits .xor .i64 (Int.tmod (A7 (a0*2)) 128) (17:Int))) ( AQ (Int.tmod (A7 (a0*2)) 128))
def o7 (a0:Int):Option Int:=Ad Z45 (a0,())
def Zgx:Az U:=⟨[3],3,fun x=>o7 x.1,by decide⟩
theorem Zf4:BA Tryz.prog B0 243 Zgx:=ok1 BC BB Tryz.func243 (fun _=>by kernel_rfl) (by kernel_rfl)
inductive UK where
 | b0 (a0 a1:Int)
 | b1 (a0:Int) (a1:List Int) (a2 a3:Int)
 | b2 (a0:Int) (a1:List Int) (a2 a3 a4 a5 a6:Int)
def Z7:UK->Tr U ((List Int)⊕UK)
 | .b0 a0 a1=>.bind 3 (mX a0) (fun(x1:Int)=>.chk true ( AL (.b1 a1 ([]:List Int) x1 (0:Int))))
 | .b1 a0 a1 a2 a3=>.br (decide (a3<a0)) ( kl a1 ( AL (.b2 a0 a1 a2 a3 (0:Int) (1:Int) (0:Int)))) ( kl a1 ( AQ a1))
 | .b2 a0 a1 a2 a3 a4 a5 a6=>.br (decide (a6<8)) ( .bind 3 (o7 a2) (fun(x1:Int)=>kl a1 ( AL (.b2 a0 a1 x1 a3 (A7 (a4+(A7 (a5*(A7 (Int.tdiv a2 64)))))) (A7 (a5*2)) (A7 (a6+1)))))) ( .chk true ( kl a1 ( .chk (kA (a1.length+1) 1) ( kl (a1++[(IntKind.wrap .u8 (a4))]) ( AL (.b1 a0 (a1++[(IntKind.wrap .u8 (a4))]) a2 (A7 (a3+1))))))))
def jC (a0 a1:Int):Option (List Int):=Ad Z7 (.b0 a0 a1)
def Za6:Az U:=⟨[3,3],65,fun x=>jC x.1 x.2.1,by decide⟩
def yP:Lay:=LT [1,5,6,7] [.v 3,.o 5 1 0,.v 3,.v 3] [.r 5]
def zA:Lay:=LT [1,5,6,7,8,9,10] [.v 3,.o 5 1 0,.v 3,.v 3,.v 3,.v 3,.v 3] [.r 5]
def Z9t:UK->BQ U
 | .b0 a0 a1=>Bi Tryz.f185 [3,3] (a0,a1,())
 | .b1 a0 a1 a2 a3=>Ah Tryz.f185 [1,1,1,0,1,0,0,0,0] yP (((a0,()),((),((a2,()),((a3,()),())))),(a1,()))
 | .b2 a0 a1 a2 a3 a4 a5 a6=>Ah Tryz.f185 [1,1,1,0,1,0,0,1,0,0,1,0,1,0,0,0,0] zA (((a0,()),((),((a2,()),((a3,()),((a4,()),((a5,()),((a6,()),()))))))),(a1,()))
theorem Z9w:BA Tryz.prog B0 185 Za6:=Bl (mc ZbO (mc Zf4 BC)) BB (al [(4,yP),(8,zA)]) Z9t Tryz.func185 (fun p=>by cases p<;>kernel_rfl) (by kernel_rfl) fun _=>rfl
end
noncomputable section
inductive Ul where
 | b0 (a0:Int) (a1:List Int)
 | b1 (a0 a1 a2:List Int) (a3:Int)
def Z1v:Ul->Tr U (Ol⊕Ul)
 | .b0 a0 a1=>.bind 65 (jC a0 (↑a1.length:Int)) (fun(x1:List Int)=>.chk true ( AL (.b1 a1 x1 ([]:List Int) (0:Int))))
 | .b1 a0 a1 a2 a3=>.br (decide (a3<(↑a0.length:Int))) ( .chk (kI a3 a0) ( .bind 5 (a0[(Int.toNat a3)]?) (fun(x1:Int)=>.chk (kI a3 a1) ( .bind 5 (a1[(Int.toNat a3)]?) (fun(x2:Int)=>.chk true ( kl a2 ( .chk (kA (a2.length+1) 1) ( kl (a2++[(bits .xor .u8 x1 x2)]) ( AL (.b1 a0 a1 (a2++[(bits .xor .u8 x1 x2)]) (A7 (a3+1)))))))))))) ( kl a2 ( AQ (⟨a2⟩:Ol)))
def YL (a0:Int) (a1:List Int):Option Ol:=Ad Z1v (.b0 a0 a1)
def ZQ:Shape:=⟨[OV 3,OV 65],[]⟩
def Z9M:Shape:=⟨[.one (.own 5 0)],[.row 5 true]⟩
noncomputable def ZdS:HMod U:=⟨[KP,[.s 5 1]],[],ZQ,Z9M,true,1578,fun(y:Ol)=>(((),()),(y.q0,())),fun x=>YL x.1.1.1 x.1.2.1.1,okS rfl⟩
def Z0r:Lay:=LT [1,5,6,7] [.v 65,.v 65,.o 5 1 0,.v 3] [.r 5]
def ZbW:Ul->BQ U
 | .b0 a0 a1=>HY Tryz.f127 ZQ (((a0,()),((a1,()),())),())
 | .b1 a0 a1 a2 a3=>Ah Tryz.f127 [1,1,1,0,1,0,0,0,0] Z0r (((a0,()),((a1,()),((),((a3,()),())))),(a2,()))
theorem Z1l:E8 Tryz.prog B0 127 ZdS:=okR (mc Z9w BC) BB (al [(4,Z0r)]) [[.own 5 1]] [.row true] 0 ZbW Tryz.func127 (fun p=>by cases p<;>kernel_rfl) (by kernel_rfl) fun x=>by kernel_rfl
inductive UN where
 | b0 (a0:Af) (a1:List Int) (a2:Bool) (a3:Int)
 | b1 (a0:List Int) (a1:Int) (a2 a3:Af)
 | b2 (a0:List Int) (a1:Int) (a2 a3:Af)
 | b3 (a0:Int) (a1:Bool) (a2 a3:Af) (a4:CG)
 | b4 (a0:Int) (a1:Bool) (a2 a3:Af) (a4:CG)
 | b5 (a0:Int) (a1:Bool) (a2 a3:Af) (a4:CG) (a5:Ai)
 | b6 (a0:Int) (a1:Bool) (a2 a3:Af) (a4:CG) (a5:Ai)
 | b7 (a0:Int) (a1:Bool) (a2 a3:Af) (a4:CG) (a5:Ai)
 | b8 (a0:Int) (a1:Bool) (a2 a3:Af) (a4:CG) (a5:Ai)
 | b9 (a0:Int) (a1 a2:Bool) (a3:List Ar) (a4 a5:Af) (a6:CG) (a7:Ai)
 | b10 (a0:Int) (a1:List Ar) (a2 a3:Af) (a4:CG) (a5:Ai)
 | b11 (a0:List Ar) (a1 a2:Af) (a3:CG)
def Zx:UN->Tr U ((Af×(List Ar)×Bool)⊕UN)
 | .b0 a0 a1 a2 a3=>.br (a0.BV != 0) ( .chk true ( AQ (a0,([]:List Ar),false))) ( .br a2 ( .br (a0.Dl==1) ( AL (.b1 a1 a3 ({ a0 with AB:=true }:Af) CU)) ( AL (.b2 a1 a3 ({ a0 with AB:=true }:Af) CU))) ( AL (.b2 a1 a3 ({ a0 with AB:=true }:Af) CU)))
 | .b1 a0 a1 a2 a3=>AL (.b2 a0 a1 ({ a2 with Gn:=a1,Size:=0,Sync:=a1 }:Af) a3)
 | .b2 a0 a1 a2 a3=>.bind 3 (RP a2) (fun(x1:Int)=>.bind 1578 (YL x1 a0) (fun(y2:Ol)=>kl y2.q0 ( .bind 200 (lJ a2.Bz.Kr y2.q0) (fun(x3:(List Int)×Int)=>.br (x3.2 != 0) ( .bind 53 (U9 a2.Aq x1 false) (fun(x4:List Ba)=>.chk true ( AQ (({ a2 with Aq:=x4 }:Af),([]:List Ar),false)))) ( .bind 322 (lC x3.1) (fun(x5:CG×Int)=>.br (x5.2 != 0) ( .chk true ( AQ (a2,([]:List Ar),false))) ( .bind 53 (U9 a2.Aq x1 true) (fun(x6:List Ba)=>.br (x5.1.SN==a2.Ag.GG) ( .bind 4 (Ri x5.1.Bg) (fun(x7:Bool)=>.br (!x7) ( AL (.b3 a1 a2.Ef.TW ({ a2 with Kq:=a1,Jp:=true,Good:=true,Aq:=x6 }:Af) a3 x5.1)) ( AL (.b3 a1 false ({ a2 with Kq:=a1,Jp:=true,Good:=true,Aq:=x6 }:Af) a3 x5.1)))) ( AL (.b3 a1 false ({ a2 with Kq:=a1,Jp:=true,Good:=true,Aq:=x6 }:Af) a3 x5.1))))))))))
 | .b3 a0 a1 a2 a3 a4=>.br a1 ( .bind 322 (oZ a2.Ef a4) (fun(x1:CG×Int)=>.br (x1.2 != 0) ( .bind 316 (aF a2 (61:Int)) (fun(x2:Af×(List Ar))=>AQ (x2.1,x2.2,false))) ( AL (.b4 a0 a1 a2 a3 x1.1)))) ( AL (.b4 a0 a1 a2 a3 a4))
 | .b4 a0 a1 a2 a3 a4=>.br a2.Ag.Open ( .br (!a2.Ag.Empty) ( AL (.b5 a0 a1 a2 a3 a4 (⟨0,([]:List Int)⟩:Ai))) ( AL (.b6 a0 a1 a2 a3 a4 (⟨0,([]:List Int)⟩:Ai)))) ( AL (.b6 a0 a1 a2 a3 a4 (⟨0,([]:List Int)⟩:Ai)))
 | .b5 a0 a1 a2 a3 a4 a5=>.chk (kI (0:Int) a2.Ag.Am) ( .bind 67 (a2.Ag.Am[(Int.toNat 0)]?) (fun(x1:Ai)=>AL (.b6 a0 a1 a2 a3 a4 x1)))
 | .b6 a0 a1 a2 a3 a4 a5=>.br a2.Ag.Open ( .br a2.Ag.Empty ( AL (.b7 a0 a1 a2 a3 a4 a5)) ( AL (.b8 a0 a1 a2 a3 a4 a5))) ( AL (.b8 a0 a1 a2 a3 a4 a5))
 | .b7 a0 a1 a2 a3 a4 a5=>AL (.b8 a0 a1 a2 a3 a4 (⟨1,([]:List Int)⟩:Ai))
 | .b8 a0 a1 a2 a3 a4 a5=>.bind 332 (nX a2.Ag a4) (fun(x1:CZ×Ai×Bool×Bool)=>.br x1.2.2.2 ( .bind 316 (mM ({ a2 with Hl:=true,Ag:=x1.1 }:Af) a5) (fun(x2:Af×(List Ar))=>.chk true ( .chk (kA (0+x2.2.length) 160) ( kl (([]:List Ar)++x2.2) ( AL (.b9 a0 a1 x1.2.2.1 (([]:List Ar)++x2.2) x2.1 a3 a4 x1.2.1)))))) ( .chk true ( AL (.b9 a0 a1 x1.2.2.1 ([]:List Ar) ({ a2 with Ag:=x1.1 }:Af) a3 a4 x1.2.1))))
 | .b9 a0 a1 a2 a3 a4 a5 a6 a7=>.br a2 ( .br a1 ( .bind 52 (Ya a4.Ef false true) (fun(x1:DX)=>kl a3 ( AL (.b10 a0 a3 ({ a4 with Ef:=x1 }:Af) a5 a6 a7)))) ( kl a3 ( AL (.b10 a0 a3 a4 a5 a6 a7)))) ( kl a3 ( AL (.b11 a3 a4 a5 a6)))
 | .b10 a0 a1 a2 a3 a4 a5=>.br (a5.Dn==3) ( .bind 316 (jI a2 a5.Payload a0) (fun(x1:Af×(List Ar))=>kl a1 ( .chk (kA (a1.length+x1.2.length) 160) ( kl (a1++x1.2) ( AL (.b11 (a1++x1.2) x1.1 a3 a4)))))) ( .chk true ( .chk (kA (0+a5.Payload.length) 1) ( kl (([]:List Int)++a5.Payload) ( .chk true ( kl a1 ( .chk (kA (a1.length+1) 160) ( kl (a1++[(⟨1,a2.Event,(⟨a5.Dn,(([]:List Int)++a5.Payload)⟩:Ai),RS,0,ET⟩:Ar)]) ( AL (.b11 (a1++[(⟨1,a2.Event,(⟨a5.Dn,(([]:List Int)++a5.Payload)⟩:Ai),RS,0,ET⟩:Ar)]) a2 a3 a4)))))))))
 | .b11 a0 a1 a2 a3=>.br (a3.MD==1) ( kl a0 ( AQ (a1,a0,true))) ( kl a0 ( AQ (a1,a0,a1.More)))
def Xh (a0:Af) (a1:List Int) (a2:Bool) (a3:Int):Option (Af×(List Ar)×Bool):=Ad Zx (.b0 a0 a1 a2 a3)
def ZaU:Az U:=⟨[55,65,4,3],270,fun x=>Xh x.1 x.2.1 x.2.2.1 x.2.2.2.1,by decide⟩
def X4:Lay:=LT [1,3,4,8] [.v 65,.v 3,.p 0,.p 1] [.s 55,.s 55]
def X0:Lay:=LT [3,4,8,14,15] [.v 3,.p 0,.p 1,.p 2,.v 4] [.s 55,.s 55,.s 319]
def Og:Lay:=LT [3,4,8,14,15,20] [.v 3,.p 0,.p 1,.p 2,.v 4,.p 3] [.s 55,.s 55,.s 319,.s 67]
def zF:Lay:=LT [3,4,8,14,15,22,23,25] [.v 3,.p 0,.p 1,.p 2,.v 4,.p 3,.v 4,.o 226 18 4] [.s 55,.s 55,.s 319,.s 67,.r 226]
def zB:Lay:=LT [3,4,8,14,22,25] [.v 3,.p 0,.p 1,.p 2,.p 3,.o 226 18 4] [.s 55,.s 55,.s 319,.s 67,.r 226]
def yU:Lay:=LT [4,8,14,25] [.p 0,.p 1,.p 2,.o 226 18 3] [.s 55,.s 55,.s 319,.r 226]
def Zak:UN->BQ U
 | .b0 a0 a1 a2 a3=>Bi Tryz.f88 [55,65,4,3] (a0,a1,a2,a3,())
 | .b1 a0 a1 a2 a3=>Ah Tryz.f88 [1,1,1,0,1,0] X4 (((a0,()),((a1,()),((),((),())))),((a2,()),((a3,()),())))
 | .b2 a0 a1 a2 a3=>Ah Tryz.f88 [1,1,1,1,0] X4 (((a0,()),((a1,()),((),((),())))),((a2,()),((a3,()),())))
 | .b3 a0 a1 a2 a3 a4=>Ah Tryz.f88 [1,1,1,1,1,1,1,1,1,1,1,1,0,0] X0 (((a0,()),((),((),((),((a1,()),()))))),((a2,()),((a3,()),((a4,()),()))))
 | .b4 a0 a1 a2 a3 a4=>Ah Tryz.f88 [1,1,1,1,1,1,1,1,1,1,1,1,1,0] X0 (((a0,()),((),((),((),((a1,()),()))))),((a2,()),((a3,()),((a4,()),()))))
 | .b5 a0 a1 a2 a3 a4 a5=>Ah Tryz.f88 [1,1,1,1,1,1,1,1,1,1,1,1,1,1,0,1,0] Og (((a0,()),((),((),((),((a1,()),((),())))))),((a2,()),((a3,()),((a4,()),((a5,()),())))))
 | .b6 a0 a1 a2 a3 a4 a5=>Ah Tryz.f88 [1,1,1,1,1,1,1,1,1,1,1,1,1,1,1,0,0] Og (((a0,()),((),((),((),((a1,()),((),())))))),((a2,()),((a3,()),((a4,()),((a5,()),())))))
 | .b7 a0 a1 a2 a3 a4 a5=>Ah Tryz.f88 [1,1,1,1,1,1,1,1,1,1,1,1,1,1,1,0,1,0] Og (((a0,()),((),((),((),((a1,()),((),())))))),((a2,()),((a3,()),((a4,()),((a5,()),())))))
 | .b8 a0 a1 a2 a3 a4 a5=>Ah Tryz.f88 [1,1,1,1,1,1,1,1,1,1,1,1,1,1,1,1,0] Og (((a0,()),((),((),((),((a1,()),((),())))))),((a2,()),((a3,()),((a4,()),((a5,()),())))))
 | .b9 a0 a1 a2 a3 a4 a5 a6 a7=>Ah Tryz.f88 [1,1,1,1,1,1,1,1,1,1,1,1,1,1,1,1,1,1,1,1,0,0] zF (((a0,()),((),((),((),((a1,()),((),((a2,()),((),())))))))),((a4,()),((a5,()),((a6,()),((a7,()),(a3,()))))))
 | .b10 a0 a1 a2 a3 a4 a5=>Ah Tryz.f88 [1,1,1,1,1,1,1,1,1,1,1,1,1,1,1,1,1,1,1,1,0,1,0,1,0] zB (((a0,()),((),((),((),((),((),())))))),((a2,()),((a3,()),((a4,()),((a5,()),(a1,()))))))
 | .b11 a0 a1 a2 a3=>Ah Tryz.f88 [1,1,1,1,1,1,1,1,1,1,1,1,1,1,1,1,1,1,1,1,1,0] yU (((),((),((),((),())))),((a1,()),((a2,()),((a3,()),(a0,())))))
theorem Za:BA Tryz.prog B0 88 ZaU:=Bl (mc jE (mc Zce (mc ZI (mc Zau (mc YC (mc ZfY (mc Z3F (mc ZeY (mc Zck (mc Z20 (mc Zai BC))))))))))) (hc [] Z1l BB) (al [(5,X4),(6,X4),(17,X0),(23,X0),(25,Og),(26,Og),(27,Og),(28,Og),(36,zF),(39,zB),(44,yU)]) Zak Tryz.func88 (fun p=>by cases p<;>kernel_rfl) (by kernel_rfl) fun _=>rfl
def Z5:S1 (Ak×Unit) Int
 | (a0,_)=>AQ a0.AA.x1.Key
def LM (a0:Ak):Option Int:=Ad Z5 (a0,())
def Za7:Az U:=⟨[60],32,fun x=>LM x.1,by decide⟩
theorem iY:BA Tryz.prog B0 90 Za7:=ok1 BC BB Tryz.func90 (fun _=>by kernel_rfl) (by kernel_rfl)
def Z4f:S1 (Dq×Unit) (Dq×Int)
 | (a0,_)=>.bind 4 (Yi a0 false) (fun(x1:Bool)=>.br x1 ( AQ (a0,9)) ( AQ (({ a0 with WJ:=(A7 (a0.WJ+1)) }:Dq),(0:Int))))
def nJ (a0:Dq):Option (Dq×Int):=Ad Z4f (a0,())
def Zhr:Az U:=⟨[46],381,fun x=>nJ x.1,by decide⟩
theorem Zfw:BA Tryz.prog B0 171 Zhr:=ok1 (mc Z28 BC) BB Tryz.func171 (fun _=>by kernel_rfl) (by kernel_rfl)
def Z1q:S1 (Dq×Bool×Unit) Dq
 | (a0,a1,_)=>.br a1 ( AQ (⟨a0.Fb,0,false⟩:Dq)) ( AQ ({ a0 with WJ:=0 }:Dq))
def kW (a0:Dq) (a1:Bool):Option Dq:=Ad Z1q (a0,a1,())
def Zcp:Az U:=⟨[46,4],46,fun x=>kW x.1 x.2.1,by decide⟩
theorem Zav:BA Tryz.prog B0 172 Zcp:=ok1 BC BB Tryz.func172 (fun _=>by kernel_rfl) (by kernel_rfl)
inductive Vp where
 | b0 (a0:List BP) (a1:Int)
 | b1 (a0:List BP) (a1:Int) (a2 a3:List BP) (a4:Int)
 | b2 (a0:List BP) (a1:Int) (a2 a3:List BP) (a4:Int)
def Z50:Vp->Tr U (((List BP)×(List BP))⊕Vp)
 | .b0 a0 a1=>.chk (true&&true) ( AL (.b1 a0 a1 ([]:List BP) ([]:List BP) (0:Int)))
 | .b1 a0 a1 a2 a3 a4=>.br (decide (a4<(↑a0.length:Int))) ( .chk (kI a4 a0) ( .bind 111 (a0[(Int.toNat a4)]?) (fun(x1:BP)=>.bind 4 (Xy a1 x1.EN) (fun(x2:Bool)=>.br x2 ( .chk (kI a4 a0) ( .bind 111 (a0[(Int.toNat a4)]?) (fun(x3:BP)=>.chk true ( kl a3 ( .chk (kA (a3.length+1) 64) ( .chk (kL a2&&kL (a3++[x3])) ( AL (.b2 a0 a1 a2 (a3++[x3]) a4)))))))) ( .chk (kI a4 a0) ( .bind 111 (a0[(Int.toNat a4)]?) (fun(x4:BP)=>.chk true ( kl a2 ( .chk (kA (a2.length+1) 64) ( .chk (kL (a2++[x4])&&kL a3) ( AL (.b2 a0 a1 (a2++[x4]) a3 a4)))))))))))) ( kl a2 ( kl a3 ( AQ (a2,a3))))
 | .b2 a0 a1 a2 a3 a4=>.chk (kL a2&&kL a3) ( AL (.b1 a0 a1 a2 a3 (A7 (a4+1))))
def qB (a0:List BP) (a1:Int):Option ((List BP)×(List BP)):=Ad Z50 (.b0 a0 a1)
def ZiD:Az U:=⟨[48,41],444,fun x=>qB x.1 x.2.1,by decide⟩
def YY:Lay:=LT [0,1,4,5,6] [.v 48,.v 41,.o 111 8 0,.o 111 8 1,.v 3] [.r 111,.r 111]
def Zic:Vp->BQ U
 | .b0 a0 a1=>Bi Tryz.f233 [48,41] (a0,a1,())
 | .b1 a0 a1 a2 a3 a4=>Ah Tryz.f233 [1,1,0,1,0,0,0,0] YY (((a0,()),((a1,()),((),((),((a4,()),()))))),(a2,(a3,())))
 | .b2 a0 a1 a2 a3 a4=>Ah Tryz.f233 [1,1,0,1,0,0,1,1] YY (((a0,()),((a1,()),((),((),((a4,()),()))))),(a2,(a3,())))
theorem Zgb:BA Tryz.prog B0 233 ZiD:=Bl (mc ZZ BC) BB (al [(3,YY),(4,YY)]) Zic Tryz.func233 (fun p=>by cases p<;>kernel_rfl) (by kernel_rfl) fun _=>rfl
inductive Vg where
 | b0 (a0:Ae) (a1:Int)
 | b1 (a0 a1:Ae)
 | b2 (a0:List BP) (a1 a2:Ae)
 | b3 (a0:List BP) (a1:Int) (a2 a3:Ae)
 | b4 (a0:List BP) (a1:Int) (a2 a3:Ae)
 | b5 (a0:List BP) (a1:Int) (a2 a3:Ae)
def Z5C:Vg->Tr U ((Ae×(List BP))⊕Vg)
 | .b0 a0 a1=>.bind 444 (qB a0.Ap a1) (fun(x1:(List BP)×(List BP))=>.br (a0.Dl==0) ( .br (decide ((↑x1.2.length:Int)>0)) ( .br (!a0.Told) ( AL (.b1 ({ a0 with Ap:=x1.1 }:Ae) EI)) ( AL (.b2 x1.2 ({ a0 with Ap:=x1.1 }:Ae) EI))) ( AL (.b2 x1.2 ({ a0 with Ap:=x1.1 }:Ae) EI))) ( AL (.b2 x1.2 ({ a0 with Ap:=x1.1 }:Ae) EI)))
 | .b1 a0 a1=>.br (a0.Gp==0) ( .chk true ( AQ (({ a0 with Gp:=40 }:Ae),([]:List BP)))) ( .chk true ( AQ (a0,([]:List BP))))
 | .b2 a0 a1 a2=>AL (.b3 a0 (0:Int) a1 a2)
 | .b3 a0 a1 a2 a3=>.br (decide (a1<(↑a0.length:Int))) ( .chk (kI a1 a0) ( .bind 111 (a0[(Int.toNat a1)]?) (fun(x1:BP)=>.br (a2.Own==x1.Kind) ( AL (.b4 a0 a1 ({ a2 with Own:=-1 }:Ae) a3)) ( AL (.b4 a0 a1 a2 a3))))) ( AQ (a2,a0))
 | .b4 a0 a1 a2 a3=>.chk (kI a1 a0) ( .bind 111 (a0[(Int.toNat a1)]?) (fun(x1:BP)=>.br (a2.Other==x1.Kind) ( AL (.b5 a0 a1 ({ a2 with Other:=-1 }:Ae) a3)) ( AL (.b5 a0 a1 a2 a3))))
 | .b5 a0 a1 a2 a3=>AL (.b3 a0 (A7 (a1+1)) a2 a3)
def qQ (a0:Ae) (a1:Int):Option (Ae×(List BP)):=Ad Z5C (.b0 a0 a1)
def Zjf:Az U:=⟨[50,41],386,fun x=>qQ x.1 x.2.1,by decide⟩
def Z1x:Lay:=LT [2,4] [.p 0,.p 1] [.s 50,.s 50]
def Z1N:Lay:=LT [2,4,7] [.p 0,.p 1,.v 48] [.s 50,.s 50]
def Rk:Lay:=LT [2,4,7,8] [.p 0,.p 1,.v 48,.v 3] [.s 50,.s 50]
def ZhZ:Vg->BQ U
 | .b0 a0 a1=>Bi Tryz.f174 [50,41] (a0,a1,())
 | .b1 a0 a1=>Ah Tryz.f174 [1,1,1,0,1,0,0,0] Z1x (((),((),())),((a0,()),((a1,()),())))
 | .b2 a0 a1 a2=>Ah Tryz.f174 [1,1,1,1,0,0] Z1N (((),((),((a0,()),()))),((a1,()),((a2,()),())))
 | .b3 a0 a1 a2 a3=>Ah Tryz.f174 [1,1,1,1,0,1,0,0,0,0] Rk (((),((),((a0,()),((a1,()),())))),((a2,()),((a3,()),())))
 | .b4 a0 a1 a2 a3=>Ah Tryz.f174 [1,1,1,1,0,1,0,0,1,0,0,1,0] Rk (((),((),((a0,()),((a1,()),())))),((a2,()),((a3,()),())))
 | .b5 a0 a1 a2 a3=>Ah Tryz.f174 [1,1,1,1,0,1,0,0,1,1] Rk (((),((),((a0,()),((a1,()),())))),((a2,()),((a3,()),())))
theorem Zgc:BA Tryz.prog B0 174 Zjf:=Bl (mc Zgb BC) BB (al [(4,Z1x),(7,Z1N),(8,Rk),(12,Rk),(9,Rk)]) ZhZ Tryz.func174 (fun p=>by cases p<;>kernel_rfl) (by kernel_rfl) fun _=>rfl
def Z5F:S1 (Dq×Int×Unit) Dq
 | (a0,a1,_)=>.bind 46 (aJ a1) (fun(x1:Dq)=>AQ x1)
def qG (a0:Dq) (a1:Int):Option Dq:=Ad Z5F (a0,a1,())
def Zix:Az U:=⟨[46,3],46,fun x=>qG x.1 x.2.1,by decide⟩
theorem Zhx:BA Tryz.prog B0 234 Zix:=ok1 (mc Z3t BC) BB Tryz.func234 (fun _=>by kernel_rfl) (by kernel_rfl)
inductive Uy where
 | b0 (a0:Af) (a1:BP)
 | b1 (a0:Af) (a1:BP) (a2:Af)
def Z1V:Uy->Tr U (Af⊕Uy)
 | .b0 a0 a1=>.br (a1.Kind==1) ( AQ ({ a0 with Bz:=({ a0.Bz with Map:=a1.Map }:Eh) }:Af)) ( .br (a0.Dl==1) ( AL (.b1 ({ a0 with Bz:=({ a0.Bz with BM:=a1.BM }:Eh),Gn:=(A7 (a0.Gn+(A7 ((1250:Int)*a1.BM.Gl)))),Size:=(A7 (a0.Size+(A7 ((1250:Int)*a1.BM.Gy)))) }:Af) a1 CU)) ( AL (.b1 ({ a0 with Bz:=({ a0.Bz with BM:=a1.BM }:Eh),Gn:=(A7 (a0.Gn+(A7 ((1250:Int)*a1.BM.Gl)))) }:Af) a1 CU)))
 | .b1 a0 a1 a2=>.bind 46 (qG a0.JQ a1.BM.Fb) (fun(x1:Dq)=>AQ ({ a0 with JQ:=x1 }:Af))
def mF (a0:Af) (a1:BP):Option Af:=Ad Z1V (.b0 a0 a1)
def Zfd:Az U:=⟨[55,111],55,fun x=>mF x.1 x.2.1,by decide⟩
def ZN:Lay:=LT [2,3,4] [.p 0,.p 1,.p 2] [.s 55,.s 111,.s 55]
def ZbT:Uy->BQ U
 | .b0 a0 a1=>Bi Tryz.f175 [55,111] (a0,a1,())
 | .b1 a0 a1 a2=>Ah Tryz.f175 [1,1,1,1,1,0] ZN (((),((),((),()))),((a0,()),((a1,()),((a2,()),()))))
theorem ZbK:BA Tryz.prog B0 175 Zfd:=Bl (mc Zhx BC) BB (al [(8,ZN)]) ZbT Tryz.func175 (fun p=>by cases p<;>kernel_rfl) (by kernel_rfl) fun _=>rfl
inductive Ui where
 | b0 (a0:Ae) (a1 a2:Int)
 | b1 (a0 a1:Int) (a2:List AV) (a3 a4:Ae)
 | b2 (a0 a1:Int) (a2:List AV) (a3 a4:Ae)
 | b3 (a0:List AV) (a1 a2:Ae)
 | b4 (a0 a1:Int) (a2:List AV) (a3 a4:Ae) (a5:AV)
def Z1A:Ui->Tr U ((Ae×(List AV))⊕Ui)
 | .b0 a0 a1 a2=>.chk true ( AL (.b1 a1 a2 ([]:List AV) a0 EI))
 | .b1 a0 a1 a2 a3 a4=>.br (a3.Gp==0) ( .br (decide (a3.Own<0)) ( .br (decide ((↑a3.Aa.length:Int)>0)) ( .chk (kI (0:Int) a3.Aa) ( .bind 310 (a3.Aa[(Int.toNat 0)]?) (fun(x1:AV)=>.bind 4 (aK a3 x1) (fun(x2:Bool)=>.br x2 ( kl a2 ( AL (.b2 a0 a1 a2 a3 a4))) ( kl a2 ( AL (.b3 a2 a3 a4))))))) ( kl a2 ( AL (.b3 a2 a3 a4)))) ( kl a2 ( AL (.b3 a2 a3 a4)))) ( kl a2 ( AL (.b3 a2 a3 a4)))
 | .b2 a0 a1 a2 a3 a4=>.chk (kI (0:Int) a3.Aa) ( .bind 310 (a3.Aa[(Int.toNat 0)]?) (fun(x1:AV)=>.chk (decide (0<=(1:Int)/\(1:Int)<=(↑a3.Aa.length:Int))) ( .chk true ( .chk (kA (0+((a3.Aa.drop (Int.toNat 1)).take (a3.Aa.length - (Int.toNat 1))).length) 120) ( .br (x1.Kind==12) ( .br a3.KG ( kl (([]:List AV)++((a3.Aa.drop (Int.toNat 1)).take (a3.Aa.length - (Int.toNat 1)))) ( kl a2 ( AL (.b1 a0 a1 a2 ({ a3 with Aa:=(([]:List AV)++((a3.Aa.drop (Int.toNat 1)).take (a3.Aa.length - (Int.toNat 1)))) }:Ae) a4)))) ( .br (x1.Kind==3) ( .br (a3.EJ != 0) ( kl (([]:List AV)++((a3.Aa.drop (Int.toNat 1)).take (a3.Aa.length - (Int.toNat 1)))) ( kl a2 ( AL (.b1 a0 a1 a2 ({ a3 with Aa:=(([]:List AV)++((a3.Aa.drop (Int.toNat 1)).take (a3.Aa.length - (Int.toNat 1)))) }:Ae) a4)))) ( .chk (kL a2&&((([]:List AV)++((a3.Aa.drop (Int.toNat 1)).take (a3.Aa.length - (Int.toNat 1)))).length==(([]:List AV)++((a3.Aa.drop (Int.toNat 1)).take (a3.Aa.length - (Int.toNat 1)))).length)) ( AL (.b4 a0 a1 a2 ({ a3 with Aa:=(([]:List AV)++((a3.Aa.drop (Int.toNat 1)).take (a3.Aa.length - (Int.toNat 1)))) }:Ae) a4 x1)))) ( .chk (kL a2&&((([]:List AV)++((a3.Aa.drop (Int.toNat 1)).take (a3.Aa.length - (Int.toNat 1)))).length==(([]:List AV)++((a3.Aa.drop (Int.toNat 1)).take (a3.Aa.length - (Int.toNat 1)))).length)) ( AL (.b4 a0 a1 a2 ({ a3 with Aa:=(([]:List AV)++((a3.Aa.drop (Int.toNat 1)).take (a3.Aa.length - (Int.toNat 1)))) }:Ae) a4 x1))))) ( .br (x1.Kind==3) ( .br (a3.EJ != 0) ( kl (([]:List AV)++((a3.Aa.drop (Int.toNat 1)).take (a3.Aa.length - (Int.toNat 1)))) ( kl a2 ( AL (.b1 a0 a1 a2 ({ a3 with Aa:=(([]:List AV)++((a3.Aa.drop (Int.toNat 1)).take (a3.Aa.length - (Int.toNat 1)))) }:Ae) a4)))) ( .chk (kL a2&&((([]:List AV)++((a3.Aa.drop (Int.toNat 1)).take (a3.Aa.length - (Int.toNat 1)))).length==(([]:List AV)++((a3.Aa.drop (Int.toNat 1)).take (a3.Aa.length - (Int.toNat 1)))).length)) ( AL (.b4 a0 a1 a2 ({ a3 with Aa:=(([]:List AV)++((a3.Aa.drop (Int.toNat 1)).take (a3.Aa.length - (Int.toNat 1)))) }:Ae) a4 x1)))) ( .chk (kL a2&&((([]:List AV)++((a3.Aa.drop (Int.toNat 1)).take (a3.Aa.length - (Int.toNat 1)))).length==(([]:List AV)++((a3.Aa.drop (Int.toNat 1)).take (a3.Aa.length - (Int.toNat 1)))).length)) ( AL (.b4 a0 a1 a2 ({ a3 with Aa:=(([]:List AV)++((a3.Aa.drop (Int.toNat 1)).take (a3.Aa.length - (Int.toNat 1)))) }:Ae) a4 x1)))))))))
 | .b3 a0 a1 a2=>kl a0 ( AQ (a1,a0))
 | .b4 a0 a1 a2 a3 a4 a5=>kl a3.Aa ( .bind 432 (YT a3 a5 a0 a1) (fun(x1:Ae×AV)=>.chk true ( kl a2 ( .chk (kA (a2.length+1) 120) ( kl (a2++[x1.2]) ( AL (.b1 a0 a1 (a2++[x1.2]) x1.1 a4)))))))
def lS (a0:Ae) (a1 a2:Int):Option (Ae×(List AV)):=Ad Z1A (.b0 a0 a1 a2)
def Zfi:Az U:=⟨[50,41,3],374,fun x=>lS x.1 x.2.1 x.2.2.1,by decide⟩
def Xn:Lay:=LT [1,2,3,6,8] [.v 41,.v 3,.p 0,.p 1,.o 310 15 2] [.s 50,.s 50,.r 310]
def Z02:Lay:=LT [3,6,8] [.p 0,.p 1,.o 310 15 2] [.s 50,.s 50,.r 310]
def ZW:Lay:=⟨[1,2,3,6,8,9],[KP,KP,KP,KP,[.own 310 15],KP],[.var [.keep,.keep,.keep,.own 310 15,.keep,.keep,.s 111 8,.keep,.keep,.keep,.keep,.keep,.keep,.keep,.keep,.keep,.keep,.keep,.keep,.keep],.var k0,.row true,.var k1,.row true],⟨[OV 41,OV 3,PQ 0,PQ 1,.one (.own 310 2),PQ 3],[.var 50 20 (.agg [VC 3 1,VC 3 1,VC 3 1,.own 310 4,VC 3 1,VC 3 1,VC 48 1,VC 4 1,VC 25 1,VC 25 1,VC 4 1,VC 4 1,VC 3 1,VC 3 1,VC 3 1,VC 25 1,VC 25 1,VC 25 1,VC 3 1,VC 3 1]),VA 50 20,.row 310 true,VA 310 15,.row 310 true]⟩⟩
def Zdt:Ui->BQ U
 | .b0 a0 a1 a2=>Bi Tryz.f176 [50,41,3] (a0,a1,a2,())
 | .b1 a0 a1 a2 a3 a4=>Ah Tryz.f176 [1,1,0,0,0,0,0] Xn (((a0,()),((a1,()),((),((),((),()))))),((a3,()),((a4,()),(a2,()))))
 | .b2 a0 a1 a2 a3 a4=>Ah Tryz.f176 [1,1,0,0,0,1,0,0] Xn (((a0,()),((a1,()),((),((),((),()))))),((a3,()),((a4,()),(a2,()))))
 | .b3 a0 a1 a2=>Ah Tryz.f176 [1,1,1,0] Z02 (((),((),((),()))),((a1,()),((a2,()),(a0,()))))
 | .b4 a0 a1 a2 a3 a4 a5=>Ah Tryz.f176 [1,1,0,0,0,1,0,1,1,1,0] ZW (((a0,()),((a1,()),((),((),((),((),())))))),((a3.Dl,(a3.Own,(a3.Since,(a3.Other,(a3.Jj,(a3.Ap,(a3.Told,(a3.EU,(a3.OJ,(a3.JG,(a3.KG,(a3.Version,(a3.Length,(a3.Limit,(a3.EG,(a3.Ku,(a3.Mark,(a3.EJ,(a3.Gp,()))))))))))))))))))),((a4,()),(a2,((a5,()),(a3.Aa,()))))))
theorem ZbJ:BA Tryz.prog B0 176 Zfi:=Bl (mc Z2Z (mc Z1m BC)) BB (al [(2,Xn),(3,Xn),(8,Z02),(6,ZW)]) Zdt Tryz.func176 (fun p=>by cases p<;>kernel_rfl) (by kernel_rfl) fun _=>rfl
def Z37:S1 (Int×Int×Int×Unit) Bool
 | (a0,a1,a2,_)=>.br (decide (a0>=0)) ( .bind 4 (Oo a0) (fun(x1:Bool)=>.br (!x1) ( AQ (decide ((A7 (a2 - a1))>40000000))) ( AQ false))) ( AQ false)
def Y4 (a0 a1 a2:Int):Option Bool:=Ad Z37 (a0,a1,a2,())
def Zhe:Az U:=⟨[3,3,3],4,fun x=>Y4 x.1 x.2.1 x.2.2.1,by decide⟩
theorem ZfO:BA Tryz.prog B0 235 Zhe:=ok1 (mc RX BC) BB Tryz.func235 (fun _=>by kernel_rfl) (by kernel_rfl)
def Z0t:S1 (Ae×Int×Unit) Bool
 | (a0,a1,_)=>.bind 4 (Y4 a0.Own a0.Since a1) (fun(x1:Bool)=>.br x1 ( AQ true) ( .bind 4 (Y4 a0.Other a0.Jj a1) (fun(x2:Bool)=>AQ x2)))
def jQ (a0:Ae) (a1:Int):Option Bool:=Ad Z0t (a0,a1,())
def ZaG:Az U:=⟨[50,3],4,fun x=>jQ x.1 x.2.1,by decide⟩
theorem Z9Q:BA Tryz.prog B0 177 ZaG:=ok1 (mc ZfO BC) BB Tryz.func177 (fun _=>by kernel_rfl) (by kernel_rfl)
def Z08:S1 (ER×Unit) Int
 | (a0,_)=>.bind 3 (RI a0.He (10:Int) (3200:Int)) (fun(x1:Int)=>AQ (A7 (x1*10000)))
def jU (a0:ER):Option Int:=Ad Z08 (a0,())
def Zbo:Az U:=⟨[24],3,fun x=>jU x.1,by decide⟩
theorem Za0:BA Tryz.prog B0 178 Zbo:=ok1 (mc X9 BC) BB Tryz.func178 (fun _=>by kernel_rfl) (by kernel_rfl)
inductive Uz where
 | b0 (a0:Af) (a1:Int)
 | b1 (a0:Int) (a1:Bool) (a2 a3:Af)
 | b2 (a0:Int) (a1:Bool) (a2 a3:Af)
 | b3 (a0 a1 a2:Int) (a3 a4:Af)
 | b4 (a0 a1:Int) (a2 a3:Af)
 | b5 (a0:Int) (a1:List Ar) (a2:List BP) (a3:Int) (a4 a5:Af) (a6:Ae)
 | b6 (a0:List Ar) (a1:Int) (a2 a3:Af)
 | b7 (a0:List Ar) (a1 a2:Af)
 | b8 (a0:Int) (a1:List Ar) (a2:Int) (a3 a4:Af)
 | b9 (a0:List Ar) (a1 a2:Af)
def Z1U:Uz->Tr U ((Af×(List Ar))⊕Uz)
 | .b0 a0 a1=>.br (a0.BV != 0) ( .chk true ( AQ (a0,([]:List Ar)))) ( .br (a0.Dl==1) ( .br (!a0.AB) ( .bind 4 (YQ a0) (fun(x1:Bool)=>AL (.b1 a1 x1 a0 CU))) ( AL (.b1 a1 false a0 CU))) ( AL (.b1 a1 false a0 CU)))
 | .b1 a0 a1 a2 a3=>.br a1 ( .bind 381 (nJ a2.JQ) (fun(x1:Dq×Int)=>AL (.b2 a0 a1 ({ a2 with JQ:=x1.1 }:Af) a3))) ( .br (a2.Dl==1) ( .bind 46 (kW a2.JQ a2.Hl) (fun(x2:Dq)=>AL (.b2 a0 a1 ({ a2 with JQ:=x2 }:Af) a3))) ( AL (.b2 a0 a1 a2 a3)))
 | .b2 a0 a1 a2 a3=>.bind 384 (Y7 a2.Bz a2.Event a2.Last) (fun(x1:Int×Int)=>.br (!a2.Good) ( .br (!a1) ( AL (.b3 a0 x1.1 x1.2 a2 a3)) ( AL (.b4 a0 x1.2 a2 a3))) ( AL (.b4 a0 x1.2 a2 a3)))
 | .b3 a0 a1 a2 a3 a4=>.bind 53 (U9 a3.Aq a1 false) (fun(x1:List Ba)=>AL (.b4 a0 a2 ({ a3 with Aq:=x1 }:Af) a4))
 | .b4 a0 a1 a2 a3=>.bind 386 (qQ a2.AP (IntKind.wrap .u16 (a2.Event+1))) (fun(x1:Ae×(List BP))=>.chk true ( AL (.b5 a0 ([]:List Ar) x1.2 (0:Int) ({ a2 with Event:=(IntKind.wrap .u16 (a2.Event+1)),Last:=a1,Gn:=(A7 (a2.Gn+(A7 ((1250:Int)*a2.Bz.BM.GK)))),AB:=false,Good:=false,Hl:=false,More:=false,AP:=x1.1 }:Af) a3 x1.1)))
 | .b5 a0 a1 a2 a3 a4 a5 a6=>.br (decide (a3<(↑a2.length:Int))) ( .chk (kI a3 a2) ( .bind 111 (a2[(Int.toNat a3)]?) (fun(x1:BP)=>.bind 55 (mF a4 x1) (fun(x2:Af)=>.chk (kI a3 a2) ( .bind 111 (a2[(Int.toNat a3)]?) (fun(x3:BP)=>.chk true ( kl a1 ( .chk (kA (a1.length+1) 160) ( kl (a1++[(⟨2,x2.Event,(⟨0,[]⟩:Ai),x3,0,ET⟩:Ar)]) ( AL (.b5 a0 (a1++[(⟨2,x2.Event,(⟨0,[]⟩:Ai),x3,0,ET⟩:Ar)]) a2 (A7 (a3+1)) x2 a5 a6))))))))))) ( .bind 41 (YO a4) (fun(x4:Int)=>.bind 374 (lS a4.AP x4 a0) (fun(x5:Ae×(List AV))=>.chk true ( .chk (kA (0+a4.A8.length) 120) ( kl (([]:List AV)++a4.A8) ( .chk (kA ((([]:List AV)++a4.A8).length+x5.2.length) 120) ( .br (x5.1.Gp != 0) ( .chk (kL a1&&(((([]:List AV)++a4.A8)++x5.2).length==((([]:List AV)++a4.A8)++x5.2).length)) ( AL (.b6 a1 x5.1.Gp ({ a4 with AP:=x5.1,A8:=((([]:List AV)++a4.A8)++x5.2) }:Af) a5))) ( .bind 4 (jQ x5.1 a0) (fun(x6:Bool)=>.br x6 ( .chk (kL a1&&(((([]:List AV)++a4.A8)++x5.2).length==((([]:List AV)++a4.A8)++x5.2).length)) ( AL (.b6 a1 (34:Int) ({ a4 with AP:=x5.1,A8:=((([]:List AV)++a4.A8)++x5.2) }:Af) a5))) ( .br a4.Jp ( .bind 3 (jU a4.Bz.BM) (fun(x7:Int)=>.br (decide ((A7 (a0 - a4.Kq))>x7)) ( .chk (kL a1&&(((([]:List AV)++a4.A8)++x5.2).length==((([]:List AV)++a4.A8)++x5.2).length)) ( AL (.b7 a1 ({ a4 with AP:=x5.1,A8:=((([]:List AV)++a4.A8)++x5.2) }:Af) a5))) ( .chk (kL a1&&(((([]:List AV)++a4.A8)++x5.2).length==((([]:List AV)++a4.A8)++x5.2).length)) ( AL (.b8 a0 a1 (0:Int) ({ a4 with AP:=x5.1,A8:=((([]:List AV)++a4.A8)++x5.2) }:Af) a5))))) ( .chk (kL a1&&(((([]:List AV)++a4.A8)++x5.2).length==((([]:List AV)++a4.A8)++x5.2).length)) ( AL (.b8 a0 a1 (0:Int) ({ a4 with AP:=x5.1,A8:=((([]:List AV)++a4.A8)++x5.2) }:Af) a5)))))))))))))
 | .b6 a0 a1 a2 a3=>.br (a1 != 0) ( kl a2.A8 ( .bind 316 (aF a2 a1) (fun(x1:Af×(List Ar))=>kl a0 ( .chk (kA (a0.length+x1.2.length) 160) ( kl (a0++x1.2) ( AQ (x1.1,(a0++x1.2)))))))) ( kl a2.A8 ( kl a0 ( AQ (a2,a0))))
 | .b7 a0 a1 a2=>.chk (kL a0&&kL a1.A8) ( AL (.b6 a0 (8:Int) a1 a2))
 | .b8 a0 a1 a2 a3 a4=>.br (!a3.Jp) ( .br (decide ((A7 (a0 - a3.Kq))>(A7 ((7500:Int)*a3.Bz.BM.GK)))) ( .chk (kL a1&&kL a3.A8) ( AL (.b9 a1 a3 a4))) ( .chk (kL a1&&kL a3.A8) ( AL (.b6 a1 a2 a3 a4)))) ( .chk (kL a1&&kL a3.A8) ( AL (.b6 a1 a2 a3 a4)))
 | .b9 a0 a1 a2=>.chk (kL a0&&kL a1.A8) ( AL (.b6 a0 (62:Int) a1 a2))
def YW (a0:Af) (a1:Int):Option (Af×(List Ar)):=Ad Z1U (.b0 a0 a1)
def Ze6:Az U:=⟨[55,3],316,fun x=>YW x.1 x.2.1,by decide⟩
def Xk:Lay:=LT [1,2,4,6] [.v 3,.p 0,.p 1,.v 4] [.s 55,.s 55]
def Z0s:Lay:=LT [1,2,4,9,10] [.v 3,.p 0,.p 1,.v 3,.v 3] [.s 55,.s 55]
def ZC:Lay:=LT [1,2,4,10] [.v 3,.p 0,.p 1,.v 3] [.s 55,.s 55]
def Z00:Lay:=LT [1,2,4,11,12,13,14] [.v 3,.p 0,.p 1,.o 226 18 2,.p 3,.v 48,.v 3] [.s 55,.s 55,.r 226,.s 50]
def Z0n:Lay:=⟨[2,4,11,16],[KP,KP,[.own 226 18],KP],[.var k10,.var k2,.row true,.row true],⟨[PQ 0,PQ 1,.one (.own 226 2),OV 3],[.var 55 66 (XH 3),VA 55 66,.row 226 true,.row 310 true]⟩⟩
def Xo:Lay:=⟨[2,4,11],[KP,KP,[.own 226 18]],[.var k10,.var k2,.row true,.row true],⟨[PQ 0,PQ 1,.one (.own 226 2)],[.var 55 66 (XH 3),VA 55 66,.row 226 true,.row 310 true]⟩⟩
def Zt:Lay:=⟨[1,2,4,11,16],[KP,KP,KP,[.own 226 18],KP],[.var k10,.var k2,.row true,.row true],⟨[OV 3,PQ 0,PQ 1,.one (.own 226 2),OV 3],[.var 55 66 (XH 3),VA 55 66,.row 226 true,.row 310 true]⟩⟩
def Zdc:Uz->BQ U
 | .b0 a0 a1=>Bi Tryz.f122 [55,3] (a0,a1,())
 | .b1 a0 a1 a2 a3=>Ah Tryz.f122 [1,1,1,0,0] Xk (((a0,()),((),((),((a1,()),())))),((a2,()),((a3,()),())))
 | .b2 a0 a1 a2 a3=>Ah Tryz.f122 [1,1,1,1,0] Xk (((a0,()),((),((),((a1,()),())))),((a2,()),((a3,()),())))
 | .b3 a0 a1 a2 a3 a4=>Ah Tryz.f122 [1,1,1,1,1,0,1,0] Z0s (((a0,()),((),((),((a1,()),((a2,()),()))))),((a3,()),((a4,()),())))
 | .b4 a0 a1 a2 a3=>Ah Tryz.f122 [1,1,1,1,1,1,0] ZC (((a0,()),((),((),((a1,()),())))),((a2,()),((a3,()),())))
 | .b5 a0 a1 a2 a3 a4 a5 a6=>Ah Tryz.f122 [1,1,1,1,1,1,1,1,1,1,1,1,1,0,1,0,0,0,0] Z00 (((a0,()),((),((),((),((),((a2,()),((a3,()),()))))))),((a4,()),((a5,()),(a1,((a6,()),())))))
 | .b6 a0 a1 a2 a3=>Ah Tryz.f122 [1,1,1,1,1,1,1,1,1,1,1,1,1,1,1,1,1,1,1,0,0] Z0n (((),((),((),((a1,()),())))),((Tm a2),((a3,()),(a0,(a2.A8,())))))
 | .b7 a0 a1 a2=>Ah Tryz.f122 [1,1,1,1,1,1,1,1,1,1,1,1,1,1,1,1,1,1,0,0,1,1,1,1,1,0] Xo (((),((),((),()))),((Tm a1),((a2,()),(a0,(a1.A8,())))))
 | .b8 a0 a1 a2 a3 a4=>Ah Tryz.f122 [1,1,1,1,1,1,1,1,1,1,1,1,1,1,1,1,1,1,0,0,1,1,1,1,1,1,0] Zt (((a0,()),((),((),((),((a2,()),()))))),((Tm a3),((a4,()),(a1,(a3.A8,())))))
 | .b9 a0 a1 a2=>Ah Tryz.f122 [1,1,1,1,1,1,1,1,1,1,1,1,1,1,1,1,1,1,0,0,1,1,1,1,1,1,1,0] Xo (((),((),((),()))),((Tm a1),((a2,()),(a0,(a1.A8,())))))
theorem ZbU:BA Tryz.prog B0 122 Ze6:=Bl (mc Z0D (mc ZI (mc Z3F (mc Z1c (mc Zfw (mc Zav (mc Z2Y (mc Zgc (mc ZbK (mc ZbJ (mc Z9Q (mc Za0 BC)))))))))))) BB (al [(4,Xk),(9,Xk),(11,Z0s),(12,ZC),(20,Z00),(36,Z0n),(33,Xo),(34,Zt),(35,Xo)]) Zdc Tryz.func122 (fun p=>by cases p<;>kernel_rfl) (by kernel_rfl) fun _=>rfl
end
noncomputable section
inductive nR where
 | b0 (a0:Ak) (a1 a2:Int) (a3:List Ar) (a4:Int)
 | b1 (a0 a1:Int) (a2:List Ar) (a3 a4:Int) (a5 a6:Ak)
 | b2 (a0 a1:Int) (a2:List Ar) (a3 a4:Int) (a5 a6:Ak)
 | b3 (a0 a1:Int) (a2:List Ar) (a3 a4:Int) (a5 a6:Ak)
 | b4 (a0 a1:Int) (a2:List Ar) (a3 a4:Int) (a5 a6:Ak)
def QL:nR->Tr U (IQ⊕nR)
 | .b0 a0 a1 a2 a3 a4=>.chk (kL a0.Notes&&(kL a0.Sent.x0&&(kL a0.Sent.x1&&(kL a0.AB.x0&&(kL a0.AB.x1&&(true&&(true&&(true&&(true&&(true&&(true&&(true&&(true&&(true&&(true&&(true&&(true&&(true&&(true&&(true&&(kL a0.Notes&&(kL a0.Sent.x0&&(kL a0.Sent.x1&&(kL a0.AB.x0&&kL a0.AB.x1)))))))))))))))))))))))) ( AL (.b1 a1 a2 a3 a4 (0:Int) a0 (⟨(⟨CU,CU⟩:BU),(⟨(⟨0,0⟩:DV),(⟨0,0⟩:DV)⟩:Dz),0,([]:List DC),(⟨([]:List Ai),([]:List Ai)⟩:CX),(⟨([]:List Ai),([]:List Ai)⟩:CX)⟩:Ak)))
 | .b1 a0 a1 a2 a3 a4 a5 a6=>.br (decide (a4<(↑a2.length:Int))) ( .chk (kI a4 a2) ( .bind 226 (a2[(Int.toNat a4)]?) (fun(x1:Ar)=>.chk true ( kl a5.Notes ( .chk (kA (a5.Notes.length+1) 176) ( .chk (kI a4 a2) ( .bind 226 (a2[(Int.toNat a4)]?) (fun(x2:Ar)=>.br (x2.Kind==1) ( .br (a0==0) ( .chk (kI a4 a2) ( .bind 226 (a2[(Int.toNat a4)]?) (fun(x4:Ar)=>.chk true ( kl a5.AB.x0 ( .chk (kA (a5.AB.x0.length+1) 32) ( .br (a0==0) ( .chk (kL (a5.Notes++[(⟨a0,a1,x1⟩:DC)])&&(kL a5.Sent.x0&&(kL a5.Sent.x1&&(kL (a5.AB.x0++[x4.Bg])&&(kL a5.AB.x1&&(kL a6.AA.x0.Ag.Am&&(kL a6.AA.x0.AP.Aa&&(kL a6.AA.x0.AP.Ap&&(kL a6.AA.x0.Aq&&(kL a6.AA.x0.A8&&(kL a6.AA.x1.Ag.Am&&(kL a6.AA.x1.AP.Aa&&(kL a6.AA.x1.AP.Ap&&(kL a6.AA.x1.Aq&&(kL a6.AA.x1.A8&&(kL a6.Notes&&(kL a6.Sent.x0&&(kL a6.Sent.x1&&(kL a6.AB.x0&&(kL a6.AB.x1&&(kL (a5.Notes++[(⟨a0,a1,x1⟩:DC)])&&(kL a5.Sent.x0&&(kL a5.Sent.x1&&(kL (a5.AB.x0++[x4.Bg])&&kL a5.AB.x1)))))))))))))))))))))))) ( AL (.b2 a0 a1 a2 a3 a4 ({ a5 with Notes:=(a5.Notes++[(⟨a0,a1,x1⟩:DC)]),AB:=(⟨(a5.AB.x0++[x4.Bg]),a5.AB.x1⟩:CX) }:Ak) a6))) ( .br (a0==1) ( .fail) ( .fail)))))))) ( .br (a0==1) ( .chk (kI a4 a2) ( .bind 226 (a2[(Int.toNat a4)]?) (fun(x3:Ar)=>.chk true ( kl a5.AB.x1 ( .chk (kA (a5.AB.x1.length+1) 32) ( .br (a0==0) ( .fail) ( .br (a0==1) ( .chk (kL (a5.Notes++[(⟨a0,a1,x1⟩:DC)])&&(kL a5.Sent.x0&&(kL a5.Sent.x1&&(kL a5.AB.x0&&(kL (a5.AB.x1++[x3.Bg])&&(kL a6.AA.x0.Ag.Am&&(kL a6.AA.x0.AP.Aa&&(kL a6.AA.x0.AP.Ap&&(kL a6.AA.x0.Aq&&(kL a6.AA.x0.A8&&(kL a6.AA.x1.Ag.Am&&(kL a6.AA.x1.AP.Aa&&(kL a6.AA.x1.AP.Ap&&(kL a6.AA.x1.Aq&&(kL a6.AA.x1.A8&&(kL a6.Notes&&(kL a6.Sent.x0&&(kL a6.Sent.x1&&(kL a6.AB.x0&&(kL a6.AB.x1&&(kL (a5.Notes++[(⟨a0,a1,x1⟩:DC)])&&(kL a5.Sent.x0&&(kL a5.Sent.x1&&(kL a5.AB.x0&&kL (a5.AB.x1++[x3.Bg]))))))))))))))))))))))))) ( AL (.b2 a0 a1 a2 a3 a4 ({ a5 with Notes:=(a5.Notes++[(⟨a0,a1,x1⟩:DC)]),AB:=(⟨a5.AB.x0,(a5.AB.x1++[x3.Bg])⟩:CX) }:Ak) a6))) ( .fail)))))))) ( .fail))) ( .chk (kL (a5.Notes++[(⟨a0,a1,x1⟩:DC)])&&(kL a5.Sent.x0&&(kL a5.Sent.x1&&(kL a5.AB.x0&&(kL a5.AB.x1&&(kL a6.AA.x0.Ag.Am&&(kL a6.AA.x0.AP.Aa&&(kL a6.AA.x0.AP.Ap&&(kL a6.AA.x0.Aq&&(kL a6.AA.x0.A8&&(kL a6.AA.x1.Ag.Am&&(kL a6.AA.x1.AP.Aa&&(kL a6.AA.x1.AP.Ap&&(kL a6.AA.x1.Aq&&(kL a6.AA.x1.A8&&(kL a6.Notes&&(kL a6.Sent.x0&&(kL a6.Sent.x1&&(kL a6.AB.x0&&(kL a6.AB.x1&&(kL (a5.Notes++[(⟨a0,a1,x1⟩:DC)])&&(kL a5.Sent.x0&&(kL a5.Sent.x1&&(kL a5.AB.x0&&kL a5.AB.x1)))))))))))))))))))))))) ( AL (.b2 a0 a1 a2 a3 a4 ({ a5 with Notes:=(a5.Notes++[(⟨a0,a1,x1⟩:DC)]) }:Ak) a6))))))))))) ( .chk (kL a5.Notes&&(kL a5.Sent.x0&&(kL a5.Sent.x1&&(kL a5.AB.x0&&(kL a5.AB.x1&&(kL a5.Notes&&(kL a5.Sent.x0&&(kL a5.Sent.x1&&(kL a5.AB.x0&&kL a5.AB.x1))))))))) ( AQ (⟨a5⟩:IQ)))
 | .b2 a0 a1 a2 a3 a4 a5 a6=>.chk (kI a4 a2) ( .bind 226 (a2[(Int.toNat a4)]?) (fun(x1:Ar)=>.br (x1.Kind==8) ( .br (a0==1) ( .chk (kL a5.Notes&&(kL a5.Sent.x0&&(kL a5.Sent.x1&&(kL a5.AB.x0&&(kL a5.AB.x1&&(kL a6.AA.x0.Ag.Am&&(kL a6.AA.x0.AP.Aa&&(kL a6.AA.x0.AP.Ap&&(kL a6.AA.x0.Aq&&(kL a6.AA.x0.A8&&(kL a6.AA.x1.Ag.Am&&(kL a6.AA.x1.AP.Aa&&(kL a6.AA.x1.AP.Ap&&(kL a6.AA.x1.Aq&&(kL a6.AA.x1.A8&&(kL a6.Notes&&(kL a6.Sent.x0&&(kL a6.Sent.x1&&(kL a6.AB.x0&&(kL a6.AB.x1&&(kL a5.Notes&&(kL a5.Sent.x0&&(kL a5.Sent.x1&&(kL a5.AB.x0&&kL a5.AB.x1)))))))))))))))))))))))) ( AL (.b3 a0 a1 a2 a3 a4 a5 a6))) ( .chk (kL a5.Notes&&(kL a5.Sent.x0&&(kL a5.Sent.x1&&(kL a5.AB.x0&&(kL a5.AB.x1&&(kL a6.AA.x0.Ag.Am&&(kL a6.AA.x0.AP.Aa&&(kL a6.AA.x0.AP.Ap&&(kL a6.AA.x0.Aq&&(kL a6.AA.x0.A8&&(kL a6.AA.x1.Ag.Am&&(kL a6.AA.x1.AP.Aa&&(kL a6.AA.x1.AP.Ap&&(kL a6.AA.x1.Aq&&(kL a6.AA.x1.A8&&(kL a6.Notes&&(kL a6.Sent.x0&&(kL a6.Sent.x1&&(kL a6.AB.x0&&(kL a6.AB.x1&&(kL a5.Notes&&(kL a5.Sent.x0&&(kL a5.Sent.x1&&(kL a5.AB.x0&&kL a5.AB.x1)))))))))))))))))))))))) ( AL (.b4 a0 a1 a2 a3 a4 a5 a6)))) ( .chk (kL a5.Notes&&(kL a5.Sent.x0&&(kL a5.Sent.x1&&(kL a5.AB.x0&&(kL a5.AB.x1&&(kL a6.AA.x0.Ag.Am&&(kL a6.AA.x0.AP.Aa&&(kL a6.AA.x0.AP.Ap&&(kL a6.AA.x0.Aq&&(kL a6.AA.x0.A8&&(kL a6.AA.x1.Ag.Am&&(kL a6.AA.x1.AP.Aa&&(kL a6.AA.x1.AP.Ap&&(kL a6.AA.x1.Aq&&(kL a6.AA.x1.A8&&(kL a6.Notes&&(kL a6.Sent.x0&&(kL a6.Sent.x1&&(kL a6.AB.x0&&(kL a6.AB.x1&&(kL a5.Notes&&(kL a5.Sent.x0&&(kL a5.Sent.x1&&(kL a5.AB.x0&&kL a5.AB.x1)))))))))))))))))))))))) ( AL (.b4 a0 a1 a2 a3 a4 a5 a6)))))
 | .b3 a0 a1 a2 a3 a4 a5 a6=>kl a5.Notes ( kl a5.Sent.x0 ( kl a5.Sent.x1 ( kl a5.AB.x0 ( kl a5.AB.x1 ( .bind 3 (Lu a5 (1:Int) a1) (fun(x1:Int)=>.bind 100 (Vz a5.AA.x1 (⟨0,10,(⟨0,[]⟩:Ai),ET,0,0,a3⟩:Eo) x1) (fun(x2:Af×Int)=>.br (x2.2==0) ( .chk (kL a5.Notes&&(kL a5.Sent.x0&&(kL a5.Sent.x1&&(kL a5.AB.x0&&(kL a5.AB.x1&&(kL a6.AA.x0.Ag.Am&&(kL a6.AA.x0.AP.Aa&&(kL a6.AA.x0.AP.Ap&&(kL a6.AA.x0.Aq&&(kL a6.AA.x0.A8&&(kL a6.AA.x1.Ag.Am&&(kL a6.AA.x1.AP.Aa&&(kL a6.AA.x1.AP.Ap&&(kL a6.AA.x1.Aq&&(kL a6.AA.x1.A8&&(kL a6.Notes&&(kL a6.Sent.x0&&(kL a6.Sent.x1&&(kL a6.AB.x0&&(kL a6.AB.x1&&(kL a5.Notes&&(kL a5.Sent.x0&&(kL a5.Sent.x1&&(kL a5.AB.x0&&kL a5.AB.x1)))))))))))))))))))))))) ( AL (.b4 a0 a1 a2 a3 a4 ({ a5 with AA:=(⟨a5.AA.x0,x2.1⟩:BU) }:Ak) a6))) ( .chk (kL a5.Notes&&(kL a5.Sent.x0&&(kL a5.Sent.x1&&(kL a5.AB.x0&&(kL a5.AB.x1&&(kL a6.AA.x0.Ag.Am&&(kL a6.AA.x0.AP.Aa&&(kL a6.AA.x0.AP.Ap&&(kL a6.AA.x0.Aq&&(kL a6.AA.x0.A8&&(kL a6.AA.x1.Ag.Am&&(kL a6.AA.x1.AP.Aa&&(kL a6.AA.x1.AP.Ap&&(kL a6.AA.x1.Aq&&(kL a6.AA.x1.A8&&(kL a6.Notes&&(kL a6.Sent.x0&&(kL a6.Sent.x1&&(kL a6.AB.x0&&(kL a6.AB.x1&&(kL a5.Notes&&(kL a5.Sent.x0&&(kL a5.Sent.x1&&(kL a5.AB.x0&&kL a5.AB.x1)))))))))))))))))))))))) ( AL (.b4 a0 a1 a2 a3 a4 a5 a6))))))))))
 | .b4 a0 a1 a2 a3 a4 a5 a6=>.chk (kL a5.Notes&&(kL a5.Sent.x0&&(kL a5.Sent.x1&&(kL a5.AB.x0&&(kL a5.AB.x1&&(kL a6.AA.x0.Ag.Am&&(kL a6.AA.x0.AP.Aa&&(kL a6.AA.x0.AP.Ap&&(kL a6.AA.x0.Aq&&(kL a6.AA.x0.A8&&(kL a6.AA.x1.Ag.Am&&(kL a6.AA.x1.AP.Aa&&(kL a6.AA.x1.AP.Ap&&(kL a6.AA.x1.Aq&&(kL a6.AA.x1.A8&&(kL a6.Notes&&(kL a6.Sent.x0&&(kL a6.Sent.x1&&(kL a6.AB.x0&&(kL a6.AB.x1&&(kL a5.Notes&&(kL a5.Sent.x0&&(kL a5.Sent.x1&&(kL a5.AB.x0&&kL a5.AB.x1)))))))))))))))))))))))) ( AL (.b1 a0 a1 a2 a3 (A7 (a4+1)) a5 a6))
def MF (a0:Ak) (a1 a2:Int) (a3:List Ar) (a4:Int):Option IQ:=Ad QL (.b0 a0 a1 a2 a3 a4)
def Z0L:Shape:=⟨[(Et 0),OV 3,OV 3,OV 119,OV 32],[.row 228 false,.row 67 false,.row 67 false,.row 67 false,.row 67 false]⟩
def ZaQ:Shape:=⟨[(Et 5)],[.gone,.gone,.gone,.gone,.gone,.row 228 false,.row 67 false,.row 67 false,.row 67 false,.row 67 false]⟩
noncomputable def Zgq:HMod U:=⟨[k4,KP,KP,[.s 226 18],KP],[.row false,.row false,.row false,.row false,.row false],Z0L,ZaQ,true,1576,fun(y:IQ)=>(((y.q0.AA,(y.q0.DT,(y.q0.Now,()))),()),(Jd y.q0)),fun x=>MF (⟨(⟨x.1.1.1.x0,x.1.1.1.x1⟩:BU),(⟨x.1.1.2.1.x0,x.1.1.2.1.x1⟩:Dz),x.1.1.2.2.1,x.2.1,(⟨x.2.2.1,x.2.2.2.1⟩:CX),(⟨x.2.2.2.2.1,x.2.2.2.2.2.1⟩:CX)⟩:Ak) x.1.2.1.1 x.1.2.2.1.1 x.1.2.2.2.1.1 x.1.2.2.2.2.1.1,okS rfl⟩
def Oj:Lay:=⟨[1,2,3,4,5,10,11],[KP,KP,[.s 226 18],KP,KP,KP,KP],[.var k4,.var k6,.row false,.row false,.row false,.row false,.row false,.row true,.row true,.row true,.row true,.row true,.row true,.row true,.row true,.row true,.row true,.row true,.row true,.row true,.row true,.row true],⟨[OV 3,OV 3,OV 119,OV 32,PQ 0,PQ 1,OV 3],[.var 60 142 (Et 2),.var 60 142 (LG 7),.row 228 false,.row 67 false,.row 67 false,.row 67 false,.row 67 false,.row 67 true,.row 310 true,.row 111 true,.row 380 true,.row 310 true,.row 67 true,.row 310 true,.row 111 true,.row 380 true,.row 310 true,.row 228 true,.row 67 true,.row 67 true,.row 67 true,.row 67 true]⟩⟩
def Ze1:nR->BQ U
 | .b0 a0 a1 a2 a3 a4=>HY Tryz.f89 Z0L (((a0.AA,(a0.DT,(a0.Now,()))),((a1,()),((a2,()),((a3,()),((a4,()),()))))),(Jd a0))
 | .b1 a0 a1 a2 a3 a4 a5 a6=>Ah Tryz.f89 [1,0,1,0,0,0,0] Oj (((a0,()),((a1,()),((a2,()),((a3,()),((),((),((a4,()),()))))))),((a5.AA,(a5.DT,(a5.Now,()))),((GY a6),(a5.Notes,(a5.Sent.x0,(a5.Sent.x1,(a5.AB.x0,(a5.AB.x1,(Gg a6)))))))))
 | .b2 a0 a1 a2 a3 a4 a5 a6=>Ah Tryz.f89 [1,0,1,0,0,1,0,0,1,1,0] Oj (((a0,()),((a1,()),((a2,()),((a3,()),((),((),((a4,()),()))))))),((a5.AA,(a5.DT,(a5.Now,()))),((GY a6),(a5.Notes,(a5.Sent.x0,(a5.Sent.x1,(a5.AB.x0,(a5.AB.x1,(Gg a6)))))))))
 | .b3 a0 a1 a2 a3 a4 a5 a6=>Ah Tryz.f89 [1,0,1,0,0,1,0,0,1,1,1,0,0] Oj (((a0,()),((a1,()),((a2,()),((a3,()),((),((),((a4,()),()))))))),((a5.AA,(a5.DT,(a5.Now,()))),((GY a6),(a5.Notes,(a5.Sent.x0,(a5.Sent.x1,(a5.AB.x0,(a5.AB.x1,(Gg a6)))))))))
 | .b4 a0 a1 a2 a3 a4 a5 a6=>Ah Tryz.f89 [1,0,1,0,0,1,1] Oj (((a0,()),((a1,()),((a2,()),((a3,()),((),((),((a4,()),()))))))),((a5.AA,(a5.DT,(a5.Now,()))),((GY a6),(a5.Notes,(a5.Sent.x0,(a5.Sent.x1,(a5.AB.x0,(a5.AB.x1,(Gg a6)))))))))
def Zpe:Shape:=⟨[(Et 0)],[.row 228 false,.row 67 false,.row 67 false,.row 67 false,.row 67 false]⟩
theorem mV:E8 Tryz.prog B0 89 Zgq:=Tf (mc Z5w (mc RU BC)) BB (al [(2,Oj),(7,Oj),(8,Oj),(3,Oj)]) [k4] [.row false,.row false,.row false,.row false,.row false] 5 Zpe (fun(y:IQ)=>(((y.q0.AA,(y.q0.DT,(y.q0.Now,()))),()),(y.q0.Notes,(y.q0.Sent.x0,(y.q0.Sent.x1,(y.q0.AB.x0,(y.q0.AB.x1,()))))))) Ze1 Tryz.func89 (fun p=>by cases p<;>kernel_rfl) (by kernel_rfl) (fun x=>by kernel_rfl) fun y=>by kernel_rfl
inductive kG where
 | b0 (a0:Ak)
 | b1 (a0:Int) (a1 a2:Ak)
 | b2 (a0:Int) (a1 a2:Ak)
def UZ:kG->Tr U (Ii⊕kG)
 | .b0 a0=>.chk (kL a0.Notes&&(kL a0.Sent.x0&&(kL a0.Sent.x1&&(kL a0.AB.x0&&(kL a0.AB.x1&&(true&&(true&&(true&&(true&&(true&&(true&&(true&&(true&&(true&&(true&&(true&&(true&&(true&&(true&&(true&&(kL a0.Notes&&(kL a0.Sent.x0&&(kL a0.Sent.x1&&(kL a0.AB.x0&&kL a0.AB.x1)))))))))))))))))))))))) ( AL (.b1 (0:Int) a0 (⟨(⟨CU,CU⟩:BU),(⟨(⟨0,0⟩:DV),(⟨0,0⟩:DV)⟩:Dz),0,([]:List DC),(⟨([]:List Ai),([]:List Ai)⟩:CX),(⟨([]:List Ai),([]:List Ai)⟩:CX)⟩:Ak)))
 | .b1 a0 a1 a2=>.br (decide (a0<2)) ( kl a1.Notes ( kl a1.Sent.x0 ( kl a1.Sent.x1 ( kl a1.AB.x0 ( kl a1.AB.x1 ( .bind 4 (Ij a1 a0) (fun(x1:Bool)=>.br (!x1) ( .chk (kL a1.Notes&&(kL a1.Sent.x0&&(kL a1.Sent.x1&&(kL a1.AB.x0&&(kL a1.AB.x1&&(kL a2.AA.x0.Ag.Am&&(kL a2.AA.x0.AP.Aa&&(kL a2.AA.x0.AP.Ap&&(kL a2.AA.x0.Aq&&(kL a2.AA.x0.A8&&(kL a2.AA.x1.Ag.Am&&(kL a2.AA.x1.AP.Aa&&(kL a2.AA.x1.AP.Ap&&(kL a2.AA.x1.Aq&&(kL a2.AA.x1.A8&&(kL a2.Notes&&(kL a2.Sent.x0&&(kL a2.Sent.x1&&(kL a2.AB.x0&&(kL a2.AB.x1&&(kL a1.Notes&&(kL a1.Sent.x0&&(kL a1.Sent.x1&&(kL a1.AB.x0&&kL a1.AB.x1)))))))))))))))))))))))) ( AL (.b2 a0 a1 a2))) ( .br (a0==0) ( kl a1.Notes ( kl a1.Sent.x0 ( kl a1.Sent.x1 ( kl a1.AB.x0 ( kl a1.AB.x1 ( .bind 3 (Lu a1 a0 a1.Now) (fun(x8:Int)=>.bind 316 (YW a1.AA.x0 x8) (fun(x9:Af×(List Ar))=>.br (a0==0) ( kl a1.Notes ( kl a1.Sent.x0 ( kl a1.Sent.x1 ( kl a1.AB.x0 ( kl a1.AB.x1 ( .bind 32 (LM ({ a1 with AA:=(⟨x9.1,a1.AA.x1⟩:BU) }:Ak)) (fun(x12:Int)=>.chk (kL a1.Notes&&(kL a1.Sent.x0&&(kL a1.Sent.x1&&(kL a1.AB.x0&&(kL a1.AB.x1&&(kL a1.Notes&&(kL a1.Sent.x0&&(kL a1.Sent.x1&&(kL a1.AB.x0&&kL a1.AB.x1))))))))) ( .bind 1576 (MF ({ a1 with AA:=(⟨x9.1,a1.AA.x1⟩:BU) }:Ak) a0 a1.Now x9.2 x12) (fun(y13:IQ)=>.chk (kL y13.q0.Notes&&(kL y13.q0.Sent.x0&&(kL y13.q0.Sent.x1&&(kL y13.q0.AB.x0&&(kL y13.q0.AB.x1&&(kL a2.AA.x0.Ag.Am&&(kL a2.AA.x0.AP.Aa&&(kL a2.AA.x0.AP.Ap&&(kL a2.AA.x0.Aq&&(kL a2.AA.x0.A8&&(kL a2.AA.x1.Ag.Am&&(kL a2.AA.x1.AP.Aa&&(kL a2.AA.x1.AP.Ap&&(kL a2.AA.x1.Aq&&(kL a2.AA.x1.A8&&(kL a2.Notes&&(kL a2.Sent.x0&&(kL a2.Sent.x1&&(kL a2.AB.x0&&(kL a2.AB.x1&&(kL y13.q0.Notes&&(kL y13.q0.Sent.x0&&(kL y13.q0.Sent.x1&&(kL y13.q0.AB.x0&&kL y13.q0.AB.x1)))))))))))))))))))))))) ( AL (.b2 a0 y13.q0 a2))))))))))) ( .br (a0==1) ( kl a1.Notes ( kl a1.Sent.x0 ( kl a1.Sent.x1 ( kl a1.AB.x0 ( kl a1.AB.x1 ( .bind 32 (LM ({ a1 with AA:=(⟨a1.AA.x0,x9.1⟩:BU) }:Ak)) (fun(x10:Int)=>.chk (kL a1.Notes&&(kL a1.Sent.x0&&(kL a1.Sent.x1&&(kL a1.AB.x0&&(kL a1.AB.x1&&(kL a1.Notes&&(kL a1.Sent.x0&&(kL a1.Sent.x1&&(kL a1.AB.x0&&kL a1.AB.x1))))))))) ( .bind 1576 (MF ({ a1 with AA:=(⟨a1.AA.x0,x9.1⟩:BU) }:Ak) a0 a1.Now x9.2 x10) (fun(y11:IQ)=>.chk (kL y11.q0.Notes&&(kL y11.q0.Sent.x0&&(kL y11.q0.Sent.x1&&(kL y11.q0.AB.x0&&(kL y11.q0.AB.x1&&(kL a2.AA.x0.Ag.Am&&(kL a2.AA.x0.AP.Aa&&(kL a2.AA.x0.AP.Ap&&(kL a2.AA.x0.Aq&&(kL a2.AA.x0.A8&&(kL a2.AA.x1.Ag.Am&&(kL a2.AA.x1.AP.Aa&&(kL a2.AA.x1.AP.Ap&&(kL a2.AA.x1.Aq&&(kL a2.AA.x1.A8&&(kL a2.Notes&&(kL a2.Sent.x0&&(kL a2.Sent.x1&&(kL a2.AB.x0&&(kL a2.AB.x1&&(kL y11.q0.Notes&&(kL y11.q0.Sent.x0&&(kL y11.q0.Sent.x1&&(kL y11.q0.AB.x0&&kL y11.q0.AB.x1)))))))))))))))))))))))) ( AL (.b2 a0 y11.q0 a2))))))))))) ( .fail)))))))))) ( .br (a0==1) ( kl a1.Notes ( kl a1.Sent.x0 ( kl a1.Sent.x1 ( kl a1.AB.x0 ( kl a1.AB.x1 ( .bind 3 (Lu a1 a0 a1.Now) (fun(x2:Int)=>.bind 316 (YW a1.AA.x1 x2) (fun(x3:Af×(List Ar))=>.br (a0==0) ( kl a1.Notes ( kl a1.Sent.x0 ( kl a1.Sent.x1 ( kl a1.AB.x0 ( kl a1.AB.x1 ( .bind 32 (LM ({ a1 with AA:=(⟨x3.1,a1.AA.x1⟩:BU) }:Ak)) (fun(x6:Int)=>.chk (kL a1.Notes&&(kL a1.Sent.x0&&(kL a1.Sent.x1&&(kL a1.AB.x0&&(kL a1.AB.x1&&(kL a1.Notes&&(kL a1.Sent.x0&&(kL a1.Sent.x1&&(kL a1.AB.x0&&kL a1.AB.x1))))))))) ( .bind 1576 (MF ({ a1 with AA:=(⟨x3.1,a1.AA.x1⟩:BU) }:Ak) a0 a1.Now x3.2 x6) (fun(y7:IQ)=>.chk (kL y7.q0.Notes&&(kL y7.q0.Sent.x0&&(kL y7.q0.Sent.x1&&(kL y7.q0.AB.x0&&(kL y7.q0.AB.x1&&(kL a2.AA.x0.Ag.Am&&(kL a2.AA.x0.AP.Aa&&(kL a2.AA.x0.AP.Ap&&(kL a2.AA.x0.Aq&&(kL a2.AA.x0.A8&&(kL a2.AA.x1.Ag.Am&&(kL a2.AA.x1.AP.Aa&&(kL a2.AA.x1.AP.Ap&&(kL a2.AA.x1.Aq&&(kL a2.AA.x1.A8&&(kL a2.Notes&&(kL a2.Sent.x0&&(kL a2.Sent.x1&&(kL a2.AB.x0&&(kL a2.AB.x1&&(kL y7.q0.Notes&&(kL y7.q0.Sent.x0&&(kL y7.q0.Sent.x1&&(kL y7.q0.AB.x0&&kL y7.q0.AB.x1)))))))))))))))))))))))) ( AL (.b2 a0 y7.q0 a2))))))))))) ( .br (a0==1) ( kl a1.Notes ( kl a1.Sent.x0 ( kl a1.Sent.x1 ( kl a1.AB.x0 ( kl a1.AB.x1 ( .bind 32 (LM ({ a1 with AA:=(⟨a1.AA.x0,x3.1⟩:BU) }:Ak)) (fun(x4:Int)=>.chk (kL a1.Notes&&(kL a1.Sent.x0&&(kL a1.Sent.x1&&(kL a1.AB.x0&&(kL a1.AB.x1&&(kL a1.Notes&&(kL a1.Sent.x0&&(kL a1.Sent.x1&&(kL a1.AB.x0&&kL a1.AB.x1))))))))) ( .bind 1576 (MF ({ a1 with AA:=(⟨a1.AA.x0,x3.1⟩:BU) }:Ak) a0 a1.Now x3.2 x4) (fun(y5:IQ)=>.chk (kL y5.q0.Notes&&(kL y5.q0.Sent.x0&&(kL y5.q0.Sent.x1&&(kL y5.q0.AB.x0&&(kL y5.q0.AB.x1&&(kL a2.AA.x0.Ag.Am&&(kL a2.AA.x0.AP.Aa&&(kL a2.AA.x0.AP.Ap&&(kL a2.AA.x0.Aq&&(kL a2.AA.x0.A8&&(kL a2.AA.x1.Ag.Am&&(kL a2.AA.x1.AP.Aa&&(kL a2.AA.x1.AP.Ap&&(kL a2.AA.x1.Aq&&(kL a2.AA.x1.A8&&(kL a2.Notes&&(kL a2.Sent.x0&&(kL a2.Sent.x1&&(kL a2.AB.x0&&(kL a2.AB.x1&&(kL y5.q0.Notes&&(kL y5.q0.Sent.x0&&(kL y5.q0.Sent.x1&&(kL y5.q0.AB.x0&&kL y5.q0.AB.x1)))))))))))))))))))))))) ( AL (.b2 a0 y5.q0 a2))))))))))) ( .fail)))))))))) ( .fail)))))))))) ( .chk (kL a1.Notes&&(kL a1.Sent.x0&&(kL a1.Sent.x1&&(kL a1.AB.x0&&(kL a1.AB.x1&&(kL a1.Notes&&(kL a1.Sent.x0&&(kL a1.Sent.x1&&(kL a1.AB.x0&&kL a1.AB.x1))))))))) ( AQ (⟨a1⟩:Ii)))
 | .b2 a0 a1 a2=>.chk (kL a1.Notes&&(kL a1.Sent.x0&&(kL a1.Sent.x1&&(kL a1.AB.x0&&(kL a1.AB.x1&&(kL a2.AA.x0.Ag.Am&&(kL a2.AA.x0.AP.Aa&&(kL a2.AA.x0.AP.Ap&&(kL a2.AA.x0.Aq&&(kL a2.AA.x0.A8&&(kL a2.AA.x1.Ag.Am&&(kL a2.AA.x1.AP.Aa&&(kL a2.AA.x1.AP.Ap&&(kL a2.AA.x1.Aq&&(kL a2.AA.x1.A8&&(kL a2.Notes&&(kL a2.Sent.x0&&(kL a2.Sent.x1&&(kL a2.AB.x0&&(kL a2.AB.x1&&(kL a1.Notes&&(kL a1.Sent.x0&&(kL a1.Sent.x1&&(kL a1.AB.x0&&kL a1.AB.x1)))))))))))))))))))))))) ( AL (.b1 (A7 (a0+1)) a1 a2))
def QH (a0:Ak):Option Ii:=Ad UZ (.b0 a0)
def Zf:Shape:=⟨[(Et 0)],[.row 228 false,.row 67 false,.row 67 false,.row 67 false,.row 67 false]⟩
def Z9G:Shape:=⟨[(Et 5)],[.gone,.gone,.gone,.gone,.gone,.row 228 false,.row 67 false,.row 67 false,.row 67 false,.row 67 false]⟩
noncomputable def Zds:HMod U:=⟨[k4],[.row false,.row false,.row false,.row false,.row false],Zf,Z9G,true,1575,fun(y:Ii)=>(((y.q0.AA,(y.q0.DT,(y.q0.Now,()))),()),(Jd y.q0)),fun x=>QH (⟨(⟨x.1.1.1.x0,x.1.1.1.x1⟩:BU),(⟨x.1.1.2.1.x0,x.1.1.2.1.x1⟩:Dz),x.1.1.2.2.1,x.2.1,(⟨x.2.2.1,x.2.2.2.1⟩:CX),(⟨x.2.2.2.2.1,x.2.2.2.2.2.1⟩:CX)⟩:Ak),okS rfl⟩
def Xa:Lay:=⟨[1,2,3],[KP,KP,KP],[.var k4,.var k6,.row false,.row false,.row false,.row false,.row false,.row true,.row true,.row true,.row true,.row true,.row true,.row true,.row true,.row true,.row true,.row true,.row true,.row true,.row true,.row true],⟨[PQ 0,PQ 1,OV 3],[.var 60 142 (Et 2),.var 60 142 (LG 7),.row 228 false,.row 67 false,.row 67 false,.row 67 false,.row 67 false,.row 67 true,.row 310 true,.row 111 true,.row 380 true,.row 310 true,.row 67 true,.row 310 true,.row 111 true,.row 380 true,.row 310 true,.row 228 true,.row 67 true,.row 67 true,.row 67 true,.row 67 true]⟩⟩
def Zbn:kG->BQ U
 | .b0 a0=>HY Tryz.f83 Zf (((a0.AA,(a0.DT,(a0.Now,()))),()),(a0.Notes,(a0.Sent.x0,(a0.Sent.x1,(a0.AB.x0,(a0.AB.x1,()))))))
 | .b1 a0 a1 a2=>Ah Tryz.f83 [1,0,1,0,0,0,0] Xa (((),((),((a0,()),()))),((a1.AA,(a1.DT,(a1.Now,()))),((GY a2),(a1.Notes,(a1.Sent.x0,(a1.Sent.x1,(a1.AB.x0,(a1.AB.x1,(Gg a2)))))))))
 | .b2 a0 a1 a2=>Ah Tryz.f83 [1,0,1,0,0,1,1] Xa (((),((),((a0,()),()))),((a1.AA,(a1.DT,(a1.Now,()))),((GY a2),(a1.Notes,(a1.Sent.x0,(a1.Sent.x1,(a1.AB.x0,(a1.AB.x1,(Gg a2)))))))))
def Zph:Shape:=⟨[(Et 0)],[.row 228 false,.row 67 false,.row 67 false,.row 67 false,.row 67 false]⟩
theorem ZA:E8 Tryz.prog B0 83 Zds:=Tf (mc UQ (mc RU (mc iY (mc ZbU BC)))) (hc [] mV BB) (al [(2,Xa),(3,Xa)]) [k4] [.row false,.row false,.row false,.row false,.row false] 5 Zph (fun(y:Ii)=>(((y.q0.AA,(y.q0.DT,(y.q0.Now,()))),()),(y.q0.Notes,(y.q0.Sent.x0,(y.q0.Sent.x1,(y.q0.AB.x0,(y.q0.AB.x1,()))))))) Zbn Tryz.func83 (fun p=>by cases p<;>kernel_rfl) (by kernel_rfl) (fun x=>by kernel_rfl) fun y=>by kernel_rfl
def Z0j:S1 (Int×Unit) Bool
 | (a0,_)=>.br (a0==3) ( AQ true) ( .br (a0==4) ( AQ true) ( .br (a0==5) ( AQ true) ( .br (a0==6) ( AQ true) ( AQ (a0==13)))))
def jX (a0:Int):Option Bool:=Ad Z0j (a0,())
def ZbA:Az U:=⟨[3],4,fun x=>jX x.1,by decide⟩
theorem Z9U:BA Tryz.prog B0 179 ZbA:=ok1 BC BB Tryz.func179 (fun _=>by kernel_rfl) (by kernel_rfl)
inductive Vq where
 | b0 (a0 a1:Int)
 | b1 (a0 a1:Int) (a2:List Int) (a3:Int)
def Z4Z:Vq->Tr U (I7⊕Vq)
 | .b0 a0 a1=>.chk true ( AL (.b1 a0 a1 ([]:List Int) (0:Int)))
 | .b1 a0 a1 a2 a3=>.br (decide (a3<a1)) ( .chk true ( kl a2 ( .chk (kA (a2.length+1) 1) ( kl (a2++[(IntKind.wrap .u8 ((Int.tmod a0 256)))]) ( AL (.b1 (IntKind.wrap .u64 (Int.tdiv a0 256)) a1 (a2++[(IntKind.wrap .u8 ((Int.tmod a0 256)))]) (A7 (a3+1)))))))) ( kl a2 ( AQ (⟨a2⟩:I7)))
def KF (a0 a1:Int):Option I7:=Ad Z4Z (.b0 a0 a1)
def Z1L:Shape:=⟨[OV 25,OV 3],[]⟩
def Zda:Shape:=⟨[.one (.own 5 0)],[.row 5 true]⟩
noncomputable def ZjS:HMod U:=⟨[KP,KP],[],Z1L,Zda,true,1588,fun(y:I7)=>(((),()),(y.q0,())),fun x=>KF x.1.1.1 x.1.2.1.1,okS rfl⟩
def Z2g:Lay:=LT [0,1,5,6] [.v 25,.v 3,.o 5 1 0,.v 3] [.r 5]
def ZgJ:Vq->BQ U
 | .b0 a0 a1=>HY Tryz.f238 Z1L (((a0,()),((a1,()),())),())
 | .b1 a0 a1 a2 a3=>Ah Tryz.f238 [1,1,0,1,0,0,0,0] Z2g (((a0,()),((a1,()),((),((a3,()),())))),(a2,()))
theorem Z3K:E8 Tryz.prog B0 238 ZjS:=okR BC BB (al [(3,Z2g)]) [[.own 5 1]] [.row true] 0 ZgJ Tryz.func238 (fun p=>by cases p<;>kernel_rfl) (by kernel_rfl) fun x=>by kernel_rfl
def zJ:S1 (ER×Unit) (List Int)
 | (a0,_)=>.bind 1588 (KF (IntKind.wrap .u64 (a0.Gy)) (1:Int)) (fun(y1:I7)=>.bind 1588 (KF (IntKind.wrap .u64 (a0.Gl)) (2:Int)) (fun(y2:I7)=>kl y2.q0 ( kl y1.q0 ( .chk (kA (y1.q0.length+y2.q0.length) 1) ( .bind 1588 (KF (IntKind.wrap .u64 (a0.GK)) (2:Int)) (fun(y3:I7)=>kl y3.q0 ( kl (y1.q0++y2.q0) ( .chk (kA ((y1.q0++y2.q0).length+y3.q0.length) 1) ( .bind 1588 (KF (IntKind.wrap .u64 (a0.Fb)) (2:Int)) (fun(y4:I7)=>kl y4.q0 ( kl ((y1.q0++y2.q0)++y3.q0) ( .chk (kA (((y1.q0++y2.q0)++y3.q0).length+y4.q0.length) 1) ( .bind 1588 (KF (IntKind.wrap .u64 (a0.He)) (2:Int)) (fun(y5:I7)=>kl y5.q0 ( kl (((y1.q0++y2.q0)++y3.q0)++y4.q0) ( .chk (kA ((((y1.q0++y2.q0)++y3.q0)++y4.q0).length+y5.q0.length) 1) ( kl ((((y1.q0++y2.q0)++y3.q0)++y4.q0)++y5.q0) ( AQ ((((y1.q0++y2.q0)++y3.q0)++y4.q0)++y5.q0)))))))))))))))))))
def iU (a0:ER):Option (List Int):=Ad zJ (a0,())
def Z9C:Az U:=⟨[24],65,fun x=>iU x.1,by decide⟩
theorem Z9l:BA Tryz.prog B0 237 Z9C:=ok1 BC (hc [] Z3K BB) Tryz.func237 (fun _=>by kernel_rfl) (by kernel_rfl)
inductive UY where
 | b0 (a0:AV)
 | b1 (a0:List Int) (a1:AV) (a2:CQ)
 | b2 (a0:List Int) (a1:AV) (a2:CQ)
 | b3 (a0:List Int) (a1:AV) (a2:CQ)
 | b4 (a0:List Int) (a1:AV) (a2:CQ)
 | b5 (a0:List Int) (a1:AV) (a2:CQ)
 | b6 (a0:List Int) (a1:AV) (a2:CQ)
 | b7 (a0:List Int) (a1:AV) (a2:CQ)
 | b8 (a0:List Int) (a1:AV) (a2:CQ)
 | b9 (a0:List Int) (a1:AV) (a2:CQ)
def Z0z:UY->Tr U (((List Int)×Int)⊕UY)
 | .b0 a0=>.bind 61 (Uw a0) (fun(x1:Int)=>.br (x1 != 0) ( .chk true ( AQ (([]:List Int),x1))) ( .bind 448 (Gv a0.Kind) (fun(x2:CQ)=>.br x2.BM ( .bind 65 (iU a0.BM) (fun(x3:List Int)=>.chk true ( .chk (kA (1+x3.length) 1) ( kl ([(IntKind.wrap .u8 (a0.Kind))]++x3) ( AL (.b1 ([(IntKind.wrap .u8 (a0.Kind))]++x3) a0 x2)))))) ( .chk true ( AL (.b1 ([(IntKind.wrap .u8 (a0.Kind))]) a0 x2))))))
 | .b1 a0 a1 a2=>.br a2.Map ( .bind 1588 (KF a1.Map (5:Int)) (fun(y1:I7)=>kl y1.q0 ( kl a0 ( .chk (kA (a0.length+y1.q0.length) 1) ( kl (a0++y1.q0) ( AL (.b2 (a0++y1.q0) a1 a2))))))) ( kl a0 ( AL (.b2 a0 a1 a2)))
 | .b2 a0 a1 a2=>.br a2.EN ( .bind 1588 (KF (IntKind.wrap .u64 (a1.EN)) (2:Int)) (fun(y1:I7)=>kl y1.q0 ( kl a0 ( .chk (kA (a0.length+y1.q0.length) 1) ( kl (a0++y1.q0) ( AL (.b3 (a0++y1.q0) a1 a2))))))) ( kl a0 ( AL (.b3 a0 a1 a2)))
 | .b3 a0 a1 a2=>.br a2.BV ( .chk true ( kl a0 ( .chk (kA (a0.length+1) 1) ( kl (a0++[(IntKind.wrap .u8 (a1.BV))]) ( AL (.b4 (a0++[(IntKind.wrap .u8 (a1.BV))]) a1 a2)))))) ( kl a0 ( AL (.b4 a0 a1 a2)))
 | .b4 a0 a1 a2=>.br a2.H9 ( .chk true ( kl a0 ( .chk (kA (a0.length+1) 1) ( kl (a0++[(IntKind.wrap .u8 (a1.H9))]) ( AL (.b5 (a0++[(IntKind.wrap .u8 (a1.H9))]) a1 a2)))))) ( kl a0 ( AL (.b5 a0 a1 a2)))
 | .b5 a0 a1 a2=>.br a2.EG ( .bind 1588 (KF a1.EG (8:Int)) (fun(y1:I7)=>kl y1.q0 ( kl a0 ( .chk (kA (a0.length+y1.q0.length) 1) ( kl (a0++y1.q0) ( AL (.b6 (a0++y1.q0) a1 a2))))))) ( kl a0 ( AL (.b6 a0 a1 a2)))
 | .b6 a0 a1 a2=>.br a2.Mark ( .bind 1588 (KF a1.Mark (8:Int)) (fun(y1:I7)=>kl y1.q0 ( kl a0 ( .chk (kA (a0.length+y1.q0.length) 1) ( kl (a0++y1.q0) ( AL (.b7 (a0++y1.q0) a1 a2))))))) ( kl a0 ( AL (.b7 a0 a1 a2)))
 | .b7 a0 a1 a2=>.br a2.EU ( .bind 1588 (KF a1.EU (8:Int)) (fun(y1:I7)=>kl y1.q0 ( kl a0 ( .chk (kA (a0.length+y1.q0.length) 1) ( kl (a0++y1.q0) ( AL (.b8 (a0++y1.q0) a1 a2))))))) ( kl a0 ( AL (.b8 a0 a1 a2)))
 | .b8 a0 a1 a2=>.br a2.Version ( .chk true ( kl a0 ( .chk (kA (a0.length+1) 1) ( kl (a0++[(IntKind.wrap .u8 (a1.Version))]) ( AL (.b9 (a0++[(IntKind.wrap .u8 (a1.Version))]) a1 a2)))))) ( kl a0 ( AL (.b9 a0 a1 a2)))
 | .b9 a0 a1 a2=>.br a2.Length ( .chk true ( kl a0 ( .chk (kA (a0.length+1) 1) ( kl (a0++[(IntKind.wrap .u8 (a1.Length))]) ( AQ ((a0++[(IntKind.wrap .u8 (a1.Length))]),(0:Int))))))) ( kl a0 ( AQ (a0,0)))
def kE (a0:AV):Option ((List Int)×Int):=Ad Z0z (.b0 a0)
def Zdp:Az U:=⟨[310],200,fun x=>kE x.1,by decide⟩
def II:Lay:=LT [1,5,6] [.p 0,.p 1,.o 5 1 2] [.s 310,.s 448,.r 5]
def Zbr:UY->BQ U
 | .b0 a0=>Bi Tryz.f180 [310] (a0,())
 | .b1 a0 a1 a2=>Ah Tryz.f180 [1,1,1,1,1,0,0] II (((),((),((),()))),((a1,()),((a2,()),(a0,()))))
 | .b2 a0 a1 a2=>Ah Tryz.f180 [1,1,1,1,1,1,0,0] II (((),((),((),()))),((a1,()),((a2,()),(a0,()))))
 | .b3 a0 a1 a2=>Ah Tryz.f180 [1,1,1,1,1,1,1,0,0] II (((),((),((),()))),((a1,()),((a2,()),(a0,()))))
 | .b4 a0 a1 a2=>Ah Tryz.f180 [1,1,1,1,1,1,1,1,0,0] II (((),((),((),()))),((a1,()),((a2,()),(a0,()))))
 | .b5 a0 a1 a2=>Ah Tryz.f180 [1,1,1,1,1,1,1,1,1,0,0] II (((),((),((),()))),((a1,()),((a2,()),(a0,()))))
 | .b6 a0 a1 a2=>Ah Tryz.f180 [1,1,1,1,1,1,1,1,1,1,0,0] II (((),((),((),()))),((a1,()),((a2,()),(a0,()))))
 | .b7 a0 a1 a2=>Ah Tryz.f180 [1,1,1,1,1,1,1,1,1,1,1,0,0] II (((),((),((),()))),((a1,()),((a2,()),(a0,()))))
 | .b8 a0 a1 a2=>Ah Tryz.f180 [1,1,1,1,1,1,1,1,1,1,1,1,0,0] II (((),((),((),()))),((a1,()),((a2,()),(a0,()))))
 | .b9 a0 a1 a2=>Ah Tryz.f180 [1,1,1,1,1,1,1,1,1,1,1,1,1,0,0] II (((),((),((),()))),((a1,()),((a2,()),(a0,()))))
theorem ZaM:BA Tryz.prog B0 180 Zdp:=Bl (mc kR (mc Oi (mc Z9l BC))) (hc [] Z3K BB) (al [(8,II),(10,II),(12,II),(14,II),(16,II),(18,II),(20,II),(22,II),(24,II)]) Zbr Tryz.func180 (fun p=>by cases p<;>kernel_rfl) (by kernel_rfl) fun _=>rfl
inductive Un where
 | b0 (a0:Af)
 | b1 (a0:List AV) (a1:Bool) (a2:Int) (a3 a4:Af)
 | b2 (a0:List AV) (a1:Bool) (a2:Int) (a3 a4:Af) (a5:AV)
 | b3 (a0:List AV) (a1:Bool) (a2:Int) (a3 a4:Af) (a5:AV)
 | b4 (a0:List AV) (a1:Bool) (a2:Int) (a3 a4:Af)
def Z2S:Un->Tr U (Af⊕Un)
 | .b0 a0=>.chk true ( AL (.b1 ([]:List AV) false (0:Int) a0 CU))
 | .b1 a0 a1 a2 a3 a4=>.br (decide (a2<(↑a3.A8.length:Int))) ( .chk (kI a2 a3.A8) ( .bind 310 (a3.A8[(Int.toNat a2)]?) (fun(x1:AV)=>.br a1 ( kl a0 ( AL (.b2 a0 a1 a2 a3 a4 x1))) ( .bind 4 (YP a3.AP) (fun(x2:Bool)=>.br x2 ( .bind 4 (jX x1.Kind) (fun(x3:Bool)=>.br (!x3) ( kl a0 ( AL (.b2 a0 a1 a2 a3 a4 x1))) ( kl a0 ( AL (.b3 a0 a1 a2 a3 a4 x1))))) ( kl a0 ( AL (.b3 a0 a1 a2 a3 a4 x1)))))))) ( kl a0 ( AQ ({ a3 with A8:=a0 }:Af)))
 | .b2 a0 a1 a2 a3 a4 a5=>.chk true ( kl a0 ( .chk (kA (a0.length+1) 120) ( kl (a0++[a5]) ( AL (.b4 (a0++[a5]) a1 a2 a3 a4)))))
 | .b3 a0 a1 a2 a3 a4 a5=>.bind 200 (kE a5) (fun(x1:(List Int)×Int)=>.br (x1.2 != 0) ( kl a0 ( AL (.b4 a0 a1 a2 a3 a4))) ( .bind 369 (YZ a3.Ag (⟨3,x1.1⟩:Ai)) (fun(x2:CZ×Int)=>.br (x2.2 != 0) ( .chk true ( kl a0 ( .chk (kA (a0.length+1) 120) ( kl (a0++[a5]) ( AL (.b4 (a0++[a5]) true a2 a3 a4)))))) ( kl a0 ( AL (.b4 a0 a1 a2 ({ a3 with Ag:=x2.1 }:Af) a4))))))
 | .b4 a0 a1 a2 a3 a4=>kl a0 ( AL (.b1 a0 a1 (A7 (a2+1)) a3 a4))
def nD (a0:Af):Option Af:=Ad Z2S (.b0 a0)
def ZdU:Az U:=⟨[55],55,fun x=>nD x.1,by decide⟩
def Xq:Lay:=LT [1,2,3,4,5] [.p 0,.p 1,.o 310 15 2,.v 4,.v 3] [.s 55,.s 55,.r 310]
def Xj:Lay:=LT [1,2,3,4,5,6] [.p 0,.p 1,.o 310 15 2,.v 4,.v 3,.p 3] [.s 55,.s 55,.r 310,.s 310]
def ZcH:Un->BQ U
 | .b0 a0=>Bi Tryz.f123 [55] (a0,())
 | .b1 a0 a1 a2 a3 a4=>Ah Tryz.f123 [1,1,1,0,1,0,0,0,0] Xq (((),((),((),((a1,()),((a2,()),()))))),((a3,()),((a4,()),(a0,()))))
 | .b2 a0 a1 a2 a3 a4 a5=>Ah Tryz.f123 [1,1,1,0,1,0,0,1,0,0,1,0,1,0,0] Xj (((),((),((),((a1,()),((a2,()),((),())))))),((a3,()),((a4,()),(a0,((a5,()),())))))
 | .b3 a0 a1 a2 a3 a4 a5=>Ah Tryz.f123 [1,1,1,0,1,0,0,1,0,0,1,1,0] Xj (((),((),((),((a1,()),((a2,()),((),())))))),((a3,()),((a4,()),(a0,((a5,()),())))))
 | .b4 a0 a1 a2 a3 a4=>Ah Tryz.f123 [1,1,1,0,1,0,0,1,1] Xq (((),((),((),((a1,()),((a2,()),()))))),((a3,()),((a4,()),(a0,()))))
theorem ZcN:BA Tryz.prog B0 123 ZdU:=Bl (mc Z0Y (mc Z0M (mc Z9U (mc ZaM BC)))) BB (al [(4,Xq),(8,Xj),(9,Xj),(5,Xq)]) ZcH Tryz.func123 (fun p=>by cases p<;>kernel_rfl) (by kernel_rfl) fun _=>rfl
end
end Go.Proofs.YtddbklgndkpipaaGreatDoor
