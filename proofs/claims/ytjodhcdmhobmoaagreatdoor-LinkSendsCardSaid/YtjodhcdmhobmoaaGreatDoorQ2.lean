/- A part of it. -/
import Derived.Test.YtjodhcdmhobmoaaGreatDoorQ1
import Derived.Test.YtjodhcdmhobmoaaGreatDoorF3
import Derived.Test.YtjodhcdmhobmoaaGreatDoorSUn
set_option linter.unusedVariables false
set_option linter.unusedSimpArgs false
namespace Go.Proofs.YtjodhcdmhobmoaaGreatDoor
open Go Go.Proofs.YtjodhcdmhobmoaaGreatDoor.Le
set_option linter.defProp false
set_option maxRecDepth 100000
set_option maxHeartbeats 40000000
theorem PL:(∀(p0 p1 p2:Int),∃r,qI p0 p1 p2=some r/\True) /\
  (∀(p0 p1:Int),∃r,oC p0 p1=some r/\True) /\
  (∀(p0:Int),∃r,YJ p0=some r/\True) /\
  (∀(p0 p1:Int) (p2 p3:List Int),p2.length<=200000->p3.length<=200000->∃r,bZ p0 p1 p2 p3=some r/\r.length=4/\Cc r) /\
  (∀(p0:Aa) (p1:AL) (p2 p3:Int),BJ p0->CV p1->R16 p2->∃r,nH p0 p1 p2 p3=some r/\BJ r.1/\CV r.2/\r.1.BI=p0.BI) /\
  (∀(p0:Int) (p1:ByteArray) (p2:List Int),uK U 5 p1=true->(Ny U 5 p1).length<=100->p2.length<=1000->∃r,Z0z p0 p1 p2=some r/\CB r) /\
  (∀(p0:List BR) (p1 p2:Int),p0.length<=37->∃r,Z06 p0 p1 p2=some r/\CB r) /\
  (∀(k:Int) (p0:A8) (p1:Aw),BQ k p0->CO p1->0<=k->k<=1000000->∃r,Z0M p0 p1=some r/\BQ k r.1/\r.2.length<=1) /\
  (∀(p0:Aa) (p1:AL) (p2 p3:Int),BJ p0->Bj p1->∃r,yF p0 p1 p2 p3=some r/\BJ r):=by
 refine⟨fun p0 p1 p2=>BD (fun(p:bP)=>True) (fun(p:bP)=>(0,0,0)) ?_ _ ?_,
  fun p0 p1=>BD (fun(p:Xm)=>True) (fun(p:Xm)=>(0,0,0)) ?_ _ ?_,
  fun p0=>BD (fun(p:Xv)=>True) (fun(p:Xv)=>(0,0,0)) ?_ _ ?_,
  fun p0 p1 p2 p3 h0 h1=>BD (fun(p:dK)=>match p with | .b0 _ _ a2 a3=>a2.length<=200000/\a3.length<=200000) (fun(p:dK)=>(0,0,0)) ?_ _ ?_,
  fun p0 p1 p2 p3 h0 h1 h2=>BD (fun(p:YR)=>match p with | .b0 a0 a1 a2 _=>BJ a0/\CV a1/\a0=p0/\R16 a2 | .b1 a0 a1 a2 _ _=>BJ a1/\CV a2/\(a1.BI=p0.BI/\R16 a0/\(a2.Kind=0\/a2.Kind=1)) | .b2 a0 a1 a2 _ _=>BJ a1/\CV a2/\a1.BI=p0.BI/\a0=a2.Kind | .b3 a0 a1 _ _=>BJ a0/\CV a1/\a0.BI=p0.BI | .b4 a0 a1 _ _=>BJ a0/\CV a1/\a0.BI=p0.BI | .b5 a0 a1 _ _=>BJ a0/\CV a1/\a0.BI=p0.BI) (fun(p:YR)=>match p with | .b0 ..=>(0,0,4) | .b1 ..=>(0,0,3) | .b3 ..=>(0,0,2) | .b4 ..=>(0,0,0)|_=>(0,0,1)) ?_ _ ?_,
  fun p0 p1 p2 h0 h1 h2=>BD (fun(p:XQ)=>match p with | .b0 _ a1 a2=>uK U 5 a1=true/\(Ny U 5 a1).length<=100/\a2.length<=1000 | .b1 _ a1 a2 a3=>a1.length<=1000/\0<=a3/\a3<=(a1.length:Int)/\(a2.length:Int)<=101+8*a3) (fun(p:XQ)=>match p with | .b0 ..=>(1,0,0) | .b1 _ a1 _ a3=>(0,((a1.length:Int) - a3).toNat,0)) ?_ _ ?_,
  fun p0 p1 p2 h0=>BD (fun(p:XD)=>match p with | .b0 a0 _ _=>a0.length<=37 | .b1 a0 _ a2=>a0.length<=37/\a2.length<=37/\Hm a2 | .b2 a0=>a0.length<=37/\Hm a0) (fun(p:XD)=>match p with | .b0 ..=>(1,0,0) | .b1 _ _ a2=>(0,a2.length,1) | .b2 ..=>(0,0,0)) ?_ _ ?_,
  fun k p0 p1 h0 h1 h2 h3=>BD (fun(p:YF)=>match p with | .b0 a0 a1=>BQ k a0/\CO a1 | .b1 a0 a1 _=>BQ k a0/\CO a1 | .b2 a0 a1 _=>a0.length<=1/\BQ k a1) (fun(p:YF)=>match p with | .b0 ..=>(0,0,2) | .b1 ..=>(0,0,1) | .b2 ..=>(0,0,0)) ?_ _ ?_,
  fun p0 p1 p2 p3 h0 h1=>BD (fun(p:WE)=>match p with | .b0 a0 a1 _ _=>BJ a0/\Bj a1 | .b1 a0 _=>BJ a0) (fun(p:WE)=>match p with | .b0 ..=>(0,0,1) | .b1 ..=>(0,0,0)) ?_ _ ?_⟩
 all_goals try (intro p hp;cases p)
 all_goals
  try dsimp only at hp
  try exact False.elim hp
  try have hx:=hp
  try dsimp only [BQ,DT,BJ,DX,CO,Ei,Es,EP] at hx
  try (repeat with_reducible (have hq:=And.left hp;replace hp:=And.right hp))
  try simp only [Z2P,Z1k,Z1m,Z2C,Zap,Z9A,Z8J,Za4,Z65]
  try dsimp only
  repeat' first|(refine ET ?_;dsimp only;try simp(disch:=omega) only [Bv,Bh,List.nil_append,List.drop_zero])|(refine Ec (fun h=>?_) (fun h=>?_)<;>(try simp only [Ff,reduceCtorEq] at h;try simp(disch:=omega) only [Bv] at h))|refine Dn ?_ ?_|refine Gm ?_|refine Aq (ZaB _) fun(v:Int) hm hv=>?_|refine Aq (Z9c _ _) fun(v:Int) hm hv=>?_|refine Aq (Zcq _ _) fun(v:Bool) hm hv=>?_|refine Aq (Zrw _) fun(v:Int) hm hv=>?_|refine Aq (Zyy _ _) fun(v:Int) hm hv=>?_|refine Aq (Z1r _ ?_ ?_) fun(v:Int) hm hv=>?_|refine Aq (Zu3 _ _ _ ?_ ?_) fun(v:RP) hm hv=>?_|refine Aq (Zyv _ _ ?_) fun(v:Int) hm hv=>?_|refine Aq (Z2L _ _ ?_ ?_) fun(v:KN) hm hv=>?_|refine Aq (ZvE _ _) fun(v:Int) hm hv=>?_|refine Aq (Zo4 _) fun(v:BN) hm hv=>?_|refine Aq (Zy2 _ _ _ ?_ ?_) fun(v:((List BN)×Int)) hm hv=>?_|refine ZDr ?_ fun v hv=>?_|refine Aq (ZbU _) fun(v:(List Int)) hm hv=>?_|refine Aq (Zso _ _ ?_ ?_) fun(v:Int) hm hv=>?_|refine Aq (ZAv _ ?_ ?_) fun(v:Int) hm hv=>?_|refine Aq (Z19 _) fun(v:Bool) hm hv=>?_|refine Aq (ZbQ _ _ _ ?_) fun(v:C9) hm hv=>?_|refine Aq (Z93 _ ?_ ?_) fun(v:(AL×Int)) hm hv=>?_|refine Aq (ZvG _ _ ?_ ?_) fun(v:(Aa×(List Am))) hm hv=>?_|refine Aq (ZbR _ _ _ ?_) fun(v:C9) hm hv=>?_|refine Aq (ZaD _ _ ?_) fun(v:(List Am)) hm hv=>?_|with_reducible apply And.intro|rfl|assumption|exact True.intro|omega|exact decide_eq_true (GK _).1|exact GH (by assumption) (by omega)|exact Gl (by assumption) (by omega)|(refine FW.2 ?_;first|omega|grind)|(apply Fz;first|omega|(simp only [Bh];omega))|(simp only [Dx,Bh,Cf,maxLen_eq,kL,kA]<;>omega)|(simp(disch:=omega) only [Bv,decide_eq_true_eq,bne_iff_ne,ne_eq];(repeat' split)<;>omega)|(simp [D6,Ez];done)|grind|(simp only [Dx,Bh,Cf,maxLen_eq,kL,kA]<;>grind)|grind [EG]
def ZzU:=PL.1
def ZsZ:=PL.2.1
def ZrB:=PL.2.2.1
def Zyx:=PL.2.2.2.1
def Ztx:=PL.2.2.2.2.1
def Zql:=PL.2.2.2.2.2.1
def Zn2:=PL.2.2.2.2.2.2.1
def Zrr:=PL.2.2.2.2.2.2.2.1
def ZhZ:=PL.2.2.2.2.2.2.2.2
theorem QW:(∀(p0:Ey) (p1 p2:Int),JG p0->∃r,Yz p0 p1 p2=some r/\True) /\
  (∀(p0:Ey),JG p0->∃r,Z1l p0=some r/\True) /\
  (∀(p0 p1:Int) (p2 p3:List Int),p2.length<=100000->p3.length<=100000->∃r,oG p0 p1 p2 p3=some r/\r.length=p3.length+4/\Cc r) /\
  (∀(p0:Aa) (p1 p2:Int),BJ p0->R16 p1->∃r,Z1y p0 p1 p2=some r/\BJ r.1/\r.2.length<=8/\FC r.2) /\
  (∀(p0:Aa) (p1:AL) (p2 p3:Int),BJ p0->Bj p1->R16 p2->∃r,Z1g p0 p1 p2 p3=some r/\BJ r.1/\r.2.1.length<=1/\FC r.2.1) /\
  (∀(p0 p1 p2 p3:Int),CB p2->CB p3->∃r,pY p0 p1 p2 p3=some r/\Gs r) /\
  (∀(p0 p1:Int) (p2 p3:List Int),p2.length<=65536->p3.length<=65536->∃r,Z21 p0 p1 p2 p3=some r/\r.1.length<=65536/\Cc r.1) /\
  (∀(p0:Aa) (p1:AL) (p2 p3:Int),BJ p0->Bj p1->∃r,Z0t p0 p1 p2 p3=some r/\BJ r.1/\r.2.1.length<=8/\FC r.2.1/\r.2.2.length<=1):=by
 refine⟨fun p0 p1 p2 h0=>BD (fun(p:aC)=>match p with | .b0 a0 _ _=>JG a0) (fun(p:aC)=>(0,0,0)) ?_ _ ?_,
  fun p0 h0=>BD (fun(p:Xo)=>match p with | .b0 a0=>JG a0 | .b1 a0=>JG a0 | .b2 a0=>JG a0) (fun(p:Xo)=>match p with | .b0 ..=>(0,0,2) | .b1 ..=>(0,0,1) | .b2 ..=>(0,0,0)) ?_ _ ?_,
  fun p0 p1 p2 p3 h0 h1=>BD (fun(p:Yd)=>match p with | .b0 _ _ a2 a3=>a3=p3/\a2.length<=100000/\a3.length<=100000) (fun(p:Yd)=>(0,0,0)) ?_ _ ?_,
  fun p0 p1 p2 h0 h1=>BD (fun(p:Y3)=>match p with | .b0 a0 a1 _=>BJ a0/\R16 a1 | .b1 a0 _ a2 a3 _=>a2.length<=8/\FC a2/\BJ a3/\a2.length+a3.BI.length<=8/\R16 a0 | .b2 a0 _ a2 a3 _=>a2.length<=8/\FC a2/\BJ a3/\a2.length+a3.BI.length<=8/\0<a3.BI.length/\R16 a0 | .b3 a0 a1 _=>a0.length<=8/\FC a0/\BJ a1 | .b4 a0 _ a2 a3 _ a5=>a2.length<=8/\FC a2/\BJ a3/\CV a5/\a2.length+a3.BI.length<=7/\R16 a0) (fun(p:Y3)=>match p with | .b0 ..=>(1,0,0) | .b1 _ _ _ a3 _=>(0,a3.BI.length,2) | .b2 _ _ _ a3 _=>(0,a3.BI.length,1) | .b3 ..=>(0,0,0) | .b4 _ _ _ a3 _ _=>(0,a3.BI.length,3)) ?_ _ ?_,
  fun p0 p1 p2 p3 h0 h1 h2=>BD (fun(p:Y9)=>match p with | .b0 a0 a1 a2 _=>BJ a0/\Bj a1/\R16 a2 | .b1 a0 _=>BJ a0 | .b2 a0 _ a2 a3 _=>BJ a2/\CV a3/\R16 a0 | .b3 a0 _ a2 a3 _=>BJ a2/\CV a3/\R16 a0 | .b4 a0 a1 _=>BJ a0/\CV a1) (fun(p:Y9)=>match p with | .b0 ..=>(0,0,2) | .b2 ..=>(0,0,1)|_=>(0,0,0)) ?_ _ ?_,
  fun p0 p1 p2 p3 h0 h1=>BD (fun(p:bW)=>match p with | .b0 _ _ a2 a3=>CB a2/\CB a3) (fun(p:bW)=>(0,0,0)) ?_ _ ?_,
  fun p0 p1 p2 p3 h0 h1=>BD (fun(p:Yw)=>match p with | .b0 _ _ a2 a3=>a2.length<=65536/\a3.length<=65536) (fun(p:Yw)=>(0,0,0)) ?_ _ ?_,
  fun p0 p1 p2 p3 h0 h1=>BD (fun(p:XY)=>match p with | .b0 a0 a1 _ _=>BJ a0/\Bj a1 | .b1 _ _ a2 a3 _=>BJ a2/\Bj a3 | .b2 _ _ a2 a3 _=>BJ a2/\Bj a3 | .b3 a0 _=>BJ a0 | .b4 _ a1 a2 _=>BJ a1/\Bj a2 | .b5 _ _ a2 a3 _=>BJ a2/\Bj a3 | .b6 a0 a1 _=>BJ a0/\Bj a1 | .b7 _ _ a2 a3 _=>BJ a2/\Bj a3 | .b8 a0 a1 _=>BJ a0/\Bj a1 | .b9 a0 a1 _=>BJ a0/\Bj a1) (fun(p:XY)=>match p with | .b0 ..=>(0,0,4) | .b2 ..=>(0,0,3) | .b5 ..=>(0,0,2) | .b7 ..=>(0,0,1)|_=>(0,0,0)) ?_ _ ?_⟩
 all_goals try (intro p hp;cases p)
 all_goals
  try dsimp only at hp
  try exact False.elim hp
  try have hx:=hp
  try dsimp only [BQ,DT,BJ,DX,CO,Ei,Es,EP] at hx
  try (repeat with_reducible (have hq:=And.left hp;replace hp:=And.right hp))
  try simp only [Z1Z,Z9W,Z1Y,ZaE,Z9J,Zd0,Zb3,Z9m]
  try dsimp only
  repeat' first|(refine ET ?_;dsimp only;try simp(disch:=omega) only [Bv,Bh,List.nil_append,List.drop_zero])|(refine Ec (fun h=>?_) (fun h=>?_)<;>(try simp only [Ff,reduceCtorEq] at h;try simp(disch:=omega) only [Bv] at h))|refine Dn ?_ ?_|refine Gm ?_|refine Aq (ZzU _ _ _) fun(v:Int) hm hv=>?_|refine Aq (ZaB _) fun(v:Int) hm hv=>?_|refine Aq (Z9c _ _) fun(v:Int) hm hv=>?_|refine Aq (Zv5 _ _) fun(v:Int) hm hv=>?_|refine Aq (ZsZ _ _) fun(v:Int) hm hv=>?_|refine Aq (ZiL _) fun(v:Int) hm hv=>?_|refine Aq (ZrB _) fun(v:Int) hm hv=>?_|refine Aq (Z8Z _ _ _) fun(v:Bool) hm hv=>?_|refine Aq (Zpo _ _ _ ?_ ?_) fun(v:(List Int)) hm hv=>?_|refine Aq (ZzN _ _ ?_) fun(v:Om) hm hv=>?_|refine Aq (Zyx _ _ _ _ ?_ ?_) fun(v:(List Int)) hm hv=>?_|refine Aq (ZzQ _ _ ?_ ?_) fun(v:Bool) hm hv=>?_|refine Z2W ?_ fun v hv=>?_|refine Aq (Ztx _ _ _ _ ?_ ?_ ?_) fun(v:(Aa×AL)) hm hv=>?_|refine Aq (ZkN _) fun(v:Bool) hm hv=>?_|refine Aq (ZqA _ _ ?_ ?_) fun(v:AL) hm hv=>?_|refine Aq (Z0W _ ?_) fun(v:Int) hm hv=>?_|refine Aq (Zmn _ _ ?_) fun(v:Bool) hm hv=>?_|refine Aq (Zql _ _ _ (by rfl) (by decide +kernel) ?_) fun(v:Int) hm hv=>?_|refine Aq (Zud _ _ ?_ ?_) fun(v:Bool) hm hv=>?_|refine Aq (UI _) fun(v:Be) hm hv=>?_|refine Aq (Z2j _) fun(v:(List AL)) hm hv=>?_|refine Aq (ZhZ _ _ _ _ ?_ ?_) fun(v:Aa) hm hv=>?_|refine Aq (ZiI _ _ _ ?_ ?_) fun(v:(Aa×(List AL)×(List Am))) hm hv=>?_|refine Aq (Zi4 _ _ ?_ ?_) fun(v:(Aa×(List AL)×(List Am))) hm hv=>?_|refine Aq (ZiB _ _ _ ?_ ?_) fun(v:(Aa×(List AL)×(List Am))) hm hv=>?_|refine Aq (Zim _ _ ?_ ?_) fun(v:(Aa×(List AL)×(List Am))) hm hv=>?_|refine Aq (ZjF _ _ ?_ ?_) fun(v:(Aa×(List AL)×(List Am))) hm hv=>?_|with_reducible apply And.intro|rfl|assumption|exact True.intro|omega|exact decide_eq_true (GK _).1|exact GH (by assumption) (by omega)|exact Gl (by assumption) (by omega)|(refine FW.2 ?_;first|omega|grind)|(apply Fz;first|omega|(simp only [Bh];omega))|(simp only [Dx,Bh,Cf,maxLen_eq,kL,kA]<;>omega)|(simp(disch:=omega) only [Bv,decide_eq_true_eq,bne_iff_ne,ne_eq];(repeat' split)<;>omega)|(simp [D6,Ez];done)|grind|(simp only [Dx,Bh,Cf,maxLen_eq,kL,kA]<;>grind)|grind [EG]
def ZwY:=QW.1
def ZrX:=QW.2.1
def ZwL:=QW.2.2.1
def Zt8:=QW.2.2.2.1
def Zt6:=QW.2.2.2.2.1
def Zzb:=QW.2.2.2.2.2.1
def Zuh:=QW.2.2.2.2.2.2.1
def Zpr:=QW.2.2.2.2.2.2.2
theorem QZ:(∀(k:Int) (p0:A8),BQ k p0->0<=k->k<=1000000->∃r,UA p0=some r/\True) /\
  (∀(p0:Int) (p1:Ey) (p2 p3 p4 p5:Int),JG p1->CB p3->CB p4->∃r,qH p0 p1 p2 p3 p4 p5=some r/\((r.2=0->BQ 0 r.1))) /\
  (∀(p0:C9) (p1:BM),Gs p0->CO p1.BG->∃r,oU p0 p1=some r/\(CO r.1.BG/\(r.2=0->r.1.BG.Payload.length<=255))) /\
  (∀(k:Int) (p0:A8) (p1:Int),BQ k p0->0<=k->k<=900000->∃r,nK p0 p1=some r/\BQ (k+8) r.1) /\
  (∀(k:Int) (p0:A8) (p1:AL) (p2:Int),BQ k p0->Bj p1->0<=k->k<=1000000->∃r,LU p0 p1 p2=some r/\BQ (k+1) r.1) /\
  (∀(k:Int) (p0:A8) (p1:Int),BQ k p0->0<=k->k<=1000000->CB p1->∃r,Z2s p0 p1=some r/\BQ (k+2) r.1) /\
  (∀(p0:C9) (p1:BM),Gs p0->CO p1.BG->∃r,Z1A p0 p1=some r/\CO r.1.BG) /\
  (∀(k:Int) (p0:A8) (p1:List Int) (p2:Int),BQ k p0->0<=k->k<=1000000->p1.length<=65536->Cc p1->∃r,Z0b p0 p1 p2=some r/\BQ (k+8) r.1/\r.2.length<=1):=by
 refine⟨fun k p0 h0 h1 h2=>BD (fun(p:Wy)=>match p with | .b0 a0=>BQ k a0) (fun(p:Wy)=>(0,0,0)) ?_ _ ?_,
  fun p0 p1 p2 p3 p4 p5 h0 h1 h2=>BD (fun(p:dD)=>match p with | .b0 _ a1 _ a3 a4 _=>JG a1/\CB a3/\CB a4 | .b2 a0 _ a2 a3 _ a5 _=>JG a5/\EG a0/\CB a2/\CB a3 | .b4 a0 _ a2 a3 _ a5 _=>JG a5/\EG a0/\CB a2/\CB a3|_=>True) (fun(p:dD)=>match p with | .b0 ..=>(0,0,2) | .b2 ..=>(0,0,1)|_=>(0,0,0)) ?_ _ ?_,
  fun p0 p1 h0 h1=>BD (fun(p:aU)=>match p with | .b0 a0 a1=>Gs a0/\CO a1.BG | .b1 a0 a1 _=>Gs a0/\CO a1.BG) (fun(p:aU)=>match p with | .b0 ..=>(0,0,1) | .b1 ..=>(0,0,0)) ?_ _ ?_,
  fun k p0 p1 h0 h1 h2=>BD (fun(p:YU)=>match p with | .b0 a0 _=>BQ k a0 | .b1 _ _ a2 _=>BQ k a2 | .b2 _ _ a2 _=>BQ k a2 | .b3 _ _ _ a3 _=>BQ k a3 | .b4 _ _ a2 _=>BQ k a2 | .b5 _ a1 a2 a3 a4 _ _=>a1.length<=4/\a2.length<=1/\FT a2/\BQ k a4/\(a1.length:Int)=a3/\0<=a3/\a3<=(a2.length:Int) | .b6 a0 _ a2 _=>a0.length<=4/\BQ (k+8) a2 | .b7 a0 a1 _=>a0.length<=4/\BQ (k+8) a1 | .b8 _ a1 _ a3 _=>a1.length<=4/\BQ (k+8) a3 | .b9 a0 a1 _=>a0.length<=4/\BQ (k+8) a1) (fun(p:YU)=>match p with | .b0 ..=>(9,0,0) | .b1 ..=>(8,0,0) | .b2 ..=>(7,0,0) | .b3 ..=>(6,0,0) | .b4 ..=>(5,0,0) | .b5 _ _ a2 a3 _ _ _=>(4,((a2.length:Int) - a3).toNat,0) | .b6 ..=>(1,0,0) | .b8 ..=>(3,0,0)|_=>(2,0,0)) ?_ _ ?_,
  fun k p0 p1 p2 h0 h1 h2 h3=>BD (fun(p:YG)=>match p with | .b0 a0 a1 _=>BQ k a0/\Bj a1) (fun(p:YG)=>(0,0,0)) ?_ _ ?_,
  fun k p0 p1 h0 h1 h2 h3=>BD (fun(p:cZ)=>match p with | .b0 a0 a1=>BQ k a0/\CB a1 | .b1 a0 a1 _=>BQ k a1/\CB a0) (fun(p:cZ)=>match p with | .b0 ..=>(0,0,1) | .b1 ..=>(0,0,0)) ?_ _ ?_,
  fun p0 p1 h0 h1=>BD (fun(p:aH)=>match p with | .b0 a0 a1=>Gs a0/\CO a1.BG | .b1 a0 a1 _=>Gs a0/\CO a1.BG) (fun(p:aH)=>match p with | .b0 ..=>(0,0,1) | .b1 ..=>(0,0,0)) ?_ _ ?_,
  fun k p0 p1 p2 h0 h1 h2 h3 h4=>BD (fun(p:XE)=>match p with | .b0 a0 a1 _=>BQ k a0/\a1.length<=65536/\Cc a1 | .b1 a0 a1 _ a3=>a0.length<=1/\BQ (k+8) a1/\BJ a3 | .b2 a0 a1 _=>a0.length<=1/\BQ (k+8) a1) (fun(p:XE)=>match p with | .b0 ..=>(0,0,2) | .b1 ..=>(0,0,1) | .b2 ..=>(0,0,0)) ?_ _ ?_⟩
 all_goals try (intro p hp;cases p)
 all_goals
  try dsimp only at hp
  try exact False.elim hp
  try have hx:=hp
  try dsimp only [BQ,DT,BJ,DX,CO,Ei,Es,EP] at hx
  try (repeat with_reducible (have hq:=And.left hp;replace hp:=And.right hp))
  try simp only [Z0d,ZcI,Yh,Z9M,Z9R,Zcy,Zbg,Z8n]
  try dsimp only
  repeat' first|(refine ET ?_;dsimp only;try simp(disch:=omega) only [Bv,Bh,List.nil_append,List.drop_zero])|(refine Ec (fun h=>?_) (fun h=>?_)<;>(try simp only [Ff,reduceCtorEq] at h;try simp(disch:=omega) only [Bv] at h))|refine Dn ?_ ?_|refine Gm ?_|refine Aq (ZwY _ _ _ ?_) fun(v:(Int×Int)) hm hv=>?_|refine Aq (ZrX _ ?_) fun(v:Int) hm hv=>?_|refine Aq (Zrx _ _) fun(v:Hq) hm hv=>?_|refine Aq (Zyj) fun(v:BU) hm hv=>?_|refine Aq (Zcz _) fun(v:Dc) hm hv=>?_|refine Aq (ZyZ _ _ _ ?_) fun(v:Aa) hm hv=>?_|refine Aq (Zre) fun(v:(List BR)) hm hv=>?_|refine Aq (mZ _) fun(v:Int) hm hv=>?_|refine Aq (Z19 _) fun(v:Bool) hm hv=>?_|refine Aq (ZsQ _ _ _ ?_) fun(v:Int) hm hv=>?_|refine Aq (ZwL _ _ _ _ ?_ ?_) fun(v:(List Int)) hm hv=>?_|refine Aq (Zvv _ _) fun(v:BM) hm hv=>?_|refine Aq (Z9U k _ ?_ ?_ ?_) fun(v:Bool) hm hv=>?_|refine Aq (ZvI _) fun(v:(Dc×Int)) hm hv=>?_|refine Aq (ZoN _ _) fun(v:Dc) hm hv=>?_|refine Aq (Z9r _ _ _ ?_) fun(v:(List BR)) hm hv=>?_|refine Aq (Zy8 _ _ ?_) fun(v:(Aa×(List BN))) hm hv=>?_|refine Aq (Zr6 k _ _ ?_ ?_ ?_ ?_) fun(v:A8) hm hv=>?_|refine Aq (Zrl k _ ?_ ?_ ?_) fun(v:Int) hm hv=>?_|refine Aq (Zt8 _ _ _ ?_ ?_) fun(v:(Aa×(List AL))) hm hv=>?_|refine Aq (Zn8 _ _ ?_) fun(v:Bool) hm hv=>?_|refine Aq (ZnM _) fun(v:Int) hm hv=>?_|refine Z3a ?_ fun v hv=>?_|refine Aq (Zck (k+8) _ _ ?_ ?_ ?_) fun(v:(A8×(List Am))) hm hv=>?_|refine Aq (Zt6 _ _ _ _ ?_ ?_ ?_) fun(v:(Aa×(List AL)×Int)) hm hv=>?_|refine Aq (ZoZ _ _ _ ?_ ?_) fun(v:(Aa×(List AL))) hm hv=>?_|refine Aq (Zzb _ _ _ _ ?_ ?_) fun(v:C9) hm hv=>?_|refine Aq (ZbR _ _ _ ?_) fun(v:C9) hm hv=>?_|refine Aq (ZsL _) fun(v:Int) hm hv=>?_|refine Aq (Zuh _ _ _ _ ?_ ?_) fun(v:((List Int)×Int)) hm hv=>?_|refine Aq (Z93 _ ?_ ?_) fun(v:(AL×Int)) hm hv=>?_|refine Aq (Zpr _ _ _ _ ?_ ?_) fun(v:(Aa×(List AL)×(List Am))) hm hv=>?_|refine Q7 ?_ fun v hv=>?_|refine Aq (ZaD _ _ ?_) fun(v:(List Am)) hm hv=>?_|with_reducible apply And.intro|rfl|assumption|exact True.intro|omega|exact decide_eq_true (GK _).1|exact GH (by assumption) (by omega)|exact Gl (by assumption) (by omega)|(refine FW.2 ?_;first|omega|grind)|(apply Fz;first|omega|(simp only [Bh];omega))|(simp only [Dx,Bh,Cf,maxLen_eq,kL,kA]<;>omega)|(simp(disch:=omega) only [Bv,decide_eq_true_eq,bne_iff_ne,ne_eq];(repeat' split)<;>omega)|(simp [D6,Ez];done)|grind|(simp only [Dx,Bh,Cf,maxLen_eq,kL,kA]<;>grind)|grind [EG]
def ZnS:=QZ.1
def Zyn:=QZ.2.1
def Zc7:=QZ.2.2.1
def Zri:=QZ.2.2.2.1
def Zsd:=QZ.2.2.2.2.1
def ZzS:=QZ.2.2.2.2.2.1
def ZuU:=QZ.2.2.2.2.2.2.1
def ZmS:=QZ.2.2.2.2.2.2.2
theorem Z3C:(∀(k:Int) (p0:A8),BQ k p0->0<=k->k<=1000000->∃r,UZ p0=some r/\BQ k r.1/\r.2.length<=300/\Cc r.2) /\
  (∀(k:Int) (p0:A8) (p1:Gh) (p2:Int),BQ k p0->Es p1->0<=k->k<=1000000->∃r,eG p0 p1 p2=some r/\BQ (k+2) r.1) /\
  (∀(k:Int) (p0:A8) (p1:List Int) (p2:Bool) (p3:Int),BQ k p0->0<=k->k<=1000000->p1.length<=65536->Cc p1->∃r,lH p0 p1 p2 p3=some r/\BQ (k+8) r.1/\r.2.1.length<=4):=by
 refine⟨fun k p0 h0 h1 h2=>BD (fun(p:Yp)=>match p with | .b0 a0=>BQ k a0 | .b1 a0 _ a2=>BQ k a0/\CO a2.BG) (fun(p:Yp)=>match p with | .b0 ..=>(0,0,1) | .b1 ..=>(0,0,0)) ?_ _ ?_,
  fun k p0 p1 p2 h0 h1 h2 h3=>BD (fun(p:dR)=>match p with | .b0 a0 a1 _=>BQ k a0/\Es a1 | .b1 _ _ a2=>BQ (k+2) a2 | .b2 _ _ a2=>BQ (k+2) a2) (fun(p:dR)=>match p with | .b0 ..=>(0,0,1)|_=>(0,0,0)) ?_ _ ?_,
  fun k p0 p1 p2 p3 h0 h1 h2 h3 h4=>BD (fun(p:XF)=>match p with | .b0 a0 a1 _ _=>BQ k a0/\a1.length<=65536/\Cc a1 | .b1 a0 _ a2 _=>BQ k a2/\a0.length<=65536/\Cc a0 | .b2 a0 _ a2 _=>BQ k a2/\a0.length<=65536/\Cc a0 | .b3 _ _ a2 _ a4=>BQ k a2/\CO a4.BG | .b4 _ _ a2 _ a4=>BQ k a2/\CO a4.BG | .b5 _ _ a2 _ a4 _=>BQ k a2/\CO a4.BG/\a2.BB.Open=true/\a2.BB.Empty=false | .b6 _ _ a2 _ a4 a5=>BQ k a2/\CO a4.BG/\CO a5 | .b7 _ _ a2 _ a4 _=>BQ k a2/\CO a4.BG | .b8 _ _ a2 _ a4 a5=>BQ k a2/\CO a4.BG/\CO a5 | .b9 _ _ _ a3 a4 _ a6 a7=>a3.length<=2/\BQ k a4/\CO a6.BG/\CO a7 | .b10 _ a1 a2 _ a4 a5=>a1.length<=2/\BQ k a2/\CO a4.BG/\CO a5 | .b11 a0 a1 _ a3=>a0.length<=4/\BQ (k+8) a1/\CO a3.BG) (fun(p:XF)=>match p with | .b0 ..=>(0,0,11) | .b1 ..=>(0,0,10) | .b2 ..=>(0,0,9) | .b3 ..=>(0,0,8) | .b4 ..=>(0,0,7) | .b5 ..=>(0,0,6) | .b6 ..=>(0,0,5) | .b7 ..=>(0,0,4) | .b8 ..=>(0,0,3) | .b9 ..=>(0,0,2) | .b10 ..=>(0,0,1) | .b11 ..=>(0,0,0)) ?_ _ ?_⟩
 all_goals try (intro p hp;cases p)
 all_goals
  try dsimp only at hp
  try exact False.elim hp
  try have hx:=hp
  try dsimp only [BQ,DT,BJ,DX,CO,Ei,Es,EP] at hx
  try (repeat with_reducible (have hq:=And.left hp;replace hp:=And.right hp))
  try simp only [U5,Zdt,Z84]
  try dsimp only
  repeat' first|(refine ET ?_;dsimp only;try simp(disch:=omega) only [Bv,Bh,List.nil_append,List.drop_zero])|(refine Ec (fun h=>?_) (fun h=>?_)<;>(try simp only [Ff,reduceCtorEq] at h;try simp(disch:=omega) only [Bv] at h))|refine Dn ?_ ?_|refine Gm ?_|refine Aq (Zar k _ ?_ ?_ ?_) fun(v:A8) hm hv=>?_|refine Aq (Zb0 _ ?_) fun(v:(BU×BM)) hm hv=>?_|refine Aq (Zc7 _ _ ?_ ?_) fun(v:(BM×Int)) hm hv=>?_|refine Aq (Z9E _ ?_) fun(v:((List Int)×Int)) hm hv=>?_|refine Aq (ZnS k _ ?_ ?_ ?_) fun(v:Int) hm hv=>?_|refine Aq (Z97 _ _ ?_ ?_) fun(v:(List Int)) hm hv=>?_|refine Aq (Zt4 _ _ ?_) fun(v:QH) hm hv=>?_|refine Aq (Zwo k _ _ ?_ ?_ ?_ ?_) fun(v:(A8×Int)) hm hv=>?_|refine Aq (Zsd k _ _ _ ?_ ?_ ?_ ?_) fun(v:(A8×Int)) hm hv=>?_|refine Aq (ZoI _) fun(v:Int) hm hv=>?_|refine Aq (ZzS k _ _ ?_ ?_ ?_ ?_) fun(v:(A8×Int)) hm hv=>?_|refine Aq (Zn2 _ _ _ ?_) fun(v:Int) hm hv=>?_|refine Aq (Ztp _ ?_) fun(v:(List BR)) hm hv=>?_|refine Aq (Ztf _ _ ?_ ?_) fun(v:((List Int)×Int)) hm hv=>?_|refine Aq (Z9r _ _ _ ?_) fun(v:(List BR)) hm hv=>?_|refine Aq (Zo3 _ ?_ ?_) fun(v:(BM×Int)) hm hv=>?_|refine Aq (Z19 _) fun(v:Bool) hm hv=>?_|refine Aq (ZuU _ _ ?_ ?_) fun(v:(BM×Int)) hm hv=>?_|refine Aq (Zck k _ _ ?_ ?_ ?_) fun(v:(A8×(List Am))) hm hv=>?_|refine Ze5 ?_ fun v hv=>?_|refine Aq (ZvQ _ _ ?_ ?_) fun(v:(BU×Aw×Bool×Bool)) hm hv=>?_|refine Aq (Zrr k _ _ ?_ ?_ ?_ ?_) fun(v:(A8×(List Am))) hm hv=>?_|refine Aq (ZbQ _ _ _ ?_) fun(v:C9) hm hv=>?_|refine Aq (ZmS k _ _ _ ?_ ?_ ?_ ?_ ?_) fun(v:(A8×(List Am))) hm hv=>?_|with_reducible apply And.intro|rfl|assumption|exact True.intro|omega|exact decide_eq_true (GK _).1|exact GH (by assumption) (by omega)|exact Gl (by assumption) (by omega)|(refine FW.2 ?_;first|omega|grind)|(apply Fz;first|omega|(simp only [Bh];omega))|(simp only [Dx,Bh,Cf,maxLen_eq,kL,kA]<;>omega)|(simp(disch:=omega) only [Bv,decide_eq_true_eq,bne_iff_ne,ne_eq];(repeat' split)<;>omega)|(simp [D6,Ez];done)|grind|(simp only [Dx,Bh,Cf,maxLen_eq,kL,kA]<;>grind)|grind [EG]
def ZbC:=Z3C.1
def ZdD:=Z3C.2.1
def ZnR:=Z3C.2.2
theorem Zhh:∀(k:Int) (p0:Eg) (p1:CS) (p2:Int) (p3:Bool) (p4:Int),Ii p0->0<=k->k<=500000->DX k p1->∃r,xR p0 p1 p2 p3 p4=some r/\DX (k+200) r.1:=by
 refine fun k p0 p1 p2 p3 p4 h0 h1 h2 h3=>BD (fun(p:Vy)=>match p with | .b0 a0 a1 _ _ _=>Ii a0/\DX k a1 | .b1 _ _ _ a3 a4 a5 _=>Ii a4/\DX (k+2*a3) a5/\0<=a3/\a3<=8 | .b2 _ _ _ a3 a4 a5 _=>Ii a4/\DX (k+2*a3) a5/\0<=a3/\a3<8/\a3<(a4.Qw.length:Int) | .b3 _ _ _ a3 a4 _=>Ii a3/\DX (k+16) a4 | .b4 _ _ _ a3 a4 a5 _=>Ii a4/\DX (k+2*a3+2) a5/\0<=a3/\a3<8 | .b5 _ _ _ a3 a4 a5 _ a7=>Ii a4/\Es a7/\(DX (k+2*a3) a5/\0<=a3/\a3<8/\(a7.Side=0\/a7.Side=1)) | .b6 _ _ _ a3 _ a5 a6 a7 _=>Ii a6/\DX (k+16+20*a5) a7/\0<=a5/\a5<=6/\a3<=6 | .b7 _ a1 _=>DX (k+150) a1 | .b8 _ _ _ a3 _ a5 a6 a7 _=>Ii a6/\DX (k+16+20*a5) a7/\0<=a5/\a5<6/\a5<a3/\a3<=6 | .b9 _ _ _ a3 _=>DX (k+150) a3 | .b10 _ _ _ a3 _ a5 a6 a7 a8 a9 _=>Ii a8/\(DX (k+16+20*a5) a9/\0<=a5/\a5<6/\a5<a3/\a3<=6/\(a6=0\/a6=1)/\a7.length<=300/\Cc a7) | .b11 _ a1 _=>DX (k+150) a1 | .b12 _ a1 _=>DX (k+150) a1 | .b13 _ _ _ a3 _ a5 _ a7 _ a9 a10 a11 _=>a7.length<=4/\Ii a10/\DX (k+16+20*a5+8+2*a9) a11/\0<=a5/\a5<6/\a5<a3/\a3<=6/\a7.length<=4/\0<=a9/\a9<=(a7.length:Int) | .b14 _ a1 a2 _=>DX (k+150+8*a1) a2/\0<=a1/\a1<=2 | .b15 _ _ _ a3 _ a5 _ a7 _ a9 a10 a11 _=>a7.length<=4/\Ii a10/\DX (k+16+20*a5+8+2*a9) a11/\0<=a5/\a5<6/\a5<a3/\a3<=6/\a7.length<=4/\0<=a9/\a9<(a7.length:Int) | .b16 _ _ _ a3 _ a5 _ a7 _ a9 a10 a11 _=>a7.length<=4/\Ii a10/\DX (k+16+20*a5+10+2*a9) a11/\0<=a5/\a5<6/\a5<a3/\a3<=6/\a7.length<=4/\0<=a9/\a9<(a7.length:Int) | .b17 _ _ _ a3 _ a5 a6 a7 _=>Ii a6/\DX (k+16+20*a5+20) a7/\0<=a5/\a5<6/\a3<=6) (fun(p:Vy)=>match p with | .b0 ..=>(5,0,0) | .b1 _ _ _ a3 _ _ _=>(4,(8 - a3).toNat,3) | .b2 _ _ _ a3 _ _ _=>(4,(8 - a3).toNat,2) | .b3 ..=>(3,0,0) | .b4 _ _ _ a3 _ _ _=>(4,(8 - a3).toNat,0) | .b5 _ _ _ a3 _ _ _ _=>(4,(8 - a3).toNat,1) | .b6 _ _ _ _ _ a5 _ _ _=>(2,(6 - a5).toNat,200) | .b8 _ _ _ _ _ a5 _ _ _=>(2,(6 - a5).toNat,199) | .b9 ..=>(1,1,0) | .b10 _ _ _ _ _ a5 _ _ _ _ _=>(2,(6 - a5).toNat,198) | .b13 _ _ _ _ _ a5 _ a7 _ a9 _ _ _=>(2,(6 - a5).toNat,(45+(10*((a7.length:Int) - a9))).toNat) | .b14 _ a1 _ _=>(0,(2 - a1).toNat,0) | .b15 _ _ _ _ _ a5 _ a7 _ a9 _ _ _=>(2,(6 - a5).toNat,(44+(10*((a7.length:Int) - a9))).toNat) | .b16 _ _ _ _ _ a5 _ a7 _ a9 _ _ _=>(2,(6 - a5).toNat,(43+(10*((a7.length:Int) - a9))).toNat) | .b17 _ _ _ _ _ a5 _ _ _=>(2,(6 - a5).toNat,1)|_=>(1,0,0)) ?_ _ ?_
 all_goals try (intro p hp;cases p)
 case' b5 a0 a1 a2 a3 a4 a5 a6 a7=>
  have c0:=ZdD (k+2*a3)
 case' b8 a0 a1 a2 a3 a4 a5 a6 a7 a8=>
  have c0:=ZbC (k+(16+20*a5))
 case' b10 a0 a1 a2 a3 a4 a5 a6 a7 a8 a9 a10=>
  have c0:=ZnR (k+(16+20*a5))
 case' b14 a0 a1 a2 a3=>
  have c0:=Zri (k+(150+8*a1))
 case' b15 a0 a1 a2 a3 a4 a5 a6 a7 a8 a9 a10 a11 a12=>
  have c0:=ZdD (k+(16+20*a5+8+2*a9))
 all_goals
  try dsimp only at hp
  try exact False.elim hp
  try have hx:=hp
  try dsimp only [BQ,DT,BJ,DX,CO,Ei,Es,EP] at hx
  try (repeat with_reducible (have hq:=And.left hp;replace hp:=And.right hp))
  try simp only [Z64]
  try dsimp only
  repeat' first|(refine ET ?_;dsimp only;try simp(disch:=omega) only [Bv,Bh,List.nil_append,List.drop_zero])|(refine Ec (fun h=>?_) (fun h=>?_)<;>(try simp only [Ff,reduceCtorEq] at h;try simp(disch:=omega) only [Bv] at h))|refine Dn ?_ ?_|refine Gm ?_|refine ZCo ?_ fun v hv=>?_|refine Aq (Z9U (k+16) _ ?_ ?_ ?_) fun(v:Bool) hm hv=>?_|refine Aq (c0 _ _ _ ?_ ?_ ?_ ?_) fun(v:(A8×Int)) hm hv=>?_|refine Aq (c0 _ ?_ ?_ ?_) fun(v:(A8×(List Int))) hm hv=>?_|refine Aq (c0 _ _ _ _ ?_ ?_ ?_ ?_ ?_) fun(v:(A8×(List Am)×Bool)) hm hv=>?_|refine Zdm ?_ fun v hv=>?_|refine Aq (c0 _ _ ?_ ?_ ?_) fun(v:(A8×(List Am))) hm hv=>?_|with_reducible apply And.intro|rfl|assumption|exact True.intro|omega|exact decide_eq_true (GK _).1|exact GH (by assumption) (by omega)|exact Gl (by assumption) (by omega)|(refine FW.2 ?_;first|omega|grind)|(apply Fz;first|omega|(simp only [Bh];omega))|(simp only [Dx,Bh,Cf,maxLen_eq,kL,kA]<;>omega)|(simp(disch:=omega) only [Bv,decide_eq_true_eq,bne_iff_ne,ne_eq];(repeat' split)<;>omega)|(simp [D6,Ez];done)|grind|(simp only [Dx,Bh,Cf,maxLen_eq,kL,kA]<;>grind)|grind [EG]
theorem Zkj:∀(p0:Il),EP p0->∃r,Zb p0=some r/\((r.2.2=true->BQ 20000 r.1)):=by
 refine fun p0 h0=>BD (fun(p:WZ)=>match p with | .b0 a0=>EP a0 | .b1 ..=>True | .b2 a0 _=>EP a0/\a0.Events.length<=60/\EG a0.Bl | .b3 a0 a1 _ a3=>EP a1/\((0<a0->BQ 0 a3.x0)/\(1<a0->BQ 0 a3.x1)/\0<=a0/\a0<=2/\a1.Events.length<=60/\EG a1.Bl) | .b4 _ a1 a2 _ a4=>EP a2/\DX (200*a1) a4/\0<=a1/\a1<=(a2.Events.length:Int)/\a2.Events.length<=60/\EG a2.Bl) (fun(p:WZ)=>match p with | .b0 ..=>(4,0,0) | .b1 ..=>(0,0,0) | .b2 ..=>(3,0,0) | .b3 a0 _ _ _=>(2,(2 - a0).toNat,0) | .b4 _ a1 a2 _ _=>(1,((a2.Events.length:Int) - a1).toNat,0)) ?_ _ ?_
 all_goals try (intro p hp;cases p)
 case' b4 a0 a1 a2 a3 a4=>
  have c0:=Zhh (200*a1)
 all_goals
  try dsimp only at hp
  try exact False.elim hp
  try have hx:=hp
  try dsimp only [BQ,DT,BJ,DX,CO,Ei,Es,EP] at hx
  try (repeat with_reducible (have hq:=And.left hp;replace hp:=And.right hp))
  try simp only [Z6K]
  try dsimp only
  repeat' first|(refine ET ?_;dsimp only;try simp(disch:=omega) only [Bv,Bh,List.nil_append,List.drop_zero])|(refine Ec (fun h=>?_) (fun h=>?_)<;>(try simp only [Ff,reduceCtorEq] at h;try simp(disch:=omega) only [Bv] at h))|refine Dn ?_ ?_|refine Gm ?_|refine Aq (Zyn _ _ _ _ _ _ ?_ ?_ ?_) fun(v:(A8×Int)) hm hv=>?_|refine Aq (c0 _ _ _ _ _ ?_ ?_ ?_ ?_) fun(v:(CS×Int)) hm hv=>?_|refine ZB1 ?_ fun v hv=>?_|with_reducible apply And.intro|rfl|assumption|exact True.intro|omega|exact decide_eq_true (GK _).1|exact GH (by assumption) (by omega)|exact Gl (by assumption) (by omega)|(refine FW.2 ?_;first|omega|grind)|(apply Fz;first|omega|(simp only [Bh];omega))|(simp only [Dx,Bh,Cf,maxLen_eq,kL,kA]<;>omega)|(simp(disch:=omega) only [Bv,decide_eq_true_eq,bne_iff_ne,ne_eq];(repeat' split)<;>omega)|(simp [D6,Ez];done)|grind|(simp only [Dx,Bh,Cf,maxLen_eq,kL,kA]<;>grind)|grind [EG]
theorem Zzz (m:Nat) (hm:m<=100) (v:Int) (h:Et v):∀(d j:Nat),j+d=m->AV Ue (.b1 (v / 256 ^ j) m (num j v) j)=some ⟨num m v⟩:=by
 intro d
 induction d with
 | zero=>
  intro j hj
  obtain rfl:j=m:=by omega
  refine(AZ _ _).trans ?_
  simp(disch:=omega) only [Ue,Int.lt_irrefl,DN,SL,SM]
 | succ d ih=>
  intro j hj
  have p:(0:Int)<256 ^ j:=by exact_mod_cast Nat.pow_pos (by decide)
  have q:0<=v / 256 ^ j:=Int.ediv_nonneg h.1 (Int.le_of_lt p)
  have q' : v / 256 ^ j<18446744073709551616:=Int.lt_of_le_of_lt (Int.ediv_le_self _ h.1) h.2
  have hjm:j<m:=by omega
  have hl:=Eo j v
  rw [<- ih (j+1) (by omega),Z3d]
  refine(AZ _ _).trans ?_
  simp(disch:=omega) only [Ue,hjm,hl,Int.tmod_eq_emod_of_nonneg q,Int.tdiv_eq_ediv_of_nonneg q,DN,SL,SM]
  rw [Pn (by omega) (by omega),wu64 (by omega) (by omega),Int.ediv_ediv_of_nonneg (by omega),Int.pow_succ]
theorem Ur (m:Nat) (hm:m<=100) (v:Int) (h:Et v):Gz v m=some ⟨num m v⟩:=(AZ _ _).trans (by
 simp only [Ue,DN,SL,SM]
 have:=Zzz m hm v h m 0 (by omega)
 simpa [num] using this)
theorem putW (m:Nat) (hm:m<=100) (v:Int):Gz (IntKind.wrap .u64 v) m=some ⟨num m (IntKind.wrap .u64 v)⟩:=Ur m hm _ (vX v)
def updB (u:DL):List Int:=num 1 (IntKind.wrap .u64 u.EK)++num 2 (IntKind.wrap .u64 u.EJ)++num 2 (IntKind.wrap .u64 u.Df)++num 2 (IntKind.wrap .u64 u.Dh)++num 2 (IntKind.wrap .u64 u.EO)
theorem Z39 (u:DL):(updB u).length=9:=by simp [updB,Eo]
theorem Zs7 (u:DL):kQ u=some (updB u):=(AZ _ _).trans (by
 have h1:∀v,Gz (IntKind.wrap .u64 v) 1=some ⟨num 1 (IntKind.wrap .u64 v)⟩:=fun v=>putW 1 (by decide) v
 have h2:∀v,Gz (IntKind.wrap .u64 v) 2=some ⟨num 2 (IntKind.wrap .u64 v)⟩:=fun v=>putW 2 (by decide) v
 simp(disch:=omega) only [Zg,h1,h2,Eo,DN,SL,SM]
 rfl)
def Au (c:AL) (u:Be):List Int:=[IntKind.wrap .u8 c.Kind]++((bif u.BH then updB c.BH else [])++((bif u.Map then num 5 c.Map else [])++((bif u.DD then num 2 (IntKind.wrap .u64 c.DD) else [])++((bif u.Bc then [IntKind.wrap .u8 c.Bc] else [])++((bif u.DI then [IntKind.wrap .u8 c.DI] else [])++
 ((bif u.Bo then num 8 c.Bo else [])++((bif u.Mark then num 8 c.Mark else [])++((bif u.CQ then num 8 c.CQ else [])++((bif u.Version then [IntKind.wrap .u8 c.Version] else [])++(bif u.Length then [IntKind.wrap .u8 c.Length] else []))))))))))
theorem Zoh (c:AL) (u:Be) (hf:EN c.Kind=some u) (hk:Og c=some 0) (hm:Et c.Map) (hs:Et c.Bo) (ha:Et c.Mark) (he:Et c.CQ):QE c=some (Au c u,0):=by
 have p5:Gz c.Map 5=_:=Ur 5 (by decide) _ hm
 have p2:Gz (IntKind.wrap .u64 c.DD) 2=_:=Ur 2 (by decide) _ (vX _)
 have ps:Gz c.Bo 8=_:=Ur 8 (by decide) _ hs
 have pa:Gz c.Mark 8=_:=Ur 8 (by decide) _ ha
 have pf:Gz c.CQ 8=_:=Ur 8 (by decide) _ he
 have e9:∀a:List Int,a.length<=90->AV Gx (.b9 a c u)=some (a++(bif u.Length then [IntKind.wrap .u8 c.Length] else []),0):=fun a h=>(AZ _ _).trans (by
  cases hu:u.Length<;>simp(disch:=omega) only [Gx,hu,List.append_nil,DN,SL,SM])
 have e8:∀a:List Int,a.length<=85->AV Gx (.b8 a c u)=some (a++((bif u.Version then [IntKind.wrap .u8 c.Version] else [])++(bif u.Length then [IntKind.wrap .u8 c.Length] else [])),0):=fun a h=>(AZ _ _).trans (by
  cases hu:u.Version<;>simp(disch:=omega) only [Gx,hu,DN,SL,SM]<;>rw [e9 _ (by first|omega|(simp;omega))]<;>(try simp only [List.append_assoc,List.nil_append]))
 have e7:∀a:List Int,a.length<=75->AV Gx (.b7 a c u)=some (a++((bif u.CQ then num 8 c.CQ else [])++((bif u.Version then [IntKind.wrap .u8 c.Version] else [])++(bif u.Length then [IntKind.wrap .u8 c.Length] else []))),0):=fun a h=>(AZ _ _).trans (by
  cases hu:u.CQ<;>simp(disch:=omega) only [Gx,hu,pf,Eo,DN,SL,SM]<;>rw [e8 _ (by first|omega|(simp [Eo];omega))]<;>(try simp only [List.append_assoc,List.nil_append]))
 have e6:∀a:List Int,a.length<=65->AV Gx (.b6 a c u)=some (a++((bif u.Mark then num 8 c.Mark else [])++((bif u.CQ then num 8 c.CQ else [])++((bif u.Version then [IntKind.wrap .u8 c.Version] else [])++(bif u.Length then [IntKind.wrap .u8 c.Length] else [])))),0):=fun a h=>(AZ _ _).trans (by
  cases hu:u.Mark<;>simp(disch:=omega) only [Gx,hu,pa,Eo,DN,SL,SM]<;>rw [e7 _ (by first|omega|(simp [Eo];omega))]<;>(try simp only [List.append_assoc,List.nil_append]))
 have e5:∀a:List Int,a.length<=55->AV Gx (.b5 a c u)=some (a++((bif u.Bo then num 8 c.Bo else [])++((bif u.Mark then num 8 c.Mark else [])++((bif u.CQ then num 8 c.CQ else [])++((bif u.Version then [IntKind.wrap .u8 c.Version] else [])++(bif u.Length then [IntKind.wrap .u8 c.Length] else []))))),0):=fun a h=>(AZ _ _).trans (by
  cases hu:u.Bo<;>simp(disch:=omega) only [Gx,hu,ps,Eo,DN,SL,SM]<;>rw [e6 _ (by first|omega|(simp [Eo];omega))]<;>(try simp only [List.append_assoc,List.nil_append]))
 have e4:∀a:List Int,a.length<=50->AV Gx (.b4 a c u)=some (a++((bif u.DI then [IntKind.wrap .u8 c.DI] else [])++((bif u.Bo then num 8 c.Bo else [])++((bif u.Mark then num 8 c.Mark else [])++((bif u.CQ then num 8 c.CQ else [])++((bif u.Version then [IntKind.wrap .u8 c.Version] else [])++(bif u.Length then [IntKind.wrap .u8 c.Length] else [])))))),0):=fun a h=>(AZ _ _).trans (by
  cases hu:u.DI<;>simp(disch:=omega) only [Gx,hu,DN,SL,SM]<;>rw [e5 _ (by first|omega|(simp;omega))]<;>(try simp only [List.append_assoc,List.nil_append]))
 have e3:∀a:List Int,a.length<=45->AV Gx (.b3 a c u)=some (a++((bif u.Bc then [IntKind.wrap .u8 c.Bc] else [])++((bif u.DI then [IntKind.wrap .u8 c.DI] else [])++((bif u.Bo then num 8 c.Bo else [])++((bif u.Mark then num 8 c.Mark else [])++((bif u.CQ then num 8 c.CQ else [])++((bif u.Version then [IntKind.wrap .u8 c.Version] else [])++(bif u.Length then [IntKind.wrap .u8 c.Length] else []))))))),0):=fun a h=>(AZ _ _).trans (by
  cases hu:u.Bc<;>simp(disch:=omega) only [Gx,hu,DN,SL,SM]<;>rw [e4 _ (by first|omega|(simp;omega))]<;>(try simp only [List.append_assoc,List.nil_append]))
 have e2:∀a:List Int,a.length<=40->AV Gx (.b2 a c u)=some (a++((bif u.DD then num 2 (IntKind.wrap .u64 c.DD) else [])++((bif u.Bc then [IntKind.wrap .u8 c.Bc] else [])++((bif u.DI then [IntKind.wrap .u8 c.DI] else [])++((bif u.Bo then num 8 c.Bo else [])++((bif u.Mark then num 8 c.Mark else [])++((bif u.CQ then num 8 c.CQ else [])++((bif u.Version then [IntKind.wrap .u8 c.Version] else [])++(bif u.Length then [IntKind.wrap .u8 c.Length] else [])))))))),0):=fun a h=>(AZ _ _).trans (by
  cases hu:u.DD<;>simp(disch:=omega) only [Gx,hu,p2,Eo,DN,SL,SM]<;>rw [e3 _ (by first|omega|(simp [Eo];omega))]<;>(try simp only [List.append_assoc,List.nil_append]))
 have e1:∀a:List Int,a.length<=30->AV Gx (.b1 a c u)=some (a++((bif u.Map then num 5 c.Map else [])++((bif u.DD then num 2 (IntKind.wrap .u64 c.DD) else [])++((bif u.Bc then [IntKind.wrap .u8 c.Bc] else [])++((bif u.DI then [IntKind.wrap .u8 c.DI] else [])++((bif u.Bo then num 8 c.Bo else [])++((bif u.Mark then num 8 c.Mark else [])++((bif u.CQ then num 8 c.CQ else [])++((bif u.Version then [IntKind.wrap .u8 c.Version] else [])++(bif u.Length then [IntKind.wrap .u8 c.Length] else []))))))))),0):=fun a h=>(AZ _ _).trans (by
  cases hu:u.Map<;>simp(disch:=omega) only [Gx,hu,p5,Eo,DN,SL,SM]<;>rw [e2 _ (by first|omega|(simp [Eo];omega))]<;>(try simp only [List.append_assoc,List.nil_append]))
 refine(AZ _ _).trans ?_
 unfold Au
 have hb:((0:Int) != 0)=false:=rfl
 cases hu:u.BH<;>simp(disch:=omega) only [Gx,hk,hf,hb,hu,Zs7,Z39,DN,SL,SM]<;>rw [e1 _ (by simp [Z39])]<;>(try simp only [List.append_assoc,List.nil_append])
theorem enc1 (vs szs:List Int) (hl:szs.length=vs.length) (h20:vs.length<=20):∀(d i:Nat) (fs:List Bd),i+d=vs.length->fs.length+d<=100->AV GX (.b1 fs vs (vs.length:Nat) i ⟨szs⟩)=(QF (fs++List.zipWith (fun s v=>(⟨s,v⟩:Bd)) (szs.drop i) (vs.drop i))).bind fun x=>some (x.1,x.2):=by
 intro d
 induction d with
 | zero=>
  intro i fs hi hf
  obtain rfl:i=vs.length:=by omega
  refine(AZ _ _).trans ?_
  simp(disch:=omega) only [GX,Int.lt_irrefl,List.drop_length,List.zipWith_nil_right,List.append_nil,DN,SL,SM]
  rfl
 | succ d ih=>
  intro i fs hi hf
  have h1:i<vs.length:=by omega
  have h2:i<szs.length:=by omega
  refine(AZ _ _).trans ?_
  simp(disch:=omega) only [GX,h1,h2,DN,SL,SM]
  rw [ih (i+1) _ (by omega) (by simp;omega),List.drop_eq_getElem_cons h1,List.drop_eq_getElem_cons h2,List.zipWith_cons_cons,List.append_assoc]
  rfl
theorem enc0 (vs szs:List Int) (fs:List Bd) (hl:szs.length=vs.length) (h20:vs.length<=20) (hf:fs.length<=50):AV GX (.b1 fs vs (vs.length:Nat) 0 ⟨szs⟩)=(QF (fs++List.zipWith (fun s v=>(⟨s,v⟩:Bd)) szs vs)).bind fun x=>some (x.1,x.2):=enc1 vs szs hl h20 vs.length 0 fs (by omega) (by omega)
theorem n1 (r:Int):num 1 (IntKind.wrap .u64 r)=[IntKind.wrap .u8 r]:=by
 simp only [num,IntKind.wrap_u64,IntKind.wrap_u8]
 congr 1
 omega
def fit (f:Bd):Prop:=1<=f.Size/\f.Size<=8/\0<=f.Value/\f.Value<256 ^ f.Size.toNat
theorem vN (n:Int) (v:Int) (h1:1<=n) (h2:n<=8) (h3:0<=v) (h4:v<256 ^ n.toNat):fit ⟨n,v⟩:=⟨h1,h2,h3,h4⟩
theorem O7 {v:Int} (h:R8 v):fit ⟨1,IntKind.wrap .u64 v⟩:=by obtain⟨h1,h2⟩:=h;rw [wu64 h1 (by omega)];exact vN 1 v (by decide) (by decide) h1 h2
theorem Ob {v:Int} (h:R16 v):fit ⟨2,IntKind.wrap .u64 v⟩:=by obtain⟨h1,h2⟩:=h;rw [wu64 h1 (by omega)];exact vN 2 v (by decide) (by decide) h1 h2
theorem gW {v:Int} (h:CB v):fit ⟨8,v⟩:=vN 8 v (by decide) (by decide) h.1 h.2
theorem fit5 {v:Int} (h:0<=v) (h' : v<137438953472):fit ⟨5,v⟩:=vN 5 v (by decide) (by decide) h (Int.lt_of_lt_of_le h' (by decide))
theorem DF (c:AL) (vs szs:List Int) (hk:R8 c.Kind) (hl:szs.length=vs.length) (h20:vs.length<=6) (hf:∀f∈List.zipWith (fun s v=>(⟨s,v⟩:Bd)) szs vs,fit f) :
  AV GX (.b1 [(⟨1,IntKind.wrap .u64 c.Kind⟩:Bd)] vs (vs.length:Nat) 0 ⟨szs⟩)=some ([IntKind.wrap .u8 c.Kind]++(List.zipWith (fun s v=>(⟨s,v⟩:Bd)) szs vs).flatMap Hr,0):=by
 have hlz:(List.zipWith (fun s v=>(⟨s,v⟩:Bd)) szs vs).length<=6:=by rw [List.length_zipWith];omega
 have hb:∀l:List Bd,(∀f∈l,fit f)->(l.flatMap Hr).length<=8*l.length:=by
  intro l
  induction l with
  | nil=>intro _;simp
  | cons x l ih=>
   intro h
   have:=ih fun f hf=>h f (List.mem_cons_of_mem _ hf)
   have h8:=(h x List.mem_cons_self).2.1
   rw [List.flatMap_cons,List.length_append,List.length_cons,Hr,Eo]
   omega
 rw [enc0 vs szs _ hl (by omega) (by simp),List.singleton_append]
 have hb' :=hb _ hf
 rw [Z4m _ (by
   intro f h
   rcases List.mem_cons.1 h with rfl|h
   ·exact O7 hk
   ·exact hf f h) (by rw [List.flatMap_cons,List.length_append,Hr,Eo];simp only [show Int.toNat 1=1 from rfl];omega) (by rw [List.length_cons];omega)]
 rw [List.flatMap_cons,Option.bind_some,show Hr ⟨1,IntKind.wrap .u64 c.Kind⟩=_ from n1 c.Kind]
theorem ZCi (c:AL) (u:Be):1<=(Au c u).length/\(Au c u).length<=60/\Bytes (Au c u):=by
 have hl:∀(b:Bool) (l:List Int) (n:Nat),l.length<=n->(bif b then l else []).length<=n:=fun b l n h=>by cases b<;>simp_all
 have hb:∀(b:Bool) (l:List Int),Bytes l->Bytes (bif b then l else []):=fun b l h=>by cases b<;>first|exact h|exact Bytes.nil
 have one:∀x,Bytes [IntKind.wrap .u8 x]:=fun x=>Bytes.cons (r8 _) Bytes.nil
 have hu:=hl u.BH (updB c.BH) 9 (by rw [Z39];omega)
 have hm:=hl u.Map (num 5 c.Map) 5 (by rw [Eo];omega)
 have hi:=hl u.DD (num 2 (IntKind.wrap .u64 c.DD)) 2 (by rw [Eo];omega)
 have hr:=hl u.Bc [IntKind.wrap .u8 c.Bc] 1 (by simp)
 have hj:=hl u.DI [IntKind.wrap .u8 c.DI] 1 (by simp)
 have hs:=hl u.Bo (num 8 c.Bo) 8 (by rw [Eo];omega)
 have hk:=hl u.Mark (num 8 c.Mark) 8 (by rw [Eo];omega)
 have hf:=hl u.CQ (num 8 c.CQ) 8 (by rw [Eo];omega)
 have hv:=hl u.Version [IntKind.wrap .u8 c.Version] 1 (by simp)
 have hn:=hl u.Length [IntKind.wrap .u8 c.Length] 1 (by simp)
 unfold Au
 refine⟨by simp,?_,?_⟩
 ·simp only [List.length_append,List.length_cons,List.length_nil]
  omega
 ·exact Bytes.app (one _) (Bytes.app (hb _ _ (((((Jb _ _).app (Jb _ _)).app (Jb _ _)).app (Jb _ _)).app (Jb _ _))) (Bytes.app (hb _ _ (Jb _ _)) (Bytes.app (hb _ _ (Jb _ _)) (Bytes.app (hb _ _ (one _)) (Bytes.app (hb _ _ (one _)) (Bytes.app (hb _ _ (Jb _ _)) (Bytes.app (hb _ _ (Jb _ _)) (Bytes.app (hb _ _ (Jb _ _)) (Bytes.app (hb _ _ (one _)) (hb _ _ (one _)))))))))))
theorem ZFw (c:AL) (u:Be) (h:CV c) (hf:EN c.Kind=some u) (hm:Et c.Map) (hs:Et c.Bo) (ha:Et c.Mark) (he:Et c.CQ) (hp:GY c=some (Au c u,0)) :
  ∃x,GY c=some (x,0)/\QE c=some (x,0)/\1<=x.length/\x.length<=60/\Bytes x:=
 ⟨_,hp,Zoh c u hf (ZrC h) hm hs ha he,ZCi c u⟩
theorem ZEw (u:DL) (i:Int) (h1:IW u=0) (h2:R16 i):GY ⟨0,u,0,i,0,0,0,0,0,0,0⟩=some (Au ⟨0,u,0,i,0,0,0,0,0,0,0⟩ ⟨true,true,false,true,false,false,false,false,false,false,false⟩,0):=by
 have hb:=uP h1
 have hf:Gw=some ():=rfl
 refine(AZ _ _).trans ?_
 simp only [GX,DN,hf,I7 (CV.upd u i h1 h2),Option.bind_some,KE,Int.reduceBEq,bne_self_eq_false,cond_true,cond_false]
 refine Eq.trans (DF ⟨0,u,0,i,0,0,0,0,0,0,0⟩ [IntKind.wrap .u64 u.EK,IntKind.wrap .u64 u.EJ,IntKind.wrap .u64 u.Df,IntKind.wrap .u64 u.Dh,IntKind.wrap .u64 u.EO,IntKind.wrap .u64 i] [1,2,2,2,2,2] (show R8 0 from⟨by decide,by decide⟩) rfl (show 6<=6 by decide) ?_) ?_
 ·simp only [List.zipWith_cons_cons,List.zipWith_nil_left,List.forall_mem_cons,List.not_mem_nil,false_implies,implies_true,and_true]
  exact⟨O7 ⟨by omega,by omega⟩,Ob ⟨by omega,by omega⟩,Ob ⟨by omega,by omega⟩,Ob ⟨by omega,by omega⟩,Ob ⟨by omega,by omega⟩,Ob h2⟩
 ·simp only [Au,updB,n1]
  simp only [List.zipWith_cons_cons,List.zipWith_nil_left,List.flatMap_cons,List.flatMap_nil,Hr,show Int.toNat 1=1 from rfl,n1]
  rfl
theorem ZEz (m i:Int) (h1:CB m) (h2:Ia m=0) (h3:R16 i):GY ⟨1,BP,m,i,0,0,0,0,0,0,0⟩=some (Au ⟨1,BP,m,i,0,0,0,0,0,0,0⟩ ⟨true,false,true,true,false,false,false,false,false,false,false⟩,0):=by
 have hf:Gw=some ():=rfl
 refine(AZ _ _).trans ?_
 simp only [GX,DN,hf,I7 (CV.map m i h1 h2 h3),Option.bind_some,KH,Int.reduceBEq,bne_self_eq_false,cond_true,cond_false]
 refine Eq.trans (DF ⟨1,BP,m,i,0,0,0,0,0,0,0⟩ [m,IntKind.wrap .u64 i] [5,2] (show R8 1 from⟨by decide,by decide⟩) rfl (show 2<=6 by decide) ?_) ?_
 ·simp only [List.zipWith_cons_cons,List.zipWith_nil_left,List.forall_mem_cons,List.not_mem_nil,false_implies,implies_true,and_true]
  exact⟨fit5 h1.1 (ZEp h2),Ob h3⟩
 ·simp only [Au,updB,n1]
  rfl
theorem ZBS (r:Int) (h1:R8 r):GY ⟨2,BP,0,0,r,0,0,0,0,0,0⟩=some (Au ⟨2,BP,0,0,r,0,0,0,0,0,0⟩ ⟨true,false,false,false,true,false,false,false,false,false,false⟩,0):=by
 have hf:Gw=some ():=rfl
 refine(AZ _ _).trans ?_
 simp only [GX,DN,hf,I7 (CV.term r h1),Option.bind_some,Jv,Int.reduceBEq,bne_self_eq_false,cond_true,cond_false]
 refine Eq.trans (DF ⟨2,BP,0,0,r,0,0,0,0,0,0⟩ [IntKind.wrap .u64 r] [1] (show R8 2 from⟨by decide,by decide⟩) rfl (show 1<=6 by decide) ?_) ?_
 ·simp only [List.zipWith_cons_cons,List.zipWith_nil_left,List.forall_mem_cons,List.not_mem_nil,false_implies,implies_true,and_true]
  exact O7 h1
 ·simp only [Au,updB,n1]
  simp only [List.zipWith_cons_cons,List.zipWith_nil_left,List.flatMap_cons,List.flatMap_nil,Hr,show Int.toNat 1=1 from rfl,n1]
  rfl
theorem ZFS (s m:Int) (h1:CB s) (h2:CB m):GY ⟨3,BP,0,0,0,0,s,m,0,0,0⟩=some (Au ⟨3,BP,0,0,0,0,s,m,0,0,0⟩ ⟨true,false,false,false,false,false,true,true,false,false,false⟩,0):=by
 have hf:Gw=some ():=rfl
 refine(AZ _ _).trans ?_
 simp only [GX,DN,hf,I7 (CV.enc s m h1 h2),Option.bind_some,Jy,Int.reduceBEq,bne_self_eq_false,cond_true,cond_false]
 refine Eq.trans (DF ⟨3,BP,0,0,0,0,s,m,0,0,0⟩ [s,m] [8,8] (show R8 3 from⟨by decide,by decide⟩) rfl (show 2<=6 by decide) ?_) ?_
 ·simp only [List.zipWith_cons_cons,List.zipWith_nil_left,List.forall_mem_cons,List.not_mem_nil,false_implies,implies_true,and_true]
  exact⟨gW h1,gW h2⟩
 ·simp only [Au,updB,n1]
  rfl
theorem ZEy (s:Int) (h1:CB s):GY ⟨4,BP,0,0,0,0,s,0,0,0,0⟩=some (Au ⟨4,BP,0,0,0,0,s,0,0,0,0⟩ ⟨true,false,false,false,false,false,true,false,false,false,false⟩,0):=by
 have hf:Gw=some ():=rfl
 refine(AZ _ _).trans ?_
 simp only [GX,DN,hf,I7 (CV.ans s h1),Option.bind_some,Jz,Int.reduceBEq,bne_self_eq_false,cond_true,cond_false]
 refine Eq.trans (DF ⟨4,BP,0,0,0,0,s,0,0,0,0⟩ [s] [8] (show R8 4 from⟨by decide,by decide⟩) rfl (show 1<=6 by decide) ?_) ?_
 ·simp only [List.zipWith_cons_cons,List.zipWith_nil_left,List.forall_mem_cons,List.not_mem_nil,false_implies,implies_true,and_true]
  exact gW h1
 ·simp only [Au,updB,n1]
  rfl
theorem Zy6  : GY ⟨5,BP,0,0,0,0,0,0,0,0,0⟩=some (Au ⟨5,BP,0,0,0,0,0,0,0,0,0⟩ ⟨true,false,false,false,false,false,false,false,false,false,false⟩,0):=by
 have hf:Gw=some ():=rfl
 refine(AZ _ _).trans ?_
 simp only [GX,DN,hf,I7 (CV.plain 5 (by decide)),Option.bind_some,Iq,Int.reduceBEq,bne_self_eq_false,cond_true,cond_false]
 refine Eq.trans (DF ⟨5,BP,0,0,0,0,0,0,0,0,0⟩ [] [] (show R8 5 from⟨by decide,by decide⟩) rfl (show 0<=6 by decide) ?_) ?_
 ·exact fun f h=>nomatch h
 ·simp only [Au,updB,n1]
  rfl
theorem Zz2  : GY ⟨6,BP,0,0,0,0,0,0,0,0,0⟩=some (Au ⟨6,BP,0,0,0,0,0,0,0,0,0⟩ ⟨true,false,false,false,false,false,false,false,false,false,false⟩,0):=by
 have hf:Gw=some ():=rfl
 refine(AZ _ _).trans ?_
 simp only [GX,DN,hf,I7 (CV.plain 6 (by decide)),Option.bind_some,Iq,Int.reduceBEq,bne_self_eq_false,cond_true,cond_false]
 refine Eq.trans (DF ⟨6,BP,0,0,0,0,0,0,0,0,0⟩ [] [] (show R8 6 from⟨by decide,by decide⟩) rfl (show 0<=6 by decide) ?_) ?_
 ·exact fun f h=>nomatch h
 ·simp only [Au,updB,n1]
  rfl
theorem Zv1  : GY ⟨18,BP,0,0,0,0,0,0,0,0,0⟩=some (Au ⟨18,BP,0,0,0,0,0,0,0,0,0⟩ ⟨true,false,false,false,false,false,false,false,false,false,false⟩,0):=by
 have hf:Gw=some ():=rfl
 refine(AZ _ _).trans ?_
 simp only [GX,DN,hf,I7 (CV.plain 18 (by decide)),Option.bind_some,Iq,Int.reduceBEq,bne_self_eq_false,cond_true,cond_false]
 refine Eq.trans (DF ⟨18,BP,0,0,0,0,0,0,0,0,0⟩ [] [] (show R8 18 from⟨by decide,by decide⟩) rfl (show 0<=6 by decide) ?_) ?_
 ·exact fun f h=>nomatch h
 ·simp only [Au,updB,n1]
  rfl
theorem Zvu  : GY ⟨19,BP,0,0,0,0,0,0,0,0,0⟩=some (Au ⟨19,BP,0,0,0,0,0,0,0,0,0⟩ ⟨true,false,false,false,false,false,false,false,false,false,false⟩,0):=by
 have hf:Gw=some ():=rfl
 refine(AZ _ _).trans ?_
 simp only [GX,DN,hf,I7 (CV.plain 19 (by decide)),Option.bind_some,Iq,Int.reduceBEq,bne_self_eq_false,cond_true,cond_false]
 refine Eq.trans (DF ⟨19,BP,0,0,0,0,0,0,0,0,0⟩ [] [] (show R8 19 from⟨by decide,by decide⟩) rfl (show 0<=6 by decide) ?_) ?_
 ·exact fun f h=>nomatch h
 ·simp only [Au,updB,n1]
  rfl
theorem ZEH (r:Int) (h1:R8 r):GY ⟨7,BP,0,0,0,r,0,0,0,0,0⟩=some (Au ⟨7,BP,0,0,0,r,0,0,0,0,0⟩ ⟨true,false,false,false,false,true,false,false,false,false,false⟩,0):=by
 have hf:Gw=some ():=rfl
 refine(AZ _ _).trans ?_
 simp only [GX,DN,hf,I7 (CV.Vh r h1),Option.bind_some,KA,Int.reduceBEq,bne_self_eq_false,cond_true,cond_false]
 refine Eq.trans (DF ⟨7,BP,0,0,0,r,0,0,0,0,0⟩ [IntKind.wrap .u64 r] [1] (show R8 7 from⟨by decide,by decide⟩) rfl (show 1<=6 by decide) ?_) ?_
 ·simp only [List.zipWith_cons_cons,List.zipWith_nil_left,List.forall_mem_cons,List.not_mem_nil,false_implies,implies_true,and_true]
  exact O7 h1
 ·simp only [Au,updB,n1]
  simp only [List.zipWith_cons_cons,List.zipWith_nil_left,List.flatMap_cons,List.flatMap_nil,Hr,show Int.toNat 1=1 from rfl,n1]
  rfl
theorem ZB6 (f:Int) (h2:CB f):GY ⟨8,BP,0,0,0,0,0,0,f,0,0⟩=some (Au ⟨8,BP,0,0,0,0,0,0,f,0,0⟩ ⟨true,false,false,false,false,false,false,false,true,false,false⟩,0):=by
 have hf:Gw=some ():=rfl
 refine(AZ _ _).trans ?_
 simp only [GX,DN,hf,I7 (CV.gX 8 f (by decide) h2),Option.bind_some,J9,Int.reduceBEq,bne_self_eq_false,cond_true,cond_false]
 refine Eq.trans (DF ⟨8,BP,0,0,0,0,0,0,f,0,0⟩ [f] [8] (show R8 8 from⟨by decide,by decide⟩) rfl (show 1<=6 by decide) ?_) ?_
 ·simp only [List.zipWith_cons_cons,List.zipWith_nil_left,List.forall_mem_cons,List.not_mem_nil,false_implies,implies_true,and_true]
  exact gW h2
 ·simp only [Au,updB,n1]
  rfl
theorem ZAQ (f:Int) (h2:CB f):GY ⟨9,BP,0,0,0,0,0,0,f,0,0⟩=some (Au ⟨9,BP,0,0,0,0,0,0,f,0,0⟩ ⟨true,false,false,false,false,false,false,false,true,false,false⟩,0):=by
 have hf:Gw=some ():=rfl
 refine(AZ _ _).trans ?_
 simp only [GX,DN,hf,I7 (CV.gX 9 f (by decide) h2),Option.bind_some,J9,Int.reduceBEq,bne_self_eq_false,cond_true,cond_false]
 refine Eq.trans (DF ⟨9,BP,0,0,0,0,0,0,f,0,0⟩ [f] [8] (show R8 9 from⟨by decide,by decide⟩) rfl (show 1<=6 by decide) ?_) ?_
 ·simp only [List.zipWith_cons_cons,List.zipWith_nil_left,List.forall_mem_cons,List.not_mem_nil,false_implies,implies_true,and_true]
  exact gW h2
 ·simp only [Au,updB,n1]
  rfl
theorem ZEW (v:Int) (h1:R8 v):GY ⟨12,BP,0,0,0,0,0,0,0,v,0⟩=some (Au ⟨12,BP,0,0,0,0,0,0,0,v,0⟩ ⟨true,false,false,false,false,false,false,false,false,true,false⟩,0):=by
 have hf:Gw=some ():=rfl
 refine(AZ _ _).trans ?_
 simp only [GX,DN,hf,I7 (CV.iL v h1),Option.bind_some,Ju,Int.reduceBEq,bne_self_eq_false,cond_true,cond_false]
 refine Eq.trans (DF ⟨12,BP,0,0,0,0,0,0,0,v,0⟩ [IntKind.wrap .u64 v] [1] (show R8 12 from⟨by decide,by decide⟩) rfl (show 1<=6 by decide) ?_) ?_
 ·simp only [List.zipWith_cons_cons,List.zipWith_nil_left,List.forall_mem_cons,List.not_mem_nil,false_implies,implies_true,and_true]
  exact O7 h1
 ·simp only [Au,updB,n1]
  simp only [List.zipWith_cons_cons,List.zipWith_nil_left,List.flatMap_cons,List.flatMap_nil,Hr,show Int.toNat 1=1 from rfl,n1]
  rfl
theorem ZFA (r k:Int) (h1:R8 r) (h2:R8 k):GY ⟨13,BP,0,0,r,k,0,0,0,0,0⟩=some (Au ⟨13,BP,0,0,r,k,0,0,0,0,0⟩ ⟨true,false,false,false,true,true,false,false,false,false,false⟩,0):=by
 have hf:Gw=some ():=rfl
 refine(AZ _ _).trans ?_
 simp only [GX,DN,hf,I7 (CV.Vk r k h1 h2),Option.bind_some,KC,Int.reduceBEq,bne_self_eq_false,cond_true,cond_false]
 refine Eq.trans (DF ⟨13,BP,0,0,r,k,0,0,0,0,0⟩ [IntKind.wrap .u64 r,IntKind.wrap .u64 k] [1,1] (show R8 13 from⟨by decide,by decide⟩) rfl (show 2<=6 by decide) ?_) ?_
 ·simp only [List.zipWith_cons_cons,List.zipWith_nil_left,List.forall_mem_cons,List.not_mem_nil,false_implies,implies_true,and_true]
  exact⟨O7 h1,O7 h2⟩
 ·simp only [Au,updB,n1]
  simp only [List.zipWith_cons_cons,List.zipWith_nil_left,List.flatMap_cons,List.flatMap_nil,Hr,show Int.toNat 1=1 from rfl,n1]
  rfl
theorem ZEN (u:DL) (h1:IW u=0):GY ⟨15,u,0,0,0,0,0,0,0,0,0⟩=some (Au ⟨15,u,0,0,0,0,0,0,0,0,0⟩ ⟨true,true,false,false,false,false,false,false,false,false,false⟩,0):=by
 have hb:=uP h1
 have hf:Gw=some ():=rfl
 refine(AZ _ _).trans ?_
 simp only [GX,DN,hf,I7 (CV.par u h1),Option.bind_some,KF,Int.reduceBEq,bne_self_eq_false,cond_true,cond_false]
 refine Eq.trans (DF ⟨15,u,0,0,0,0,0,0,0,0,0⟩ [IntKind.wrap .u64 u.EK,IntKind.wrap .u64 u.EJ,IntKind.wrap .u64 u.Df,IntKind.wrap .u64 u.Dh,IntKind.wrap .u64 u.EO] [1,2,2,2,2] (show R8 15 from⟨by decide,by decide⟩) rfl (show 5<=6 by decide) ?_) ?_
 ·simp only [List.zipWith_cons_cons,List.zipWith_nil_left,List.forall_mem_cons,List.not_mem_nil,false_implies,implies_true,and_true]
  exact⟨O7 ⟨by omega,by omega⟩,Ob ⟨by omega,by omega⟩,Ob ⟨by omega,by omega⟩,Ob ⟨by omega,by omega⟩,Ob ⟨by omega,by omega⟩⟩
 ·simp only [Au,updB,n1]
  simp only [List.zipWith_cons_cons,List.zipWith_nil_left,List.flatMap_cons,List.flatMap_nil,Hr,show Int.toNat 1=1 from rfl,n1]
  rfl
theorem ZB9 (n:Int) (h2:27<=n) (h3:n<=251):GY ⟨20,BP,0,0,0,0,0,0,0,0,n⟩=some (Au ⟨20,BP,0,0,0,0,0,0,0,0,n⟩ ⟨true,false,false,false,false,false,false,false,false,false,true⟩,0):=by
 have hf:Gw=some ():=rfl
 refine(AZ _ _).trans ?_
 simp only [GX,DN,hf,I7 (CV.len 20 n (by decide) h2 h3),Option.bind_some,Ja,Int.reduceBEq,bne_self_eq_false,cond_true,cond_false]
 refine Eq.trans (DF ⟨20,BP,0,0,0,0,0,0,0,0,n⟩ [IntKind.wrap .u64 n] [1] (show R8 20 from⟨by decide,by decide⟩) rfl (show 1<=6 by decide) ?_) ?_
 ·simp only [List.zipWith_cons_cons,List.zipWith_nil_left,List.forall_mem_cons,List.not_mem_nil,false_implies,implies_true,and_true]
  exact O7 ⟨by omega,by omega⟩
 ·simp only [Au,updB,n1]
  simp only [List.zipWith_cons_cons,List.zipWith_nil_left,List.flatMap_cons,List.flatMap_nil,Hr,show Int.toNat 1=1 from rfl,n1]
  rfl
theorem ZA3 (n:Int) (h2:27<=n) (h3:n<=251):GY ⟨21,BP,0,0,0,0,0,0,0,0,n⟩=some (Au ⟨21,BP,0,0,0,0,0,0,0,0,n⟩ ⟨true,false,false,false,false,false,false,false,false,false,true⟩,0):=by
 have hf:Gw=some ():=rfl
 refine(AZ _ _).trans ?_
 simp only [GX,DN,hf,I7 (CV.len 21 n (by decide) h2 h3),Option.bind_some,Ja,Int.reduceBEq,bne_self_eq_false,cond_true,cond_false]
 refine Eq.trans (DF ⟨21,BP,0,0,0,0,0,0,0,0,n⟩ [IntKind.wrap .u64 n] [1] (show R8 21 from⟨by decide,by decide⟩) rfl (show 1<=6 by decide) ?_) ?_
 ·simp only [List.zipWith_cons_cons,List.zipWith_nil_left,List.forall_mem_cons,List.not_mem_nil,false_implies,implies_true,and_true]
  exact O7 ⟨by omega,by omega⟩
 ·simp only [Au,updB,n1]
  simp only [List.zipWith_cons_cons,List.zipWith_nil_left,List.flatMap_cons,List.flatMap_nil,Hr,show Int.toNat 1=1 from rfl,n1]
  rfl
theorem ZBs {c:AL} (h:CV c):∃x,GY c=some (x,0)/\QE c=some (x,0)/\1<=x.length/\x.length<=60/\Bytes x:=by
 have z:Et 0:=⟨by decide,by decide⟩
 rcases Z3k c.Kind with ⟨hf,hk⟩|⟨hf,hk⟩|⟨hf,hk⟩|⟨hf,hk⟩|⟨hf,hk⟩|⟨hf,hk⟩|⟨hf,hk⟩|⟨hf,hk⟩|⟨hf,hk⟩|⟨hf,hk⟩|⟨hf,hk⟩|⟨hf,hk⟩|⟨hf,hk⟩
 all_goals
  have h' :=h
  cases h<;>first|(exfalso;dsimp only at hk;omega)|skip
  all_goals
   refine ZFw _ _ h' hf (by assumption) (by assumption) (by assumption) (by assumption) ?_
   first
    | exact ZEw _ _ (by assumption) (by assumption)
    | exact ZEz _ _ (by assumption) (by assumption) (by assumption)
    | exact ZBS _ (by assumption)
    | exact ZFS _ _ (by assumption) (by assumption)
    | exact ZEy _ (by assumption)
    | (rcases hk with rfl|rfl|rfl|rfl<;>first|exact Zy6  | exact Zz2  | exact Zv1  | exact Zvu )
    | exact ZEH _ (by assumption)
    | (rcases hk with rfl|rfl<;>first|exact ZB6 _ (by assumption)|exact ZAQ _ (by assumption))
    | exact ZEW _ (by assumption)
    | exact ZFA _ _ (by assumption) (by assumption)
    | exact ZEN _ (by assumption)
    | (rcases hk with rfl|rfl<;>first|exact ZB9 _ (by assumption) (by assumption)|exact ZA3 _ (by assumption) (by assumption))
theorem Zti:nZ=some ⟨1,[]⟩:=(AZ _ _).trans rfl
theorem ZAF (xs:List Int) (h:xs.length<=100000):N9 xs=some ⟨xs⟩:=by
 have:=SA
 have:=Rj
 unfold N9
 rw [if_pos ⟨by omega,by omega⟩]
theorem Z3j (x:Aw) (h:x.Payload.length<=100000):YC x=some x:=(AZ _ _).trans (by
 simp only [Z9X,DN,ZAF _ h,Option.bind_some,beq_self_eq_true,cond_true])
def I5 (q:List Aw):Prop:=q.length<=1000/\∀x∈q,x.Payload.length<=100000
theorem ZEq (q:List Aw) (hq:I5 q) (a z:BU):∀d i:Nat,i+d=q.length->AV bG (.b1 (q.take i) q (q.length:Int) (i:Int) a z)=some ⟨{ a with Az:=q }⟩:=by
 intro d
 induction d with
 | zero=>
  intro i hi
  have e:i=q.length:=by omega
  subst e
  refine(AZ _ _).trans ?_
  simp only [bG,Int.lt_irrefl,DN,SL,SM]
  rw [List.take_length]
 | succ d ih=>
  intro i hi
  refine(AZ _ _).trans ?_
  have h1:i<q.length:=by omega
  have hl:(q.take i).length=i:=by rw [List.length_take];omega
  have hx:=hq.2 q[i] (List.getElem_mem h1)
  have:=hq.1
  simp(disch:=omega) only [bG,h1,Z3j _ hx,hl,DN,SL,SM]
  have:=ih (i+1) (by omega)
  rw [List.take_succ_eq_append_getElem h1] at this
  exact this
theorem Zfj (a:BU) (hq:I5 a.Az):qJ a=some ⟨a⟩:=(AZ _ _).trans (by
 have h1:decide ((0:Int)<=(0:Int)/\(0:Int)<=((a.Az.length:Nat):Int)/\a.Az.length*32<=lim/\((a.Az.length:Nat):Int)<=((maxLen:Nat):Int))=true:=by
  have:=SA
  have:=Rj
  have:=hq.1
  exact decide_eq_true ⟨by omega,by omega,by omega,by omega⟩
 simp only [bG,DN,Int.toNat_natCast,h1,cond_true,beq_self_eq_true,List.length_nil,Bool.and_self]
 exact ZEq a.Az hq a _ a.Az.length 0 (by omega))
theorem Zyl (a:BU) (hq:I5 a.Az):oK a=oN a:=by
 have e4:∀x y z w,AV Nq (.b4 x y z w)=AV ND (.b4 x y z w):=fun x y z w=>(AZ _ _).trans (Eq.trans (by
  simp only [Nq,ND,DN,beq_self_eq_true,cond_true]) (AZ _ _).symm)
 have e3:∀n x y z w,AV Nq (.b3 n x y z w)=AV ND (.b3 n x y z w):=fun n x y z w=>(AZ _ _).trans (Eq.trans (by
  simp only [Nq,ND,DN,beq_self_eq_true,cond_true,e4]) (AZ _ _).symm)
 have e2:∀n (x:BU) y z w,I5 x.Az->AV Nq (.b2 n x y z w)=AV ND (.b2 n x y z w):=fun n x y z w hx=>(AZ _ _).trans (Eq.trans (by
  simp only [Nq,ND,DN,beq_self_eq_true,cond_true,e3]
  cases hg:x.Az[(Int.toNat 0)]? with
  | none=>rfl
  | some p=>simp only [Option.bind_some,Z3j p (hx.2 p (List.mem_of_getElem? hg))]) (AZ _ _).symm)
 have e1:∀(x:BU) y z,I5 x.Az->AV Nq (.b1 x y z)=AV ND (.b1 x y z):=fun x y z hx=>(AZ _ _).trans (Eq.trans (by
  simp only [Nq,ND,DN,beq_self_eq_true,cond_true,e3,e2 _ x _ _ _ hx,Zti,Option.bind_some]) (AZ _ _).symm)
 refine(AZ _ _).trans (Eq.trans ?_ (AZ _ _).symm)
 simp only [Nq,ND,DN,Zfj a hq,Option.bind_some,beq_self_eq_true,cond_true,e1 a _ _ hq]
 rw [e1 { a with Open:=true,Empty:=(((a.Az.length:Nat):Int)==0) } _ _ hq]
noncomputable def Qu (k s:Int):Nat->List Int
 | 0=>[]
 | i+1=>Qu k s i++num 8 (MV k (IntKind.wrap .u64 (s+i)))
theorem dY (k s:Int) (i:Nat):(Qu k s i).length=8*i:=by
 induction i with
 | zero=>rfl
 | succ i ih=>rw [Qu,List.length_append,ih,Eo];omega
noncomputable def OH (k nonce:Int) (n:Nat):List Int:=(Qu k (MV k nonce) ((n+7) / 8)).take n
theorem Zac (k nonce:Int) (n:Nat):(OH k nonce n).length=n:=by
 rw [OH,List.length_take,dY];omega
theorem Z3c (x:Int) (h:Et x):UO [x]=some (num 8 x):=by
 rw [ZBQ [x] (fun y hy=>by rw [List.mem_singleton.1 hy];exact h) (by simp)]
 simp
theorem ZnL (k s:Int) (n:Nat) (hn:n<=100000):∀d i:Nat,i+d=(n+7) / 8->AV Xi (.b1 k n s (Qu k s i) i)=some ((Qu k s ((n+7) / 8)).take n):=by
 intro d
 induction d with
 | zero=>
  intro i hi
  obtain rfl:i=(n+7) / 8:=by omega
  have hl:=dY k s ((n+7) / 8)
  refine(AZ _ _).trans ?_
  have h2:decide ((n:Int)<=((8*((n+7) / 8):Nat):Int))=true:=decide_eq_true (by omega)
  simp(disch:=omega) only [Xi,hl,h2,List.drop_zero,Nat.sub_zero,DN,SL,SM]
 | succ d ih=>
  intro i hi
  have hl:=dY k s i
  refine(AZ _ _).trans ?_
  have hlt:8*i<n:=by omega
  simp(disch:=omega) only [Xi,hl,hlt,VV,Z3c _ (rH _ _),Eo,DN,SL,SM]
  rw [wu64 (n:=(i:Int)+1) (by omega) (by omega)]
  exact ih (i+1) (by omega)
theorem ZqJ (k nonce:Int) (n:Nat) (hn:n<=100000):Z0m k nonce n=some (OH k nonce n):=(AZ _ _).trans (by
 have e:AP ((n:Int)+8)=((n+8:Nat):Int):=by rw [HY (by omega) (by omega)];simp
 have h:decide ((0:Int)<=0/\(0:Int)<=((n+8:Nat):Int)/\Int.toNat ((n+8:Nat):Int)*1<=lim/\((n+8:Nat):Int)<=(↑maxLen:Int))=true:=
  decide_eq_true ⟨by decide,by omega,by rw [Int.toNat_natCast];exact Nat.le_trans (by omega) SA,by exact_mod_cast Nat.le_trans (show n+8<=1000000000 by omega) Rj⟩
 simp only [Xi,DN,VV,Option.bind_some,e]
 rw [h]
 exact ZnL k _ n hn ((n+7) / 8) 0 (by omega))
theorem ZmV (k:Int) (hk:Et k) (s:Int) (n:Nat) (hn:n<=100000):∀d i:Nat,i+d=(n+7) / 8->AV UJ (.b1 k n (Qu k s i) s i)=some ((Qu k s ((n+7) / 8)).take n):=by
 intro d
 induction d with
 | zero=>
  intro i hi
  obtain rfl:i=(n+7) / 8:=by omega
  have hl:=dY k s ((n+7) / 8)
  refine(AZ _ _).trans ?_
  have h2:decide ((n:Int)<=((8*((n+7) / 8):Nat):Int))=true:=decide_eq_true (by omega)
  have h3:decide (0+n<=8*((n+7) / 8))=true:=decide_eq_true (by omega)
  have h4:decide (n<=8*((n+7) / 8))=true:=decide_eq_true (by omega)
  simp(disch:=omega) only [UJ,hl,h2,h3,h4,List.drop_zero,Nat.sub_zero,DN,SL,SM]
 | succ d ih=>
  intro i hi
  have hl:=dY k s i
  refine(AZ _ _).trans ?_
  have hlt:8*i<n:=by omega
  have hm:=rH k (IntKind.wrap .u64 (s+i))
  have h8:Lh 8 (MV k (IntKind.wrap .u64 (s+i)))=some ⟨num 8 (MV k (IntKind.wrap .u64 (s+i)))⟩:=uG 8 (by decide) _ hm
  simp(disch:=omega) only [UJ,hl,hlt,wu64 (n:=(i:Int)) (by omega) (by omega),qM k _ hk (vX _),h8,Eo,DN,SL,SM]
  exact ih (i+1) (by omega)
theorem ZoT (k:Int) (hk:Et k) (nonce:Int) (hx:Et nonce) (n:Nat) (hn:n<=100000):XU k nonce n=some (OH k nonce n):=(AZ _ _).trans (by
 simp only [UJ,qM k _ hk hx,DN,SL,SM]
 exact ZmV k hk _ n hn ((n+7) / 8) 0 (by omega))
def Dw (a b:List Int):List Int:=List.zipWith (bits .xor .u8) a b
theorem dP (a b:List Int):(Dw a b).length=min a.length b.length:=List.length_zipWith
theorem Zbs (a b:List Int):Bytes (Dw a b):=fun x hx=>by
 obtain⟨i,hi,rfl⟩:=List.getElem_of_mem hx
 simp only [Dw,List.getElem_zipWith]
 exact b8 _ _ _
theorem ZDi (ys:List Int) (i:Nat) (h:i<ys.length):(ys.take i++List.replicate (ys.length - i) (0:Int)).set i ys[i]=ys.take (i+1)++List.replicate (ys.length - (i+1)) 0:=by
 rw [show ys.length - i=(ys.length - (i+1))+1 by omega,List.replicate_succ,List.set_append_right _ _ (by rw [List.length_take];omega),List.length_take,Nat.min_eq_left (by omega),Nat.sub_self,List.set_cons_zero,List.take_add_one,List.getElem?_eq_getElem h,List.append_assoc]
 rfl
theorem ZmC (a b:List Int) (ha:a.length<=100000):∀d i:Nat,i+d=(Dw a b).length->AV Xf (.b1 a b ((Dw a b).take i++List.replicate ((Dw a b).length - i) 0) (Dw a b).length i)=some (Dw a b):=by
 have hx:=dP a b
 intro d
 induction d with
 | zero=>
  intro i hi
  obtain rfl:i=(Dw a b).length:=by omega
  refine(AZ _ _).trans ?_
  simp only [Xf,Int.lt_irrefl,Nat.sub_self,List.replicate_zero,List.append_nil,List.take_length,DN,SL,SM]
 | succ d ih=>
  intro i hi
  have hlt:i<(Dw a b).length:=by omega
  have h1:i<a.length:=by omega
  have h2:i<b.length:=by omega
  have hs:=ZDi (Dw a b) i hlt
  have hb:bits .xor .u8 a[i] b[i]=(Dw a b)[i]:=by simp only [Dw,List.getElem_zipWith]
  have hl:((Dw a b).take i++List.replicate ((Dw a b).length - i) (0:Int)).length=(Dw a b).length:=by
   rw [List.length_append,List.length_take,List.length_replicate];omega
  rw [<- ih (i+1) (by omega)]
  refine(AZ _ _).trans ?_
  generalize hO:(Dw a b).take i++List.replicate ((Dw a b).length - i) (0:Int)=O at *
  simp(disch:=omega) only [Xf,DN,Int.natCast_nonneg,Int.ofNat_lt,hlt,h1,h2,Int.toNat_natCast,List.getElem?_eq_getElem,Option.bind_some,decide_true,cond_true,true_and,hl,beq_self_eq_true,Bool.true_and,Nat.zero_le,List.length_set,QU,hb,hs]
theorem Zq5 (a b:List Int) (ha:a.length<=100000):Z0r a b=some (Dw a b):=(AZ _ _).trans (by
 have hx:=dP a b
 have e:(if (↑b.length:Int)<(↑a.length:Int) then (↑b.length:Int) else (↑a.length:Int))=((Dw a b).length:Int):=by rw [hx];split<;>omega
 have h:decide (0<=((Dw a b).length:Int)/\((Dw a b).length:Int)<=((Dw a b).length:Int)/\(Dw a b).length*1<=lim/\((Dw a b).length:Int)<=(↑maxLen:Int))=true:=
  decide_eq_true ⟨by omega,by omega,Nat.le_trans (by omega) SA,by exact_mod_cast Nat.le_trans (show (Dw a b).length<=1000000000 by omega) Rj⟩
 simp only [Xf,DN,e,Int.toNat_natCast,h,cond_true,beq_self_eq_true,List.length_replicate]
 exact ZmC a b ha _ 0 (Nat.zero_add _))
theorem ZwV (a b:List Int) (ha:a.length<=100000):∀d i:Nat,i+d=(Dw a b).length->AV Rk (.b1 a b ((Dw a b).take i) i)=some ⟨Dw a b⟩:=by
 have hx:=dP a b
 intro d
 induction d with
 | zero=>
  intro i hi
  obtain rfl:i=(Dw a b).length:=by omega
  refine(AZ _ _).trans ?_
  simp only [Rk,DN,SL,SM]
  by_cases h1:(Dw a b).length<a.length
  ·have h2:¬(Dw a b).length<b.length:=by omega
   simp only [h1,h2,decide_true,decide_false,cond_true,cond_false,List.take_length]
  ·simp only [h1,decide_false,cond_false,List.take_length]
 | succ d ih=>
  intro i hi
  have hlt:i<(Dw a b).length:=by omega
  have h1:i<a.length:=by omega
  have h2:i<b.length:=by omega
  have hb:bits .xor .u8 a[i] b[i]=(Dw a b)[i]:=by simp only [Dw,List.getElem_zipWith]
  have hl:((Dw a b).take i).length=i:=by rw [List.length_take];omega
  have ht:(Dw a b).take i++[(Dw a b)[i]]=(Dw a b).take (i+1):=by rw [List.take_add_one,List.getElem?_eq_getElem hlt];rfl
  refine(AZ _ _).trans ?_
  simp(disch:=omega) only [Rk,h1,h2,DN,SL,SM]
  refine(AZ _ _).trans ?_
  simp(disch:=omega) only [Rk,h1,h2,hl,hb,ht,DN,SL,SM]
  exact ih (i+1) (by omega)
theorem Zyc (a b:List Int) (ha:a.length<=100000):bU a b=some ⟨Dw a b⟩:=(AZ _ _).trans (by
 simp only [Rk,DN,SL,SM]
 exact ZwV a b ha _ 0 (Nat.zero_add _))
noncomputable def VJ (k nonce:Int) (hd c:List Int):List Int:=num 4 (Sj k (num 8 nonce++num 4 hd.length++hd++c))
noncomputable def uM (k nonce:Int) (hd p:List Int):List Int:=Dw p (OH k nonce p.length)++VJ k nonce hd (Dw p (OH k nonce p.length))
theorem Zd9 (k nonce:Int) (hd c:List Int):(VJ k nonce hd c).length=4:=Eo _ _
theorem Zv3 (k nonce:Int) (hx:Et nonce) (hd c:List Int) (hh:Bytes hd) (hc:Bytes c) (hl:hd.length<=1000) (hm:c.length<=50000):Z22 k nonce hd c=some (VJ k nonce hd c):=(AZ _ _).trans (by
 simp only [ZbF,JZ (n:=(hd.length:Int)) (by omega) (by omega),wu64 (n:=(hd.length:Int)) (by omega) (by omega),Z3c nonce hx,DN,SL,SM]
 rw [Z4m [⟨4,hd.length⟩] (fun f hf=>by
  rw [List.mem_singleton.1 hf]
  exact⟨show (1:Int)<=4 by decide,show (4:Int)<=8 by decide,show (0:Int)<=hd.length by omega,show (hd.length:Int)<4294967296 by omega⟩) (by simp [Hr,Eo]) (by simp)]
 simp only [Option.bind_some,List.flatMap_cons,List.flatMap_nil,List.append_nil,Hr,show Int.toNat 4=4 from rfl]
 rw [tV _ (by simp [Eo];omega) (by simp)]
 simp only [Option.bind_some,List.flatten_cons,List.flatten_nil,List.append_nil]
 rw [v_Tag k _ ((Jb _ _).app ((Jb _ _).app (hh.app hc))) (by simp [Eo];omega)]
 simp only [Option.bind_some]
 rw [Z3c _ (Zes _ _)]
 simp only [Option.bind_some,Eo]
 rw [show decide ((0:Int)<=4/\(4:Int)<=((8:Nat):Int))=true from rfl]
 simp only [cond_true,List.drop_zero,show Int.toNat 4 - 0=4 from rfl,ZAs 4 8 _ (by decide),VJ,List.append_assoc])
theorem ZwQ (k nonce:Int) (hx:Et nonce) (hd p:List Int) (hh:Bytes hd) (hl:hd.length<=1000) (hm:p.length<=50000):Z1I k nonce hd p=some (uM k nonce hd p):=(AZ _ _).trans (by
 have e:=dP p (OH k nonce p.length)
 rw [Zac,Nat.min_self] at e
 simp only [Zbt,ZqJ k nonce p.length (by omega),Zq5 p _ (by omega),Zv3 k nonce hx hd (Dw p (OH k nonce p.length)) hh (Zbs _ _) hl (by omega),DN,SL,SM]
 rw [tV _ (by simp [Zd9,e];omega) (by simp)]
 simp only [Option.bind_some,List.flatten_cons,List.flatten_nil,List.append_nil,uM])
theorem Zz3 (k:Int) (hk:Et k) (nonce:Int) (hx:Et nonce) (hd c:List Int) (hh:Bytes hd) (hc:Bytes c) (hl:hd.length<=1000) (hm:c.length<=50000):bZ k nonce hd c=some (VJ k nonce hd c):=(AZ _ _).trans (by
 have h8:Lh 8 nonce=some ⟨num 8 nonce⟩:=uG 8 (by decide) _ hx
 have h4:Lh 4 hd.length=some ⟨num 4 hd.length⟩:=uG 4 (by decide) _ ⟨by omega,by omega⟩
 have hi:nI nonce hd c=some ⟨num 8 nonce++num 4 hd.length++hd++c⟩:=(AZ _ _).trans (by
  simp(disch:=omega) only [Z0U,wu64 (n:=(hd.length:Int)) (by omega) (by omega),h8,h4,Eo,DN,SL,SM])
 have ht:Lh 4 (Sj k (num 8 nonce++num 4 hd.length++hd++c))=some ⟨num 4 (Sj k (num 8 nonce++num 4 hd.length++hd++c))⟩:=uG 4 (by decide) _ (Zes _ _)
 simp only [Z2C,hi,DN,SL,SM]
 rw [Zzo k hk _ ((((Jb _ _).app (Jb _ _)).app hh).app hc) (by simp [Eo];omega)]
 simp only [Option.bind_some,ht,VJ])
theorem ZuS (k:Int) (hk:Et k) (nonce:Int) (hx:Et nonce) (hd p:List Int) (hh:Bytes hd) (hl:hd.length<=1000) (hm:p.length<=50000):oG k nonce hd p=some (uM k nonce hd p):=(AZ _ _).trans (by
 have e:=dP p (OH k nonce p.length)
 rw [Zac,Nat.min_self] at e
 simp(disch:=omega) only [Z1Y,ZoT k hk nonce hx p.length (by omega),Zyc p _ (by omega),Zz3 k hk nonce hx hd (Dw p (OH k nonce p.length)) hh (Zbs _ _) hl (by omega),Zd9,e,uM,DN,SL,SM])
def bt (a:Int):Bool:=bif a==0 then true else a==1
theorem ZFm (a:Int):Wx a=some (bt a):=(AZ _ _).trans (by
 simp only [Z8b,DN]
 unfold bt
 cases (a==0)<;>rfl)
theorem ZFD (a:Int):Uh a=some (bt a):=(AZ _ _).trans (by
 simp only [Z2M,DN]
 unfold bt
 cases (a==0)<;>rfl)
def Qx (x:Aw):Int:=bif decide (x.Bq<1) then 12 else bif decide (x.Bq>3) then 12 else bif (((x.Payload.length:Nat):Int)==0)&&(x.Bq != 1) then 1 else bif decide (((x.Payload.length:Nat):Int)>255) then 4 else 0
def Ij (p:BM):Int:=bif !(bt p.SN) then 5 else bif !(bt p.EF) then 5 else bif !(bt p.MD) then 5 else Qx p.BG
theorem ZBI (n:Int):AV QA (.b3 n)=some (bif decide (n>255) then 4 else 0):=(AZ _ _).trans (by
 simp only [QA,DN]
 cases decide (n>255)<;>rfl)
theorem ZDJ (p:BM):AV QA (.b1 ((p.BG.Payload.length:Nat):Int) p)=some (Qx p.BG):=(AZ _ _).trans (by
 have h2:AV QA (.b2 ((p.BG.Payload.length:Nat):Int) p)=some (bif (((p.BG.Payload.length:Nat):Int)==0)&&(p.BG.Bq != 1) then 1 else bif decide (((p.BG.Payload.length:Nat):Int)>255) then 4 else 0):=(AZ _ _).trans (by
  simp only [QA,DN,ZBI]
  cases (((p.BG.Payload.length:Nat):Int)==0)<;>cases (p.BG.Bq != 1)<;>rfl)
 simp only [QA,DN,h2]
 unfold Qx
 cases decide (p.BG.Bq<1)<;>cases decide (p.BG.Bq>3)<;>rfl)
theorem Zw (p:BM):Tj p=some (Ij p):=(AZ _ _).trans (by
 simp only [QA,DN,ZFm,Option.bind_some,ZDJ]
 unfold Ij
 cases bt p.SN<;>cases bt p.EF<;>cases bt p.MD<;>rfl)
theorem Zjy (x:Aw):kC x=some (Qx x):=(AZ _ _).trans (by
 have h2:AV RG (.b2 x)=some (bif decide (((x.Payload.length:Nat):Int)>255) then 4 else 0):=(AZ _ _).trans (by
  simp only [RG,DN]
  cases decide (((x.Payload.length:Nat):Int)>255)<;>rfl)
 have h1:AV RG (.b1 x)=some (bif (((x.Payload.length:Nat):Int)==0)&&(x.Bq != 1) then 1 else bif decide (((x.Payload.length:Nat):Int)>255) then 4 else 0):=(AZ _ _).trans (by
  simp only [RG,DN,h2]
  cases (((x.Payload.length:Nat):Int)==0)<;>cases (x.Bq != 1)<;>rfl)
 simp only [RG,DN,h1]
 unfold Qx
 cases decide (x.Bq<1)<;>cases decide (x.Bq>3)<;>rfl)
theorem Z1e (p:BM):Nk p=some (Ij p):=(AZ _ _).trans (by
 have h1:AV YT (.b1 p)=some (Qx p.BG):=(AZ _ _).trans (by
  simp only [YT,DN,Zjy,Option.bind_some])
 simp only [YT,DN,ZFD,Option.bind_some,h1]
 unfold Ij
 cases bt p.SN<;>cases bt p.EF<;>cases bt p.MD<;>rfl)
theorem Z4h {a:Int} (h:bt a=true):a=0\/a=1:=by
 unfold bt at h
 cases h0:(a==0) with
 | true=>exact .inl (by simpa using h0)
 | false=>rw [h0] at h;exact .inr (by simpa using h)
theorem sO {p:BM} (h:Ij p=0):(p.SN=0\/p.SN=1)/\(p.EF=0\/p.EF=1)/\(p.MD=0\/p.MD=1)/\(p.BG.Bq=1\/p.BG.Bq=2\/p.BG.Bq=3)/\p.BG.Payload.length<=255:=by
 unfold Ij at h
 cases h1:bt p.SN with
 | false=>rw [h1] at h;cases h
 | true=>
  cases h2:bt p.EF with
  | false=>rw [h1,h2] at h;cases h
  | true=>
   cases h3:bt p.MD with
   | false=>rw [h1,h2,h3] at h;cases h
   | true=>
    rw [h1,h2,h3] at h
    simp only [Bool.not_true,cond_false] at h
    unfold Qx at h
    refine⟨Z4h h1,Z4h h2,Z4h h3,?_⟩
    cases h4:decide (p.BG.Bq<1) with
    | true=>rw [h4] at h;cases h
    | false=>
     cases h5:decide (p.BG.Bq>3) with
     | true=>rw [h4,h5] at h;cases h
     | false=>
      rw [h4,h5] at h
      simp only [decide_eq_false_iff_not] at h4 h5
      refine⟨by omega,?_⟩
      cases h6:decide (((p.BG.Payload.length:Nat):Int)>255) with
      | false=>simp only [decide_eq_false_iff_not] at h6;omega
      | true=>
       rw [h6] at h
       simp only [cond_false,cond_true] at h
       revert h
       cases ((((p.BG.Payload.length:Nat):Int)==0)&&(p.BG.Bq != 1))<;>simp
def hdv (p:BM):Int:=p.BG.Bq+4*p.EF+8*p.SN+16*p.MD
def dev (p:BM):List Int×Int:=if Ij p=0 then (hdv p::((p.BG.Payload.length:Nat):Int)::p.BG.Payload,0) else ([],Ij p)
theorem Zf9 {p:BM} (h:Ij p=0) :
  bits .or .u8 (bits .or .u8 (bits .or .u8 (IntKind.wrap .u8 p.BG.Bq) (IntKind.wrap .u8 ((IntKind.wrap .u8 p.EF)*2 ^ (min (Int.toNat 2) (IntKind.bits .u8))))) (IntKind.wrap .u8 ((IntKind.wrap .u8 p.SN)*2 ^ (min (Int.toNat 3) (IntKind.bits .u8))))) (IntKind.wrap .u8 ((IntKind.wrap .u8 p.MD)*2 ^ (min (Int.toNat 4) (IntKind.bits .u8))))=hdv p /\
  IntKind.wrap .u8 (AP ((AP ((AP (p.BG.Bq+(AP ((4:Int)*p.EF))))+(AP ((8:Int)*p.SN))))+(AP ((16:Int)*p.MD))))=hdv p:=by
 obtain⟨h1,h2,h3,h4,-⟩:=sO h
 unfold hdv
 rcases h1 with h1|h1<;>rcases h2 with h2|h2<;>rcases h3 with h3|h3<;>rcases h4 with h4|h4|h4<;>rw [h1,h2,h3,h4]<;>exact⟨by decide +kernel,by decide +kernel⟩
theorem ZoF (p:BM):mF p=some (dev p):=(AZ _ _).trans (by
 simp only [Z0u,DN,Z1e,Option.bind_some]
 unfold dev
 by_cases h:Ij p=0
 ·have hl:=(sO h).2.2.2.2
  have h8:=Pn (n:=((p.BG.Payload.length:Nat):Int)) (by omega) (by omega)
  have ha:=Z45 2 p.BG.Payload.length 1 (by omega) (by omega)
  rw [if_pos h,h,(Zf9 h).2,h8,ha]
  simp only [bne_self_eq_false,cond_false,beq_self_eq_true,cond_true,List.length_cons,List.length_nil]
  rfl
 ·rw [if_neg h,show (Ij p != 0)=true by simpa using h]
  rfl)
theorem Z29 (a v:Int) (j:Int) (hj:0<=j):Vz a j v=some ⟨bits .or .u8 v (IntKind.wrap .u8 ((IntKind.wrap .u8 a)*2 ^ (min (Int.toNat j) (IntKind.bits .u8))))⟩:=(AZ _ _).trans (by
 simp only [Z6e,DN,decide_eq_true hj,cond_true])
theorem ZjK (p:BM):kF p=some (dev p):=(AZ _ _).trans (by
 simp only [Z6C,DN,Zw,Option.bind_some,Z29 _ _ 2 (by decide),Z29 _ _ 3 (by decide),Z29 _ _ 4 (by decide)]
 unfold dev
 by_cases h:Ij p=0
 ·have hl:=(sO h).2.2.2.2
  have h8:=Pn (n:=((p.BG.Payload.length:Nat):Int)) (by omega) (by omega)
  have hj:=tV [[hdv p,((p.BG.Payload.length:Nat):Int)],p.BG.Payload] (by simp;omega) (by simp)
  rw [if_pos h,h,(Zf9 h).1,h8,hj]
  simp only [bne_self_eq_false,cond_false,beq_self_eq_true,cond_true,List.length_cons,List.length_nil,Option.bind_some]
  simp
 ·rw [if_neg h,show (Ij p != 0)=true by simpa using h]
  rfl)
theorem Zdc (x:Aw):Wh x=some (bif x.Bq==1 then ((x.Payload.length:Nat):Int)==0 else false):=(AZ _ _).trans (by
 simp only [Z6Y,DN]
 cases (x.Bq==1)<;>rfl)
theorem Zrt (x:Aw):RQ x=some (bif x.Bq==1 then ((x.Payload.length:Nat):Int)==0 else false):=(AZ _ _).trans (by
 simp only [Z10,DN]
 cases (x.Bq==1)<;>rfl)
def VY (s:C9) (d:Int):Int:=bits .xor .u64 s.Bo (IntKind.wrap .u64 ((IntKind.wrap .u64 ((2:Int)*s.Tx))+d))
theorem Ztk (s:C9):YP s s.Bl s.Tx=some (VY s (bif s.Bl==1 then 1 else 0)):=(AZ _ _).trans (by
 have h1:∀d,AV nP (.b1 s.Tx d s)=some (VY s d):=fun d=>(AZ _ _).trans rfl
 simp only [nP,DN,h1]
 cases (s.Bl==1)<;>rfl)
theorem ZeL (p:BM) (l:List Int):kZ p l=some ({ p with BG:=⟨p.BG.Bq,l⟩ }:BM):=(AZ _ _).trans rfl
theorem Zuz (p:BM) (l:List Int):aI p l=some ({ p with BG:=⟨p.BG.Bq,l⟩ }:BM):=(AZ _ _).trans rfl
theorem ZCz (s:C9):Zm s=some (bif s.Bl==1 then (1,0) else (0,1)):=(AZ _ _).trans (by
 simp only [Z75,DN]
 cases (s.Bl==1)<;>rfl)
theorem ZBb (c:Int) (w:QC) (d:Int):yU c w d=some (bits .xor .u64 w.Bo (IntKind.wrap .u64 ((IntKind.wrap .u64 ((2:Int)*c))+d))):=(AZ _ _).trans rfl
theorem ZCl (s:C9) (d:Int):Zf s d=some ⟨s,d⟩:=(AZ _ _).trans rfl
theorem ZF1 (s:C9) (p:BM) (hk:Et s.Key):kR s p=oU s p:=by
 refine(AZ _ _).trans (Eq.trans ?_ (AZ _ _).symm)
 simp only [Tt,Yh,DN,Zw,Z1e,Option.bind_some,Zdc,Zrt]
 by_cases h:Ij p=0
 ·obtain⟨-,-,-,h4,h5⟩:=sO h
  have b1:∀z,AV Tt (.b1 p z)=some (p,0):=fun z=>(AZ _ _).trans (by
   have hj:=tV [p.BG.Payload] (by simp;omega) (by simp)
   simp only [Tt,DN,hj,ZeL,Option.bind_some,List.flatten_cons,List.flatten_nil,List.append_nil,List.length_cons,List.length_nil,Nat.zero_add,beq_self_eq_true,cond_true])
  have b2:∀z,AV Tt (.b2 s p z)=AV Yh (.b1 s p z):=fun z=>by
   refine(AZ _ _).trans (Eq.trans ?_ (AZ _ _).symm)
   have hb:Bytes [IntKind.wrap .u8 p.BG.Bq]:=Bytes.cons (r8 _) Bytes.nil
   have hn:∀d,Et (VY s d):=fun d=>b64 _ _ _
   have e:(bif s.Bl==1 then ((1:Int),(0:Int)) else (0,1)).1=bif s.Bl==1 then 1 else 0:=by cases (s.Bl==1)<;>rfl
   have hs:=fun d=>ZwQ s.Key (VY s d) (hn d) [IntKind.wrap .u8 p.BG.Bq] p.BG.Payload hb (by simp) (by omega)
   have hr:=fun d=>ZuS s.Key hk (VY s d) (hn d) [IntKind.wrap .u8 p.BG.Bq] p.BG.Payload hb (by simp) (by omega)
   unfold VY at hs
   simp only [Tt,Yh,DN,ZCz,ZCl,ZBb,Ztk,Option.bind_some,e,hs,hr,ZeL,Zuz]
   rfl
  simp only [h,b1,b2]
 ·rw [show (Ij p != 0)=true by simpa using h]
  rfl
def JI (a:BU) (b:List Int):BU:={ a with Az:=a.Az++[⟨3,b⟩] }
theorem dpv3 (b:List Int) (h1:1<=b.length) (h2:b.length<=60):Ij ⟨0,0,0,⟨3,b⟩⟩=0:=by
 have e1:(((b.length:Nat):Int)==0)=false:=by simp;intro h;subst h;simp at h1
 have e2:decide (((b.length:Nat):Int)>255)=false:=decide_eq_false (by omega)
 simp only [Ij,Qx,e1,e2]
 rfl
theorem ZvJ (a:BU) (b:List Int) (hq:I5 a.Az) (h1:1<=b.length) (h2:b.length<=60):Z1d a ⟨3,b⟩=some (if 64<=a.Az.length then (a,8) else (JI a b,0)):=(AZ _ _).trans (by
 have e3:decide (((b.length:Nat):Int)>251)=false:=decide_eq_false (by omega)
 have key:∀z,AV Xw (.b1 a ⟨3,b⟩ z)=some (if 64<=a.Az.length then (a,8) else (JI a b,0)):=fun z=>(AZ _ _).trans (by
  by_cases h:64<=a.Az.length
  ·have e4:decide (((a.Az.length:Nat):Int)>=64)=true:=decide_eq_true (by omega)
   simp(disch:=omega) only [Xw,e4,if_pos h,DN,SL,SM]
  ·have e4:decide (((a.Az.length:Nat):Int)>=64)=false:=decide_eq_false (by omega)
   simp(disch:=omega) only [Xw,e4,if_neg h,Z3j ⟨3,b⟩ (show b.length<=100000 by omega),JI,DN,SL,SM])
 have hb:Wh ⟨3,b⟩=some false:=Zdc ⟨3,b⟩
 have hc:Tj ⟨0,0,0,⟨3,b⟩⟩=some 0:=(Zw _).trans (congrArg some (dpv3 b h1 h2))
 have h0:((0:Int) != 0)=false:=rfl
 simp(disch:=omega) only [Xw,Zfj a hq,hb,hc,e3,h0,key,DN,SL,SM])
theorem Zby (a:BU) (b:List Int) (hq:I5 a.Az) (h1:1<=b.length) (h2:b.length<=60):Y0 a ⟨3,b⟩=some (if 64<=a.Az.length then (a,8) else (JI a b,0)):=(AZ _ _).trans (by
 have e3:decide (((b.length:Nat):Int)>251)=false:=decide_eq_false (by omega)
 have key:∀z,AV UM (.b1 a ⟨3,b⟩ z)=some (if 64<=a.Az.length then (a,8) else (JI a b,0)):=fun z=>(AZ _ _).trans (by
  by_cases h:64<=a.Az.length
  ·have e4:decide (((a.Az.length:Nat):Int)>=64)=true:=decide_eq_true (by omega)
   simp(disch:=omega) only [UM,e4,if_pos h,DN,SL,SM]
  ·have e4:decide (((a.Az.length:Nat):Int)>=64)=false:=decide_eq_false (by omega)
   simp(disch:=omega) only [UM,e4,if_neg h,JI,DN,SL,SM])
 have hb:XA ⟨3,b⟩=some false:=(AZ _ _).trans rfl
 have hc:Nk ⟨0,0,0,⟨3,b⟩⟩=some 0:=(Z1e _).trans (congrArg some (dpv3 b h1 h2))
 have h0:((0:Int) != 0)=false:=rfl
 simp(disch:=omega) only [UM,hb,hc,e3,h0,key,DN,SL,SM])
def Qo (k:Int):Bool:=bif k==3 then true else bif k==4 then true else bif k==5 then true else bif k==6 then true else k==13
theorem ZBh (k:Int):Z01 k=some (Qo k):=(AZ _ _).trans (by
 simp only [Z8L,DN]
 unfold Qo
 cases k==3<;>cases k==4<;>cases k==5<;>cases k==6<;>cases k==13<;>rfl)
theorem ZyB (k:Int):lN k=some (Qo k):=(AZ _ _).trans (by
 simp only [Z09,DN]
 unfold Qo
 cases k==3<;>cases k==4<;>cases k==5<;>cases k==6<;>rfl)
def MX (s:Aa):Bool:=bif decide (s.EI>=1) then decide (s.EI<=3) else false
theorem ZvP (s:Aa):Y7 s=some (MX s):=(AZ _ _).trans (by
 simp only [Z16,DN]
 unfold MX
 cases decide (s.EI>=1)<;>rfl)
theorem ZBN (s:Aa):zB s=some (MX s):=(AZ _ _).trans (by
 simp only [Z6u,DN]
 unfold MX
 by_cases h1:s.EI=1
 ·rw [h1];rfl
 by_cases h2:s.EI=2
 ·rw [h2];rfl
 by_cases h3:s.EI=3
 ·rw [h3];rfl
 rw [beq_false_of_ne h1,beq_false_of_ne h2,beq_false_of_ne h3]
 by_cases h:s.EI>=1
 ·rw [decide_eq_true h,decide_eq_false (by omega)];rfl
 ·rw [decide_eq_false h];rfl)
noncomputable def Ej (c:AL):List Int:=((QE c).getD ([],0)).1
theorem Zej {c:AL} (h:CV c):GY c=some (Ej c,0)/\QE c=some (Ej c,0)/\1<=(Ej c).length/\(Ej c).length<=60/\Bytes (Ej c):=by
 obtain⟨x,h1,h2,h3⟩:=ZBs h
 have e:Ej c=x:=by rw [Ej,h2];rfl
 rw [e]
 exact⟨h1,h2,h3⟩
noncomputable def F7 (q:Bool):List AL->List AL->BU->List AL×BU
 | [],rest,a=>(rest,a)
 | c::cs,rest,a=>bif decide (64<=a.Az.length)||(q && !Qo c.Kind) then F7 q cs (rest++[c]) a else F7 q cs rest (JI a (Ej c))
theorem ZdN {a:BU} {b:List Int} (h:I5 a.Az) (h1:¬64<=a.Az.length) (hb:b.length<=60):I5 (JI a b).Az:=by
 refine⟨by simp [JI];omega,fun x hx=>?_⟩
 simp only [JI,List.mem_append,List.mem_singleton] at hx
 rcases hx with hx|rfl
 ·exact h.2 x hx
 ·show b.length<=100000;omega
theorem ZCv (cmds:List AL) (hc:∀c∈cmds,CV c) (hl:cmds.length<=100000) (q0:List Aw) (q:Bool):∀(cs:List AL) (i:Nat) (rest:List AL) (s:FO),cmds.drop i=cs->i+cs.length=cmds.length->rest.length<=i->I5 s.Link.BB.Az->MX s.Link.Ak=q ->
  AV Kt (.b1 rest cmds (cmds.length:Nat) i s q0)=some ⟨⟨{ s.Link with BA:=(F7 q cs rest s.Link.BB).1,BB:=(F7 q cs rest s.Link.BB).2 },s.Dt⟩,q0,cmds⟩:=by
 intro cs
 induction cs with
 | nil=>
  intro i rest s hd hi hr hq hv
  have e:i=cmds.length:=by simpa using hi
  subst e
  refine(AZ _ _).trans ?_
  simp(disch:=omega) only [Kt,Int.lt_irrefl,F7,DN,SL,SM]
 | cons c cs ih=>
  intro i rest s hd hi hr hq hv
  rw [List.length_cons] at hi
  have hlt:i<cmds.length:=by omega
  have hget:cmds[i]=c:=by
   have:=List.drop_eq_getElem_cons hlt
   rw [hd] at this
   exact(List.cons.inj this).1.symm
  have hd' : cmds.drop (i+1)=cs:=by
   have:=List.drop_eq_getElem_cons hlt
   rw [hd] at this
   exact(List.cons.inj this).2.symm
  have hcv:CV c:=hget▸hc _ (List.getElem_mem hlt)
  obtain⟨p1,p2,p3,p4,p5⟩:=Zej hcv
  have b4:∀(r:List AL) (t:FO),r.length<=i+1->I5 t.Link.BB.Az->MX t.Link.Ak=q->AV Kt (.b4 r cmds (cmds.length:Nat) i t q0)=some ⟨⟨{ t.Link with BA:=(F7 q cs r t.Link.BB).1,BB:=(F7 q cs r t.Link.BB).2 },t.Dt⟩,q0,cmds⟩:=fun r t h1 h2 h3=>(AZ _ _).trans (by
   simp(disch:=omega) only [Kt,DN,SL,SM]
   exact ih (i+1) r ⟨{ t.Link with BA:=cmds },t.Dt⟩ hd' (by omega) h1 h2 h3)
  have b2:∀(t:FO),I5 t.Link.BB.Az->MX t.Link.Ak=q->AV Kt (.b2 rest cmds (cmds.length:Nat) i t c q0)=some ⟨⟨{ t.Link with BA:=(F7 q cs (rest++[c]) t.Link.BB).1,BB:=(F7 q cs (rest++[c]) t.Link.BB).2 },t.Dt⟩,q0,cmds⟩:=fun t h2 h3=>(AZ _ _).trans (by
   simp(disch:=omega) only [Kt,DN,SL,SM]
   exact b4 (rest++[c]) ⟨{ t.Link with BA:=cmds },t.Dt⟩ (by simp;omega) h2 h3)
  have h0:((0:Int) != 0)=false:=rfl
  have b3:∀(t:FO),I5 t.Link.BB.Az->MX t.Link.Ak=q->¬64<=t.Link.BB.Az.length->AV Kt (.b3 rest cmds (cmds.length:Nat) i t c q0)=some ⟨⟨{ t.Link with BA:=(F7 q cs rest (JI t.Link.BB (Ej c))).1,BB:=(F7 q cs rest (JI t.Link.BB (Ej c))).2 },t.Dt⟩,q0,cmds⟩:=fun t h2 h3 h4=>(AZ _ _).trans (by
   simp(disch:=omega) only [Kt,p1,h0,ZvJ _ _ h2 p3 p4,if_neg h4,DN,SL,SM]
   exact b4 rest ⟨{ t.Link with BB:=JI t.Link.BB (Ej c),BA:=cmds },t.Dt⟩ (by omega) (ZdN h2 h4 p4) h3)
  refine(AZ _ _).trans ?_
  by_cases h:64<=s.Link.BB.Az.length
  ·have e:decide (((s.Link.BB.Az.length:Nat):Int)>=64)=true:=decide_eq_true (by omega)
   simp(disch:=omega) only [Kt,hlt,hget,e,F7,decide_eq_true h,Bool.true_or,DN,SL,SM]
   exact b2 ⟨{ s.Link with BA:=cmds },s.Dt⟩ hq hv
  ·have e:decide (((s.Link.BB.Az.length:Nat):Int)>=64)=false:=decide_eq_false (by omega)
   simp(disch:=omega) only [Kt,hlt,hget,e,F7,decide_eq_false h,Bool.false_or,ZBN,hv,ZBh,DN,SL,SM]
   cases q with
   | false=>exact b3 ⟨{ s.Link with BA:=cmds },s.Dt⟩ hq hv h
   | true=>cases Qo c.Kind with
    | true=>exact b3 ⟨{ s.Link with BA:=cmds },s.Dt⟩ hq hv h
    | false=>exact b2 ⟨{ s.Link with BA:=cmds },s.Dt⟩ hq hv
theorem ZEE (cmds:List AL) (hc:∀c∈cmds,CV c) (hl:cmds.length<=100000) (q:Bool) (z:A8):∀(cs:List AL) (i:Nat) (rest:List AL) (f:Bool) (l:A8),cmds.drop i=cs->i+cs.length=cmds.length->rest.length<=i->I5 l.BB.Az->MX l.Ak=q->l.BA=cmds->(f=true->64<=l.BB.Az.length) ->
  AV Jw (.b1 rest f i l z)=some { l with BA:=(F7 q cs rest l.BB).1,BB:=(F7 q cs rest l.BB).2 }:=by
 intro cs
 induction cs with
 | nil=>
  intro i rest f l hd hi hr hq hv hcm hf
  have e:i=cmds.length:=by simpa using hi
  subst e
  refine(AZ _ _).trans ?_
  simp(disch:=omega) only [Jw,hcm,Int.lt_irrefl,F7,DN,SL,SM]
 | cons c cs ih=>
  intro i rest f l hd hi hr hq hv hcm hf
  rw [List.length_cons] at hi
  have hlt:i<cmds.length:=by omega
  have hget:cmds[i]=c:=by
   have:=List.drop_eq_getElem_cons hlt
   rw [hd] at this
   exact(List.cons.inj this).1.symm
  have hd' : cmds.drop (i+1)=cs:=by
   have:=List.drop_eq_getElem_cons hlt
   rw [hd] at this
   exact(List.cons.inj this).2.symm
  have hcv:CV c:=hget▸hc _ (List.getElem_mem hlt)
  obtain⟨p1,p2,p3,p4,p5⟩:=Zej hcv
  have b4:∀(r:List AL) (g:Bool) (t:A8),r.length<=i+1->I5 t.BB.Az->MX t.Ak=q->t.BA=cmds->(g=true->64<=t.BB.Az.length)->AV Jw (.b4 r g i t z)=some { t with BA:=(F7 q cs r t.BB).1,BB:=(F7 q cs r t.BB).2 }:=fun r g t h1 h2 h3 h4 h5=>(AZ _ _).trans (by
   simp(disch:=omega) only [Jw,DN,SL,SM]
   exact ih (i+1) r g t hd' (by omega) h1 h2 h3 h4 h5)
  have b2:AV Jw (.b2 rest f i l z c)=some { l with BA:=(F7 q cs (rest++[c]) l.BB).1,BB:=(F7 q cs (rest++[c]) l.BB).2 }:=(AZ _ _).trans (by
   simp(disch:=omega) only [Jw,DN,SL,SM]
   exact b4 (rest++[c]) f l (by simp;omega) hq hv hcm hf)
  have h0:((0:Int) != 0)=false:=rfl
  have h8:((8:Int) != 0)=true:=rfl
  have b3:AV Jw (.b3 rest f i l z c)=some (if 64<=l.BB.Az.length then { l with BA:=(F7 q cs (rest++[c]) l.BB).1,BB:=(F7 q cs (rest++[c]) l.BB).2 } else { l with BA:=(F7 q cs rest (JI l.BB (Ej c))).1,BB:=(F7 q cs rest (JI l.BB (Ej c))).2 }):=(AZ _ _).trans (by
   by_cases h:64<=l.BB.Az.length
   ·simp(disch:=omega) only [Jw,p2,h0,h8,Zby _ _ hq p3 p4,if_pos h,DN,SL,SM]
    exact b4 (rest++[c]) true l (by simp;omega) hq hv hcm (fun _=>h)
   ·simp(disch:=omega) only [Jw,p2,h0,h8,Zby _ _ hq p3 p4,if_neg h,DN,SL,SM]
    exact b4 rest f { l with BB:=JI l.BB (Ej c) } (by omega) (ZdN hq h p4) hv hcm (fun hg=>absurd (hf hg) h))
  refine(AZ _ _).trans ?_
  simp(disch:=omega) only [Jw,hcm,hlt,hget,ZvP,hv,ZyB,b2,b3,F7,DN,SL,SM]
  by_cases h:64<=l.BB.Az.length
  ·rw [if_pos h,decide_eq_true h]
   cases f<;>cases q<;>cases Qo c.Kind<;>rfl
  ·rw [if_neg h,decide_eq_false h]
   cases f with
   | true=>exact absurd (hf rfl) h
   | false=>cases q<;>cases Qo c.Kind<;>rfl
noncomputable def moveF (l:A8):A8:={ l with BA:=(F7 (MX l.Ak) l.BA [] l.BB).1,BB:=(F7 (MX l.Ak) l.BA [] l.BB).2 }
theorem ZG3 (l:A8) (said:List Am) (hc:∀c∈l.BA,CV c) (hl:l.BA.length<=100000) (hq:I5 l.BB.Az):∃a b,Z4 ⟨l,said⟩=some ⟨⟨moveF l,said⟩,a,b⟩:=
 ⟨l.BB.Az,l.BA,(AZ _ _).trans (by
  simp(disch:=omega) only [Kt,DN,SL,SM]
  exact ZCv l.BA hc hl l.BB.Az _ l.BA 0 [] ⟨l,said⟩ rfl (by omega) (by simp) hq rfl)⟩
theorem ZDI (l:A8) (hc:∀c∈l.BA,CV c) (hl:l.BA.length<=100000) (hq:I5 l.BB.Az):nX l=some (moveF l):=(AZ _ _).trans (by
 simp(disch:=omega) only [Jw,DN,SL,SM]
 exact ZEE l.BA hc hl _ _ l.BA 0 [] false l rfl (by omega) (by simp) hq rfl rfl (fun h=>nomatch h))
theorem Zdp (x y:Nat):(x ^^^ y) / 2=x / 2 ^^^ y / 2:=by
 apply Nat.eq_of_testBit_eq
 intro i
 rw [Nat.testBit_xor]
 simp only [Nat.testBit_div_two]
 rw [Nat.testBit_xor]
theorem ZDG (x y:Nat):(x ^^^ y) % 2=(x % 2+y % 2) % 2:=by
 have h:=Nat.xor_mod_two_pow (a:=x) (b:=y) (n:=1)
 rw [Nat.pow_one] at h
 rw [h]
 rcases Nat.mod_two_eq_zero_or_one x with hx|hx<;>rcases Nat.mod_two_eq_zero_or_one y with hy|hy<;>simp only [hx,hy]<;>rfl
def Iz (x:Nat):Nat:=if x % 2=1 then x / 2 ^^^ 14311424 else x / 2
theorem Zce (x y:Nat):Iz (x ^^^ y)=Iz x ^^^ Iz y:=by
 unfold Iz
 rw [Zdp,ZDG]
 rcases Nat.mod_two_eq_zero_or_one x with hx|hx<;>rcases Nat.mod_two_eq_zero_or_one y with hy|hy<;>simp only [hx,hy]<;>simp
 ·rw [Nat.xor_assoc]
 ·rw [Nat.xor_assoc,Nat.xor_assoc,Nat.xor_comm (y / 2)]
 ·rw [Nat.xor_assoc,Nat.xor_comm 14311424,Nat.xor_assoc,Nat.xor_self,Nat.xor_zero]
theorem ZcT (x:Nat):Iz (2*x)=x:=by
 unfold Iz
 rw [if_neg (by omega)]
 omega
def step4 (x:Nat):Nat:=Iz (Iz (Iz (Iz x)))
theorem Zxw (x y:Nat):step4 (x ^^^ y)=step4 x ^^^ step4 y:=by
 unfold step4
 simp only [Zce]
theorem ZAI (x:Nat):step4 (16*x)=x:=by
 unfold step4
 rw [show 16*x=2*(2*(2*(2*x))) by omega]
 simp only [ZcT]
theorem ZD5 (x:Nat):16*(x / 16) ^^^ x % 16=x:=by
 apply Nat.eq_of_testBit_eq
 intro i
 rw [Nat.testBit_xor,show 16=2 ^ 4 from rfl,Nat.testBit_two_pow_mul,Nat.testBit_mod_two_pow,Nat.testBit_div_two_pow]
 by_cases h:4<=i
 ·have e:i - 4+4=i:=by omega
  simp [h,e,Nat.not_lt.2 h]
 ·simp [h,Nat.lt_of_not_le h]
theorem Zyo (x:Nat):step4 x=x / 16 ^^^ step4 (x % 16):=by
 conv=>lhs;rw [<- ZD5 x,Zxw,ZAI]
def fb (r b:Nat):Nat:=Iz (r ^^^ b)
theorem fb4 (r v:Nat) (hv:v<16):fb (fb (fb (fb r (v % 2)) (v / 2 % 2)) (v / 4 % 2)) (v / 8 % 2)=step4 (r ^^^ v):=by
 have hs:∀z b,Iz z ^^^ b=Iz (z ^^^ 2*b):=fun z b=>by rw [Zce,ZcT]
 unfold fb step4
 rw [hs,hs,hs,hs,hs,hs]
 have:v % 2 ^^^ 2*(v / 2 % 2) ^^^ 2*(2*(v / 4 % 2)) ^^^ 2*(2*(2*(v / 8 % 2)))=v:=by
  have:∀v:Fin 16,v.val % 2 ^^^ 2*(v.val / 2 % 2) ^^^ 2*(2*(v.val / 4 % 2)) ^^^ 2*(2*(2*(v.val / 8 % 2)))=v.val:=by decide +kernel
  exact this ⟨v,hv⟩
 rw [Nat.xor_assoc,Nat.xor_assoc,Nat.xor_assoc,<- Nat.xor_assoc (v % 2),<- Nat.xor_assoc (v % 2 ^^^ _),this]
theorem eF (x:Nat) (h:x<16777216):Iz x<16777216:=by
 unfold Iz
 split
 ·exact Nat.xor_lt_two_pow (n:=24) (by omega) (by decide)
 ·omega
theorem Z3g {x y:Nat} (h:x<16777216) (h' : y<16777216):x ^^^ y<16777216:=Nat.xor_lt_two_pow (n:=24) h h'
theorem EZ {x b:Nat} (h:x<16777216) (hb:b<2):fb x b<16777216:=eF _ (Z3g h (by omega))
def Ph (r v:Nat):Nat:=fb (fb (fb (fb (fb (fb (fb (fb r (v % 2)) (v / 2 % 2)) (v / 4 % 2)) (v / 8 % 2)) (v / 16 % 2)) (v / 32 % 2)) (v / 64 % 2)) (v / 128 % 2)
theorem ZDQ (r v:Nat) (hv:v<256):Ph r v=step4 (step4 (r ^^^ v % 16) ^^^ v / 16):=by
 have h1:=fb4 r (v % 16) (by omega)
 have h2:=fb4 (step4 (r ^^^ v % 16)) (v / 16) (by omega)
 rw [show v % 16 % 2=v % 2 by omega,show v % 16 / 2 % 2=v / 2 % 2 by omega,show v % 16 / 4 % 2=v / 4 % 2 by omega,show v % 16 / 8 % 2=v / 8 % 2 by omega] at h1
 rw [<- h1,show v / 16 / 2=v / 32 by omega,show v / 16 / 4=v / 64 by omega,show v / 16 / 8=v / 128 by omega,h1] at h2
 unfold Ph
 rw [h1]
 exact h2
theorem ZBG (t:Nat) (h:t<16):([0,1788928,3577856,3003392,7155712,7764992,6006784,4252672,14311424,12659712,15529984,16233472,12013568,11279360,8505344,10126336]:List Int)[t]? = some ((step4 t:Nat):Int):=by
 have:∀t:Fin 16,([0,1788928,3577856,3003392,7155712,7764992,6006784,4252672,14311424,12659712,15529984,16233472,12013568,11279360,8505344,10126336]:List Int)[t.val]? = some ((step4 t.val:Nat):Int):=by decide +kernel
 exact this ⟨t,h⟩
theorem and15 (a:Nat) (h:a<4294967296):bits .and .u32 (a:Int) 15=((a % 16:Nat):Int):=by
 rw [show (15:Int)=((15:Nat):Int) from rfl,(bits_nat .u32 32 (by decide) wraps_u32 a 15 h (by decide)).1,show 15=2 ^ 4 - 1 from rfl,Nat.and_two_pow_sub_one_eq_mod]
theorem andM (a:Nat) (h:a<4294967296):bits .and .u32 (a:Int) 16777215=((a % 16777216:Nat):Int):=by
 rw [show (16777215:Int)=((16777215:Nat):Int) from rfl,(bits_nat .u32 32 (by decide) wraps_u32 a 16777215 h (by decide)).1,show 16777215=2 ^ 24 - 1 from rfl,Nat.and_two_pow_sub_one_eq_mod]
theorem uC (a j:Nat):Int.fdiv (a:Int) (2 ^ j)=((a / 2 ^ j:Nat):Int):=by
 rw [show (2:Int) ^ j=((2 ^ j:Nat):Int) by simp]
 exact(Int.ofNat_fdiv a (2 ^ j)).symm
theorem ZdF (x:Nat) (h:x<16777216):step4 x<16777216:=eF _ (eF _ (eF _ (eF _ h)))
theorem tab (r w:Nat) (hw:w<16):r / 16 ^^^ step4 ((r ^^^ w) % 16)=step4 (r ^^^ w):=by
 conv=>rhs;rw [Zyo]
 congr 1
 have:=Nat.xor_div_two_pow (a:=r) (b:=w) (n:=4)
 rw [show (2:Nat) ^ 4=16 from rfl,Nat.div_eq_of_lt hw,Nat.xor_zero] at this
 exact this.symm
theorem ZCX (r w:Nat):(r ^^^ w) % 16=(r ^^^ w % 16) % 16:=by
 have h1:=Nat.xor_mod_two_pow (a:=r) (b:=w) (n:=4)
 have h2:=Nat.xor_mod_two_pow (a:=r) (b:=w % 16) (n:=4)
 rw [show (2:Nat) ^ 4=16 from rfl] at h1 h2
 rw [h1,h2,Nat.mod_mod]
theorem half (n w:Nat) (hn:n<16777216) (hw:w<256) :
  bits .and .u32 (bits .xor .u32 (n:Int) (w:Int)) 15=(((n ^^^ w) % 16:Nat):Int)/\bits .xor .u32 (Int.fdiv (n:Int) (2 ^ 4)) ((step4 ((n ^^^ w) % 16):Nat):Int)=((step4 (n ^^^ w % 16):Nat):Int):=by
 have hx:n ^^^ w<16777216:=Z3g hn (by omega)
 refine⟨?_,?_⟩
 ·rw [u32_xor_nat n w (by omega) (by omega),and15 _ (by omega)]
 ·have:=ZdF ((n ^^^ w) % 16) (by omega)
  rw [uC,u32_xor_nat _ _ (by omega) (by omega),show n / 2 ^ 4=n / 16 from rfl,ZCX,tab n (w % 16) (by omega)]
theorem in16 (t:Nat) (h:t<16):decide ((0:Int)<=(t:Int)/\(t:Int)<16)=true:=decide_eq_true (by omega)
theorem Zuy (n v:Nat) (hn:n<16777216) (hv:v<256):o7 (n:Int) (v:Int)=some ((Ph n v:Nat):Int):=(AZ _ _).trans (by
 obtain⟨a1,a2⟩:=half n v hn hv
 have hl:n ^^^ v % 16<16777216:=Z3g hn (by omega)
 obtain⟨b1,b2⟩:=half (step4 (n ^^^ v % 16)) (v / 16) (ZdF _ hl) (by omega)
 have e1:=JZ (n:=(v:Int)) (by omega) (by omega)
 have e2:=JZ (n:=((v / 16:Nat):Int)) (by omega) (by omega)
 have e3:Int.fdiv (v:Int) (2 ^ 4)=((v / 16:Nat):Int):=uC v 4
 rw [show v / 16 % 16=v / 16 by omega,<- ZDQ n v hv] at b2
 simp only [ZbD,DN,e1,e2,e3,a1,in16 _ (Nat.mod_lt _ (by decide)),cond_true,Int.toNat_natCast,ZBG _ (Nat.mod_lt _ (by decide)),Option.bind_some,a2,b1,b2])
theorem Z3L {n v:Nat} (hn:n<16777216):Ph n v<16777216:=by
 have h2:∀x,x % 2<2:=fun x=>Nat.mod_lt _ (by decide)
 exact EZ (EZ (EZ (EZ (EZ (EZ (EZ (EZ hn (h2 _)) (h2 _)) (h2 _)) (h2 _)) (h2 _)) (h2 _)) (h2 _)) (h2 _)
def Ve (r:Nat) (xs:List Int):Nat:=xs.foldl (fun r x=>Ph r x.toNat) r
theorem Zei {r:Nat} (xs:List Int) (h:r<16777216):Ve r xs<16777216:=by
 induction xs generalizing r with
 | nil=>exact h
 | cons x xs ih=>exact ih (Z3L h)
theorem ZvT (n:Nat) (x:Int) (hn:n<16777216) (hx:0<=x/\x<256):o7 (n:Int) x=some ((Ph n x.toNat:Nat):Int):=by
 have:=Zuy n x.toNat hn (by omega)
 rwa [Int.toNat_of_nonneg hx.1] at this
theorem ZxK (r:Int) (hr:0<=r/\r<4294967296) (xs:List Int) (hb:Bytes xs) (hl:xs.length<=100000):Z2q r xs=some ((Ve (r.toNat % 16777216) xs:Nat):Int):=(AZ _ _).trans (by
 obtain⟨n,rfl⟩:=Int.eq_ofNat_of_zero_le hr.1
 simp only [dO,DN,andM n (by omega),Int.toNat_natCast]
 exact(Z2T (fun(s:Nat) i=>AV dO (.b1 (s:Int) xs (xs.length:Int) i)) xs (fun r x=>Ph r x.toNat) (fun s=>some (s:Int)) (fun _ s=>s<16777216)
  (fun i s hi hs=>⟨(AZ _ _).trans (by
   simp(disch:=omega) only [dO,hi,ZvT s _ hs (hb.get i hi),DN,SL,SM]),Z3L hs⟩)
  (fun s _=>(AZ _ _).trans (by simp only [dO,Int.lt_irrefl,DN,SL,SM])) _ (Nat.mod_lt _ (by decide))).1)
theorem ZvY (n b:Nat) (hn:n<16777216) (hb:b<2):oM (n:Int) (b:Int)=some ((fb n b:Nat):Int):=(AZ _ _).trans (by
 have h1:Int.tmod (n:Int) 2=((n % 2:Nat):Int):=(Int.ofNat_tmod n 2).symm
 have h2:Int.tdiv (n:Int) 2=((n / 2:Nat):Int):=(Int.ofNat_tdiv n 2).symm
 have h3:(n ^^^ b) % 2=n % 2 ^^^ b:=by
  have:=Nat.xor_mod_two_pow (a:=n) (b:=b) (n:=1)
  rwa [Nat.pow_one,Nat.mod_eq_of_lt hb] at this
 have h4:(n ^^^ b) / 2=n / 2:=by rw [Zdp,Nat.div_eq_of_lt hb,Nat.xor_zero]
 have h5:n % 2 ^^^ b<2:=by rw [<- h3];omega
 have h6:=u32_xor_nat (n % 2) b (by omega) (by omega)
 have h7:=u32_xor_nat (n / 2) 14311424 (by omega) (by decide)
 have h8:=JZ (n:=((n / 2:Nat):Int)) (by omega) (by omega)
 simp only [Z20,DN,h1,h2,h6,h8]
 unfold fb Iz
 rw [h3,h4]
 by_cases h:n % 2 ^^^ b=1
 ·rw [if_pos h,h]
  exact congrArg some h7
 ·rw [if_neg h,show n % 2 ^^^ b=0 by omega]
  rfl)
theorem QN (xs:List Int) (s:Nat) (i:Int) (v k:Nat) (hs:s<16777216) (hv:v<4294967296) (hk:k<8) :
  AV Ld (.b2 xs (s:Int) i (v:Int) (k:Int))=AV Ld (.b2 xs ((fb s (v % 2):Nat):Int) i ((v / 2:Nat):Int) ((k+1:Nat):Int)):=(AZ _ _).trans (by
 have h1:Int.tmod (v:Int) 2=((v % 2:Nat):Int):=(Int.ofNat_tmod v 2).symm
 have h2:Int.tdiv (v:Int) 2=((v / 2:Nat):Int):=(Int.ofNat_tdiv v 2).symm
 have h8:=JZ (n:=((v / 2:Nat):Int)) (by omega) (by omega)
 have h9:decide ((k:Int)<8)=true:=decide_eq_true (by omega)
 have h10:=QU k (by omega)
 simp only [Ld,DN,h1,h2,h8,h9,h10,ZvY s (v % 2) hs (Nat.mod_lt _ (by decide)),cond_true,Option.bind_some])
theorem Zx4 (xs:List Int) (s i v:Nat) (hs:s<16777216) (hv:v<256) (hi:i<1000000) :
  AV Ld (.b2 xs (s:Int) (i:Int) (v:Int) ((0:Nat):Int))=AV Ld (.b1 xs ((Ph s v:Nat):Int) ((i+1:Nat):Int)):=by
 have h2:∀x,x % 2<2:=fun x=>Nat.mod_lt _ (by decide)
 rw [QN _ _ _ _ _ hs (by omega) (by omega),QN _ _ _ _ _ (EZ hs (h2 _)) (by omega) (by omega),QN _ _ _ _ _ (EZ (EZ hs (h2 _)) (h2 _)) (by omega) (by omega),
  QN _ _ _ _ _ (EZ (EZ (EZ hs (h2 _)) (h2 _)) (h2 _)) (by omega) (by omega),QN _ _ _ _ _ (EZ (EZ (EZ (EZ hs (h2 _)) (h2 _)) (h2 _)) (h2 _)) (by omega) (by omega),
  QN _ _ _ _ _ (EZ (EZ (EZ (EZ (EZ hs (h2 _)) (h2 _)) (h2 _)) (h2 _)) (h2 _)) (by omega) (by omega),
  QN _ _ _ _ _ (EZ (EZ (EZ (EZ (EZ (EZ hs (h2 _)) (h2 _)) (h2 _)) (h2 _)) (h2 _)) (h2 _)) (by omega) (by omega),
  QN _ _ _ _ _ (EZ (EZ (EZ (EZ (EZ (EZ (EZ hs (h2 _)) (h2 _)) (h2 _)) (h2 _)) (h2 _)) (h2 _)) (h2 _)) (by omega) (by omega)]
 have e:∀a b:Nat,v / a / b=v / (a*b):=fun a b=>Nat.div_div_eq_div_mul v a b
 simp only [e,Nat.reduceMul,Nat.reduceAdd]
 refine(AZ _ _).trans ?_
 have h9:decide (((8:Nat):Int)<8)=false:=by decide
 simp only [Ld,DN,h9,cond_false,QU i (by omega)]
 rfl
theorem Zxt (r:Int) (hr:0<=r/\r<4294967296) (xs:List Int) (hb:Bytes xs) (hl:xs.length<=100000):dC r xs=some ((Ve (r.toNat % 16777216) xs:Nat):Int):=(AZ _ _).trans (by
 obtain⟨n,rfl⟩:=Int.eq_ofNat_of_zero_le hr.1
 have h1:Int.tmod (n:Int) 16777216=((n % 16777216:Nat):Int):=(Int.ofNat_tmod n 16777216).symm
 simp only [Ld,DN,h1,Int.toNat_natCast]
 exact(Z2T (fun(s:Nat) i=>AV Ld (.b1 xs (s:Int) i)) xs (fun r x=>Ph r x.toNat) (fun s=>some (s:Int)) (fun _ s=>s<16777216)
  (fun i s hi hs=>⟨(AZ _ _).trans (by
   have hx:=hb.get i hi
   have h:=Zx4 xs s i xs[i].toNat hs (by omega) (by omega)
   rw [Int.toNat_of_nonneg hx.1] at h
   simp(disch:=omega) only [Ld,hi,JZ hx.1 (by omega),DN,SL,SM]
   exact h),Z3L hs⟩)
  (fun s _=>(AZ _ _).trans (by simp only [Ld,Int.lt_irrefl,DN,SL,SM])) _ (Nat.mod_lt _ (by decide))).1)
def VS (n:Nat):List Int:=[((n % 256:Nat):Int),((n / 256 % 256:Nat):Int),((n / 65536:Nat):Int)]
def vM (r:Int) (xs:List Int):List Int:=xs++VS (Ve (r.toNat % 16777216) xs)
theorem ZqH (r:Int) (hr:0<=r/\r<4294967296) (xs:List Int) (hb:Bytes xs) (hl:xs.length<=100000):mO r xs=some (vM r xs):=(AZ _ _).trans (by
 have hs:=Zei (r:=r.toNat % 16777216) xs (Nat.mod_lt _ (by decide))
 have hc:N9 xs=some ⟨xs⟩:=by
  have:=SA
  have:=Rj
  unfold N9
  rw [if_pos ⟨by omega,by omega⟩]
 unfold vM
 generalize hn:Ve (r.toNat % 16777216) xs=n at hs
 have e:[IntKind.wrap .u8 (n:Int),IntKind.wrap .u8 (Int.fdiv (n:Int) (2 ^ 8)),IntKind.wrap .u8 (Int.fdiv (n:Int) (2 ^ 16))]=VS n:=by
  rw [uC,uC,IntKind.wrap_u8,IntKind.wrap_u8,IntKind.wrap_u8]
  unfold VS
  simp only [List.cons.injEq,and_true]
  refine⟨by omega,by omega,by omega⟩
 simp(disch:=omega) only [Z9g,ZxK r hr xs hb hl,hn,hc,e,DN,SL,SM,VS])
theorem Zpg (r:Int) (hr:0<=r/\r<4294967296) (xs:List Int) (hb:Bytes xs) (hl:xs.length<=100000):mW r xs=some (vM r xs):=(AZ _ _).trans (by
 have hs:=Zei (r:=r.toNat % 16777216) xs (Nat.mod_lt _ (by decide))
 unfold vM
 generalize hn:Ve (r.toNat % 16777216) xs=n at hs
 have ht:aK (n:Int)=some (VS n):=(AZ _ _).trans (by
  have e1:Int.tmod (n:Int) 256=((n % 256:Nat):Int):=(Int.ofNat_tmod n 256).symm
  have e2:Int.tdiv (n:Int) 256=((n / 256:Nat):Int):=(Int.ofNat_tdiv n 256).symm
  have e3:Int.tdiv (n:Int) 65536=((n / 65536:Nat):Int):=(Int.ofNat_tdiv n 65536).symm
  have e4:=JZ (n:=((n / 256:Nat):Int)) (by omega) (by omega)
  have e5:=JZ (n:=((n / 65536:Nat):Int)) (by omega) (by omega)
  have e6:Int.tmod ((n / 256:Nat):Int) 256=((n / 256 % 256:Nat):Int):=(Int.ofNat_tmod _ 256).symm
  simp only [Z1H,e1,e2,e3,e4,e5,e6,Pn (n:=((n % 256:Nat):Int)) (by omega) (by omega),Pn (n:=((n / 256 % 256:Nat):Int)) (by omega) (by omega),Pn (n:=((n / 65536:Nat):Int)) (by omega) (by omega),DN,SL,SM]
  rfl)
 simp(disch:=omega) only [Z0l,Zxt r hr xs hb hl,hn,ht,DN,SL,SM,VS])
def TE (r:Nat):Nat:=if r<64 then 2*r else (2*r % 128) ^^^ 17
theorem ZE0 {r:Nat} (h:r<128):TE r<128:=by
 unfold TE
 split
 ·omega
 ·exact Nat.xor_lt_two_pow (n:=7) (by omega) (by decide)
def Ee (r:Nat):Nat->Nat
 | 0=>r
 | j+1=>TE (Ee r j)
theorem fH {r:Nat} (h:r<128):∀j,Ee r j<128
 | 0=>h
 | j+1=>ZE0 (fH h j)
def Ik (r:Nat):Nat->Nat
 | 0=>0
 | j+1=>Ik r j+2 ^ j*(Ee r j / 64)
theorem Z42 {r:Nat} (h:r<128):∀j,Ik r j<2 ^ j
 | 0=>by simp [Ik]
 | j+1=>by
  have h1:=Z42 h j
  have h2:=fH h j
  have h3:Ee r j / 64<=1:=by omega
  have h4:2 ^ j*(Ee r j / 64)<=2 ^ j*1:=Nat.mul_le_mul_left _ h3
  rw [Ik,Nat.pow_succ]
  omega
def JY (r:Nat):Nat->List Int
 | 0=>[]
 | n+1=>JY r n++[((Ik (Ee r (8*n)) 8:Nat):Int)]
theorem YO (r:Nat):∀n,(JY r n).length=n
 | 0=>rfl
 | n+1=>by rw [JY,List.length_append,YO r n];rfl
theorem Z3G (r a:Nat):∀b,Ee r (a+b)=Ee (Ee r a) b
 | 0=>rfl
 | b+1=>by rw [<- Nat.add_assoc,Ee,Ee,Z3G r a b]
def Jh (c:Int):Nat:=64+(max 0 (min c 39)).toNat
theorem Zcf (c:Int):Jh c<128:=by unfold Jh;omega
theorem ZlX (c:Int):ZJ c=some ((Jh c:Nat):Int):=(AZ _ _).trans (by
 simp only [Z7s,DN,Option.some.injEq]
 rw [HY (by split<;>(try split)<;>omega) (by split<;>(try split)<;>omega)]
 unfold Jh
 split<;>(try split)<;>omega)
theorem ZsW (c:Int):nN c=some ((Jh c:Nat):Int):=(AZ _ _).trans (by
 simp only [Z15,DN,Option.some.injEq]
 rw [HY (by split<;>(try split)<;>omega) (by split<;>(try split)<;>omega)]
 unfold Jh
 split<;>(try split)<;>omega)
theorem ZvH (r:Nat) (h:r<128):oI (r:Int)=some ((TE r:Nat):Int):=by
 have:∀r:Fin 128,bits .xor .i64 (Int.tmod (AP ((r.val:Int)*2)) 128) (17:Int)=(((2*r.val % 128) ^^^ 17:Nat):Int):=by decide +kernel
 have h1:=this ⟨r,h⟩
 refine(AZ _ _).trans ?_
 simp only [Z1P,DN] at h1 ⊢
 unfold TE
 by_cases hr:r<64
 ·rw [decide_eq_false (by omega),if_pos hr,cond_false,HY (by omega) (by omega),show (r:Int)*2=((2*r:Nat):Int) by omega,show Int.tmod ((2*r:Nat):Int) 128=((2*r % 128:Nat):Int) from(Int.ofNat_tmod _ _).symm,Nat.mod_eq_of_lt (by omega)]
 ·rw [decide_eq_true (by omega),if_neg hr,cond_true,h1]
theorem Znr (r:Nat) (h:r<128):Z03 (r:Int)=some (((r / 64:Nat):Int),((TE r:Nat):Int)):=by
 have:∀r:Fin 128,bits .xor .i64 (bits .and .i64 (AP ((r.val:Int)*2 ^ (1:Nat))) (127:Int)) (17:Int)=(((2*r.val % 128) ^^^ 17:Nat):Int):=by decide +kernel
 have h1:=this ⟨r,h⟩
 refine(AZ _ _).trans ?_
 simp only [Z82,DN] at h1 ⊢
 unfold TE
 by_cases hr:r<64
 ·rw [decide_eq_true (by omega),if_pos hr,cond_true,HY (by omega) (by omega),show r / 64=0 by omega,show (r:Int)*2 ^ 1=((2*r:Nat):Int) by omega]
  rfl
 ·rw [decide_eq_false (by omega),if_neg hr,cond_false,h1,show r / 64=1 by omega]
  rfl
theorem Zey {r j:Nat} (h:r<128) (hj:j<8):2 ^ j<=128/\Ee r j / 64<=1/\2 ^ j*(Ee r j / 64)<=2 ^ j/\Ik r j<2 ^ j/\Ee r j<128:=by
 have hs:=fH h j
 have hb:Ee r j / 64<=1:=by omega
 exact⟨Nat.pow_le_pow_right (j:=7) (by decide) (by omega),hb,Nat.le_trans (Nat.mul_le_mul_left _ hb) (by omega),Z42 h j,hs⟩
theorem Zzw (n i:Int) (acc:List Int) (r j:Nat) (h:r<128) (hj:j<8) :
  AV Ku (.b2 n acc ((Ee r j:Nat):Int) i ((Ik r j:Nat):Int) ((2 ^ j:Nat):Int) (j:Int))=AV Ku (.b2 n acc ((Ee r (j+1):Nat):Int) i ((Ik r (j+1):Nat):Int) ((2 ^ (j+1):Nat):Int) ((j+1:Nat):Int)):=(AZ _ _).trans (by
 obtain⟨b1,b2,b3,b4,b5⟩:=Zey h hj
 have h1:Int.tdiv ((Ee r j:Nat):Int) 64=((Ee r j / 64:Nat):Int):=(Int.ofNat_tdiv _ 64).symm
 have h2:AP (((2 ^ j:Nat):Int)*AP ((Ee r j / 64:Nat):Int))=((2 ^ j*(Ee r j / 64):Nat):Int):=by
  rw [HY (n:=((Ee r j / 64:Nat):Int)) (by omega) (by omega),<- Int.natCast_mul,HY (by omega) (by omega)]
 have h3:AP (((Ik r j:Nat):Int)+((2 ^ j*(Ee r j / 64):Nat):Int))=((Ik r (j+1):Nat):Int):=by
  rw [<- Int.natCast_add,HY (by omega) (by omega)]
  rfl
 have h4:AP (((2 ^ j:Nat):Int)*2)=((2 ^ (j+1):Nat):Int):=by
  rw [HY (by omega) (by omega),Nat.pow_succ]
  exact(Int.natCast_mul _ 2).symm
 have h5:decide ((j:Int)<8)=true:=decide_eq_true (by omega)
 simp only [Ku,DN,h5,cond_true,ZvH _ b5,Option.bind_some,beq_self_eq_true,h1,h2,h3,h4,QU j (by omega)]
 rfl)
theorem Zum (n:Int) (acc:List Int) (r i:Nat) (h:r<128) (hi:i<1000000) (ha:acc.length<=100000) :
  AV Ku (.b2 n acc (r:Int) (i:Int) 0 1 0)=AV Ku (.b1 n (acc++[((Ik r 8:Nat):Int)]) ((Ee r 8:Nat):Int) ((i+1:Nat):Int)):=by
 have s:=fun j hj=>Zzw n (i:Int) acc r j h hj
 refine(s 0 (by omega)).trans ((s 1 (by omega)).trans ((s 2 (by omega)).trans ((s 3 (by omega)).trans ((s 4 (by omega)).trans ((s 5 (by omega)).trans ((s 6 (by omega)).trans ((s 7 (by omega)).trans ((AZ _ _).trans ?_))))))))
 have hw:Ik r 8<256:=Z42 h 8
 have h5:decide (((7+1:Nat):Int)<8)=false:=by decide
 have h6:=Pn (n:=((Ik r (7+1):Nat):Int)) (by omega) (by show ((Ik r 8:Nat):Int)<256;omega)
 simp(disch:=omega) only [Ku,h5,h6,DN,SL,SM]
theorem Zvm (n r:Nat) (h:r<128) (hn:n<=100000):∀d i:Nat,i+d=n->AV Ku (.b1 (n:Int) (JY r i) ((Ee r (8*i):Nat):Int) (i:Int))=some (JY r n):=by
 intro d
 induction d with
 | zero=>
  intro i hi
  rw [show i=n by omega]
  refine(AZ _ _).trans ?_
  simp only [Ku,Int.lt_irrefl,DN,SL,SM]
 | succ d ih=>
  intro i hi
  refine(AZ _ _).trans ?_
  have hl:i<n:=by omega
  simp(disch:=omega) only [Ku,hl,DN,SL,SM]
  refine(Zum (n:Int) (JY r i) (Ee r (8*i)) i (fH h _) (by omega) (by rw [YO];omega)).trans ?_
  have:=ih (i+1) (by omega)
  rw [show 8*(i+1)=8*i+8 by omega,Z3G] at this
  exact this
theorem Zm2 (c:Int) (n:Nat) (hn:n<=100000):kV c (n:Int)=some (JY (Jh c) n):=(AZ _ _).trans (by
 simp only [Ku,ZsW,DN,SL,SM]
 exact Zvm n (Jh c) (Zcf c) hn n 0 (by omega))
theorem or_bit (v y j:Nat) (hj:j<8) (hv:v<2 ^ j) (hy:y<=1):bits .or .u8 (v:Int) ((2 ^ j*y:Nat):Int)=((v+2 ^ j*y:Nat):Int):=by
 have hp:2 ^ j<=128:=Nat.pow_le_pow_right (j:=7) (by decide) (by omega)
 have hm:2 ^ j*y<=2 ^ j*1:=Nat.mul_le_mul_left _ hy
 rw [ZeZ .u8 8 (by decide) wraps_u8 j (by omega) (v:Int) ((2 ^ j*y:Nat):Int) (by omega) (by
  rw [show (2:Int) ^ j=((2 ^ j:Nat):Int) by simp,<- Int.natCast_emod,Nat.mul_mod_right];rfl) (by omega) (by omega) (by
  rw [show (2:Int) ^ j=((2 ^ j:Nat):Int) by simp];omega)]
 omega
theorem Zef (pre post:List Int) (v:Int) (i:Nat) (h:pre.length=i):(pre++v::post)[i]? = some v:=by
 subst h
 simp
theorem Zeh (pre post:List Int) (v u:Int) (i:Nat) (h:pre.length=i):(pre++v::post).set i u=pre++u::post:=by
 subst h
 simp
theorem Zq2 (n:Int) (pre post:List Int) (r j i:Nat) (h:r<128) (hj:j<8) (hp:pre.length=i) :
  AV Mc (.b2 ((Ee r j:Nat):Int) (pre++((Ik r j:Nat):Int)::post) (i:Int) n (i:Int) (j:Int))=AV Mc (.b2 ((Ee r (j+1):Nat):Int) (pre++((Ik r (j+1):Nat):Int)::post) (i:Int) n (i:Int) ((j+1:Nat):Int)):=(AZ _ _).trans (by
 obtain⟨b1,b2,b3,b4,b5⟩:=Zey h hj
 have h5:decide ((j:Int)<8)=true:=decide_eq_true (by omega)
 have h6:decide ((0:Int)<=(i:Int)/\(i:Int)<((pre.length+(post.length+1):Nat):Int))=true:=decide_eq_true ⟨by omega,by omega⟩
 have h7:decide ((0:Int)<=(j:Int))=true:=decide_eq_true (by omega)
 have h8:IntKind.wrap .u8 (AP (((Ee r j / 64:Nat):Int)*2 ^ (min j (IntKind.bits .i64))))=((2 ^ j*(Ee r j / 64):Nat):Int):=by
  rw [show min j (IntKind.bits .i64)=j from Nat.min_eq_left (by show j<=64;omega),show ((Ee r j / 64:Nat):Int)*2 ^ j=((2 ^ j*(Ee r j / 64):Nat):Int) by rw [Int.natCast_mul,Int.mul_comm];simp,HY (by omega) (by omega),Pn (by omega) (by omega)]
 have h9:(decide (0<=i))=true:=rfl
 simp only [Mc,DN,h5,h6,h7,h8,h9,cond_true,Znr _ b5,Option.bind_some,beq_self_eq_true,Bool.and_self,Int.toNat_natCast,Zef _ _ _ _ hp,Zeh _ _ _ _ _ hp,or_bit _ _ _ hj b4 b2,List.length_append,List.length_cons,QU j (by omega)]
 rfl)
theorem ZmY (n:Int) (pre post:List Int) (r i:Nat) (h:r<128) (hp:pre.length=i) (hi:i<1000000) :
  AV Mc (.b2 (r:Int) (pre++0::post) (i:Int) n (i:Int) 0)=AV Mc (.b1 ((Ee r 8:Nat):Int) (pre++[((Ik r 8:Nat):Int)]++post) n ((i+1:Nat):Int)):=by
 have s:=fun j hj=>Zq2 n pre post r j i h hj hp
 refine(s 0 (by omega)).trans ((s 1 (by omega)).trans ((s 2 (by omega)).trans ((s 3 (by omega)).trans ((s 4 (by omega)).trans ((s 5 (by omega)).trans ((s 6 (by omega)).trans ((s 7 (by omega)).trans ((AZ _ _).trans ?_))))))))
 have h5:decide (((7+1:Nat):Int)<8)=false:=by decide
 simp(disch:=omega) only [Mc,h5,QU i (by omega),DN,cond_false,cond_true,beq_self_eq_true]
 rw [List.append_assoc]
 rfl
theorem Znx (n r:Nat) (h:r<128) (hn:n<=100000):∀d i:Nat,i+d=n->AV Mc (.b1 ((Ee r (8*i):Nat):Int) (JY r i++List.replicate (n - i) 0) (n:Int) (i:Int))=some ⟨JY r n⟩:=by
 intro d
 induction d with
 | zero=>
  intro i hi
  rw [show i=n by omega,Nat.sub_self,List.replicate_zero,List.append_nil]
  refine(AZ _ _).trans ?_
  simp only [Mc,Int.lt_irrefl,DN,SL,SM]
 | succ d ih=>
  intro i hi
  refine(AZ _ _).trans ?_
  have hl:i<n:=by omega
  simp(disch:=omega) only [Mc,hl,DN,SL,SM]
  rw [show n - i=(n - (i+1))+1 by omega,List.replicate_succ]
  refine(ZmY (n:Int) (JY r i) (List.replicate (n - (i+1)) 0) (Ee r (8*i)) i (fH h _) (YO r i) (by omega)).trans ?_
  have:=ih (i+1) (by omega)
  rw [show 8*(i+1)=8*i+8 by omega,Z3G] at this
  exact this
theorem Zji (c:Int) (n:Nat) (hn:n<=100000):y8 c (n:Int)=some ⟨JY (Jh c) n⟩:=(AZ _ _).trans (by
 have h1:decide ((0:Int)<=(n:Int)/\(n:Int)<=(n:Int)/\n*1<=lim/\(n:Int)<=((maxLen:Nat):Int))=true:=by
  have:=SA
  have:=Rj
  exact decide_eq_true ⟨by omega,by omega,by omega,by omega⟩
 simp only [Mc,DN,ZlX,Option.bind_some,Int.toNat_natCast,h1,cond_true,beq_self_eq_true,List.length_replicate]
 exact Znx n (Jh c) (Zcf c) hn n 0 (by omega))
def xw (s b:List Int):List Int:=List.zipWith (fun x y=>bits .xor .u8 x y) s b
theorem ZEk {s b:List Int} (h:s.length=b.length):(xw s b).length=b.length:=by
 unfold xw
 rw [List.length_zipWith,h,Nat.min_self]
theorem ZzV (x y:Int):bits .xor .u8 x y=bits .xor .u8 y x:=by
 simp only [bits,BitVec.xor_comm]
theorem ZdY (s b:List Int) (i:Nat) (hs:i<s.length) (hb:i<b.length):xw (s.take (i+1)) (b.take (i+1))=xw (s.take i) (b.take i)++[bits .xor .u8 s[i] b[i]]:=by
 unfold xw
 rw [List.take_succ_eq_append_getElem hs,List.take_succ_eq_append_getElem hb,List.zipWith_append (by rw [List.length_take,List.length_take];omega)]
 rfl
theorem ZdO (s b:List Int) (i:Nat) (hs:i<=s.length) (hb:i<=b.length):(xw (s.take i) (b.take i)).length=i:=by
 rw [ZEk (by rw [List.length_take,List.length_take];omega),List.length_take]
 omega
theorem ZnT (s b:List Int) (hl:s.length=b.length) (hn:b.length<=100000):∀d i:Nat,i+d=b.length->AV Wp (.b1 (xw (s.take i) (b.take i)++s.drop i) b (b.length:Int) (i:Int))=some (xw s b):=by
 intro d
 induction d with
 | zero=>
  intro i hi
  have e:i=b.length:=by omega
  subst e
  refine(AZ _ _).trans ?_
  simp only [Wp,Int.lt_irrefl,DN,SL,SM]
  rw [List.drop_eq_nil_of_le (by omega),List.append_nil,List.take_of_length_le (by omega),List.take_of_length_le (by omega)]
 | succ d ih=>
  intro i hi
  refine(AZ _ _).trans ?_
  have h1:i<b.length:=by omega
  have h2:i<s.length:=by omega
  have hp:=ZdO s b i (by omega) (by omega)
  have h6:decide ((0:Int)<=(i:Int)/\(i:Int)<((i+((s.drop (i+1)).length+1):Nat):Int))=true:=decide_eq_true ⟨by omega,by omega⟩
  have h7:decide ((0:Int)<=(i:Int)/\(i:Int)<(b.length:Int))=true:=decide_eq_true ⟨by omega,by omega⟩
  have h8:decide ((i:Int)<(b.length:Int))=true:=decide_eq_true (by omega)
  have h9:(decide (0<=i))=true:=rfl
  rw [List.drop_eq_getElem_cons h2]
  simp only [Wp,DN,h7,h8,h9,cond_true,Option.bind_some,beq_self_eq_true,Bool.and_self,Int.toNat_natCast,Zef _ _ _ _ hp,Zeh _ _ _ _ _ hp,List.length_append,List.length_cons,hp,h6,List.getElem?_eq_getElem h1,QU i (by omega)]
  have:=ih (i+1) (by omega)
  rw [ZdY s b i h2 h1,List.append_assoc] at this
  exact this
theorem Zln (c:Int) (b:List Int) (hn:b.length<=100000):Zz c b=some (xw (JY (Jh c) b.length) b):=(AZ _ _).trans (by
 simp only [Wp,DN,Zji c b.length hn,Option.bind_some,beq_self_eq_true,cond_true]
 exact ZnT (JY (Jh c) b.length) b (YO _ _) hn b.length 0 (by omega))
theorem Zvg (s b:List Int) (hl:s.length=b.length) (hn:b.length<=100000):∀d i:Nat,i+d=b.length->AV UX (.b1 b s (xw (s.take i) (b.take i)) (i:Int))=some ⟨xw s b⟩:=by
 intro d
 induction d with
 | zero=>
  intro i hi
  have e:i=b.length:=by omega
  subst e
  refine(AZ _ _).trans ?_
  simp only [UX,Int.lt_irrefl,DN,SL,SM]
  rw [List.take_of_length_le (by omega),List.take_of_length_le (by omega)]
 | succ d ih=>
  intro i hi
  refine(AZ _ _).trans ?_
  have h1:i<b.length:=by omega
  have h2:i<s.length:=by omega
  have hp:=ZdO s b i (by omega) (by omega)
  simp(disch:=omega) only [UX,h1,h2,hp,DN,SL,SM]
  have:=ih (i+1) (by omega)
  rw [ZdY s b i h2 h1,ZzV] at this
  exact this
theorem Zt9 (c:Int) (b:List Int) (hn:b.length<=100000):YD c b=some ⟨xw (JY (Jh c) b.length) b⟩:=(AZ _ _).trans (by
 simp only [UX,Zm2 c b.length hn,DN,SL,SM]
 exact Zvg (JY (Jh c) b.length) b (YO _ _) hn b.length 0 (by omega))
open Go Go.Proofs.YtjodhcdmhobmoaaGreatDoor.Le Go.Proofs.YtjodhcdmhobmoaaGreatDoor.Na
theorem Qd (n:Int):IntKind.u16.wrap n=n % 65536:=by simp [IntKind.wrap,IntKind.bits,IntKind.signed]
theorem wu32L (n:Int):IntKind.u32.wrap n=n % 4294967296:=by simp [IntKind.wrap,IntKind.bits,IntKind.signed]
theorem ZAP (x a i:Nat) (hx:x<65536) (ha:a<65536) (hi:i<8):AV Tz (.b1 x a i)=AV Tz (.b1 x (a ||| ((x >>> i &&& 257) <<< (7 - i)):Nat) (i+1:Nat)):=by
 refine(AZ _ _).trans ?_
 simp only [Tz,DN]
 have hs:(x >>> i &&& 257) <<< (7 - i)<65536:=by
  have h1:(x >>> i &&& 257)<=257:=Nat.and_le_right
  rw [Nat.shiftLeft_eq]
  have h2:2 ^ (7 - i)<=2 ^ 7:=Nat.pow_le_pow_right (by decide) (by omega)
  exact Nat.lt_of_le_of_lt (Nat.mul_le_mul h1 h2) (by decide)
 rw [show decide ((i:Int)<8)=true by simp;omega,Eb (n:=7 - (i:Int)) (by omega) (by omega),show decide ((0:Int)<=(i:Int))=true by simp,show decide ((0:Int)<=7 - (i:Int))=true by simp;omega]
 simp only [cond_true]
 rw [Eb (n:=(i:Int)+1) (by omega) (by omega),show (i:Int).toNat=i by omega,show (7 - (i:Int)).toNat=7 - i by omega,
  show min i IntKind.u16.bits=i from Nat.min_eq_left (by simp [IntKind.bits];omega),show min (7 - i) IntKind.u16.bits=7 - i from Nat.min_eq_left (by simp [IntKind.bits];omega),fd]
 rw [show (257:Int)=((257:Nat):Int) from rfl,u16_and_nat _ _ (Nat.lt_of_le_of_lt (Nat.div_le_self _ _) hx) (by decide),Qd]
 rw [show ((x / 2 ^ i &&& 257:Nat):Int)*2 ^ (7 - i)=(((x >>> i &&& 257) <<< (7 - i):Nat):Int) by rw [Nat.shiftLeft_eq,Nat.shiftRight_eq_div_pow];simp]
 have hm:(((x >>> i &&& 257) <<< (7 - i):Nat):Int) % 65536=(((x >>> i &&& 257) <<< (7 - i):Nat):Int):=Int.emod_eq_of_lt (Int.natCast_nonneg _) (Int.ofNat_lt.mpr hs)
 rw [hm,u16_or_nat _ _ ha hs]
 rfl
theorem ZCJ {a b:Nat} (ha:a<65536) (hb:b<65536):a ||| b<65536:=Nat.or_lt_two_pow (n:=16) ha hb
theorem sh_lt (x i:Nat):(x >>> i &&& 257) <<< (7 - i)<65536:=by
 have h1:(x >>> i &&& 257)<=257:=Nat.and_le_right
 rw [Nat.shiftLeft_eq]
 have h2:2 ^ (7 - i)<=2 ^ 7:=Nat.pow_le_pow_right (by decide) (by omega)
 exact Nat.lt_of_le_of_lt (Nat.mul_le_mul h1 h2) (by decide)
def Vr (x:Nat):Nat->Nat
 | 0=>0
 | i+1=>Vr x i ||| ((x >>> i &&& 257) <<< (7 - i))
theorem ZEb (x i:Nat):Vr x i<65536:=by
 induction i with
 | zero=>exact(by decide:(0:Nat)<65536)
 | succ i ih=>exact ZCJ ih (sh_lt x i)
theorem ZAK (x:Nat) (hx:x<65536):∀j i:Nat,i+j=8->AV Tz (.b1 x (Vr x i:Nat) i)=some ((Vr x 8:Nat):Int):=by
 intro j
 induction j with
 | zero=>
  intro i hi
  refine(AZ _ _).trans ?_
  simp only [Tz,DN]
  rw [show decide ((i:Int)<8)=false by simp;omega,show i=8 by omega]
  rfl
 | succ j ih=>
  intro i hi
  rw [ZAP x _ i hx (ZEb x i) (by omega)]
  exact ih (i+1) (by omega)
theorem ZBE (x:Nat):Vr x 8=J7 x:=by
 simp only [Vr,J7,Nat.zero_or]
theorem ZmI (x:Nat) (hx:x<65536):Z00 (x:Int)=some ((J7 x:Nat):Int):=(AZ _ _).trans (by
 rw [<- ZBE]
 exact ZAK x hx 8 0 (by omega))
theorem ZAx (k:Nat):∀j i x r:Nat,i+j=8->x<256->r<2 ^ i->AV Wn (.b1 x r i)=some ((rv j x r:Nat):Int):=by
 intro j
 induction j with
 | zero=>
  intro i x r hi hx hr
  refine(AZ _ _).trans ?_
  simp only [Wn,DN]
  rw [show decide ((i:Int)<8)=false by simp;omega]
  rfl
 | succ j ih=>
  intro i x r hi hx hr
  have hr' : r<256:=Nat.lt_of_lt_of_le hr (Nat.le_trans (Nat.pow_le_pow_right (by decide) (show i<=8 by omega)) (by decide))
  refine(AZ _ _).trans ?_
  simp only [Wn,DN]
  rw [show decide ((i:Int)<8)=true by simp;omega]
  simp only [cond_true]
  rw [Int.tdiv_eq_ediv_of_nonneg (Int.natCast_nonneg _),Int.tmod_eq_emod_of_nonneg (Int.natCast_nonneg _)]
  rw [Eb (n:=(x:Int) / 2) (by omega) (by omega),Eb (n:=2*(r:Int)) (by omega) (by omega),Eb (n:=2*(r:Int)+(x:Int) % 2) (by omega) (by omega),Eb (n:=(i:Int)+1) (by omega) (by omega)]
  exact ih (i+1) (x / 2) (2*r+x % 2) (by omega) (by omega) (by rw [Nat.pow_succ];omega)
theorem Z7f (x:Nat) (hx:x<256):Wu (x:Int)=some ((rv 8 x 0:Nat):Int):=(AZ _ _).trans (ZAx 0 8 0 x 0 (by omega) hx (by decide))
def NY (c:Nat):Nat->Nat->Nat
 | 0,a=>a ^^^ c
 | k+1,a=>NY c k ((17*J7 a+c) % 65536)
theorem ZEM (c:Nat) (hc:c<65536):∀k a,a<65536->NY c k a<65536:=by
 intro k
 induction k with
 | zero=>intro a ha;exact Nat.xor_lt_two_pow (n:=16) ha hc
 | succ k ih=>intro a ha;exact ih _ (Nat.mod_lt _ (by decide))
theorem ZB3 (c:Nat) (hc:c<65536):∀j i a:Nat,i+j=3->a<65536->AV X8 (.b1 c a i)=some ((NY c j a:Nat):Int):=by
 intro j
 induction j with
 | zero=>
  intro i a hi ha
  refine(AZ _ _).trans ?_
  simp only [X8,DN]
  rw [show decide ((i:Int)<3)=false by simp;omega]
  simp only [cond_false]
  rw [u16_xor_nat _ _ ha hc]
  rfl
 | succ j ih=>
  intro i a hi ha
  refine(AZ _ _).trans ?_
  simp only [X8,DN]
  rw [show decide ((i:Int)<3)=true by simp;omega,ZmI a ha]
  simp only [cond_true,Option.bind_some]
  rw [Qd,Qd,Eb (by omega) (by omega)]
  have hl:=Zez a ha
  rw [show (((J7 a:Nat):Int)*17 % 65536+(c:Int)) % 65536=(((17*J7 a+c) % 65536:Nat):Int) by omega]
  exact ih (i+1) _ (by omega) (Nat.mod_lt _ (by decide))
theorem Z9l (c d:Nat) (hc:c<65536) (hd:d<65536):lX (c:Int) (d:Int)=some ((NY d 3 (c ^^^ d):Nat):Int):=(AZ _ _).trans (by
 simp only [X8,DN]
 rw [u16_xor_nat _ _ hc hd]
 exact ZB3 d hd 3 0 _ (by omega) (Nat.xor_lt_two_pow (n:=16) hc hd))
theorem ZAf (c:Nat) (hc:c<65536):∀j i a:Nat,i+j=3->a<65536->AV UG (.b1 c a i)=some ((NY c j a:Nat):Int):=by
 intro j
 induction j with
 | zero=>
  intro i a hi ha
  refine(AZ _ _).trans ?_
  simp only [UG,DN]
  rw [show decide ((i:Int)<3)=false by simp;omega]
  simp only [cond_false]
  rw [u16_xor_nat _ _ ha hc]
  rfl
 | succ j ih=>
  intro i a hi ha
  refine(AZ _ _).trans ?_
  simp only [UG,DN]
  rw [show decide ((i:Int)<3)=true by simp;omega,Eb (n:=(a:Int)) (by omega) (by omega),Eb (n:=(c:Int)) (by omega) (by omega)]
  rw [Int.tdiv_eq_ediv_of_nonneg (Int.natCast_nonneg _),Int.tmod_eq_emod_of_nonneg (Int.natCast_nonneg _),Eb (n:=(a:Int) / 256) (by omega) (by omega)]
  rw [show (a:Int) / 256=((a / 256:Nat):Int) by omega,show (a:Int) % 256=((a % 256:Nat):Int) by omega,Z7f _ (by omega),Z7f _ (by omega)]
  simp only [cond_true,Option.bind_some]
  have hl:=Zez a ha
  have hb1:=(VF (a % 256) (Nat.mod_lt _ (by omega))).2.2
  have hb2:=(VF (a / 256) (by omega)).2.2
  have he:=ZeO a ha
  generalize rv 8 (a / 256) 0=h1 at *
  generalize rv 8 (a % 256) 0=h2 at *
  rw [Eb (n:=256*(h1:Int)) (by omega) (by omega),Eb (n:=256*(h1:Int)+(h2:Int)) (by omega) (by omega),Eb (n:=17*(256*(h1:Int)+(h2:Int))) (by omega) (by omega),Eb (n:=17*(256*(h1:Int)+(h2:Int))+c) (by omega) (by omega),Int.tmod_eq_emod_of_nonneg (by omega),Qd,Eb (n:=(i:Int)+1) (by omega) (by omega)]
  rw [show (17*(256*(h1:Int)+(h2:Int))+c) % 65536 % 65536=(((17*J7 a+c) % 65536:Nat):Int) by omega]
  exact ih (i+1) _ (by omega) (Nat.mod_lt _ (by decide))
theorem Z91 (c d:Nat) (hc:c<65536) (hd:d<65536):X0 (c:Int) (d:Int)=some ((NY d 3 (c ^^^ d):Nat):Int):=(AZ _ _).trans (by
 simp only [UG,DN]
 rw [u16_xor_nat _ _ hc hd]
 exact ZAf d hd 3 0 _ (by omega) (Nat.xor_lt_two_pow (n:=16) hc hd))
def ident (a:Nat):Nat:=(a / 65536) ^^^ (a % 65536)
theorem Uk (a:Nat) (ha:a<4294967296):ident a<65536:=Nat.xor_lt_two_pow (n:=16) (by omega) (by omega)
theorem ZaR (a:Nat) (ha:a<4294967296):nJ (a:Int)=some ((ident a:Nat):Int):=(AZ _ _).trans (by
 simp only [Zaz,DN]
 rw [fd,Qd,Qd,show ((a / 2 ^ 16:Nat):Int) % 65536=((a / 65536:Nat):Int) by omega,show (a:Int) % 65536=((a % 65536:Nat):Int) by omega,u16_xor_nat _ _ (by omega) (by omega)]
 rfl)
theorem Za6 (a:Nat) (ha:a<4294967296):YW (a:Int)=some ((ident a:Nat):Int):=(AZ _ _).trans (by
 simp only [Z0Q,DN]
 rw [Int.tdiv_eq_ediv_of_nonneg (Int.natCast_nonneg _),Int.tmod_eq_emod_of_nonneg (Int.natCast_nonneg _),Qd,Qd,wu32L,show (a:Int) / 65536 % 4294967296 % 65536=((a / 65536:Nat):Int) by omega,show (a:Int) % 65536 % 65536=((a % 65536:Nat):Int) by omega,u16_xor_nat _ _ (by omega) (by omega)]
 rfl)
def draw (e a:Nat):Nat:=NY (ident a) 3 (e ^^^ ident a)
theorem rW (e a:Nat) (he:e<65536) (ha:a<4294967296):draw e a<65536:=ZEM _ (Uk a ha) 3 _ (Nat.xor_lt_two_pow (n:=16) he (Uk a ha))
def mix (m:Int) (e a:Nat):Int:=if has m ((draw e a % 37:Nat):Int) then ((draw e a % 37:Nat):Int) else MR m (cnt m*(draw e a:Nat) / 65536)
theorem tm37 (n:Nat) (h:n<65536):Int.tmod (AP (n:Int)) 37=((n % 37:Nat):Int):=by
 rw [Eb (by omega) (by omega),Int.tmod_eq_emod_of_nonneg (Int.natCast_nonneg _)];omega
theorem Zfe (m:Int) (n:Nat) (h:n<65536):0<=cnt m*(n:Int)/\cnt m*(n:Int)<=2424832:=by
 have:=ZE6 m
 refine⟨Int.mul_nonneg this.1 (by omega),?_⟩
 exact Int.le_trans (Int.mul_le_mul this.2 (show (n:Int)<=65536 by omega) (by omega) (by decide)) (by decide)
theorem ZyR (m e a:Nat) (hm:m<18446744073709551616) (he:e<65536) (ha:a<4294967296):Z2w (m:Int) (e:Int) (a:Int)=some (mix m e a):=(AZ _ _).trans (by
 simp only [Zcd,DN,ZaR a ha,Option.bind_some,Z9l e _ he (Uk a ha),Z8y (m:Int) _ (Int.natCast_nonneg m),Zj m hm,Z7Z,mix]
 rw [show NY (ident a) 3 (e ^^^ ident a)=draw e a from rfl]
 have hd:=rW e a he ha
 have hc:=Zfe m _ hd
 rw [tm37 _ hd,Eb (n:=((draw e a:Nat):Int)) (by omega) (by omega),Eb (by omega) (by omega),show ((2:Int) ^ 16)=65536 from rfl,Int.fdiv_eq_ediv_of_nonneg _ (by decide)]
 cases has (m:Int) ((draw e a % 37:Nat):Int)<;>rfl)
theorem ZyP (m e a:Nat) (hm:m<18446744073709551616) (he:e<65536) (ha:a<4294967296):qI (m:Int) (e:Int) (a:Int)=some (mix m e a):=(AZ _ _).trans (by
 simp only [Z2P,DN,Za6 a ha,Option.bind_some,Z91 e _ he (Uk a ha),Z2F m hm,Z0P m hm,Zd3 m hm,mix]
 rw [show NY (ident a) 3 (e ^^^ ident a)=draw e a from rfl]
 have hd:=rW e a he ha
 have hc:=Zfe m _ hd
 rw [tm37 _ hd,Eb (n:=((draw e a:Nat):Int)) (by omega) (by omega),Eb (n:=cnt (m:Int)*((draw e a:Nat):Int)) (by omega) (by omega),Int.tdiv_eq_ediv_of_nonneg hc.1,Eb (by omega) (by omega)]
 cases has (m:Int) ((draw e a % 37:Nat):Int)<;>rfl)
def step (l h:Int):Int:=Int.tmod (AP ((AP ((Int.tmod l (37:Int))+(Int.tmod h (37:Int))))+(74:Int))) (37:Int)
theorem ZvM (l h:Int):Z27 l h=some (step l h):=(AZ _ _).trans rfl
theorem Zv6 (l h:Int):oQ l h=some (step l h):=(AZ _ _).trans rfl
structure PWF (p:Ey):Prop where
 acc:0<=p.IC/\p.IC<4294967296
 map:0<=p.Map/\p.Map<18446744073709551616
def gB (p:Ey) (e:Nat) (l:Int):Int×Int:=
 if p.KL=2 then (mix p.Map e p.IC.toNat,((draw e p.IC.toNat % 37:Nat):Int)) else (gV p.Map (step l p.Hop),step l p.Hop)
theorem ZvR (p:Ey) (hp:PWF p) (e:Nat) (he:e<65536) (l:Int):Z26 p (e:Int) l=some (gB p e l):=(AZ _ _).trans (by
 obtain⟨a,ha⟩:∃a:Nat,p.IC=a:=⟨p.IC.toNat,by have:=hp.acc;omega⟩
 obtain⟨m,hm⟩:∃m:Nat,p.Map=m:=⟨p.Map.toNat,by have:=hp.map;omega⟩
 have h1:=hp.acc
 have h2:=hp.map
 simp only [ZbK,DN,gB,ha,hm,Int.toNat_natCast] at *
 rw [ZaR a (by omega)]
 simp only [Option.bind_some]
 rw [Z9l e _ he (Uk a (by omega)),ZyR m e a (by omega) he (by omega),ZvM]
 simp only [Option.bind_some]
 rw [Zl5 m (by omega)]
 rw [show NY (ident a) 3 (e ^^^ ident a)=draw e a from rfl]
 have hd:=rW e a he (by omega)
 by_cases h:p.KL=2
 ·rw [h,show Int.tmod ((draw e a:Nat):Int) 37=((draw e a % 37:Nat):Int) by rw [Int.tmod_eq_emod_of_nonneg (Int.natCast_nonneg _)];omega,Eb (by omega) (by omega)];rfl
 ·rw [show (p.KL==2)=false by simpa using h,if_neg h];rfl)
theorem Zu9 (p:Ey) (hp:PWF p) (e:Nat) (he:e<65536) (l:Int):Yz p (e:Int) l=some (gB p e l):=(AZ _ _).trans (by
 obtain⟨a,ha⟩:∃a:Nat,p.IC=a:=⟨p.IC.toNat,by have:=hp.acc;omega⟩
 obtain⟨m,hm⟩:∃m:Nat,p.Map=m:=⟨p.Map.toNat,by have:=hp.map;omega⟩
 have h1:=hp.acc
 have h2:=hp.map
 simp only [Z1Z,DN,gB,ha,hm,Int.toNat_natCast] at *
 rw [Za6 a (by omega),ZyP m e a (by omega) he (by omega),Zv6]
 simp only [Option.bind_some]
 rw [Z91 e _ he (Uk a (by omega)),ZrT m (by omega)]
 simp only [Option.bind_some]
 rw [show NY (ident a) 3 (e ^^^ ident a)=draw e a from rfl]
 have hd:=rW e a he (by omega)
 by_cases h:p.KL=2
 ·rw [h,tm37 _ hd];rfl
 ·rw [show (p.KL==2)=false by simpa using h,if_neg h];rfl)
theorem Z3Z {a:BU} (h:DT a):I5 a.Az:=⟨by have:=h.2.2.1;omega,fun x hx=>by have:=(h.2.2.2.1 x hx).2.2.2.1;omega⟩
theorem Zeg {l:A8} (hp:JG l.Ce) (he:R16 l.Event):∃c,kY l=some c/\UA l=some c:=by
 obtain⟨e,hE⟩:∃e:Nat,l.Event=e:=⟨l.Event.toNat,by have:=he.1;omega⟩
 have he2:e<65536:=by have:=he.2;omega
 have hw:PWF l.Ce:=⟨hp.1,hp.2.2⟩
 refine⟨(gB l.Ce e l.Last).1,(AZ _ _).trans ?_,(AZ _ _).trans ?_⟩
 ·simp only [Z7k,DN,hE,ZvR _ hw e he2,Option.bind_some]
 ·simp only [Z0d,DN,hE,Zu9 _ hw e he2,Option.bind_some]
theorem ZAt (w:QJ):yH w=some (w.Link.Bc==0):=(AZ _ _).trans rfl
theorem ZAd (L z z' : A8) (said:List Am) (p:BM) (hp:JG L.Ce) (he:R16 L.Event) (hq:CO p.BG):AV Xz (.b1 z ⟨L,said⟩ p)=AV U5 (.b1 L z' p):=by
 obtain⟨e,h1,h2,h3⟩:=Z9E p hq
 have h1' : kF p=some e:=(ZjK p).trans ((ZoF p).symm.trans h1)
 obtain⟨c,c1,c2⟩:=Zeg hp he
 obtain⟨x,x1,x2,x3⟩:=Z97 L.Ce.NT e.1 (by omega) h3
 have x1' : mO L.Ce.NT e.1=some x:=(ZqH _ hp.2.1 _ h3 (by omega)).trans ((Zpg _ hp.2.1 _ h3 (by omega)).symm.trans x1)
 have w1:=Zln c x (by omega)
 have w2:=Zt9 c x (by omega)
 refine(AZ _ _).trans (Eq.trans ?_ (AZ _ _).symm)
 simp only [Xz,U5,DN,h1,h1',c1,c2,x1,x1',w1,w2,Option.bind_some,beq_self_eq_true,cond_true]
theorem ZFJ {k:Int} {l:A8} (h:BQ k l) (h0:0<=k) (h1:k<=100000):∃y,Z12 l=some y/\UZ l=some y/\BQ k y.1/\y.2.length<=300/\Cc y.2:=by
 obtain⟨y,hy,hk,hl,hb⟩:=ZbC k l h h0 (by omega)
 refine⟨y,?_,hy,hk,hl,hb⟩
 rw [<- hy]
 obtain⟨o,ho,hoq⟩:=Zty k l h h0 (by omega)
 have hcm:∀c∈l.BA,CV c:=h.2.2.2.2.2.1
 have hcl:l.BA.length<=100000:=by have:=h.2.2.2.2.1;omega
 obtain⟨a,b,hm⟩:=ZG3 l [] hcm hcl (Z3Z h.1)
 have hmd:=ZDI l hcm hcl (Z3Z h.1)
 obtain⟨l2,hl2,hok⟩:=Zar k l h h0 (by omega)
 rw [hmd] at hl2
 cases hl2
 obtain⟨r,hr,r1,r2,r3⟩:=Zb0 (moveF l).BB hok.1
 have hr' : oK (moveF l).BB=some r:=(Zyl _ (Z3Z hok.1)).trans hr
 obtain⟨s,hs,s1,s2⟩:=Zc7 (moveF l).ED r.2 hok.2.2.1 r3
 have hs' : kR (moveF l).ED r.2=some s:=(ZF1 _ _ hok.2.2.1.1).trans hs
 have hpm:=hok.2.2.2.1
 have hev:=hok.2.2.2.2.2.2.2.1
 refine(AZ _ _).trans (Eq.trans ?_ (AZ _ _).symm)
 simp only [Xz,U5,DN,ho,hoq,ZAt,hm,hmd,hr,hr',hs,hs',Option.bind_some,beq_self_eq_true,Bool.and_self,cond_true,List.length_nil]
 rw [show (l.Bc != 0) = !(l.Bc==0) from rfl]
 have t1:∀p z z',CO p.BG->AV Xz (.b1 z ⟨{ moveF l with More:=(r.2.MD==1),BB:=r.1 },[]⟩ p)=AV U5 (.b1 { moveF l with More:=(r.2.MD==1),BB:=r.1 } z' p):=fun p z z' hq=>ZAd _ z z' [] p hpm hev hq
 cases (!(l.Bc==0))
 ·simp only [cond_false]
  cases (moveF l).ED.Jp
  ·exact t1 _ _ _ r3
  ·cases (s.2==0)
   ·exact t1 _ _ _ r3
   ·exact t1 _ _ _ s1
 ·rfl
theorem pF:∀(k:Int) (p0:A8),BQ k p0->0<=k->k<=1000000->∃r,U1 p0=some r/\r=p0:=by
 refine fun k p0 h0 h1 h2=>BD (fun(p:aO)=>match p with | .b0 a0=>BQ k a0/\a0=p0) (fun(p:aO)=>(0,0,0)) ?_ _ ?_
 all_goals try (intro p hp;cases p)
 case' b0=>
  dsimp only at hp
  have hx:=hp
  try dsimp only [BQ,DT,BJ,DX,CO,Ei,Es,EP] at hx
  simp only [Z1F]
  obtain⟨g0,rfl⟩:=hp
  repeat' first|(refine ET ?_;rfl)|(refine Dn ?_ ?_)|(refine Aq (Zjo _ (by omega) (by grind)) (fun(v:List Aw) hm hv=>?_);subst hv)
 all_goals
  try dsimp only at hp
  try exact False.elim hp
  try have hx:=hp
  try dsimp only [BQ,DT,BJ,DX,CO,Ei,Es,EP] at hx
  try (repeat with_reducible (have hq:=And.left hp;replace hp:=And.right hp))
  try simp only [Z1F]
  try dsimp only
  repeat' first|(refine ET ?_;dsimp only;try simp(disch:=omega) only [Bv,Bh,List.nil_append,List.drop_zero])|(refine Ec (fun h=>?_) (fun h=>?_)<;>(try simp only [Ff,reduceCtorEq] at h;try simp(disch:=omega) only [Bv] at h))|refine Dn ?_ ?_|refine Gm ?_|with_reducible apply And.intro|rfl|assumption|exact True.intro|omega|exact decide_eq_true (GK _).1|exact GH (by assumption) (by omega)|exact Gl (by assumption) (by omega)|(refine FW.2 ?_;first|omega|grind)|(apply Fz;first|omega|(simp only [Bh];omega))|(simp only [Dx,Bh,Cf,maxLen_eq,kL,kA]<;>omega)|(simp(disch:=omega) only [Bv,decide_eq_true_eq,bne_iff_ne,ne_eq];(repeat' split)<;>omega)|(simp [D6,Ez];done)|grind|(simp only [Dx,Bh,Cf,maxLen_eq,kL,kA]<;>grind)|grind [EG]
theorem Zj4:∀(p0:Il),EP p0->∃r,Z6i p0=some r/\r=true:=by
 refine fun p0 h0=>BD (fun(p:WT)=>match p with | .b0 a0=>EP a0) (fun(p:WT)=>(0,0,0)) ?_ _ ?_
 all_goals try (intro p hp;cases p)
 case' b0 a0=>
  dsimp only at hp
  have hx:=hp
  try dsimp only [BQ,DT,BJ,DX,CO,Ei,Es,EP] at hx
  simp only [yK]
  clear hx
  refine NJ (a:=true) rfl ?_
  refine Ec (fun h=>absurd h (by decide)) (fun _=>?_)
  refine Aq (Zkj a0 hp) (fun(v:A8×Int×Bool) hm hv=>?_)
  refine Ec (fun h=>ET rfl) (fun h=>?_)
  have g0:BQ 20000 v.1:=hv (by simpa using h)
  refine Aq (pF 20000 _ g0 (by omega) (by omega)) (fun(w:A8) hm hw=>?_)
  subst hw
  obtain⟨y,h1,h2,h3,h4,h5⟩:=ZFJ g0 (by omega) (by omega)
  refine NJ h1 (NJ h2 ?_)
  refine Dn (Fz _ (by omega)) (Dn (Fz _ (by omega)) ?_)
  refine Ec (fun _=>?_) (fun h=>absurd h (by simp))
  refine NJ (Zyt y.1 (h3.lwf (by omega))) ?_
  refine Ec (fun _=>?_) (fun h=>nomatch h)
  refine Aq (pF 20000 _ g0 (by omega) (by omega)) (fun(w:A8) hm hw=>?_)
  subst hw
  obtain⟨c,c1,c2⟩:=Zeg (l:=v.1) g0.2.2.2.1 g0.2.2.2.2.2.2.2.1
  refine NJ c1 (NJ c2 ?_)
  refine Ec (fun _=>?_) (fun h=>absurd h (by simp))
  refine Aq (pF 20000 _ g0 (by omega) (by omega)) (fun(w:A8) hm hw=>?_)
  subst hw
  refine NJ (ZmX _) (NJ (ZqD _ g0.2.2.2.2.2.2.2.2.2.2) ?_)
  refine Ec (fun _=>?_) (fun h=>absurd h (by simp))
  refine Aq (pF 20000 _ g0 (by omega) (by omega)) (fun(w:A8) hm hw=>?_)
  subst hw
  refine NJ (Zol _) (NJ (ZtK _) ?_)
  exact ET (beq_self_eq_true _)
 all_goals
  try dsimp only at hp
  try exact False.elim hp
  try have hx:=hp
  try dsimp only [BQ,DT,BJ,DX,CO,Ei,Es,EP] at hx
  try (repeat with_reducible (have hq:=And.left hp;replace hp:=And.right hp))
  try simp only [yK]
  try dsimp only
  repeat' first|(refine ET ?_;dsimp only;try simp(disch:=omega) only [Bv,Bh,List.nil_append,List.drop_zero])|(refine Ec (fun h=>?_) (fun h=>?_)<;>(try simp only [Ff,reduceCtorEq] at h;try simp(disch:=omega) only [Bv] at h))|refine Dn ?_ ?_|refine Gm ?_|with_reducible apply And.intro|rfl|assumption|exact True.intro|omega|exact decide_eq_true (GK _).1|exact GH (by assumption) (by omega)|exact Gl (by assumption) (by omega)|(refine FW.2 ?_;first|omega|grind)|(apply Fz;first|omega|(simp only [Bh];omega))|(simp only [Dx,Bh,Cf,maxLen_eq,kL,kA]<;>omega)|(simp(disch:=omega) only [Bv,decide_eq_true_eq,bne_iff_ne,ne_eq];(repeat' split)<;>omega)|(simp [D6,Ez];done)|grind|(simp only [Dx,Bh,Cf,maxLen_eq,kL,kA]<;>grind)|grind [EG]
end Go.Proofs.YtjodhcdmhobmoaaGreatDoor
