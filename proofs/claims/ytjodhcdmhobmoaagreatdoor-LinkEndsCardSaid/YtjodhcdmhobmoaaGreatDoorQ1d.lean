/-
  A part of the proof.
-/
import Derived.Test.YtjodhcdmhobmoaaGreatDoorQ1c
set_option linter.unusedVariables false
set_option linter.unusedSimpArgs false
namespace Go.Proofs.YtjodhcdmhobmoaaGreatDoor
open Go Go.Proofs.YtjodhcdmhobmoaaGreatDoor.Le
set_option linter.defProp false
set_option maxRecDepth 100000
set_option maxHeartbeats 40000000
theorem ZaF:(∀(p0:Int),∃r,Z9n p0=some r/\True) /\
  (∀(p0 p1 p2:Int),∃r,Zn9 p0 p1 p2=some r/\True) /\
  (∀(p0 p1:Int),∃r,ZdP p0 p1=some r/\True) /\
  (∀(p0 p1:Int) (p2 p3:List Int),p2.length<=200000->p3.length<=200000->∃r,Zgl p0 p1 p2 p3=some r/\r.length=4/\byL r) /\
  (∀(p0:Z7) (p1:Z4) (p2 p3:Int),Z03 p0->Z0M p1->∃r,Z8T p0 p1 p2 p3=some r/\Z03 r.1/\Z0M r.2/\r.1.Zl=p0.Zl) /\
  (∀(p0:Int) (p1:ByteArray) (p2:List Int),ZHN U 5 p1=true->(Z2J U 5 p1).length<=100->p2.length<=1000->∃r,ZbK p0 p1 p2=some r/\R64 r) /\
  (∀(p0:List Zg) (p1 p2:Int),p0.length<=37->∃r,Z90 p0 p1 p2=some r/\R64 r) /\
  (∀(p0:Z7) (p1:Z4) (p2 p3:Int),Z03 p0->Z0M p1->∃r,Z3h p0 p1 p2 p3=some r/\Z03 r):=by
 refine⟨fun p0=>Zj (fun(p:Z68)=>True) (fun(p:Z68)=>(0,0,0)) ?_ _ ?_,
  fun p0 p1 p2=>Zj (fun(p:Za1)=>True) (fun(p:Za1)=>(0,0,0)) ?_ _ ?_,
  fun p0 p1=>Zj (fun(p:Z6Q)=>True) (fun(p:Z6Q)=>(0,0,0)) ?_ _ ?_,
  fun p0 p1 p2 p3 h0 h1=>Zj (fun(p:ZbL)=>match p with | .b0 _ _ a2 a3=>a2.length<=200000/\a3.length<=200000) (fun(p:ZbL)=>(0,0,0)) ?_ _ ?_,
  fun p0 p1 p2 p3 h0 h1=>Zj (fun(p:Z6R)=>match p with | .b0 a0 a1 _ _=>Z03 a0/\Z0M a1/\a0=p0 | .b1 _ a1 a2 a3 a4=>Z03 a1/\Z0M a2/\Z03 a3/\Z0M a4/\a1.Zl=p0.Zl | .b2 _ a1 a2 a3 a4=>Z03 a1/\Z0M a2/\Z03 a3/\Z0M a4/\a1.Zl=p0.Zl | .b3 a0 a1 a2 a3=>Z03 a0/\Z0M a1/\Z03 a2/\Z0M a3/\a0.Zl=p0.Zl | .b4 a0 a1 a2 a3=>Z03 a0/\Z0M a1/\Z03 a2/\Z0M a3/\a0.Zl=p0.Zl | .b5 a0 a1 a2 a3=>Z03 a0/\Z0M a1/\Z03 a2/\Z0M a3/\a0.Zl=p0.Zl) (fun(p:Z6R)=>match p with | .b0 ..=>(0,0,4) | .b1 ..=>(0,0,3) | .b3 ..=>(0,0,2) | .b4 ..=>(0,0,0)|_=>(0,0,1)) ?_ _ ?_,
  fun p0 p1 p2 h0 h1 h2=>Zj (fun(p:Z4X)=>match p with | .b0 _ a1 a2=>ZHN U 5 a1=true/\(Z2J U 5 a1).length<=100/\a2.length<=1000 | .b1 _ a1 a2 a3=>a1.length<=1000/\0<=a3/\a3<=(a1.length:Int)/\(a2.length:Int)<=101+8*a3) (fun(p:Z4X)=>match p with | .b0 ..=>(1,0,0) | .b1 _ a1 _ a3=>(0,((a1.length:Int) - a3).toNat,0)) ?_ _ ?_,
  fun p0 p1 p2 h0=>Zj (fun(p:Z3E)=>match p with | .b0 a0 _ _=>a0.length<=37 | .b1 a0 _ a2=>a0.length<=37/\a2.length<=37/\ZoO a2 | .b2 a0=>a0.length<=37/\ZoO a0) (fun(p:Z3E)=>match p with | .b0 ..=>(1,0,0) | .b1 _ _ a2=>(0,a2.length,1) | .b2 ..=>(0,0,0)) ?_ _ ?_,
  fun p0 p1 p2 p3 h0 h1=>Zj (fun(p:Z1x)=>match p with | .b0 a0 a1 _ _=>Z03 a0/\Z0M a1 | .b1 a0 a1=>Z03 a0/\Z03 a1) (fun(p:Z1x)=>match p with | .b0 ..=>(0,0,1) | .b1 ..=>(0,0,0)) ?_ _ ?_⟩
 all_goals try (intro p hp;cases p)
 all_goals
  try dsimp only at hp
  try exact False.elim hp
  try have hx:=hp
  try dsimp only [Z09,Z0z,Z03,Z3R,Z1m,Z9Z,Z2q,Z1V] at hx
  try (repeat with_reducible (have hq:=And.left hp;replace hp:=And.right hp))
  try simp only [ZdX,Zme,ZeE,Zng,Zej,Zbj,Z97,Z3d]
  try dsimp only
  repeat' first|(refine Z01 ?_;dsimp only;try simp(disch:=omega) only [ZE,List.length_append,List.length_cons,List.length_nil,List.length_take,List.length_drop,List.length_set,List.length_replicate,List.nil_append,List.drop_zero])|(refine Z1c (fun h=>?_) (fun h=>?_)<;>(try simp only [decide_eq_true_eq,decide_eq_false_iff_not,Bool.not_eq_true',Bool.not_eq_false',Bool.not_eq_true,Bool.not_eq_false,beq_iff_eq,bne_iff_ne,beq_eq_false_iff_ne,bne_eq_false_iff_eq,ne_eq,reduceCtorEq,Bool.and_eq_true,Bool.or_eq_true,Classical.not_not] at h;try simp(disch:=omega) only [ZE] at h))|refine Z02 ?_ ?_|refine Z0J ?_|refine Ze (Zei _ ?_ ?_) fun(v:Int) hm hv=>?_|refine Ze (Zy7 _) fun(v:Int) hm hv=>?_|refine Ze (Zl1 _) fun(v:Int) hm hv=>?_|refine Ze (Zjo _ _) fun(v:Int) hm hv=>?_|refine Ze (Zua _ _) fun(v:Bool) hm hv=>?_|refine Ze (ZE2 _ _) fun(v:Int) hm hv=>?_|refine Ze (Zx1 _ _ _ ?_ ?_) fun(v:Z35) hm hv=>?_|refine Ze (ZEs _ _ ?_) fun(v:Int) hm hv=>?_|refine Ze (Zn1 _ _ ?_ ?_) fun(v:Z1R) hm hv=>?_|refine Ze (ZC5 _ _) fun(v:Int) hm hv=>?_|refine Ze (ZvW _) fun(v:Z9) hm hv=>?_|refine Ze (ZEu _ _ _ ?_ ?_) fun(v:((List Z9)×Int)) hm hv=>?_|refine ZJN ?_ fun v hv=>?_|refine Ze (Zpl _) fun(v:(List Int)) hm hv=>?_|refine Ze (ZxD _ _ ?_ ?_) fun(v:Int) hm hv=>?_|refine Ze (ZHQ _ ?_ ?_) fun(v:Int) hm hv=>?_|with_reducible apply And.intro|rfl|assumption|exact True.intro|omega|exact decide_eq_true (Z0X _).1|exact Z0g (by assumption) (by omega)|exact Z0s (by assumption) (by omega)|(refine Z0N.2 ?_;first|omega|grind)|(apply Zkw;first|omega|(simp only [List.length_append,List.length_cons,List.length_nil,List.length_take,List.length_drop,List.length_set,List.length_replicate];omega))|(simp only [Bool.and_eq_true,Bool.or_eq_true,decide_eq_true_eq,beq_iff_eq,bne_iff_ne,beq_self_eq_true,and_self,and_true,true_and,List.length_map,List.length_append,List.length_cons,List.length_nil,List.length_take,List.length_drop,List.length_set,List.length_replicate,Z00,maxLen_eq]<;>omega)|(simp(disch:=omega) only [ZE,decide_eq_true_eq,bne_iff_ne,ne_eq];(repeat' split)<;>omega)|(simp [Z0d,Z2M];done)|grind|(simp only [Bool.and_eq_true,Bool.or_eq_true,decide_eq_true_eq,beq_iff_eq,bne_iff_ne,beq_self_eq_true,and_self,and_true,true_and,List.length_map,List.length_append,List.length_cons,List.length_nil,List.length_take,List.length_drop,List.length_set,List.length_replicate,Z00,maxLen_eq]<;>grind)|grind [Z7N]
def Zxw:=ZaF.1
def ZGZ:=ZaF.2.1
def ZyY:=ZaF.2.2.1
def ZGg:=ZaF.2.2.2.1
def Zlp:=ZaF.2.2.2.2.1
def ZuX:=ZaF.2.2.2.2.2.1
def Zse:=ZaF.2.2.2.2.2.2.1
def Zga:=ZaF.2.2.2.2.2.2.2
end Go.Proofs.YtjodhcdmhobmoaaGreatDoor
namespace Go.Proofs.YtjodhcdmhobmoaaGreatDoor
open Go Go.Proofs.YtjodhcdmhobmoaaGreatDoor.Le
set_option linter.defProp false
set_option maxRecDepth 100000
set_option maxHeartbeats 40000000
theorem Zbv:(∀(p0:ZG),ZAv p0->∃r,Ze3 p0=some r/\True) /\
  (∀(p0:ZG) (p1 p2:Int),ZAv p0->∃r,ZbP p0 p1 p2=some r/\True) /\
  (∀(p0:Z4),Z0M p0->∃r,Z65 p0=some r/\True) /\
  (∀(p0 p1:Int) (p2 p3:List Int),p2.length<=100000->p3.length<=100000->∃r,ZhG p0 p1 p2 p3=some r/\r.length=p3.length+4/\byL r) /\
  (∀(p0:Z7) (p1 p2:Int),Z03 p0->∃r,Zev p0 p1 p2=some r/\Z03 r.1/\r.2.length<=8/\ctL r.2) /\
  (∀(p0 p1 p2 p3:Int),R64 p2->R64 p3->∃r,Zfg p0 p1 p2 p3=some r/\Zkc r) /\
  (∀(p0 p1:Int) (p2 p3:List Int),p2.length<=65536->p3.length<=65536->∃r,ZiS p0 p1 p2 p3=some r/\r.1.length<=65536/\byL r.1) /\
  (∀(p0:Z7) (p1:Z4) (p2 p3:Int),Z03 p0->Z0M p1->∃r,ZbB p0 p1 p2 p3=some r/\Z03 r.1/\r.2.1.length<=8/\ctL r.2.1/\r.2.2.length<=1):=by
 refine⟨fun p0 h0=>Zj (fun(p:Z6Y)=>match p with | .b0 a0=>ZAv a0 | .b1 a0=>ZAv a0 | .b2 a0=>ZAv a0) (fun(p:Z6Y)=>match p with | .b0 ..=>(0,0,2) | .b1 ..=>(0,0,1) | .b2 ..=>(0,0,0)) ?_ _ ?_,
  fun p0 p1 p2 h0=>Zj (fun(p:Z8c)=>match p with | .b0 a0 _ _=>ZAv a0) (fun(p:Z8c)=>(0,0,0)) ?_ _ ?_,
  fun p0 h0=>Zj (fun(p:Z62)=>match p with | .b0 a0=>Z0M a0 | .b1 a0 _=>Z0M a0 | .b2 a0 _=>Z0M a0) (fun(p:Z62)=>match p with | .b0 ..=>(0,0,2) | .b1 ..=>(0,0,1) | .b2 ..=>(0,0,0)) ?_ _ ?_,
  fun p0 p1 p2 p3 h0 h1=>Zj (fun(p:Z8a)=>match p with | .b0 _ _ a2 a3=>a3=p3/\a2.length<=100000/\a3.length<=100000) (fun(p:Z8a)=>(0,0,0)) ?_ _ ?_,
  fun p0 p1 p2 h0=>Zj (fun(p:Z6w)=>match p with | .b0 a0 _ _=>Z03 a0 | .b1 _ _ a2 a3 a4=>a2.length<=8/\ctL a2/\Z03 a3/\Z03 a4/\a2.length+a3.Zl.length<=8 | .b2 _ _ a2 a3 a4=>a2.length<=8/\ctL a2/\Z03 a3/\Z03 a4/\a2.length+a3.Zl.length<=8/\0<a3.Zl.length | .b3 a0 a1 a2=>a0.length<=8/\ctL a0/\Z03 a1/\Z03 a2 | .b4 _ _ a2 a3 a4 a5=>a2.length<=8/\ctL a2/\Z03 a3/\Z03 a4/\Z0M a5/\a2.length+a3.Zl.length<=7) (fun(p:Z6w)=>match p with | .b0 ..=>(1,0,0) | .b1 _ _ _ a3 _=>(0,a3.Zl.length,2) | .b2 _ _ _ a3 _=>(0,a3.Zl.length,1) | .b3 ..=>(0,0,0) | .b4 _ _ _ a3 _ _=>(0,a3.Zl.length,3)) ?_ _ ?_,
  fun p0 p1 p2 p3 h0 h1=>Zj (fun(p:Zbl)=>match p with | .b0 _ _ a2 a3=>R64 a2/\R64 a3) (fun(p:Zbl)=>(0,0,0)) ?_ _ ?_,
  fun p0 p1 p2 p3 h0 h1=>Zj (fun(p:Z82)=>match p with | .b0 _ _ a2 a3=>a2.length<=65536/\a3.length<=65536) (fun(p:Z82)=>(0,0,0)) ?_ _ ?_,
  fun p0 p1 p2 p3 h0 h1=>Zj (fun(p:Z4S)=>match p with | .b0 a0 a1 _ _=>Z03 a0/\Z0M a1 | .b1 _ _ a2 a3 a4=>Z03 a2/\Z0M a3/\Z03 a4 | .b2 _ _ a2 a3 a4=>Z03 a2/\Z0M a3/\Z03 a4 | .b3 a0 a1=>Z03 a0/\Z03 a1 | .b4 _ a1 a2 a3=>Z03 a1/\Z0M a2/\Z03 a3 | .b5 _ _ a2 a3 a4=>Z03 a2/\Z0M a3/\Z03 a4 | .b6 a0 a1 a2=>Z03 a0/\Z0M a1/\Z03 a2 | .b7 _ _ a2 a3 a4=>Z03 a2/\Z0M a3/\Z03 a4 | .b8 a0 a1 a2=>Z03 a0/\Z0M a1/\Z03 a2 | .b9 a0 a1 a2=>Z03 a0/\Z0M a1/\Z03 a2) (fun(p:Z4S)=>match p with | .b0 ..=>(0,0,4) | .b2 ..=>(0,0,3) | .b5 ..=>(0,0,2) | .b7 ..=>(0,0,1)|_=>(0,0,0)) ?_ _ ?_⟩
 all_goals try (intro p hp;cases p)
 all_goals
  try dsimp only at hp
  try exact False.elim hp
  try have hx:=hp
  try dsimp only [Z09,Z0z,Z03,Z3R,Z1m,Z9Z,Z2q,Z1V] at hx
  try (repeat with_reducible (have hq:=And.left hp;replace hp:=And.right hp))
  try simp only [Zdp,Zim,ZdG,ZhY,Zdz,ZlX,Zi7,Zbb]
  try dsimp only
  repeat' first|(refine Z01 ?_;dsimp only;try simp(disch:=omega) only [ZE,List.length_append,List.length_cons,List.length_nil,List.length_take,List.length_drop,List.length_set,List.length_replicate,List.nil_append,List.drop_zero])|(refine Z1c (fun h=>?_) (fun h=>?_)<;>(try simp only [decide_eq_true_eq,decide_eq_false_iff_not,Bool.not_eq_true',Bool.not_eq_false',Bool.not_eq_true,Bool.not_eq_false,beq_iff_eq,bne_iff_ne,beq_eq_false_iff_ne,bne_eq_false_iff_eq,ne_eq,reduceCtorEq,Bool.and_eq_true,Bool.or_eq_true,Classical.not_not] at h;try simp(disch:=omega) only [ZE] at h))|refine Z02 ?_ ?_|refine Z0J ?_|refine Ze (Zhx _) fun(v:Int) hm hv=>?_|refine Ze (Zxw _) fun(v:Int) hm hv=>?_|refine Ze (ZjZ _ _ _) fun(v:Bool) hm hv=>?_|refine Ze (ZGZ _ _ _) fun(v:Int) hm hv=>?_|refine Ze (Zl1 _) fun(v:Int) hm hv=>?_|refine Ze (Zjo _ _) fun(v:Int) hm hv=>?_|refine Ze (ZBE _ _) fun(v:Int) hm hv=>?_|refine Ze (ZyY _ _) fun(v:Int) hm hv=>?_|refine Ze (Z4Y _) fun(v:Zd) hm hv=>?_|refine Ze (ZBY _ ?_) fun(v:Z4) hm hv=>?_|refine Ze (Zvb _) fun(v:Bool) hm hv=>?_|refine Ze (Zta _ _ _ ?_ ?_) fun(v:(List Int)) hm hv=>?_|refine Ze (ZFQ _ _ ?_) fun(v:Z3L) hm hv=>?_|refine Ze (ZGg _ _ _ _ ?_ ?_) fun(v:(List Int)) hm hv=>?_|refine Ze (Zvk _ _ ?_ ?_) fun(v:Bool) hm hv=>?_|refine Zqb ?_ fun v hv=>?_|refine Ze (Zlp _ _ _ _ ?_ ?_) fun(v:(Z7×Z4)) hm hv=>?_|refine Ze (ZuX _ _ _ (by rfl) (by decide +kernel) ?_) fun(v:Int) hm hv=>?_|refine Ze (ZBF _ _ ?_ ?_) fun(v:Bool) hm hv=>?_|refine Ze (Zlt _) fun(v:(List Z4)) hm hv=>?_|refine Ze (Zga _ _ _ _ ?_ ?_) fun(v:Z7) hm hv=>?_|refine Ze (Zi9 _ _ _ ?_ ?_) fun(v:(Z7×(List Z4)×(List Z5))) hm hv=>?_|refine Ze (ZgH _ _ ?_ ?_) fun(v:(Z7×(List Z4)×(List Z5))) hm hv=>?_|refine Ze (Zf0 _ _ _ ?_ ?_) fun(v:(Z7×(List Z4)×(List Z5))) hm hv=>?_|refine Ze (Zgz _ _ ?_ ?_) fun(v:(Z7×(List Z4)×(List Z5))) hm hv=>?_|refine Ze (Zkp _ _ ?_ ?_) fun(v:(Z7×(List Z4)×(List Z5))) hm hv=>?_|with_reducible apply And.intro|rfl|assumption|exact True.intro|omega|exact decide_eq_true (Z0X _).1|exact Z0g (by assumption) (by omega)|exact Z0s (by assumption) (by omega)|(refine Z0N.2 ?_;first|omega|grind)|(apply Zkw;first|omega|(simp only [List.length_append,List.length_cons,List.length_nil,List.length_take,List.length_drop,List.length_set,List.length_replicate];omega))|(simp only [Bool.and_eq_true,Bool.or_eq_true,decide_eq_true_eq,beq_iff_eq,bne_iff_ne,beq_self_eq_true,and_self,and_true,true_and,List.length_map,List.length_append,List.length_cons,List.length_nil,List.length_take,List.length_drop,List.length_set,List.length_replicate,Z00,maxLen_eq]<;>omega)|(simp(disch:=omega) only [ZE,decide_eq_true_eq,bne_iff_ne,ne_eq];(repeat' split)<;>omega)|(simp [Z0d,Z2M];done)|grind|(simp only [Bool.and_eq_true,Bool.or_eq_true,decide_eq_true_eq,beq_iff_eq,bne_iff_ne,beq_self_eq_true,and_self,and_true,true_and,List.length_map,List.length_append,List.length_cons,List.length_nil,List.length_take,List.length_drop,List.length_set,List.length_replicate,Z00,maxLen_eq]<;>grind)|grind [Z7N]
def Zzf:=Zbv.1
def ZDq:=Zbv.2.1
def ZA2:=Zbv.2.2.1
def ZBf:=Zbv.2.2.2.1
def ZyK:=Zbv.2.2.2.2.1
def ZvZ:=Zbv.2.2.2.2.2.1
def ZBB:=Zbv.2.2.2.2.2.2.1
def Zvn:=Zbv.2.2.2.2.2.2.2
end Go.Proofs.YtjodhcdmhobmoaaGreatDoor
namespace Go.Proofs.YtjodhcdmhobmoaaGreatDoor
open Go Go.Proofs.YtjodhcdmhobmoaaGreatDoor.Le
set_option linter.defProp false
set_option maxRecDepth 100000
set_option maxHeartbeats 40000000
theorem Z9s:(∀(p0:Int) (p1:ZG) (p2 p3 p4 p5:Int),ZAv p1->R64 p3->R64 p4->∃r,ZgB p0 p1 p2 p3 p4 p5=some r/\Z09 0 r.1) /\
  (∀(k:Int) (p0:Z8),Z09 k p0->0<=k->k<=1000000->∃r,Z5L p0=some r/\True) /\
  (∀(p0:Z4),Z0M p0->∃r,Za6 p0=some r/\(r.1.length<=60/\byL r.1/\(r.2=0->1<=r.1.length))) /\
  (∀(p0:Zv) (p1:Zk),Zkc p0->Z1m p1.ZH->∃r,Zic p0 p1=some r/\(Z1m r.1.ZH/\(r.2=0->r.1.ZH.Payload.length<=255))) /\
  (∀(k:Int) (p0:Z8) (p1:Int),Z09 k p0->0<=k->k<=900000->∃r,Z8Z p0 p1=some r/\Z09 (k+8) r.1) /\
  (∀(p0:Z7) (p1:Z4) (p2 p3:Int),Z03 p0->Z0M p1->R16 p2->∃r,Zdj p0 p1 p2 p3=some r/\Z03 r.1/\r.2.1.length<=1/\ctL r.2.1) /\
  (∀(k:Int) (p0:Z8) (p1:Int),Z09 k p0->0<=k->k<=1000000->R64 p1->∃r,Zly p0 p1=some r/\Z09 (k+2) r.1) /\
  (∀(p0:Zv) (p1:Zk),Zkc p0->Z1m p1.ZH->∃r,ZiO p0 p1=some r/\Z1m r.1.ZH) /\
  (∀(p0:List Int),p0.length<=65536->byL p0->∃r,Z7E p0=some r/\(Z0M r.1/\(r.2=12->1<=p0.length))):=by
 refine⟨fun p0 p1 p2 p3 p4 p5 h0 h1 h2=>Zj (fun(p:ZaY)=>match p with | .b0 _ a1 _ a3 a4 _=>ZAv a1/\R64 a3/\R64 a4 | .b1 a0=>Z09 0 a0 | .b2 a0 _ a2 a3 _ a5 a6=>ZAv a5/\Z09 0 a6/\Z7N a0/\R64 a2/\R64 a3 | .b3 a0=>Z09 0 a0 | .b4 a0 _ a2 a3 _ a5 a6=>ZAv a5/\Z09 0 a6/\Z7N a0/\R64 a2/\R64 a3) (fun(p:ZaY)=>match p with | .b0 ..=>(0,0,2) | .b2 ..=>(0,0,1)|_=>(0,0,0)) ?_ _ ?_,
  fun k p0 h0 h1 h2=>Zj (fun(p:Z3k)=>match p with | .b0 a0=>Z09 k a0) (fun(p:Z3k)=>(0,0,0)) ?_ _ ?_,
  fun p0 h0=>Zj (fun(p:Z4P)=>match p with | .b0 a0=>Z0M a0 | .b1 a0 a1 _=>Z0M a1/\1<=a0.length/\a0.length<=10/\byL a0 | .b2 a0 a1 _=>Z0M a1/\1<=a0.length/\a0.length<=15/\byL a0 | .b3 a0 a1 _=>Z0M a1/\1<=a0.length/\a0.length<=17/\byL a0 | .b4 a0 a1 _=>Z0M a1/\1<=a0.length/\a0.length<=18/\byL a0 | .b5 a0 a1 _=>Z0M a1/\1<=a0.length/\a0.length<=19/\byL a0 | .b6 a0 a1 _=>Z0M a1/\1<=a0.length/\a0.length<=27/\byL a0 | .b7 a0 a1 _=>Z0M a1/\1<=a0.length/\a0.length<=35/\byL a0 | .b8 a0 a1 _=>Z0M a1/\1<=a0.length/\a0.length<=43/\byL a0 | .b9 a0 a1 _=>Z0M a1/\1<=a0.length/\a0.length<=44/\byL a0) (fun(p:Z4P)=>match p with | .b0 ..=>(0,0,9) | .b1 ..=>(0,0,8) | .b2 ..=>(0,0,7) | .b3 ..=>(0,0,6) | .b4 ..=>(0,0,5) | .b5 ..=>(0,0,4) | .b6 ..=>(0,0,3) | .b7 ..=>(0,0,2) | .b8 ..=>(0,0,1) | .b9 ..=>(0,0,0)) ?_ _ ?_,
  fun p0 p1 h0 h1=>Zj (fun(p:Z8E)=>match p with | .b0 a0 a1=>Zkc a0/\Z1m a1.ZH | .b1 a0 a1 a2=>Zkc a0/\Z1m a1.ZH/\Z1m a2.ZH) (fun(p:Z8E)=>match p with | .b0 ..=>(0,0,1) | .b1 ..=>(0,0,0)) ?_ _ ?_,
  fun k p0 p1 h0 h1 h2=>Zj (fun(p:Z6D)=>match p with | .b0 a0 _=>Z09 k a0 | .b1 _ _ a2 a3=>Z09 k a2/\Z09 k a3 | .b2 _ _ a2 a3=>Z09 k a2/\Z09 k a3 | .b3 _ _ _ a3 a4=>Z09 k a3/\Z09 k a4 | .b4 _ _ a2 a3=>Z09 k a2/\Z09 k a3 | .b5 _ a1 a2 a3 a4 a5 a6=>a1.length<=4/\a2.length<=1/\Zfh a2/\Z09 k a4/\Z09 k a5/\Z03 a6/\(a1.length:Int)=a3/\0<=a3/\a3<=(a2.length:Int) | .b6 a0 _ a2 a3=>a0.length<=4/\Z09 (k+8) a2/\Z09 (k+8) a3 | .b7 a0 a1 a2=>a0.length<=4/\Z09 (k+8) a1/\Z09 (k+8) a2 | .b8 _ a1 _ a3 a4=>a1.length<=4/\Z09 (k+8) a3/\Z09 (k+8) a4 | .b9 a0 a1 a2=>a0.length<=4/\Z09 (k+8) a1/\Z09 (k+8) a2) (fun(p:Z6D)=>match p with | .b0 ..=>(9,0,0) | .b1 ..=>(8,0,0) | .b2 ..=>(7,0,0) | .b3 ..=>(6,0,0) | .b4 ..=>(5,0,0) | .b5 _ _ a2 a3 _ _ _=>(4,((a2.length:Int) - a3).toNat,0) | .b6 ..=>(1,0,0) | .b8 ..=>(3,0,0)|_=>(2,0,0)) ?_ _ ?_,
  fun p0 p1 p2 p3 h0 h1 h2=>Zj (fun(p:Z6V)=>match p with | .b0 a0 a1 a2 _=>Z03 a0/\Z0M a1/\R16 a2 | .b1 a0 a1=>Z03 a0/\Z03 a1 | .b2 _ _ a2 a3 a4=>Z03 a2/\Z0M a3/\Z03 a4 | .b3 _ _ a2 a3 a4=>Z03 a2/\Z0M a3/\Z03 a4 | .b4 a0 a1 a2=>Z03 a0/\Z0M a1/\Z03 a2) (fun(p:Z6V)=>match p with | .b0 ..=>(0,0,2) | .b2 ..=>(0,0,1)|_=>(0,0,0)) ?_ _ ?_,
  fun k p0 p1 h0 h1 h2 h3=>Zj (fun(p:Zap)=>match p with | .b0 a0 a1=>Z09 k a0/\R64 a1 | .b1 a0 a1 a2=>Z09 k a1/\Z09 k a2/\R64 a0) (fun(p:Zap)=>match p with | .b0 ..=>(0,0,1) | .b1 ..=>(0,0,0)) ?_ _ ?_,
  fun p0 p1 h0 h1=>Zj (fun(p:Z8l)=>match p with | .b0 a0 a1=>Zkc a0/\Z1m a1.ZH | .b1 a0 a1 a2=>Zkc a0/\Z1m a1.ZH/\Z1m a2.ZH) (fun(p:Z8l)=>match p with | .b0 ..=>(0,0,1) | .b1 ..=>(0,0,0)) ?_ _ ?_,
  fun p0 h0 h1=>Zj (fun(p:Z4C)=>match p with | .b0 a0=>a0=p0/\a0.length<=65536/\byL a0) (fun(p:Z4C)=>(0,0,0)) ?_ _ ?_⟩
 all_goals try (intro p hp;cases p)
 all_goals
  try dsimp only at hp
  try exact False.elim hp
  try have hx:=hp
  try dsimp only [Z09,Z0z,Z03,Z3R,Z1m,Z9Z,Z2q,Z1V] at hx
  try (repeat with_reducible (have hq:=And.left hp;replace hp:=And.right hp))
  try simp only [Zlr,Z9y,Zan,Zis,Zdr,Zer,ZlT,Zi0,Zai]
  try dsimp only
  repeat' first|(refine Z01 ?_;dsimp only;try simp(disch:=omega) only [ZE,List.length_append,List.length_cons,List.length_nil,List.length_take,List.length_drop,List.length_set,List.length_replicate,List.nil_append,List.drop_zero])|(refine Z1c (fun h=>?_) (fun h=>?_)<;>(try simp only [decide_eq_true_eq,decide_eq_false_iff_not,Bool.not_eq_true',Bool.not_eq_false',Bool.not_eq_true,Bool.not_eq_false,beq_iff_eq,bne_iff_ne,beq_eq_false_iff_ne,bne_eq_false_iff_eq,ne_eq,reduceCtorEq,Bool.and_eq_true,Bool.or_eq_true,Classical.not_not] at h;try simp(disch:=omega) only [ZE] at h))|refine Z02 ?_ ?_|refine Z0J ?_|refine Ze (Zzf _ ?_) fun(v:Int) hm hv=>?_|refine Ze (Zxi _ _) fun(v:Z2G) hm hv=>?_|refine Ze (ZEN) fun(v:Zr) hm hv=>?_|refine Ze (ZtY _) fun(v:Zo) hm hv=>?_|refine Ze (ZH1 _ _ _ ?_) fun(v:Z7) hm hv=>?_|refine Ze (ZA0) fun(v:(List Zg)) hm hv=>?_|refine Ze (ZDq _ _ _ ?_) fun(v:(Int×Int)) hm hv=>?_|refine Ze (ZA2 _ ?_) fun(v:Int) hm hv=>?_|refine Ze (Z4Y _) fun(v:Zd) hm hv=>?_|refine Ze (Zm5 _) fun(v:(List Int)) hm hv=>?_|refine Ze (ZtS _ _ ?_ ?_) fun(v:Z0V) hm hv=>?_|refine Ze (Zef _) fun(v:Int) hm hv=>?_|refine Ze (ZeC _) fun(v:Bool) hm hv=>?_|refine Ze (Zzs _ _ _ ?_) fun(v:Int) hm hv=>?_|refine Ze (ZBf _ _ _ _ ?_ ?_) fun(v:(List Int)) hm hv=>?_|refine Ze (ZDm _ _) fun(v:Zk) hm hv=>?_|refine Ze (Zmo k _ ?_ ?_ ?_) fun(v:Bool) hm hv=>?_|refine Ze (ZCz _) fun(v:(Zo×Int)) hm hv=>?_|refine Ze (ZvL _ _) fun(v:Zo) hm hv=>?_|refine Ze (ZjT _ _ _ ?_) fun(v:(List Zg)) hm hv=>?_|refine Ze (ZGp _ _ ?_) fun(v:(Z7×(List Z9))) hm hv=>?_|refine Ze (Zxa k _ _ ?_ ?_ ?_ ?_) fun(v:Z8) hm hv=>?_|refine Ze (Zn4 k _ ?_ ?_ ?_) fun(v:Int) hm hv=>?_|refine Ze (ZyK _ _ _ ?_) fun(v:(Z7×(List Z4))) hm hv=>?_|refine Ze (ZqN _ _ ?_) fun(v:Bool) hm hv=>?_|refine Ze (Zsh _) fun(v:Int) hm hv=>?_|refine ZrM ?_ fun v hv=>?_|refine Ze (ZvQ (k+8) _ _ ?_ ?_ ?_) fun(v:(Z8×(List Z5))) hm hv=>?_|refine Ze (Zn5 _) fun(v:Bool) hm hv=>?_|refine Ze (Ztf _ _ ?_ ?_) fun(v:Z4) hm hv=>?_|refine Ze (ZrX _ _ ?_) fun(v:Bool) hm hv=>?_|refine Ze (Zvk _ _ ?_ ?_) fun(v:Bool) hm hv=>?_|refine Ze (Zlp _ _ _ _ ?_ ?_) fun(v:(Z7×Z4)) hm hv=>?_|refine Ze (Zt9 _ _ _ ?_ ?_) fun(v:(Z7×(List Z4))) hm hv=>?_|refine Ze (ZvZ _ _ _ _ ?_ ?_) fun(v:Zv) hm hv=>?_|refine Ze (ZpV _ _ _ ?_) fun(v:Zv) hm hv=>?_|refine Ze (ZzE _) fun(v:Int) hm hv=>?_|refine Ze (ZBB _ _ _ _ ?_ ?_) fun(v:((List Int)×Int)) hm hv=>?_|refine Ze (ZCb _) fun(v:Int) hm hv=>?_|refine Ze (ZxP _ _ ?_ ?_ ?_) fun(v:Z4) hm hv=>?_|refine ZjN ?_ fun v hv=>?_|with_reducible apply And.intro|rfl|assumption|exact True.intro|omega|exact decide_eq_true (Z0X _).1|exact Z0g (by assumption) (by omega)|exact Z0s (by assumption) (by omega)|(refine Z0N.2 ?_;first|omega|grind)|(apply Zkw;first|omega|(simp only [List.length_append,List.length_cons,List.length_nil,List.length_take,List.length_drop,List.length_set,List.length_replicate];omega))|(simp only [Bool.and_eq_true,Bool.or_eq_true,decide_eq_true_eq,beq_iff_eq,bne_iff_ne,beq_self_eq_true,and_self,and_true,true_and,List.length_map,List.length_append,List.length_cons,List.length_nil,List.length_take,List.length_drop,List.length_set,List.length_replicate,Z00,maxLen_eq]<;>omega)|(simp(disch:=omega) only [ZE,decide_eq_true_eq,bne_iff_ne,ne_eq];(repeat' split)<;>omega)|(simp [Z0d,Z2M];done)|grind|(simp only [Bool.and_eq_true,Bool.or_eq_true,decide_eq_true_eq,beq_iff_eq,bne_iff_ne,beq_self_eq_true,and_self,and_true,true_and,List.length_map,List.length_append,List.length_cons,List.length_nil,List.length_take,List.length_drop,List.length_set,List.length_replicate,Z00,maxLen_eq]<;>grind)|grind [Z7N]
def ZFO:=Z9s.1
def Zqa:=Z9s.2.1
def Zuv:=Z9s.2.2.1
def ZBi:=Z9s.2.2.2.1
def Zx5:=Z9s.2.2.2.2.1
def Zyu:=Z9s.2.2.2.2.2.1
def ZEU:=Z9s.2.2.2.2.2.2.1
def ZCM:=Z9s.2.2.2.2.2.2.2.1
def ZuQ:=Z9s.2.2.2.2.2.2.2.2
theorem ZqB:(∀(k:Int) (p0:Z8),Z09 k p0->0<=k->k<=1000000->∃r,Zew p0=some r/\Z09 k r) /\
  (∀(k:Int) (p0:Z8) (p1:Z4) (p2:Int),Z09 k p0->Z0M p1->0<=k->k<=1000000->∃r,Z15 p0 p1 p2=some r/\Z09 (k+1) r.1) /\
  (∀(k:Int) (p0:Z8) (p1:Zb),Z09 k p0->Z1m p1->0<=k->k<=1000000->∃r,Ze2 p0 p1=some r/\Z09 k r.1/\r.2.length<=1) /\
  (∀(k:Int) (p0:Z8) (p1:List Int) (p2:Int),Z09 k p0->0<=k->k<=1000000->p1.length<=65536->byL p1->∃r,Z96 p0 p1 p2=some r/\Z09 (k+8) r.1/\r.2.length<=1):=by
 refine⟨fun k p0 h0 h1 h2=>Zj (fun(p:Z6E)=>match p with | .b0 a0=>Z09 k a0 | .b1 a0 _ a2 a3 a4=>ctL a0/\Z09 k a3/\Z09 k a4/\0<=a2/\a2<=(a3.Zf.length:Int)/\(a0.length:Int)<=a2 | .b2 a0 _ a2 a3 a4 a5=>ctL a0/\Z09 k a3/\Z09 k a4/\Z0M a5/\0<=a2/\a2<(a3.Zf.length:Int)/\(a0.length:Int)<=a2 | .b3 a0 _ a2 a3 a4 a5=>ctL a0/\Z09 k a3/\Z09 k a4/\Z0M a5/\0<=a2/\a2<(a3.Zf.length:Int)/\(a0.length:Int)<=a2 | .b4 a0 _ a2 a3 a4=>ctL a0/\Z09 k a3/\Z09 k a4/\0<=a2/\a2<(a3.Zf.length:Int)/\(a0.length:Int)<=a2+1) (fun(p:Z6E)=>match p with | .b0 ..=>(1,0,0) | .b1 _ _ a2 a3 _=>(0,((a3.Zf.length:Int) - a2).toNat,2) | .b2 _ _ a2 a3 _ _=>(0,((a3.Zf.length:Int) - a2).toNat,1) | .b3 _ _ a2 a3 _ _=>(0,((a3.Zf.length:Int) - a2).toNat,1) | .b4 _ _ a2 a3 _=>(0,((a3.Zf.length:Int) - a2).toNat,0)) ?_ _ ?_,
  fun k p0 p1 p2 h0 h1 h2 h3=>Zj (fun(p:Z6l)=>match p with | .b0 a0 a1 _=>Z09 k a0/\Z0M a1) (fun(p:Z6l)=>(0,0,0)) ?_ _ ?_,
  fun k p0 p1 h0 h1 h2 h3=>Zj (fun(p:Z6u)=>match p with | .b0 a0 a1=>Z09 k a0/\Z1m a1 | .b1 a0 a1 a2=>Z09 k a0/\Z1m a1/\Z09 k a2 | .b2 a0 a1 a2=>a0.length<=1/\Z09 k a1/\Z09 k a2) (fun(p:Z6u)=>match p with | .b0 ..=>(0,0,2) | .b1 ..=>(0,0,1) | .b2 ..=>(0,0,0)) ?_ _ ?_,
  fun k p0 p1 p2 h0 h1 h2 h3 h4=>Zj (fun(p:Z3t)=>match p with | .b0 a0 a1 _=>Z09 k a0/\a1.length<=65536/\byL a1 | .b1 a0 a1 a2 a3=>a0.length<=1/\Z09 (k+8) a1/\Z09 (k+8) a2/\Z03 a3 | .b2 a0 a1 a2=>a0.length<=1/\Z09 (k+8) a1/\Z09 (k+8) a2) (fun(p:Z3t)=>match p with | .b0 ..=>(0,0,2) | .b1 ..=>(0,0,1) | .b2 ..=>(0,0,0)) ?_ _ ?_⟩
 all_goals try (intro p hp;cases p)
 all_goals
  try dsimp only at hp
  try exact False.elim hp
  try have hx:=hp
  try dsimp only [Z09,Z0z,Z03,Z3R,Z1m,Z9Z,Z2q,Z1V] at hx
  try (repeat with_reducible (have hq:=And.left hp;replace hp:=And.right hp))
  try simp only [ZdZ,Zel,Zet,Z8S]
  try dsimp only
  repeat' first|(refine Z01 ?_;dsimp only;try simp(disch:=omega) only [ZE,List.length_append,List.length_cons,List.length_nil,List.length_take,List.length_drop,List.length_set,List.length_replicate,List.nil_append,List.drop_zero])|(refine Z1c (fun h=>?_) (fun h=>?_)<;>(try simp only [decide_eq_true_eq,decide_eq_false_iff_not,Bool.not_eq_true',Bool.not_eq_false',Bool.not_eq_true,Bool.not_eq_false,beq_iff_eq,bne_iff_ne,beq_eq_false_iff_ne,bne_eq_false_iff_eq,ne_eq,reduceCtorEq,Bool.and_eq_true,Bool.or_eq_true,Classical.not_not] at h;try simp(disch:=omega) only [ZE] at h))|refine Z02 ?_ ?_|refine Z0J ?_|refine Ze (Zlg _ ?_) fun(v:Bool) hm hv=>?_|refine Ze (ZpW _) fun(v:Bool) hm hv=>?_|refine Zqb ?_ fun v hv=>?_|refine Ze (Zuv _ ?_) fun(v:((List Int)×Int)) hm hv=>?_|refine Ze (Zln _ _ ?_ ?_) fun(v:(Zr×Int)) hm hv=>?_|refine Ze (Zn4 k _ ?_ ?_ ?_) fun(v:Int) hm hv=>?_|refine Ze (Zyu _ _ _ _ ?_ ?_ ?_) fun(v:(Z7×(List Z4)×Int)) hm hv=>?_|refine Ze (ZeC _) fun(v:Bool) hm hv=>?_|refine Ze (Zp1 _ _ _ ?_) fun(v:Zv) hm hv=>?_|refine Ze (ZuQ _ ?_ ?_) fun(v:(Z4×Int)) hm hv=>?_|refine Ze (ZDt _ _ ?_ ?_) fun(v:(Z7×(List Z5))) hm hv=>?_|refine Ze (ZpV _ _ _ ?_) fun(v:Zv) hm hv=>?_|refine Ze (Zyv _ _ ?_) fun(v:(List Z5)) hm hv=>?_|refine Ze (Zvn _ _ _ _ ?_ ?_) fun(v:(Z7×(List Z4)×(List Z5))) hm hv=>?_|refine ZjN ?_ fun v hv=>?_|refine Ze (ZvZ _ _ _ _ ?_ ?_) fun(v:Zv) hm hv=>?_|with_reducible apply And.intro|rfl|assumption|exact True.intro|omega|exact decide_eq_true (Z0X _).1|exact Z0g (by assumption) (by omega)|exact Z0s (by assumption) (by omega)|(refine Z0N.2 ?_;first|omega|grind)|(apply Zkw;first|omega|(simp only [List.length_append,List.length_cons,List.length_nil,List.length_take,List.length_drop,List.length_set,List.length_replicate];omega))|(simp only [Bool.and_eq_true,Bool.or_eq_true,decide_eq_true_eq,beq_iff_eq,bne_iff_ne,beq_self_eq_true,and_self,and_true,true_and,List.length_map,List.length_append,List.length_cons,List.length_nil,List.length_take,List.length_drop,List.length_set,List.length_replicate,Z00,maxLen_eq]<;>omega)|(simp(disch:=omega) only [ZE,decide_eq_true_eq,bne_iff_ne,ne_eq];(repeat' split)<;>omega)|(simp [Z0d,Z2M];done)|grind|(simp only [Bool.and_eq_true,Bool.or_eq_true,decide_eq_true_eq,beq_iff_eq,bne_iff_ne,beq_self_eq_true,and_self,and_true,true_and,List.length_map,List.length_append,List.length_cons,List.length_nil,List.length_take,List.length_drop,List.length_set,List.length_replicate,Z00,maxLen_eq]<;>grind)|grind [Z7N]
def ZzR:=ZqB.1
def Zym:=ZqB.2.1
def ZyO:=ZqB.2.2.1
def Zrk:=ZqB.2.2.2
end Go.Proofs.YtjodhcdmhobmoaaGreatDoor
