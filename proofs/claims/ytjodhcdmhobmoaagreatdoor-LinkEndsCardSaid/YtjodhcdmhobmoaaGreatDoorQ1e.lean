/-
  A part of the proof.
-/
import Derived.Test.YtjodhcdmhobmoaaGreatDoorQ1d
set_option linter.unusedVariables false
set_option linter.unusedSimpArgs false
namespace Go.Proofs.YtjodhcdmhobmoaaGreatDoor
open Go Go.Proofs.YtjodhcdmhobmoaaGreatDoor.Le
set_option linter.defProp false
set_option maxRecDepth 100000
set_option maxHeartbeats 40000000
theorem ZwR:(∀(k:Int) (p0:Z8),Z09 k p0->0<=k->k<=1000000->∃r,ZbW p0=some r/\Z09 k r.1/\r.2.length<=300/\byL r.2) /\
  (∀(k:Int) (p0:Z8) (p1:Z0K) (p2:Int),Z09 k p0->Z2q p1->0<=k->k<=1000000->∃r,Zfu p0 p1 p2=some r/\Z09 (k+2) r.1) /\
  (∀(k:Int) (p0:Z8) (p1:List Int) (p2:Bool) (p3:Int),Z09 k p0->0<=k->k<=1000000->p1.length<=65536->byL p1->∃r,Z5H p0 p1 p2 p3=some r/\Z09 (k+8) r.1/\r.2.1.length<=4):=by
 refine⟨fun k p0 h0 h1 h2=>Zj (fun(p:Z81)=>match p with | .b0 a0=>Z09 k a0 | .b1 a0 a1 a2=>Z09 k a0/\Z09 k a1/\Z1m a2.ZH) (fun(p:Z81)=>match p with | .b0 ..=>(0,0,1) | .b1 ..=>(0,0,0)) ?_ _ ?_,
  fun k p0 p1 p2 h0 h1 h2 h3=>Zj (fun(p:ZfF)=>match p with | .b0 a0 a1 _=>Z09 k a0/\Z2q a1 | .b1 _ a1 a2=>Z09 (k+2) a1/\Z09 (k+2) a2 | .b2 _ a1 a2=>Z09 (k+2) a1/\Z09 (k+2) a2) (fun(p:ZfF)=>match p with | .b0 ..=>(0,0,1)|_=>(0,0,0)) ?_ _ ?_,
  fun k p0 p1 p2 p3 h0 h1 h2 h3 h4=>Zj (fun(p:Z3w)=>match p with | .b0 a0 a1 _ _=>Z09 k a0/\a1.length<=65536/\byL a1 | .b1 a0 _ a2 a3=>Z09 k a2/\Z09 k a3/\a0.length<=65536/\byL a0 | .b2 a0 _ a2 a3=>Z09 k a2/\Z09 k a3/\a0.length<=65536/\byL a0 | .b3 _ _ a2 a3 a4=>Z09 k a2/\Z09 k a3/\Z1m a4.ZH | .b4 _ _ a2 a3 a4=>Z09 k a2/\Z09 k a3/\Z1m a4.ZH | .b5 _ _ a2 a3 a4 a5=>Z09 k a2/\Z09 k a3/\Z1m a4.ZH/\Z1m a5/\a2.Arq.Open=true/\a2.Arq.Empty=false | .b6 _ _ a2 a3 a4 a5=>Z09 k a2/\Z09 k a3/\Z1m a4.ZH/\Z1m a5 | .b7 _ _ a2 a3 a4 a5=>Z09 k a2/\Z09 k a3/\Z1m a4.ZH/\Z1m a5 | .b8 _ _ a2 a3 a4 a5=>Z09 k a2/\Z09 k a3/\Z1m a4.ZH/\Z1m a5 | .b9 _ _ _ a3 a4 a5 a6 a7=>a3.length<=2/\Z09 k a4/\Z09 k a5/\Z1m a6.ZH/\Z1m a7 | .b10 _ a1 a2 a3 a4 a5=>a1.length<=2/\Z09 k a2/\Z09 k a3/\Z1m a4.ZH/\Z1m a5 | .b11 a0 a1 a2 a3=>a0.length<=4/\Z09 (k+8) a1/\Z09 (k+8) a2/\Z1m a3.ZH) (fun(p:Z3w)=>match p with | .b0 ..=>(0,0,11) | .b1 ..=>(0,0,10) | .b2 ..=>(0,0,9) | .b3 ..=>(0,0,8) | .b4 ..=>(0,0,7) | .b5 ..=>(0,0,6) | .b6 ..=>(0,0,5) | .b7 ..=>(0,0,4) | .b8 ..=>(0,0,3) | .b9 ..=>(0,0,2) | .b10 ..=>(0,0,1) | .b11 ..=>(0,0,0)) ?_ _ ?_⟩
 all_goals try (intro p hp;cases p)
 all_goals
  try dsimp only at hp
  try exact False.elim hp
  try have hx:=hp
  try dsimp only [Z09,Z0z,Z03,Z3R,Z1m,Z9Z,Z2q,Z1V] at hx
  try (repeat with_reducible (have hq:=And.left hp;replace hp:=And.right hp))
  try simp only [ZiC,Zsq,Z9u]
  try dsimp only
  repeat' first|(refine Z01 ?_;dsimp only;try simp(disch:=omega) only [ZE,List.length_append,List.length_cons,List.length_nil,List.length_take,List.length_drop,List.length_set,List.length_replicate,List.nil_append,List.drop_zero])|(refine Z1c (fun h=>?_) (fun h=>?_)<;>(try simp only [decide_eq_true_eq,decide_eq_false_iff_not,Bool.not_eq_true',Bool.not_eq_false',Bool.not_eq_true,Bool.not_eq_false,beq_iff_eq,bne_iff_ne,beq_eq_false_iff_ne,bne_eq_false_iff_eq,ne_eq,reduceCtorEq,Bool.and_eq_true,Bool.or_eq_true,Classical.not_not] at h;try simp(disch:=omega) only [ZE] at h))|refine Z02 ?_ ?_|refine Z0J ?_|refine Ze (ZzR k _ ?_ ?_ ?_) fun(v:Z8) hm hv=>?_|refine Ze (ZBT _ ?_) fun(v:(Zr×Zk)) hm hv=>?_|refine Ze (ZBi _ _ ?_ ?_) fun(v:(Zk×Int)) hm hv=>?_|refine Ze (Zv7 _ ?_) fun(v:((List Int)×Int)) hm hv=>?_|refine Ze (Zqa k _ ?_ ?_ ?_) fun(v:Int) hm hv=>?_|refine Ze (ZsW _ _ ?_ ?_) fun(v:(List Int)) hm hv=>?_|refine Ze (Zyx _ _ ?_) fun(v:Z2s) hm hv=>?_|refine Ze (ZCG k _ _ ?_ ?_ ?_ ?_) fun(v:(Z8×Int)) hm hv=>?_|refine Ze (Zym k _ _ _ ?_ ?_ ?_ ?_) fun(v:(Z8×Int)) hm hv=>?_|refine Ze (Zuo _) fun(v:Int) hm hv=>?_|refine Ze (ZEU k _ _ ?_ ?_ ?_ ?_) fun(v:(Z8×Int)) hm hv=>?_|refine Ze (Zse _ _ _ ?_) fun(v:Int) hm hv=>?_|refine Ze (Zy1 _ ?_) fun(v:(List Zg)) hm hv=>?_|refine Ze (Zwr _ _ ?_ ?_) fun(v:((List Int)×Int)) hm hv=>?_|refine Ze (ZjT _ _ _ ?_) fun(v:(List Zg)) hm hv=>?_|refine Ze (ZvG _ ?_ ?_) fun(v:(Zk×Int)) hm hv=>?_|refine Ze (ZeC _) fun(v:Bool) hm hv=>?_|refine Ze (ZCM _ _ ?_ ?_) fun(v:(Zk×Int)) hm hv=>?_|refine Ze (ZvQ k _ _ ?_ ?_ ?_) fun(v:(Z8×(List Z5))) hm hv=>?_|refine ZGM ?_ fun v hv=>?_|refine Ze (ZDc _ _ ?_ ?_) fun(v:(Zr×Zb×Bool×Bool)) hm hv=>?_|refine Ze (ZyO k _ _ ?_ ?_ ?_ ?_) fun(v:(Z8×(List Z5))) hm hv=>?_|refine Ze (Zp1 _ _ _ ?_) fun(v:Zv) hm hv=>?_|refine Ze (Zrk k _ _ _ ?_ ?_ ?_ ?_ ?_) fun(v:(Z8×(List Z5))) hm hv=>?_|with_reducible apply And.intro|rfl|assumption|exact True.intro|omega|exact decide_eq_true (Z0X _).1|exact Z0g (by assumption) (by omega)|exact Z0s (by assumption) (by omega)|(refine Z0N.2 ?_;first|omega|grind)|(apply Zkw;first|omega|(simp only [List.length_append,List.length_cons,List.length_nil,List.length_take,List.length_drop,List.length_set,List.length_replicate];omega))|(simp only [Bool.and_eq_true,Bool.or_eq_true,decide_eq_true_eq,beq_iff_eq,bne_iff_ne,beq_self_eq_true,and_self,and_true,true_and,List.length_map,List.length_append,List.length_cons,List.length_nil,List.length_take,List.length_drop,List.length_set,List.length_replicate,Z00,maxLen_eq]<;>omega)|(simp(disch:=omega) only [ZE,decide_eq_true_eq,bne_iff_ne,ne_eq];(repeat' split)<;>omega)|(simp [Z0d,Z2M];done)|grind|(simp only [Bool.and_eq_true,Bool.or_eq_true,decide_eq_true_eq,beq_iff_eq,bne_iff_ne,beq_self_eq_true,and_self,and_true,true_and,List.length_map,List.length_append,List.length_cons,List.length_nil,List.length_take,List.length_drop,List.length_set,List.length_replicate,Z00,maxLen_eq]<;>grind)|grind [Z7N]
def ZBH:=ZwR.1
def ZA4:=ZwR.2.1
def Zqc:=ZwR.2.2
theorem Zfm:∀(k:Int) (p0:Zn) (p1:ZJ) (p2:Int) (p3:Bool) (p4:Int),Zuz p0->0<=k->k<=500000->Z3R k p1->∃r,Z3H p0 p1 p2 p3 p4=some r/\Z3R (k+200) r.1:=by
 refine fun k p0 p1 p2 p3 p4 h0 h1 h2 h3=>Zj (fun(p:Z1D)=>match p with | .b0 a0 a1 _ _ _=>Zuz a0/\Z3R k a1 | .b1 _ _ _ a3 a4 a5 _=>Zuz a4/\Z3R (k+2*a3) a5/\0<=a3/\a3<=8 | .b2 _ _ _ a3 a4 a5 _=>Zuz a4/\Z3R (k+2*a3) a5/\0<=a3/\a3<8/\a3<(a4.ZJ7.length:Int) | .b3 _ _ _ a3 a4 _=>Zuz a3/\Z3R (k+16) a4 | .b4 _ _ _ a3 a4 a5 _=>Zuz a4/\Z3R (k+2*a3+2) a5/\0<=a3/\a3<8 | .b5 _ _ _ a3 a4 a5 _ a7=>Zuz a4/\Z2q a7/\(Z3R (k+2*a3) a5/\0<=a3/\a3<8/\(a7.Side=0\/a7.Side=1)) | .b6 _ _ _ a3 _ a5 a6 a7 _=>Zuz a6/\Z3R (k+16+20*a5) a7/\0<=a5/\a5<=6/\a3<=6 | .b7 _ a1 _=>Z3R (k+150) a1 | .b8 _ _ _ a3 _ a5 a6 a7 _=>Zuz a6/\Z3R (k+16+20*a5) a7/\0<=a5/\a5<6/\a5<a3/\a3<=6 | .b9 _ _ _ a3 _=>Z3R (k+150) a3 | .b10 _ _ _ a3 _ a5 a6 a7 a8 a9 _=>Zuz a8/\(Z3R (k+16+20*a5) a9/\0<=a5/\a5<6/\a5<a3/\a3<=6/\(a6=0\/a6=1)/\a7.length<=300/\byL a7) | .b11 _ a1 _=>Z3R (k+150) a1 | .b12 _ a1 _=>Z3R (k+150) a1 | .b13 _ _ _ a3 _ a5 _ a7 _ a9 a10 a11 _=>a7.length<=4/\Zuz a10/\Z3R (k+16+20*a5+8+2*a9) a11/\0<=a5/\a5<6/\a5<a3/\a3<=6/\a7.length<=4/\0<=a9/\a9<=(a7.length:Int) | .b14 _ a1 a2 _=>Z3R (k+150+8*a1) a2/\0<=a1/\a1<=2 | .b15 _ _ _ a3 _ a5 _ a7 _ a9 a10 a11 _=>a7.length<=4/\Zuz a10/\Z3R (k+16+20*a5+8+2*a9) a11/\0<=a5/\a5<6/\a5<a3/\a3<=6/\a7.length<=4/\0<=a9/\a9<(a7.length:Int) | .b16 _ _ _ a3 _ a5 _ a7 _ a9 a10 a11 _=>a7.length<=4/\Zuz a10/\Z3R (k+16+20*a5+10+2*a9) a11/\0<=a5/\a5<6/\a5<a3/\a3<=6/\a7.length<=4/\0<=a9/\a9<(a7.length:Int) | .b17 _ _ _ a3 _ a5 a6 a7 _=>Zuz a6/\Z3R (k+16+20*a5+20) a7/\0<=a5/\a5<6/\a3<=6) (fun(p:Z1D)=>match p with | .b0 ..=>(5,0,0) | .b1 _ _ _ a3 _ _ _=>(4,(8 - a3).toNat,3) | .b2 _ _ _ a3 _ _ _=>(4,(8 - a3).toNat,2) | .b3 ..=>(3,0,0) | .b4 _ _ _ a3 _ _ _=>(4,(8 - a3).toNat,0) | .b5 _ _ _ a3 _ _ _ _=>(4,(8 - a3).toNat,1) | .b6 _ _ _ _ _ a5 _ _ _=>(2,(6 - a5).toNat,200) | .b8 _ _ _ _ _ a5 _ _ _=>(2,(6 - a5).toNat,199) | .b9 ..=>(1,1,0) | .b10 _ _ _ _ _ a5 _ _ _ _ _=>(2,(6 - a5).toNat,198) | .b13 _ _ _ _ _ a5 _ a7 _ a9 _ _ _=>(2,(6 - a5).toNat,(45+(10*((a7.length:Int) - a9))).toNat) | .b14 _ a1 _ _=>(0,(2 - a1).toNat,0) | .b15 _ _ _ _ _ a5 _ a7 _ a9 _ _ _=>(2,(6 - a5).toNat,(44+(10*((a7.length:Int) - a9))).toNat) | .b16 _ _ _ _ _ a5 _ a7 _ a9 _ _ _=>(2,(6 - a5).toNat,(43+(10*((a7.length:Int) - a9))).toNat) | .b17 _ _ _ _ _ a5 _ _ _=>(2,(6 - a5).toNat,1)|_=>(1,0,0)) ?_ _ ?_
 all_goals try (intro p hp;cases p)
 case' b5 a0 a1 a2 a3 a4 a5 a6 a7=>
  have c0:=ZA4 (k+2*a3)
 case' b8 a0 a1 a2 a3 a4 a5 a6 a7 a8=>
  have c0:=ZBH (k+(16+20*a5))
 case' b10 a0 a1 a2 a3 a4 a5 a6 a7 a8 a9 a10=>
  have c0:=Zqc (k+(16+20*a5))
 case' b14 a0 a1 a2 a3=>
  have c0:=Zx5 (k+(150+8*a1))
 case' b15 a0 a1 a2 a3 a4 a5 a6 a7 a8 a9 a10 a11 a12=>
  have c0:=ZA4 (k+(16+20*a5+8+2*a9))
 all_goals
  try dsimp only at hp
  try exact False.elim hp
  try have hx:=hp
  try dsimp only [Z09,Z0z,Z03,Z3R,Z1m,Z9Z,Z2q,Z1V] at hx
  try (repeat with_reducible (have hq:=And.left hp;replace hp:=And.right hp))
  try simp only [Z3I]
  try dsimp only
  repeat' first|(refine Z01 ?_;dsimp only;try simp(disch:=omega) only [ZE,List.length_append,List.length_cons,List.length_nil,List.length_take,List.length_drop,List.length_set,List.length_replicate,List.nil_append,List.drop_zero])|(refine Z1c (fun h=>?_) (fun h=>?_)<;>(try simp only [decide_eq_true_eq,decide_eq_false_iff_not,Bool.not_eq_true',Bool.not_eq_false',Bool.not_eq_true,Bool.not_eq_false,beq_iff_eq,bne_iff_ne,beq_eq_false_iff_ne,bne_eq_false_iff_eq,ne_eq,reduceCtorEq,Bool.and_eq_true,Bool.or_eq_true,Classical.not_not] at h;try simp(disch:=omega) only [ZE] at h))|refine Z02 ?_ ?_|refine Z0J ?_|refine ZKl ?_ fun v hv=>?_|refine Ze (Zmo (k+16) _ ?_ ?_ ?_) fun(v:Bool) hm hv=>?_|refine Ze (c0 _ _ _ ?_ ?_ ?_ ?_) fun(v:(Z8×Int)) hm hv=>?_|refine Ze (c0 _ ?_ ?_ ?_) fun(v:(Z8×(List Int))) hm hv=>?_|refine Ze (c0 _ _ _ _ ?_ ?_ ?_ ?_ ?_) fun(v:(Z8×(List Z5)×Bool)) hm hv=>?_|refine ZAc ?_ fun v hv=>?_|refine Ze (c0 _ _ ?_ ?_ ?_) fun(v:(Z8×(List Z5))) hm hv=>?_|with_reducible apply And.intro|rfl|assumption|exact True.intro|omega|exact decide_eq_true (Z0X _).1|exact Z0g (by assumption) (by omega)|exact Z0s (by assumption) (by omega)|(refine Z0N.2 ?_;first|omega|grind)|(apply Zkw;first|omega|(simp only [List.length_append,List.length_cons,List.length_nil,List.length_take,List.length_drop,List.length_set,List.length_replicate];omega))|(simp only [Bool.and_eq_true,Bool.or_eq_true,decide_eq_true_eq,beq_iff_eq,bne_iff_ne,beq_self_eq_true,and_self,and_true,true_and,List.length_map,List.length_append,List.length_cons,List.length_nil,List.length_take,List.length_drop,List.length_set,List.length_replicate,Z00,maxLen_eq]<;>omega)|(simp(disch:=omega) only [ZE,decide_eq_true_eq,bne_iff_ne,ne_eq];(repeat' split)<;>omega)|(simp [Z0d,Z2M];done)|grind|(simp only [Bool.and_eq_true,Bool.or_eq_true,decide_eq_true_eq,beq_iff_eq,bne_iff_ne,beq_self_eq_true,and_self,and_true,true_and,List.length_map,List.length_append,List.length_cons,List.length_nil,List.length_take,List.length_drop,List.length_set,List.length_replicate,Z00,maxLen_eq]<;>grind)|grind [Z7N]
theorem Zkx:∀(p0:ZT),Z1V p0->∃r,Z5a p0=some r/\Z09 20000 r.1:=by
 refine fun p0 h0=>Zj (fun(p:Z2h)=>match p with | .b0 a0=>Z1V a0 | .b1 a0=>Z09 0 a0 | .b2 a0 a1=>Z1V a0/\Z09 0 a1/\a0.Events.length<=60/\Z7N a0.Z1G | .b3 a0 a1 a2 a3=>Z1V a1/\Z09 0 a2/\Z3R 0 a3/\0<=a0/\a0<=2/\a1.Events.length<=60/\Z7N a1.Z1G | .b4 _ a1 a2 a3 a4=>Z1V a2/\Z09 0 a3/\Z3R (200*a1) a4/\0<=a1/\a1<=(a2.Events.length:Int)/\a2.Events.length<=60/\Z7N a2.Z1G) (fun(p:Z2h)=>match p with | .b0 ..=>(4,0,0) | .b1 ..=>(0,0,0) | .b2 ..=>(3,0,0) | .b3 a0 _ _ _=>(2,(2 - a0).toNat,0) | .b4 _ a1 a2 _ _=>(1,((a2.Events.length:Int) - a1).toNat,0)) ?_ _ ?_
 all_goals try (intro p hp;cases p)
 case' b4 a0 a1 a2 a3 a4=>
  have c0:=Zfm (200*a1)
 all_goals
  try dsimp only at hp
  try exact False.elim hp
  try have hx:=hp
  try dsimp only [Z09,Z0z,Z03,Z3R,Z1m,Z9Z,Z2q,Z1V] at hx
  try (repeat with_reducible (have hq:=And.left hp;replace hp:=And.right hp))
  try simp only [Z56]
  try dsimp only
  repeat' first|(refine Z01 ?_;dsimp only;try simp(disch:=omega) only [ZE,List.length_append,List.length_cons,List.length_nil,List.length_take,List.length_drop,List.length_set,List.length_replicate,List.nil_append,List.drop_zero])|(refine Z1c (fun h=>?_) (fun h=>?_)<;>(try simp only [decide_eq_true_eq,decide_eq_false_iff_not,Bool.not_eq_true',Bool.not_eq_false',Bool.not_eq_true,Bool.not_eq_false,beq_iff_eq,bne_iff_ne,beq_eq_false_iff_ne,bne_eq_false_iff_eq,ne_eq,reduceCtorEq,Bool.and_eq_true,Bool.or_eq_true,Classical.not_not] at h;try simp(disch:=omega) only [ZE] at h))|refine Z02 ?_ ?_|refine Z0J ?_|refine Ze (ZFO _ _ _ _ _ _ ?_ ?_ ?_) fun(v:(Z8×Int)) hm hv=>?_|refine Ze (c0 _ _ _ _ _ ?_ ?_ ?_ ?_) fun(v:(ZJ×Int)) hm hv=>?_|refine ZHG ?_ fun v hv=>?_|with_reducible apply And.intro|rfl|assumption|exact True.intro|omega|exact decide_eq_true (Z0X _).1|exact Z0g (by assumption) (by omega)|exact Z0s (by assumption) (by omega)|(refine Z0N.2 ?_;first|omega|grind)|(apply Zkw;first|omega|(simp only [List.length_append,List.length_cons,List.length_nil,List.length_take,List.length_drop,List.length_set,List.length_replicate];omega))|(simp only [Bool.and_eq_true,Bool.or_eq_true,decide_eq_true_eq,beq_iff_eq,bne_iff_ne,beq_self_eq_true,and_self,and_true,true_and,List.length_map,List.length_append,List.length_cons,List.length_nil,List.length_take,List.length_drop,List.length_set,List.length_replicate,Z00,maxLen_eq]<;>omega)|(simp(disch:=omega) only [ZE,decide_eq_true_eq,bne_iff_ne,ne_eq];(repeat' split)<;>omega)|(simp [Z0d,Z2M];done)|grind|(simp only [Bool.and_eq_true,Bool.or_eq_true,decide_eq_true_eq,beq_iff_eq,bne_iff_ne,beq_self_eq_true,and_self,and_true,true_and,List.length_map,List.length_append,List.length_cons,List.length_nil,List.length_take,List.length_drop,List.length_set,List.length_replicate,Z00,maxLen_eq]<;>grind)|grind [Z7N]
end Go.Proofs.YtjodhcdmhobmoaaGreatDoor
namespace Go.Proofs.YtjodhcdmhobmoaaGreatDoor
open Go Go.Proofs.YtjodhcdmhobmoaaGreatDoor.Le
set_option maxRecDepth 100000
set_option maxHeartbeats 2000000
def Zwt (l:List Int):Prop:=Z55 U 5 l=true
theorem ZwU (p:Zb) (h:Zwt p.Payload):Z5b p p=some true:=(Z2k _ _).trans (by
 simp only [Z59,Tr.den,Z5e,beq_self_eq_true,cond_true]
 rw [show Z55 U 5 p.Payload=true from h]
 rfl)
theorem ZvO (xs:List Zb) (hl:xs.length<4611686018427387904) (h:∀p∈xs,Zwt p.Payload):Z4c xs xs=some true:=(Z2k _ _).trans (by
 have step:∀j i:Nat,i+j=xs.length->Z05 Z1e (.b1 xs xs i)=some true:=by
  intro j
  induction j with
  | zero=>
   intro i hi
   refine(Z2k _ _).trans ?_
   simp only [Z1e,Tr.den,Z5e]
   rw [show decide ((i:Int)<(xs.length:Int))=false by simp;omega]
   rfl
  | succ j ih=>
   intro i hi
   have hx:i<xs.length:=by omega
   refine(Z2k _ _).trans ?_
   simp only [Z1e,Tr.den,Z5e]
   rw [show decide ((i:Int)<(xs.length:Int))=true by simp;omega,show decide (0<=(i:Int)/\(i:Int)<(xs.length:Int))=true by simp;omega]
   simp only [cond_true,Int.toNat_natCast,List.getElem?_eq_getElem hx,Option.bind_some,ZwU _ (h _ (List.getElem_mem hx)),Bool.not_true,cond_false]
   rw [ZE (by omega) (by omega)]
   exact ih (i+1) (by omega)
 simp only [Z1e,Tr.den,Z5e,bne_self_eq_false,cond_false]
 exact step xs.length 0 (by omega))
theorem Zh5 (xs:List Z4) (hl:xs.length<4611686018427387904):Z2o xs xs=some true:=(Z2k _ _).trans (by
 have step:∀j i:Nat,i+j=xs.length->Z05 Z13 (.b1 xs xs i)=some true:=by
  intro j
  induction j with
  | zero=>
   intro i hi
   refine(Z2k _ _).trans ?_
   simp only [Z13,Tr.den,Z5e]
   rw [show decide ((i:Int)<(xs.length:Int))=false by simp;omega]
   rfl
  | succ j ih=>
   intro i hi
   have hx:i<xs.length:=by omega
   refine(Z2k _ _).trans ?_
   simp only [Z13,Tr.den,Z5e]
   rw [show decide ((i:Int)<(xs.length:Int))=true by simp;omega,show decide (0<=(i:Int)/\(i:Int)<(xs.length:Int))=true by simp;omega]
   simp only [cond_true,Int.toNat_natCast,List.getElem?_eq_getElem hx,Option.bind_some,beq_self_eq_true,Bool.and_true,Bool.not_true,cond_false]
   rw [ZE (by omega) (by omega)]
   exact ih (i+1) (by omega)
 simp only [Z13,Tr.den,Z5e,bne_self_eq_false,cond_false]
 exact step xs.length 0 (by omega))
theorem ZDs (p:Z7) (h1:p.Zl.length<4611686018427387904) (h2:p.Zy.length<4611686018427387904):Z69 p p=some true:=(Z2k _ _).trans (by
 have step:∀j i:Nat,i+j=p.Zy.length->Z05 Z1O (.b2 i p p)=some true:=by
  intro j
  induction j with
  | zero=>
   intro i hi
   refine(Z2k _ _).trans ?_
   simp only [Z1O,Tr.den,Z5e]
   rw [show decide ((i:Int)<(p.Zy.length:Int))=false by simp;omega]
   simp only [beq_self_eq_true,cond_true,cond_false]
  | succ j ih=>
   intro i hi
   have hx:i<p.Zy.length:=by omega
   refine(Z2k _ _).trans ?_
   simp only [Z1O,Tr.den,Z5e]
   rw [show decide ((i:Int)<(p.Zy.length:Int))=true by simp;omega,show decide (0<=(i:Int)/\(i:Int)<(p.Zy.length:Int))=true by simp;omega]
   simp only [cond_true,Int.toNat_natCast,List.getElem?_eq_getElem hx,Option.bind_some,beq_self_eq_true,Bool.and_true,Bool.not_true,cond_false]
   rw [ZE (by omega) (by omega)]
   exact ih (i+1) (by omega)
 simp only [Z1O,Tr.den,Z5e,Zh5 _ h1,Option.bind_some,Bool.not_true,cond_false,bne_self_eq_false]
 refine(Z2k _ _).trans ?_
 exact step p.Zy.length 0 (by omega))
structure LWF (l:Z8):Prop where
 tal:l.Zx.length<4611686018427387904
 que:l.Arq.ZP.length<4611686018427387904
 pay:∀p∈l.Arq.ZP,Zwt p.Payload
 wai:l.Zi.Zl.length<4611686018427387904
 pen:l.Zi.Zy.length<4611686018427387904
 com:l.Zf.length<4611686018427387904
theorem ZEb (l:Z8) (h:LWF l):Z4j l l=some true:=(Z2k _ _).trans (by
 have h4:Z05 Z1r (.b4 l l)=some true:=(Z2k _ _).trans (by
  simp only [Z1r,Tr.den,Z5e,ZDs _ h.wai h.pen,Zh5 _ h.com,Option.bind_some,beq_self_eq_true,cond_true])
 have h3:Z05 Z1r (.b3 l l)=some true:=(Z2k _ _).trans (by
  simp only [Z1r,Tr.den,Z5e,beq_self_eq_true,Bool.and_true,Bool.not_true,cond_false,h4])
 have h2:Z05 Z1r (.b2 l l)=some true:=(Z2k _ _).trans (by
  simp only [Z1r,Tr.den,Z5e,beq_self_eq_true,Bool.and_true,Bool.not_true,cond_false,bne_self_eq_false,h3])
 have step:∀j i:Nat,i+j=l.Zx.length->Z05 Z1r (.b1 i l l)=some true:=by
  intro j
  induction j with
  | zero=>
   intro i hi
   refine(Z2k _ _).trans ?_
   simp only [Z1r,Tr.den,Z5e]
   rw [show decide ((i:Int)<(l.Zx.length:Int))=false by simp;omega]
   simp only [beq_self_eq_true,Bool.not_true,cond_false,bne_self_eq_false,ZvO _ h.que h.pay,Option.bind_some,h2]
  | succ j ih=>
   intro i hi
   have hx:i<l.Zx.length:=by omega
   have ht:=h.tal
   refine(Z2k _ _).trans ?_
   simp only [Z1r,Tr.den,Z5e]
   rw [show decide ((i:Int)<(l.Zx.length:Int))=true by simp;omega,show decide (0<=(i:Int)/\(i:Int)<(l.Zx.length:Int))=true by simp;omega]
   simp only [cond_true,Int.toNat_natCast,List.getElem?_eq_getElem hx,Option.bind_some,beq_self_eq_true,Bool.and_true,Bool.not_true,cond_false]
   rw [ZE (by omega) (by omega)]
   exact ih (i+1) (by omega)
 simp only [Z1r,Tr.den,Z5e,bne_self_eq_false,cond_false]
 exact step l.Zx.length 0 (by omega))
theorem Z09.lwf {k:Int} {l:Z8} (h:Z09 k l) (hk:k<=1000000):LWF l:=by
 obtain⟨h1,h2,h3,h4,h5,h6,h7,h8⟩:=h
 obtain⟨a1,a2,a3,a4,a5⟩:=h1
 obtain⟨b1,b2,b3⟩:=h2
 refine⟨by omega,by omega,fun p hp=>Zkw _ ?_,by omega,by omega,by omega⟩
 have:=(a4 p hp).2.2.2.1
 omega
theorem ZCi (k:Int) (p0 p1:Z8) (h0:Z09 k p0) (h1:Z09 k p1) (h2:0<=k) (h3:k<=1000000) (h4:p0=p1):∃r,Z4j p0 p1=some r/\r=true:=by
 subst h4
 exact⟨true,ZEb _ (h0.lwf h3),rfl⟩
theorem Zex (p0:List Int) (h:p0.length<=1000000):∃r,Z20 p0=some r/\r.q0=p0:=⟨⟨p0⟩,if_pos ⟨by rw [Z00];omega,by rw [maxLen_eq];omega⟩,rfl⟩
theorem Z3P (p0:List Z4) (h:p0.length<=1000000):∃r,Z0O p0=some r/\r.q0=p0:=⟨⟨p0⟩,if_pos ⟨by rw [Z00];omega,by rw [maxLen_eq];omega⟩,rfl⟩
theorem ZbI (p0:List Z9) (h:p0.length<=1000000):∃r,Z1B p0=some r/\r.q0=p0:=⟨⟨p0⟩,if_pos ⟨by rw [Z00];omega,by rw [maxLen_eq];omega⟩,rfl⟩
theorem Zce (p0:List Zg) (h:p0.length<=1000000):∃r,Z1K p0=some r/\r.q0=p0:=⟨⟨p0⟩,if_pos ⟨by rw [Z00];omega,by rw [maxLen_eq];omega⟩,rfl⟩
theorem ZL9 {L:Type} {t:Nat} {l:List (U.Ty t)} {i:Int} {k:U.Ty t->Tr U L} {Q:L->Prop} (h:0<=i/\i<(l.length:Int)) (g:∀hi:i.toNat<l.length,Tot (k l[i.toNat]) Q):Tot (.bind t (l[Int.toNat i]?) k) Q:=by
 have hi:i.toNat<l.length:=by omega
 exact⟨l[i.toNat],List.getElem?_eq_getElem hi,g hi⟩
theorem ZkG {L:Type} {l:List Zb} {i:Int} {k:Zb->Tr U L} {Q:L->Prop} (h:0<=i/\i<(l.length:Int)) (g:∀hi:i.toNat<l.length,Tot (k l[i.toNat]) Q):Tot (Tr.bind (U:=U) 68 (l[Int.toNat i]? : Option Zb) k) Q:=ZL9 (t:=68) h g
theorem take_set {α:Type} {a b:List α} {n:Nat} (hn:n<b.length) (hl:a.length=b.length) (h:a.take n=b.take n):(a.set n b[n]).take (n+1)=b.take (n+1):=by
 apply List.ext_getElem?
 intro j
 rw [List.getElem?_take,List.getElem?_take]
 by_cases hj:j<n+1
 ·rw [if_pos hj,if_pos hj,List.getElem?_set]
  by_cases hjn:n=j
  ·subst hjn
   rw [if_pos rfl,if_pos (by omega)]
   exact(List.getElem?_eq_getElem hn).symm
  ·rw [if_neg hjn]
   have:=congrArg (fun l=>l[j]?) h
   simp only [List.getElem?_take] at this
   rw [if_pos (by omega),if_pos (by omega)] at this
   exact this
 ·rw [if_neg hj,if_neg hj]
theorem Zx2 (k:Int) (p0:Z8) (h0:Z09 k p0) (h1:0<=k) (h2:k<=1000000):∃r,Z43 p0=some r/\(r.q0=⟨p0,[]⟩):=by
 have hq:=h0
 dsimp only [Z09,Z0z,Z03] at hq
 have hpk:∀p∈p0.Arq.ZP,p.Payload.length<=1000000:=fun p hp=>by
  have:=(h0.1.2.2.2.1 p hp).2.2.2.1
  omega
 refine Zj (T:=Z6m) (post:=fun r=>r.q0=⟨p0,[]⟩) (fun p=>match p with | .b0 a0=>a0=p0 | .b1 a0 a1 a2 a3 a4=>a4=p0/\a1=p0.Arq.ZP/\a2=(p0.Arq.ZP.length:Int)/\a0.length=p0.Arq.ZP.length/\0<=a3/\a3<=(p0.Arq.ZP.length:Int)/\a0.take a3.toNat=p0.Arq.ZP.take a3.toNat)
  (fun p=>match p with | .b0 _=>(1,0,0) | .b1 a0 a1 a2 a3 a4=>(0,(a2 - a3).toNat,0)) ?_ (.b0 p0) rfl
 intro p hp
 cases p with
 | b0 a0=>
  dsimp only at hp
  subst hp
  simp only [Z6m]
  refine Z02 (by simp [Z00,maxLen_eq]<;>omega) ?_
  refine Z02 (by simp [Z00,maxLen_eq]<;>omega) ?_
  refine Z01 ?_
  exact⟨⟨rfl,rfl,rfl,by rw [List.length_replicate];omega,by omega,by omega,by simp⟩,ZM2 (by omega)⟩
 | b1 a0 a1 a2 a3 a4=>
  dsimp only at hp
  obtain⟨rfl,rfl,rfl,hl,g1,g2,ht⟩:=hp
  simp only [Z6m]
  refine Z1c (fun h=>?_) (fun h=>?_)
  ·simp only [decide_eq_true_eq,decide_eq_false_iff_not] at h
   refine Z02 (by simp [Z00,maxLen_eq]<;>omega) ?_
   refine ZkG (by omega) (fun hi=>?_)
   refine Ze (Zex _ (hpk _ (List.getElem_mem hi))) (fun(v:Z1g) hm hv=>?_)
   refine Z02 (by simp [Z00,maxLen_eq]<;>omega) ?_
   refine Z02 (by simp [Z00,maxLen_eq]<;>omega) ?_
   refine Z02 (by simp [Z00,maxLen_eq]<;>omega) ?_
   refine ZkG (by omega) (fun hi' =>?_)
   refine Z02 (by simp [Z00,maxLen_eq]<;>omega) ?_
   refine Z02 (by simp [Z00,maxLen_eq]<;>omega) ?_
   refine Z01 ?_
   dsimp only
   rw [ZE (by omega) (by omega),hv]
   refine⟨⟨rfl,rfl,rfl,by rw [List.length_set];exact hl,by omega,by omega,?_⟩,ZM6 (by omega)⟩
   rw [show (a3+1).toNat=a3.toNat+1 by omega]
   exact take_set hi hl ht
  ·simp only [decide_eq_true_eq,decide_eq_false_iff_not] at h
   have he:a0=a4.Arq.ZP:=by
    have e1:a3.toNat=a0.length:=by omega
    have e2:a3.toNat=a4.Arq.ZP.length:=by omega
    have h1:=ht
    rw [e1,List.take_length] at h1
    rw [h1,hl,List.take_length]
   subst he
   refine Ze (Z3P _ (by omega)) (fun(v1:Z0n) hm1 hv1=>?_)
   refine Ze (ZbI _ (by omega)) (fun(v2:Z0U) hm2 hv2=>?_)
   refine Ze (Zce _ (by omega)) (fun(v3:Z17) hm3 hv3=>?_)
   refine Ze (Z3P _ (by omega)) (fun(v4:Z0n) hm4 hv4=>?_)
   refine Z02 (by simp) ?_
   refine Z01 ?_
   dsimp only
   rw [hv1,hv2,hv3,hv4]
theorem ZiY (p0:List Zb) (h0:p0.length<=64) (h1:pkL p0):∃r,Z48 p0=some r/\r=p0:=by
 refine Zj (T:=Z1Q) (post:=fun r=>r=p0) (fun p=>match p with | .b0 a0=>a0=p0 | .b1 a0 a1 a2=>a0=p0/\0<=a2/\a2<=(p0.length:Int)/\a1=p0.take a2.toNat)
  (fun p=>match p with | .b0 _=>(1,0,0) | .b1 a0 a1 a2=>(0,((a0.length:Int) - a2).toNat,0)) ?_ (.b0 p0) rfl
 intro p hp
 cases p with
 | b0 a0=>
  dsimp only at hp
  subst hp
  simp only [Z1Q]
  refine Z02 (by simp [Z00,maxLen_eq]<;>omega) ?_
  refine Z01 ?_
  exact⟨⟨rfl,by omega,by omega,by simp⟩,ZM2 (by omega)⟩
 | b1 a0 a1 a2=>
  dsimp only at hp
  obtain⟨rfl,g1,g2,rfl⟩:=hp
  simp only [Z1Q]
  refine Z1c (fun h=>?_) (fun h=>?_)
  ·simp only [decide_eq_true_eq,decide_eq_false_iff_not] at h
   refine Z02 (by simp [Z00,maxLen_eq]<;>omega) ?_
   refine ZkG (by omega) (fun hi=>?_)
   have hpl:=(h1 _ (List.getElem_mem hi)).2.2.2.1
   refine Z02 (by simp [Z00,maxLen_eq]<;>omega) ?_
   refine ZkG (by omega) (fun hi' =>?_)
   refine Z02 (by simp [Z00,maxLen_eq]<;>omega) ?_
   refine Z02 (by simp [Z00,maxLen_eq]<;>omega) ?_
   refine Z02 (by simp) ?_
   refine Z02 (by simp [Z00,maxLen_eq]<;>omega) ?_
   refine Z02 (by simp [Z00,maxLen_eq]<;>omega) ?_
   refine Z02 (by simp [Z00,maxLen_eq]<;>omega) ?_
   refine Z02 (by simp) ?_
   refine Z01 ?_
   dsimp only
   rw [ZE (by omega) (by omega),List.nil_append]
   refine⟨⟨rfl,by omega,by omega,?_⟩,ZM6 (by omega)⟩
   rw [show (a2+1).toNat=a2.toNat+1 by omega]
   first|exact List.take_append_getElem hi|exact(List.take_append_getElem hi).symm|simp
  ·simp only [decide_eq_true_eq,decide_eq_false_iff_not] at h
   refine Z02 (by simp [Z00,maxLen_eq]<;>omega) ?_
   refine Z01 ?_
   dsimp only
   rw [show a2.toNat=a0.length by omega,List.take_length]
end Go.Proofs.YtjodhcdmhobmoaaGreatDoor
