/-
  A part of the proof.
-/
import Derived.Test.YtjodhcdmhobmoaaGreatDoorQ1b
set_option linter.unusedVariables false
set_option linter.unusedSimpArgs false
namespace Go.Proofs.YtjodhcdmhobmoaaGreatDoor
open Go Go.Proofs.YtjodhcdmhobmoaaGreatDoor.Le
set_option linter.defProp false
set_option maxRecDepth 100000
set_option maxHeartbeats 40000000
theorem ZjV:(∀(p0:List Zg),p0.length<=37->∃r,ZeA p0=some r/\r.length<=37) /\
  (∀(p0:List Int) (p1:Int),0<=p1->p1+9<=(p0.length:Int)->p0.length<=1000000->∃r,Z5g p0 p1=some r/\True) /\
  (∀(p0:Z7) (p1:Z4),Z03 p0->Z0M p1->∃r,ZhU p0 p1=some r/\Z03 r.1/\r.2.length<=1) /\
  (∀(p0:Z7) (p1:Z4) (p2:Int),Z03 p0->Z0M p1->∃r,Z42 p0 p1 p2=some r/\Z03 r.1/\r.2.1.length<=8/\ctL r.2.1/\r.2.2.length<=1) /\
  (∀(p0:Z7) (p1:Z4),Z03 p0->Z0M p1->∃r,Z3y p0 p1=some r/\Z03 r.1/\r.2.1.length<=8/\ctL r.2.1/\r.2.2.length<=1) /\
  (∀(p0:Z7) (p1:Z4) (p2:Int),Z03 p0->Z0M p1->∃r,Z3K p0 p1 p2=some r/\Z03 r.1/\r.2.1.length<=8/\ctL r.2.1/\r.2.2.length<=1) /\
  (∀(p0:Z7) (p1:Z4),Z03 p0->Z0M p1->∃r,Z3e p0 p1=some r/\Z03 r.1/\r.2.1.length<=8/\ctL r.2.1/\r.2.2.length<=1) /\
  (∀(p0:Z7) (p1:Z4),Z03 p0->Z0M p1->∃r,Z5f p0 p1=some r/\Z03 r.1/\r.2.1.length<=8/\ctL r.2.1/\r.2.2.length<=1):=by
 refine⟨fun p0 h0=>Zj (fun(p:Z5U)=>match p with | .b0 a0=>a0.length<=37 | .b1 a0 a1 a2=>a0.length<=37/\a1.length<=37/\0<=a2/\a2<=(a0.length:Int)/\(a1.length:Int)=a2) (fun(p:Z5U)=>match p with | .b0 ..=>(1,0,0) | .b1 a0 _ a2=>(0,((a0.length:Int) - a2).toNat,0)) ?_ _ ?_,
  fun p0 p1 h0 h1 h2=>Zj (fun(p:Z2b)=>match p with | .b0 a0 a1=>0<=a1/\a1+9<=(a0.length:Int)/\a0.length<=1000000) (fun(p:Z2b)=>(0,0,0)) ?_ _ ?_,
  fun p0 p1 h0 h1=>Zj (fun(p:Z8d)=>match p with | .b0 a0 a1=>Z03 a0/\Z0M a1 | .b1 a0 a1 a2=>Z03 a0/\Z0M a1/\Z03 a2 | .b2 a0 a1 a2=>Z03 a0/\Z0M a1/\Z03 a2 | .b3 a0 a1=>Z03 a0/\Z03 a1) (fun(p:Z8d)=>match p with | .b0 ..=>(0,0,3) | .b1 ..=>(0,0,2) | .b2 ..=>(0,0,1) | .b3 ..=>(0,0,0)) ?_ _ ?_,
  fun p0 p1 p2 h0 h1=>Zj (fun(p:Z1M)=>match p with | .b0 a0 a1 _=>Z03 a0/\Z0M a1 | .b1 _ a1 a2 a3=>Z03 a1/\Z0M a2/\Z03 a3 | .b2 _ a1 a2 a3=>Z03 a1/\Z0M a2/\Z03 a3 | .b3 a0 a1 a2=>Z03 a0/\Z0M a1/\Z03 a2 | .b4 _ a1 a2 a3=>Z03 a1/\Z0M a2/\Z03 a3 | .b5 a0 a1=>Z03 a0/\Z03 a1 | .b6 a0 a1=>Z03 a0/\Z03 a1 | .b7 _ a1 a2 a3=>Z03 a1/\Z0M a2/\Z03 a3 | .b8 _ a1 a2=>Z03 a1/\Z03 a2) (fun(p:Z1M)=>match p with | .b0 ..=>(0,0,4) | .b2 ..=>(0,0,3) | .b3 ..=>(0,0,1) | .b4 ..=>(0,0,2) | .b7 ..=>(0,0,1)|_=>(0,0,0)) ?_ _ ?_,
  fun p0 p1 h0 h1=>Zj (fun(p:Z1y)=>match p with | .b0 a0 a1=>Z03 a0/\Z0M a1 | .b1 a0 a1=>Z03 a0/\Z03 a1 | .b2 a0 a1 a2=>Z03 a0/\Z0M a1/\Z03 a2 | .b3 a0 a1 a2=>Z03 a0/\Z0M a1/\Z03 a2) (fun(p:Z1y)=>match p with | .b0 ..=>(0,0,2) | .b2 ..=>(0,0,1)|_=>(0,0,0)) ?_ _ ?_,
  fun p0 p1 p2 h0 h1=>Zj (fun(p:Z1C)=>match p with | .b0 a0 a1 _=>Z03 a0/\Z0M a1) (fun(p:Z1C)=>(0,0,0)) ?_ _ ?_,
  fun p0 p1 h0 h1=>Zj (fun(p:Z1E)=>match p with | .b0 a0 a1=>Z03 a0/\Z0M a1 | .b1 a0 a1=>Z03 a0/\Z03 a1 | .b2 a0 a1 a2=>Z03 a0/\Z0M a1/\Z03 a2) (fun(p:Z1E)=>match p with | .b0 ..=>(0,0,1)|_=>(0,0,0)) ?_ _ ?_,
  fun p0 p1 h0 h1=>Zj (fun(p:Z2d)=>match p with | .b0 a0 a1=>Z03 a0/\Z0M a1 | .b1 a0 a1 a2=>Z03 a0/\Z0M a1/\Z03 a2 | .b2 a0 a1 a2=>Z03 a0/\Z0M a1/\Z03 a2 | .b3 a0 a1=>Z03 a0/\Z03 a1 | .b4 a0 a1=>Z03 a0/\Z03 a1) (fun(p:Z2d)=>match p with | .b0 ..=>(0,0,2) | .b2 ..=>(0,0,1)|_=>(0,0,0)) ?_ _ ?_⟩
 all_goals try (intro p hp;cases p)
 all_goals
  try dsimp only at hp
  try exact False.elim hp
  try have hx:=hp
  try dsimp only [Z09,Z0z,Z03,Z3R,Z1m,Z9Z,Z2q,Z1V] at hx
  try (repeat with_reducible (have hq:=And.left hp;replace hp:=And.right hp))
  try simp only [Zed,Z58,Zii,Z3V,Z3u,Z3i,Z3z,Z5d]
  try dsimp only
  repeat' first|(refine Z01 ?_;dsimp only;try simp(disch:=omega) only [ZE,List.length_append,List.length_cons,List.length_nil,List.length_take,List.length_drop,List.length_set,List.length_replicate,List.nil_append,List.drop_zero])|(refine Z1c (fun h=>?_) (fun h=>?_)<;>(try simp only [decide_eq_true_eq,decide_eq_false_iff_not,Bool.not_eq_true',Bool.not_eq_false',Bool.not_eq_true,Bool.not_eq_false,beq_iff_eq,bne_iff_ne,beq_eq_false_iff_ne,bne_eq_false_iff_eq,ne_eq,reduceCtorEq,Bool.and_eq_true,Bool.or_eq_true,Classical.not_not] at h;try simp(disch:=omega) only [ZE] at h))|refine Z02 ?_ ?_|refine Z0J ?_|refine Ze (Zdl _) fun(v:Int) hm hv=>?_|refine ZzC ?_ fun v hv=>?_|refine Ze (ZmB _ _ _ ?_ ?_ ?_ ?_ ?_) fun(v:Int) hm hv=>?_|refine Ze (Zmf _) fun(v:Bool) hm hv=>?_|refine Ze (ZCH _ _) fun(v:(List Z5)) hm hv=>?_|refine Ze (Zlt _) fun(v:(List Z4)) hm hv=>?_|with_reducible apply And.intro|rfl|assumption|exact True.intro|omega|exact decide_eq_true (Z0X _).1|exact Z0g (by assumption) (by omega)|exact Z0s (by assumption) (by omega)|(refine Z0N.2 ?_;first|omega|grind)|(apply Zkw;first|omega|(simp only [List.length_append,List.length_cons,List.length_nil,List.length_take,List.length_drop,List.length_set,List.length_replicate];omega))|(simp only [Bool.and_eq_true,Bool.or_eq_true,decide_eq_true_eq,beq_iff_eq,bne_iff_ne,beq_self_eq_true,and_self,and_true,true_and,List.length_map,List.length_append,List.length_cons,List.length_nil,List.length_take,List.length_drop,List.length_set,List.length_replicate,Z00,maxLen_eq]<;>omega)|(simp(disch:=omega) only [ZE,decide_eq_true_eq,bne_iff_ne,ne_eq];(repeat' split)<;>omega)|(simp [Z0d,Z2M];done)|grind|(simp only [Bool.and_eq_true,Bool.or_eq_true,decide_eq_true_eq,beq_iff_eq,bne_iff_ne,beq_self_eq_true,and_self,and_true,true_and,List.length_map,List.length_append,List.length_cons,List.length_nil,List.length_take,List.length_drop,List.length_set,List.length_replicate,Z00,maxLen_eq]<;>grind)|grind [Z7N]
def Zy1:=ZjV.1
def Z9G:=ZjV.2.1
def ZDt:=ZjV.2.2.1
def Zi9:=ZjV.2.2.2.1
def ZgH:=ZjV.2.2.2.2.1
def Zf0:=ZjV.2.2.2.2.2.1
def Zgz:=ZjV.2.2.2.2.2.2.1
def Zkp:=ZjV.2.2.2.2.2.2.2
theorem ZCb:∀(p0:Int),∃r,ZbU p0=some r/\(∃u,Z06 p0=some u/\r=szU u/\Z0d u):=by
 refine fun p0=>Zj (fun(p:Z8t)=>match p with | .b0 a0=>a0=p0 | .b1 a0 a1=>Z0d a1/\Z06 p0=some a1/\a0=1+cond a1.ZI 9 0 | .b2 a0 a1=>Z0d a1/\Z06 p0=some a1/\a0=1+cond a1.ZI 9 0+cond a1.Map 5 0 | .b3 a0 a1=>Z0d a1/\Z06 p0=some a1/\a0=1+cond a1.ZI 9 0+cond a1.Map 5 0+cond a1.Z0u 2 0 | .b4 a0 a1=>Z0d a1/\Z06 p0=some a1/\a0=1+cond a1.ZI 9 0+cond a1.Map 5 0+cond a1.Z0u 2 0/\(a1.ZL||a1.Version||a1.Length)=true | .b5 a0 a1=>Z0d a1/\Z06 p0=some a1/\a0=1+cond a1.ZI 9 0+cond a1.Map 5 0+cond a1.Z0u 2 0+cond (a1.ZL||a1.Version||a1.Length) 1 0 | .b6 a0 a1=>Z0d a1/\Z06 p0=some a1/\a0=1+cond a1.ZI 9 0+cond a1.Map 5 0+cond a1.Z0u 2 0+cond (a1.ZL||a1.Version||a1.Length) 1 0+cond a1.Z0C 1 0 | .b7 a0 a1=>Z0d a1/\Z06 p0=some a1/\a0=1+cond a1.ZI 9 0+cond a1.Map 5 0+cond a1.Z0u 2 0+cond (a1.ZL||a1.Version||a1.Length) 1 0+cond a1.Z0C 1 0/\(a1.Z4h||a1.ZQ)=true | .b8 a0 a1=>Z0d a1/\Z06 p0=some a1/\a0=1+cond a1.ZI 9 0+cond a1.Map 5 0+cond a1.Z0u 2 0+cond (a1.ZL||a1.Version||a1.Length) 1 0+cond a1.Z0C 1 0+cond (a1.Z4h||a1.ZQ) 8 0) (fun(p:Z8t)=>match p with | .b0 ..=>(0,0,8) | .b1 ..=>(0,0,7) | .b2 ..=>(0,0,6) | .b3 ..=>(0,0,5) | .b4 ..=>(0,0,4) | .b5 ..=>(0,0,3) | .b6 ..=>(0,0,2) | .b7 ..=>(0,0,1) | .b8 ..=>(0,0,0)) ?_ _ ?_
 all_goals try (intro p hp;cases p)
 case' b0=>
  dsimp only at hp
  have hx:=hp
  try dsimp only [Z09,Z0z,Z03,Z3R,Z1m,Z9Z,Z2q,Z1V] at hx
  simp only [Z8N]
  subst hp
  refine Ze (Z4Y _) (fun(v:Zd) hm hv=>?_)
  clear hx
  simp only [Z0d,Z2M,List.mem_cons,List.not_mem_nil,or_false] at hv
  rcases hv with rfl|rfl|rfl|rfl|rfl|rfl|rfl|rfl|rfl|rfl|rfl|rfl|rfl<;>simp only [szU,cond_true,cond_false,Bool.or_true,Bool.true_or,Bool.or_false,Bool.false_or,Bool.or_self,reduceCtorEq,and_false] at *<;>repeat' first|(refine Z1c (fun h=>?_) (fun h=>?_)<;>(try simp only [decide_eq_true_eq,decide_eq_false_iff_not,Bool.not_eq_true',Bool.not_eq_false',Bool.not_eq_true,Bool.not_eq_false,beq_iff_eq,bne_iff_ne,beq_eq_false_iff_ne,bne_eq_false_iff_eq,ne_eq,reduceCtorEq,Bool.and_eq_true,Bool.or_eq_true,Classical.not_not] at h;try simp(disch:=omega) only [ZE] at h))|(refine Z01 ?_;dsimp only;exact⟨⟨by simp [Z0d,Z2M],hm,by simp only [szU,cond_true,cond_false,Bool.or_true,Bool.true_or,Bool.or_false,Bool.false_or,Bool.or_self,reduceCtorEq,and_false] at *<;>omega⟩,Z0N.2 (by omega)⟩)
 case' b1|b2|b3|b4|b5|b6|b7|b8=>
  dsimp only at hp
  have hx:=hp
  try dsimp only [Z09,Z0z,Z03,Z3R,Z1m,Z9Z,Z2q,Z1V] at hx
  simp only [Z8N]
  have hu:=hp.1
  have hf:=hp.2.1
  have ha:=hp.2.2
  clear hp hx
  simp only [Z0d,Z2M,List.mem_cons,List.not_mem_nil,or_false] at hu
  rcases hu with rfl|rfl|rfl|rfl|rfl|rfl|rfl|rfl|rfl|rfl|rfl|rfl|rfl<;>simp only [szU,cond_true,cond_false,Bool.or_true,Bool.true_or,Bool.or_false,Bool.false_or,Bool.or_self,reduceCtorEq,and_false] at *<;>repeat' first|(refine Z1c (fun h=>?_) (fun h=>?_)<;>(try simp only [decide_eq_true_eq,decide_eq_false_iff_not,Bool.not_eq_true',Bool.not_eq_false',Bool.not_eq_true,Bool.not_eq_false,beq_iff_eq,bne_iff_ne,beq_eq_false_iff_ne,bne_eq_false_iff_eq,ne_eq,reduceCtorEq,Bool.and_eq_true,Bool.or_eq_true,Classical.not_not] at h;try simp(disch:=omega) only [ZE] at h))|(refine Z01 ?_;dsimp only;(try simp(disch:=omega) only [ZE]);first|exact⟨⟨by simp [Z0d,Z2M],hf,by simp only [szU,cond_true,cond_false,Bool.or_true,Bool.true_or,Bool.or_false,Bool.false_or,Bool.or_self,reduceCtorEq,and_false] at *<;>first|omega|exact⟨by omega,by first|trivial|rfl⟩⟩,Z0N.2 (by omega)⟩|exact⟨_,hf,by simp only [szU,cond_true,cond_false,Bool.or_true,Bool.true_or,Bool.or_false,Bool.false_or,Bool.or_self,reduceCtorEq,and_false] at *<;>omega,by simp [Z0d,Z2M]⟩)
 all_goals
  try dsimp only at hp
  try exact False.elim hp
  try have hx:=hp
  try dsimp only [Z09,Z0z,Z03,Z3R,Z1m,Z9Z,Z2q,Z1V] at hx
  try (repeat with_reducible (have hq:=And.left hp;replace hp:=And.right hp))
  try simp only [Z8N]
  try dsimp only
  repeat' first|(refine Z01 ?_;dsimp only;try simp(disch:=omega) only [ZE,List.length_append,List.length_cons,List.length_nil,List.length_take,List.length_drop,List.length_set,List.length_replicate,List.nil_append,List.drop_zero])|(refine Z1c (fun h=>?_) (fun h=>?_)<;>(try simp only [decide_eq_true_eq,decide_eq_false_iff_not,Bool.not_eq_true',Bool.not_eq_false',Bool.not_eq_true,Bool.not_eq_false,beq_iff_eq,bne_iff_ne,beq_eq_false_iff_ne,bne_eq_false_iff_eq,ne_eq,reduceCtorEq,Bool.and_eq_true,Bool.or_eq_true,Classical.not_not] at h;try simp(disch:=omega) only [ZE] at h))|refine Z02 ?_ ?_|refine Z0J ?_|with_reducible apply And.intro|rfl|assumption|exact True.intro|omega|exact decide_eq_true (Z0X _).1|exact Z0g (by assumption) (by omega)|exact Z0s (by assumption) (by omega)|(refine Z0N.2 ?_;first|omega|grind)|(apply Zkw;first|omega|(simp only [List.length_append,List.length_cons,List.length_nil,List.length_take,List.length_drop,List.length_set,List.length_replicate];omega))|(simp only [Bool.and_eq_true,Bool.or_eq_true,decide_eq_true_eq,beq_iff_eq,bne_iff_ne,beq_self_eq_true,and_self,and_true,true_and,List.length_map,List.length_append,List.length_cons,List.length_nil,List.length_take,List.length_drop,List.length_set,List.length_replicate,Z00,maxLen_eq]<;>omega)|(simp(disch:=omega) only [ZE,decide_eq_true_eq,bne_iff_ne,ne_eq];(repeat' split)<;>omega)|(simp [Z0d,Z2M];done)|grind|(simp only [Bool.and_eq_true,Bool.or_eq_true,decide_eq_true_eq,beq_iff_eq,bne_iff_ne,beq_self_eq_true,and_self,and_true,true_and,List.length_map,List.length_append,List.length_cons,List.length_nil,List.length_take,List.length_drop,List.length_set,List.length_replicate,Z00,maxLen_eq]<;>grind)|grind [Z7N]
end Go.Proofs.YtjodhcdmhobmoaaGreatDoor
namespace Go.Proofs.YtjodhcdmhobmoaaGreatDoor
open Go Go.Proofs.YtjodhcdmhobmoaaGreatDoor.Le
set_option linter.defProp false
set_option maxRecDepth 100000
set_option maxHeartbeats 40000000
theorem Z3G:(∀(p0:Int),∃r,Z7Z p0=some r/\r.length<=37/\ZoO r) /\
  (∀(p0:Int) (p1:ZO),∃r,Ze8 p0 p1=some r/\True) /\
  (∀(p0:Zr) (p1:Zb),Z0z p0->Z1m p1->∃r,Z9o p0 p1=some r/\Z0z r.1) /\
  (∀(p0 p1:Int),∃r,Z8i p0 p1=some r/\R64 r) /\
  (∀(p0:Zk),Z1m p0.ZH->∃r,Zat p0=some r/\r.1.length<=257/\byL r.1) /\
  (∀(p0:Int) (p1:List Int),p1.length<=100000->byL p1->∃r,ZbM p0 p1=some r/\r.length=p1.length+3/\byL r) /\
  (∀(p0:Int) (p1:List Int),p1.length<=100000->∃r,Z8R p0 p1=some r/\r.q0.length=p1.length/\byL r.q0) /\
  (∀(p0:List Z9) (p1:Int),(p0.length<=1/\Zfh p0)->∃r,Zns p0 p1=some r/\r.1.length<=1/\Zfh r.1/\r.2.length<=1/\Zfh r.2) /\
  (∀(k:Int) (p0:Z8) (p1:Z9),Z09 k p0->ZDw p1->0<=k->k<=1000000->∃r,ZeK p0 p1=some r/\Z09 k r) /\
  (∀(p0:Int) (p1:Z9),ZDw p1->∃r,ZdD p0 p1=some r/\True) /\
  (∀(p0:Z7) (p1:Int),Z03 p0->∃r,Z8X p0 p1=some r/\True) /\
  (∀(p0:Zg),∃r,ZmR p0=some r/\True) /\
  (∀(p0:Int) (p1:List Int),p1.length<=65536->byL p1->∃r,ZeO p0 p1=some r/\r.1.length<=65536/\byL r.1) /\
  (∀(p0:Zr) (p1:Zk),Z0z p0->Z1m p1.ZH->∃r,ZhF p0 p1=some r/\Z0z r.1/\Z1m r.2.1):=by
 refine⟨fun p0=>Zj (fun(p:Z8o)=>match p with | .b0 ..=>True | .b1 _ a1 a2=>0<=a2/\a2<=37/\(a1.length:Int)<=a2/\ZoO a1 | .b2 _ a1 a2=>0<=a2/\a2<=36/\(a1.length:Int)<=a2+1/\ZoO a1) (fun(p:Z8o)=>match p with | .b0 ..=>(1,0,0) | .b1 _ _ a2=>(0,(37 - a2).toNat,1) | .b2 _ _ a2=>(0,(37 - a2).toNat,0)) ?_ _ ?_,
  fun p0 p1=>Zj (fun(p:Z7c)=>True) (fun(p:Z7c)=>(0,0,0)) ?_ _ ?_,
  fun p0 p1 h0 h1=>Zj (fun(p:Z6G)=>match p with | .b0 a0 a1=>Z0z a0/\Z1m a1 | .b1 a0 a1 a2=>Z0z a0/\Z1m a1/\Z0z a2/\Z9Z a1) (fun(p:Z6G)=>match p with | .b0 ..=>(0,0,1) | .b1 ..=>(0,0,0)) ?_ _ ?_,
  fun p0 p1=>Zj (fun(p:Zb8)=>match p with | .b0 ..=>True | .b1 _ _ _ a3=>0<=a3/\a3<=8) (fun(p:Zb8)=>match p with | .b0 ..=>(1,0,0) | .b1 _ _ _ a3=>(0,(8 - a3).toNat,0)) ?_ _ ?_,
  fun p0 h0=>Zj (fun(p:Z4T)=>match p with | .b0 a0=>Z1m a0.ZH) (fun(p:Z4T)=>(0,0,0)) ?_ _ ?_,
  fun p0 p1 h0 h1=>Zj (fun(p:Z4V)=>match p with | .b0 _ a1=>a1=p1) (fun(p:Z4V)=>(0,0,0)) ?_ _ ?_,
  fun p0 p1 h0=>Zj (fun(p:Z6t)=>match p with | .b0 _ a1=>a1=p1 | .b1 a0 a1 a2 a3=>a0=p1/\a0.length<=100000/\a1.length=p1.length/\0<=a3/\a3<=(a0.length:Int)/\(a2.length:Int)=a3/\byL a2) (fun(p:Z6t)=>match p with | .b0 ..=>(1,0,0) | .b1 a0 _ _ a3=>(0,((a0.length:Int) - a3).toNat,0)) ?_ _ ?_,
  fun p0 p1 h0=>Zj (fun(p:Za3)=>match p with | .b0 a0 _=>a0.length<=1/\Zfh a0 | .b1 a0 _ a2 a3 a4=>a0.length<=1/\Zfh a0/\a2.length<=1/\Zfh a2/\a3.length<=1/\Zfh a3/\0<=a4/\a4<=(a0.length:Int)/\(a2.length:Int)+(a3.length:Int)<=a4 | .b2 a0 _ a2 a3 a4=>a0.length<=1/\Zfh a0/\a2.length<=1/\Zfh a2/\a3.length<=1/\Zfh a3/\0<=a4/\a4<(a0.length:Int)/\(a2.length:Int)+(a3.length:Int)<=a4+1) (fun(p:Za3)=>match p with | .b0 ..=>(1,0,0) | .b1 a0 _ _ _ a4=>(0,((a0.length:Int) - a4).toNat,1) | .b2 a0 _ _ _ a4=>(0,((a0.length:Int) - a4).toNat,0)) ?_ _ ?_,
  fun k p0 p1 h0 h1 h2 h3=>Zj (fun(p:Z6x)=>match p with | .b0 a0 a1=>Z09 k a0/\ZDw a1 | .b1 a0 a1 a2=>Z09 k a0/\ZDw a1/\Z09 k a2) (fun(p:Z6x)=>match p with | .b0 ..=>(0,0,1) | .b1 ..=>(0,0,0)) ?_ _ ?_,
  fun p0 p1 h0=>Zj (fun(p:Z60)=>match p with | .b0 _ a1=>ZDw a1 | .b1 _ a1=>ZDw a1) (fun(p:Z60)=>match p with | .b0 ..=>(0,0,1) | .b1 ..=>(0,0,0)) ?_ _ ?_,
  fun p0 p1 h0=>Zj (fun(p:Z3l)=>match p with | .b0 a0 _=>Z03 a0) (fun(p:Z3l)=>(0,0,0)) ?_ _ ?_,
  fun p0=>Zj (fun(p:Za5)=>True) (fun(p:Za5)=>(0,0,0)) ?_ _ ?_,
  fun p0 p1 h0 h1=>Zj (fun(p:Z6Z)=>match p with | .b0 _ a1=>a1.length<=65536/\byL a1) (fun(p:Z6Z)=>(0,0,0)) ?_ _ ?_,
  fun p0 p1 h0 h1=>Zj (fun(p:Z8b)=>match p with | .b0 a0 a1=>Z0z a0/\Z1m a1.ZH | .b1 a0 a1 a2 a3=>Z0z a0/\Z1m a1.ZH/\Z0z a2/\Z1m a3 | .b2 _ a1 a2 a3 a4=>Z0z a1/\Z1m a2.ZH/\Z0z a3/\Z1m a4 | .b3 _ a1 a2 a3 a4=>Z0z a1/\Z1m a2.ZH/\Z0z a3/\Z1m a4/\0<a1.ZP.length | .b4 _ a1 a2 a3 a4=>Z1m a2.ZH/\Z1m a4/\Z0z { a1 with Open:=false }/\Z0z a3 | .b5 _ a1 a2 a3=>Z0z a1/\Z0z a2/\Z1m a3) (fun(p:Z8b)=>match p with | .b0 ..=>(0,0,5) | .b1 ..=>(0,0,4) | .b2 ..=>(0,0,1) | .b3 ..=>(0,0,3) | .b4 ..=>(0,0,2) | .b5 ..=>(0,0,0)) ?_ _ ?_⟩
 all_goals try (intro p hp;cases p)
 all_goals
  try dsimp only at hp
  try exact False.elim hp
  try have hx:=hp
  try dsimp only [Z09,Z0z,Z03,Z3R,Z1m,Z9Z,Z2q,Z1V] at hx
  try (repeat with_reducible (have hq:=And.left hp;replace hp:=And.right hp))
  try simp only [ZhP,Zdk,Ze5,ZlD,Zay,Zal,Zdw,ZmH,ZeI,ZdW,Z9h,ZmS,ZeT,Zi2]
  try dsimp only
  repeat' first|(refine Z01 ?_;dsimp only;try simp(disch:=omega) only [ZE,List.length_append,List.length_cons,List.length_nil,List.length_take,List.length_drop,List.length_set,List.length_replicate,List.nil_append,List.drop_zero])|(refine Z1c (fun h=>?_) (fun h=>?_)<;>(try simp only [decide_eq_true_eq,decide_eq_false_iff_not,Bool.not_eq_true',Bool.not_eq_false',Bool.not_eq_true,Bool.not_eq_false,beq_iff_eq,bne_iff_ne,beq_eq_false_iff_ne,bne_eq_false_iff_eq,ne_eq,reduceCtorEq,Bool.and_eq_true,Bool.or_eq_true,Classical.not_not] at h;try simp(disch:=omega) only [ZE] at h))|refine Z02 ?_ ?_|refine Z0J ?_|refine Ze (Zua _ _) fun(v:Bool) hm hv=>?_|refine Ze (Zzq _) fun(v:Int) hm hv=>?_|refine Ze (ZuU _) fun(v:Int) hm hv=>?_|refine Ze (ZCq _) fun(v:Int) hm hv=>?_|refine Ze (Zr1 _) fun(v:Bool) hm hv=>?_|refine Ze (Zef _) fun(v:Int) hm hv=>?_|refine Ze (Zzl _ _ _) fun(v:Int) hm hv=>?_|refine Ze (ZGY _ _ ?_) fun(v:Int) hm hv=>?_|refine Ze (ZBw _) fun(v:(List Int)) hm hv=>?_|refine Ze (ZoA _ _ ?_ ?_) fun(v:(List Int)) hm hv=>?_|refine ZjN ?_ fun v hv=>?_|refine Ze (ZvB _ _) fun(v:Bool) hm hv=>?_|refine ZrM ?_ fun v hv=>?_|refine Ze (ZGs _ _) fun(v:Zo) hm hv=>?_|refine Ze (ZDx _ _ _) fun(v:Bool) hm hv=>?_|refine Ze (Zdl _) fun(v:Int) hm hv=>?_|refine Ze (Zp4 _) fun(v:Int) hm hv=>?_|with_reducible apply And.intro|rfl|assumption|exact True.intro|omega|exact decide_eq_true (Z0X _).1|exact Z0g (by assumption) (by omega)|exact Z0s (by assumption) (by omega)|(refine Z0N.2 ?_;first|omega|grind)|(apply Zkw;first|omega|(simp only [List.length_append,List.length_cons,List.length_nil,List.length_take,List.length_drop,List.length_set,List.length_replicate];omega))|(simp only [Bool.and_eq_true,Bool.or_eq_true,decide_eq_true_eq,beq_iff_eq,bne_iff_ne,beq_self_eq_true,and_self,and_true,true_and,List.length_map,List.length_append,List.length_cons,List.length_nil,List.length_take,List.length_drop,List.length_set,List.length_replicate,Z00,maxLen_eq]<;>omega)|(simp(disch:=omega) only [ZE,decide_eq_true_eq,bne_iff_ne,ne_eq];(repeat' split)<;>omega)|(simp [Z0d,Z2M];done)|grind|(simp only [Bool.and_eq_true,Bool.or_eq_true,decide_eq_true_eq,beq_iff_eq,bne_iff_ne,beq_self_eq_true,and_self,and_true,true_and,List.length_map,List.length_append,List.length_cons,List.length_nil,List.length_take,List.length_drop,List.length_set,List.length_replicate,Z00,maxLen_eq]<;>grind)|grind [Z7N]
def Zpl:=Z3G.1
def Zxi:=Z3G.2.1
def Zln:=Z3G.2.2.1
def ZG9:=Z3G.2.2.2.1
def Zv7:=Z3G.2.2.2.2.1
def ZsW:=Z3G.2.2.2.2.2.1
def Zyx:=Z3G.2.2.2.2.2.2.1
def ZEo:=Z3G.2.2.2.2.2.2.2.1
def Zxa:=Z3G.2.2.2.2.2.2.2.2.1
def ZyQ:=Z3G.2.2.2.2.2.2.2.2.2.1
def ZqN:=Z3G.2.2.2.2.2.2.2.2.2.2.1
def ZGF:=Z3G.2.2.2.2.2.2.2.2.2.2.2.1
def Zwr:=Z3G.2.2.2.2.2.2.2.2.2.2.2.2.1
def ZDc:=Z3G.2.2.2.2.2.2.2.2.2.2.2.2.2
end Go.Proofs.YtjodhcdmhobmoaaGreatDoor
namespace Go.Proofs.YtjodhcdmhobmoaaGreatDoor
open Go Go.Proofs.YtjodhcdmhobmoaaGreatDoor.Le
set_option linter.defProp false
set_option maxRecDepth 100000
set_option maxHeartbeats 40000000
theorem ZxP:∀(p0:Z4) (p1:List Int),Z0M p0->(∃u,Z06 p0.Kind=some u/\(p1.length:Int)=szU u/\Z0d u)->p1.length<=65536->∃r,Zdu p0 p1=some r/\Z0M r:=by
 refine fun p0 p1 h0 h1 h2=>Zj (fun(p:Z70)=>match p with | .b0 a0 a1=>Z0M a0/\a0.Kind=p0.Kind/\a1=p1 | .b1 a0 a1 a2 _ a4=>Z0M a2/\Z0d a4/\(a0.length:Int)=szU a4/\a1=1+cond a4.ZI 9 0/\a0.length<=65536 | .b2 a0 a1 a2 _ a4=>Z0M a2/\Z0d a4/\(a0.length:Int)=szU a4/\a1=1+cond a4.ZI 9 0+cond a4.Map 5 0/\a0.length<=65536 | .b3 a0 a1 a2 _ a4=>Z0M a2/\Z0d a4/\(a0.length:Int)=szU a4/\a1=1+cond a4.ZI 9 0+cond a4.Map 5 0/\a0.length<=65536 | .b4 a0 a1 a2 _ a4=>Z0M a2/\Z0d a4/\(a0.length:Int)=szU a4/\a1=1+cond a4.ZI 9 0+cond a4.Map 5 0+cond a4.ZL 1 0/\a0.length<=65536 | .b5 a0 a1 a2 _ a4=>Z0M a2/\Z0d a4/\(a0.length:Int)=szU a4/\a1=1+cond a4.ZI 9 0+cond a4.Map 5 0+cond a4.ZL 1 0/\a0.length<=65536 | .b6 a0 a1 a2 _ a4=>Z0M a2/\Z0d a4/\(a0.length:Int)=szU a4/\a1=1+cond a4.ZI 9 0+cond a4.Map 5 0+cond a4.ZL 1 0+cond a4.Z4h 8 0/\a0.length<=65536 | .b7 a0 a1 a2 _ a4=>Z0M a2/\Z0d a4/\(a0.length:Int)=szU a4/\a1=1+cond a4.ZI 9 0+cond a4.Map 5 0+cond a4.ZL 1 0+cond a4.Z4h 8 0/\a0.length<=65536 | .b8 a0 a1 a2 _ a4=>Z0M a2/\Z0d a4/\(a0.length:Int)=szU a4/\a1=1+cond a4.ZI 9 0+cond a4.Map 5 0+cond a4.ZL 1 0+cond a4.Z4h 8 0/\a0.length<=65536 | .b9 a0 a1 a2 _ a4=>Z0M a2/\Z0d a4/\(a0.length:Int)=szU a4/\a1=1+cond a4.ZI 9 0+cond a4.Map 5 0+cond a4.ZL 1 0+cond a4.Z4h 8 0/\a0.length<=65536) (fun(p:Z70)=>match p with | .b0 ..=>(0,0,9) | .b1 ..=>(0,0,8) | .b2 ..=>(0,0,7) | .b3 ..=>(0,0,6) | .b4 ..=>(0,0,5) | .b5 ..=>(0,0,4) | .b6 ..=>(0,0,3) | .b7 ..=>(0,0,2) | .b8 ..=>(0,0,1) | .b9 ..=>(0,0,0)) ?_ _ ?_
 all_goals try (intro p hp;cases p)
 case' b0=>
  dsimp only at hp
  have hx:=hp
  try dsimp only [Z09,Z0z,Z03,Z3R,Z1m,Z9Z,Z2q,Z1V] at hx
  simp only [Z6a]
  obtain⟨hq,hk,rfl⟩:=hp
  obtain⟨u,h1,h2,h3⟩:=h1
  refine ZAe (hk▸h1) ?_
  clear hx h1 hk
  simp only [Z0d,Z2M,List.mem_cons,List.not_mem_nil,or_false] at h3
  rcases h3 with rfl|rfl|rfl|rfl|rfl|rfl|rfl|rfl|rfl|rfl|rfl|rfl|rfl<;>simp only [szU,cond_true,cond_false,Bool.or_true,Bool.true_or,Bool.or_false,Bool.false_or,Bool.or_self,reduceCtorEq,and_false] at *<;>repeat' first|(refine Z1c (fun h=>?_) (fun h=>?_)<;>(try simp only [decide_eq_true_eq,decide_eq_false_iff_not,Bool.not_eq_true',Bool.not_eq_false',Bool.not_eq_true,Bool.not_eq_false,beq_iff_eq,bne_iff_ne,beq_eq_false_iff_ne,bne_eq_false_iff_eq,ne_eq,reduceCtorEq,Bool.and_eq_true,Bool.or_eq_true,Classical.not_not] at h;try simp(disch:=omega) only [ZE] at h))|(refine Ze (ZmB _ _ _ (by omega) (by omega) (by omega) (by omega) (by omega)) (fun(v:Int) hm hv=>?_))|(refine ZjN ?_ (fun v hv=>?_))|(refine Ze (Z9G _ _ (by omega) (by omega) (by omega)) (fun(v:ZO) hm hv=>?_))|(refine Z01 ?_;dsimp only;(try simp(disch:=omega) only [ZE]);first|exact⟨⟨by grind,by simp [Z0d,Z2M],by first|omega|(simp only [szU,cond_true,cond_false,Bool.or_true,Bool.true_or,Bool.or_false,Bool.false_or,Bool.or_self,reduceCtorEq,and_false] at *<;>omega),by first|omega|(simp only [szU,cond_true,cond_false,Bool.or_true,Bool.true_or,Bool.or_false,Bool.false_or,Bool.or_self,reduceCtorEq,and_false] at *<;>omega),by omega⟩,Z0N.2 (by omega)⟩|grind)
 case' b1|b2|b3|b4|b5|b6|b7|b8|b9=>
  dsimp only at hp
  have hx:=hp
  try dsimp only [Z09,Z0z,Z03,Z3R,Z1m,Z9Z,Z2q,Z1V] at hx
  simp only [Z6a]
  have hc:=hp.1
  have hu:=hp.2.1
  have hl:=hp.2.2.1
  have ha:=hp.2.2.2.1
  have hs:=hp.2.2.2.2
  clear hp hx
  simp only [Z0d,Z2M,List.mem_cons,List.not_mem_nil,or_false] at hu
  rcases hu with rfl|rfl|rfl|rfl|rfl|rfl|rfl|rfl|rfl|rfl|rfl|rfl|rfl<;>simp only [szU,cond_true,cond_false,Bool.or_true,Bool.true_or,Bool.or_false,Bool.false_or,Bool.or_self,reduceCtorEq,and_false] at *<;>repeat' first|(refine Z1c (fun h=>?_) (fun h=>?_)<;>(try simp only [decide_eq_true_eq,decide_eq_false_iff_not,Bool.not_eq_true',Bool.not_eq_false',Bool.not_eq_true,Bool.not_eq_false,beq_iff_eq,bne_iff_ne,beq_eq_false_iff_ne,bne_eq_false_iff_eq,ne_eq,reduceCtorEq,Bool.and_eq_true,Bool.or_eq_true,Classical.not_not] at h;try simp(disch:=omega) only [ZE] at h))|(refine Z02 ?_ ?_)|(refine Ze (ZmB _ _ _ (by omega) (by omega) (by omega) (by omega) (by omega)) (fun(v:Int) hm hv=>?_))|(refine ZjN ?_ (fun v hv=>?_))|(refine Ze (Z9G _ _ (by omega) (by omega) (by omega)) (fun(v:ZO) hm hv=>?_))|(refine Z01 ?_;dsimp only;(try simp(disch:=omega) only [ZE]);first|exact⟨⟨by grind,by simp [Z0d,Z2M],by first|omega|(simp only [szU,cond_true,cond_false,Bool.or_true,Bool.true_or,Bool.or_false,Bool.false_or,Bool.or_self,reduceCtorEq,and_false] at *<;>omega),by first|omega|(simp only [szU,cond_true,cond_false,Bool.or_true,Bool.true_or,Bool.or_false,Bool.false_or,Bool.or_self,reduceCtorEq,and_false] at *<;>omega),by omega⟩,Z0N.2 (by omega)⟩|grind)
 all_goals
  try dsimp only at hp
  try exact False.elim hp
  try have hx:=hp
  try dsimp only [Z09,Z0z,Z03,Z3R,Z1m,Z9Z,Z2q,Z1V] at hx
  try (repeat with_reducible (have hq:=And.left hp;replace hp:=And.right hp))
  try simp only [Z6a]
  try dsimp only
  repeat' first|(refine Z01 ?_;dsimp only;try simp(disch:=omega) only [ZE,List.length_append,List.length_cons,List.length_nil,List.length_take,List.length_drop,List.length_set,List.length_replicate,List.nil_append,List.drop_zero])|(refine Z1c (fun h=>?_) (fun h=>?_)<;>(try simp only [decide_eq_true_eq,decide_eq_false_iff_not,Bool.not_eq_true',Bool.not_eq_false',Bool.not_eq_true,Bool.not_eq_false,beq_iff_eq,bne_iff_ne,beq_eq_false_iff_ne,bne_eq_false_iff_eq,ne_eq,reduceCtorEq,Bool.and_eq_true,Bool.or_eq_true,Classical.not_not] at h;try simp(disch:=omega) only [ZE] at h))|refine Z02 ?_ ?_|refine Z0J ?_|with_reducible apply And.intro|rfl|assumption|exact True.intro|omega|exact decide_eq_true (Z0X _).1|exact Z0g (by assumption) (by omega)|exact Z0s (by assumption) (by omega)|(refine Z0N.2 ?_;first|omega|grind)|(apply Zkw;first|omega|(simp only [List.length_append,List.length_cons,List.length_nil,List.length_take,List.length_drop,List.length_set,List.length_replicate];omega))|(simp only [Bool.and_eq_true,Bool.or_eq_true,decide_eq_true_eq,beq_iff_eq,bne_iff_ne,beq_self_eq_true,and_self,and_true,true_and,List.length_map,List.length_append,List.length_cons,List.length_nil,List.length_take,List.length_drop,List.length_set,List.length_replicate,Z00,maxLen_eq]<;>omega)|(simp(disch:=omega) only [ZE,decide_eq_true_eq,bne_iff_ne,ne_eq];(repeat' split)<;>omega)|(simp [Z0d,Z2M];done)|grind|(simp only [Bool.and_eq_true,Bool.or_eq_true,decide_eq_true_eq,beq_iff_eq,bne_iff_ne,beq_self_eq_true,and_self,and_true,true_and,List.length_map,List.length_append,List.length_cons,List.length_nil,List.length_take,List.length_drop,List.length_set,List.length_replicate,Z00,maxLen_eq]<;>grind)|grind [Z7N]
theorem Zae:(∀(p0:Int),∃r,Z6O p0=some r/\0<=r/\r<=37) /\
  (∀(p0 p1:Int),∃r,ZgP p0 p1=some r/\True) /\
  (∀(p0 p1 p2:Int),0<=p2->p2<=100000->∃r,Z7A p0 p1 p2=some r/\(r.length:Int)=p2/\byL r) /\
  (∀(p0:Int) (p1:List Int),p1.length<=1000000->∃r,Zf9 p0 p1=some r/\R64 r) /\
  (∀(p0:Z7) (p1:Int),Z03 p0->∃r,Znu p0 p1=some r/\Z03 r.1/\r.2.length<=1/\Zfh r.2) /\
  (∀(p0:List Z9) (p1:Int) (p2:Z9),(p0.length<=1/\Zfh p0)->ZDw p2->∃r,Zgp p0 p1 p2=some r/\r.1.length<=1/\Zfh r.1) /\
  (∀(k:Int) (p0:Z8) (p1:Zb),Z09 k p0->Z1m p1->0<=k->k<=1000000->∃r,ZhD p0 p1=some r/\Z09 k r.1) /\
  (∀(p0:List Zg) (p1:List Int),p0.length<=37->p1.length<=37->∃r,ZdN p0 p1=some r/\r<(p1.length:Int)):=by
 refine⟨fun p0=>Zj (fun(p:Z78)=>True) (fun(p:Z78)=>(0,0,0)) ?_ _ ?_,
  fun p0 p1=>Zj (fun(p:Zam)=>match p with | .b0 ..=>True | .b1 a0 a1=>0<=a0/\a0<(a1.length:Int)) (fun(p:Zam)=>match p with | .b0 ..=>(0,0,1) | .b1 ..=>(0,0,0)) ?_ _ ?_,
  fun p0 p1 p2 h0 h1=>Zj (fun(p:Z4N)=>match p with | .b0 _ _ a2=>a2=p2/\0<=a2/\a2<=100000 | .b1 _ a1 a2 _ a4=>a1=p2/\0<=a1/\a1<=100000/\0<=a4/\(a2.length:Int)=8*a4/\8*a4<=a1+8/\byL a2) (fun(p:Z4N)=>match p with | .b0 ..=>(1,0,0) | .b1 _ a1 _ _ a4=>(0,(a1+8 - 8*a4).toNat,0)) ?_ _ ?_,
  fun p0 p1 h0=>Zj (fun(p:Zax)=>match p with | .b0 _ a1=>a1.length<=1000000 | .b1 _ a1 a2 a3=>0<=a3/\a3<=(a1.length:Int)+8/\a1.length<=1000000/\R64 a2) (fun(p:Zax)=>match p with | .b0 ..=>(1,0,0) | .b1 _ a1 _ a3=>(0,((a1.length:Int)+8 - a3).toNat,0)) ?_ _ ?_,
  fun p0 p1 h0=>Zj (fun(p:ZaV)=>match p with | .b0 a0 _=>Z03 a0 | .b1 a0 a1=>Z03 a0/\Z03 a1 | .b2 a0 a1 a2=>a0.length<=1/\Zfh a0/\Z03 a1/\Z03 a2 | .b3 a0 a1 a2 a3=>a0.length<=1/\Zfh a0/\Z03 a2/\Z03 a3/\0<=a1/\a1<=(a0.length:Int) | .b4 a0 a1 a2 a3=>a0.length<=1/\Zfh a0/\Z03 a2/\Z03 a3/\0<=a1/\a1<(a0.length:Int) | .b5 a0 a1 a2 a3=>a0.length<=1/\Zfh a0/\Z03 a2/\Z03 a3/\0<=a1/\a1<(a0.length:Int)) (fun(p:ZaV)=>match p with | .b0 ..=>(2,0,0) | .b1 ..=>(1,0,0) | .b2 ..=>(1,0,1) | .b3 a0 a1 _ _=>(0,((a0.length:Int) - a1).toNat,3) | .b4 a0 a1 _ _=>(0,((a0.length:Int) - a1).toNat,2) | .b5 a0 a1 _ _=>(0,((a0.length:Int) - a1).toNat,1)) ?_ _ ?_,
  fun p0 p1 p2 h0 h1=>Zj (fun(p:Zb7)=>match p with | .b0 a0 _ a2=>a0.length<=1/\Zfh a0/\ZDw a2) (fun(p:Zb7)=>(0,0,0)) ?_ _ ?_,
  fun k p0 p1 h0 h1 h2 h3=>Zj (fun(p:Z8j)=>match p with | .b0 a0 a1=>Z09 k a0/\Z1m a1 | .b1 a0 a1 a2=>Z09 k a0/\Z1m a1/\Z09 k a2) (fun(p:Z8j)=>match p with | .b0 ..=>(0,0,1) | .b1 ..=>(0,0,0)) ?_ _ ?_,
  fun p0 p1 h0 h1=>Zj (fun(p:Z71)=>match p with | .b0 a0 a1=>a0.length<=37/\a1=p1/\a1.length<=37 | .b1 a0 a1 a2 a3=>a0.length<=37/\a1=p1/\a1.length<=37/\a2<(a1.length:Int)/\0<=a3/\a3<=(a1.length:Int) | .b2 a0 a1 a2 a3=>a0.length<=37/\a1=p1/\a1.length<=37/\a2<(a1.length:Int)/\0<=a3/\a3<(a1.length:Int) | .b3 a0 a1 a2=>a0.length<=37/\a1=p1/\a1.length<=37/\a2<(a1.length:Int)/\0<=a2) (fun(p:Z71)=>match p with | .b0 ..=>(1,0,0) | .b1 _ a1 _ a3=>(0,((a1.length:Int) - a3).toNat,2) | .b2 _ a1 _ a3=>(0,((a1.length:Int) - a3).toNat,0) | .b3 _ a1 a2=>(0,((a1.length:Int) - a2).toNat,1)) ?_ _ ?_⟩
 all_goals try (intro p hp;cases p)
 all_goals
  try dsimp only at hp
  try exact False.elim hp
  try have hx:=hp
  try dsimp only [Z09,Z0z,Z03,Z3R,Z1m,Z9Z,Z2q,Z1V] at hx
  try (repeat with_reducible (have hq:=And.left hp;replace hp:=And.right hp))
  try simp only [ZdS,Zl9,Zbw,Zn7,Zlq,ZlE,ZiG,Zeu]
  try dsimp only
  repeat' first|(refine Z01 ?_;dsimp only;try simp(disch:=omega) only [ZE,List.length_append,List.length_cons,List.length_nil,List.length_take,List.length_drop,List.length_set,List.length_replicate,List.nil_append,List.drop_zero])|(refine Z1c (fun h=>?_) (fun h=>?_)<;>(try simp only [decide_eq_true_eq,decide_eq_false_iff_not,Bool.not_eq_true',Bool.not_eq_false',Bool.not_eq_true,Bool.not_eq_false,beq_iff_eq,bne_iff_ne,beq_eq_false_iff_ne,bne_eq_false_iff_eq,ne_eq,reduceCtorEq,Bool.and_eq_true,Bool.or_eq_true,Classical.not_not] at h;try simp(disch:=omega) only [ZE] at h))|refine Z02 ?_ ?_|refine Z0J ?_|refine Ze (Zpl _) fun(v:(List Int)) hm hv=>?_|refine ZIU ?_ fun v hv=>?_|refine Ze (ZG9 _ _) fun(v:Int) hm hv=>?_|refine Ze (Zn1 _ _ ?_ ?_) fun(v:Z1R) hm hv=>?_|refine Ze (ZxK _ ?_) fun(v:Int) hm hv=>?_|refine Ze (ZEo _ _ ?_) fun(v:((List Z9)×(List Z9))) hm hv=>?_|refine ZrM ?_ fun v hv=>?_|refine Ze (ZyQ _ _ ?_) fun(v:Int) hm hv=>?_|refine Ze (Zef _) fun(v:Int) hm hv=>?_|refine Ze (Zlg _ ?_) fun(v:Bool) hm hv=>?_|refine Ze (Zln _ _ ?_ ?_) fun(v:(Zr×Int)) hm hv=>?_|refine Ze (ZHT _ _ ?_) fun(v:Zg) hm hv=>?_|refine Ze (ZGF _) fun(v:Bool) hm hv=>?_|refine Ze (Zp4 _) fun(v:Int) hm hv=>?_|with_reducible apply And.intro|rfl|assumption|exact True.intro|omega|exact decide_eq_true (Z0X _).1|exact Z0g (by assumption) (by omega)|exact Z0s (by assumption) (by omega)|(refine Z0N.2 ?_;first|omega|grind)|(apply Zkw;first|omega|(simp only [List.length_append,List.length_cons,List.length_nil,List.length_take,List.length_drop,List.length_set,List.length_replicate];omega))|(simp only [Bool.and_eq_true,Bool.or_eq_true,decide_eq_true_eq,beq_iff_eq,bne_iff_ne,beq_self_eq_true,and_self,and_true,true_and,List.length_map,List.length_append,List.length_cons,List.length_nil,List.length_take,List.length_drop,List.length_set,List.length_replicate,Z00,maxLen_eq]<;>omega)|(simp(disch:=omega) only [ZE,decide_eq_true_eq,bne_iff_ne,ne_eq];(repeat' split)<;>omega)|(simp [Z0d,Z2M];done)|grind|(simp only [Bool.and_eq_true,Bool.or_eq_true,decide_eq_true_eq,beq_iff_eq,bne_iff_ne,beq_self_eq_true,and_self,and_true,true_and,List.length_map,List.length_append,List.length_cons,List.length_nil,List.length_take,List.length_drop,List.length_set,List.length_replicate,Z00,maxLen_eq]<;>grind)|grind [Z7N]
def Zy7:=Zae.1
def ZE2:=Zae.2.1
def Zta:=Zae.2.2.1
def ZEs:=Zae.2.2.2.1
def ZGp:=Zae.2.2.2.2.1
def ZEu:=Zae.2.2.2.2.2.1
def ZCG:=Zae.2.2.2.2.2.2.1
def ZxD:=Zae.2.2.2.2.2.2.2
end Go.Proofs.YtjodhcdmhobmoaaGreatDoor
