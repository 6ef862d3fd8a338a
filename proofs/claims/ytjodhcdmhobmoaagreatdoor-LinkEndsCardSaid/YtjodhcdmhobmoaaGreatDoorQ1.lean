/-
  A part of the proof.
-/
import Derived.Test.YtjodhcdmhobmoaaGreatDoorQ1e
set_option linter.unusedVariables false
set_option linter.unusedSimpArgs false
namespace Go.Proofs.YtjodhcdmhobmoaaGreatDoor
open Go Go.Proofs.YtjodhcdmhobmoaaGreatDoor.Le
set_option linter.defProp false
set_option maxRecDepth 100000
set_option maxHeartbeats 40000000
theorem ZJm:(∀(k:Int) (p0:Z8),Z09 k p0->0<=k->k<=1000000->p0.ZL≠0->∃r,Z7x p0=some r/\r=false) /\
  (∀(p0:Z0v),∃r,Z14 p0=some r/\r=decide (p0.Link.ZL=0)):=by
 refine⟨fun k p0 h0 h1 h2 h3=>Zj (fun(p:Z4H)=>match p with | .b0 a0=>Z09 k a0/\a0.ZL≠0 | .b1 ..=>False) (fun(p:Z4H)=>match p with | .b0 ..=>(0,0,1) | .b1 ..=>(0,0,0)) ?_ _ ?_,
  fun p0=>Zj (fun(p:Z1w)=>match p with | .b0 a0=>a0=p0) (fun(p:Z1w)=>(0,0,0)) ?_ _ ?_⟩
 all_goals try (intro p hp;cases p)
 all_goals
  try dsimp only at hp
  try exact False.elim hp
  try have hx:=hp
  try dsimp only [Z09,Z0z,Z03,Z3R,Z1m,Z9Z,Z2q,Z1V] at hx
  try (repeat with_reducible (have hq:=And.left hp;replace hp:=And.right hp))
  try simp only [ZaL,Z3m]
  try dsimp only
  repeat' first|(refine Z01 ?_;dsimp only;try simp(disch:=omega) only [ZE,List.length_append,List.length_cons,List.length_nil,List.length_take,List.length_drop,List.length_set,List.length_replicate,List.nil_append,List.drop_zero])|(refine Z1c (fun h=>?_) (fun h=>?_)<;>(try simp only [decide_eq_true_eq,decide_eq_false_iff_not,Bool.not_eq_true',Bool.not_eq_false',Bool.not_eq_true,Bool.not_eq_false,beq_iff_eq,bne_iff_ne,beq_eq_false_iff_ne,bne_eq_false_iff_eq,ne_eq,reduceCtorEq,Bool.and_eq_true,Bool.or_eq_true,Classical.not_not] at h;try simp(disch:=omega) only [ZE] at h))|refine Z02 ?_ ?_|refine Z0J ?_|with_reducible apply And.intro|rfl|assumption|exact True.intro|omega|exact decide_eq_true (Z0X _).1|exact Z0g (by assumption) (by omega)|exact Z0s (by assumption) (by omega)|(refine Z0N.2 ?_;first|omega|grind)|(apply Zkw;first|omega|(simp only [List.length_append,List.length_cons,List.length_nil,List.length_take,List.length_drop,List.length_set,List.length_replicate];omega))|(simp only [Bool.and_eq_true,Bool.or_eq_true,decide_eq_true_eq,beq_iff_eq,bne_iff_ne,beq_self_eq_true,and_self,and_true,true_and,List.length_map,List.length_append,List.length_cons,List.length_nil,List.length_take,List.length_drop,List.length_set,List.length_replicate,Z00,maxLen_eq]<;>omega)|(simp(disch:=omega) only [ZE,decide_eq_true_eq,bne_iff_ne,ne_eq];(repeat' split)<;>omega)|(simp [Z0d,Z2M];done)|grind|(simp only [Bool.and_eq_true,Bool.or_eq_true,decide_eq_true_eq,beq_iff_eq,bne_iff_ne,beq_self_eq_true,and_self,and_true,true_and,List.length_map,List.length_append,List.length_cons,List.length_nil,List.length_take,List.length_drop,List.length_set,List.length_replicate,Z00,maxLen_eq]<;>grind)|grind [Z7N]
def Zk8:=ZJm.1
def ZgY:=ZJm.2
theorem ZBU:∀(k:Int) (p0:Z8),Z09 k p0->0<=k->k<=1000000->∃r,Z41 p0=some r/\r=p0:=by
 refine fun k p0 h0 h1 h2=>Zj (fun(p:Z8m)=>match p with | .b0 a0=>Z09 k a0/\a0=p0) (fun(p:Z8m)=>(0,0,0)) ?_ _ ?_
 all_goals try (intro p hp;cases p)
 case' b0=>
  dsimp only at hp
  have hx:=hp
  try dsimp only [Z09,Z0z,Z03,Z3R,Z1m,Z9Z,Z2q,Z1V] at hx
  simp only [Zc3]
  obtain⟨g0,rfl⟩:=hp
  repeat' first|(refine Z01 ?_;rfl)|(refine Z02 ?_ ?_)|(refine Ze (ZiY _ (by omega) (by grind)) (fun(v:List Zb) hm hv=>?_);subst hv)
 all_goals
  try dsimp only at hp
  try exact False.elim hp
  try have hx:=hp
  try dsimp only [Z09,Z0z,Z03,Z3R,Z1m,Z9Z,Z2q,Z1V] at hx
  try (repeat with_reducible (have hq:=And.left hp;replace hp:=And.right hp))
  try simp only [Zc3]
  try dsimp only
  repeat' first|(refine Z01 ?_;dsimp only;try simp(disch:=omega) only [ZE,List.length_append,List.length_cons,List.length_nil,List.length_take,List.length_drop,List.length_set,List.length_replicate,List.nil_append,List.drop_zero])|(refine Z1c (fun h=>?_) (fun h=>?_)<;>(try simp only [decide_eq_true_eq,decide_eq_false_iff_not,Bool.not_eq_true',Bool.not_eq_false',Bool.not_eq_true,Bool.not_eq_false,beq_iff_eq,bne_iff_ne,beq_eq_false_iff_ne,bne_eq_false_iff_eq,ne_eq,reduceCtorEq,Bool.and_eq_true,Bool.or_eq_true,Classical.not_not] at h;try simp(disch:=omega) only [ZE] at h))|refine Z02 ?_ ?_|refine Z0J ?_|with_reducible apply And.intro|rfl|assumption|exact True.intro|omega|exact decide_eq_true (Z0X _).1|exact Z0g (by assumption) (by omega)|exact Z0s (by assumption) (by omega)|(refine Z0N.2 ?_;first|omega|grind)|(apply Zkw;first|omega|(simp only [List.length_append,List.length_cons,List.length_nil,List.length_take,List.length_drop,List.length_set,List.length_replicate];omega))|(simp only [Bool.and_eq_true,Bool.or_eq_true,decide_eq_true_eq,beq_iff_eq,bne_iff_ne,beq_self_eq_true,and_self,and_true,true_and,List.length_map,List.length_append,List.length_cons,List.length_nil,List.length_take,List.length_drop,List.length_set,List.length_replicate,Z00,maxLen_eq]<;>omega)|(simp(disch:=omega) only [ZE,decide_eq_true_eq,bne_iff_ne,ne_eq];(repeat' split)<;>omega)|(simp [Z0d,Z2M];done)|grind|(simp only [Bool.and_eq_true,Bool.or_eq_true,decide_eq_true_eq,beq_iff_eq,bne_iff_ne,beq_self_eq_true,and_self,and_true,true_and,List.length_map,List.length_append,List.length_cons,List.length_nil,List.length_take,List.length_drop,List.length_set,List.length_replicate,Z00,maxLen_eq]<;>grind)|grind [Z7N]
theorem ZAy:(∀(k:Int) (p0:Z8),Z09 k p0->0<=k->k<=1000000->p0.ZL≠0->∃r,ZdT p0=some r/\r=(p0,[])) /\
  (∀(k:Int) (p0:Z8) (p1:Int),Z09 k p0->0<=k->k<=1000000->p0.ZL≠0->∃r,Zau p0 p1=some r/\r=(p0,[])) /\
  (∀(k:Int) (p0:Z8) (p1:Z0K) (p2:Int),Z09 k p0->0<=k->k<=1000000->p0.ZL≠0->∃r,ZmZ p0 p1 p2=some r/\r=(p0,9)) /\
  (∀(k:Int) (p0:Z8) (p1:List Int) (p2:Bool) (p3:Int),Z09 k p0->0<=k->k<=1000000->p0.ZL≠0->∃r,Z7T p0 p1 p2 p3=some r/\r=(p0,[],false)):=by
 refine⟨fun k p0 h0 h1 h2 h3=>Zj (fun(p:Z6T)=>match p with | .b0 a0=>Z09 k a0/\a0=p0/\a0.ZL≠0) (fun(p:Z6T)=>(0,0,0)) ?_ _ ?_,
  fun k p0 p1 h0 h1 h2 h3=>Zj (fun(p:Z52)=>match p with | .b0 a0 _=>Z09 k a0/\a0=p0/\a0.ZL≠0|_=>False) (fun(p:Z52)=>match p with | .b0 ..=>(0,0,4) | .b1 ..=>(0,0,3) | .b2 ..=>(0,0,2) | .b4 ..=>(0,0,1)|_=>(0,0,0)) ?_ _ ?_,
  fun k p0 p1 p2 h0 h1 h2 h3=>Zj (fun(p:Zaw)=>match p with | .b0 a0 _ _=>Z09 k a0/\a0=p0/\a0.ZL≠0) (fun(p:Zaw)=>(0,0,0)) ?_ _ ?_,
  fun k p0 p1 p2 p3 h0 h1 h2 h3=>Zj (fun(p:Z31)=>match p with | .b0 a0 _ _ _=>Z09 k a0/\a0=p0/\a0.ZL≠0|_=>False) (fun(p:Z31)=>match p with | .b0 ..=>(0,0,2) | .b1 ..=>(0,0,1) | .b2 ..=>(0,0,0)) ?_ _ ?_⟩
 all_goals try (intro p hp;cases p)
 all_goals
  try dsimp only at hp
  try exact False.elim hp
  try have hx:=hp
  try dsimp only [Z09,Z0z,Z03,Z3R,Z1m,Z9Z,Z2q,Z1V] at hx
  try (repeat with_reducible (have hq:=And.left hp;replace hp:=And.right hp))
  try simp only [Zee,Zb6,Zn2,Z7I]
  try dsimp only
  repeat' first|(refine Z01 ?_;dsimp only;try simp(disch:=omega) only [ZE,List.length_append,List.length_cons,List.length_nil,List.length_take,List.length_drop,List.length_set,List.length_replicate,List.nil_append,List.drop_zero])|(refine Z1c (fun h=>?_) (fun h=>?_)<;>(try simp only [decide_eq_true_eq,decide_eq_false_iff_not,Bool.not_eq_true',Bool.not_eq_false',Bool.not_eq_true,Bool.not_eq_false,beq_iff_eq,bne_iff_ne,beq_eq_false_iff_ne,bne_eq_false_iff_eq,ne_eq,reduceCtorEq,Bool.and_eq_true,Bool.or_eq_true,Classical.not_not] at h;try simp(disch:=omega) only [ZE] at h))|refine Z02 ?_ ?_|refine Z0J ?_|refine Ze (Zx2 k _ ?_ ?_ ?_) fun(v:Z1J) hm hv=>?_|refine Ze (ZgY _) fun(v:Bool) hm hv=>?_|refine Ze (Zk8 k _ ?_ ?_ ?_ ?_) fun(v:Bool) hm hv=>?_|with_reducible apply And.intro|rfl|assumption|exact True.intro|omega|exact decide_eq_true (Z0X _).1|exact Z0g (by assumption) (by omega)|exact Z0s (by assumption) (by omega)|(refine Z0N.2 ?_;first|omega|grind)|(apply Zkw;first|omega|(simp only [List.length_append,List.length_cons,List.length_nil,List.length_take,List.length_drop,List.length_set,List.length_replicate];omega))|(simp only [Bool.and_eq_true,Bool.or_eq_true,decide_eq_true_eq,beq_iff_eq,bne_iff_ne,beq_self_eq_true,and_self,and_true,true_and,List.length_map,List.length_append,List.length_cons,List.length_nil,List.length_take,List.length_drop,List.length_set,List.length_replicate,Z00,maxLen_eq]<;>omega)|(simp(disch:=omega) only [ZE,decide_eq_true_eq,bne_iff_ne,ne_eq];(repeat' split)<;>omega)|(simp [Z0d,Z2M];done)|grind|(simp only [Bool.and_eq_true,Bool.or_eq_true,decide_eq_true_eq,beq_iff_eq,bne_iff_ne,beq_self_eq_true,and_self,and_true,true_and,List.length_map,List.length_append,List.length_cons,List.length_nil,List.length_take,List.length_drop,List.length_set,List.length_replicate,Z00,maxLen_eq]<;>grind)|grind [Z7N]
def Zyj:=ZAy.1
def ZvY:=ZAy.2.1
def ZG5:=ZAy.2.2.1
def ZoR:=ZAy.2.2.2
theorem Zka:∀(p0:ZT) (p1:Int) (p2:Z0K) (p3:List Int),Z1V p0->∃r,Z9z p0 p1 p2 p3=some r/\r=true:=by
 refine fun p0 p1 p2 p3 h0=>Zj (fun(p:Z2f)=>match p with | .b0 a0 _ _ _=>Z1V a0 | .b1 a0 a1 _ _ a4=>Z09 20000 a4/\a0≠0/\a1.length<=4096) (fun(p:Z2f)=>match p with | .b0 ..=>(0,0,1) | .b1 ..=>(0,0,0)) ?_ _ ?_
 all_goals try (intro p hp;cases p)
 case' b1 a0 a1 a2 a3 a4=>
  dsimp only at hp
  have hx:=hp
  try dsimp only [Z09,Z0z,Z03,Z3R,Z1m,Z9Z,Z2q,Z1V] at hx
  simp only [Z34]
  obtain⟨g0,g1,g2⟩:=hp
  clear hx
  have hl:Z09 20000 ({ a4 with ZL:=a0 }:Z8):=g0
  have hr:({ a4 with ZL:=a0 }:Z8).ZL≠0:=g1
  generalize ({ a4 with ZL:=a0 }:Z8)=l at hl hr ⊢
  repeat' first|(refine Ze (ZBU 20000 _ hl (by omega) (by omega)) (fun(v:Z8) hm hv=>?_);subst hv;clear hm;try dsimp only)|(refine Ze (ZG5 20000 _ _ _ hl (by omega) (by omega) hr) (fun(v:Z8×Int) hm hv=>?_);subst hv;clear hm;try dsimp only)|(refine Ze (Zyj 20000 _ hl (by omega) (by omega) hr) (fun(v:Z8×List Int) hm hv=>?_);subst hv;clear hm;try dsimp only)|(refine Ze (ZvY 20000 _ _ hl (by omega) (by omega) hr) (fun(v:Z8×List Z5) hm hv=>?_);subst hv;clear hm;try dsimp only)|(refine Ze (ZoR 20000 _ _ _ _ hl (by omega) (by omega) hr) (fun(v:Z8×List Z5×Bool) hm hv=>?_);subst hv;clear hm;try dsimp only)|(refine Ze (ZCi 20000 _ _ hl hl (by omega) (by omega) rfl) (fun(v:Bool) hm hv=>?_);subst hv;clear hm;try dsimp only)|(refine Ze (Zk8 20000 _ hl (by omega) (by omega) hr) (fun(v:Bool) hm hv=>?_);subst hv;clear hm;try dsimp only)|(refine Z01 ?_;rfl)|(refine Z02 ?_ ?_)|(refine Z1c (fun h=>?_) (fun h=>?_)<;>first|(exact absurd h (by decide))|skip)
 all_goals
  try dsimp only at hp
  try exact False.elim hp
  try have hx:=hp
  try dsimp only [Z09,Z0z,Z03,Z3R,Z1m,Z9Z,Z2q,Z1V] at hx
  try (repeat with_reducible (have hq:=And.left hp;replace hp:=And.right hp))
  try simp only [Z34]
  try dsimp only
  repeat' first|(refine Z01 ?_;dsimp only;try simp(disch:=omega) only [ZE,List.length_append,List.length_cons,List.length_nil,List.length_take,List.length_drop,List.length_set,List.length_replicate,List.nil_append,List.drop_zero])|(refine Z1c (fun h=>?_) (fun h=>?_)<;>(try simp only [decide_eq_true_eq,decide_eq_false_iff_not,Bool.not_eq_true',Bool.not_eq_false',Bool.not_eq_true,Bool.not_eq_false,beq_iff_eq,bne_iff_ne,beq_eq_false_iff_ne,bne_eq_false_iff_eq,ne_eq,reduceCtorEq,Bool.and_eq_true,Bool.or_eq_true,Classical.not_not] at h;try simp(disch:=omega) only [ZE] at h))|refine Z02 ?_ ?_|refine Z0J ?_|(refine ZAe (a:=true) rfl ?_)|refine Ze (Zkx _ ?_) fun(v:(Z8×Int×Bool)) hm hv=>?_|with_reducible apply And.intro|rfl|assumption|exact True.intro|omega|exact decide_eq_true (Z0X _).1|exact Z0g (by assumption) (by omega)|exact Z0s (by assumption) (by omega)|(refine Z0N.2 ?_;first|omega|grind)|(apply Zkw;first|omega|(simp only [List.length_append,List.length_cons,List.length_nil,List.length_take,List.length_drop,List.length_set,List.length_replicate];omega))|(simp only [Bool.and_eq_true,Bool.or_eq_true,decide_eq_true_eq,beq_iff_eq,bne_iff_ne,beq_self_eq_true,and_self,and_true,true_and,List.length_map,List.length_append,List.length_cons,List.length_nil,List.length_take,List.length_drop,List.length_set,List.length_replicate,Z00,maxLen_eq]<;>omega)|(simp(disch:=omega) only [ZE,decide_eq_true_eq,bne_iff_ne,ne_eq];(repeat' split)<;>omega)|(simp [Z0d,Z2M];done)|grind|(simp only [Bool.and_eq_true,Bool.or_eq_true,decide_eq_true_eq,beq_iff_eq,bne_iff_ne,beq_self_eq_true,and_self,and_true,true_and,List.length_map,List.length_append,List.length_cons,List.length_nil,List.length_take,List.length_drop,List.length_set,List.length_replicate,Z00,maxLen_eq]<;>grind)|grind [Z7N]
end Go.Proofs.YtjodhcdmhobmoaaGreatDoor
