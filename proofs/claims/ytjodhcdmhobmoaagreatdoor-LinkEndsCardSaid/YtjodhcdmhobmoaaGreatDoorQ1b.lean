/-
  A part of the proof.
-/
import Derived.Test.YtjodhcdmhobmoaaGreatDoorQ1a
set_option linter.unusedVariables false
set_option linter.unusedSimpArgs false
namespace Go.Proofs.YtjodhcdmhobmoaaGreatDoor
open Go Go.Proofs.YtjodhcdmhobmoaaGreatDoor.Le
set_option linter.defProp false
set_option maxRecDepth 100000
set_option maxHeartbeats 40000000
theorem ZaW:(∀(p0:Z4),∃r,Z2w p0=some r/\r=[p0]) /\
  (∀(p0:Zv) (p1 p2:Bool),Zkc p0->∃r,Z7X p0 p1 p2=some r/\Zkc r) /\
  (∀(p0:Int),∃r,Z2r p0=some r/\0<=r/\r<=65536) /\
  (∀(p0:List Zg) (p1:Int),p0.length<=37->∃r,Zfa p0 p1=some r/\True) /\
  (∀(p0:List Int),p0.length<=65536->byL p0->∃r,Zac p0=some r/\Z1m r.1.ZH) /\
  (∀(p0 p1:List Int),p0.length<=100000->p1.length<=100000->∃r,ZiD p0 p1=some r/\True) /\
  (∀(p0:Int),∃r,ZeD p0=some r/\True) /\
  (∀(p0:Zv) (p1 p2:Bool),Zkc p0->∃r,Zc7 p0 p1 p2=some r/\Zkc r) /\
  (∀(p0:List Int) (p1 p2:Int),0<=p1->0<=p2->p2<=8->p1+p2<=(p0.length:Int)->p0.length<=1000000->∃r,Z27 p0 p1 p2=some r/\R64 r) /\
  (∀(p0:List Z5) (p1:Int),p0.length<=1->∃r,Z92 p0 p1=some r/\r.length<=1) /\
  (∀(p0 p1:Int),∃r,Z1q p0 p1=some r/\r.length=1):=by
 refine⟨fun p0=>Zj (fun(p:Zbe)=>match p with | .b0 a0=>a0=p0) (fun(p:Zbe)=>(0,0,0)) ?_ _ ?_,
  fun p0 p1 p2 h0=>Zj (fun(p:Z8I)=>match p with | .b0 a0 _ _=>Zkc a0) (fun(p:Z8I)=>(0,0,0)) ?_ _ ?_,
  fun p0=>Zj (fun(p:Z76)=>True) (fun(p:Z76)=>(0,0,0)) ?_ _ ?_,
  fun p0 p1 h0=>Zj (fun(p:Zgh)=>match p with | .b0 a0 _=>a0.length<=37 | .b1 ..=>True | .b2 a0 a1 _=>a0.length<=37/\0<=a1/\a1<(a0.length:Int)) (fun(p:Zgh)=>match p with | .b0 ..=>(0,0,1)|_=>(0,0,0)) ?_ _ ?_,
  fun p0 h0 h1=>Zj (fun(p:Z50)=>match p with | .b0 a0=>a0.length<=65536/\byL a0 | .b1 a0=>Z1m a0.ZH | .b2 a0 _ _ _ a4=>Z1m a4.ZH/\2<=a0.length/\a0.length<=65536/\byL a0) (fun(p:Z50)=>match p with | .b0 ..=>(0,0,1)|_=>(0,0,0)) ?_ _ ?_,
  fun p0 p1 h0 h1=>Zj (fun(p:Z8C)=>match p with | .b0 a0 a1=>a0.length<=100000/\a1.length<=100000) (fun(p:Z8C)=>(0,0,0)) ?_ _ ?_,
  fun p0=>Zj (fun(p:Z77)=>True) (fun(p:Z77)=>(0,0,0)) ?_ _ ?_,
  fun p0 p1 p2 h0=>Zj (fun(p:Z7Y)=>match p with | .b0 a0 _ _=>Zkc a0 | .b1 _ a1 a2=>Zkc a1/\Zkc a2 | .b2 _ a1 a2=>Zkc a1/\Zkc a2 | .b3 a0 a1=>Zkc a0/\Zkc a1) (fun(p:Z7Y)=>match p with | .b0 ..=>(0,0,3) | .b1 ..=>(0,0,2) | .b2 ..=>(0,0,1) | .b3 ..=>(0,0,0)) ?_ _ ?_,
  fun p0 p1 p2 h0 h1 h2 h3 h4=>Zj (fun(p:ZaS)=>match p with | .b0 a0 a1 a2=>0<=a1/\0<=a2/\a2<=8/\a1+a2<=(a0.length:Int)/\a0.length<=1000000 | .b1 a0 a1 a2 a3=>0<=a1 /\ -1<=a3/\a3<=7/\a1+a3<(a0.length:Int)/\a0.length<=1000000/\R64 a2) (fun(p:ZaS)=>match p with | .b0 ..=>(1,0,0) | .b1 _ _ _ a3=>(0,(a3+1).toNat,0)) ?_ _ ?_,
  fun p0 p1 h0=>Zj (fun(p:Z6e)=>match p with | .b0 a0 _=>a0.length<=1 | .b1 a0 _ a2 a3=>a0.length<=1/\a2.length<=1/\0<=a3/\a3<=(a0.length:Int)/\(a2.length:Int)=a3) (fun(p:Z6e)=>match p with | .b0 ..=>(1,0,0) | .b1 a0 _ _ a3=>(0,((a0.length:Int) - a3).toNat,0)) ?_ _ ?_,
  fun p0 p1=>Zj (fun(p:Z86)=>True) (fun(p:Z86)=>(0,0,0)) ?_ _ ?_⟩
 all_goals try (intro p hp;cases p)
 all_goals
  try dsimp only at hp
  try exact False.elim hp
  try have hx:=hp
  try dsimp only [Z09,Z0z,Z03,Z3R,Z1m,Z9Z,Z2q,Z1V] at hx
  try (repeat with_reducible (have hq:=And.left hp;replace hp:=And.right hp))
  try simp only [ZmW,Zi5,Zez,Zqu,Zb2,Zj0,Zdy,Zi3,Zmg,Zem,Zj3]
  try dsimp only
  repeat' first|(refine Z01 ?_;dsimp only;try simp(disch:=omega) only [ZE,List.length_append,List.length_cons,List.length_nil,List.length_take,List.length_drop,List.length_set,List.length_replicate,List.nil_append,List.drop_zero])|(refine Z1c (fun h=>?_) (fun h=>?_)<;>(try simp only [decide_eq_true_eq,decide_eq_false_iff_not,Bool.not_eq_true',Bool.not_eq_false',Bool.not_eq_true,Bool.not_eq_false,beq_iff_eq,bne_iff_ne,beq_eq_false_iff_ne,bne_eq_false_iff_eq,ne_eq,reduceCtorEq,Bool.and_eq_true,Bool.or_eq_true,Classical.not_not] at h;try simp(disch:=omega) only [ZE] at h))|refine Z02 ?_ ?_|refine Z0J ?_|refine ZzC ?_ fun v hv=>?_|refine ZjN ?_ fun v hv=>?_|refine ZAc ?_ fun v hv=>?_|with_reducible apply And.intro|rfl|assumption|exact True.intro|omega|exact decide_eq_true (Z0X _).1|exact Z0g (by assumption) (by omega)|exact Z0s (by assumption) (by omega)|(refine Z0N.2 ?_;first|omega|grind)|(apply Zkw;first|omega|(simp only [List.length_append,List.length_cons,List.length_nil,List.length_take,List.length_drop,List.length_set,List.length_replicate];omega))|(simp only [Bool.and_eq_true,Bool.or_eq_true,decide_eq_true_eq,beq_iff_eq,bne_iff_ne,beq_self_eq_true,and_self,and_true,true_and,List.length_map,List.length_append,List.length_cons,List.length_nil,List.length_take,List.length_drop,List.length_set,List.length_replicate,Z00,maxLen_eq]<;>omega)|(simp(disch:=omega) only [ZE,decide_eq_true_eq,bne_iff_ne,ne_eq];(repeat' split)<;>omega)|(simp [Z0d,Z2M];done)|grind|(simp only [Bool.and_eq_true,Bool.or_eq_true,decide_eq_true_eq,beq_iff_eq,bne_iff_ne,beq_self_eq_true,and_self,and_true,true_and,List.length_map,List.length_append,List.length_cons,List.length_nil,List.length_take,List.length_drop,List.length_set,List.length_replicate,Z00,maxLen_eq]<;>grind)|grind [Z7N]
def Zlt:=ZaW.1
def ZpV:=ZaW.2.1
def Zdl:=ZaW.2.2.1
def ZHT:=ZaW.2.2.2.1
def ZvG:=ZaW.2.2.2.2.1
def ZBF:=ZaW.2.2.2.2.2.1
def ZzE:=ZaW.2.2.2.2.2.2.1
def Zp1:=ZaW.2.2.2.2.2.2.2.1
def ZmB:=ZaW.2.2.2.2.2.2.2.2.1
def Zyv:=ZaW.2.2.2.2.2.2.2.2.2.1
def ZCH:=ZaW.2.2.2.2.2.2.2.2.2.2
theorem Zei:∀(p0:Int),0<=p0->p0<=63->∃r,Z6C p0=some r/\0<r:=by
 refine fun p0 h0 h1=>Zj (fun(p:Z6A)=>match p with | .b0 a0=>0<=a0/\a0<=63 | .b1 a0 a1 a2=>0<=a2/\a0<=63/\a2<=a0/\a1=2 ^ a2.toNat) (fun(p:Z6A)=>match p with | .b0 ..=>(1,0,0) | .b1 a0 _ a2=>(0,(a0 - a2).toNat,0)) ?_ _ ?_
 all_goals try (intro p hp;cases p)
 case' b1=>
  dsimp only at hp
  have hx:=hp
  try dsimp only [Z09,Z0z,Z03,Z3R,Z1m,Z9Z,Z2q,Z1V] at hx
  simp only [Z93]
  obtain⟨h1,h2,h3,h4⟩:=hp
  refine Z1c (fun h=>?_) (fun h=>?_)
  ·simp only [decide_eq_true_eq] at h
   refine Z01 ?_
   dsimp only
   obtain⟨n,rfl⟩:=Int.eq_ofNat_of_zero_le h1
   rw [ZE (by omega) (by omega)]
   refine⟨⟨by omega,h2,by omega,?_⟩,?_⟩
   ·subst h4
    have hn:n<63:=by omega
    have e1:((n:Int)+1).toNat=n+1:=by omega
    have e2:((n:Int)).toNat=n:=by omega
    have hlt:(2:Int) ^ n*2<18446744073709551616:=by
     have:2 ^ (n+1)<2 ^ 64:=Nat.pow_lt_pow_right (by decide) (by omega)
     have h' : ((2 ^ (n+1):Nat):Int)<((2 ^ 64:Nat):Int):=by exact_mod_cast this
     simpa [Int.pow_succ] using h'
    rw [e1,e2,IntKind.wrap_u64,Int.emod_eq_of_lt (Int.mul_nonneg (Int.pow_nonneg (by decide)) (by decide)) hlt,Int.pow_succ]
   ·refine Z0N.2 ?_;omega
  ·refine Z01 ?_
   dsimp only
   subst h4
   exact Int.pow_pos (by decide)
 all_goals
  try dsimp only at hp
  try exact False.elim hp
  try have hx:=hp
  try dsimp only [Z09,Z0z,Z03,Z3R,Z1m,Z9Z,Z2q,Z1V] at hx
  try (repeat with_reducible (have hq:=And.left hp;replace hp:=And.right hp))
  try simp only [Z93]
  try dsimp only
  repeat' first|(refine Z01 ?_;dsimp only;try simp(disch:=omega) only [ZE,List.length_append,List.length_cons,List.length_nil,List.length_take,List.length_drop,List.length_set,List.length_replicate,List.nil_append,List.drop_zero])|(refine Z1c (fun h=>?_) (fun h=>?_)<;>(try simp only [decide_eq_true_eq,decide_eq_false_iff_not,Bool.not_eq_true',Bool.not_eq_false',Bool.not_eq_true,Bool.not_eq_false,beq_iff_eq,bne_iff_ne,beq_eq_false_iff_ne,bne_eq_false_iff_eq,ne_eq,reduceCtorEq,Bool.and_eq_true,Bool.or_eq_true,Classical.not_not] at h;try simp(disch:=omega) only [ZE] at h))|refine Z02 ?_ ?_|refine Z0J ?_|with_reducible apply And.intro|rfl|assumption|exact True.intro|omega|exact decide_eq_true (Z0X _).1|exact Z0g (by assumption) (by omega)|exact Z0s (by assumption) (by omega)|(refine Z0N.2 ?_;first|omega|grind)|(apply Zkw;first|omega|(simp only [List.length_append,List.length_cons,List.length_nil,List.length_take,List.length_drop,List.length_set,List.length_replicate];omega))|(simp only [Bool.and_eq_true,Bool.or_eq_true,decide_eq_true_eq,beq_iff_eq,bne_iff_ne,beq_self_eq_true,and_self,and_true,true_and,List.length_map,List.length_append,List.length_cons,List.length_nil,List.length_take,List.length_drop,List.length_set,List.length_replicate,Z00,maxLen_eq]<;>omega)|(simp(disch:=omega) only [ZE,decide_eq_true_eq,bne_iff_ne,ne_eq];(repeat' split)<;>omega)|(simp [Z0d,Z2M];done)|grind|(simp only [Bool.and_eq_true,Bool.or_eq_true,decide_eq_true_eq,beq_iff_eq,bne_iff_ne,beq_self_eq_true,and_self,and_true,true_and,List.length_map,List.length_append,List.length_cons,List.length_nil,List.length_take,List.length_drop,List.length_set,List.length_replicate,Z00,maxLen_eq]<;>grind)|grind [Z7N]
theorem ZGc:∀(p0 p1:Int),∃r,ZlK p0 p1=some r/\True:=by
 refine fun p0 p1=>Zj (fun(p:ZbJ)=>True) (fun(p:ZbJ)=>match p with | .b0 ..=>(0,0,1) | .b1 ..=>(0,0,0)) ?_ _ ?_
 all_goals try (intro p hp;cases p)
 case' b0 a0 a1=>
  have hb : -64<Int.tmod (w64 (w64 (a1.tmod 64+64)*11)) 64/\Int.tmod (w64 (w64 (a1.tmod 64+64)*11)) 64<64:=tm_bd _ 64 (by omega)
 all_goals
  try dsimp only at hp
  try exact False.elim hp
  try have hx:=hp
  try dsimp only [Z09,Z0z,Z03,Z3R,Z1m,Z9Z,Z2q,Z1V] at hx
  try (repeat with_reducible (have hq:=And.left hp;replace hp:=And.right hp))
  try simp only [ZlS]
  try dsimp only
  repeat' first|(refine Z01 ?_;dsimp only;try simp(disch:=omega) only [ZE,List.length_append,List.length_cons,List.length_nil,List.length_take,List.length_drop,List.length_set,List.length_replicate,List.nil_append,List.drop_zero])|(refine Z1c (fun h=>?_) (fun h=>?_)<;>(try simp only [decide_eq_true_eq,decide_eq_false_iff_not,Bool.not_eq_true',Bool.not_eq_false',Bool.not_eq_true,Bool.not_eq_false,beq_iff_eq,bne_iff_ne,beq_eq_false_iff_ne,bne_eq_false_iff_eq,ne_eq,reduceCtorEq,Bool.and_eq_true,Bool.or_eq_true,Classical.not_not] at h;try simp(disch:=omega) only [ZE] at h))|refine Z02 ?_ ?_|refine Z0J ?_|with_reducible apply And.intro|rfl|assumption|exact True.intro|omega|exact decide_eq_true (Z0X _).1|exact Z0g (by assumption) (by omega)|exact Z0s (by assumption) (by omega)|(refine Z0N.2 ?_;first|omega|grind)|(apply Zkw;first|omega|(simp only [List.length_append,List.length_cons,List.length_nil,List.length_take,List.length_drop,List.length_set,List.length_replicate];omega))|(simp only [Bool.and_eq_true,Bool.or_eq_true,decide_eq_true_eq,beq_iff_eq,bne_iff_ne,beq_self_eq_true,and_self,and_true,true_and,List.length_map,List.length_append,List.length_cons,List.length_nil,List.length_take,List.length_drop,List.length_set,List.length_replicate,Z00,maxLen_eq]<;>omega)|(simp(disch:=omega) only [ZE,decide_eq_true_eq,bne_iff_ne,ne_eq];(repeat' split)<;>omega)|(simp [Z0d,Z2M];done)|grind|(simp only [Bool.and_eq_true,Bool.or_eq_true,decide_eq_true_eq,beq_iff_eq,bne_iff_ne,beq_self_eq_true,and_self,and_true,true_and,List.length_map,List.length_append,List.length_cons,List.length_nil,List.length_take,List.length_drop,List.length_set,List.length_replicate,Z00,maxLen_eq]<;>grind)|grind [Z7N]
end Go.Proofs.YtjodhcdmhobmoaaGreatDoor
namespace Go.Proofs.YtjodhcdmhobmoaaGreatDoor
open Go Go.Proofs.YtjodhcdmhobmoaaGreatDoor.Le
set_option linter.defProp false
set_option maxRecDepth 100000
set_option maxHeartbeats 40000000
theorem Z7j:(∀(p0:ZO),∃r,Z2N p0=some r/\True) /\
  (∀(p0 p1:Int),∃r,Zbq p0 p1=some r/\True) /\
  (∀(p0:Int),∃r,Zeb p0=some r/\True) /\
  (∀(p0:ZO),∃r,Za7 p0=some r/\True) /\
  (∀(p0:ZO),∃r,Ziu p0=some r/\True) /\
  (∀(k:Int) (p0:Z8),Z09 k p0->0<=k->k<=1000000->∃r,Z9r p0=some r/\True) /\
  (∀(p0 p1:Int),∃r,Z7k p0 p1=some r/\True) /\
  (∀(p0:Z4),Z0M p0->∃r,Zir p0=some r/\Z0M r) /\
  (∀(p0:ZO),∃r,Z6k p0=some r/\r.length=9/\byL r) /\
  (∀(p0:Zk),∃r,Z2u p0=some r/\((r=0->Z7N p0.SN/\Z7N p0.Z8Y/\Z7N p0.MD/\1<=p0.ZH.Z5c/\p0.ZH.Z5c<=3/\(1<=p0.ZH.Payload.length\/p0.ZH.Z5c=1)/\p0.ZH.Payload.length<=255))) /\
  (∀(p0:Zr),Z0z p0->∃r,Ziw p0=some r/\Z0z r.1/\r.1.Open=true/\Z1m r.2.ZH) /\
  (∀(p0 p1 p2:Int),∃r,ZeW p0 p1 p2=some r/\True) /\
  (∀(p0:Int) (p1 p2:List Int),p1.length<=200000->p2.length<=200000->∃r,ZeH p0 p1 p2=some r/\r.q0.length<=400100) /\
  (∀(p0:Int) (p1:List Int),p1.length<=1000000->∃r,Zh4 p0 p1=some r/\True):=by
 refine⟨fun p0=>Zj (fun(p:Z1T)=>True) (fun(p:Z1T)=>match p with | .b0 ..=>(0,0,1) | .b1 ..=>(0,0,0)) ?_ _ ?_,
  fun p0 p1=>Zj (fun(p:ZaE)=>True) (fun(p:ZaE)=>(0,0,0)) ?_ _ ?_,
  fun p0=>Zj (fun(p:Z5Y)=>True) (fun(p:Z5Y)=>(0,0,0)) ?_ _ ?_,
  fun p0=>Zj (fun(p:Z4v)=>True) (fun(p:Z4v)=>(0,0,0)) ?_ _ ?_,
  fun p0=>Zj (fun(p:Z7W)=>True) (fun(p:Z7W)=>(0,0,0)) ?_ _ ?_,
  fun k p0 h0 h1 h2=>Zj (fun(p:Z6j)=>match p with | .b0 a0=>Z09 k a0) (fun(p:Z6j)=>(0,0,0)) ?_ _ ?_,
  fun p0 p1=>Zj (fun(p:Z4F)=>match p with | .b0 ..=>True | .b1 _ _ a2=>0<=a2/\a2<=3) (fun(p:Z4F)=>match p with | .b0 ..=>(1,0,0) | .b1 _ _ a2=>(0,(3 - a2).toNat,0)) ?_ _ ?_,
  fun p0 h0=>Zj (fun(p:Z8x)=>match p with | .b0 a0=>Z0M a0 | .b1 a0 a1 _=>Z0M a0/\Z0M a1 | .b2 a0 a1 _=>Z0M a0/\Z0M a1 | .b3 a0 a1 _=>Z0M a0/\Z0M a1 | .b4 a0 a1 _=>Z0M a0/\Z0M a1 | .b5 a0 a1 _=>Z0M a0/\Z0M a1 | .b6 a0 a1 _=>Z0M a0/\Z0M a1 | .b7 a0 a1 _=>Z0M a0/\Z0M a1 | .b8 a0 a1 _=>Z0M a0/\Z0M a1 | .b9 a0 a1 _=>Z0M a0/\Z0M a1) (fun(p:Z8x)=>match p with | .b0 ..=>(0,0,9) | .b1 ..=>(0,0,8) | .b2 ..=>(0,0,7) | .b3 ..=>(0,0,6) | .b4 ..=>(0,0,5) | .b5 ..=>(0,0,4) | .b6 ..=>(0,0,3) | .b7 ..=>(0,0,2) | .b8 ..=>(0,0,1) | .b9 ..=>(0,0,0)) ?_ _ ?_,
  fun p0=>Zj (fun(p:Z2y)=>True) (fun(p:Z2y)=>(0,0,0)) ?_ _ ?_,
  fun p0=>Zj (fun(p:Z79)=>match p with | .b0 a0=>a0=p0 | .b1 a0=>a0=p0/\Z7N a0.SN/\Z7N a0.Z8Y/\Z7N a0.MD) (fun(p:Z79)=>match p with | .b0 ..=>(0,0,1) | .b1 ..=>(0,0,0)) ?_ _ ?_,
  fun p0 h0=>Zj (fun(p:Z7V)=>match p with | .b0 a0=>Z0z a0 | .b1 a0 a1 a2=>Z0z a0/\Z0z a1/\Z1m a2.ZH/\a0.Open=true | .b2 _ a1 a2 a3 a4=>Z0z a1/\Z0z a2/\Z1m a3.ZH/\Z1m a4.ZH/\a1.Open=true/\a1.Empty=false | .b3 _ a1 a2 a3 a4=>Z0z a1/\Z0z a2/\Z1m a3.ZH/\Z1m a4.ZH/\a1.Open=true | .b4 a0 a1 a2 a3=>Z0z a0/\Z0z a1/\Z1m a2.ZH/\Z1m a3.ZH/\a0.Open=true) (fun(p:Z7V)=>match p with | .b0 ..=>(0,0,4) | .b1 ..=>(0,0,3) | .b2 ..=>(0,0,2) | .b3 ..=>(0,0,1) | .b4 ..=>(0,0,0)) ?_ _ ?_,
  fun p0 p1 p2=>Zj (fun(p:Z6i)=>True) (fun(p:Z6i)=>(0,0,0)) ?_ _ ?_,
  fun p0 p1 p2 h0 h1=>Zj (fun(p:Z6B)=>match p with | .b0 _ a1 a2=>a1.length<=200000/\a2.length<=200000) (fun(p:Z6B)=>(0,0,0)) ?_ _ ?_,
  fun p0 p1 h0=>Zj (fun(p:Za9)=>match p with | .b0 _ a1=>a1.length<=1000000 | .b1 a0 _ a2=>0<=a2/\a2<=(a0.length:Int)/\a0.length<=1000000 | .b2 a0 _ a2 _ a4=>0<=a2/\a2<(a0.length:Int)/\a0.length<=1000000/\0<=a4/\a4<=8) (fun(p:Za9)=>match p with | .b0 ..=>(2,0,0) | .b1 a0 _ a2=>(1,((a0.length:Int) - a2).toNat,9) | .b2 a0 _ a2 _ a4=>(1,((a0.length:Int) - a2).toNat,(8 - a4).toNat)) ?_ _ ?_⟩
 all_goals try (intro p hp;cases p)
 all_goals
  try dsimp only at hp
  try exact False.elim hp
  try have hx:=hp
  try dsimp only [Z09,Z0z,Z03,Z3R,Z1m,Z9Z,Z2q,Z1V] at hx
  try (repeat with_reducible (have hq:=And.left hp;replace hp:=And.right hp))
  try simp only [Z3Z,ZmJ,ZeP,ZbA,Zil,ZdA,Zas,ZhC,Z72,Zeg,Zip,Ze0,ZdF,Zm8]
  try dsimp only
  repeat' first|(refine Z01 ?_;dsimp only;try simp(disch:=omega) only [ZE,List.length_append,List.length_cons,List.length_nil,List.length_take,List.length_drop,List.length_set,List.length_replicate,List.nil_append,List.drop_zero])|(refine Z1c (fun h=>?_) (fun h=>?_)<;>(try simp only [decide_eq_true_eq,decide_eq_false_iff_not,Bool.not_eq_true',Bool.not_eq_false',Bool.not_eq_true,Bool.not_eq_false,beq_iff_eq,bne_iff_ne,beq_eq_false_iff_ne,bne_eq_false_iff_eq,ne_eq,reduceCtorEq,Bool.and_eq_true,Bool.or_eq_true,Classical.not_not] at h;try simp(disch:=omega) only [ZE] at h))|refine Z02 ?_ ?_|refine Z0J ?_|refine Ze (ZjZ _ _ _) fun(v:Bool) hm hv=>?_|refine Ze (Zei _ ?_ ?_) fun(v:Int) hm hv=>?_|refine Ze (Zf5 _ _ _) fun(v:Int) hm hv=>?_|refine Ze (ZBL _ ?_) fun(v:Bool) hm hv=>?_|refine Ze (ZpT _ _) fun(v:Bool) hm hv=>?_|refine Ze (Zon _) fun(v:Int) hm hv=>?_|refine Ze (Z4Y _) fun(v:Zd) hm hv=>?_|refine Ze (ZtS _ _ ?_ ?_) fun(v:Z0V) hm hv=>?_|refine Ze (ZFJ _) fun(v:Bool) hm hv=>?_|refine Ze (Zix _) fun(v:Int) hm hv=>?_|refine Ze (ZyT) fun(v:Zb) hm hv=>?_|refine ZGM ?_ fun v hv=>?_|refine Ze (ZGc _ _) fun(v:Int) hm hv=>?_|refine Ze (ZDo _ _ ?_ ?_) fun(v:Int) hm hv=>?_|refine Ze (Zn1 _ _ ?_ ?_) fun(v:Z1R) hm hv=>?_|refine ZjN ?_ fun v hv=>?_|refine Ze (ZBA _ _) fun(v:Int) hm hv=>?_|with_reducible apply And.intro|rfl|assumption|exact True.intro|omega|exact decide_eq_true (Z0X _).1|exact Z0g (by assumption) (by omega)|exact Z0s (by assumption) (by omega)|(refine Z0N.2 ?_;first|omega|grind)|(apply Zkw;first|omega|(simp only [List.length_append,List.length_cons,List.length_nil,List.length_take,List.length_drop,List.length_set,List.length_replicate];omega))|(simp only [Bool.and_eq_true,Bool.or_eq_true,decide_eq_true_eq,beq_iff_eq,bne_iff_ne,beq_self_eq_true,and_self,and_true,true_and,List.length_map,List.length_append,List.length_cons,List.length_nil,List.length_take,List.length_drop,List.length_set,List.length_replicate,Z00,maxLen_eq]<;>omega)|(simp(disch:=omega) only [ZE,decide_eq_true_eq,bne_iff_ne,ne_eq];(repeat' split)<;>omega)|(simp [Z0d,Z2M];done)|grind|(simp only [Bool.and_eq_true,Bool.or_eq_true,decide_eq_true_eq,beq_iff_eq,bne_iff_ne,beq_self_eq_true,and_self,and_true,true_and,List.length_map,List.length_append,List.length_cons,List.length_nil,List.length_take,List.length_drop,List.length_set,List.length_replicate,Z00,maxLen_eq]<;>grind)|grind [Z7N]
def Zhx:=Z7j.1
def Zua:=Z7j.2.1
def Zzq:=Z7j.2.2.1
def ZuU:=Z7j.2.2.2.1
def ZCq:=Z7j.2.2.2.2.1
def Zmo:=Z7j.2.2.2.2.2.1
def Zjo:=Z7j.2.2.2.2.2.2.1
def ZBY:=Z7j.2.2.2.2.2.2.2.1
def Zm5:=Z7j.2.2.2.2.2.2.2.2.1
def Zef:=Z7j.2.2.2.2.2.2.2.2.2.1
def ZBT:=Z7j.2.2.2.2.2.2.2.2.2.2.1
def Zzl:=Z7j.2.2.2.2.2.2.2.2.2.2.2.1
def Zx1:=Z7j.2.2.2.2.2.2.2.2.2.2.2.2.1
def ZGY:=Z7j.2.2.2.2.2.2.2.2.2.2.2.2.2
end Go.Proofs.YtjodhcdmhobmoaaGreatDoor
namespace Go.Proofs.YtjodhcdmhobmoaaGreatDoor
open Go Go.Proofs.YtjodhcdmhobmoaaGreatDoor.Le
set_option linter.defProp false
set_option maxRecDepth 100000
set_option maxHeartbeats 40000000
theorem Z7v:(∀(p0 p1:Int),0<=p1->p1<=1000000->∃r,Z7Q p0 p1=some r/\(r.length:Int)=p1/\byL r) /\
  (∀(p0:Zo),∃r,ZiT p0=some r/\True) /\
  (∀(p0 p1:Int),∃r,Z7n p0 p1=some r/\True) /\
  (∀(p0:Zo) (p1:Int),∃r,Zny p0 p1=some r/\True) /\
  (∀(p0:Z7) (p1:Z4),Z03 p0->Z0M p1->∃r,Zgc p0 p1=some r/\True) /\
  (∀(p0 p1:Int),∃r,Zif p0 p1=some r/\R16 r) /\
  (∀(k:Int) (p0:Z8),Z09 k p0->0<=k->k<=1000000->∃r,Z8V p0=some r/\R16 r) /\
  (∀(p0 p1 p2:Int),∃r,ZbQ p0 p1 p2=some r/\True) /\
  (∀(p0:ZO),∃r,Z9q p0=some r/\True) /\
  (∀(p0:Int),∃r,Z6z p0=some r/\True) /\
  (∀(p0:Z7) (p1:Int),Z03 p0->∃r,Z98 p0 p1=some r/\True) /\
  (∀(p0:Z7) (p1:Bool) (p2:Int),Z03 p0->R64 p2->∃r,Zaa p0 p1 p2=some r/\Z03 r.1/\r.2.length<=2/\ctL r.2) /\
  (∀(p0:Zg),∃r,Z8s p0=some r/\True) /\
  (∀(p0:List Int),p0.length<=37->ZoO p0->∃r,ZrW p0=some r/\R64 r):=by
 refine⟨fun p0 p1 h0 h1=>Zj (fun(p:Z2X)=>match p with | .b0 _ a1=>a1=p1/\0<=a1/\a1<=1000000 | .b1 a0 a1 _ a3=>a0=p1/\a0<=1000000/\0<=a3/\a3<=a0/\(a1.length:Int)=a3/\byL a1 | .b2 a0 a1 _ a3 _ _ a6=>a0=p1/\a0<=1000000/\0<=a3/\a3<a0/\(a1.length:Int)=a3/\byL a1/\0<=a6/\a6<=8) (fun(p:Z2X)=>match p with | .b0 ..=>(2,0,0) | .b1 a0 _ _ a3=>(1,(a0 - a3).toNat,9) | .b2 a0 _ _ a3 _ _ a6=>(1,(a0 - a3).toNat,(8 - a6).toNat)) ?_ _ ?_,
  fun p0=>Zj (fun(p:Z8H)=>True) (fun(p:Z8H)=>(0,0,0)) ?_ _ ?_,
  fun p0 p1=>Zj (fun(p:Z4D)=>True) (fun(p:Z4D)=>(0,0,0)) ?_ _ ?_,
  fun p0 p1=>Zj (fun(p:ZaP)=>True) (fun(p:ZaP)=>(0,0,0)) ?_ _ ?_,
  fun p0 p1 h0 h1=>Zj (fun(p:Zb4)=>match p with | .b0 a0 a1=>Z03 a0/\Z0M a1) (fun(p:Zb4)=>(0,0,0)) ?_ _ ?_,
  fun p0 p1=>Zj (fun(p:Z8G)=>True) (fun(p:Z8G)=>(0,0,0)) ?_ _ ?_,
  fun k p0 h0 h1 h2=>Zj (fun(p:Z63)=>match p with | .b0 a0=>Z09 k a0) (fun(p:Z63)=>(0,0,0)) ?_ _ ?_,
  fun p0 p1 p2=>Zj (fun(p:Z89)=>True) (fun(p:Z89)=>(0,0,0)) ?_ _ ?_,
  fun p0=>Zj (fun(p:Z3M)=>True) (fun(p:Z3M)=>(0,0,0)) ?_ _ ?_,
  fun p0=>Zj (fun(p:Z2v)=>True) (fun(p:Z2v)=>(0,0,0)) ?_ _ ?_,
  fun p0 p1 h0=>Zj (fun(p:Z3D)=>match p with | .b0 a0 _=>Z03 a0 | .b1 _ a1=>Z03 a1 | .b2 _ a1=>Z03 a1) (fun(p:Z3D)=>match p with | .b0 ..=>(0,0,2) | .b1 ..=>(0,0,1) | .b2 ..=>(0,0,0)) ?_ _ ?_,
  fun p0 p1 p2 h0 h1=>Zj (fun(p:Z4q)=>match p with | .b0 a0 _ a2=>Z03 a0/\R64 a2 | .b1 _ a1 a2 a3=>Z03 a2/\Z03 a3/\R64 a1) (fun(p:Z4q)=>match p with | .b0 ..=>(0,0,1) | .b1 ..=>(0,0,0)) ?_ _ ?_,
  fun p0=>Zj (fun(p:Z8u)=>True) (fun(p:Z8u)=>(0,0,0)) ?_ _ ?_,
  fun p0 h0 h1=>Zj (fun(p:ZgA)=>match p with | .b0 a0=>a0.length<=37/\ZoO a0 | .b1 a0 a1 a2=>a0.length<=37/\(ZoO a0)/\0<=a2/\a2<=(a0.length:Int)/\R64 a1) (fun(p:ZgA)=>match p with | .b0 ..=>(1,0,0) | .b1 a0 _ a2=>(0,((a0.length:Int) - a2).toNat,0)) ?_ _ ?_⟩
 all_goals try (intro p hp;cases p)
 all_goals
  try dsimp only at hp
  try exact False.elim hp
  try have hx:=hp
  try dsimp only [Z09,Z0z,Z03,Z3R,Z1m,Z9Z,Z2q,Z1V] at hx
  try (repeat with_reducible (have hq:=And.left hp;replace hp:=And.right hp))
  try simp only [Z7R,Zij,Zbc,Znm,ZlB,Zi8,Zes,Zhz,Z9w,Z6U,Z9f,ZaK,ZhL,ZqL]
  try dsimp only
  repeat' first|(refine Z01 ?_;dsimp only;try simp(disch:=omega) only [ZE,List.length_append,List.length_cons,List.length_nil,List.length_take,List.length_drop,List.length_set,List.length_replicate,List.nil_append,List.drop_zero])|(refine Z1c (fun h=>?_) (fun h=>?_)<;>(try simp only [decide_eq_true_eq,decide_eq_false_iff_not,Bool.not_eq_true',Bool.not_eq_false',Bool.not_eq_true,Bool.not_eq_false,beq_iff_eq,bne_iff_ne,beq_eq_false_iff_ne,bne_eq_false_iff_eq,ne_eq,reduceCtorEq,Bool.and_eq_true,Bool.or_eq_true,Classical.not_not] at h;try simp(disch:=omega) only [ZE] at h))|refine Z02 ?_ ?_|refine Z0J ?_|refine Ze (ZxI _) fun(v:Int) hm hv=>?_|refine Ze (ZDS _) fun(v:Int) hm hv=>?_|refine Ze (ZpT _ _) fun(v:Bool) hm hv=>?_|refine Ze (ZDR _ _) fun(v:Int) hm hv=>?_|refine Ze (ZtY _) fun(v:Zo) hm hv=>?_|refine Ze (Zmf _) fun(v:Bool) hm hv=>?_|refine Ze (ZEC _ _) fun(v:Int) hm hv=>?_|refine Ze (Zf5 _ _ _) fun(v:Int) hm hv=>?_|refine Ze (Z4Y _) fun(v:Zd) hm hv=>?_|refine Ze (ZmG _) fun(v:Int) hm hv=>?_|refine Ze (ZwX _ _ ?_) fun(v:Bool) hm hv=>?_|refine Ze (Zlt _) fun(v:(List Z4)) hm hv=>?_|refine Ze (Zdl _) fun(v:Int) hm hv=>?_|refine Ze (Zei _ ?_ ?_) fun(v:Int) hm hv=>?_|refine ZIU ?_ fun v hv=>?_|with_reducible apply And.intro|rfl|assumption|exact True.intro|omega|exact decide_eq_true (Z0X _).1|exact Z0g (by assumption) (by omega)|exact Z0s (by assumption) (by omega)|(refine Z0N.2 ?_;first|omega|grind)|(apply Zkw;first|omega|(simp only [List.length_append,List.length_cons,List.length_nil,List.length_take,List.length_drop,List.length_set,List.length_replicate];omega))|(simp only [Bool.and_eq_true,Bool.or_eq_true,decide_eq_true_eq,beq_iff_eq,bne_iff_ne,beq_self_eq_true,and_self,and_true,true_and,List.length_map,List.length_append,List.length_cons,List.length_nil,List.length_take,List.length_drop,List.length_set,List.length_replicate,Z00,maxLen_eq]<;>omega)|(simp(disch:=omega) only [ZE,decide_eq_true_eq,bne_iff_ne,ne_eq];(repeat' split)<;>omega)|(simp [Z0d,Z2M];done)|grind|(simp only [Bool.and_eq_true,Bool.or_eq_true,decide_eq_true_eq,beq_iff_eq,bne_iff_ne,beq_self_eq_true,and_self,and_true,true_and,List.length_map,List.length_append,List.length_cons,List.length_nil,List.length_take,List.length_drop,List.length_set,List.length_replicate,Z00,maxLen_eq]<;>grind)|grind [Z7N]
def ZoA:=Z7v.1
def ZCz:=Z7v.2.1
def ZvB:=Z7v.2.2.1
def ZGs:=Z7v.2.2.2.1
def Zvk:=Z7v.2.2.2.2.1
def ZC5:=Z7v.2.2.2.2.2.1
def Zn4:=Z7v.2.2.2.2.2.2.1
def ZDx:=Z7v.2.2.2.2.2.2.2.1
def Zsh:=Z7v.2.2.2.2.2.2.2.2.1
def Zn5:=Z7v.2.2.2.2.2.2.2.2.2.1
def ZrX:=Z7v.2.2.2.2.2.2.2.2.2.2.1
def Zt9:=Z7v.2.2.2.2.2.2.2.2.2.2.2.1
def Zp4:=Z7v.2.2.2.2.2.2.2.2.2.2.2.2.1
def ZHQ:=Z7v.2.2.2.2.2.2.2.2.2.2.2.2.2
end Go.Proofs.YtjodhcdmhobmoaaGreatDoor
