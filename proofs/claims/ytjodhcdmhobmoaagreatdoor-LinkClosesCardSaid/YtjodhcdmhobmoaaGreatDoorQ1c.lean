/-
  A part of the proof.
-/
import Derived.Test.YtjodhcdmhobmoaaGreatDoorQ1b
set_option linter.unusedVariables false
set_option linter.unusedSimpArgs false
namespace Go.Proofs.YtjodhcdmhobmoaaGreatDoor
open Go Go.Proofs.YtjodhcdmhobmoaaGreatDoor.Le
set_option linter.defProp false
set_option maxRecDepth 100000
set_option maxHeartbeats 40000000
theorem Zni:(∀(p0:List Zj),p0.length<=37->∃r,ZiE p0=some r/\r.length<=37) /\
  (∀(p0:List Int) (p1:Int),0<=p1->p1+9<=(p0.length:Int)->p0.length<=1000000->∃r,Z7J p0 p1=some r/\True) /\
  (∀(p0:Z7) (p1:Z4),Z0l p0->Z1f p1->∃r,ZmM p0 p1=some r/\Z0l r.1/\r.2.length<=1) /\
  (∀(p0:Z7) (p1:Z4) (p2:Int),Z0l p0->Z1f p1->∃r,Z6C p0 p1 p2=some r/\Z0l r.1/\r.2.1.length<=8/\ctL r.2.1/\r.2.2.length<=1) /\
  (∀(p0:Z7) (p1:Z4),Z0l p0->Z1f p1->∃r,Z5e p0 p1=some r/\Z0l r.1/\r.2.1.length<=8/\ctL r.2.1/\r.2.2.length<=1) /\
  (∀(p0:Z7) (p1:Z4) (p2:Int),Z0l p0->Z1f p1->∃r,Z5D p0 p1 p2=some r/\Z0l r.1/\r.2.1.length<=8/\ctL r.2.1/\r.2.2.length<=1) /\
  (∀(p0:Z7) (p1:Z4),Z0l p0->Z1f p1->∃r,Z5a p0 p1=some r/\Z0l r.1/\r.2.1.length<=8/\ctL r.2.1/\r.2.2.length<=1) /\
  (∀(p0:Z7) (p1:Z4),Z0l p0->Z1f p1->∃r,Z7K p0 p1=some r/\Z0l r.1/\r.2.1.length<=8/\ctL r.2.1/\r.2.2.length<=1):=by
 refine⟨fun p0 h0=>Zl (fun(p:Z9N)=>match p with | .b0 a0=>a0.length<=37 | .b1 a0 a1 a2=>a0.length<=37/\a1.length<=37/\0<=a2/\a2<=(a0.length:Int)/\(a1.length:Int)=a2) (fun(p:Z9N)=>match p with | .b0 ..=>(1,0,0) | .b1 a0 _ a2=>(0,((a0.length:Int) - a2).toNat,0)) ?_ _ ?_,
  fun p0 p1 h0 h1 h2=>Zl (fun(p:Z3j)=>match p with | .b0 a0 a1=>0<=a1/\a1+9<=(a0.length:Int)/\a0.length<=1000000) (fun(p:Z3j)=>(0,0,0)) ?_ _ ?_,
  fun p0 p1 h0 h1=>Zl (fun(p:Zbd)=>match p with | .b0 a0 a1=>Z0l a0/\Z1f a1 | .b1 a0 a1 a2=>Z0l a0/\Z1f a1/\Z0l a2 | .b2 a0 a1 a2=>Z0l a0/\Z1f a1/\Z0l a2 | .b3 a0 a1=>Z0l a0/\Z0l a1) (fun(p:Zbd)=>match p with | .b0 ..=>(0,0,3) | .b1 ..=>(0,0,2) | .b2 ..=>(0,0,1) | .b3 ..=>(0,0,0)) ?_ _ ?_,
  fun p0 p1 p2 h0 h1=>Zl (fun(p:Z2S)=>match p with | .b0 a0 a1 _=>Z0l a0/\Z1f a1 | .b1 _ a1 a2 a3=>Z0l a1/\Z1f a2/\Z0l a3 | .b2 _ a1 a2 a3=>Z0l a1/\Z1f a2/\Z0l a3 | .b3 a0 a1 a2=>Z0l a0/\Z1f a1/\Z0l a2 | .b4 _ a1 a2 a3=>Z0l a1/\Z1f a2/\Z0l a3 | .b5 a0 a1=>Z0l a0/\Z0l a1 | .b6 a0 a1=>Z0l a0/\Z0l a1 | .b7 _ a1 a2 a3=>Z0l a1/\Z1f a2/\Z0l a3 | .b8 _ a1 a2=>Z0l a1/\Z0l a2) (fun(p:Z2S)=>match p with | .b0 ..=>(0,0,4) | .b2 ..=>(0,0,3) | .b3 ..=>(0,0,1) | .b4 ..=>(0,0,2) | .b7 ..=>(0,0,1)|_=>(0,0,0)) ?_ _ ?_,
  fun p0 p1 h0 h1=>Zl (fun(p:Z2i)=>match p with | .b0 a0 a1=>Z0l a0/\Z1f a1 | .b1 a0 a1=>Z0l a0/\Z0l a1 | .b2 a0 a1 a2=>Z0l a0/\Z1f a1/\Z0l a2 | .b3 a0 a1 a2=>Z0l a0/\Z1f a1/\Z0l a2) (fun(p:Z2i)=>match p with | .b0 ..=>(0,0,2) | .b2 ..=>(0,0,1)|_=>(0,0,0)) ?_ _ ?_,
  fun p0 p1 p2 h0 h1=>Zl (fun(p:Z2l)=>match p with | .b0 a0 a1 _=>Z0l a0/\Z1f a1) (fun(p:Z2l)=>(0,0,0)) ?_ _ ?_,
  fun p0 p1 h0 h1=>Zl (fun(p:Z2w)=>match p with | .b0 a0 a1=>Z0l a0/\Z1f a1 | .b1 a0 a1=>Z0l a0/\Z0l a1 | .b2 a0 a1 a2=>Z0l a0/\Z1f a1/\Z0l a2) (fun(p:Z2w)=>match p with | .b0 ..=>(0,0,1)|_=>(0,0,0)) ?_ _ ?_,
  fun p0 p1 h0 h1=>Zl (fun(p:Z3d)=>match p with | .b0 a0 a1=>Z0l a0/\Z1f a1 | .b1 a0 a1 a2=>Z0l a0/\Z1f a1/\Z0l a2 | .b2 a0 a1 a2=>Z0l a0/\Z1f a1/\Z0l a2 | .b3 a0 a1=>Z0l a0/\Z0l a1 | .b4 a0 a1=>Z0l a0/\Z0l a1) (fun(p:Z3d)=>match p with | .b0 ..=>(0,0,2) | .b2 ..=>(0,0,1)|_=>(0,0,0)) ?_ _ ?_⟩
 all_goals try (intro p hp;cases p)
 all_goals
  try dsimp only at hp
  try exact False.elim hp
  try have hx:=hp
  try dsimp only [Z0z,Z16,Z0l,Z6M,Z2c,Zg5,Z4s,Z3m] at hx
  try (repeat with_reducible (have hq:=And.left hp;replace hp:=And.right hp))
  try simp only [ZiB,Z7F,Zmz,Z68,Z5t,Z5E,Z5H,Z7C]
  try dsimp only
  repeat' first|(refine Z0n ?_;dsimp only;try simp(disch:=omega) only [ZL,List.length_append,List.length_cons,List.length_nil,List.length_take,List.length_drop,List.length_set,List.length_replicate,List.nil_append,List.drop_zero])|(refine Z2a (fun h=>?_) (fun h=>?_)<;>(try simp only [decide_eq_true_eq,decide_eq_false_iff_not,Bool.not_eq_true',Bool.not_eq_false',Bool.not_eq_true,Bool.not_eq_false,beq_iff_eq,bne_iff_ne,beq_eq_false_iff_ne,bne_eq_false_iff_eq,ne_eq,reduceCtorEq,Bool.and_eq_true,Bool.or_eq_true,Classical.not_not] at h;try simp(disch:=omega) only [ZL] at h))|refine Z0s ?_ ?_|refine Z1o ?_|refine Zi (Zhx _) fun(v:Int) hm hv=>?_|refine ZCx ?_ fun v hv=>?_|refine Zi (ZqT _ _ _ ?_ ?_ ?_ ?_ ?_) fun(v:Int) hm hv=>?_|refine Zi (ZpL _) fun(v:Bool) hm hv=>?_|refine Zi (ZG6 _ _) fun(v:(List Z5)) hm hv=>?_|refine Zi (Zq9 _) fun(v:(List Z4)) hm hv=>?_|with_reducible apply And.intro|rfl|assumption|exact True.intro|omega|exact decide_eq_true (Z1T _).1|exact Z0S (by assumption) (by omega)|exact Z0Z (by assumption) (by omega)|(refine Z1v.2 ?_;first|omega|grind)|(apply Zov;first|omega|(simp only [List.length_append,List.length_cons,List.length_nil,List.length_take,List.length_drop,List.length_set,List.length_replicate];omega))|(simp only [Bool.and_eq_true,Bool.or_eq_true,decide_eq_true_eq,beq_iff_eq,bne_iff_ne,beq_self_eq_true,and_self,and_true,true_and,List.length_map,List.length_append,List.length_cons,List.length_nil,List.length_take,List.length_drop,List.length_set,List.length_replicate,Z0e,maxLen_eq]<;>omega)|(simp(disch:=omega) only [ZL,decide_eq_true_eq,bne_iff_ne,ne_eq];(repeat' split)<;>omega)|(simp [Z0H,Z4A];done)|grind|(simp only [Bool.and_eq_true,Bool.or_eq_true,decide_eq_true_eq,beq_iff_eq,bne_iff_ne,beq_self_eq_true,and_self,and_true,true_and,List.length_map,List.length_append,List.length_cons,List.length_nil,List.length_take,List.length_drop,List.length_set,List.length_replicate,Z0e,maxLen_eq]<;>grind)|grind [Zb8]
def ZCQ:=Zni.1
def Zdr:=Zni.2.1
def ZGj:=Zni.2.2.1
def Zml:=Zni.2.2.2.1
def Zkk:=Zni.2.2.2.2.1
def ZjP:=Zni.2.2.2.2.2.1
def Zja:=Zni.2.2.2.2.2.2.1
def Zo3:=Zni.2.2.2.2.2.2.2
theorem ZFT:∀(p0:Int),∃r,ZfY p0=some r/\(∃u,Z0k p0=some u/\r=szU u/\Z0H u):=by
 refine fun p0=>Zl (fun(p:ZbU)=>match p with | .b0 a0=>a0=p0 | .b1 a0 a1=>Z0H a1/\Z0k p0=some a1/\a0=1+cond a1.Zt 9 0 | .b2 a0 a1=>Z0H a1/\Z0k p0=some a1/\a0=1+cond a1.Zt 9 0+cond a1.Map 5 0 | .b3 a0 a1=>Z0H a1/\Z0k p0=some a1/\a0=1+cond a1.Zt 9 0+cond a1.Map 5 0+cond a1.ZQ 2 0 | .b4 a0 a1=>Z0H a1/\Z0k p0=some a1/\a0=1+cond a1.Zt 9 0+cond a1.Map 5 0+cond a1.ZQ 2 0/\(a1.Z05||a1.Version||a1.Length)=true | .b5 a0 a1=>Z0H a1/\Z0k p0=some a1/\a0=1+cond a1.Zt 9 0+cond a1.Map 5 0+cond a1.ZQ 2 0+cond (a1.Z05||a1.Version||a1.Length) 1 0 | .b6 a0 a1=>Z0H a1/\Z0k p0=some a1/\a0=1+cond a1.Zt 9 0+cond a1.Map 5 0+cond a1.ZQ 2 0+cond (a1.Z05||a1.Version||a1.Length) 1 0+cond a1.Z13 1 0 | .b7 a0 a1=>Z0H a1/\Z0k p0=some a1/\a0=1+cond a1.Zt 9 0+cond a1.Map 5 0+cond a1.ZQ 2 0+cond (a1.Z05||a1.Version||a1.Length) 1 0+cond a1.Z13 1 0/\(a1.Z5R||a1.ZZ)=true | .b8 a0 a1=>Z0H a1/\Z0k p0=some a1/\a0=1+cond a1.Zt 9 0+cond a1.Map 5 0+cond a1.ZQ 2 0+cond (a1.Z05||a1.Version||a1.Length) 1 0+cond a1.Z13 1 0+cond (a1.Z5R||a1.ZZ) 8 0) (fun(p:ZbU)=>match p with | .b0 ..=>(0,0,8) | .b1 ..=>(0,0,7) | .b2 ..=>(0,0,6) | .b3 ..=>(0,0,5) | .b4 ..=>(0,0,4) | .b5 ..=>(0,0,3) | .b6 ..=>(0,0,2) | .b7 ..=>(0,0,1) | .b8 ..=>(0,0,0)) ?_ _ ?_
 all_goals try (intro p hp;cases p)
 case' b0=>
  dsimp only at hp
  have hx:=hp
  try dsimp only [Z0z,Z16,Z0l,Z6M,Z2c,Zg5,Z4s,Z3m] at hx
  simp only [ZbI]
  subst hp
  refine Zi (Z73 _) (fun(v:Zg) hm hv=>?_)
  clear hx
  simp only [Z0H,Z4A,List.mem_cons,List.not_mem_nil,or_false] at hv
  rcases hv with rfl|rfl|rfl|rfl|rfl|rfl|rfl|rfl|rfl|rfl|rfl|rfl|rfl<;>simp only [szU,cond_true,cond_false,Bool.or_true,Bool.true_or,Bool.or_false,Bool.false_or,Bool.or_self,reduceCtorEq,and_false] at *<;>repeat' first|(refine Z2a (fun h=>?_) (fun h=>?_)<;>(try simp only [decide_eq_true_eq,decide_eq_false_iff_not,Bool.not_eq_true',Bool.not_eq_false',Bool.not_eq_true,Bool.not_eq_false,beq_iff_eq,bne_iff_ne,beq_eq_false_iff_ne,bne_eq_false_iff_eq,ne_eq,reduceCtorEq,Bool.and_eq_true,Bool.or_eq_true,Classical.not_not] at h;try simp(disch:=omega) only [ZL] at h))|(refine Z0n ?_;dsimp only;exact⟨⟨by simp [Z0H,Z4A],hm,by simp only [szU,cond_true,cond_false,Bool.or_true,Bool.true_or,Bool.or_false,Bool.false_or,Bool.or_self,reduceCtorEq,and_false] at *<;>omega⟩,Z1v.2 (by omega)⟩)
 case' b1|b2|b3|b4|b5|b6|b7|b8=>
  dsimp only at hp
  have hx:=hp
  try dsimp only [Z0z,Z16,Z0l,Z6M,Z2c,Zg5,Z4s,Z3m] at hx
  simp only [ZbI]
  have hu:=hp.1
  have hf:=hp.2.1
  have ha:=hp.2.2
  clear hp hx
  simp only [Z0H,Z4A,List.mem_cons,List.not_mem_nil,or_false] at hu
  rcases hu with rfl|rfl|rfl|rfl|rfl|rfl|rfl|rfl|rfl|rfl|rfl|rfl|rfl<;>simp only [szU,cond_true,cond_false,Bool.or_true,Bool.true_or,Bool.or_false,Bool.false_or,Bool.or_self,reduceCtorEq,and_false] at *<;>repeat' first|(refine Z2a (fun h=>?_) (fun h=>?_)<;>(try simp only [decide_eq_true_eq,decide_eq_false_iff_not,Bool.not_eq_true',Bool.not_eq_false',Bool.not_eq_true,Bool.not_eq_false,beq_iff_eq,bne_iff_ne,beq_eq_false_iff_ne,bne_eq_false_iff_eq,ne_eq,reduceCtorEq,Bool.and_eq_true,Bool.or_eq_true,Classical.not_not] at h;try simp(disch:=omega) only [ZL] at h))|(refine Z0n ?_;dsimp only;(try simp(disch:=omega) only [ZL]);first|exact⟨⟨by simp [Z0H,Z4A],hf,by simp only [szU,cond_true,cond_false,Bool.or_true,Bool.true_or,Bool.or_false,Bool.false_or,Bool.or_self,reduceCtorEq,and_false] at *<;>first|omega|exact⟨by omega,by first|trivial|rfl⟩⟩,Z1v.2 (by omega)⟩|exact⟨_,hf,by simp only [szU,cond_true,cond_false,Bool.or_true,Bool.true_or,Bool.or_false,Bool.false_or,Bool.or_self,reduceCtorEq,and_false] at *<;>omega,by simp [Z0H,Z4A]⟩)
 all_goals
  try dsimp only at hp
  try exact False.elim hp
  try have hx:=hp
  try dsimp only [Z0z,Z16,Z0l,Z6M,Z2c,Zg5,Z4s,Z3m] at hx
  try (repeat with_reducible (have hq:=And.left hp;replace hp:=And.right hp))
  try simp only [ZbI]
  try dsimp only
  repeat' first|(refine Z0n ?_;dsimp only;try simp(disch:=omega) only [ZL,List.length_append,List.length_cons,List.length_nil,List.length_take,List.length_drop,List.length_set,List.length_replicate,List.nil_append,List.drop_zero])|(refine Z2a (fun h=>?_) (fun h=>?_)<;>(try simp only [decide_eq_true_eq,decide_eq_false_iff_not,Bool.not_eq_true',Bool.not_eq_false',Bool.not_eq_true,Bool.not_eq_false,beq_iff_eq,bne_iff_ne,beq_eq_false_iff_ne,bne_eq_false_iff_eq,ne_eq,reduceCtorEq,Bool.and_eq_true,Bool.or_eq_true,Classical.not_not] at h;try simp(disch:=omega) only [ZL] at h))|refine Z0s ?_ ?_|refine Z1o ?_|with_reducible apply And.intro|rfl|assumption|exact True.intro|omega|exact decide_eq_true (Z1T _).1|exact Z0S (by assumption) (by omega)|exact Z0Z (by assumption) (by omega)|(refine Z1v.2 ?_;first|omega|grind)|(apply Zov;first|omega|(simp only [List.length_append,List.length_cons,List.length_nil,List.length_take,List.length_drop,List.length_set,List.length_replicate];omega))|(simp only [Bool.and_eq_true,Bool.or_eq_true,decide_eq_true_eq,beq_iff_eq,bne_iff_ne,beq_self_eq_true,and_self,and_true,true_and,List.length_map,List.length_append,List.length_cons,List.length_nil,List.length_take,List.length_drop,List.length_set,List.length_replicate,Z0e,maxLen_eq]<;>omega)|(simp(disch:=omega) only [ZL,decide_eq_true_eq,bne_iff_ne,ne_eq];(repeat' split)<;>omega)|(simp [Z0H,Z4A];done)|grind|(simp only [Bool.and_eq_true,Bool.or_eq_true,decide_eq_true_eq,beq_iff_eq,bne_iff_ne,beq_self_eq_true,and_self,and_true,true_and,List.length_map,List.length_append,List.length_cons,List.length_nil,List.length_take,List.length_drop,List.length_set,List.length_replicate,Z0e,maxLen_eq]<;>grind)|grind [Zb8]
theorem Z5x:(∀(p0:Int),∃r,Z8A p0=some r/\r.length<=37/\ZrI r) /\
  (∀(p0:Int) (p1:ZM),∃r,Zhv p0 p1=some r/\True) /\
  (∀(p0:ZK) (p1:Zd),Z16 p0->Z2c p1->∃r,Zd1 p0 p1=some r/\Z16 r.1) /\
  (∀(p0 p1:Int),∃r,Zbn p0 p1=some r/\R64 r) /\
  (∀(p0:Zn),Z2c p0.ZF->∃r,Zf6 p0=some r/\r.1.length<=257/\byL r.1) /\
  (∀(p0:Int) (p1:List Int),p1.length<=100000->byL p1->∃r,Zep p0 p1=some r/\r.length=p1.length+3/\byL r) /\
  (∀(p0:Int) (p1:List Int),p1.length<=100000->∃r,Zdg p0 p1=some r/\r.q0.length=p1.length/\byL r.q0) /\
  (∀(p0:List Z8) (p1:Int),(p0.length<=1/\Zjd p0)->∃r,ZkS p0 p1=some r/\r.1.length<=1/\Zjd r.1/\r.2.length<=1/\Zjd r.2) /\
  (∀(k:Int) (p0:Z9) (p1:Z8),Z0z k p0->ZIu p1->0<=k->k<=1000000->∃r,Zcj p0 p1=some r/\Z0z k r) /\
  (∀(p0:Int) (p1:Z8),ZIu p1->∃r,Z9M p0 p1=some r/\True) /\
  (∀(p0:Z7) (p1:Int),Z0l p0->∃r,Z5q p0 p1=some r/\True) /\
  (∀(p0:Zj),∃r,Zqs p0=some r/\True) /\
  (∀(p0:Int) (p1:List Int),p1.length<=65536->byL p1->∃r,Zho p0 p1=some r/\r.1.length<=65536/\byL r.1) /\
  (∀(p0:ZK) (p1:Zn),Z16 p0->Z2c p1.ZF->∃r,ZlN p0 p1=some r/\Z16 r.1/\Z2c r.2.1):=by
 refine⟨fun p0=>Zl (fun(p:ZbX)=>match p with | .b0 ..=>True | .b1 _ a1 a2=>0<=a2/\a2<=37/\(a1.length:Int)<=a2/\ZrI a1 | .b2 _ a1 a2=>0<=a2/\a2<=36/\(a1.length:Int)<=a2+1/\ZrI a1) (fun(p:ZbX)=>match p with | .b0 ..=>(1,0,0) | .b1 _ _ a2=>(0,(37 - a2).toNat,1) | .b2 _ _ a2=>(0,(37 - a2).toNat,0)) ?_ _ ?_,
  fun p0 p1=>Zl (fun(p:Z8K)=>True) (fun(p:Z8K)=>(0,0,0)) ?_ _ ?_,
  fun p0 p1 h0 h1=>Zl (fun(p:Z8E)=>match p with | .b0 a0 a1=>Z16 a0/\Z2c a1 | .b1 a0 a1 a2=>Z16 a0/\Z2c a1/\Z16 a2/\Zg5 a1) (fun(p:Z8E)=>match p with | .b0 ..=>(0,0,1) | .b1 ..=>(0,0,0)) ?_ _ ?_,
  fun p0 p1=>Zl (fun(p:ZeR)=>match p with | .b0 ..=>True | .b1 _ _ _ a3=>0<=a3/\a3<=8) (fun(p:ZeR)=>match p with | .b0 ..=>(1,0,0) | .b1 _ _ _ a3=>(0,(8 - a3).toNat,0)) ?_ _ ?_,
  fun p0 h0=>Zl (fun(p:Z7d)=>match p with | .b0 a0=>Z2c a0.ZF) (fun(p:Z7d)=>(0,0,0)) ?_ _ ?_,
  fun p0 p1 h0 h1=>Zl (fun(p:Z72)=>match p with | .b0 _ a1=>a1=p1) (fun(p:Z72)=>(0,0,0)) ?_ _ ?_,
  fun p0 p1 h0=>Zl (fun(p:Z9Z)=>match p with | .b0 _ a1=>a1=p1 | .b1 a0 a1 a2 a3=>a0=p1/\a0.length<=100000/\a1.length=p1.length/\0<=a3/\a3<=(a0.length:Int)/\(a2.length:Int)=a3/\byL a2) (fun(p:Z9Z)=>match p with | .b0 ..=>(1,0,0) | .b1 a0 _ _ a3=>(0,((a0.length:Int) - a3).toNat,0)) ?_ _ ?_,
  fun p0 p1 h0=>Zl (fun(p:Zej)=>match p with | .b0 a0 _=>a0.length<=1/\Zjd a0 | .b1 a0 _ a2 a3 a4=>a0.length<=1/\Zjd a0/\a2.length<=1/\Zjd a2/\a3.length<=1/\Zjd a3/\0<=a4/\a4<=(a0.length:Int)/\(a2.length:Int)+(a3.length:Int)<=a4 | .b2 a0 _ a2 a3 a4=>a0.length<=1/\Zjd a0/\a2.length<=1/\Zjd a2/\a3.length<=1/\Zjd a3/\0<=a4/\a4<(a0.length:Int)/\(a2.length:Int)+(a3.length:Int)<=a4+1) (fun(p:Zej)=>match p with | .b0 ..=>(1,0,0) | .b1 a0 _ _ _ a4=>(0,((a0.length:Int) - a4).toNat,1) | .b2 a0 _ _ _ a4=>(0,((a0.length:Int) - a4).toNat,0)) ?_ _ ?_,
  fun k p0 p1 h0 h1 h2 h3=>Zl (fun(p:Z9L)=>match p with | .b0 a0 a1=>Z0z k a0/\ZIu a1 | .b1 a0 a1 a2=>Z0z k a0/\ZIu a1/\Z0z k a2) (fun(p:Z9L)=>match p with | .b0 ..=>(0,0,1) | .b1 ..=>(0,0,0)) ?_ _ ?_,
  fun p0 p1 h0=>Zl (fun(p:Z9q)=>match p with | .b0 _ a1=>ZIu a1 | .b1 _ a1=>ZIu a1) (fun(p:Z9q)=>match p with | .b0 ..=>(0,0,1) | .b1 ..=>(0,0,0)) ?_ _ ?_,
  fun p0 p1 h0=>Zl (fun(p:Z5c)=>match p with | .b0 a0 _=>Z0l a0) (fun(p:Z5c)=>(0,0,0)) ?_ _ ?_,
  fun p0=>Zl (fun(p:ZdX)=>True) (fun(p:ZdX)=>(0,0,0)) ?_ _ ?_,
  fun p0 p1 h0 h1=>Zl (fun(p:Z9x)=>match p with | .b0 _ a1=>a1.length<=65536/\byL a1) (fun(p:Z9x)=>(0,0,0)) ?_ _ ?_,
  fun p0 p1 h0 h1=>Zl (fun(p:Zbl)=>match p with | .b0 a0 a1=>Z16 a0/\Z2c a1.ZF | .b1 a0 a1 a2 a3=>Z16 a0/\Z2c a1.ZF/\Z16 a2/\Z2c a3 | .b2 _ a1 a2 a3 a4=>Z16 a1/\Z2c a2.ZF/\Z16 a3/\Z2c a4 | .b3 _ a1 a2 a3 a4=>Z16 a1/\Z2c a2.ZF/\Z16 a3/\Z2c a4/\0<a1.Zu.length | .b4 _ a1 a2 a3 a4=>Z2c a2.ZF/\Z2c a4/\Z16 { a1 with Open:=false }/\Z16 a3 | .b5 _ a1 a2 a3=>Z16 a1/\Z16 a2/\Z2c a3) (fun(p:Zbl)=>match p with | .b0 ..=>(0,0,5) | .b1 ..=>(0,0,4) | .b2 ..=>(0,0,1) | .b3 ..=>(0,0,3) | .b4 ..=>(0,0,2) | .b5 ..=>(0,0,0)) ?_ _ ?_⟩
 all_goals try (intro p hp;cases p)
 all_goals
  try dsimp only at hp
  try exact False.elim hp
  try have hx:=hp
  try dsimp only [Z0z,Z16,Z0l,Z6M,Z2c,Zg5,Z4s,Z3m] at hx
  try (repeat with_reducible (have hq:=And.left hp;replace hp:=And.right hp))
  try simp only [Z3r,Zhq,Zhb,ZoI,ZeC,Ze6,Zhn,Z4t,Z6s,Z6w,Z54,ZqB,ZiF,Zmg]
  try dsimp only
  repeat' first|(refine Z0n ?_;dsimp only;try simp(disch:=omega) only [ZL,List.length_append,List.length_cons,List.length_nil,List.length_take,List.length_drop,List.length_set,List.length_replicate,List.nil_append,List.drop_zero])|(refine Z2a (fun h=>?_) (fun h=>?_)<;>(try simp only [decide_eq_true_eq,decide_eq_false_iff_not,Bool.not_eq_true',Bool.not_eq_false',Bool.not_eq_true,Bool.not_eq_false,beq_iff_eq,bne_iff_ne,beq_eq_false_iff_ne,bne_eq_false_iff_eq,ne_eq,reduceCtorEq,Bool.and_eq_true,Bool.or_eq_true,Classical.not_not] at h;try simp(disch:=omega) only [ZL] at h))|refine Z0s ?_ ?_|refine Z1o ?_|refine Zi (Zz9 _ _) fun(v:Bool) hm hv=>?_|refine Zi (ZCZ _) fun(v:Int) hm hv=>?_|refine Zi (Zz0 _) fun(v:Int) hm hv=>?_|refine Zi (ZGo _) fun(v:Int) hm hv=>?_|refine Zi (ZwF _) fun(v:Bool) hm hv=>?_|refine Zi (Ziy _) fun(v:Int) hm hv=>?_|refine Zi (ZBo _ _ _) fun(v:Int) hm hv=>?_|refine Zi (ZLC _ _ ?_) fun(v:Int) hm hv=>?_|refine Zi (ZGK _) fun(v:(List Int)) hm hv=>?_|refine Zi (Zsg _ _ ?_ ?_) fun(v:(List Int)) hm hv=>?_|refine Znp ?_ fun v hv=>?_|refine Zi (ZAL _ _) fun(v:Bool) hm hv=>?_|refine Zuc ?_ fun v hv=>?_|refine Zi (ZMh _ _) fun(v:Zk) hm hv=>?_|refine Zi (ZIP _ _ _) fun(v:Bool) hm hv=>?_|refine Zi (Zhx _) fun(v:Int) hm hv=>?_|refine Zi (Ztj _) fun(v:Int) hm hv=>?_|with_reducible apply And.intro|rfl|assumption|exact True.intro|omega|exact decide_eq_true (Z1T _).1|exact Z0S (by assumption) (by omega)|exact Z0Z (by assumption) (by omega)|(refine Z1v.2 ?_;first|omega|grind)|(apply Zov;first|omega|(simp only [List.length_append,List.length_cons,List.length_nil,List.length_take,List.length_drop,List.length_set,List.length_replicate];omega))|(simp only [Bool.and_eq_true,Bool.or_eq_true,decide_eq_true_eq,beq_iff_eq,bne_iff_ne,beq_self_eq_true,and_self,and_true,true_and,List.length_map,List.length_append,List.length_cons,List.length_nil,List.length_take,List.length_drop,List.length_set,List.length_replicate,Z0e,maxLen_eq]<;>omega)|(simp(disch:=omega) only [ZL,decide_eq_true_eq,bne_iff_ne,ne_eq];(repeat' split)<;>omega)|(simp [Z0H,Z4A];done)|grind|(simp only [Bool.and_eq_true,Bool.or_eq_true,decide_eq_true_eq,beq_iff_eq,bne_iff_ne,beq_self_eq_true,and_self,and_true,true_and,List.length_map,List.length_append,List.length_cons,List.length_nil,List.length_take,List.length_drop,List.length_set,List.length_replicate,Z0e,maxLen_eq]<;>grind)|grind [Zb8]
def Zti:=Z5x.1
def ZCM:=Z5x.2.1
def Zqf:=Z5x.2.2.1
def ZL6:=Z5x.2.2.2.1
def ZzB:=Z5x.2.2.2.2.1
def ZAB:=Z5x.2.2.2.2.2.1
def ZEJ:=Z5x.2.2.2.2.2.2.1
def ZJp:=Z5x.2.2.2.2.2.2.2.1
def ZC3:=Z5x.2.2.2.2.2.2.2.2.1
def ZD3:=Z5x.2.2.2.2.2.2.2.2.2.1
def Zu4:=Z5x.2.2.2.2.2.2.2.2.2.2.1
def ZLT:=Z5x.2.2.2.2.2.2.2.2.2.2.2.1
def ZBg:=Z5x.2.2.2.2.2.2.2.2.2.2.2.2.1
def ZGU:=Z5x.2.2.2.2.2.2.2.2.2.2.2.2.2
theorem ZEs:∀(p0:Z4) (p1:List Int),Z1f p0->(∃u,Z0k p0.Kind=some u/\(p1.length:Int)=szU u/\Z0H u)->p1.length<=65536->∃r,Zit p0 p1=some r/\Z1f r:=by
 refine fun p0 p1 h0 h1 h2=>Zl (fun(p:Z95)=>match p with | .b0 a0 a1=>Z1f a0/\a0.Kind=p0.Kind/\a1=p1 | .b1 a0 a1 a2 _ a4=>Z1f a2/\Z0H a4/\(a0.length:Int)=szU a4/\a1=1+cond a4.Zt 9 0/\a0.length<=65536 | .b2 a0 a1 a2 _ a4=>Z1f a2/\Z0H a4/\(a0.length:Int)=szU a4/\a1=1+cond a4.Zt 9 0+cond a4.Map 5 0/\a0.length<=65536 | .b3 a0 a1 a2 _ a4=>Z1f a2/\Z0H a4/\(a0.length:Int)=szU a4/\a1=1+cond a4.Zt 9 0+cond a4.Map 5 0/\a0.length<=65536 | .b4 a0 a1 a2 _ a4=>Z1f a2/\Z0H a4/\(a0.length:Int)=szU a4/\a1=1+cond a4.Zt 9 0+cond a4.Map 5 0+cond a4.Z05 1 0/\a0.length<=65536 | .b5 a0 a1 a2 _ a4=>Z1f a2/\Z0H a4/\(a0.length:Int)=szU a4/\a1=1+cond a4.Zt 9 0+cond a4.Map 5 0+cond a4.Z05 1 0/\a0.length<=65536 | .b6 a0 a1 a2 _ a4=>Z1f a2/\Z0H a4/\(a0.length:Int)=szU a4/\a1=1+cond a4.Zt 9 0+cond a4.Map 5 0+cond a4.Z05 1 0+cond a4.Z5R 8 0/\a0.length<=65536 | .b7 a0 a1 a2 _ a4=>Z1f a2/\Z0H a4/\(a0.length:Int)=szU a4/\a1=1+cond a4.Zt 9 0+cond a4.Map 5 0+cond a4.Z05 1 0+cond a4.Z5R 8 0/\a0.length<=65536 | .b8 a0 a1 a2 _ a4=>Z1f a2/\Z0H a4/\(a0.length:Int)=szU a4/\a1=1+cond a4.Zt 9 0+cond a4.Map 5 0+cond a4.Z05 1 0+cond a4.Z5R 8 0/\a0.length<=65536 | .b9 a0 a1 a2 _ a4=>Z1f a2/\Z0H a4/\(a0.length:Int)=szU a4/\a1=1+cond a4.Zt 9 0+cond a4.Map 5 0+cond a4.Z05 1 0+cond a4.Z5R 8 0/\a0.length<=65536) (fun(p:Z95)=>match p with | .b0 ..=>(0,0,9) | .b1 ..=>(0,0,8) | .b2 ..=>(0,0,7) | .b3 ..=>(0,0,6) | .b4 ..=>(0,0,5) | .b5 ..=>(0,0,4) | .b6 ..=>(0,0,3) | .b7 ..=>(0,0,2) | .b8 ..=>(0,0,1) | .b9 ..=>(0,0,0)) ?_ _ ?_
 all_goals try (intro p hp;cases p)
 case' b0=>
  dsimp only at hp
  have hx:=hp
  try dsimp only [Z0z,Z16,Z0l,Z6M,Z2c,Zg5,Z4s,Z3m] at hx
  simp only [Z98]
  obtain⟨hq,hk,rfl⟩:=hp
  obtain⟨u,h1,h2,h3⟩:=h1
  refine ZfU (hk▸h1) ?_
  clear hx h1 hk
  simp only [Z0H,Z4A,List.mem_cons,List.not_mem_nil,or_false] at h3
  rcases h3 with rfl|rfl|rfl|rfl|rfl|rfl|rfl|rfl|rfl|rfl|rfl|rfl|rfl<;>simp only [szU,cond_true,cond_false,Bool.or_true,Bool.true_or,Bool.or_false,Bool.false_or,Bool.or_self,reduceCtorEq,and_false] at *<;>repeat' first|(refine Z2a (fun h=>?_) (fun h=>?_)<;>(try simp only [decide_eq_true_eq,decide_eq_false_iff_not,Bool.not_eq_true',Bool.not_eq_false',Bool.not_eq_true,Bool.not_eq_false,beq_iff_eq,bne_iff_ne,beq_eq_false_iff_ne,bne_eq_false_iff_eq,ne_eq,reduceCtorEq,Bool.and_eq_true,Bool.or_eq_true,Classical.not_not] at h;try simp(disch:=omega) only [ZL] at h))|(refine Zi (ZqT _ _ _ (by omega) (by omega) (by omega) (by omega) (by omega)) (fun(v:Int) hm hv=>?_))|(refine Znp ?_ (fun v hv=>?_))|(refine Zi (Zdr _ _ (by omega) (by omega) (by omega)) (fun(v:ZM) hm hv=>?_))|(refine Z0n ?_;dsimp only;(try simp(disch:=omega) only [ZL]);first|exact⟨⟨by grind,by simp [Z0H,Z4A],by first|omega|(simp only [szU,cond_true,cond_false,Bool.or_true,Bool.true_or,Bool.or_false,Bool.false_or,Bool.or_self,reduceCtorEq,and_false] at *<;>omega),by first|omega|(simp only [szU,cond_true,cond_false,Bool.or_true,Bool.true_or,Bool.or_false,Bool.false_or,Bool.or_self,reduceCtorEq,and_false] at *<;>omega),by omega⟩,Z1v.2 (by omega)⟩|grind)
 case' b1|b2|b3|b4|b5|b6|b7|b8|b9=>
  dsimp only at hp
  have hx:=hp
  try dsimp only [Z0z,Z16,Z0l,Z6M,Z2c,Zg5,Z4s,Z3m] at hx
  simp only [Z98]
  have hc:=hp.1
  have hu:=hp.2.1
  have hl:=hp.2.2.1
  have ha:=hp.2.2.2.1
  have hs:=hp.2.2.2.2
  clear hp hx
  simp only [Z0H,Z4A,List.mem_cons,List.not_mem_nil,or_false] at hu
  rcases hu with rfl|rfl|rfl|rfl|rfl|rfl|rfl|rfl|rfl|rfl|rfl|rfl|rfl<;>simp only [szU,cond_true,cond_false,Bool.or_true,Bool.true_or,Bool.or_false,Bool.false_or,Bool.or_self,reduceCtorEq,and_false] at *<;>repeat' first|(refine Z2a (fun h=>?_) (fun h=>?_)<;>(try simp only [decide_eq_true_eq,decide_eq_false_iff_not,Bool.not_eq_true',Bool.not_eq_false',Bool.not_eq_true,Bool.not_eq_false,beq_iff_eq,bne_iff_ne,beq_eq_false_iff_ne,bne_eq_false_iff_eq,ne_eq,reduceCtorEq,Bool.and_eq_true,Bool.or_eq_true,Classical.not_not] at h;try simp(disch:=omega) only [ZL] at h))|(refine Z0s ?_ ?_)|(refine Zi (ZqT _ _ _ (by omega) (by omega) (by omega) (by omega) (by omega)) (fun(v:Int) hm hv=>?_))|(refine Znp ?_ (fun v hv=>?_))|(refine Zi (Zdr _ _ (by omega) (by omega) (by omega)) (fun(v:ZM) hm hv=>?_))|(refine Z0n ?_;dsimp only;(try simp(disch:=omega) only [ZL]);first|exact⟨⟨by grind,by simp [Z0H,Z4A],by first|omega|(simp only [szU,cond_true,cond_false,Bool.or_true,Bool.true_or,Bool.or_false,Bool.false_or,Bool.or_self,reduceCtorEq,and_false] at *<;>omega),by first|omega|(simp only [szU,cond_true,cond_false,Bool.or_true,Bool.true_or,Bool.or_false,Bool.false_or,Bool.or_self,reduceCtorEq,and_false] at *<;>omega),by omega⟩,Z1v.2 (by omega)⟩|grind)
 all_goals
  try dsimp only at hp
  try exact False.elim hp
  try have hx:=hp
  try dsimp only [Z0z,Z16,Z0l,Z6M,Z2c,Zg5,Z4s,Z3m] at hx
  try (repeat with_reducible (have hq:=And.left hp;replace hp:=And.right hp))
  try simp only [Z98]
  try dsimp only
  repeat' first|(refine Z0n ?_;dsimp only;try simp(disch:=omega) only [ZL,List.length_append,List.length_cons,List.length_nil,List.length_take,List.length_drop,List.length_set,List.length_replicate,List.nil_append,List.drop_zero])|(refine Z2a (fun h=>?_) (fun h=>?_)<;>(try simp only [decide_eq_true_eq,decide_eq_false_iff_not,Bool.not_eq_true',Bool.not_eq_false',Bool.not_eq_true,Bool.not_eq_false,beq_iff_eq,bne_iff_ne,beq_eq_false_iff_ne,bne_eq_false_iff_eq,ne_eq,reduceCtorEq,Bool.and_eq_true,Bool.or_eq_true,Classical.not_not] at h;try simp(disch:=omega) only [ZL] at h))|refine Z0s ?_ ?_|refine Z1o ?_|with_reducible apply And.intro|rfl|assumption|exact True.intro|omega|exact decide_eq_true (Z1T _).1|exact Z0S (by assumption) (by omega)|exact Z0Z (by assumption) (by omega)|(refine Z1v.2 ?_;first|omega|grind)|(apply Zov;first|omega|(simp only [List.length_append,List.length_cons,List.length_nil,List.length_take,List.length_drop,List.length_set,List.length_replicate];omega))|(simp only [Bool.and_eq_true,Bool.or_eq_true,decide_eq_true_eq,beq_iff_eq,bne_iff_ne,beq_self_eq_true,and_self,and_true,true_and,List.length_map,List.length_append,List.length_cons,List.length_nil,List.length_take,List.length_drop,List.length_set,List.length_replicate,Z0e,maxLen_eq]<;>omega)|(simp(disch:=omega) only [ZL,decide_eq_true_eq,bne_iff_ne,ne_eq];(repeat' split)<;>omega)|(simp [Z0H,Z4A];done)|grind|(simp only [Bool.and_eq_true,Bool.or_eq_true,decide_eq_true_eq,beq_iff_eq,bne_iff_ne,beq_self_eq_true,and_self,and_true,true_and,List.length_map,List.length_append,List.length_cons,List.length_nil,List.length_take,List.length_drop,List.length_set,List.length_replicate,Z0e,maxLen_eq]<;>grind)|grind [Zb8]
theorem Zfn:(∀(p0:Int),∃r,Z64 p0=some r/\0<=r/\r<=37) /\
  (∀(p0 p1:Int),∃r,Zee p0 p1=some r/\True) /\
  (∀(p0 p1 p2:Int),0<=p2->p2<=100000->∃r,Zaj p0 p1 p2=some r/\(r.length:Int)=p2/\byL r) /\
  (∀(p0:Int) (p1:List Int),p1.length<=1000000->∃r,Zjr p0 p1=some r/\R64 r) /\
  (∀(p0:Z7) (p1:Int),Z0l p0->∃r,ZjM p0 p1=some r/\Z0l r.1/\r.2.length<=1/\Zjd r.2) /\
  (∀(p0:List Z8) (p1:Int) (p2:Z8),(p0.length<=1/\Zjd p0)->ZIu p2->∃r,Zbr p0 p1 p2=some r/\r.1.length<=1/\Zjd r.1) /\
  (∀(k:Int) (p0:Z9) (p1:Zd),Z0z k p0->Z2c p1->0<=k->k<=1000000->∃r,Zme p0 p1=some r/\Z0z k r.1) /\
  (∀(p0:List Zj) (p1:List Int),p0.length<=37->p1.length<=37->∃r,Zig p0 p1=some r/\r<(p1.length:Int)):=by
 refine⟨fun p0=>Zl (fun(p:Z8D)=>True) (fun(p:Z8D)=>(0,0,0)) ?_ _ ?_,
  fun p0 p1=>Zl (fun(p:Zen)=>match p with | .b0 ..=>True | .b1 a0 a1=>0<=a0/\a0<(a1.length:Int)) (fun(p:Zen)=>match p with | .b0 ..=>(0,0,1) | .b1 ..=>(0,0,0)) ?_ _ ?_,
  fun p0 p1 p2 h0 h1=>Zl (fun(p:Z7n)=>match p with | .b0 _ _ a2=>a2=p2/\0<=a2/\a2<=100000 | .b1 _ a1 a2 _ a4=>a1=p2/\0<=a1/\a1<=100000/\0<=a4/\(a2.length:Int)=8*a4/\8*a4<=a1+8/\byL a2) (fun(p:Z7n)=>match p with | .b0 ..=>(1,0,0) | .b1 _ a1 _ _ a4=>(0,(a1+8 - 8*a4).toNat,0)) ?_ _ ?_,
  fun p0 p1 h0=>Zl (fun(p:Zew)=>match p with | .b0 _ a1=>a1.length<=1000000 | .b1 _ a1 a2 a3=>0<=a3/\a3<=(a1.length:Int)+8/\a1.length<=1000000/\R64 a2) (fun(p:Zew)=>match p with | .b0 ..=>(1,0,0) | .b1 _ a1 _ a3=>(0,((a1.length:Int)+8 - a3).toNat,0)) ?_ _ ?_,
  fun p0 p1 h0=>Zl (fun(p:Zf8)=>match p with | .b0 a0 _=>Z0l a0 | .b1 a0 a1=>Z0l a0/\Z0l a1 | .b2 a0 a1 a2=>a0.length<=1/\Zjd a0/\Z0l a1/\Z0l a2 | .b3 a0 a1 a2 a3=>a0.length<=1/\Zjd a0/\Z0l a2/\Z0l a3/\0<=a1/\a1<=(a0.length:Int) | .b4 a0 a1 a2 a3=>a0.length<=1/\Zjd a0/\Z0l a2/\Z0l a3/\0<=a1/\a1<(a0.length:Int) | .b5 a0 a1 a2 a3=>a0.length<=1/\Zjd a0/\Z0l a2/\Z0l a3/\0<=a1/\a1<(a0.length:Int)) (fun(p:Zf8)=>match p with | .b0 ..=>(2,0,0) | .b1 ..=>(1,0,0) | .b2 ..=>(1,0,1) | .b3 a0 a1 _ _=>(0,((a0.length:Int) - a1).toNat,3) | .b4 a0 a1 _ _=>(0,((a0.length:Int) - a1).toNat,2) | .b5 a0 a1 _ _=>(0,((a0.length:Int) - a1).toNat,1)) ?_ _ ?_,
  fun p0 p1 p2 h0 h1=>Zl (fun(p:Zf2)=>match p with | .b0 a0 _ a2=>a0.length<=1/\Zjd a0/\ZIu a2) (fun(p:Zf2)=>(0,0,0)) ?_ _ ?_,
  fun k p0 p1 h0 h1 h2 h3=>Zl (fun(p:ZbM)=>match p with | .b0 a0 a1=>Z0z k a0/\Z2c a1 | .b1 a0 a1 a2=>Z0z k a0/\Z2c a1/\Z0z k a2) (fun(p:ZbM)=>match p with | .b0 ..=>(0,0,1) | .b1 ..=>(0,0,0)) ?_ _ ?_,
  fun p0 p1 h0 h1=>Zl (fun(p:Z9D)=>match p with | .b0 a0 a1=>a0.length<=37/\a1=p1/\a1.length<=37 | .b1 a0 a1 a2 a3=>a0.length<=37/\a1=p1/\a1.length<=37/\a2<(a1.length:Int)/\0<=a3/\a3<=(a1.length:Int) | .b2 a0 a1 a2 a3=>a0.length<=37/\a1=p1/\a1.length<=37/\a2<(a1.length:Int)/\0<=a3/\a3<(a1.length:Int) | .b3 a0 a1 a2=>a0.length<=37/\a1=p1/\a1.length<=37/\a2<(a1.length:Int)/\0<=a2) (fun(p:Z9D)=>match p with | .b0 ..=>(1,0,0) | .b1 _ a1 _ a3=>(0,((a1.length:Int) - a3).toNat,2) | .b2 _ a1 _ a3=>(0,((a1.length:Int) - a3).toNat,0) | .b3 _ a1 a2=>(0,((a1.length:Int) - a2).toNat,1)) ?_ _ ?_⟩
 all_goals try (intro p hp;cases p)
 all_goals
  try dsimp only at hp
  try exact False.elim hp
  try have hx:=hp
  try dsimp only [Z0z,Z16,Z0l,Z6M,Z2c,Zg5,Z4s,Z3m] at hx
  try (repeat with_reducible (have hq:=And.left hp;replace hp:=And.right hp))
  try simp only [ZcN,Zfc,ZeY,ZqU,Z1M,Zj2,ZlS,Zis]
  try dsimp only
  repeat' first|(refine Z0n ?_;dsimp only;try simp(disch:=omega) only [ZL,List.length_append,List.length_cons,List.length_nil,List.length_take,List.length_drop,List.length_set,List.length_replicate,List.nil_append,List.drop_zero])|(refine Z2a (fun h=>?_) (fun h=>?_)<;>(try simp only [decide_eq_true_eq,decide_eq_false_iff_not,Bool.not_eq_true',Bool.not_eq_false',Bool.not_eq_true,Bool.not_eq_false,beq_iff_eq,bne_iff_ne,beq_eq_false_iff_ne,bne_eq_false_iff_eq,ne_eq,reduceCtorEq,Bool.and_eq_true,Bool.or_eq_true,Classical.not_not] at h;try simp(disch:=omega) only [ZL] at h))|refine Z0s ?_ ?_|refine Z1o ?_|refine Zi (Zti _) fun(v:(List Int)) hm hv=>?_|refine ZOH ?_ fun v hv=>?_|refine Zi (ZL6 _ _) fun(v:Int) hm hv=>?_|refine Zi (Zpb _ _ ?_ ?_) fun(v:Z2U) hm hv=>?_|refine Zi (ZCJ _ ?_) fun(v:Int) hm hv=>?_|refine Zi (ZJp _ _ ?_) fun(v:((List Z8)×(List Z8))) hm hv=>?_|refine Zuc ?_ fun v hv=>?_|refine Zi (ZD3 _ _ ?_) fun(v:Int) hm hv=>?_|refine Zi (Ziy _) fun(v:Int) hm hv=>?_|refine Zi (ZqH _ ?_) fun(v:Bool) hm hv=>?_|refine Zi (Zqf _ _ ?_ ?_) fun(v:(ZK×Int)) hm hv=>?_|refine Zi (ZNt _ _ ?_) fun(v:Zj) hm hv=>?_|refine Zi (ZLT _) fun(v:Bool) hm hv=>?_|refine Zi (Ztj _) fun(v:Int) hm hv=>?_|with_reducible apply And.intro|rfl|assumption|exact True.intro|omega|exact decide_eq_true (Z1T _).1|exact Z0S (by assumption) (by omega)|exact Z0Z (by assumption) (by omega)|(refine Z1v.2 ?_;first|omega|grind)|(apply Zov;first|omega|(simp only [List.length_append,List.length_cons,List.length_nil,List.length_take,List.length_drop,List.length_set,List.length_replicate];omega))|(simp only [Bool.and_eq_true,Bool.or_eq_true,decide_eq_true_eq,beq_iff_eq,bne_iff_ne,beq_self_eq_true,and_self,and_true,true_and,List.length_map,List.length_append,List.length_cons,List.length_nil,List.length_take,List.length_drop,List.length_set,List.length_replicate,Z0e,maxLen_eq]<;>omega)|(simp(disch:=omega) only [ZL,decide_eq_true_eq,bne_iff_ne,ne_eq];(repeat' split)<;>omega)|(simp [Z0H,Z4A];done)|grind|(simp only [Bool.and_eq_true,Bool.or_eq_true,decide_eq_true_eq,beq_iff_eq,bne_iff_ne,beq_self_eq_true,and_self,and_true,true_and,List.length_map,List.length_append,List.length_cons,List.length_nil,List.length_take,List.length_drop,List.length_set,List.length_replicate,Z0e,maxLen_eq]<;>grind)|grind [Zb8]
def ZBe:=Zfn.1
def ZLL:=Zfn.2.1
def Zzc:=Zfn.2.2.1
def ZLR:=Zfn.2.2.2.1
def ZKd:=Zfn.2.2.2.2.1
def ZJq:=Zfn.2.2.2.2.2.1
def ZGk:=Zfn.2.2.2.2.2.2.1
def ZCh:=Zfn.2.2.2.2.2.2.2
end Go.Proofs.YtjodhcdmhobmoaaGreatDoor
