/-
  A part of the proof.
-/
import Derived.Test.YtjodhcdmhobmoaaGreatDoorQ1d
set_option linter.unusedVariables false
set_option linter.unusedSimpArgs false
namespace Go.Proofs.YtjodhcdmhobmoaaGreatDoor
open Go Go.Proofs.YtjodhcdmhobmoaaGreatDoor.Le
set_option linter.defProp false
set_option maxRecDepth 100000
set_option maxHeartbeats 40000000
theorem ZjI:∀(k:Int) (p0:Zq) (p1:ZT) (p2:Int) (p3:Bool) (p4:Int),ZzM p0->0<=k->k<=500000->Z6M k p1->∃r,Z5d p0 p1 p2 p3 p4=some r/\Z6M (k+200) r.1:=by
 refine fun k p0 p1 p2 p3 p4 h0 h1 h2 h3=>Zl (fun(p:Z2j)=>match p with | .b0 a0 a1 _ _ _=>ZzM a0/\Z6M k a1 | .b1 _ _ _ a3 a4 a5 _=>ZzM a4/\Z6M (k+2*a3) a5/\0<=a3/\a3<=8 | .b2 _ _ _ a3 a4 a5 _=>ZzM a4/\Z6M (k+2*a3) a5/\0<=a3/\a3<8/\a3<(a4.ZOg.length:Int) | .b3 _ _ _ a3 a4 _=>ZzM a3/\Z6M (k+16) a4 | .b4 _ _ _ a3 a4 a5 _=>ZzM a4/\Z6M (k+2*a3+2) a5/\0<=a3/\a3<8 | .b5 _ _ _ a3 a4 a5 _ a7=>ZzM a4/\Z4s a7/\(Z6M (k+2*a3) a5/\0<=a3/\a3<8/\(a7.Side=0\/a7.Side=1)) | .b6 _ _ _ a3 _ a5 a6 a7 _=>ZzM a6/\Z6M (k+16+20*a5) a7/\0<=a5/\a5<=6/\a3<=6 | .b7 _ a1 _=>Z6M (k+150) a1 | .b8 _ _ _ a3 _ a5 a6 a7 _=>ZzM a6/\Z6M (k+16+20*a5) a7/\0<=a5/\a5<6/\a5<a3/\a3<=6 | .b9 _ _ _ a3 _=>Z6M (k+150) a3 | .b10 _ _ _ a3 _ a5 a6 a7 a8 a9 _=>ZzM a8/\(Z6M (k+16+20*a5) a9/\0<=a5/\a5<6/\a5<a3/\a3<=6/\(a6=0\/a6=1)/\a7.length<=300/\byL a7) | .b11 _ a1 _=>Z6M (k+150) a1 | .b12 _ a1 _=>Z6M (k+150) a1 | .b13 _ _ _ a3 _ a5 _ a7 _ a9 a10 a11 _=>a7.length<=4/\ZzM a10/\Z6M (k+16+20*a5+8+2*a9) a11/\0<=a5/\a5<6/\a5<a3/\a3<=6/\a7.length<=4/\0<=a9/\a9<=(a7.length:Int) | .b14 _ a1 a2 _=>Z6M (k+150+8*a1) a2/\0<=a1/\a1<=2 | .b15 _ _ _ a3 _ a5 _ a7 _ a9 a10 a11 _=>a7.length<=4/\ZzM a10/\Z6M (k+16+20*a5+8+2*a9) a11/\0<=a5/\a5<6/\a5<a3/\a3<=6/\a7.length<=4/\0<=a9/\a9<(a7.length:Int) | .b16 _ _ _ a3 _ a5 _ a7 _ a9 a10 a11 _=>a7.length<=4/\ZzM a10/\Z6M (k+16+20*a5+10+2*a9) a11/\0<=a5/\a5<6/\a5<a3/\a3<=6/\a7.length<=4/\0<=a9/\a9<(a7.length:Int) | .b17 _ _ _ a3 _ a5 a6 a7 _=>ZzM a6/\Z6M (k+16+20*a5+20) a7/\0<=a5/\a5<6/\a3<=6) (fun(p:Z2j)=>match p with | .b0 ..=>(5,0,0) | .b1 _ _ _ a3 _ _ _=>(4,(8 - a3).toNat,3) | .b2 _ _ _ a3 _ _ _=>(4,(8 - a3).toNat,2) | .b3 ..=>(3,0,0) | .b4 _ _ _ a3 _ _ _=>(4,(8 - a3).toNat,0) | .b5 _ _ _ a3 _ _ _ _=>(4,(8 - a3).toNat,1) | .b6 _ _ _ _ _ a5 _ _ _=>(2,(6 - a5).toNat,200) | .b8 _ _ _ _ _ a5 _ _ _=>(2,(6 - a5).toNat,199) | .b9 ..=>(1,1,0) | .b10 _ _ _ _ _ a5 _ _ _ _ _=>(2,(6 - a5).toNat,198) | .b13 _ _ _ _ _ a5 _ a7 _ a9 _ _ _=>(2,(6 - a5).toNat,(45+(10*((a7.length:Int) - a9))).toNat) | .b14 _ a1 _ _=>(0,(2 - a1).toNat,0) | .b15 _ _ _ _ _ a5 _ a7 _ a9 _ _ _=>(2,(6 - a5).toNat,(44+(10*((a7.length:Int) - a9))).toNat) | .b16 _ _ _ _ _ a5 _ a7 _ a9 _ _ _=>(2,(6 - a5).toNat,(43+(10*((a7.length:Int) - a9))).toNat) | .b17 _ _ _ _ _ a5 _ _ _=>(2,(6 - a5).toNat,1)|_=>(1,0,0)) ?_ _ ?_
 all_goals try (intro p hp;cases p)
 case' b5 a0 a1 a2 a3 a4 a5 a6 a7=>
  have c0:=ZEZ (k+2*a3)
 case' b8 a0 a1 a2 a3 a4 a5 a6 a7 a8=>
  have c0:=ZIE (k+(16+20*a5))
 case' b10 a0 a1 a2 a3 a4 a5 a6 a7 a8 a9 a10=>
  have c0:=Zw7 (k+(16+20*a5))
 case' b14 a0 a1 a2 a3=>
  have c0:=Zpq (k+(150+8*a1))
 case' b15 a0 a1 a2 a3 a4 a5 a6 a7 a8 a9 a10 a11 a12=>
  have c0:=ZEZ (k+(16+20*a5+8+2*a9))
 all_goals
  try dsimp only at hp
  try exact False.elim hp
  try have hx:=hp
  try dsimp only [Z0z,Z16,Z0l,Z6M,Z2c,Zg5,Z4s,Z3m] at hx
  try (repeat with_reducible (have hq:=And.left hp;replace hp:=And.right hp))
  try simp only [Z56]
  try dsimp only
  repeat' first|(refine Z0n ?_;dsimp only;try simp(disch:=omega) only [ZL,List.length_append,List.length_cons,List.length_nil,List.length_take,List.length_drop,List.length_set,List.length_replicate,List.nil_append,List.drop_zero])|(refine Z2a (fun h=>?_) (fun h=>?_)<;>(try simp only [decide_eq_true_eq,decide_eq_false_iff_not,Bool.not_eq_true',Bool.not_eq_false',Bool.not_eq_true,Bool.not_eq_false,beq_iff_eq,bne_iff_ne,beq_eq_false_iff_ne,bne_eq_false_iff_eq,ne_eq,reduceCtorEq,Bool.and_eq_true,Bool.or_eq_true,Classical.not_not] at h;try simp(disch:=omega) only [ZL] at h))|refine Z0s ?_ ?_|refine Z1o ?_|refine ZPJ ?_ fun v hv=>?_|refine Zi (ZoF (k+16) _ ?_ ?_ ?_) fun(v:Bool) hm hv=>?_|refine Zi (c0 _ _ _ ?_ ?_ ?_ ?_) fun(v:(Z9×Int)) hm hv=>?_|refine Zi (c0 _ ?_ ?_ ?_) fun(v:(Z9×(List Int))) hm hv=>?_|refine Zi (c0 _ _ _ _ ?_ ?_ ?_ ?_ ?_) fun(v:(Z9×(List Z5)×Bool)) hm hv=>?_|refine ZFg ?_ fun v hv=>?_|refine Zi (c0 _ _ ?_ ?_ ?_) fun(v:(Z9×(List Z5))) hm hv=>?_|with_reducible apply And.intro|rfl|assumption|exact True.intro|omega|exact decide_eq_true (Z1T _).1|exact Z0S (by assumption) (by omega)|exact Z0Z (by assumption) (by omega)|(refine Z1v.2 ?_;first|omega|grind)|(apply Zov;first|omega|(simp only [List.length_append,List.length_cons,List.length_nil,List.length_take,List.length_drop,List.length_set,List.length_replicate];omega))|(simp only [Bool.and_eq_true,Bool.or_eq_true,decide_eq_true_eq,beq_iff_eq,bne_iff_ne,beq_self_eq_true,and_self,and_true,true_and,List.length_map,List.length_append,List.length_cons,List.length_nil,List.length_take,List.length_drop,List.length_set,List.length_replicate,Z0e,maxLen_eq]<;>omega)|(simp(disch:=omega) only [ZL,decide_eq_true_eq,bne_iff_ne,ne_eq];(repeat' split)<;>omega)|(simp [Z0H,Z4A];done)|grind|(simp only [Bool.and_eq_true,Bool.or_eq_true,decide_eq_true_eq,beq_iff_eq,bne_iff_ne,beq_self_eq_true,and_self,and_true,true_and,List.length_map,List.length_append,List.length_cons,List.length_nil,List.length_take,List.length_drop,List.length_set,List.length_replicate,Z0e,maxLen_eq]<;>grind)|grind [Zb8]
theorem ZnA:∀(p0:Z01),Z3m p0->∃r,Z7G p0=some r/\Z0z 20000 r.1:=by
 refine fun p0 h0=>Zl (fun(p:Z3f)=>match p with | .b0 a0=>Z3m a0 | .b1 a0=>Z0z 0 a0 | .b2 a0 a1=>Z3m a0/\Z0z 0 a1/\a0.Events.length<=60/\Zb8 a0.Z1z | .b3 a0 a1 a2 a3=>Z3m a1/\Z0z 0 a2/\Z6M 0 a3/\0<=a0/\a0<=2/\a1.Events.length<=60/\Zb8 a1.Z1z | .b4 _ a1 a2 a3 a4=>Z3m a2/\Z0z 0 a3/\Z6M (200*a1) a4/\0<=a1/\a1<=(a2.Events.length:Int)/\a2.Events.length<=60/\Zb8 a2.Z1z) (fun(p:Z3f)=>match p with | .b0 ..=>(4,0,0) | .b1 ..=>(0,0,0) | .b2 ..=>(3,0,0) | .b3 a0 _ _ _=>(2,(2 - a0).toNat,0) | .b4 _ a1 a2 _ _=>(1,((a2.Events.length:Int) - a1).toNat,0)) ?_ _ ?_
 all_goals try (intro p hp;cases p)
 case' b4 a0 a1 a2 a3 a4=>
  have c0:=ZjI (200*a1)
 all_goals
  try dsimp only at hp
  try exact False.elim hp
  try have hx:=hp
  try dsimp only [Z0z,Z16,Z0l,Z6M,Z2c,Zg5,Z4s,Z3m] at hx
  try (repeat with_reducible (have hq:=And.left hp;replace hp:=And.right hp))
  try simp only [Z7L]
  try dsimp only
  repeat' first|(refine Z0n ?_;dsimp only;try simp(disch:=omega) only [ZL,List.length_append,List.length_cons,List.length_nil,List.length_take,List.length_drop,List.length_set,List.length_replicate,List.nil_append,List.drop_zero])|(refine Z2a (fun h=>?_) (fun h=>?_)<;>(try simp only [decide_eq_true_eq,decide_eq_false_iff_not,Bool.not_eq_true',Bool.not_eq_false',Bool.not_eq_true,Bool.not_eq_false,beq_iff_eq,bne_iff_ne,beq_eq_false_iff_ne,bne_eq_false_iff_eq,ne_eq,reduceCtorEq,Bool.and_eq_true,Bool.or_eq_true,Classical.not_not] at h;try simp(disch:=omega) only [ZL] at h))|refine Z0s ?_ ?_|refine Z1o ?_|refine Zi (ZMt _ _ _ _ _ _ ?_ ?_ ?_) fun(v:(Z9×Int)) hm hv=>?_|refine Zi (c0 _ _ _ _ _ ?_ ?_ ?_ ?_) fun(v:(ZT×Int)) hm hv=>?_|refine ZMN ?_ fun v hv=>?_|with_reducible apply And.intro|rfl|assumption|exact True.intro|omega|exact decide_eq_true (Z1T _).1|exact Z0S (by assumption) (by omega)|exact Z0Z (by assumption) (by omega)|(refine Z1v.2 ?_;first|omega|grind)|(apply Zov;first|omega|(simp only [List.length_append,List.length_cons,List.length_nil,List.length_take,List.length_drop,List.length_set,List.length_replicate];omega))|(simp only [Bool.and_eq_true,Bool.or_eq_true,decide_eq_true_eq,beq_iff_eq,bne_iff_ne,beq_self_eq_true,and_self,and_true,true_and,List.length_map,List.length_append,List.length_cons,List.length_nil,List.length_take,List.length_drop,List.length_set,List.length_replicate,Z0e,maxLen_eq]<;>omega)|(simp(disch:=omega) only [ZL,decide_eq_true_eq,bne_iff_ne,ne_eq];(repeat' split)<;>omega)|(simp [Z0H,Z4A];done)|grind|(simp only [Bool.and_eq_true,Bool.or_eq_true,decide_eq_true_eq,beq_iff_eq,bne_iff_ne,beq_self_eq_true,and_self,and_true,true_and,List.length_map,List.length_append,List.length_cons,List.length_nil,List.length_take,List.length_drop,List.length_set,List.length_replicate,Z0e,maxLen_eq]<;>grind)|grind [Zb8]
theorem Zcg {a:Int} (h : -9223372036854775808<=a) (h' : a<=9223372036854775807):w64 a=a:=by
 simp only [w64,IntKind.wrap,IntKind.signed,IntKind.bits]
 simp
 omega
theorem ZDp (n:Int):IntKind.wrap .u16 n=n % 65536:=by simp [IntKind.wrap,IntKind.bits,IntKind.signed]
theorem fe {P R:Type} {T:P->Tr U (R⊕P)} {p:P} {o:Option R} (h:(T p).den (ZC (ZO T))=o):ZO T p=o:=(ZV T p).trans h
theorem Z42 {n:Nat}:(n==n)=true:=beq_self_eq_true n
def r16 (n:Int):Prop:=0<=n/\n<65536
theorem Zse (l:Zk) (b:Bool):Z4v l b=Z8u l b:=by
 refine(fe ?_).trans (fe rfl).symm
 simp only [Z6J,Zbi,Tr.den,ZC]
 cases l.Full<;>cases b<;>cases decide (l.Z3y>=l.Z0o)<;>rfl
theorem Zs3 (l:Zk):Zb4 l=Z8y l:=by
 refine(fe ?_).trans (fe rfl).symm
 simp only [ZaT,Zce,Tr.den,ZC,Zse]
theorem ZnP (l:Zk) (b:Bool):Z7A l b=Z75 l b:=by
 refine(fe ?_).trans (fe rfl).symm
 obtain⟨x,y,z⟩:=l
 cases z<;>cases b<;>rfl
theorem Zvg (n:Int):ZcF n=ZbZ n:=by
 refine(fe ?_).trans (fe rfl).symm
 simp only [ZcM,Zke,Tr.den,ZC]
 congr 2
 split<;>split<;>split<;>first|rfl|omega|(split<;>first|rfl|omega)
theorem ZvR (l:Zk) (n:Int):ZcD l n=ZeA l n:=by
 refine(fe ?_).trans (fe rfl).symm
 simp only [ZcJ,Ze8,Tr.den,ZC,Zvg]
theorem Zn9 (a n:Int) (h:r16 a):Z2k a n=ZdY a n:=by
 refine(fe ?_).trans (fe rfl).symm
 simp only [Zau,Zjx,Tr.den,ZC]
 obtain⟨h1,h2⟩:=h
 have h3:=Int.tmod_lt_of_pos n (show (0:Int)<65536 by decide)
 have h4:=Int.lt_tmod_of_pos n (show (0:Int)<65536 by decide)
 have h5:(Int.tmod n 65536) % 65536=n % 65536:=by
  have:=Int.tmod_add_mul_tdiv n 65536
  omega
 rw [Zcg (a:=a) (by omega) (by omega),Zcg (a:=a+Int.tmod n 65536) (by omega) (by omega),Zcg (by omega) (by omega),Int.tmod_eq_emod_of_nonneg (by omega)]
 simp only [ZDp]
 congr 1
 omega
theorem Zwi (a b:Int) (ha:r16 a) (hb:r16 b):Z8j a b=ZfZ a b:=by
 obtain⟨h1,h2⟩:=ha
 obtain⟨h3,h4⟩:=hb
 have hw:∀n:Int,IntKind.wrap .i16 n=(n+32768) % 65536 - 32768:=fun n=>by simp [IntKind.wrap,IntKind.bits,IntKind.signed];omega
 refine(fe ?_).trans (fe rfl).symm
 have b1:∀n:Int,-100000<=n->n<=100000->ZO Z8w (.b1 n)=some (if n>32767 then n - 65536 else n):=fun n hn hn' =>fe (by
  simp only [Z8w,Tr.den,ZC]
  by_cases h:n>32767
  ·rw [decide_eq_true h,if_pos h,Zcg (by omega) (by omega)];rfl
  ·rw [decide_eq_false h,if_neg h];rfl)
 simp only [Zdi,Z8w,Tr.den,ZC]
 rw [Zcg (a:=a) (by omega) (by omega),Zcg (a:=b) (by omega) (by omega),Zcg (a:=b - a) (by omega) (by omega),hw,ZDp,Zcg (by omega) (by omega)]
 by_cases h:b - a < -32768
 ·rw [decide_eq_true h,Zcg (by omega) (by omega)]
  simp only [cond_true]
  rw [b1 _ (by omega) (by omega)]
  congr 1
  split<;>omega
 ·rw [decide_eq_false h]
  simp only [cond_false]
  rw [b1 _ (by omega) (by omega)]
  congr 1
  split<;>omega
theorem Zeu (a b:Int) (ha:r16 a) (hb:r16 b):Z1h a b=Z4Z a b:=by
 refine(fe ?_).trans (fe rfl).symm
 simp only [Z5B,ZaB,Tr.den,ZC,Zwi b a hb ha]
theorem ZsA (a:Int) (h:r16 a):Z6K a 0=Zbj a 0:=by
 refine(fe ?_).trans (fe rfl).symm
 simp only [Z6P,ZfW,Tr.den,ZC]
 rw [Zn9 _ _ h]
 rfl
theorem Zqt (a:Int) (c:Z8) (h:r16 a) (hc:r16 c.ZQ):Z5r a c=Z9M a c:=by
 have hb:ZO Z1D (.b1 a c)=ZO Z6w (.b1 a c):=by
  refine(fe ?_).trans (fe rfl).symm
  simp only [Z1D,Z6w,Tr.den,ZC,Zeu _ _ h hc]
 refine(fe ?_).trans (fe rfl).symm
 simp only [Z1D,Z6w,Tr.den,ZC,hb]
theorem Zvv (l:List Z8) (h:l.length<=1000000):Z0D l=some ⟨l⟩:=if_pos ⟨by rw [show lim=140737488355328 from rfl];omega,by rw [show maxLen=9223372036854775807 from rfl];omega⟩
theorem ZO5 (l:List Z4) (h:l.length<=1000000):Z0O l=some ⟨l⟩:=if_pos ⟨by rw [show lim=140737488355328 from rfl];omega,by rw [show maxLen=9223372036854775807 from rfl];omega⟩
theorem ZJ0 {n k:Nat} (h:n<=2000000) (hk:k<=1000):(decide (n*k<=lim)&&decide (n<=maxLen))=true:=by
 rw [show lim=140737488355328 from rfl,show maxLen=9223372036854775807 from rfl]
 have:n*k<=2000000*1000:=Nat.mul_le_mul h hk
 rw [decide_eq_true (by omega),decide_eq_true (by omega)]
 rfl
theorem Zui (l:List Z8) (a:Int) (c:Z8) (hl:l.length<=1) (h:r16 a) (hc:r16 c.ZQ):Z8d l a c=Zbr l a c:=by
 refine(fe ?_).trans (fe rfl).symm
 simp only [Z8p,Zj2,Tr.den,ZC,Zqt a c h hc,Zvv l (by omega),Z42,cond_true,List.nil_append,Option.bind_some,List.length_nil,Nat.zero_add]
 rw [ZJ0 (by omega) (by decide)]
 cases Z9M a c with
 | none=>rfl
 | some e=>
  simp only [Option.bind_some,cond_true]
  cases hq:(e != 0) with
  | true=>rfl
  | false=>
   simp only [cond_false]
   cases l with
   | nil=>rfl
   | cons x xs=>
    rw [decide_eq_true (show ((x::xs).length:Int)>0 by rw [List.length_cons];omega)]
    rfl
theorem ZyY (k:Int):Z33 k=Z2y k:=by
 refine(fe ?_).trans (fe rfl).symm
 rfl
theorem ZoQ (k:Int):Z2y k=some (k==0||k==1):=fe (by
 simp only [Zdc,Tr.den,ZC]
 cases k==0<;>rfl)
theorem Zyp (c:Z4):Z7m c=some ⟨c.Kind,c.ZQ,c.Zt,c.Map⟩:=fe rfl
theorem ZOy (k s n:Int) (h : -1<=k):Z4F k s n=Z8z k s n:=by
 refine(fe ?_).trans (fe rfl).symm
 simp only [Z7B,Zba,Tr.den,ZC,ZyY]
 have hk:(k != -1)=decide (k>=0):=by
  by_cases hk:k = -1
  ·subst hk;rfl
  ·rw [decide_eq_true (by omega),bne_iff_ne.2 hk]
 rw [hk]
theorem ZLP (s:Z7) (n:Int) (h1 : -1<=s.Own) (h2 : -1<=s.Other):Z4I s n=Z5q s n:=by
 refine(fe ?_).trans (fe rfl).symm
 simp only [Z4O,Z54,Tr.den,ZC,ZOy _ _ _ h1,ZOy _ _ _ h2]
theorem ZLX (u:ZM):Z1X u=Z35 u:=by
 have hl:∀a b c:Int,Z2T a b c=some (if c<(if b>a then b else a) then c else (if b>a then b else a)):=fun a b c=>fe rfl
 refine(fe ?_).trans (fe rfl).symm
 have h2:Z62 u=some ⟨if 8<(if 1>u.Z1E then 1 else u.Z1E) then 8 else (if 1>u.Z1E then 1 else u.Z1E),if 3200<(if 0>u.Z0r then 0 else u.Z0r) then 3200 else (if 0>u.Z0r then 0 else u.Z0r),if 3200<(if 6>u.Z0j then 6 else u.Z0j) then 3200 else (if 6>u.Z0j then 6 else u.Z0j),u.Z0o,if 3200<(if 10>u.Z1g then 10 else u.Z1g) then 3200 else (if 10>u.Z1g then 10 else u.Z1g)⟩:=fe (by
  simp only [Z6j,Tr.den,ZC,hl,Option.bind_some])
 have h3:Z2r u.Z1g 10 3200=some (if 3200<(if 10>u.Z1g then 10 else u.Z1g) then 3200 else (if 10>u.Z1g then 10 else u.Z1g)):=fe (by
  simp only [Z8a,Tr.den,ZC]
  congr 1
  split<;>split<;>split<;>first|rfl|omega|(split<;>first|rfl|omega))
 simp only [Z6D,Z51,Tr.den,ZC,h2,h3,Option.bind_some]
theorem e_can (s:Z7) (c:Z4):Zet s c=some (!(c.Kind==0||c.Kind==1)||((s.Zo.length:Int)==0)):=fe (by
 simp only [Zjg,Tr.den,ZC,ZoQ,Option.bind_some]
 cases (c.Kind==0||c.Kind==1)<;>rfl)
def psd (a b:Int):Bool:=decide (w64 (IntKind.wrap .i16 (IntKind.wrap .u16 (a - b)))>=0)
theorem Z9F (a b:Int):Z1h a b=some (psd a b):=fe (by
 have h:Z8j b a=some (w64 (IntKind.wrap .i16 (IntKind.wrap .u16 (a - b)))):=fe rfl
 simp only [Z5B,Tr.den,ZC,h,Option.bind_some]
 rfl)
theorem ZzG (a b:Int) (ha:r16 a) (hb:r16 b):Z4Z a b=some (psd a b):=(Zeu a b ha hb).symm.trans (Z9F a b)
def Zik (a:Int):Int:=IntKind.wrap .u16 (a+IntKind.wrap .u16 6)
theorem ZgN (a:Int):Z6K a 0=some (Zik a):=fe (by
 have h:∀a n,Z2k a n=some (IntKind.wrap .u16 (a+IntKind.wrap .u16 n)):=fun a n=>fe rfl
 simp only [Z6P,Tr.den,ZC,h,Option.bind_some]
 rfl)
theorem ZH0 (a:Int) (h:r16 a):Zbj a 0=some (Zik a):=(ZsA a h).symm.trans (ZgN a)
theorem ZQp (a:Int):r16 (Zik a):=by unfold Zik r16;rw [ZDp];omega
def ZCW (a:Int) (c:Z8):Int:=bif c.Kind != 0&&c.Kind != 1 then 12 else bif psd a c.ZQ then 18 else 0
theorem Zpo (a:Int) (c:Z8):Z5r a c=some (ZCW a c):=by
 have hb:ZO Z1D (.b1 a c)=some (bif psd a c.ZQ then 18 else 0):=fe (by
  simp only [Z1D,Tr.den,ZC,Z9F,Option.bind_some]
  cases psd a c.ZQ<;>rfl)
 refine fe ?_
 simp only [Z1D,Tr.den,ZC,hb]
 unfold ZCW
 cases c.Kind != 0<;>cases c.Kind != 1<;>rfl
def ZnD (l:List Z8) (a:Int) (c:Z8):List Z8×Int:=bif ZCW a c != 0 then (l,ZCW a c) else if l.length=0 then ([c],0) else (l,20)
theorem ZiZ (l:List Z8) (a:Int) (c:Z8) (hl:l.length<=1):Z8d l a c=some (ZnD l a c):=fe (by
 simp only [Z8p,Tr.den,ZC,Zpo,Zvv l (by omega),Z42,cond_true,Option.bind_some]
 unfold ZnD
 cases ZCW a c != 0 with
 | true=>rfl
 | false=>
  cases l with
  | nil=>rfl
  | cons x xs=>
   rw [decide_eq_true (show ((x::xs).length:Int)>0 by rw [List.length_cons];omega),if_neg (by rw [List.length_cons];omega)]
   rfl)
theorem ZJC (l:List Z8) (a:Int) (c:Z8) (hl:l.length<=1) (h:r16 a) (hc:r16 c.ZQ):Zbr l a c=some (ZnD l a c):=(Zui l a c hl h hc).symm.trans (ZiZ l a c hl)
theorem ZLI (l:List Z8) (a:Int) (c:Z8) (hl:l.length<=1):(ZnD l a c).1.length<=1:=by
 unfold ZnD
 cases ZCW a c != 0 with
 | true=>exact hl
 | false=>
  simp only [cond_false]
  split
  ·exact Nat.le_refl _
  ·exact hl
def chg (c:Z4):Z8:=⟨c.Kind,c.ZQ,c.Zt,c.Map⟩
def bg0 (s:Z7) (c:Z4) (now:Int):Z7:={ s with Own:=c.Kind,Since:=now }
def bg1 (s:Z7) (c:Z4) (ev now:Int):Z7:={ bg0 s c now with Zo:=(ZnD s.Zo ev (chg { c with ZQ:=Zik ev })).1,Told:=false }
def ZdS (s:Z7) (c:Z4) (ev now:Int):Z7×Z4:=
 if c.Kind=0 then (if s.Other=15 then { bg1 s c ev now with Other:=-1 } else bg1 s c ev now,{ c with ZQ:=Zik ev })
 else if c.Kind=1 then (bg1 s c ev now,{ c with ZQ:=Zik ev })
 else if c.Kind=3 then ({ bg0 s c now with Z5R:=c.Z5R,Mark:=c.Mark,Z29:=1 },c)
 else if c.Kind=12 then ({ bg0 s c now with Z0q:=true },c)
 else if c.Kind=20 then ({ bg0 s c now with Limit:=c.Length },c)
 else (bg0 s c now,c)
theorem ZDP (s:Z7) (c:Z4) (ev now:Int) (hP:s.Zo.length<=1) (he:r16 ev):Z92 s c ev now=some (ZdS s c ev now):=by
 have b4:∀s c z w,ZO Z1K (.b4 s c z w)=some (s,c):=fun s c z w=>fe rfl
 have b5:∀s c z w,ZO Z1K (.b5 s c z w)=some ({ s with Other:=-1 },c):=fun s c z w=>fe (by simp only [Z1K,Tr.den,ZC,b4])
 have b1:∀z w,(c.Kind=0\/c.Kind=1)->ZO Z1K (.b1 ev (bg0 s c now) c z w)=some (ZdS s c ev now):=fun z w hk=>fe (by
  simp only [Z1K,Tr.den,ZC,ZH0 ev he,Option.bind_some,Zyp]
  rw [ZJC (bg0 s c now).Zo ev _ hP he (ZQp ev),Option.bind_some]
  have e:∀s' : Z7,s' = bg1 s c ev now->ZO Z1K (.b3 s' { c with ZQ:=Zik ev } z w)=some (ZdS s c ev now):=fun s' hs=>fe (by
   simp only [Z1K,Tr.den,ZC,b4,b5]
   subst hs
   unfold ZdS
   rcases hk with hk|hk
   ·rw [if_pos hk,show (c.Kind==0)=true from beq_iff_eq.2 hk]
    simp only [cond_true]
    by_cases ho:s.Other=15
    ·rw [if_pos ho,show ((bg1 s c ev now).Other==15)=true from beq_iff_eq.2 ho];rfl
    ·rw [if_neg ho,show ((bg1 s c ev now).Other==15)=false from beq_eq_false_iff_ne.2 ho];rfl
   ·rw [if_neg (by omega),if_pos hk,show (c.Kind==0)=false from beq_eq_false_iff_ne.2 (by omega)];rfl)
  by_cases hq:(ZnD (bg0 s c now).Zo ev ⟨c.Kind,Zik ev,c.Zt,c.Map⟩).2=0
  ·rw [show ((ZnD (bg0 s c now).Zo ev ⟨c.Kind,Zik ev,c.Zt,c.Map⟩).2==0)=true from beq_iff_eq.2 hq]
   refine fe ?_
   have:=e _ rfl
   rw [ZV] at this
   exact this
  ·rw [show ((ZnD (bg0 s c now).Zo ev ⟨c.Kind,Zik ev,c.Zt,c.Map⟩).2==0)=false from beq_eq_false_iff_ne.2 hq]
   have hk2:(ZnD s.Zo ev (chg { c with ZQ:=Zik ev })).1=s.Zo:=by
    revert hq
    show (ZnD s.Zo ev (chg { c with ZQ:=Zik ev })).2≠0->_
    unfold ZnD
    cases ZCW ev (chg { c with ZQ:=Zik ev }) != 0 with
    | true=>intro _;rfl
    | false=>
     simp only [cond_false]
     split
     ·intro h;exact absurd rfl h
     ·intro _;rfl
   have:=e { bg0 s c now with Told:=false } (by unfold bg1;rw [hk2];rfl)
   refine fe ?_
   rw [ZV] at this
   exact this)
 refine fe ?_
 simp only [Z1K,Tr.den,ZC]
 by_cases h0:c.Kind=0
 ·rw [show (c.Kind==0)=true from beq_iff_eq.2 h0]
  exact b1 _ _ (.inl h0)
 ·rw [show (c.Kind==0)=false from beq_eq_false_iff_ne.2 h0]
  by_cases h1:c.Kind=1
  ·rw [show (c.Kind==1)=true from beq_iff_eq.2 h1]
   exact b1 _ _ (.inr h1)
  ·rw [show (c.Kind==1)=false from beq_eq_false_iff_ne.2 h1]
   simp only [cond_false]
   refine fe ?_
   unfold ZdS
   rw [if_neg h0,if_neg h1]
   simp only [Z1K,Tr.den,ZC,b4]
   by_cases h3:c.Kind=3
   ·rw [if_pos h3,show (c.Kind==3)=true from beq_iff_eq.2 h3];rfl
   ·rw [if_neg h3,show (c.Kind==3)=false from beq_eq_false_iff_ne.2 h3]
    by_cases h4:c.Kind=12
    ·rw [if_pos h4,show (c.Kind==12)=true from beq_iff_eq.2 h4];rfl
    ·rw [if_neg h4,show (c.Kind==12)=false from beq_eq_false_iff_ne.2 h4]
     by_cases h5:c.Kind=20
     ·rw [if_pos h5,show (c.Kind==20)=true from beq_iff_eq.2 h5];rfl
     ·rw [if_neg h5,show (c.Kind==20)=false from beq_eq_false_iff_ne.2 h5];rfl
theorem ZQj (c:Z4) (y:Zm) (h:y.f_out.length<=1000):Z3w c y=some ⟨{ y with f_out:=y.f_out++[c] }⟩:=fe (by
 simp only [Z3z,Tr.den,ZC,Z42,Bool.and_self,cond_true]
 rw [ZJ0 (by simp only [List.length_cons,List.length_nil];omega) (by decide)]
 rfl)
theorem ZPH (c:Z4) (y:Zm) (hP:y.Ze.Zo.length<=1) (h:y.f_out.length<=1000) :
  Z2V c y=some ⟨{ y with Ze:=(ZdS y.Ze c y.Z2B y.Z6c).1,f_out:=y.f_out++[(ZdS y.Ze c y.Z2B y.Z6c).2] }⟩:=by
 have b4:∀(x:Zm) (c:Z4),x.f_out.length<=1000->ZO Z04 (.b4 x c)=some ⟨{ x with f_out:=x.f_out++[c] }⟩:=fun x c hx=>fe (by
  simp only [Z04,Tr.den,ZC,Z42,Bool.and_self,cond_true,ZQj c x hx,Option.bind_some])
 have b3:∀(x:Zm) (c:Z4),x.f_out.length<=1000->ZO Z04 (.b3 x c)=some ⟨{ x with Ze:={ x.Ze with Other:=-1 },f_out:=x.f_out++[c] }⟩:=fun x c hx=>fe (by
  simp only [Z04,Tr.den,ZC,Z42,Bool.and_self,cond_true]
  refine b4 _ _ ?_
  exact hx)
 have b1:(c.Kind=0\/c.Kind=1)->ZO Z04 (.b1 { y with Ze:=bg0 y.Ze c y.Z6c } c)=some ⟨{ y with Ze:=(ZdS y.Ze c y.Z2B y.Z6c).1,f_out:=y.f_out++[(ZdS y.Ze c y.Z2B y.Z6c).2] }⟩:=fun hk=>fe (by
  have hc:∀c,Z5v c=some (chg c):=fun c=>fe rfl
  simp only [Z04,Tr.den,ZC,ZgN,Option.bind_some,hc,Z42,Bool.and_self,cond_true]
  rw [ZiZ (bg0 y.Ze c y.Z6c).Zo _ _ hP,Option.bind_some]
  unfold ZdS
  rcases hk with hk|hk
  ·rw [if_pos hk,show (c.Kind==0)=true from beq_iff_eq.2 hk]
   simp only [cond_true]
   by_cases ho:y.Ze.Other=15
   ·rw [if_pos ho,show ((bg0 y.Ze c y.Z6c).Other==15)=true from beq_iff_eq.2 ho]
    refine b3 _ _ ?_
    exact h
   ·rw [if_neg ho,show ((bg0 y.Ze c y.Z6c).Other==15)=false from beq_eq_false_iff_ne.2 ho]
    refine b4 _ _ ?_
    exact h
  ·rw [if_neg (by omega),if_pos hk,show (c.Kind==0)=false from beq_eq_false_iff_ne.2 (by omega)]
   refine b4 _ _ ?_
   exact h)
 refine fe ?_
 simp only [Z04,Tr.den,ZC,Z42,Bool.and_self,cond_true]
 by_cases h0:c.Kind=0
 ·rw [show (c.Kind==0)=true from beq_iff_eq.2 h0]
  exact b1 (.inl h0)
 ·rw [show (c.Kind==0)=false from beq_eq_false_iff_ne.2 h0]
  by_cases h1:c.Kind=1
  ·rw [show (c.Kind==1)=true from beq_iff_eq.2 h1]
   exact b1 (.inr h1)
  ·rw [show (c.Kind==1)=false from beq_eq_false_iff_ne.2 h1]
   simp only [cond_false]
   refine fe ?_
   unfold ZdS
   rw [if_neg h0,if_neg h1]
   simp only [Z04,Tr.den,ZC,Z42,Bool.and_self,cond_true]
   by_cases h3:c.Kind=3
   ·rw [if_pos h3,show (c.Kind==3)=true from beq_iff_eq.2 h3];exact b4 _ _ (by exact h)
   ·rw [if_neg h3,show (c.Kind==3)=false from beq_eq_false_iff_ne.2 h3]
    by_cases h4:c.Kind=12
    ·rw [if_pos h4,show (c.Kind==12)=true from beq_iff_eq.2 h4];exact b4 _ _ (by exact h)
    ·rw [if_neg h4,show (c.Kind==12)=false from beq_eq_false_iff_ne.2 h4]
     by_cases h5:c.Kind=20
     ·rw [if_pos h5,show (c.Kind==20)=true from beq_iff_eq.2 h5];exact b4 _ _ (by exact h)
     ·rw [if_neg h5,show (c.Kind==20)=false from beq_eq_false_iff_ne.2 h5];exact b4 _ _ (by exact h)
theorem Zjv (s:Z7) (c:Z4) (ev now:Int) (hP:s.Zo.length<=1):(ZdS s c ev now).1.Zo.length<=1/\(ZdS s c ev now).1.Zf=s.Zf/\(ZdS s c ev now).1.Own=c.Kind/\((ZdS s c ev now).1.Other=s.Other\/(ZdS s c ev now).1.Other = -1):=by
 have h1:=ZLI s.Zo ev (chg { c with ZQ:=Zik ev }) hP
 unfold ZdS
 split
 ·split
  ·exact⟨h1,rfl,rfl,.inr rfl⟩
  ·exact⟨h1,rfl,rfl,.inl rfl⟩
 ·split
  ·exact⟨h1,rfl,rfl,.inl rfl⟩
  ·split
   ·exact⟨hP,rfl,rfl,.inl rfl⟩
   ·split
    ·exact⟨hP,rfl,rfl,.inl rfl⟩
    ·split
     ·exact⟨hP,rfl,rfl,.inl rfl⟩
     ·exact⟨hP,rfl,rfl,.inl rfl⟩
end Go.Proofs.YtjodhcdmhobmoaaGreatDoor
