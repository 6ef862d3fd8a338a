/-
  A part of the proof.
-/
import Derived.Test.YtjodhcdmhobmoaaGreatDoorQ1
import Derived.Test.YtjodhcdmhobmoaaGreatDoorF3
set_option linter.unusedVariables false
set_option linter.unusedSimpArgs false
namespace Go.Proofs.YtjodhcdmhobmoaaGreatDoor
open Go Go.Proofs.YtjodhcdmhobmoaaGreatDoor.Le Go.Proofs.YtjodhcdmhobmoaaGreatDoor.Na
set_option maxRecDepth 100000
theorem ZOQ (n:Int):IntKind.u16.wrap n=n % 65536:=by simp [IntKind.wrap,IntKind.bits,IntKind.signed]
theorem wu32 (n:Int):IntKind.u32.wrap n=n % 4294967296:=by simp [IntKind.wrap,IntKind.bits,IntKind.signed]
theorem ZN6 (x a i:Nat) (hx:x<65536) (ha:a<65536) (hi:i<8):ZO Z32 (.b1 x a i)=ZO Z32 (.b1 x (a ||| ((x >>> i &&& 257) <<< (7 - i)):Nat) (i+1:Nat)):=by
 refine(ZV _ _).trans ?_
 simp only [Z32,Tr.den,ZC]
 have hs:(x >>> i &&& 257) <<< (7 - i)<65536:=by
  have h1:(x >>> i &&& 257)<=257:=Nat.and_le_right
  rw [Nat.shiftLeft_eq]
  have h2:2 ^ (7 - i)<=2 ^ 7:=Nat.pow_le_pow_right (by decide) (by omega)
  exact Nat.lt_of_le_of_lt (Nat.mul_le_mul h1 h2) (by decide)
 rw [show decide ((i:Int)<8)=true by simp;omega,Z3C (n:=7 - (i:Int)) (by omega) (by omega),show decide ((0:Int)<=(i:Int))=true by simp,show decide ((0:Int)<=7 - (i:Int))=true by simp;omega]
 simp only [cond_true]
 rw [Z3C (n:=(i:Int)+1) (by omega) (by omega),show (i:Int).toNat=i by omega,show (7 - (i:Int)).toNat=7 - i by omega,
  show min i IntKind.u16.bits=i from Nat.min_eq_left (by simp [IntKind.bits];omega),show min (7 - i) IntKind.u16.bits=7 - i from Nat.min_eq_left (by simp [IntKind.bits];omega),fd]
 rw [show (257:Int)=((257:Nat):Int) from rfl,u16_and_nat _ _ (Nat.lt_of_le_of_lt (Nat.div_le_self _ _) hx) (by decide),ZOQ]
 rw [show ((x / 2 ^ i &&& 257:Nat):Int)*2 ^ (7 - i)=(((x >>> i &&& 257) <<< (7 - i):Nat):Int) by rw [Nat.shiftLeft_eq,Nat.shiftRight_eq_div_pow];simp]
 have hm:(((x >>> i &&& 257) <<< (7 - i):Nat):Int) % 65536=(((x >>> i &&& 257) <<< (7 - i):Nat):Int):=Int.emod_eq_of_lt (Int.natCast_nonneg _) (Int.ofNat_lt.mpr hs)
 rw [hm,u16_or_nat _ _ ha hs]
 rfl
theorem ZQA {a b:Nat} (ha:a<65536) (hb:b<65536):a ||| b<65536:=Nat.or_lt_two_pow (n:=16) ha hb
theorem sh_lt (x i:Nat):(x >>> i &&& 257) <<< (7 - i)<65536:=by
 have h1:(x >>> i &&& 257)<=257:=Nat.and_le_right
 rw [Nat.shiftLeft_eq]
 have h2:2 ^ (7 - i)<=2 ^ 7:=Nat.pow_le_pow_right (by decide) (by omega)
 exact Nat.lt_of_le_of_lt (Nat.mul_le_mul h1 h2) (by decide)
def orR (x:Nat):Nat->Nat
 | 0=>0
 | i+1=>orR x i ||| ((x >>> i &&& 257) <<< (7 - i))
theorem ZRi (x i:Nat):orR x i<65536:=by
 induction i with
 | zero=>exact(by decide:(0:Nat)<65536)
 | succ i ih=>exact ZQA ih (sh_lt x i)
theorem ZNR (x:Nat) (hx:x<65536):∀j i:Nat,i+j=8->ZO Z32 (.b1 x (orR x i:Nat) i)=some ((orR x 8:Nat):Int):=by
 intro j
 induction j with
 | zero=>
  intro i hi
  refine(ZV _ _).trans ?_
  simp only [Z32,Tr.den,ZC]
  rw [show decide ((i:Int)<8)=false by simp;omega,show i=8 by omega]
  rfl
 | succ j ih=>
  intro i hi
  rw [ZN6 x _ i hx (ZRi x i) (by omega)]
  exact ih (i+1) (by omega)
theorem ZPh (x:Nat):orR x 8=rot x:=by
 simp only [orR,rot,Nat.zero_or]
theorem Zv8 (x:Nat) (hx:x<65536):ZcG (x:Int)=some ((rot x:Nat):Int):=(ZV _ _).trans (by
 rw [<- ZPh]
 exact ZNR x hx 8 0 (by omega))
theorem ZO1 (k:Nat):∀j i x r:Nat,i+j=8->x<256->r<2 ^ i->ZO Z3u (.b1 x r i)=some ((rv j x r:Nat):Int):=by
 intro j
 induction j with
 | zero=>
  intro i x r hi hx hr
  refine(ZV _ _).trans ?_
  simp only [Z3u,Tr.den,ZC]
  rw [show decide ((i:Int)<8)=false by simp;omega]
  rfl
 | succ j ih=>
  intro i x r hi hx hr
  have hr' : r<256:=Nat.lt_of_lt_of_le hr (Nat.le_trans (Nat.pow_le_pow_right (by decide) (show i<=8 by omega)) (by decide))
  refine(ZV _ _).trans ?_
  simp only [Z3u,Tr.den,ZC]
  rw [show decide ((i:Int)<8)=true by simp;omega]
  simp only [cond_true]
  rw [Int.tdiv_eq_ediv_of_nonneg (Int.natCast_nonneg _),Int.tmod_eq_emod_of_nonneg (Int.natCast_nonneg _)]
  rw [Z3C (n:=(x:Int) / 2) (by omega) (by omega),Z3C (n:=2*(r:Int)) (by omega) (by omega),Z3C (n:=2*(r:Int)+(x:Int) % 2) (by omega) (by omega),Z3C (n:=(i:Int)+1) (by omega) (by omega)]
  exact ih (i+1) (x / 2) (2*r+x % 2) (by omega) (by omega) (by rw [Nat.pow_succ];omega)
theorem ZgR (x:Nat) (hx:x<256):Z4B (x:Int)=some ((rv 8 x 0:Nat):Int):=(ZV _ _).trans (ZO1 0 8 0 x 0 (by omega) hx (by decide))
def rnd (c:Nat):Nat->Nat->Nat
 | 0,a=>a ^^^ c
 | k+1,a=>rnd c k ((17*rot a+c) % 65536)
theorem ZRD (c:Nat) (hc:c<65536):∀k a,a<65536->rnd c k a<65536:=by
 intro k
 induction k with
 | zero=>intro a ha;exact Nat.xor_lt_two_pow (n:=16) ha hc
 | succ k ih=>intro a ha;exact ih _ (Nat.mod_lt _ (by decide))
theorem ZNc (c:Nat) (hc:c<65536):∀j i a:Nat,i+j=3->a<65536->ZO Z4S (.b1 c a i)=some ((rnd c j a:Nat):Int):=by
 intro j
 induction j with
 | zero=>
  intro i a hi ha
  refine(ZV _ _).trans ?_
  simp only [Z4S,Tr.den,ZC]
  rw [show decide ((i:Int)<3)=false by simp;omega]
  simp only [cond_false]
  rw [u16_xor_nat _ _ ha hc]
  rfl
 | succ j ih=>
  intro i a hi ha
  refine(ZV _ _).trans ?_
  simp only [Z4S,Tr.den,ZC]
  rw [show decide ((i:Int)<3)=true by simp;omega,Zv8 a ha]
  simp only [cond_true,Option.bind_some]
  rw [ZOQ,ZOQ,Z3C (by omega) (by omega)]
  have hl:=ZOY a ha
  rw [show (((rot a:Nat):Int)*17 % 65536+(c:Int)) % 65536=(((17*rot a+c) % 65536:Nat):Int) by omega]
  exact ih (i+1) _ (by omega) (Nat.mod_lt _ (by decide))
theorem Zn2 (c d:Nat) (hc:c<65536) (hd:d<65536):Zav (c:Int) (d:Int)=some ((rnd d 3 (c ^^^ d):Nat):Int):=(ZV _ _).trans (by
 simp only [Z4S,Tr.den,ZC]
 rw [u16_xor_nat _ _ hc hd]
 exact ZNc d hd 3 0 _ (by omega) (Nat.xor_lt_two_pow (n:=16) hc hd))
theorem ZNT (c:Nat) (hc:c<65536):∀j i a:Nat,i+j=3->a<65536->ZO Z41 (.b1 c a i)=some ((rnd c j a:Nat):Int):=by
 intro j
 induction j with
 | zero=>
  intro i a hi ha
  refine(ZV _ _).trans ?_
  simp only [Z41,Tr.den,ZC]
  rw [show decide ((i:Int)<3)=false by simp;omega]
  simp only [cond_false]
  rw [u16_xor_nat _ _ ha hc]
  rfl
 | succ j ih=>
  intro i a hi ha
  refine(ZV _ _).trans ?_
  simp only [Z41,Tr.den,ZC]
  rw [show decide ((i:Int)<3)=true by simp;omega,Z3C (n:=(a:Int)) (by omega) (by omega),Z3C (n:=(c:Int)) (by omega) (by omega)]
  rw [Int.tdiv_eq_ediv_of_nonneg (Int.natCast_nonneg _),Int.tmod_eq_emod_of_nonneg (Int.natCast_nonneg _),Z3C (n:=(a:Int) / 256) (by omega) (by omega)]
  rw [show (a:Int) / 256=((a / 256:Nat):Int) by omega,show (a:Int) % 256=((a % 256:Nat):Int) by omega,ZgR _ (by omega),ZgR _ (by omega)]
  simp only [cond_true,Option.bind_some]
  have hl:=ZOY a ha
  have hb1:=(ZsY (a % 256) (Nat.mod_lt _ (by omega))).2.2
  have hb2:=(ZsY (a / 256) (by omega)).2.2
  have he:=ZOF a ha
  generalize rv 8 (a / 256) 0=h1 at *
  generalize rv 8 (a % 256) 0=h2 at *
  rw [Z3C (n:=256*(h1:Int)) (by omega) (by omega),Z3C (n:=256*(h1:Int)+(h2:Int)) (by omega) (by omega),Z3C (n:=17*(256*(h1:Int)+(h2:Int))) (by omega) (by omega),Z3C (n:=17*(256*(h1:Int)+(h2:Int))+c) (by omega) (by omega),Int.tmod_eq_emod_of_nonneg (by omega),ZOQ,Z3C (n:=(i:Int)+1) (by omega) (by omega)]
  rw [show (17*(256*(h1:Int)+(h2:Int))+c) % 65536 % 65536=(((17*rot a+c) % 65536:Nat):Int) by omega]
  exact ih (i+1) _ (by omega) (Nat.mod_lt _ (by decide))
theorem ZmW (c d:Nat) (hc:c<65536) (hd:d<65536):Z7i (c:Int) (d:Int)=some ((rnd d 3 (c ^^^ d):Nat):Int):=(ZV _ _).trans (by
 simp only [Z41,Tr.den,ZC]
 rw [u16_xor_nat _ _ hc hd]
 exact ZNT d hd 3 0 _ (by omega) (Nat.xor_lt_two_pow (n:=16) hc hd))
def ident (a:Nat):Nat:=(a / 65536) ^^^ (a % 65536)
theorem ZfP (a:Nat) (ha:a<4294967296):ident a<65536:=Nat.xor_lt_two_pow (n:=16) (by omega) (by omega)
theorem Zqw (a:Nat) (ha:a<4294967296):Zck (a:Int)=some ((ident a:Nat):Int):=(ZV _ _).trans (by
 simp only [ZiD,Tr.den,ZC]
 rw [fd,ZOQ,ZOQ,show ((a / 2 ^ 16:Nat):Int) % 65536=((a / 65536:Nat):Int) by omega,show (a:Int) % 65536=((a % 65536:Nat):Int) by omega,u16_xor_nat _ _ (by omega) (by omega)]
 rfl)
theorem Zrv (a:Nat) (ha:a<4294967296):Z9V (a:Int)=some ((ident a:Nat):Int):=(ZV _ _).trans (by
 simp only [ZcT,Tr.den,ZC]
 rw [Int.tdiv_eq_ediv_of_nonneg (Int.natCast_nonneg _),Int.tmod_eq_emod_of_nonneg (Int.natCast_nonneg _),ZOQ,ZOQ,wu32,show (a:Int) / 65536 % 4294967296 % 65536=((a / 65536:Nat):Int) by omega,show (a:Int) % 65536 % 65536=((a % 65536:Nat):Int) by omega,u16_xor_nat _ _ (by omega) (by omega)]
 rfl)
def draw (e a:Nat):Nat:=rnd (ident a) 3 (e ^^^ ident a)
theorem Zvl (e a:Nat) (he:e<65536) (ha:a<4294967296):draw e a<65536:=ZRD _ (ZfP a ha) 3 _ (Nat.xor_lt_two_pow (n:=16) he (ZfP a ha))
def mix (m:Int) (e a:Nat):Int:=if has m ((draw e a % 37:Nat):Int) then ((draw e a % 37:Nat):Int) else ZIW m (cnt m*(draw e a:Nat) / 65536)
theorem tm37 (n:Nat) (h:n<65536):Int.tmod (w64 (n:Int)) 37=((n % 37:Nat):Int):=by
 rw [Z3C (by omega) (by omega),Int.tmod_eq_emod_of_nonneg (Int.natCast_nonneg _)];omega
theorem ZRR (m:Int) (n:Nat) (h:n<65536):0<=cnt m*(n:Int)/\cnt m*(n:Int)<=2424832:=by
 have:=ZRs m
 refine⟨Int.mul_nonneg this.1 (by omega),?_⟩
 exact Int.le_trans (Int.mul_le_mul this.2 (show (n:Int)<=65536 by omega) (by omega) (by decide)) (by decide)
theorem ZKi (m e a:Nat) (hm:m<18446744073709551616) (he:e<65536) (ha:a<4294967296):ZoG (m:Int) (e:Int) (a:Int)=some (mix m e a):=(ZV _ _).trans (by
 simp only [Zrh,Tr.den,ZC,Zqw a ha,Option.bind_some,Zn2 e _ he (ZfP a ha),ZjO (m:Int) _ (Int.natCast_nonneg m),Zez m hm,ZkZ,mix]
 rw [show rnd (ident a) 3 (e ^^^ ident a)=draw e a from rfl]
 have hd:=Zvl e a he ha
 have hc:=ZRR m _ hd
 rw [tm37 _ hd,Z3C (n:=((draw e a:Nat):Int)) (by omega) (by omega),Z3C (by omega) (by omega),show ((2:Int) ^ 16)=65536 from rfl,Int.fdiv_eq_ediv_of_nonneg _ (by decide)]
 cases has (m:Int) ((draw e a % 37:Nat):Int)<;>rfl)
theorem ZKg (m e a:Nat) (hm:m<18446744073709551616) (he:e<65536) (ha:a<4294967296):ZjJ (m:Int) (e:Int) (a:Int)=some (mix m e a):=(ZV _ _).trans (by
 simp only [Zk0,Tr.den,ZC,Zrv a ha,Option.bind_some,ZmW e _ he (ZfP a ha),Zqq m hm,Zq2 m hm,ZwU m hm,mix]
 rw [show rnd (ident a) 3 (e ^^^ ident a)=draw e a from rfl]
 have hd:=Zvl e a he ha
 have hc:=ZRR m _ hd
 rw [tm37 _ hd,Z3C (n:=((draw e a:Nat):Int)) (by omega) (by omega),Z3C (n:=cnt (m:Int)*((draw e a:Nat):Int)) (by omega) (by omega),Int.tdiv_eq_ediv_of_nonneg hc.1,Z3C (by omega) (by omega)]
 cases has (m:Int) ((draw e a % 37:Nat):Int)<;>rfl)
def step (l h:Int):Int:=Int.tmod (w64 ((w64 ((Int.tmod l (37:Int))+(Int.tmod h (37:Int))))+(74:Int))) (37:Int)
theorem ZIQ (l h:Int):Zlj l h=some (step l h):=(ZV _ _).trans rfl
theorem ZIw (l h:Int):ZfR l h=some (step l h):=(ZV _ _).trans rfl
structure PWF (p:Zy):Prop where
 acc:0<=p.Z3W/\p.Z3W<4294967296
 map:0<=p.Map/\p.Map<18446744073709551616
def ZLD (p:Zy) (e:Nat) (l:Int):Int×Int:=
 if p.Z2K=2 then (mix p.Map e p.Z3W.toNat,((draw e p.Z3W.toNat % 37:Nat):Int)) else (ZJz p.Map (step l p.Hop),step l p.Hop)
theorem ZIg (p:Zy) (hp:PWF p) (e:Nat) (he:e<65536) (l:Int):Z8x p (e:Int) l=some (ZLD p e l):=(ZV _ _).trans (by
 obtain⟨a,ha⟩:∃a:Nat,p.Z3W=a:=⟨p.Z3W.toNat,by have:=hp.acc;omega⟩
 obtain⟨m,hm⟩:∃m:Nat,p.Map=m:=⟨p.Map.toNat,by have:=hp.map;omega⟩
 have h1:=hp.acc
 have h2:=hp.map
 simp only [ZmQ,Tr.den,ZC,ZLD,ha,hm,Int.toNat_natCast] at *
 rw [Zqw a (by omega)]
 simp only [Option.bind_some]
 rw [Zn2 e _ he (ZfP a (by omega)),ZKi m e a (by omega) he (by omega),ZIQ]
 simp only [Option.bind_some]
 rw [ZqN m (by omega)]
 rw [show rnd (ident a) 3 (e ^^^ ident a)=draw e a from rfl]
 have hd:=Zvl e a he (by omega)
 by_cases h:p.Z2K=2
 ·rw [h,show Int.tmod ((draw e a:Nat):Int) 37=((draw e a % 37:Nat):Int) by rw [Int.tmod_eq_emod_of_nonneg (Int.natCast_nonneg _)];omega,Z3C (by omega) (by omega)];rfl
 ·rw [show (p.Z2K==2)=false by simpa using h,if_neg h];rfl)
theorem ZHY (p:Zy) (hp:PWF p) (e:Nat) (he:e<65536) (l:Int):Z6q p (e:Int) l=some (ZLD p e l):=(ZV _ _).trans (by
 obtain⟨a,ha⟩:∃a:Nat,p.Z3W=a:=⟨p.Z3W.toNat,by have:=hp.acc;omega⟩
 obtain⟨m,hm⟩:∃m:Nat,p.Map=m:=⟨p.Map.toNat,by have:=hp.map;omega⟩
 have h1:=hp.acc
 have h2:=hp.map
 simp only [ZfK,Tr.den,ZC,ZLD,ha,hm,Int.toNat_natCast] at *
 rw [Zrv a (by omega),ZKg m e a (by omega) he (by omega),ZIw]
 simp only [Option.bind_some]
 rw [ZmW e _ he (ZfP a (by omega)),ZCV m (by omega)]
 simp only [Option.bind_some]
 rw [show rnd (ident a) 3 (e ^^^ ident a)=draw e a from rfl]
 have hd:=Zvl e a he (by omega)
 by_cases h:p.Z2K=2
 ·rw [h,tm37 _ hd];rfl
 ·rw [show (p.Z2K==2)=false by simpa using h,if_neg h];rfl)
open Go Go.Proofs.YtjodhcdmhobmoaaGreatDoor.Le
set_option maxHeartbeats 4000000
theorem ZOa (l:List Zj) (h:l.length<=1000):Zb2 l=some ⟨l⟩:=fe (by
 have e:(l.take (List.replicate (Int.toNat (l.length:Int)) (⟨0,0⟩:Zj)).length++(List.replicate (Int.toNat (l.length:Int)) (⟨0,0⟩:Zj)).drop l.length)=l:=by
  rw [List.length_replicate,Int.toNat_natCast,List.take_length,List.drop_of_length_le (by rw [List.length_replicate];exact Nat.le_refl _),List.append_nil]
 simp only [ZaH,Tr.den,ZC]
 rw [e,List.length_replicate,Int.toNat_natCast,Z42]
 rw [decide_eq_true ⟨by omega,by omega,by rw [show lim=140737488355328 from rfl];omega,by rw [show maxLen=9223372036854775807 from rfl];omega⟩]
 rfl)
def ZOV (l:List Zj) (ch:Int):List Zj:=
 if ch<0\/(l.length:Int)<=ch then l else
  match l[ch.toNat]? with
  | some x=>if x.Bad<65536 then l.set ch.toNat ⟨x.Good,w64 (x.Bad+1)⟩ else l
  | none=>l
theorem ZoO (l:List Zj) (ch:Int) (h:l.length<=1000):Z90 l ch false=some (ZOV l ch):=fe (by
 simp only [Z8Q,Tr.den,ZC,ZOa l h,Option.bind_some,Z42,cond_true,cond_false]
 unfold ZOV
 by_cases h0:ch<0
 ·rw [decide_eq_true h0,if_pos (.inl h0)];rfl
 ·rw [decide_eq_false h0]
  by_cases h1:(l.length:Int)<=ch
  ·rw [show decide (ch>=(l.length:Int))=true from decide_eq_true h1,if_pos (.inr h1)];rfl
  ·rw [show decide (ch>=(l.length:Int))=false from decide_eq_false h1,if_neg (by omega)]
   have hi:ch.toNat<l.length:=by omega
   rw [List.getElem?_eq_getElem hi]
   simp only [Option.bind_some,decide_eq_true (show 0<=ch/\ch<(l.length:Int) by omega),decide_eq_true (Nat.zero_le ch.toNat),Bool.and_self,List.length_set,Z42,cond_true,cond_false]
   by_cases h2:l[ch.toNat].Bad<65536
   ·rw [decide_eq_true h2,if_pos h2];rfl
   ·rw [decide_eq_false h2,if_neg h2];rfl)
theorem ZyD (l:List Zj) (ch:Int) (h:l.length<=1000):Z3Q l ch false=some (ZOV l ch):=fe (by
 simp only [Z3V,Tr.den,ZC,Z42,cond_true,List.nil_append,List.length_nil,Nat.zero_add]
 rw [ZJ0 (by omega) (by decide)]
 simp only [cond_true]
 unfold ZOV
 by_cases h0:ch<0
 ·rw [decide_eq_true h0,if_pos (.inl h0)];rfl
 ·rw [decide_eq_false h0]
  by_cases h1:(l.length:Int)<=ch
  ·rw [show decide (ch>=(l.length:Int))=true from decide_eq_true h1,if_pos (.inr h1)];rfl
  ·rw [show decide (ch>=(l.length:Int))=false from decide_eq_false h1,if_neg (by omega)]
   have hi:ch.toNat<l.length:=by omega
   simp only [cond_false]
   refine fe ?_
   simp only [Z3V,Tr.den,ZC,cond_false,Z42,Bool.and_self,cond_true]
   refine fe ?_
   simp only [Z3V,Tr.den,ZC,Bool.not_false,Z42,Bool.and_self,cond_true,decide_eq_true (show 0<=ch/\ch<(l.length:Int) by omega)]
   rw [List.getElem?_eq_getElem hi]
   simp only [Option.bind_some]
   by_cases h2:l[ch.toNat].Bad<65536
   ·rw [decide_eq_true h2,if_pos h2]
    simp only [cond_true]
    refine fe ?_
    simp only [Z3V,Tr.den,ZC,Z42,Bool.and_self,cond_true,decide_eq_true (show 0<=ch/\ch<(l.length:Int) by omega),decide_eq_true (Nat.zero_le ch.toNat)]
    rw [List.getElem?_eq_getElem hi]
    simp only [Option.bind_some,List.length_set,Z42,cond_true]
   ·rw [decide_eq_false h2,if_neg h2];rfl)
theorem ZRF (p:Zy) (ha:0<=p.Z3W/\p.Z3W<4294967296) (hm:0<=p.Map/\p.Map<18446744073709551616) (e l:Int) (he:r16 e):∃q,Z8x p e l=some q/\Z6q p e l=some q:=by
 obtain⟨h1,h2⟩:=he
 obtain⟨n,rfl⟩:=Int.eq_ofNat_of_zero_le h1
 exact⟨ZLD p n l,ZIg p ⟨ha,hm⟩ n (by omega) l,ZHY p ⟨ha,hm⟩ n (by omega) l⟩
theorem ZPF (y:ZE) (ch:Int×Int) (hn:Z8x y.Link.ZN y.Link.Event y.Link.Last=some ch) (h:y.Link.Zw.length<=1000) :
  ∃r,Z6m false y=some r/\r.q0=⟨{ y.Link with Zw:=ZOV y.Link.Zw ch.1 },y.Zz⟩:=by
 have hc:ZaS y.Link=some ch.1:=fe (by simp only [ZaL,Tr.den,ZC,hn,Option.bind_some])
 refine⟨⟨⟨{ y.Link with Zw:=ZOV y.Link.Zw ch.1 },y.Zz⟩,y.Link.Zw⟩,fe ?_,rfl⟩
 simp only [Z69,Tr.den,ZC,Z42,Bool.and_self,cond_true,hc,Option.bind_some,ZoO _ _ h]
def ZNn (e:Int) (c:Z8):Z5:=⟨2,e,⟨0,[]⟩,c,0,Zr⟩
def ind4 (e r:Int):Z5:=⟨4,e,⟨0,[]⟩,Z0A,IntKind.wrap .u64 r,Zr⟩
theorem ZN2:Z1u []=some ⟨[]⟩:=if_pos ⟨by decide,by decide⟩
theorem ZFI (e:Int) (x:Z5) (y:ZE) (hx:x.ZF.Payload=[]) (h:y.Zz.length<=1000):∃r,Z2E e [x] y=some r/\r.q0=⟨y.Link,y.Zz++[{ x with Event:=e,ZF:=⟨x.ZF.Z5f,[]⟩ }]⟩:=by
 have fin:∀y:ZE,ZO Z1j (.b1 e [x] 1 1 y)=some ⟨y,[x]⟩:=fun y=>fe (by
  simp only [Z1j,Tr.den,ZC,Z42,Bool.and_self,cond_true]
  rfl)
 have hl0:decide (0<=(0:Int)/\(0:Int)<([x].length:Int))=true:=rfl
 have hl1:decide ((0:Int)<1)=true:=rfl
 have hg:([x][(Int.toNat 0)]? : Option Z5)=some x:=rfl
 refine⟨⟨⟨y.Link,y.Zz++[{ x with Event:=e,ZF:=⟨x.ZF.Z5f,[]⟩ }]⟩,[x]⟩,fe ?_,rfl⟩
 simp only [Z1j,Tr.den,ZC,Z42,Bool.and_self,cond_true]
 refine fe ?_
 simp only [Z1j,Tr.den,ZC,Z42,Bool.and_self,cond_true,hl0,hl1,hg,Option.bind_some,hx,ZN2]
 rw [ZJ0 (by simp only [List.length_cons,List.length_nil];omega) (by decide)]
 exact fin _
def ZQ8 (n:Int):Zk:=⟨if (if 499<n then 499 else n)>0 then (if 499<n then 499 else n) else 0,0,true⟩
theorem ZAs (l:Zk) (n:Int):ZeA l n=some (ZQ8 n):=fe (by
 have h:ZbZ n=some (ZQ8 n):=fe rfl
 simp only [Ze8,Tr.den,ZC,h,Option.bind_some])
def ZJ1 (l:Z9) (c:Z8):Z9:=
 bif c.Kind==1 then { l with ZN:={ l.ZN with Map:=c.Map } }
 else bif l.Z1z==1 then { l with ZN:={ l.ZN with Zt:=c.Zt },Z19:=w64 (l.Z19+w64 (1250*c.Zt.Z0r)),Size:=w64 (l.Size+w64 (1250*c.Zt.Z1E)),Z0y:=ZQ8 c.Zt.Z0o }
 else { l with ZN:={ l.ZN with Zt:=c.Zt },Z19:=w64 (l.Z19+w64 (1250*c.Zt.Z0r)),Z0y:=ZQ8 c.Zt.Z0o }
theorem ZEm (l:Z9) (c:Z8):Zcj l c=some (ZJ1 l c):=by
 have b1:∀l z,ZO Z6s (.b1 l c z)=some { l with Z0y:=ZQ8 c.Zt.Z0o }:=fun l z=>fe (by simp only [Z6s,Tr.den,ZC,ZAs,Option.bind_some])
 refine fe ?_
 simp only [Z6s,Tr.den,ZC,b1]
 unfold ZJ1
 cases c.Kind==1<;>cases l.Z1z==1<;>rfl
theorem ZPO (c:Z8) (y:ZE) (h:y.Zz.length<=1000):Z4M c y=some ⟨⟨ZJ1 y.Link c,y.Zz++[ZNn y.Link.Event c]⟩⟩:=by
 have b1:∀y:ZE,y.Zz.length<=1000->ZO Z0F (.b1 y c)=some ⟨⟨y.Link,y.Zz++[ZNn y.Link.Event c]⟩⟩:=fun y h=>fe (by
  obtain⟨r,h1,h2⟩:=ZFI y.Link.Event ⟨2,0,⟨0,[]⟩,c,0,Zr⟩ y rfl h
  simp only [Z0F,Tr.den,ZC,Z42,Bool.and_self,cond_true,List.length_cons,List.length_nil,Nat.zero_add,h1,Option.bind_some,h2]
  rfl)
 have b2:∀y:ZE,y.Zz.length<=1000->ZO Z0F (.b2 y c)=some ⟨⟨{ y.Link with Z0y:=ZQ8 c.Zt.Z0o },y.Zz++[ZNn y.Link.Event c]⟩⟩:=fun y h=>fe (by
  simp only [Z0F,Tr.den,ZC,Z42,Bool.and_self,cond_true,ZvR,ZAs,Option.bind_some]
  exact b1 _ h)
 refine fe ?_
 simp only [Z0F,Tr.den,ZC,Z42,Bool.and_self,cond_true]
 have c1:∀l:Z9,ZO Z0F (.b1 ⟨l,y.Zz⟩ c)=some ⟨⟨l,y.Zz++[ZNn l.Event c]⟩⟩:=fun l=>b1 ⟨l,y.Zz⟩ h
 have c2:∀l:Z9,ZO Z0F (.b2 ⟨l,y.Zz⟩ c)=some ⟨⟨{ l with Z0y:=ZQ8 c.Zt.Z0o },y.Zz++[ZNn l.Event c]⟩⟩:=fun l=>b2 ⟨l,y.Zz⟩ h
 simp only [c1,c2]
 rw [Int.mul_comm c.Zt.Z0r,Int.mul_comm c.Zt.Z1E]
 unfold ZJ1
 cases c.Kind==1<;>cases y.Link.Z1z==1<;>rfl
def ZRq (k s n:Int):Bool:=bif decide (k>=0) then (bif !(k==0||k==1) then decide (w64 (n - s)>40000000) else false) else false
theorem ZHJ (k s n:Int):Z8z k s n=some (ZRq k s n):=fe (by
 simp only [Zba,Tr.den,ZC,ZoQ,Option.bind_some]
 unfold ZRq
 cases decide (k>=0)<;>cases (k==0||k==1)<;>rfl)
def ZQJ (s:Z7) (n:Int):Bool:=bif ZRq s.Own s.Since n then true else ZRq s.Other s.Z0C n
theorem Zl8 (s:Z7) (n:Int):Z5q s n=some (ZQJ s n):=fe (by
 simp only [Z54,Tr.den,ZC,ZHJ,Option.bind_some]
 unfold ZQJ
 cases ZRq s.Own s.Since n<;>rfl)
theorem Zzx (u:ZM):∃t,Z1X u=some t/\Z35 u=some t:=by
 have h:∃t,Z35 u=some t:=by
  have h3:∃q,Z2r u.Z1g 10 3200=some q:=⟨_,fe rfl⟩
  obtain⟨q,h3⟩:=h3
  exact⟨w64 (q*10000),fe (by simp only [Z51,Tr.den,ZC,h3,Option.bind_some])⟩
 obtain⟨t,ht⟩:=h
 exact⟨t,(ZLX u).trans ht,ht⟩
theorem ZSn (x:Int):w64 (6*w64 (x*1250))=w64 (7500*x):=by
 simp only [w64,IntKind.wrap,IntKind.signed,IntKind.bits]
 simp
 omega
def ZQt (now:Int) (l:Z9) (t:Int):Int:=
 bif l.Ze.Z1n != 0 then l.Ze.Z1n else
 bif ZQJ l.Ze now then 34 else
 bif l.Z2C then (bif decide (w64 (now - l.Z2W)>t) then 8 else 0)
 else bif decide (w64 (now - l.Z2W)>w64 (7500*l.ZN.Zt.Z0j)) then 62 else 0
theorem ZSr (now:Int) (y:ZE) (t:Int) (ht:Z1X y.Link.ZN.Zt=some t) (h1 : -1<=y.Link.Ze.Own) (h2 : -1<=y.Link.Ze.Other):Z3I now y=some ⟨ZQt now y.Link t,y⟩:=by
 have hi:∀w:Z0N,Z1Q w=some (w64 (w.Link.ZN.Zt.Z0j*1250)):=fun w=>fe rfl
 have b1:ZO Z2q (.b1 (w64 (now - y.Link.Z2W)) y)=some ⟨bif y.Link.Z2C then 0 else bif decide (w64 (now - y.Link.Z2W)>w64 (7500*y.Link.ZN.Zt.Z0j)) then 62 else 0,y⟩:=fe (by
  simp only [Z2q,Tr.den,ZC,hi,Option.bind_some,ZSn,Z42,Bool.and_self,cond_true]
  cases y.Link.Z2C<;>cases decide (w64 (now - y.Link.Z2W)>w64 (7500*y.Link.ZN.Zt.Z0j))<;>rfl)
 refine fe ?_
 simp only [Z2q,Tr.den,ZC,ZLP _ _ h1 h2,Zl8,ht,Option.bind_some,b1,Z42,Bool.and_self,cond_true]
 unfold ZQt
 cases y.Link.Ze.Z1n != 0<;>cases ZQJ y.Link.Ze now<;>cases y.Link.Z2C<;>cases decide (w64 (now - y.Link.Z2W)>t)<;>rfl
theorem v_end (e r:Int) (y:ZE) (h:y.Zz.length<=1000):Z6z e r y=some ⟨⟨{ y.Link with Z05:=r },y.Zz++[ind4 e r]⟩⟩:=fe (by
 obtain⟨q,h1,h2⟩:=ZFI e ⟨4,0,⟨0,[]⟩,Z0A,IntKind.wrap .u64 r,Zr⟩ ⟨{ y.Link with Z05:=r },y.Zz⟩ rfl h
 simp only [Z6k,Tr.den,ZC,Z42,Bool.and_self,cond_true,List.length_cons,List.length_nil,Nat.zero_add,h1,Option.bind_some,h2]
 rfl)
theorem ZKQ (l:Z9) (r:Int):Ze1 l r=some ({ l with Z05:=r },[ind4 l.Event r]):=fe rfl
set_option maxHeartbeats 2000000
def Zvt (l:List Int):Prop:=Z7z U 5 l=true
theorem ZoR (p:Zd) (h:Zvt p.Payload):Z4E p p=some true:=(ZV _ _).trans (by
 simp only [Z7I,Tr.den,ZC,beq_self_eq_true,cond_true]
 rw [show Z7z U 5 p.Payload=true from h]
 rfl)
theorem Zyd (xs:List Zd) (hl:xs.length<4611686018427387904) (h:∀p∈xs,Zvt p.Payload):Z6e xs xs=some true:=(ZV _ _).trans (by
 have step:∀j i:Nat,i+j=xs.length->ZO Z1Y (.b1 xs xs i)=some true:=by
  intro j
  induction j with
  | zero=>
   intro i hi
   refine(ZV _ _).trans ?_
   simp only [Z1Y,Tr.den,ZC]
   rw [show decide ((i:Int)<(xs.length:Int))=false by simp;omega]
   rfl
  | succ j ih=>
   intro i hi
   have hx:i<xs.length:=by omega
   refine(ZV _ _).trans ?_
   simp only [Z1Y,Tr.den,ZC]
   rw [show decide ((i:Int)<(xs.length:Int))=true by simp;omega,show decide (0<=(i:Int)/\(i:Int)<(xs.length:Int))=true by simp;omega]
   simp only [cond_true,Int.toNat_natCast,List.getElem?_eq_getElem hx,Option.bind_some,ZoR _ (h _ (List.getElem_mem hx)),Bool.not_true,cond_false]
   rw [ZL (by omega) (by omega)]
   exact ih (i+1) (by omega)
 simp only [Z1Y,Tr.den,ZC,bne_self_eq_false,cond_false]
 exact step xs.length 0 (by omega))
theorem Zju (xs:List Z4) (hl:xs.length<4611686018427387904):Z3D xs xs=some true:=(ZV _ _).trans (by
 have step:∀j i:Nat,i+j=xs.length->ZO Z1J (.b1 xs xs i)=some true:=by
  intro j
  induction j with
  | zero=>
   intro i hi
   refine(ZV _ _).trans ?_
   simp only [Z1J,Tr.den,ZC]
   rw [show decide ((i:Int)<(xs.length:Int))=false by simp;omega]
   rfl
  | succ j ih=>
   intro i hi
   have hx:i<xs.length:=by omega
   refine(ZV _ _).trans ?_
   simp only [Z1J,Tr.den,ZC]
   rw [show decide ((i:Int)<(xs.length:Int))=true by simp;omega,show decide (0<=(i:Int)/\(i:Int)<(xs.length:Int))=true by simp;omega]
   simp only [cond_true,Int.toNat_natCast,List.getElem?_eq_getElem hx,Option.bind_some,beq_self_eq_true,Bool.and_true,Bool.not_true,cond_false]
   rw [ZL (by omega) (by omega)]
   exact ih (i+1) (by omega)
 simp only [Z1J,Tr.den,ZC,bne_self_eq_false,cond_false]
 exact step xs.length 0 (by omega))
theorem ZIB (p:Z7) (h1:p.Zf.length<4611686018427387904) (h2:p.Zo.length<4611686018427387904):Z9m p p=some true:=(ZV _ _).trans (by
 have step:∀j i:Nat,i+j=p.Zo.length->ZO Z2Q (.b2 i p p)=some true:=by
  intro j
  induction j with
  | zero=>
   intro i hi
   refine(ZV _ _).trans ?_
   simp only [Z2Q,Tr.den,ZC]
   rw [show decide ((i:Int)<(p.Zo.length:Int))=false by simp;omega]
   simp only [beq_self_eq_true,cond_true,cond_false]
  | succ j ih=>
   intro i hi
   have hx:i<p.Zo.length:=by omega
   refine(ZV _ _).trans ?_
   simp only [Z2Q,Tr.den,ZC]
   rw [show decide ((i:Int)<(p.Zo.length:Int))=true by simp;omega,show decide (0<=(i:Int)/\(i:Int)<(p.Zo.length:Int))=true by simp;omega]
   simp only [cond_true,Int.toNat_natCast,List.getElem?_eq_getElem hx,Option.bind_some,beq_self_eq_true,Bool.and_true,Bool.not_true,cond_false]
   rw [ZL (by omega) (by omega)]
   exact ih (i+1) (by omega)
 simp only [Z2Q,Tr.den,ZC,Zju _ h1,Option.bind_some,Bool.not_true,cond_false,bne_self_eq_false]
 refine(ZV _ _).trans ?_
 exact step p.Zo.length 0 (by omega))
structure LWF (l:Z9):Prop where
 tal:l.Zw.length<4611686018427387904
 que:l.Arq.Zu.length<4611686018427387904
 pay:∀p∈l.Arq.Zu,Zvt p.Payload
 wai:l.Ze.Zf.length<4611686018427387904
 pen:l.Ze.Zo.length<4611686018427387904
 com:l.Zb.length<4611686018427387904
theorem ZMA (l:Z9) (h:LWF l):ZmK l l=some true:=(ZV _ _).trans (by
 have h4:ZO Z2e (.b4 l l)=some true:=(ZV _ _).trans (by
  simp only [Z2e,Tr.den,ZC,ZIB _ h.wai h.pen,Zju _ h.com,Option.bind_some,beq_self_eq_true,cond_true])
 have h3:ZO Z2e (.b3 l l)=some true:=(ZV _ _).trans (by
  simp only [Z2e,Tr.den,ZC,beq_self_eq_true,Bool.and_true,Bool.not_true,cond_false,h4])
 have h2:ZO Z2e (.b2 l l)=some true:=(ZV _ _).trans (by
  simp only [Z2e,Tr.den,ZC,beq_self_eq_true,Bool.and_true,Bool.not_true,cond_false,bne_self_eq_false,h3])
 have step:∀j i:Nat,i+j=l.Zw.length->ZO Z2e (.b1 i l l)=some true:=by
  intro j
  induction j with
  | zero=>
   intro i hi
   refine(ZV _ _).trans ?_
   simp only [Z2e,Tr.den,ZC]
   rw [show decide ((i:Int)<(l.Zw.length:Int))=false by simp;omega]
   simp only [beq_self_eq_true,Bool.not_true,cond_false,bne_self_eq_false,Zyd _ h.que h.pay,Option.bind_some,h2]
  | succ j ih=>
   intro i hi
   have hx:i<l.Zw.length:=by omega
   have ht:=h.tal
   refine(ZV _ _).trans ?_
   simp only [Z2e,Tr.den,ZC]
   rw [show decide ((i:Int)<(l.Zw.length:Int))=true by simp;omega,show decide (0<=(i:Int)/\(i:Int)<(l.Zw.length:Int))=true by simp;omega]
   simp only [cond_true,Int.toNat_natCast,List.getElem?_eq_getElem hx,Option.bind_some,beq_self_eq_true,Bool.and_true,Bool.not_true,cond_false]
   rw [ZL (by omega) (by omega)]
   exact ih (i+1) (by omega)
 simp only [Z2e,Tr.den,ZC,bne_self_eq_false,cond_false]
 exact step l.Zw.length 0 (by omega))
theorem Z0z.lwf {k:Int} {l:Z9} (h:Z0z k l) (hk:k<=1000000):LWF l:=by
 obtain⟨h1,h2,h3,h4,h5,h6,h7,h8⟩:=h
 obtain⟨a1,a2,a3,a4,a5⟩:=h1
 obtain⟨b1,b2,b3⟩:=h2
 refine⟨by omega,by omega,fun p hp=>Zov _ ?_,by omega,by omega,by omega⟩
 have:=(a4 p hp).2.2.2.1
 omega
theorem Zhg (p0:List Int) (h:p0.length<=1000000):∃r,Z1u p0=some r/\r.q0=p0:=⟨⟨p0⟩,if_pos ⟨by rw [Z0e];omega,by rw [maxLen_eq];omega⟩,rfl⟩
theorem Z5W (p0:List Z4) (h:p0.length<=1000000):∃r,Z0O p0=some r/\r.q0=p0:=⟨⟨p0⟩,if_pos ⟨by rw [Z0e];omega,by rw [maxLen_eq];omega⟩,rfl⟩
theorem Zfr (p0:List Z8) (h:p0.length<=1000000):∃r,Z0D p0=some r/\r.q0=p0:=⟨⟨p0⟩,if_pos ⟨by rw [Z0e];omega,by rw [maxLen_eq];omega⟩,rfl⟩
theorem Zgj (p0:List Zj) (h:p0.length<=1000000):∃r,Z2D p0=some r/\r.q0=p0:=⟨⟨p0⟩,if_pos ⟨by rw [Z0e];omega,by rw [maxLen_eq];omega⟩,rfl⟩
theorem ZS4 {L:Type} {t:Nat} {l:List (U.Ty t)} {i:Int} {k:U.Ty t->Tr U L} {Q:L->Prop} (h:0<=i/\i<(l.length:Int)) (g:∀hi:i.toNat<l.length,Tot (k l[i.toNat]) Q):Tot (.bind t (l[Int.toNat i]?) k) Q:=by
 have hi:i.toNat<l.length:=by omega
 exact⟨l[i.toNat],List.getElem?_eq_getElem hi,g hi⟩
theorem Zoo {L:Type} {l:List Zd} {i:Int} {k:Zd->Tr U L} {Q:L->Prop} (h:0<=i/\i<(l.length:Int)) (g:∀hi:i.toNat<l.length,Tot (k l[i.toNat]) Q):Tot (Tr.bind (U:=U) 68 (l[Int.toNat i]? : Option Zd) k) Q:=ZS4 (t:=68) h g
theorem take_set {α:Type} {a b:List α} {n:Nat} (hn:n<b.length) (hl:a.length=b.length) (h:a.take n=b.take n):(a.set n b[n]).take (n+1)=b.take (n+1):=by
 apply List.ext_getElem?
 intro j
 rw [List.getElem?_take,List.getElem?_take]
 by_cases hj:j<n+1
 ·rw [if_pos hj,if_pos hj,List.getElem?_set]
  by_cases hjn:n=j
  ·subst hjn
   rw [if_pos rfl,if_pos (by omega)]
   exact(List.getElem?_eq_getElem hn).symm
  ·rw [if_neg hjn]
   have:=congrArg (fun l=>l[j]?) h
   simp only [List.getElem?_take] at this
   rw [if_pos (by omega),if_pos (by omega)] at this
   exact this
 ·rw [if_neg hj,if_neg hj]
theorem ZCi (k:Int) (p0:Z9) (h0:Z0z k p0) (h1:0<=k) (h2:k<=1000000):∃r,Zi1 p0=some r/\(r.q0=⟨p0,[]⟩):=by
 have hq:=h0
 dsimp only [Z0z,Z16,Z0l] at hq
 have hpk:∀p∈p0.Arq.Zu,p.Payload.length<=1000000:=fun p hp=>by
  have:=(h0.1.2.2.2.1 p hp).2.2.2.1
  omega
 refine Zl (T:=Za6) (post:=fun r=>r.q0=⟨p0,[]⟩) (fun p=>match p with | .b0 a0=>a0=p0 | .b1 a0 a1 a2 a3 a4=>a4=p0/\a1=p0.Arq.Zu/\a2=(p0.Arq.Zu.length:Int)/\a0.length=p0.Arq.Zu.length/\0<=a3/\a3<=(p0.Arq.Zu.length:Int)/\a0.take a3.toNat=p0.Arq.Zu.take a3.toNat)
  (fun p=>match p with | .b0 _=>(1,0,0) | .b1 a0 a1 a2 a3 a4=>(0,(a2 - a3).toNat,0)) ?_ (.b0 p0) rfl
 intro p hp
 cases p with
 | b0 a0=>
  dsimp only at hp
  subst hp
  simp only [Za6]
  refine Z0s (by simp [Z0e,maxLen_eq]<;>omega) ?_
  refine Z0s (by simp [Z0e,maxLen_eq]<;>omega) ?_
  refine Z0n ?_
  exact⟨⟨rfl,rfl,rfl,by rw [List.length_replicate];omega,by omega,by omega,by simp⟩,ZRO (by omega)⟩
 | b1 a0 a1 a2 a3 a4=>
  dsimp only at hp
  obtain⟨rfl,rfl,rfl,hl,g1,g2,ht⟩:=hp
  simp only [Za6]
  refine Z2a (fun h=>?_) (fun h=>?_)
  ·simp only [decide_eq_true_eq,decide_eq_false_iff_not] at h
   refine Z0s (by simp [Z0e,maxLen_eq]<;>omega) ?_
   refine Zoo (by omega) (fun hi=>?_)
   refine Zi (Zhg _ (hpk _ (List.getElem_mem hi))) (fun(v:Z1r) hm hv=>?_)
   refine Z0s (by simp [Z0e,maxLen_eq]<;>omega) ?_
   refine Z0s (by simp [Z0e,maxLen_eq]<;>omega) ?_
   refine Z0s (by simp [Z0e,maxLen_eq]<;>omega) ?_
   refine Zoo (by omega) (fun hi' =>?_)
   refine Z0s (by simp [Z0e,maxLen_eq]<;>omega) ?_
   refine Z0s (by simp [Z0e,maxLen_eq]<;>omega) ?_
   refine Z0n ?_
   dsimp only
   rw [ZL (by omega) (by omega),hv]
   refine⟨⟨rfl,rfl,rfl,by rw [List.length_set];exact hl,by omega,by omega,?_⟩,ZSs (by omega)⟩
   rw [show (a3+1).toNat=a3.toNat+1 by omega]
   exact take_set hi hl ht
  ·simp only [decide_eq_true_eq,decide_eq_false_iff_not] at h
   have he:a0=a4.Arq.Zu:=by
    have e1:a3.toNat=a0.length:=by omega
    have e2:a3.toNat=a4.Arq.Zu.length:=by omega
    have h1:=ht
    rw [e1,List.take_length] at h1
    rw [h1,hl,List.take_length]
   subst he
   refine Zi (Z5W _ (by omega)) (fun(v1:Z0u) hm1 hv1=>?_)
   refine Zi (Zfr _ (by omega)) (fun(v2:Z0B) hm2 hv2=>?_)
   refine Zi (Zgj _ (by omega)) (fun(v3:Z1P) hm3 hv3=>?_)
   refine Zi (Z5W _ (by omega)) (fun(v4:Z0u) hm4 hv4=>?_)
   refine Z0s (by simp) ?_
   refine Z0n ?_
   dsimp only
   rw [hv1,hv2,hv3,hv4]
theorem Zm8 (p0:List Zd) (h0:p0.length<=64) (h1:pkL p0):∃r,Z6d p0=some r/\r=p0:=by
 refine Zl (T:=Z2L) (post:=fun r=>r=p0) (fun p=>match p with | .b0 a0=>a0=p0 | .b1 a0 a1 a2=>a0=p0/\0<=a2/\a2<=(p0.length:Int)/\a1=p0.take a2.toNat)
  (fun p=>match p with | .b0 _=>(1,0,0) | .b1 a0 a1 a2=>(0,((a0.length:Int) - a2).toNat,0)) ?_ (.b0 p0) rfl
 intro p hp
 cases p with
 | b0 a0=>
  dsimp only at hp
  subst hp
  simp only [Z2L]
  refine Z0s (by simp [Z0e,maxLen_eq]<;>omega) ?_
  refine Z0n ?_
  exact⟨⟨rfl,by omega,by omega,by simp⟩,ZRO (by omega)⟩
 | b1 a0 a1 a2=>
  dsimp only at hp
  obtain⟨rfl,g1,g2,rfl⟩:=hp
  simp only [Z2L]
  refine Z2a (fun h=>?_) (fun h=>?_)
  ·simp only [decide_eq_true_eq,decide_eq_false_iff_not] at h
   refine Z0s (by simp [Z0e,maxLen_eq]<;>omega) ?_
   refine Zoo (by omega) (fun hi=>?_)
   have hpl:=(h1 _ (List.getElem_mem hi)).2.2.2.1
   refine Z0s (by simp [Z0e,maxLen_eq]<;>omega) ?_
   refine Zoo (by omega) (fun hi' =>?_)
   refine Z0s (by simp [Z0e,maxLen_eq]<;>omega) ?_
   refine Z0s (by simp [Z0e,maxLen_eq]<;>omega) ?_
   refine Z0s (by simp) ?_
   refine Z0s (by simp [Z0e,maxLen_eq]<;>omega) ?_
   refine Z0s (by simp [Z0e,maxLen_eq]<;>omega) ?_
   refine Z0s (by simp [Z0e,maxLen_eq]<;>omega) ?_
   refine Z0s (by simp) ?_
   refine Z0n ?_
   dsimp only
   rw [ZL (by omega) (by omega),List.nil_append]
   refine⟨⟨rfl,by omega,by omega,?_⟩,ZSs (by omega)⟩
   rw [show (a2+1).toNat=a2.toNat+1 by omega]
   first|exact List.take_append_getElem hi|exact(List.take_append_getElem hi).symm|simp
  ·simp only [decide_eq_true_eq,decide_eq_false_iff_not] at h
   refine Z0s (by simp [Z0e,maxLen_eq]<;>omega) ?_
   refine Z0n ?_
   dsimp only
   rw [show a2.toNat=a0.length by omega,List.take_length]
set_option maxHeartbeats 4000000
def ZzN (said:List Z5) (l:Z9) (r:Int):Z9×List Z5:=bif r != 0 then ({ l with Z05:=r },said++[ind4 l.Event r]) else (l,said)
def Zdy (l:Z9):Int:=IntKind.wrap .u16 (l.Event+IntKind.wrap .u16 l.ZN.Zt.Z0o)
def ZkY (now:Int) (l:Z9):Z9:={ l with Ze:=(Zoy (Zdy l) now l.Ze.Zf l.Ze []).1,Zb:=l.Zb++(Zoy (Zdy l) now l.Ze.Zf l.Ze []).2 }
structure LI (l:Z9):Prop where
 pi:PI l.Ze
 wai:l.Ze.Zf.length<=100
 com:l.Zb.length<=1900000
 ev:r16 l.Event
theorem ZLW (now:Int) (l:Z9) (said:List Z5) (due:List Z8) (n:Int) (z:Z9) (p:Z7) (t:Int) (hL:LI l) (hs:said.length<=900)
  (ht:Z1X l.ZN.Zt=some t):ZO Z0d (.b5 now due n n z ⟨l,said⟩ p)=some (ZzN said (ZkY now l) (ZQt now (ZkY now l) t)):=by
 have b6:∀z (y:ZE),ZO Z0d (.b6 z y)=some (y.Link,y.Zz):=fun z y=>fe (by simp only [Z0d,Tr.den,ZC,Z42,Bool.and_self,cond_true])
 have hp:∀w:Z0N,Z4q w=some (IntKind.wrap .u16 (w.Link.Event+IntKind.wrap .u16 w.Link.ZN.Zt.Z0o)):=fun w=>fe (by
  have h:∀a n,Z2k a n=some (IntKind.wrap .u16 (a+IntKind.wrap .u16 n)):=fun a n=>fe rfl
  simp only [Z4m,Tr.den,ZC,h,Option.bind_some])
 obtain⟨hq1,hq2⟩:=ZJx (Zdy l) now l.Ze.Zf l.Ze [] rfl hL.pi
 have hov:=ZSr now ⟨ZkY now l,said⟩ t ht hq1.own hq1.oth
 refine fe ?_
 simp only [Z0d,Tr.den,ZC,decide_eq_false (Int.lt_irrefl n),cond_false,hp,Option.bind_some,Z42,Bool.and_self,cond_true]
 rw [show IntKind.wrap .u16 (l.Event+IntKind.wrap .u16 l.ZN.Zt.Z0o)=Zdy l from rfl,Zlv l.Ze _ now hL.pi hL.wai,Option.bind_some]
 rw [ZJ0 (by simp only [List.length_nil] at hq2;have:=hL.com;have:=hL.wai;omega) (by decide)]
 simp only [cond_true]
 have hov' : Z3I now ⟨{ l with Ze:=(Zoy (Zdy l) now l.Ze.Zf l.Ze []).1,Zb:=l.Zb++(Zoy (Zdy l) now l.Ze.Zf l.Ze []).2 },said⟩=_:=hov
 rw [hov']
 simp only [Option.bind_some,b6,v_end _ _ ⟨ZkY now l,said⟩ (show said.length<=1000 by omega)]
 unfold ZzN
 cases ZQt now (ZkY now l) t != 0<;>rfl
theorem ZOz (now:Int) (l:Z9) (said:List Z5) (due:List Z8) (z:Z9) (p:Z7) (t:Int) (hL:LI l) (hs:said.length<=900)
  (ht:Z35 l.ZN.Zt=some t):ZO Z00 (.b5 now said due (due.length:Nat) l z p)=some (ZzN said (ZkY now l) (ZQt now (ZkY now l) t)):=by
 have r6:∀(r:Int) (l z:Z9),ZO Z00 (.b6 said r l z)=some (ZzN said l r):=fun r l z=>fe (by
  simp only [Z00,Tr.den,ZC,Z42,Bool.and_self,cond_true,ZKQ,Option.bind_some]
  rw [ZJ0 (by simp only [List.length_cons,List.length_nil];omega) (by decide)]
  unfold ZzN
  cases r != 0<;>rfl)
 have r7:∀l z:Z9,ZO Z00 (.b7 said l z)=some (ZzN said l 8):=fun l z=>fe (by simp only [Z00,Tr.den,ZC,Z42,Bool.and_self,cond_true,r6])
 have r9:∀l z:Z9,ZO Z00 (.b9 said l z)=some (ZzN said l 62):=fun l z=>fe (by simp only [Z00,Tr.den,ZC,Z42,Bool.and_self,cond_true,r6])
 have r8:∀l z:Z9,ZO Z00 (.b8 now said 0 l z)=some (ZzN said l (bif l.Z2C then 0 else bif decide (w64 (now - l.Z2W)>w64 (7500*l.ZN.Zt.Z0j)) then 62 else 0)):=fun l z=>fe (by
  simp only [Z00,Tr.den,ZC,Z42,Bool.and_self,cond_true,r6,r9]
  cases l.Z2C<;>cases decide (w64 (now - l.Z2W)>w64 (7500*l.ZN.Zt.Z0j))<;>rfl)
 have ha:Z9B l=some (Zdy l):=fe (by
  have h:Z2k l.Event l.ZN.Zt.Z0o=some (Zdy l):=fe rfl
  simp only [ZcL,Tr.den,ZC,<- Zn9 _ _ hL.ev,h,Option.bind_some])
 have hae:r16 (Zdy l):=by unfold Zdy r16;rw [ZDp];omega
 obtain⟨hq1,hq2⟩:=ZJx (Zdy l) now l.Ze.Zf l.Ze [] rfl hL.pi
 refine fe ?_
 simp only [Z00,Tr.den,ZC,decide_eq_false (Int.lt_irrefl (due.length:Int)),cond_false,ha,ZAq l.Ze (Zdy l) now hae hL.pi hL.wai,Option.bind_some,List.length_nil,Nat.zero_add,List.nil_append,Z42,Bool.and_self,cond_true]
 rw [ZJ0 (by have:=hL.com;omega) (by decide),ZJ0 (by simp only [List.length_nil] at hq2;have:=hL.com;have:=hL.wai;omega) (by decide)]
 simp only [cond_true,Zl8,Option.bind_some,ht,r6,r7,r8]
 unfold ZQt
 show (bif (ZkY now l).Ze.Z1n != 0 then some (ZzN said (ZkY now l) (ZkY now l).Ze.Z1n) else bif ZQJ (ZkY now l).Ze now then some (ZzN said (ZkY now l) 34) else bif (ZkY now l).Z2C then (bif decide (w64 (now - (ZkY now l).Z2W)>t) then some (ZzN said (ZkY now l) 8) else some (ZzN said (ZkY now l) (bif (ZkY now l).Z2C then 0 else bif decide (w64 (now - (ZkY now l).Z2W)>w64 (7500*(ZkY now l).ZN.Zt.Z0j)) then 62 else 0))) else some (ZzN said (ZkY now l) (bif (ZkY now l).Z2C then 0 else bif decide (w64 (now - (ZkY now l).Z2W)>w64 (7500*(ZkY now l).ZN.Zt.Z0j)) then 62 else 0)))=_
 cases (ZkY now l).Ze.Z1n != 0<;>cases ZQJ (ZkY now l).Ze now<;>cases (ZkY now l).Z2C<;>cases decide (w64 (now - (ZkY now l).Z2W)>t)<;>rfl
theorem ZQx {l:Z9} (h:LI l) (c:Z8):LI (ZJ1 l c)/\(ZJ1 l c).Event=l.Event:=by
 unfold ZJ1
 cases c.Kind==1 with
 | true=>exact⟨⟨h.pi,h.wai,h.com,h.ev⟩,rfl⟩
 | false=>cases l.Z1z==1 with
  | true=>exact⟨⟨h.pi,h.wai,h.com,h.ev⟩,rfl⟩
  | false=>exact⟨⟨h.pi,h.wai,h.com,h.ev⟩,rfl⟩
theorem ZJO {said:List Z5} {l:Z9} {r:Int} (h:said.length<=1) (hs:∀x∈said,x.ZF.Payload=[]):(ZzN said l r).2.length<=2/\∀x∈(ZzN said l r).2,x.ZF.Payload=[]:=by
 unfold ZzN
 cases r != 0 with
 | true=>
  simp only [cond_true,List.length_append,List.length_cons,List.length_nil,List.mem_append,List.mem_singleton]
  exact⟨by omega,fun x hx=>hx.elim (hs x) (fun e=>by rw [e];rfl)⟩
 | false=>exact⟨by simp only [cond_false];omega,hs⟩
theorem tail (now:Int) (l:Z9) (due:List Z8) (z z' : Z9) (p p' : Z7) (hL:LI l) (hd:due=[]\/∃c,due=[c]) :
  ∃r,ZO Z0d (.b5 now due (due.length:Nat) 0 z ⟨l,[]⟩ p)=some r/\ZO Z00 (.b5 now [] due 0 l z' p')=some r/\r.2.length<=2/\∀x∈r.2,x.ZF.Payload=[]:=by
 rcases hd with rfl|⟨c,rfl⟩
 ·obtain⟨t,h1,h2⟩:=Zzx l.ZN.Zt
  exact⟨_,ZLW now l [] [] 0 z p t hL (by simp) h1,ZOz now l [] [] z' p' t hL (by simp) h2,ZJO (by simp) (by simp)⟩
 ·obtain⟨hL2,he⟩:=ZQx hL c
  obtain⟨t,h1,h2⟩:=Zzx (ZJ1 l c).ZN.Zt
  have e1:=ZLW now (ZJ1 l c) [ZNn l.Event c] [c] 1 z p t hL2 (by simp) h1
  have e2:=ZOz now (ZJ1 l c) [ZNn l.Event c] [c] z' p' t hL2 (by simp) h2
  have hx:([c][(Int.toNat 0)]? : Option Z8)=some c:=rfl
  have hl0:decide (0<=(0:Int)/\(0:Int)<([c].length:Int))=true:=rfl
  have hl1:decide ((0:Int)<([c].length:Int))=true:=rfl
  refine⟨ZzN [ZNn l.Event c] (ZkY now (ZJ1 l c)) (ZQt now (ZkY now (ZJ1 l c)) t),fe ?_,fe ?_,ZJO (by simp) (by simp [ZNn])⟩
  ·simp only [Z0d,Tr.den,ZC,hl0,hl1,hx,Option.bind_some,Z42,Bool.and_self,cond_true,ZPO c ⟨l,[]⟩ (by simp)]
   exact e1
  ·simp only [Z00,Tr.den,ZC,hl0,hl1,hx,Option.bind_some,Z42,Bool.and_self,cond_true,ZEm,he,List.length_nil,Nat.zero_add,List.nil_append]
   rw [ZJ0 (by simp) (by decide)]
   exact e2
def skpF (l:Zk):Zk:=bif must l false then l else { l with Z3y:=w64 (l.Z3y+1) }
theorem ZGR (l:Zk):∃e,Z8y l=some (skpF l,e):=by
 have h:Z8y l=some (bif must l false then (l,9) else ({ l with Z3y:=w64 (l.Z3y+1) },0)):=fe (by
  simp only [Zce,Tr.den,ZC,ZtL,Option.bind_some]
  cases must l false<;>rfl)
 refine⟨bif must l false then 9 else 0,h.trans ?_⟩
 unfold skpF
 cases must l false<;>rfl
def attF (l:Zk) (b:Bool):Zk:=bif b then ⟨l.Z0o,0,false⟩ else { l with Z3y:=0 }
theorem Zn5 (l:Zk) (b:Bool):Z75 l b=some (attF l b):=fe (by
 simp only [Zai,Tr.den,ZC]
 unfold attF
 cases b<;>rfl)
def sk (l:Z9):Bool:=!l.Got&&ZzX l
def lk1 (l:Z9):Z9:=bif sk l then { l with Z0y:=skpF l.Z0y } else bif l.Z1z==1 then { l with Z0y:=attF l.Z0y l.Z1U } else l
def lk2 (l:Z9) (ch:Int):Z9:=bif !l.Good && !sk l then { lk1 l with Zw:=ZOV l.Zw ch } else lk1 l
def ev1 (l:Z9):Int:=IntKind.wrap .u16 (l.Event+1)
def lk3 (l:Z9) (q:Int×Int):Z9:={ lk2 l q.1 with Event:=ev1 l,Last:=q.2,Z19:=w64 (l.Z19+w64 (1250*l.ZN.Zt.Z0j)),Got:=false,Good:=false,Z1U:=false,More:=false,Ze:=(Zga l.Ze (ev1 l)).1 }
structure CI (l:Z9):Prop where
 pi:PI l.Ze
 wai:l.Ze.Zf.length<=100
 com:l.Zb.length<=1900000
 ev:r16 l.Event
 tal:l.Zw.length<=1000
 rol:l.Ze.Z1z=0\/l.Ze.Z1z=1
 ins:∀c∈l.Ze.Zo,r16 c.ZQ
 acc:0<=l.ZN.Z3W/\l.ZN.Z3W<4294967296
 map:0<=l.ZN.Map/\l.ZN.Map<18446744073709551616
theorem ZJZ (l:Z9):lk1 l = { l with Z0y:=(lk1 l).Z0y }:=by
 unfold lk1
 cases sk l<;>cases l.Z1z==1<;>rfl
theorem ZzR (l:Z9) (ch:Int):lk2 l ch = { l with Z0y:=(lk2 l ch).Z0y,Zw:=(lk2 l ch).Zw }:=by
 unfold lk2
 rw [ZJZ]
 cases !l.Good && !sk l<;>rfl
theorem ZJU {s:Z7} (h:PI s) (ev:Int):PI (Zga s ev).1/\(Zga s ev).1.Zf=s.Zf/\((Zga s ev).2=[]\/∃c,(Zga s ev).2=[c]):=by
 have hp:(Zua s.Zo ev).1.length<=1:=by
  match s.Zo with
  | []=>exact Nat.zero_le _
  | c::_=>rw [ZjD];cases psd ev c.ZQ<;>simp
 unfold Zga
 rcases ZhV s.Zo ev with hq|⟨c,hq⟩
 ·simp only [hq]
  exact⟨⟨hp,h.own,h.oth,h.wai⟩,trivial,.inl trivial⟩
 ·simp only [hq]
  cases s.Z1z==0 && !s.Told with
  | true=>
   simp only [cond_true]
   cases s.Z1n==0 with
   | true=>exact⟨⟨hp,h.own,h.oth,h.wai⟩,rfl,.inl (by first|rfl|trivial)⟩
   | false=>exact⟨⟨hp,h.own,h.oth,h.wai⟩,rfl,.inl (by first|rfl|trivial)⟩
  | false=>
   simp only [cond_false]
   refine⟨?_,?_,.inr ⟨c,rfl⟩⟩
   ·unfold took
    cases s.Own==c.Kind<;>cases h2:s.Other==c.Kind<;>simp only [cond_true,cond_false,h2]<;>exact⟨hp,by first|exact h.own|exact Int.le_refl (-1),by first|exact h.oth|exact Int.le_refl (-1),h.wai⟩
   ·unfold took
    cases s.Own==c.Kind<;>cases h2:s.Other==c.Kind<;>simp only [cond_true,cond_false,h2]
theorem ZRc {l:Z9} (h:CI l) (q:Int×Int):LI (lk3 l q):=by
 obtain⟨h1,h2,h3⟩:=ZJU h.pi (ev1 l)
 have hw:(lk3 l q).Ze.Zf=l.Ze.Zf:=h2
 have hc:(lk3 l q).Zb=l.Zb:=by unfold lk3;rw [ZzR]
 exact⟨h1,by rw [hw];exact h.wai,by rw [hc];exact h.com,by show r16 (ev1 l);unfold ev1 r16;rw [ZDp];omega⟩
theorem ZQz (k:Int) (l:Z9) (now:Int) (hk:Z0z k l) (h0:0<=k) (h1:k<=1000000) (h:CI l):∃r,Ze0 l now=some r/\Z6b l now=some r/\r.2.length<=2/\∀x∈r.2,x.ZF.Payload=[]:=by
 obtain⟨o,ho,hoq⟩:=ZCi k l hk h0 h1
 obtain⟨q,hq1,hq2⟩:=ZRF l.ZN h.acc h.map l.Event l.Last h.ev
 have hex:∀w:Z0N,Z5F w=some (w.Link.Z05==0):=fun w=>fe rfl
 by_cases hr:l.Z05≠0
 ·refine⟨(l,[]),fe ?_,fe ?_,by simp,by simp⟩
  ·simp only [Z0d,Tr.den,ZC,ho,Option.bind_some,hoq,hex,show (l.Z05==0)=false from beq_eq_false_iff_ne.2 hr,Z42,Bool.not_false,Bool.and_self,List.length_nil,cond_true]
  ·simp only [Z00,Tr.den,ZC,show (l.Z05 != 0)=true from bne_iff_ne.2 hr,List.length_nil,Z42,cond_true]
 have hr:=Decidable.not_not.1 hr
 obtain⟨h3,h4,h5⟩:=ZJU h.pi (ev1 l)
 obtain⟨e,hsk⟩:=ZGR l.Z0y
 have hi:∀w:Z0N,Z1Q w=some (w64 (w.Link.ZN.Zt.Z0j*1250)):=fun w=>fe rfl
 have hadd:∀a:Int,Z2k a 1=some (IntKind.wrap .u16 (a+1)):=fun a=>fe (by
  simp only [Zau,Tr.den,ZC,ZDp]
  congr 1)
 have hev:r16 (ev1 l):=by unfold ev1 r16;rw [ZDp];omega
 have p4:∀(x:Z9) (z:Z9),x=lk2 l q.1->ZO Z0d (.b4 now z ⟨x,[]⟩)=ZO Z0d (.b5 now (Zga l.Ze (ev1 l)).2 ((Zga l.Ze (ev1 l)).2.length:Nat) 0 z ⟨lk3 l q,[]⟩ (Zga l.Ze (ev1 l)).1):=fun x z hx=>by
  rw [ZzR] at hx
  subst hx
  refine fe ?_
  simp only [Z0d,Tr.den,ZC,hq1,hadd,hi,Option.bind_some,Z42,Bool.and_self,cond_true]
  rw [show IntKind.wrap .u16 (l.Event+1)=ev1 l from rfl,ZqK l.Ze (ev1 l) h.wai h.pi.pen h.rol]
  simp only [Option.bind_some,cond_true,Int.mul_comm l.ZN.Zt.Z0j]
  unfold lk3
  rw [ZzR]
 have p2:∀(b:Bool) (x z:Z9),b=sk l->x=lk1 l->ZO Z0d (.b2 now b z ⟨x,[]⟩)=ZO Z0d (.b5 now (Zga l.Ze (ev1 l)).2 ((Zga l.Ze (ev1 l)).2.length:Nat) 0 z ⟨lk3 l q,[]⟩ (Zga l.Ze (ev1 l)).1):=fun b x z hb hx=>by
  subst hb
  have hx2:=hx
  rw [ZJZ] at hx
  have p3:(!l.Good && !sk l)=true->ZO Z0d (.b3 now z ⟨x,[]⟩)=ZO Z0d (.b5 now (Zga l.Ze (ev1 l)).2 ((Zga l.Ze (ev1 l)).2.length:Nat) 0 z ⟨lk3 l q,[]⟩ (Zga l.Ze (ev1 l)).1):=fun hg=>fe (by
   obtain⟨r,hr1,hr2⟩:=ZPF ⟨x,[]⟩ q (by subst hx;exact hq1) (by subst hx;exact h.tal)
   simp only [Z0d,Tr.den,ZC,hr1,hr2,Option.bind_some,Z42,Bool.and_self,cond_true]
   refine p4 _ z ?_
   unfold lk2
   rw [hg,cond_true,<- hx2]
   subst hx
   rfl)
  have hg:x.Good=l.Good:=by subst hx;rfl
  refine fe ?_
  simp only [Z0d,Tr.den,ZC,Z42,Bool.and_self,cond_true,hg]
  cases hgg:l.Good with
  | true=>
   refine p4 _ z ?_
   unfold lk2
   rw [hgg,<- hx2];rfl
  | false=>
   cases hss:sk l with
   | true=>
    refine p4 _ z ?_
    unfold lk2
    rw [hgg,hss,<- hx2];rfl
   | false=>
    exact p3 (by rw [hgg,hss];rfl)
 have p1:∀z:Z9,ZO Z0d (.b1 now (sk l) z ⟨l,[]⟩)=ZO Z0d (.b5 now (Zga l.Ze (ev1 l)).2 ((Zga l.Ze (ev1 l)).2.length:Nat) 0 z ⟨lk3 l q,[]⟩ (Zga l.Ze (ev1 l)).1):=fun z=>fe (by
  simp only [Z0d,Tr.den,ZC,Zs3,ZnP,hsk,Zn5,Option.bind_some,Z42,Bool.and_self,cond_true]
  cases hss:sk l with
  | true=>
   refine p2 true _ z hss.symm ?_
   unfold lk1
   rw [hss];rfl
  | false=>
   cases hro:l.Z1z==1 with
   | true=>
    refine p2 false _ z hss.symm ?_
    unfold lk1
    rw [hss,hro];rfl
   | false=>
    refine p2 false _ z hss.symm ?_
    unfold lk1
    rw [hss,hro];rfl)
 have r4:∀(x z:Z9),x=lk2 l q.1->ZO Z00 (.b4 now q.2 x z)=ZO Z00 (.b5 now [] (Zga l.Ze (ev1 l)).2 0 (lk3 l q) z (Zga l.Ze (ev1 l)).1):=fun x z hx=>by
  rw [ZzR] at hx
  subst hx
  refine fe ?_
  simp only [Z00,Tr.den,ZC]
  rw [show IntKind.wrap .u16 (l.Event+1)=ev1 l from rfl,ZJd l.Ze (ev1 l) hev h.pi.pen h.ins]
  simp only [Option.bind_some,List.length_nil,Z42,cond_true]
  unfold lk3
  rw [ZzR]
 have r2:∀(b:Bool) (x z:Z9),b=sk l->x=lk1 l->ZO Z00 (.b2 now b x z)=ZO Z00 (.b5 now [] (Zga l.Ze (ev1 l)).2 0 (lk3 l q) z (Zga l.Ze (ev1 l)).1):=fun b x z hb hx=>by
  subst hb
  have hx2:=hx
  rw [ZJZ] at hx
  have hg:x.Good=l.Good:=by subst hx;rfl
  have hn:Z6q x.ZN x.Event x.Last=some q:=by subst hx;exact hq2
  have r3:(!l.Good && !sk l)=true->ZO Z00 (.b3 now q.1 q.2 x z)=ZO Z00 (.b5 now [] (Zga l.Ze (ev1 l)).2 0 (lk3 l q) z (Zga l.Ze (ev1 l)).1):=fun hg=>fe (by
   have ht:Z3Q x.Zw q.1 false=some (ZOV l.Zw q.1):=by subst hx;exact ZyD _ _ h.tal
   simp only [Z00,Tr.den,ZC,ht,Option.bind_some]
   refine r4 _ z ?_
   unfold lk2
   rw [hg,cond_true,<- hx2])
  refine fe ?_
  simp only [Z00,Tr.den,ZC,hn,Option.bind_some,hg]
  cases hgg:l.Good with
  | true=>
   refine r4 _ z ?_
   unfold lk2
   rw [hgg,<- hx2];rfl
  | false=>
   cases hss:sk l with
   | true=>
    refine r4 _ z ?_
    unfold lk2
    rw [hgg,hss,<- hx2];rfl
   | false=>
    exact r3 (by rw [hgg,hss];rfl)
 have r1:∀z:Z9,ZO Z00 (.b1 now (sk l) l z)=ZO Z00 (.b5 now [] (Zga l.Ze (ev1 l)).2 0 (lk3 l q) z (Zga l.Ze (ev1 l)).1):=fun z=>fe (by
  simp only [Z00,Tr.den,ZC,hsk,Zn5,Option.bind_some]
  cases hss:sk l with
  | true=>
   refine r2 true _ z hss.symm ?_
   unfold lk1
   rw [hss];rfl
  | false=>
   cases hro:l.Z1z==1 with
   | true=>
    refine r2 false _ z hss.symm ?_
    unfold lk1
    rw [hss,hro];rfl
   | false=>
    refine r2 false _ z hss.symm ?_
    unfold lk1
    rw [hss,hro];rfl)
 obtain⟨r,ha,hb,hc⟩:=tail now (lk3 l q) (Zga l.Ze (ev1 l)).2 ZH ZH (Zga l.Ze (ev1 l)).1 (Zga l.Ze (ev1 l)).1 (ZRc h q) h5
 refine⟨r,fe ?_,fe ?_,hc⟩
 ·simp only [Z0d,Tr.den,ZC,ho,Option.bind_some,hoq,hex,show (l.Z05==0)=true from beq_iff_eq.2 hr,Z42,Bool.not_true,Bool.and_self,cond_true,cond_false,ZyU]
  cases hgt:l.Got with
  | true=>
   have:=p1 ZH
   rw [show sk l=false by unfold sk;rw [hgt];rfl] at this
   exact this.trans ha
  | false=>
   have:=p1 ZH
   rw [show sk l=ZzX l by unfold sk;rw [hgt];rfl] at this
   exact this.trans ha
 ·simp only [Z00,Tr.den,ZC,show (l.Z05 != 0)=false from bne_eq_false_iff_eq.2 hr,ZBa,Option.bind_some,cond_false]
  have:=r1 ZH
  cases hro:l.Z1z==1 with
  | false=>
   rw [show sk l=false by unfold sk ZzX;rw [hro];simp] at this
   exact this.trans hb
  | true=>
   cases hgt:l.Got with
   | true=>
    rw [show sk l=false by unfold sk;rw [hgt];rfl] at this
    exact this.trans hb
   | false=>
    rw [show sk l=ZzX l by unfold sk;rw [hgt];rfl] at this
    exact this.trans hb
theorem ZKz (xs:List Z5) (hl:xs.length<4611686018427387904) (h:∀x∈xs,x.ZF.Payload=[]):Z3S xs xs=some true:=(ZV _ _).trans (by
 have step:∀j i:Nat,i+j=xs.length->ZO Z0V (.b1 xs xs i)=some true:=by
  intro j
  induction j with
  | zero=>
   intro i hi
   refine(ZV _ _).trans ?_
   simp only [Z0V,Tr.den,ZC]
   rw [show decide ((i:Int)<(xs.length:Int))=false by simp;omega]
   rfl
  | succ j ih=>
   intro i hi
   have hx:i<xs.length:=by omega
   refine(ZV _ _).trans ?_
   simp only [Z0V,Tr.den,ZC]
   rw [show decide ((i:Int)<(xs.length:Int))=true by simp;omega,show decide (0<=(i:Int)/\(i:Int)<(xs.length:Int))=true by simp;omega]
   simp only [cond_true,Int.toNat_natCast,List.getElem?_eq_getElem hx,Option.bind_some,ZoR _ (show Zvt xs[i].ZF.Payload by rw [h _ (List.getElem_mem hx)];exact Zov [] (by decide)),beq_self_eq_true,bne_self_eq_false,Bool.and_true,Bool.and_self,Bool.not_true,cond_false]
   refine(ZV _ _).trans ?_
   simp only [Z0V,Tr.den,ZC]
   rw [ZL (by omega) (by omega)]
   exact ih (i+1) (by omega)
 simp only [Z0V,Tr.den,ZC,bne_self_eq_false,cond_false]
 exact step xs.length 0 (by omega))
theorem ci_of {k:Int} {l:Z9} (h:Z0z k l) (hk:k<=1000000):CI l:=by
 obtain⟨a1,⟨b1,b2,b3,b4,b5,b6,b7,b8,b9,b10,b11⟩,a3,⟨c1,c2,c3⟩,a5,a6,a7,a8,a9⟩:=h
 exact⟨⟨b2,b10,b11,fun c hc=>(b3 c hc).2.2.2.2.2⟩,by omega,by omega,a8,by omega,b9,fun c hc=>(b4 c hc).2,c1,c3⟩
set_option linter.defProp false
set_option maxHeartbeats 40000000
theorem ZFL:∀(k:Int) (p0:Z9),Z0z k p0->0<=k->k<=1000000->∃r,Zlx p0=some r/\r=p0:=by
 refine fun k p0 h0 h1 h2=>Zl (fun(p:Zc4)=>match p with | .b0 a0=>Z0z k a0/\a0=p0) (fun(p:Zc4)=>(0,0,0)) ?_ _ ?_
 all_goals try (intro p hp;cases p)
 case' b0=>
  dsimp only at hp
  have hx:=hp
  try dsimp only [Z0z,Z16,Z0l,Z6M,Z2c,Zg5,Z4s,Z3m] at hx
  simp only [ZfV]
  obtain⟨g0,rfl⟩:=hp
  repeat' first|(refine Z0n ?_;rfl)|(refine Z0s ?_ ?_)|(refine Zi (Zm8 _ (by omega) (by grind)) (fun(v:List Zd) hm hv=>?_);subst hv)
 all_goals
  try dsimp only at hp
  try exact False.elim hp
  try have hx:=hp
  try dsimp only [Z0z,Z16,Z0l,Z6M,Z2c,Zg5,Z4s,Z3m] at hx
  try (repeat with_reducible (have hq:=And.left hp;replace hp:=And.right hp))
  try simp only [ZfV]
  try dsimp only
  repeat' first|(refine Z0n ?_;dsimp only;try simp(disch:=omega) only [ZL,List.length_append,List.length_cons,List.length_nil,List.length_take,List.length_drop,List.length_set,List.length_replicate,List.nil_append,List.drop_zero])|(refine Z2a (fun h=>?_) (fun h=>?_)<;>(try simp only [decide_eq_true_eq,decide_eq_false_iff_not,Bool.not_eq_true',Bool.not_eq_false',Bool.not_eq_true,Bool.not_eq_false,beq_iff_eq,bne_iff_ne,beq_eq_false_iff_ne,bne_eq_false_iff_eq,ne_eq,reduceCtorEq,Bool.and_eq_true,Bool.or_eq_true,Classical.not_not] at h;try simp(disch:=omega) only [ZL] at h))|refine Z0s ?_ ?_|refine Z1o ?_|with_reducible apply And.intro|rfl|assumption|exact True.intro|omega|exact decide_eq_true (Z1T _).1|exact Z0S (by assumption) (by omega)|exact Z0Z (by assumption) (by omega)|(refine Z1v.2 ?_;first|omega|grind)|(apply Zov;first|omega|(simp only [List.length_append,List.length_cons,List.length_nil,List.length_take,List.length_drop,List.length_set,List.length_replicate];omega))|(simp only [Bool.and_eq_true,Bool.or_eq_true,decide_eq_true_eq,beq_iff_eq,bne_iff_ne,beq_self_eq_true,and_self,and_true,true_and,List.length_map,List.length_append,List.length_cons,List.length_nil,List.length_take,List.length_drop,List.length_set,List.length_replicate,Z0e,maxLen_eq]<;>omega)|(simp(disch:=omega) only [ZL,decide_eq_true_eq,bne_iff_ne,ne_eq];(repeat' split)<;>omega)|(simp [Z0H,Z4A];done)|grind|(simp only [Bool.and_eq_true,Bool.or_eq_true,decide_eq_true_eq,beq_iff_eq,bne_iff_ne,beq_self_eq_true,and_self,and_true,true_and,List.length_map,List.length_append,List.length_cons,List.length_nil,List.length_take,List.length_drop,List.length_set,List.length_replicate,Z0e,maxLen_eq]<;>grind)|grind [Zb8]
theorem Zl7:∀(p0:Z01) (p1:Int),Z3m p0->∃r,Zak p0 p1=some r/\r=true:=by
 refine fun p0 p1 h0=>Zl (fun(p:Z2o)=>match p with | .b0 a0 _=>Z3m a0 | .b1 _ _ a2=>Z0z 20000 a2/\True) (fun(p:Z2o)=>match p with | .b0 ..=>(0,0,1) | .b1 ..=>(0,0,0)) ?_ _ ?_
 all_goals try (intro p hp;cases p)
 case' b1 a0 a1 a2=>
  dsimp only at hp
  have hx:=hp
  try dsimp only [Z0z,Z16,Z0l,Z6M,Z2c,Zg5,Z4s,Z3m] at hx
  simp only [Z3F]
  obtain⟨g0,g1⟩:=hp
  clear hx
  refine Zi (ZFL 20000 _ g0 (by omega) (by omega)) (fun(v:Z9) hm hv=>?_)
  subst hv
  obtain⟨r,h1,h2,h3,h4⟩:=ZQz 20000 v (w64 (a1+a0)) g0 (by omega) (by omega) (ci_of g0 (by omega))
  obtain⟨r2,h5,h6⟩:=Zpq 20000 v (w64 (a1+a0)) g0 (by omega) (by omega)
  rw [h2] at h5
  cases h5
  refine ZfU h1 (ZfU h2 ?_)
  refine ZfU (ZKz r.2 (by omega) h4) ?_
  refine Z2a (fun h=>?_) (fun h=>nomatch h)
  refine ZfU (ZMA r.1 (h6.lwf (by omega))) ?_
  exact Z0n rfl
 all_goals
  try dsimp only at hp
  try exact False.elim hp
  try have hx:=hp
  try dsimp only [Z0z,Z16,Z0l,Z6M,Z2c,Zg5,Z4s,Z3m] at hx
  try (repeat with_reducible (have hq:=And.left hp;replace hp:=And.right hp))
  try simp only [Z3F]
  try dsimp only
  repeat' first|(refine Z0n ?_;dsimp only;try simp(disch:=omega) only [ZL,List.length_append,List.length_cons,List.length_nil,List.length_take,List.length_drop,List.length_set,List.length_replicate,List.nil_append,List.drop_zero])|(refine Z2a (fun h=>?_) (fun h=>?_)<;>(try simp only [decide_eq_true_eq,decide_eq_false_iff_not,Bool.not_eq_true',Bool.not_eq_false',Bool.not_eq_true,Bool.not_eq_false,beq_iff_eq,bne_iff_ne,beq_eq_false_iff_ne,bne_eq_false_iff_eq,ne_eq,reduceCtorEq,Bool.and_eq_true,Bool.or_eq_true,Classical.not_not] at h;try simp(disch:=omega) only [ZL] at h))|refine Z0s ?_ ?_|refine Z1o ?_|(refine ZfU (a:=true) rfl ?_)|refine Zi (ZnA _ ?_) fun(v:(Z9×Int×Bool)) hm hv=>?_|with_reducible apply And.intro|rfl|assumption|exact True.intro|omega|exact decide_eq_true (Z1T _).1|exact Z0S (by assumption) (by omega)|exact Z0Z (by assumption) (by omega)|(refine Z1v.2 ?_;first|omega|grind)|(apply Zov;first|omega|(simp only [List.length_append,List.length_cons,List.length_nil,List.length_take,List.length_drop,List.length_set,List.length_replicate];omega))|(simp only [Bool.and_eq_true,Bool.or_eq_true,decide_eq_true_eq,beq_iff_eq,bne_iff_ne,beq_self_eq_true,and_self,and_true,true_and,List.length_map,List.length_append,List.length_cons,List.length_nil,List.length_take,List.length_drop,List.length_set,List.length_replicate,Z0e,maxLen_eq]<;>omega)|(simp(disch:=omega) only [ZL,decide_eq_true_eq,bne_iff_ne,ne_eq];(repeat' split)<;>omega)|(simp [Z0H,Z4A];done)|grind|(simp only [Bool.and_eq_true,Bool.or_eq_true,decide_eq_true_eq,beq_iff_eq,bne_iff_ne,beq_self_eq_true,and_self,and_true,true_and,List.length_map,List.length_append,List.length_cons,List.length_nil,List.length_take,List.length_drop,List.length_set,List.length_replicate,Z0e,maxLen_eq]<;>grind)|grind [Zb8]
end Go.Proofs.YtjodhcdmhobmoaaGreatDoor
