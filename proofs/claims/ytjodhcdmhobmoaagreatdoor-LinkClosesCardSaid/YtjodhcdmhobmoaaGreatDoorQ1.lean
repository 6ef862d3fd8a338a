/-
  A part of the proof.
-/
import Derived.Test.YtjodhcdmhobmoaaGreatDoorQ1f
set_option linter.unusedVariables false
set_option linter.unusedSimpArgs false
namespace Go.Proofs.YtjodhcdmhobmoaaGreatDoor
open Go Go.Proofs.YtjodhcdmhobmoaaGreatDoor.Le Go.Proofs.YtjodhcdmhobmoaaGreatDoor.Na
set_option maxRecDepth 100000
theorem wu64 {n:Nat} (h:n<18446744073709551616):IntKind.u64.wrap (n:Int)=n:=by
 rw [show IntKind.u64.wrap (n:Int)=(n:Int) % 18446744073709551616 by simp [IntKind.wrap,IntKind.bits,IntKind.signed]];omega
theorem fd (n k:Nat):Int.fdiv (n:Int) (2 ^ k)=((n / 2 ^ k:Nat):Int):=by
 rw [Int.fdiv_eq_ediv_of_nonneg _ (Int.le_of_lt (Int.pow_pos (by decide)))]
 rw [Int.natCast_ediv];simp
def J1 (a:Int):Int:=IntKind.wrap .u64 ((bits .and .u64 (Int.fdiv a (2 ^ (1:Nat))) (6148914691236517205:Int))+(bits .and .u64 a (6148914691236517205:Int)))
def J2 (a:Int):Int:=IntKind.wrap .u64 ((bits .and .u64 (Int.fdiv a (2 ^ (2:Nat))) (3689348814741910323:Int))+(bits .and .u64 a (3689348814741910323:Int)))
def J3 (a:Int):Int:=bits .and .u64 (IntKind.wrap .u64 ((Int.fdiv a (2 ^ (4:Nat)))+a)) (1085102592571150095:Int)
def J4 (k:Nat) (a:Int):Int:=IntKind.wrap .u64 (a+(Int.fdiv a (2 ^ k)))
theorem j1 (n:Nat) (hn:n<18446744073709551616) (h:s1 8 n<18446744073709551616):J1 (n:Int)=(s1 8 n:Nat):=by
 unfold J1
 rw [fd,show (6148914691236517205:Int)=((6148914691236517205:Nat):Int) from rfl,u64_and_nat _ _ (by omega) (by decide),u64_and_nat _ _ hn (by decide),<- Int.natCast_add]
 exact wu64 h
theorem j2 (n:Nat) (hn:n<18446744073709551616) (h:s2 8 n<18446744073709551616):J2 (n:Int)=(s2 8 n:Nat):=by
 unfold J2
 rw [fd,show (3689348814741910323:Int)=((3689348814741910323:Nat):Int) from rfl,u64_and_nat _ _ (by omega) (by decide),u64_and_nat _ _ hn (by decide),<- Int.natCast_add]
 exact wu64 h
theorem j3 (n:Nat) (h:n+n / 16<18446744073709551616):J3 (n:Int)=(s3 8 n:Nat):=by
 unfold J3
 rw [fd,<- Int.natCast_add,wu64 (by omega),show (1085102592571150095:Int)=((1085102592571150095:Nat):Int) from rfl,u64_and_nat _ _ (by omega) (by decide)]
 rfl
theorem j4 (k n:Nat) (h:n+n / 2 ^ k<18446744073709551616):J4 k (n:Int)=((n+n / 2 ^ k:Nat):Int):=by
 unfold J4
 rw [fd,<- Int.natCast_add,wu64 h]
theorem ZqA (a:Int):Z1R a=some (bits .and .i64 (w64 (J4 32 (J4 16 (J4 8 (J3 (J2 (J1 a))))))) 127):=(ZV _ _).trans rfl
theorem ZP4 (n:Int):w64 n % 128=n % 128:=by
 simp only [w64,IntKind.wrap,IntKind.signed,IntKind.bits]
 simp
 split<;>omega
theorem Zv5 (n:Nat) (hn:n<2 ^ 37):Z1R (n:Int)=some ((bc 37 n:Nat):Int):=by
 rw [ZqA]
 have h:=ZQ5 n
 simp only at h
 obtain⟨h1,h2,h3,h4,h5,h6⟩:=h
 rw [j1 _ (by omega) h1,j2 _ h1 (by omega),j3 _ h2,j4 8 _ h4,j4 16 _ h5,j4 32 _ h6]
 rw [<- ZP5 n hn,i64_and127,ZP4]
 rfl
theorem ZFJ (n c:Nat) (hn:n<18446744073709551616):hasB (n:Int) c=(n / 2 ^ c % 2==1):=by
 unfold hasB
 rw [show ((n:Int) / 2 ^ c)=((n / 2 ^ c:Nat):Int) by rw [Int.natCast_ediv];simp]
 have hb:n / 2 ^ c<18446744073709551616:=Nat.lt_of_le_of_lt (Nat.div_le_self _ _) hn
 rw [show (1:Int)=((1:Nat):Int) from rfl,u64_and_nat _ _ hb (by decide),nat_mask1]
 generalize n / 2 ^ c % 2=x
 by_cases h:x=1
 ·subst h;rfl
 ·rw [show (x==1)=false by simpa using h];simpa using fun h' =>h (by omega)
theorem ZPf (n:Nat) (hn:n<18446744073709551616) (k:Nat):(chL (n:Int) k).length=bc k n:=by
 induction k with
 | zero=>rfl
 | succ k ih=>
  rw [Zus,List.length_append,ih,ZFJ _ _ hn]
  simp only [bc]
  rcases Nat.mod_two_eq_zero_or_one (n / 2 ^ k) with h|h<;>simp [h]
theorem ZQo (n:Nat) (hn:n<18446744073709551616):bits .and .u64 (n:Int) 137438953471=((n % 2 ^ 37:Nat):Int):=by
 rw [show (137438953471:Int)=((137438953471:Nat):Int) from rfl,u64_and_nat _ _ hn (by decide),Nat.and_two_pow_sub_one_eq_mod _ 37]
def cnt (m:Int):Int:=((chL m 37).length:Int)
theorem ZRs (m:Int):0<=cnt m/\cnt m<=37:=by
 unfold cnt chL
 have h1:=List.length_filter_le (hasB m) (List.range 37)
 rw [List.length_range] at h1
 exact⟨by omega,by omega⟩
theorem Zez (n:Nat) (hn:n<18446744073709551616):Z3Y (n:Int)=some (cnt (n:Int)):=(ZV _ _).trans (by
 simp only [Z9I,Tr.den,ZC,ZQo n hn]
 rw [Zv5 _ (Nat.mod_lt _ (by decide))]
 simp only [Option.bind_some,cnt,ZPf n hn,ZOl 37 37 n (Nat.le_refl _)])
def has (m c:Int):Bool:=decide (0<=c)&&(decide (c<37)&&hasB m c.toNat)
theorem ZjO (m c:Int) (hm:0<=m):Z8k m c=some (has m c):=(ZV _ _).trans (by
 simp only [Zde,Tr.den,ZC,has]
 by_cases h0:c>=0
 ·by_cases h1:c<37
  ·rw [decide_eq_true h0,decide_eq_true h1]
   simp only [cond_true,Bool.true_and,hasB]
   rw [show min c.toNat IntKind.u64.bits=c.toNat from Nat.min_eq_left (by simp [IntKind.bits];omega)]
   rw [Int.fdiv_eq_ediv_of_nonneg _ (Int.le_of_lt (Int.pow_pos (by decide)))]
  ·rw [decide_eq_true h0,decide_eq_false h1];simp
 ·rw [decide_eq_false h0];simp)
theorem ZMK (k:Nat) (hk:k<=63):∀j i:Nat,i+j=k->ZO Z4K (.b1 k ((2 ^ i:Nat):Int) i)=some ((2 ^ k:Nat):Int):=by
 intro j
 induction j with
 | zero=>
  intro i hi
  refine(ZV _ _).trans ?_
  simp only [Z4K,Tr.den,ZC]
  rw [show decide ((i:Int)<(k:Int))=false by simp;omega,show i=k by omega]
  rfl
 | succ j ih=>
  intro i hi
  refine(ZV _ _).trans ?_
  simp only [Z4K,Tr.den,ZC]
  have hp:2 ^ (i+1)<=2 ^ 63:=Nat.pow_le_pow_right (by decide) (by omega)
  rw [show decide ((i:Int)<(k:Int))=true by simp;omega]
  simp only [cond_true]
  rw [show ((2 ^ i:Nat):Int)*2=((2 ^ (i+1):Nat):Int) by rw [Nat.pow_succ];simp,wu64 (by omega),Z3C (by omega) (by omega)]
  exact ih (i+1) (by omega)
theorem ZBc (k:Nat) (hk:k<=63):Z66 (k:Int)=some ((2 ^ k:Nat):Int):=(ZV _ _).trans (ZMK k hk k 0 (by omega))
theorem Zqq (n:Nat) (hn:n<18446744073709551616) (c:Int):ZbD (n:Int) c=some (has (n:Int) c):=(ZV _ _).trans (by
 simp only [Zk4,Tr.den,ZC,has]
 by_cases h0:c>=0
 ·by_cases h1:c<=36
  ·rw [decide_eq_true h0,decide_eq_true h1,decide_eq_true (show c<37 by omega)]
   obtain⟨k,rfl⟩:∃k:Nat,c=k:=⟨c.toNat,by omega⟩
   have hp:0<2 ^ k:=Nat.pow_pos (by decide)
   simp only [cond_true,Bool.true_and,Int.toNat_natCast]
   rw [ZBc k (by omega),ZFJ _ _ hn]
   simp only [Option.bind_some]
   rw [show (((2 ^ k:Nat):Int) != 0)=true from bne_iff_ne.mpr (Int.natCast_ne_zero.mpr (Nat.pos_iff_ne_zero.mp hp))]
   simp only [cond_true]
   rw [Int.tdiv_eq_ediv_of_nonneg (Int.natCast_nonneg _),<- Int.natCast_ediv,wu64 (Nat.lt_of_le_of_lt (Nat.div_le_self _ _) hn),Int.tmod_eq_emod_of_nonneg (Int.natCast_nonneg _)]
   generalize n / 2 ^ k=x
   rcases Nat.mod_two_eq_zero_or_one x with h|h
   ·rw [show ((x:Int) % 2)=0 by omega,h];rfl
   ·rw [show ((x:Int) % 2)=1 by omega,h];rfl
  ·rw [decide_eq_true h0,decide_eq_false h1,decide_eq_false (show ¬c<37 by omega)];simp
 ·rw [decide_eq_false h0];simp)
theorem ZPT (m:Int) (c:Nat) (hc:c<37):has m c=hasB m c:=by
 unfold has
 rw [decide_eq_true (show (0:Int)<=c by omega),decide_eq_true (show (c:Int)<37 by omega)]
 rfl
def chI (m:Int) (k:Nat):List Int:=(chL m k).map fun c:Nat=>(c:Int)
theorem ZQQ (m:Int) (k:Nat):(chL m k).length<=k:=by
 have h1:=List.length_filter_le (hasB m) (List.range k)
 rw [List.length_range] at h1
 exact h1
theorem ZKf (n:Nat) (hn:n<18446744073709551616):∀j i:Nat,i+j=37->ZO Z3r (.b1 n (chI n i) i)=some (chI n 37):=by
 intro j
 induction j with
 | zero=>
  intro i hi
  refine(ZV _ _).trans ?_
  simp only [Z3r,Tr.den,ZC]
  rw [show decide ((i:Int)<=36)=false by simp;omega,show i=37 by omega]
  simp
 | succ j ih=>
  intro i hi
  have hb:∀xs:List Int,ZO Z3r (.b2 n xs i)=ZO Z3r (.b1 n xs (i+1:Nat)):=fun xs=>(ZV _ _).trans (by
   simp only [Z3r,Tr.den,ZC]
   rw [Z3C (by omega) (by omega)]
   simp)
  have hl:(chI n i).length<=37:=by
   rw [chI,List.length_map]
   have:=ZQQ n i
   omega
  refine(ZV _ _).trans ?_
  simp only [Z3r,Tr.den,ZC]
  rw [show decide ((i:Int)<=36)=true by simp;omega]
  simp only [cond_true,Zqq n hn,Option.bind_some,ZPT (n:Int) i (by omega)]
  have e:chI n (i+1)=chI n i++if hasB n i then [(i:Int)] else []:=by
   simp only [chI,Zus,List.map_append]
   split<;>rfl
  have hih:=ih (i+1) (by omega)
  rw [e] at hih
  cases hh:hasB (n:Int) i with
  | true=>
   rw [hh] at hih
   simp only [if_true] at hih
   simp only [cond_true,List.length_cons,List.length_nil,beq_self_eq_true]
   rw [show (decide (((chI n i).length+(0+1))*8<=lim)&&decide ((chI n i).length+(0+1)<=maxLen))=true from
    Bool.and_eq_true_iff.mpr ⟨decide_eq_true (Nat.le_trans (show _<=1000 by omega) (by decide)),decide_eq_true (Nat.le_trans (show _<=1000 by omega) (by decide))⟩]
   simp only [cond_true,hb]
   exact hih
  | false=>
   rw [hh] at hih
   simp only [Bool.false_eq_true,if_false,List.append_nil] at hih
   simp only [cond_false,beq_self_eq_true,cond_true,hb]
   exact hih
theorem Ztr (n:Nat) (hn:n<18446744073709551616):Z8A (n:Int)=some (chI n 37):=(ZV _ _).trans (by
 simp only [Z3r,Tr.den,ZC,List.length_nil,beq_self_eq_true,cond_true]
 exact ZKf n hn 37 0 (by omega))
theorem ZEq (m:Int):((chI m 37).length:Int)=cnt m:=by unfold chI cnt;rw [List.length_map]
theorem Zq2 (n:Nat) (hn:n<18446744073709551616):Z64 (n:Int)=some (cnt (n:Int)):=(ZV _ _).trans (by
 simp only [ZcN,Tr.den,ZC,Ztr n hn,Option.bind_some,ZEq])
theorem ZwU (n:Nat) (hn:n<18446744073709551616) (i:Int):Zee (n:Int) i=some (ZIW n i):=(ZV _ _).trans (by
 simp only [Zfc,Tr.den,ZC,Ztr n hn,Option.bind_some,ZEq,ZIW]
 by_cases h0:i<0
 ·rw [decide_eq_true h0,if_neg (by omega)];rfl
 ·by_cases h1:i>=cnt n
  ·rw [decide_eq_false h0,decide_eq_true h1,if_neg (by unfold cnt at h1;omega)];rfl
  ·rw [decide_eq_false h0,decide_eq_false h1,if_pos (by unfold cnt at h1;omega)]
   simp only [cond_false]
   refine(ZV _ _).trans ?_
   simp only [Zfc,Tr.den,ZC,ZEq]
   rw [decide_eq_true (show 0<=i/\i<cnt n by omega)]
   simp only [cond_true]
   have hi:i.toNat<(chL n 37).length:=by unfold cnt at h1;omega
   rw [show (chI n 37)[i.toNat]? = some (((chL (n:Int) 37)[i.toNat]:Nat):Int) by
    unfold chI;rw [List.getElem?_map,List.getElem?_eq_getElem hi];rfl]
   rw [List.getElem?_eq_getElem hi]
   rfl)
def ZJz (m c:Int):Int:=if has m (cl 0 36 c) then cl 0 36 c else if cnt m=0 then -1 else ZIW m (Int.tmod (cl 0 36 c) (cnt m))
theorem ZkZ (m i:Int):Z87 m i=some (ZIW m i):=rfl
theorem ZqN (n:Nat) (hn:n<18446744073709551616) (c:Int):Za2 (n:Int) c=some (ZJz n c):=(ZV _ _).trans (by
 simp only [Za3,Tr.den,ZC,ZjO (n:Int) _ (Int.natCast_nonneg n),Zez n hn,ZkZ,Option.bind_some,cl1 0 36 c (by decide),ZJz]
 cases has (n:Int) (cl 0 36 c) with
 | true=>rfl
 | false=>
  by_cases h:cnt n=0
  ·rw [h];rfl
  ·rw [show (cnt (n:Int)==0)=false by simpa using h,show (cnt (n:Int) != 0)=true by simpa using h];simp [h])
theorem ZCV (n:Nat) (hn:n<18446744073709551616) (c:Int):Zd6 (n:Int) c=some (ZJz n c):=(ZV _ _).trans (by
 simp only [Zct,Tr.den,ZC,Zqq n hn,Zq2 n hn,ZwU n hn,Option.bind_some,cl2 0 36 c (by decide),ZJz]
 cases has (n:Int) (cl 0 36 c) with
 | true=>rfl
 | false=>
  by_cases h:cnt n=0
  ·rw [h];rfl
  ·rw [show (cnt (n:Int)==0)=false by simpa using h,show (cnt (n:Int) != 0)=true by simpa using h];simp [h])
end Go.Proofs.YtjodhcdmhobmoaaGreatDoor
