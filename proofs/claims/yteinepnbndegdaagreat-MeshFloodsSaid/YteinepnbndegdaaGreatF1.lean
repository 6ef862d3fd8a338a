/- A part of it. -/
import Derived.Test.YteinepnbndegdaaGreatBUn
import Derived.RangeFuncWrites
import Derived.RangeFuncBox
import Derived.RangeFuncLeaves
import Derived.WalkKit
import Derived.OwnWalkIn
import Derived.TacticsInMore
import Derived.RegionIn
import Derived.LoopNIn
import Derived.LoopIn
import Derived.Shelf.Abstract
import Derived.IntWalk
import Derived.Lib.Hide
import Derived.Laws.Closers25b
import Derived.RangeFuncCalls
set_option linter.unusedVariables false
set_option linter.unusedSimpArgs false
namespace Go.Proofs.YteinepnbndegdaaGreat
open Tryz
open Go Go.Proofs.YteinepnbndegdaaGreat.Le
set_option maxRecDepth 100000
noncomputable section
def fG:S1 (Int×Int×Unit) Int
 | (b,a,_)=>.br (decide (a<=0)) (AZ (0:Int)) (.br (decide (a>=64)) (AZ b) (.chk (decide (0<=a)) (AZ (bits .and .u64 b (IntKind.wrap .u64 ((IntKind.wrap .u64 ((1:Int)*2 ^ (min (Int.toNat a) (IntKind.bits .u64)))) - 1))))))
def Na (a b:Int):Option Int:=AY fG (a,b,())
theorem Z5M:AA1 259 [40,3] 40 (fun x=>Na x.1 x.2.1) rfl:=ok1 Az Aw func259 (fun _=>by kernel_rfl) (by kernel_rfl)
def dZ:S1 (Int×Unit) I9
 | (a,_)=>.bind 40 (Na a (32:Int)) (fun(b:Int)=>AZ (⟨(IntKind.wrap .u32 ((Int.fdiv a (2 ^ (32:Nat))))),(IntKind.wrap .u32 (b))⟩:I9))
def Ua (a:Int):Option I9:=AY dZ (a,())
theorem Zha:AA1 249 [40] 366 (fun x=>Ua x.1) rfl:=ok1 (mc Z5M Az) Aw func249 (fun _=>by kernel_rfl) (by kernel_rfl)
def pG:S1 (Int×Int×Unit) Int
 | (b,a,_)=>let e:=IntKind.bits .u64;let c:=(bits .and .u64 (IntKind.wrap .u64 (a)) (63:Int));let d:=IntKind.wrap .u64 ((64:Int) - c);.chk (decide (0<=c)) (.chk (decide (0<=d)) (AZ (bits .or .u64 (IntKind.wrap .u64 (b*2 ^ (min (Int.toNat c) e))) (Int.fdiv b (2 ^ (min (Int.toNat d) e))))))
def Pz (a b:Int):Option Int:=AY pG (a,b,())
theorem Zcp:AA1 260 [40,3] 40 (fun x=>Pz x.1 x.2.1) rfl:=ok1 Az Aw func260 (fun _=>by kernel_rfl) (by kernel_rfl)
def pI:S1 (Int×Int×Unit) Int
 | (b,a,_)=>let e:=IntKind.bits .u32;let c:=(bits .and .u64 (IntKind.wrap .u64 (a)) (31:Int));let d:=IntKind.wrap .u64 ((32:Int) - c);.chk (decide (0<=c)) (.chk (decide (0<=d)) (AZ (bits .or .u32 (IntKind.wrap .u32 (b*2 ^ (min (Int.toNat c) e))) (Int.fdiv b (2 ^ (min (Int.toNat d) e))))))
def NV (a b:Int):Option Int:=AY pI (a,b,())
theorem Zct:AA1 261 [47,3] 47 (fun x=>NV x.1 x.2.1) rfl:=ok1 Az Aw func261 (fun _=>by kernel_rfl) (by kernel_rfl)
def dY:S1 (Int×Int×Int×Unit) Int
 | (b,c,d,_)=>.bind 40 (Pz b (Int.tmod (Ad ((11:Int)*(Int.tmod c 64))) (64:Int))) (fun(e:Int)=>.bind 40 (Na e (32:Int)) (fun(a:Int)=>let h:=IntKind.wrap .u32 (a);.bind 47 (NV (IntKind.wrap .u32 (d+h)) (7:Int)) (fun(f:Int)=>.bind 47 (NV h (16:Int)) (fun(g:Int)=>AZ (bits .xor .u32 (IntKind.wrap .u32 (f*2654435761)) g)))))
def RQ (a b c:Int):Option Int:=AY dY (a,b,c,())
theorem ZhJ:AA1 250 [41,3,47] 47 (fun x=>RQ x.1 x.2.1 x.2.2.1) rfl:=ok1 (mc Z5M (mc Zcp (mc Zct Az))) Aw func250 (fun _=>by kernel_rfl) (by kernel_rfl)
def aZ:S1 (I9×Unit) Int
 | (a,_)=>AZ (bits .or .u64 (IntKind.wrap .u64 ((IntKind.wrap .u64 (a.x0))*2 ^ (32:Nat))) (IntKind.wrap .u64 (a.x1)))
def RF (a:I9):Option Int:=AY aZ (a,())
theorem ZdR:AA1 251 [366] 40 (fun x=>RF x.1) rfl:=ok1 Az Aw func251 (fun _=>by kernel_rfl) (by kernel_rfl)
inductive y8 where
 | b0 (a b:Int)
 | b1 (a b:Int) (c:I9)
def GY:y8->Tr U (Int⊕y8)
 | .b0 a b=>.bind 366 (Ua b) (fun(c:I9)=>Ac (.b1 a (0:Int) c))
 | .b1 c b a=>.br (decide (b<8)) (.bind 47 (RQ c b a.x1) (fun(d:Int)=>Ac (.b1 c (Ad (b+1)) (⟨a.x1,(bits .xor .u32 a.x0 d)⟩:I9)))) (.bind 40 (RF a) (fun(e:Int)=>AZ e))
def Ia (a b:Int):Option Int:=AY GY (.b0 a b)
def y7:BF U:=⟨[41,40],40,fun x=>Ia x.1 x.2.1,by decide⟩
def Z5z:Lay:=LT [0,5,9] [.v 41,.p 0,.v 3] [.s 366]
def ZjE:y8->BN U
 | .b0 a b=>CU f218 [41,40] (a,b,())
 | .b1 a b c=>AA3 f218 [1,1,0,1,0,0,0] Z5z (a,b,c,())
theorem fA:AA0 218 y7:=Cb (mc Zha (mc ZhJ (mc ZdR Az))) Aw (al [(3,Z5z)]) ZjE func218 (fun p=>by cases p<;>kernel_rfl) (by kernel_rfl) fun _=>rfl
end
end Go.Proofs.YteinepnbndegdaaGreat
namespace Go.Proofs.YteinepnbndegdaaGreat
open Tryz
set_option maxRecDepth 100000
attribute [local go_sem] Go.Oper.semAt_some
open Go Go.RowKit Go.Shelf
def J9 (ys:List Int):Nat->Int
 | 0=>0
 | m+1=>bits .or .u64 (J9 ys m) (IntKind.wrap .u64 (ys[m]?.getD 0*2 ^ (8*m)))
def JF (xs:List Int) (k:Nat):Int:=J9 ((xs.drop (8*k)).take 8) ((xs.drop (8*k)).take 8).length
def gN (xs:List Int):Nat:=(xs.length+7) / 8
theorem Z8h {a b:Nat} (h:a<=b):List.range a <+: List.range b:=by
 obtain⟨d,rfl⟩:∃d,b=a+d:=⟨b - a,by omega⟩;rw[List.range_add];exact List.prefix_append _ _
theorem meas {L k:Nat} {a b:Int} (h:8*k<L) (z:a=8*(k:Int)) (hb:b=8*(k:Int)+8):L+8 - (intOf (.int .i64 b)).toNat<L+8 - (intOf (.int .i64 a)).toNat:=by
 subst z hb;simp only[intOf];omega
structure BytesAt (W:World) (Bm b o cap:Nat) (a:Option Addr) (xs:List Int):Prop where
 box:W.cell? ⟨Bm,0,none⟩=some (.slice a xs.length cap)
 WA:xs≠[]->a=some ⟨b,o,none⟩
 cells:∀j (h:j<xs.length),W.cell? ⟨b,o+j,none⟩=some (.int .u8 xs[j])
 len:xs.length<=cap
 max:cap<=maxLen
 bd:∀x∈xs,0<=x/\x<256
set_option maxHeartbeats 1000000 in
theorem g1_in (F:Fence) (n:Nat) (hG1:F.fn 252) (hro:F.round=none) (hn:1<=n) (xs:List Int) (G:xs.length<=4611686018427387904) (b o cap:Nat) (a:Option Addr) (l Bm:Nat) (J Jx:List Nat->World->Prop)
  (hY:∀pre x W,J pre W->pre.length<gN xs->YieldAt F (n - 1) Tryz.prog l #[.int .u64 (JF xs x)] W fun e W' =>
   (e = .returned (.bool true)/\J (pre++[x]) W' /\ (BytesAt W Bm b o cap a xs->BytesAt W' Bm b o cap a xs))\/(e = .returned (.bool false)/\Jx (pre++[x]) W'))
  (W:World) (hB:BytesAt W Bm b o cap a xs) (h0:J [] W) :
  CallsIn F n Tryz.prog 252 #[.func (.yield l) #[] #[],.pointer (some ⟨Bm,0,none⟩)] W fun e W' =>(∃v,e = .returned v) /\
   ((∃ys,ys=List.range (gN xs)/\J ys W')\/(∃pre,pre <+: List.range (gN xs)/\Jx pre W')):=by
 refine callsIn_of_wp func252 rfl hG1 ?_ hro;simp only[Tryz.ntmps252,List.size_toArray,List.length_cons,List.length_nil,Nat.reduceAdd,Nat.reduceSub,Array.replicate_succ,Array.replicate_zero,List.push_toArray,List.append_toArray,List.nil_append,List.cons_append]
 gi_wp2
 gi_loopw [3] (fun i wr=>∃k:Nat,k<=gN xs/\i = .int .i64 ((8*k:Nat):Int)/\J (List.range k) wr/\BytesAt wr Bm b o cap a xs)
  (fun i _=>xs.length+8 - (intOf i).toNat)
 case atStart=>exact⟨0,by omega,rfl,by simpa using h0,hB⟩
 case round=>
  obtain⟨k,hk,rfl,hJ,hb⟩:=hrel;have hbox:=hb.box
  by_cases S:8*k<xs.length
  ·have hl:=hb.len;have hne:xs≠[]:=by rintro rfl;simp at S
   obtain rfl:=hb.WA hne;have hw:wrap64 (8*(k:Int)+8)=8*(k:Int)+8:=by unfold wrap64;omega
   have c1:(8*(k:Int)<xs.length):=by omega
   have c2:(0<=8*(k:Int)+8):=by omega
   have c3:(0<=8*(k:Int)):=by omega
   have c4:(8*(k:Int)<=8*(k:Int)+8):=by omega
   have c5:((xs.length:Int)<=cap):=by omega
   by_cases h8:8*k+8<=xs.length
   ·have d1:¬((xs.length:Int)<8*(k:Int)+8):=by omega
    have d2:(8*(k:Int)+8<=cap):=by omega
    have d3:(8*(k:Int)+8).toNat=8*k+8:=by omega
    have HL:=Lib.hid hl;have HE:=Lib.hid G;have HT:=Lib.hid S;have HK:=Lib.hid hk;have H8:=Lib.hid h8;clear hl hne S hk h8 G
    gi_wp2
    gi_loopw [4,22] (fun acc j wi=>∃m:Nat,m<=8/\j = .int .i64 (m:Int)/\acc = .int .u64 (J9 ((xs.drop (8*k)).take 8) m)/\J (List.range k) wi/\BytesAt wi Bm b o cap (some ⟨b,o,none⟩) xs)
     (fun _ j _=>8 - (intOf j).toNat)
    case atStart=>exact⟨0,by omega,rfl,rfl,hJ,hb⟩
    case round=>
     obtain⟨m,hm,rfl,rfl,I,C⟩:=hrel;have hb2b:=C.box
     by_cases hm8:m<8
     ·have e1:((m:Int)<8):=by omega
      have e2:(0<=(m:Int)):=by omega
      have e3:m<8:=hm8;have hj:8*k+m<xs.length:=by have:=H8.out;omega
      have hcell:wr.cell? ⟨b,o+8*k+m,none⟩=some (.int .u8 xs[8*k+m]):=by rw[Nat.add_assoc];exact C.cells _ hj
      obtain⟨bd1,bd2⟩:=C.bd _ (List.getElem_mem hj);have e4:IntKind.wrap .u64 xs[8*k+m]=xs[8*k+m]:=by simp only[IntKind.wrap,IntKind.signed,IntKind.bits,Bool.false_and,Bool.false_eq_true,if_false];omega
      have e5:wrap64 (8*(m:Int))=8*(m:Int):=by unfold wrap64;omega
      clear hm;have Q:J9 ((xs.drop (8*k)).take 8) (m+1)=bits .or .u64 (J9 ((xs.drop (8*k)).take 8) m) (IntKind.wrap .u64 (xs[8*k+m]*2 ^ (8*m))):=by
       simp only[J9];rw[List.getElem?_take,if_pos hm8,List.getElem?_drop,List.getElem?_eq_getElem hj];rfl
      have HG:=Lib.hid Q;clear Q
      gi_wp2
      go_roundw
      case rel=>exact⟨m+1,by omega,by go_num,by rw[HG.out],I,C⟩
      case measure=>simp[intOf];omega
     ·obtain rfl:m=8:=by omega
      have hb3:=C;obtain⟨fn,tmps,Y,body,hy,hR⟩:=hY (List.range k) k wr I (by have:=H8.out;simp[gN];omega);have hg:J9 ((xs.drop (8*k)).take 8) 8=JF xs k:=by
       have:=H8.out;unfold JF;rw[show ((xs.drop (8*k)).take 8).length=8 by simp;omega]
      have z:List.range k++[k]=List.range (k+1):=List.range_succ.symm;have D:List.range (k+1) <+: List.range (gN xs):=Z8h (by have:=HT.out;unfold gN;omega);rw[z]at hR;have HS:=Lib.hid z;have HP:=Lib.hid D;clear z D
      gi_wp2
      refine hR.mono ?_
      rintro e W3 (⟨rfl,hJ3,R⟩|⟨rfl,M⟩)
      ·have hb4:=R hb3;clear R
       gi_wp2
       go_roundw
       case rel=>exact⟨k+1,by have:=HT.out;unfold gN;omega,by simp only[Value.int.injEq,true_and];omega,hJ3,hb4⟩
       case measure=>exact meas (by have:=HT.out;omega) (by omega) (by omega)
      ·gi_wp2
       refine bodyPost_ret (results_none rfl _ _ _) rfl ?_;exact⟨⟨_,rfl⟩,.inr ⟨_,HP.out,M⟩⟩
   ·have d1:((xs.length:Int)<8*(k:Int)+8):=by omega
    have d2:(8*(k:Int)<=xs.length):=by omega
    obtain⟨q,hq⟩:∃q,xs.length - 8*k=q:=⟨_,rfl⟩;have d3:(0<=(xs.length:Int)):=by omega
    have HQ:=Lib.hid hq;have HL:=Lib.hid hl;have HE:=Lib.hid G;have HT:=Lib.hid S;have HK:=Lib.hid hk;have H8:=Lib.hid h8;clear hl hne S hk h8 G
    gi_wp2
    gi_loopw [4,22] (fun acc j wi=>∃m:Nat,m<=q/\j = .int .i64 (m:Int)/\acc = .int .u64 (J9 ((xs.drop (8*k)).take 8) m)/\J (List.range k) wi/\BytesAt wi Bm b o cap (some ⟨b,o,none⟩) xs)
     (fun _ j _=>q - (intOf j).toNat)
    case atStart=>exact⟨0,by omega,rfl,rfl,hJ,hb⟩
    case round=>
     obtain⟨m,hm,rfl,rfl,I,C⟩:=hrel;have hb2b:=C.box
     by_cases hm8:m<q
     ·have e1:((m:Int)<q):=by omega
      have e2:(0<=(m:Int)):=by omega
      have e3:m<xs.length - 8*k:=by have:=HQ.out;omega
      have hj:8*k+m<xs.length:=by have:=HQ.out;omega
      have hcell:wr.cell? ⟨b,o+8*k+m,none⟩=some (.int .u8 xs[8*k+m]):=by rw[Nat.add_assoc];exact C.cells _ hj
      obtain⟨bd1,bd2⟩:=C.bd _ (List.getElem_mem hj);have e4:IntKind.wrap .u64 xs[8*k+m]=xs[8*k+m]:=by simp only[IntKind.wrap,IntKind.signed,IntKind.bits,Bool.false_and,Bool.false_eq_true,if_false];omega
      have e5:wrap64 (8*(m:Int))=8*(m:Int):=by have:=HQ.out;have:=H8.out;unfold wrap64;omega
      clear hm;have Q:J9 ((xs.drop (8*k)).take 8) (m+1)=bits .or .u64 (J9 ((xs.drop (8*k)).take 8) m) (IntKind.wrap .u64 (xs[8*k+m]*2 ^ (8*m))):=by
       simp only[J9];rw[List.getElem?_take,if_pos (by have:=HQ.out;have:=H8.out;omega),List.getElem?_drop,List.getElem?_eq_getElem hj];rfl
      have HG:=Lib.hid Q;clear Q
      gi_wp2
      go_roundw
      case rel=>exact⟨m+1,by omega,by go_num,by rw[HG.out],I,C⟩
      case measure=>simp[intOf];omega
     ·obtain rfl:m=q:=by omega
      have hb3:=C;obtain⟨fn,tmps,Y,body,hy,hR⟩:=hY (List.range k) k wr I (by have:=HT.out;simp[gN];omega);have hg:J9 ((xs.drop (8*k)).take 8) m=JF xs k:=by
       have:=H8.out;unfold JF;rw[show ((xs.drop (8*k)).take 8).length=m by have:=HQ.out;simp only[List.length_take,List.length_drop];omega]
      have z:List.range k++[k]=List.range (k+1):=List.range_succ.symm;have D:List.range (k+1) <+: List.range (gN xs):=Z8h (by have:=HT.out;unfold gN;omega);rw[z]at hR;have HS:=Lib.hid z;have HP:=Lib.hid D;clear z D
      gi_wp2
      refine hR.mono ?_
      rintro e W3 (⟨rfl,hJ3,R⟩|⟨rfl,M⟩)
      ·have hb4:=R hb3;clear R
       gi_wp2
       go_roundw
       case rel=>exact⟨k+1,by have:=HT.out;unfold gN;omega,by simp only[Value.int.injEq,true_and];omega,hJ3,hb4⟩
       case measure=>exact meas (by have:=HT.out;omega) (by omega) (by omega)
      ·gi_wp2
       refine bodyPost_ret (results_none rfl _ _ _) rfl ?_;exact⟨⟨_,rfl⟩,.inr ⟨_,HP.out,M⟩⟩
  ·have hkk:k<=(xs.length+7) / 8:=hk;have hdone:k=gN xs:=by unfold gN;omega
   rw[hdone]at hJ;have c1:¬(8*(k:Int)<xs.length):=by omega
   gi_wp2
   go_end0
   exact⟨⟨_,rfl⟩,.inl hJ⟩
def TB (z:Int->Int->Option Int) (k:Int) (xs:List Int):Option Int:=
 if xs.length<=4611686018427387904 then (z k xs.length).bind fun s=>(List.range (gN xs)).foldlM (fun s g=>z k (bits .xor .u64 s (JF xs g))) s else none
def YO (F:Fence) (z:Int->Int->Option Int):Prop:=∀k s r,(Lit.int .u64 k).wf=true->(Lit.int .u64 s).wf=true->z k s=some r->(Lit.int .u64 r).wf=true /\
 ∀n w,CallsIn F n Tryz.prog 218 #[.int .u64 k,.int .u64 s] w fun e w' =>e = .returned (.int .u64 r)/\Below w.heap.size w w'
structure LW (W:World) (b o cap:Nat) (a:Option Addr) (xs:List Int):Prop where
 WA:xs≠[]->a=some ⟨b,o,none⟩
 cells:∀j (h:j<xs.length),W.cell? ⟨b,o+j,none⟩=some (.int .u8 xs[j])
 len:xs.length<=cap
 max:cap<=maxLen
 bd:∀x∈xs,0<=x/\x<256
theorem LW.below {W z : World} {n b o cap:Nat} {a:Option Addr} {xs:List Int} (h:LW W b o cap a xs) (hb:Below n W z) (hn:W.heap.size<=n\/b<n):LW z b o cap a xs:=
 ⟨h.WA,fun j C=>(hb.cell (p:=⟨b,o+j,none⟩) (by
  rcases hn with hn|hn
  ·exact Nat.lt_of_lt_of_le (by have:=h.cells j C;unfold World.cell? at this;split at this<;>first|exact(Array.getElem?_eq_some_iff.1 ‹_›).1|cases this) hn
  ·exact hn)).trans (h.cells j C),h.len,h.max,h.bd⟩
theorem BytesAt.of {W:World} {Bm b o cap:Nat} {a:Option Addr} {xs:List Int} (h:LW W b o cap a xs) (hb:W.cell? ⟨Bm,0,none⟩=some (.slice a xs.length cap)):BytesAt W Bm b o cap a xs:=⟨hb,h.WA,h.cells,h.len,h.max,h.bd⟩
theorem BytesAt.row {W:World} {Bm b o cap:Nat} {a:Option Addr} {xs:List Int} (h:BytesAt W Bm b o cap a xs):LW W b o cap a xs:=⟨h.WA,h.cells,h.len,h.max,h.bd⟩
theorem LW.same {W z : World} {b o cap:Nat} {a:Option Addr} {xs:List Int} (h:LW W b o cap a xs) (hb:xs≠[]->z.heap[b]? = W.heap[b]?):LW z b o cap a xs:=
 ⟨h.WA,fun j C=>(World.cell?_of_block (hb (by rintro rfl;cases C))).trans (h.cells j C),h.len,h.max,h.bd⟩
theorem LW.lt {W:World} {b o cap:Nat} {a:Option Addr} {xs:List Int} (h:LW W b o cap a xs) (z:xs≠[]):b<W.heap.size:=by
 have:=h.cells 0 (List.length_pos_iff.2 z);unfold World.cell? at this;split at this<;>first|exact(Array.getElem?_eq_some_iff.1 ‹_›).1|cases this
structure Yb (k:Int) (w:World) (n5:Nat) (s:Int) (W:World):Prop where
 key:Boxed W w.heap.size 41 (.int .u64 k)
 st:Boxed W n5 40 (.int .u64 s)
 below:Below w.heap.size w W
theorem Z7d {W z : World} {row:Option Nat} {B B0:Nat} {t:TypeId} {v:Value} (h:Boxed W B t v) (D:W.grownBy z row) (G:∀r,row=some r->B0<=r/\∃o:Obj,W.heap[r]? = some o/\o.isCells=false):Boxed z B t v:=by
 refine h.kept D ?_;intro e;obtain⟨_,o,C,hc⟩:=G B e.symm;rw[show W.heap[B]? = _ from h]at C;cases C;cases hc
theorem Yb.own {k:Int} {w:World} {n5:Nat} {s:Int} {W W' : World} {row:Option Nat} {B0:Nat} (D:w.heap.size<=B0) (h:Yb k w n5 s W) (z:W.grownBy W' row) (C:∀r,row=some r->B0<=r/\∃o:Obj,W.heap[r]? = some o/\o.isCells=false):Yb k w n5 s W' :=
 ⟨Z7d h.key z C,Z7d h.st z C,h.below.grown z h.below.size (fun k e=>Nat.le_trans D (C k e).1)⟩
theorem wf_x (a b:Int):(Lit.int .u64 (bits .xor .u64 a b)).wf=true:=by
 have:=bits_within .xor .u64 a b;simp only[Lit.wf,Bool.and_eq_true,decide_eq_true_eq];exact this
theorem ZnR (F:Fence) (n:Nat) (C:F.fn 219) (z:F.round=none) (a:Option Addr) (l c:Nat) (w:World) :
  CallsIn F n Tryz.prog 219 #[.slice a l c] w fun e w' =>e = .returned (.func (.func 252) #[] #[.pointer (some ⟨w.heap.size,0,none⟩)])/\w' = w.alloc (.cells #[.slice a l c] 27):=by
 refine callsIn_of_wp func219 rfl C ?_ z;simp only[Tryz.ntmps219,List.size_toArray,List.length_cons,List.length_nil,Nat.reduceAdd,Nat.reduceSub,Array.replicate_succ,Array.replicate_zero,List.push_toArray,List.append_toArray,List.nil_append,List.cons_append]
 gi_wp2
 go_ret
 exact⟨rfl,rfl⟩
set_option maxHeartbeats 2000000 in
theorem ZaQ (F:Fence) (hMIX:F.fn 218) (hG:F.fn 219) (hG1:F.fn 252) (hSELF:F.fn 169) (hro:F.round=none) (mx:Int->Int->Option Int) (hM:YO F mx) (hT:∀k s,(Lit.int .u64 s).wf=true->∃r,mx k s=some r) (n:Nat) (hn:3<=n) (k:Int) (xs:List Int) (r:Int) (hk:(Lit.int .u64 k).wf=true) (Q:TB mx k xs=some r) (b o cap:Nat) (a:Option Addr) (w:World) (hB:LW w b o cap a xs) :
  CallsIn F n Tryz.prog 169 #[.int .u64 k,.slice a xs.length cap] w fun e W' =>e = .returned (.int .u64 r)/\Below w.heap.size w W' :=by
 unfold TB at Q;split at Q
 ·rename_i Y;cases h0:mx k xs.length with
  | none=>rw[h0]at Q;cases Q
  | some s0=>
   rw[h0]at Q;change (List.range (gN xs)).foldlM (fun s g=>mx k (bits .xor .u64 s (JF xs g))) s0=some r at Q;have hlw:(Lit.int .u64 (xs.length:Int)).wf=true:=by simp[Lit.wf,IntKind.min,IntKind.max,IntKind.signed,IntKind.bits];omega
   obtain⟨hs0,hC⟩:=hM k xs.length s0 hk hlw h0;have h1:1<=n:=by omega
   refine callsIn_of_wp_marks func169 rfl hSELF ?_ hro;simp only[Tryz.ntmps169,List.size_toArray,List.length_cons,List.length_nil,Nat.reduceAdd,Nat.reduceSub,Array.replicate_succ,Array.replicate_zero,List.push_toArray,List.append_toArray,List.nil_append,List.cons_append];have hcv:IntKind.wrap .u64 (xs.length:Int)=xs.length:=by simp only[IntKind.wrap,IntKind.signed,IntKind.bits,Bool.false_and,Bool.false_eq_true,if_false];omega
   have HR:=Lib.hid Q;have HS:=Lib.hid hs0;have HL:=Lib.hid Y;clear Q hs0 Y
   gi_wp2_with (gi_at_call 218;refine(hC (n - 1) _).mono ?_;rintro e z ⟨rfl,hb1⟩)
   gi_wp2_with (gi_at_call 219;refine(ZnR F (n - 1) hG hro _ _ _ _).mono ?_;rintro e w2 ⟨rfl,rfl⟩)
   have hb1' : w.heap.size<z.heap.size:=by have:=hb1.size;simp at this;omega
   obtain⟨W0,R⟩:∃W0,(z.alloc (Obj.cells #[Value.int IntKind.u64 s0] 40)).alloc (Obj.cells #[Value.slice a xs.length cap] 27)=W0:=⟨_,rfl⟩;have hk1:Boxed z w.heap.size 41 (.int .u64 k):=(hb1.block _ (by simp)).trans (Boxed.new w 41 _);have hI0:Yb k w z.heap.size s0 W0:=by
    rw[<- R];refine⟨(hk1.alloc _).alloc _,(Boxed.new z 40 (.int .u64 s0)).alloc _,?_⟩;exact(((((Below.refl _ w).alloc (Nat.le_refl _) _).trans (hb1.mono (by simp))).alloc (Nat.le_of_lt hb1') _).alloc (by simp;omega) _)
   have G:BytesAt W0 (z.heap.size+1) b o cap a xs:=by
    refine BytesAt.of (hB.below hI0.below (.inl (Nat.le_refl _))) ?_;rw[<- R];simp
   have hs0' : W0.heap.size=z.heap.size+2:=by rw[<- R];simp
   rw[R];have HB:=Lib.hid G;clear R hk1;refine wpIn_rangeFunc_ownG hro h1 (gf:=252) (lb:=#[.pointer (some ⟨z.heap.size+1,0,none⟩)]) rfl hG1 (enters_of func252 (by kernel_rfl) rfl) (α:=Nat) (encs:=fun x=>#[Value.int .u64 (JF xs x)])
    (Kp:=fun A B=>BytesAt A (z.heap.size+1) b o cap a xs->BytesAt B (z.heap.size+1) b o cap a xs) (S:=fun ys=>ys=List.range (gN xs)) (Sp:=fun pre=>pre <+: List.range (gN xs)) (N:=gN xs) (w0:=W0)
    (fun l J Jx W hW _ _ hY hJ=>g1_in F (n - 1) hG1 hro (by omega) xs HL.out b o cap a l (z.heap.size+1) J Jx (fun pre x W1 h1 h2=>hY pre x W1 h1 h2)
     W (BytesAt.of (G.row.below hW (.inl (Nat.le_refl _))) ((hW.cell (p:=⟨z.heap.size+1,0,none⟩) (by simp;omega)).trans G.box)) hJ)
    (fun h k=>fun x=>k (h x))
    (fun W l o o' hl ho hc _ M=>BytesAt.of (M.row.same fun hx=>World.putObj_heap_other (by have:=G.row.lt hx;omega)) ((World.cell?_of_block (World.putObj_heap_other (by simp only;omega))).trans M.box))
    (Below.refl _ _) (fun _=>rfl)
    (fun pre W=>∃s,pre.foldlM (fun s g=>mx k (bits .xor .u64 s (JF xs g))) s0=some s/\(Lit.int .u64 s).wf=true/\Yb k w z.heap.size s W)
    (fun _ _ _=>False)
    (fun p A B row hs hg Q=>by obtain⟨s,q1,q2,q3⟩:=hs;exact⟨s,q1,q2,q3.own (by omega) hg Q⟩)
    (fun c p A B row hs hg Q=>hs)
    ⟨s0,rfl,HS.out,hI0⟩
    (fun x=>{ tmps:=#[.int .u64 k,.slice a xs.length cap,.pointer (some ⟨w.heap.size,0,none⟩),undef,.int .u64 0,.pointer (some ⟨z.heap.size,0,none⟩),.int .u64 (JF xs x),.int .u64 k,.slice a xs.length cap,.int .i64 xs.length,.int .u64 xs.length,.int .u64 s0,.slice a xs.length cap,.func (.func 252) #[] #[.pointer (some ⟨z.heap.size+1,0,none⟩)],.int .u64 (JF xs x),undef,undef,undef,undef,undef,undef],defers:=[] }) ?assign ?body ?done ?stop
   case assign=>
    intro l x W K hK
    gi_wp2
    exact hK
   case body=>
    rintro l pre x W ⟨s,q1,q2,I⟩ Y
    obtain⟨r',hr'⟩:=hT k (bits .xor .u64 s (JF xs x)) (wf_x _ _);obtain⟨hw',hC'⟩:=hM k _ r' hk (wf_x _ _) hr';have hc0:=I.key.cell;have hc1:=I.st.cell;have hf1:=I.st.frozen;have hMIXl:(F.inRound l).fn 218:=hMIX;have h3:1<=n - 1 - 1:=by omega
    gi_wp2_with (gi_at_call 218;refine(CallsIn.inRound l (hC' (n - 1 - 1 - 1) _)).mono ?_;rintro e W2 ⟨rfl,C⟩;have hst2:Boxed W2 z.heap.size 40 (.int .u64 s):=(C.block _ I.st.lt).trans I.st;have hky2:Boxed W2 w.heap.size 41 (.int .u64 k):=(C.block _ I.key.lt).trans I.key;have hc2:=hst2.cell;have hf2:=hst2.frozen;clear hc0 hc1 hf1)
    refine⟨KeepsFrom.trans ⟨C.size,fun j o _ hj _=>(C.block _ (Array.getElem?_eq_some_iff.1 hj).1).trans hj⟩ (KeepsFrom.of_grownBy (grownBy_setCell' W2 _ _) (fun j e=>by cases e;omega)),fun M=>?_,r',?_,hw',?_⟩
    ·refine BytesAt.of ((M.row.below C (.inl (Nat.le_refl _))).same fun hx=>Below.heap_setCell _ _ _ _ (by have:=hB.lt hx;simp only;omega)) ?_;have hbm:z.heap.size+1<W.heap.size:=by
      have:=M.box;unfold World.cell? at this;split at this<;>first|exact(Array.getElem?_eq_some_iff.1 ‹_›).1|cases this
     exact(World.cell?_of_block (Below.heap_setCell _ _ _ _ (by simp only;omega))).trans ((C.cell (p:=⟨z.heap.size+1,0,none⟩) hbm).trans M.box)
    ·simp only[List.foldlM_append,q1,List.foldlM_cons,List.foldlM_nil,Option.bind_eq_bind,Option.bind_some,hr',Option.pure_def]
    ·exact⟨(Below.heap_setCell _ _ _ _ (by simp only;omega)).trans hky2,hst2.set _,(I.below.trans (C.mono I.below.size)).setCell (p:=⟨z.heap.size,0,none⟩) (Nat.le_of_lt hb1') _⟩
   case done=>
    rintro D ys W hD rfl ⟨s,q1,q2,I⟩ hK
    have hsr:s=r:=Option.some.inj (q1.symm.trans HR.out);subst hsr;have hc1:=I.st.cell;have hf1:=I.st.frozen
    gi_wp2
    refine⟨by simp,.inl ⟨_,_,rfl,run_takeDeferred hK,?_⟩⟩;refine⟨.int .u64 s,?_,?_,?_⟩
    ·simp[results,f169,go_sem]
    ·rfl
    ·exact I.below.trans (belowK_b (w:=w) (Nat.le_refl _) _ D _ _ (by omega) hK rfl rfl)
   case stop=>
    rintro D c pre W hD hp hf hK
    exact hf.elim
 ·cases Q
open Go.Proofs.YteinepnbndegdaaGreat.Le
theorem ZlQ {σ:Sg} {w:World}:∀{xs:List Int} {us:List Value},AL σ w (xs.map fun x=>V.lit (.int .u8 x)) us->us=xs.map (fun x=>Value.int .u8 x)/\∀x∈xs,0<=x/\x<256:=by
 intro xs;induction xs with
 | nil=>intro us h;cases h.Dx;exact⟨rfl,by simp⟩
 | cons x xs J=>
  intro us h;obtain⟨v,vs,rfl,z,C⟩:=h.Bd;obtain⟨G,I⟩:=J C;cases z with
  | lit D _=>
   refine⟨by rw[G];rfl,fun y hy=>?_⟩;rcases List.mem_cons.1 hy with rfl|hy
   ·simp[leaf,Lit.wf,IntKind.min,IntKind.max,IntKind.signed,IntKind.bits]at D;omega
   ·exact I y hy
theorem row_of {σ:Sg} {w:World} {xs:List Int} {v:Value} (h:AL σ w [.sl false 1 (xs.map fun x=>V.lit (.int .u8 x))] [v]):∃a b o cap,v = .slice a xs.length cap/\LW w b o cap a xs:=by
 generalize z:(xs.map fun x=>V.lit (.int .u8 x))=es at h;cases h with
 | EI _=>
  have:xs=[]:=by simpa using z
  subst this;exact⟨none,0,0,0,rfl,⟨fun h=>absurd rfl h,fun j C=>(by cases C),Nat.le_refl _,Nat.zero_le _,by simp⟩⟩
 | Et a _=>
  have:xs=[]:=by simpa using z
  subst this;exact⟨_,0,0,_,rfl,⟨fun h=>absurd rfl h,fun j C=>(by cases C),Nat.zero_le _,by first|exact Nat.zero_le _|assumption,by simp⟩⟩
 | sl b o c e G R S Y I J M _=>
  subst z;obtain⟨rfl,D⟩:=ZlQ G;refine⟨_,b,o,c,by rw[List.length_map],⟨fun _=>rfl,fun j C=>?_,by simpa using I,J,D⟩⟩;refine(M j (.int .u8 xs[j]) ?_).2;have:∀l:List Int,flat (l.map fun x=>Value.int .u8 x)=l.map fun x=>Value.int .u8 x:=by
   intro l;induction l with
   | nil=>rfl
   | cons y l Q=>rw[List.map_cons,KD,Q];rfl
  rw[this,List.getElem?_map,List.getElem?_eq_getElem C];rfl
theorem ZaP (n:Int):0<=IntKind.wrap .u64 n:=by simp only[IntKind.wrap,IntKind.signed,IntKind.bits,Bool.false_and,Bool.false_eq_true,if_false];omega
theorem Z9V (a b:Int):0<=bits .and .u64 a b:=(bits_within .and .u64 a b).1
theorem ZrI (a b:Int):∃r,Pz a b=some r:=⟨_,(AQ _ _).trans (by simp only[pG,Tr.den,GN,ZaP,Z9V,decide_true,cond_true];rfl)⟩
theorem Zal (a b:Int):∃r,NV a b=some r:=⟨_,(AQ _ _).trans (by simp only[pI,Tr.den,GN,ZaP,Z9V,decide_true,cond_true];rfl)⟩
theorem Z9M (a:Int):∃r,Na a 32=some r:=⟨_,(AQ _ _).trans (by simp[fG,Tr.den,GN];rfl)⟩
theorem ZqH (a:Int):∃r,Ua a=some r:=by
 obtain⟨x,z⟩:=Z9M a;exact⟨_,(AQ _ _).trans (by simp only[dZ,Tr.den,GN,z,Option.bind_some];rfl)⟩
theorem Zax (a:I9):∃r,RF a=some r:=⟨_,(AQ _ _).trans (by simp only[aZ,Tr.den,GN];rfl)⟩
theorem ZpL (a b c:Int):∃r,RQ a b c=some r:=by
 obtain⟨x1,z⟩:=ZrI a (Int.tmod (Ad ((11:Int)*(Int.tmod b (64:Int)))) (64:Int));obtain⟨x2,C⟩:=Z9M x1;obtain⟨x3,D⟩:=Zal (IntKind.wrap .u32 (c+(IntKind.wrap .u32 (x2)))) 7;obtain⟨x4,G⟩:=Zal (IntKind.wrap .u32 (x2)) 16;exact⟨_,(AQ _ _).trans (by simp only[dY,Tr.den,GN,z,C,D,G,Option.bind_some];rfl)⟩
theorem Zs3 (k:Int):∀(n:Nat) (i:Int) (h:I9),0<=i->8 - i<=n->∃r,AY GY (.b1 k i h)=some r:=by
 intro n;induction n with
 | zero=>
  intro i h C D;obtain⟨r,z⟩:=Zax h;have:decide (i<(8:Int))=false:=by simp;omega
  exact⟨r,(AQ _ _).trans (by simp only[GY,Tr.den,GN,this,cond_false,z,Option.bind_some])⟩
 | succ n J=>
  intro i h C D
  by_cases hi:i<8
  ·obtain⟨x,I⟩:=ZpL k i h.x1;have G:Ad (i+1)=i+1:=by simp[Ad,IntKind.wrap,IntKind.signed,IntKind.bits];split<;>omega
   obtain⟨r,z⟩:=J (i+1) ⟨h.x1,bits .xor .u32 h.x0 x⟩ (by omega) (by omega);have:decide (i<(8:Int))=true:=by simp[hi]
   exact⟨r,(AQ _ _).trans (by simp only[GY,Tr.den,GN,this,cond_true,I,Option.bind_some,G,z])⟩
  ·obtain⟨r,z⟩:=Zax h;have:decide (i<(8:Int))=false:=by simp;omega
   exact⟨r,(AQ _ _).trans (by simp only[GY,Tr.den,GN,this,cond_false,z,Option.bind_some])⟩
theorem Z1d (k s:Int):∃r,Ia k s=some r:=by
 obtain⟨x,C⟩:=ZqH s;obtain⟨r,z⟩:=Zs3 k 8 0 x (by omega) (by omega);exact⟨r,(AQ _ _).trans (by simp only[GY,Tr.den,GN,C,Option.bind_some,z])⟩
theorem Z0p (ok:AA0 218 y7):YO Fence.wide Ia:=by
 intro k s r D J I;have key:∀w,Calls Tryz.prog 218 #[.int .u64 k,.int .u64 s] w fun e w' =>(e = .returned (.int .u64 r)/\Below w.heap.size w w')/\(Lit.int .u64 r).wf=true:=fun w=>by
  have:=ok.pure (k,s,()) r I (fun _ _=>False) w [.int .u64 k,.int .u64 s] (fun _ _ h=>h.elim) (fun g r h=>by cases h) (.lit D (.lit J .nil));refine this.mono ?_
  rintro e w' ⟨u,z,rfl,hb,_,_,_,C,_⟩
  cases C with
  | lit G _=>exact⟨⟨rfl,hb⟩,G⟩
 refine⟨?_,fun n w=>callsIn_wide.2 ((key w).mono fun e w' h=>h.1)⟩;obtain⟨e,w',fr,h,_⟩:=key { heap:=#[],os:=default,tape:=default,output:=default,drawn:=default } [];exact h.2
theorem fold_wf {F:Fence} {C:Int->Int->Option Int} (J:YO F C) {k:Int} (M:(Lit.int .u64 k).wf=true) {xs:List Int}:∀(l:List Nat) (s r:Int),(Lit.int .u64 s).wf=true->l.foldlM (fun s g=>C k (bits .xor .u64 s (JF xs g))) s=some r->(Lit.int .u64 r).wf=true:=by
 intro l;induction l with
 | nil=>intro s r z h;cases h;exact z
 | cons g l Q=>
  intro s r z h;rw[List.foldlM_cons]at h;obtain⟨D,G,I⟩:=Option.bind_eq_some_iff.1 h;exact Q D r (J k _ D M (Go.Proofs.YteinepnbndegdaaGreat.wf_x _ _) G).1 I
theorem ZaM {F:Fence} {G:Int->Int->Option Int} (z:YO F G) {k:Int} (C:(Lit.int .u64 k).wf=true) {xs:List Int} {r:Int} (h:TB G k xs=some r):(Lit.int .u64 r).wf=true:=by
 unfold TB at h;split at h
 ·rename_i D;obtain⟨I,J,M⟩:=Option.bind_eq_some_iff.1 h;refine fold_wf z C _ I r (z k _ I C ?_ J).1 M;simp[Lit.wf,IntKind.min,IntKind.max,IntKind.signed,IntKind.bits];omega
 ·cases h
noncomputable def Rh (k:Int) (xs:List Int):Option Int:=TB Ia k xs
noncomputable def Z7L:BF U:=⟨[41,27],40,fun x=>Rh x.1 x.2.1,by decide⟩
theorem ZkK (ok:AA0 218 y7) (Q:∀k s,(Lit.int .u64 s).wf=true->∃r,Ia k s=some r):AA0 169 Z7L:=by
 refine⟨⟨f169,func169,by kernel_rfl,by kernel_rfl⟩,?_⟩
 rintro ⟨k,xs,_⟩ r D fz w vs hcells S z
 obtain⟨Y,vs,rfl,J,z⟩:=z.Bd;obtain⟨v1,vs,rfl,M,z⟩:=z.Bd;cases z.Dx;obtain⟨a,b,o,cap,rfl,C⟩:=row_of (xs:=xs) M;cases J with
 | lit G _=>
  have R:(Lit.int .u64 r).wf=true:=ZaM (Z0p ok) G D;refine(callsIn_wide.1 (ZaQ Fence.wide trivial trivial trivial trivial rfl Ia (Z0p ok) Q 3 (by omega) k xs r G D b o cap a w C)).mono ?_
  rintro e w' ⟨rfl,hb⟩
  refine⟨_,fz,rfl,hb,fun _ _ h=>h,fun _ _ h _=>h,fun b c h=>?_,.lit R .nil,rfl⟩;obtain⟨u,I⟩:=hcells b c h;exact⟨u,(hb.cell (p:=⟨b,c,none⟩) (cell_lt I)).trans I⟩
theorem zN:AA0 169 Z7L:=ZkK fA fun k s _=>Z1d k s
end Go.Proofs.YteinepnbndegdaaGreat
namespace Go.Proofs.YteinepnbndegdaaGreat
open Tryz
open Go Go.Proofs.YteinepnbndegdaaGreat.Le
set_option maxRecDepth 100000
noncomputable section
theorem Z2H:FN Tryz.prog 36 46 480 76:=G5 FO (t:=29) (tb:=4) (e:=76) func36 (by kernel_rfl) (by kernel_rfl) (by kernel_rfl) (by kernel_rfl) (by kernel_rfl) (by kernel_rfl) (by kernel_rfl) (by decide)
def UE (a:List Ae):Option WV:=if a.length*480<=lim/\a.length<=maxLen then some ⟨a⟩ else none
def ZdK:Shape:=⟨[OV 29],[]⟩
def pV:Shape:=⟨[.one (.own 76 0)],[.row 76 true]⟩
noncomputable def bC:HMod U:={ fa:=[[.s 76 46]],fb:=[],Ba:=ZdK,FM:=pV,one:=true,ky:=1396,GV:=fun(y:WV)=>(((),()),(y.q0,())),fn:=fun x=>UE x.1.1.1,ok:=okS rfl }
theorem Z3s:Bi Tryz.prog B0 36 bC:=KE Z2H fun x y z=>by
 simp only[bC,UE]at z;split at z
 ·rename_i h;cases z;exact⟨_,rfl,rfl,by simp[bC,HMod.out,pV,Shape.enc,EU,Ej,E5,CZ,Dz,AU],by simp[bC,HMod.out,pV,Shape.enc,EU,Ej,E5,CZ,Dz,BC,BQ,BO],by simpa using h.1,by simpa using h.2⟩
 ·cases z
theorem Z2I:FN Tryz.prog 38 2 16 79:=G5 FO (t:=23) (tb:=4) (e:=79) func38 (by kernel_rfl) (by kernel_rfl) (by kernel_rfl) (by kernel_rfl) (by kernel_rfl) (by kernel_rfl) (by kernel_rfl) (by decide)
def UG (a:List BR):Option WW:=if a.length*16<=lim/\a.length<=maxLen then some ⟨a⟩ else none
def ZdI:Shape:=⟨[OV 23],[]⟩
def pY:Shape:=⟨[.one (.own 79 0)],[.row 79 true]⟩
noncomputable def bD:HMod U:={ fa:=[[.s 79 2]],fb:=[],Ba:=ZdI,FM:=pY,one:=true,ky:=1397,GV:=fun(y:WW)=>(((),()),(y.q0,())),fn:=fun x=>UG x.1.1.1,ok:=okS rfl }
theorem Z3x:Bi Tryz.prog B0 38 bD:=KE Z2I fun x y z=>by
 simp only[bD,UG]at z;split at z
 ·rename_i h;cases z;exact⟨_,rfl,rfl,by simp[bD,HMod.out,pY,Shape.enc,EU,Ej,E5,CZ,Dz,AU],by simp[bD,HMod.out,pY,Shape.enc,EU,Ej,E5,CZ,Dz,BC,BQ,BO],by simpa using h.1,by simpa using h.2⟩
 ·cases z
theorem Z2v:FN Tryz.prog 39 2 16 113:=G5 FO (t:=24) (tb:=4) (e:=113) func39 (by kernel_rfl) (by kernel_rfl) (by kernel_rfl) (by kernel_rfl) (by kernel_rfl) (by kernel_rfl) (by kernel_rfl) (by decide)
def UM (a:List DK):Option WT:=if a.length*16<=lim/\a.length<=maxLen then some ⟨a⟩ else none
def ZdD:Shape:=⟨[OV 24],[]⟩
def qA:Shape:=⟨[.one (.own 113 0)],[.row 113 true]⟩
noncomputable def aY:HMod U:={ fa:=[[.s 113 2]],fb:=[],Ba:=ZdD,FM:=qA,one:=true,ky:=1398,GV:=fun(y:WT)=>(((),()),(y.q0,())),fn:=fun x=>UM x.1.1.1,ok:=okS rfl }
theorem Z3v:Bi Tryz.prog B0 39 aY:=KE Z2v fun x y z=>by
 simp only[aY,UM]at z;split at z
 ·rename_i h;cases z;exact⟨_,rfl,rfl,by simp[aY,HMod.out,qA,Shape.enc,EU,Ej,E5,CZ,Dz,AU],by simp[aY,HMod.out,qA,Shape.enc,EU,Ej,E5,CZ,Dz,BC,BQ,BO],by simpa using h.1,by simpa using h.2⟩
 ·cases z
theorem Z2V:FN Tryz.prog 40 4 48 106:=G5 FO (t:=30) (tb:=4) (e:=106) func40 (by kernel_rfl) (by kernel_rfl) (by kernel_rfl) (by kernel_rfl) (by kernel_rfl) (by kernel_rfl) (by kernel_rfl) (by decide)
def UQ (a:List CS):Option WZ:=if a.length*48<=lim/\a.length<=maxLen then some ⟨a⟩ else none
def Zea:Shape:=⟨[OV 30],[]⟩
def qL:Shape:=⟨[.one (.own 106 0)],[.row 106 true]⟩
noncomputable def bH:HMod U:={ fa:=[[.s 106 4]],fb:=[],Ba:=Zea,FM:=qL,one:=true,ky:=1399,GV:=fun(y:WZ)=>(((),()),(y.q0,())),fn:=fun x=>UQ x.1.1.1,ok:=okS rfl }
theorem Z3D:Bi Tryz.prog B0 40 bH:=KE Z2V fun x y z=>by
 simp only[bH,UQ]at z;split at z
 ·rename_i h;cases z;exact⟨_,rfl,rfl,by simp[bH,HMod.out,qL,Shape.enc,EU,Ej,E5,CZ,Dz,AU],by simp[bH,HMod.out,qL,Shape.enc,EU,Ej,E5,CZ,Dz,BC,BQ,BO],by simpa using h.1,by simpa using h.2⟩
 ·cases z
theorem Z2J:FN Tryz.prog 41 1 1 5:=G5 FO (t:=27) (tb:=4) (e:=5) func41 (by kernel_rfl) (by kernel_rfl) (by kernel_rfl) (by kernel_rfl) (by kernel_rfl) (by kernel_rfl) (by kernel_rfl) (by decide)
def UF (a:List Int):Option UK:=if a.length*1<=lim/\a.length<=maxLen then some ⟨a⟩ else none
def ZdF:Shape:=⟨[OV 27],[]⟩
def pX:Shape:=⟨[.one (.own 5 0)],[.row 5 true]⟩
noncomputable def bF:HMod U:={ fa:=[[.s 5 1]],fb:=[],Ba:=ZdF,FM:=pX,one:=true,ky:=1400,GV:=fun(y:UK)=>(((),()),(y.q0,())),fn:=fun x=>UF x.1.1.1,ok:=okS rfl }
theorem UA:Bi Tryz.prog B0 41 bF:=KE Z2J fun x y z=>by
 simp only[bF,UF]at z;split at z
 ·rename_i h;cases z;exact⟨_,rfl,rfl,by simp[bF,HMod.out,pX,Shape.enc,EU,Ej,E5,CZ,Dz,AU],by simp[bF,HMod.out,pX,Shape.enc,EU,Ej,E5,CZ,Dz,BC,BQ,BO],by simpa using h.1,by simpa using h.2⟩
 ·cases z
theorem Z29:FN Tryz.prog 42 13 96 55:=G5 FO (t:=31) (tb:=4) (e:=55) func42 (by kernel_rfl) (by kernel_rfl) (by kernel_rfl) (by kernel_rfl) (by kernel_rfl) (by kernel_rfl) (by kernel_rfl) (by decide)
def TZ (a:List EE):Option WO:=if a.length*96<=lim/\a.length<=maxLen then some ⟨a⟩ else none
def Zcq:Shape:=⟨[OV 31],[]⟩
def oU:Shape:=⟨[.one (.own 55 0)],[.row 55 true]⟩
noncomputable def Yo:HMod U:={ fa:=[[.s 55 13]],fb:=[],Ba:=Zcq,FM:=oU,one:=true,ky:=1401,GV:=fun(y:WO)=>(((),()),(y.q0,())),fn:=fun x=>TZ x.1.1.1,ok:=okS rfl }
theorem Z2o:Bi Tryz.prog B0 42 Yo:=KE Z29 fun x y z=>by
 simp only[Yo,TZ]at z;split at z
 ·rename_i h;cases z;exact⟨_,rfl,rfl,by simp[Yo,HMod.out,oU,Shape.enc,EU,Ej,E5,CZ,Dz,AU],by simp[Yo,HMod.out,oU,Shape.enc,EU,Ej,E5,CZ,Dz,BC,BQ,BO],by simpa using h.1,by simpa using h.2⟩
 ·cases z
theorem Z2k:FN Tryz.prog 63 1 2 39:=G5 FO (t:=62) (tb:=4) (e:=39) func63 (by kernel_rfl) (by kernel_rfl) (by kernel_rfl) (by kernel_rfl) (by kernel_rfl) (by kernel_rfl) (by kernel_rfl) (by decide)
def Lu (a:List Int):Option NY:=if a.length*2<=lim/\a.length<=maxLen then some ⟨a⟩ else none
def ZcN:Shape:=⟨[OV 62],[]⟩
def pF:Shape:=⟨[.one (.own 39 0)],[.row 39 true]⟩
noncomputable def Yw:HMod U:={ fa:=[[.s 39 1]],fb:=[],Ba:=ZcN,FM:=pF,one:=true,ky:=1402,GV:=fun(y:NY)=>(((),()),(y.q0,())),fn:=fun x=>Lu x.1.1.1,ok:=okS rfl }
theorem qE:Bi Tryz.prog B0 63 Yw:=KE Z2k fun x y z=>by
 simp only[Yw,Lu]at z;split at z
 ·rename_i h;cases z;exact⟨_,rfl,rfl,by simp[Yw,HMod.out,pF,Shape.enc,EU,Ej,E5,CZ,Dz,AU],by simp[Yw,HMod.out,pF,Shape.enc,EU,Ej,E5,CZ,Dz,BC,BQ,BO],by simpa using h.1,by simpa using h.2⟩
 ·cases z
theorem Z2t:FN Tryz.prog 64 3 12 49:=G5 FO (t:=63) (tb:=4) (e:=49) func64 (by kernel_rfl) (by kernel_rfl) (by kernel_rfl) (by kernel_rfl) (by kernel_rfl) (by kernel_rfl) (by kernel_rfl) (by decide)
def QC (a:List Ar):Option RD:=if a.length*12<=lim/\a.length<=maxLen then some ⟨a⟩ else none
def Zdd:Shape:=⟨[OV 63],[]⟩
def pU:Shape:=⟨[.one (.own 49 0)],[.row 49 true]⟩
noncomputable def aJ:HMod U:={ fa:=[[.s 49 3]],fb:=[],Ba:=Zdd,FM:=pU,one:=true,ky:=1403,GV:=fun(y:RD)=>(((),()),(y.q0,())),fn:=fun x=>QC x.1.1.1,ok:=okS rfl }
theorem aC:Bi Tryz.prog B0 64 aJ:=KE Z2t fun x y z=>by
 simp only[aJ,QC]at z;split at z
 ·rename_i h;cases z;exact⟨_,rfl,rfl,by simp[aJ,HMod.out,pU,Shape.enc,EU,Ej,E5,CZ,Dz,AU],by simp[aJ,HMod.out,pU,Shape.enc,EU,Ej,E5,CZ,Dz,BC,BQ,BO],by simpa using h.1,by simpa using h.2⟩
 ·cases z
theorem Z2j:FN Tryz.prog 65 3 12 138:=G5 FO (t:=64) (tb:=4) (e:=138) func65 (by kernel_rfl) (by kernel_rfl) (by kernel_rfl) (by kernel_rfl) (by kernel_rfl) (by kernel_rfl) (by kernel_rfl) (by decide)
def O7 (a:List Ar):Option QA:=if a.length*12<=lim/\a.length<=maxLen then some ⟨a⟩ else none
def ZcT:Shape:=⟨[OV 64],[]⟩
def o9:Shape:=⟨[.one (.own 138 0)],[.row 138 true]⟩
noncomputable def aF:HMod U:={ fa:=[[.s 138 3]],fb:=[],Ba:=ZcT,FM:=o9,one:=true,ky:=1404,GV:=fun(y:QA)=>(((),()),(y.q0,())),fn:=fun x=>O7 x.1.1.1,ok:=okS rfl }
theorem Yv:Bi Tryz.prog B0 65 aF:=KE Z2j fun x y z=>by
 simp only[aF,O7]at z;split at z
 ·rename_i h;cases z;exact⟨_,rfl,rfl,by simp[aF,HMod.out,o9,Shape.enc,EU,Ej,E5,CZ,Dz,AU],by simp[aF,HMod.out,o9,Shape.enc,EU,Ej,E5,CZ,Dz,BC,BQ,BO],by simpa using h.1,by simpa using h.2⟩
 ·cases z
theorem Z2d:FN Tryz.prog 66 10 72 149:=G5 FO (t:=65) (tb:=4) (e:=149) func66 (by kernel_rfl) (by kernel_rfl) (by kernel_rfl) (by kernel_rfl) (by kernel_rfl) (by kernel_rfl) (by kernel_rfl) (by decide)
def TW (a:List DJ):Option WN:=if a.length*72<=lim/\a.length<=maxLen then some ⟨a⟩ else none
def Zcr:Shape:=⟨[OV 65],[]⟩
def oV:Shape:=⟨[.one (.own 149 0)],[.row 149 true]⟩
noncomputable def Yr:HMod U:={ fa:=[[.s 149 10]],fb:=[],Ba:=Zcr,FM:=oV,one:=true,ky:=1405,GV:=fun(y:WN)=>(((),()),(y.q0,())),fn:=fun x=>TW x.1.1.1,ok:=okS rfl }
theorem Z2q:Bi Tryz.prog B0 66 Yr:=KE Z2d fun x y z=>by
 simp only[Yr,TW]at z;split at z
 ·rename_i h;cases z;exact⟨_,rfl,rfl,by simp[Yr,HMod.out,oV,Shape.enc,EU,Ej,E5,CZ,Dz,AU],by simp[Yr,HMod.out,oV,Shape.enc,EU,Ej,E5,CZ,Dz,BC,BQ,BO],by simpa using h.1,by simpa using h.2⟩
 ·cases z
theorem Z2b:FN Tryz.prog 67 11 80 135:=G5 FO (t:=66) (tb:=4) (e:=135) func67 (by kernel_rfl) (by kernel_rfl) (by kernel_rfl) (by kernel_rfl) (by kernel_rfl) (by kernel_rfl) (by kernel_rfl) (by decide)
def TY (a:List D9):Option WJ:=if a.length*80<=lim/\a.length<=maxLen then some ⟨a⟩ else none
def Zco:Shape:=⟨[OV 66],[]⟩
def oZ:Shape:=⟨[.one (.own 135 0)],[.row 135 true]⟩
noncomputable def Yp:HMod U:={ fa:=[[.s 135 11]],fb:=[],Ba:=Zco,FM:=oZ,one:=true,ky:=1406,GV:=fun(y:WJ)=>(((),()),(y.q0,())),fn:=fun x=>TY x.1.1.1,ok:=okS rfl }
theorem Z2s:Bi Tryz.prog B0 67 Yp:=KE Z2b fun x y z=>by
 simp only[Yp,TY]at z;split at z
 ·rename_i h;cases z;exact⟨_,rfl,rfl,by simp[Yp,HMod.out,oZ,Shape.enc,EU,Ej,E5,CZ,Dz,AU],by simp[Yp,HMod.out,oZ,Shape.enc,EU,Ej,E5,CZ,Dz,BC,BQ,BO],by simpa using h.1,by simpa using h.2⟩
 ·cases z
theorem Z2m:FN Tryz.prog 69 18 136 158:=G5 FO (t:=69) (tb:=4) (e:=158) func69 (by kernel_rfl) (by kernel_rfl) (by kernel_rfl) (by kernel_rfl) (by kernel_rfl) (by kernel_rfl) (by kernel_rfl) (by decide)
def Tt (a:List Gh):Option WQ:=if a.length*136<=lim/\a.length<=maxLen then some ⟨a⟩ else none
def ZcX:Shape:=⟨[OV 69],[]⟩
def o7:Shape:=⟨[.one (.own 158 0)],[.row 158 true]⟩
noncomputable def aG:HMod U:={ fa:=[[.s 158 18]],fb:=[],Ba:=ZcX,FM:=o7,one:=true,ky:=1407,GV:=fun(y:WQ)=>(((),()),(y.q0,())),fn:=fun x=>Tt x.1.1.1,ok:=okS rfl }
theorem Z2T:Bi Tryz.prog B0 69 aG:=KE Z2m fun x y z=>by
 simp only[aG,Tt]at z;split at z
 ·rename_i h;cases z;exact⟨_,rfl,rfl,by simp[aG,HMod.out,o7,Shape.enc,EU,Ej,E5,CZ,Dz,AU],by simp[aG,HMod.out,o7,Shape.enc,EU,Ej,E5,CZ,Dz,BC,BQ,BO],by simpa using h.1,by simpa using h.2⟩
 ·cases z
theorem Z2n:FN Tryz.prog 70 3 40 120:=G5 FO (t:=74) (tb:=4) (e:=120) func70 (by kernel_rfl) (by kernel_rfl) (by kernel_rfl) (by kernel_rfl) (by kernel_rfl) (by kernel_rfl) (by kernel_rfl) (by decide)
def UC (a:List BL):Option WR:=if a.length*40<=lim/\a.length<=maxLen then some ⟨a⟩ else none
def Zd6:Shape:=⟨[OV 74],[]⟩
def pK:Shape:=⟨[.one (.own 120 0)],[.row 120 true]⟩
noncomputable def aO:HMod U:={ fa:=[[.s 120 3]],fb:=[],Ba:=Zd6,FM:=pK,one:=true,ky:=1408,GV:=fun(y:WR)=>(((),()),(y.q0,())),fn:=fun x=>UC x.1.1.1,ok:=okS rfl }
theorem Z33:Bi Tryz.prog B0 70 aO:=KE Z2n fun x y z=>by
 simp only[aO,UC]at z;split at z
 ·rename_i h;cases z;exact⟨_,rfl,rfl,by simp[aO,HMod.out,pK,Shape.enc,EU,Ej,E5,CZ,Dz,AU],by simp[aO,HMod.out,pK,Shape.enc,EU,Ej,E5,CZ,Dz,BC,BQ,BO],by simpa using h.1,by simpa using h.2⟩
 ·cases z
theorem Zc7:FN Tryz.prog 97 1 24 27:=G5 FO (t:=133) (tb:=4) (e:=27) func97 (by kernel_rfl) (by kernel_rfl) (by kernel_rfl) (by kernel_rfl) (by kernel_rfl) (by kernel_rfl) (by kernel_rfl) (by decide)
end
noncomputable section
def wP:S1 (Int×Unit) Bool
 | (a,_)=>.br (decide (a>0)) (AZ (decide (a<=32767))) (AZ false)
def MI (a:Int):Option Bool:=AY wP (a,())
theorem dW:AA1 21 [39] 4 (fun x=>MI x.1) rfl:=ok1 Az Aw func21 (fun _=>by kernel_rfl) (by kernel_rfl)
def Z6K:S1 (BR×BR×Unit) Bool
 | (a,b,_)=>.br (decide (a.A<b.A)) (AZ true) (.br (a.A==b.A) (AZ (decide (a.B<b.B))) (AZ false))
def XL (a b:BR):Option Bool:=AY Z6K (a,b,())
theorem ZjI:AA1 24 [79,79] 4 (fun x=>XL x.1 x.2.1) rfl:=ok1 Az Aw func24 (fun _=>by kernel_rfl) (by kernel_rfl)
def Zj2 (_:List (List Int)):Option (List (List Int)):=none
theorem Zii:AA1 68 [133] 133 (fun x=>Zj2 x.1) rfl:=⟨⟨_,func68,rfl,by kernel_rfl⟩,fun _ _ h=>nomatch h⟩
inductive Zb where
 | b0 (a:Ae)
 | b1 (a b:Int) (c d:Ae)
 | b2 (a b:Int) (c d:Ae)
 | b3 (a b:Int) (c d:Ae)
 | b4 (a b:Int) (c d:Ae)
def Nj:Zb->Tr U (Ae⊕Zb)
 | .b0 a=>let g:=([]:List Ar);.bind 1402 (Lu a.Ah) (fun(c:NY)=>.bind 1403 (QC a.Cache) (fun(d:RD)=>.bind 1404 (O7 a.Ai) (fun(e:QA)=>.bind 1405 (TW a.A7.Out) (fun(b:WN)=>.bind 1406 (TY a.A7.In) (fun(f:WJ)=>kl b.q0 (.chk (kL c.q0&&(kL d.q0&&(kL e.q0&&(kL b.q0&&kL f.q0)))) (Ac (.b1 (↑b.q0.length:Int) (0:Int) ({ a with Ah:=c.q0,Cache:=d.q0,Ai:=e.q0,A7:=(⟨b.q0,f.q0⟩:BV) }:Ae) (⟨0,0,0,dP,ED,0,false,false,([]:List Int),g,g,(⟨([]:List DJ),([]:List D9)⟩:BV),Gu,En,([]:List BL),0,false⟩:Ae)))))))))
 | .b1 b c a d=>.br (decide (c<b)) (.fail) (kl a.A7.In (.chk (kL a.Ah&&(kL a.Cache&&(kL a.Ai&&(kL a.A7.Out&&kL a.A7.In)))) (Ac (.b2 (↑a.A7.In.length:Int) (0:Int) a d))))
 | .b2 e f a g=>.br (decide (f<e)) (.fail) (.bind 1402 (Lu a.AB.AO) (fun(c:NY)=>.bind 1407 (Tt a.AB.Aa) (fun(b:WQ)=>.bind 1402 (Lu a.Low.AO) (fun(d:NY)=>kl b.q0 (.chk (kL a.Ah&&(kL a.Cache&&(kL a.Ai&&(kL a.A7.Out&&(kL a.A7.In&&(kL b.q0&&(kL c.q0&&kL d.q0))))))) (Ac (.b3 (↑b.q0.length:Int) (0:Int) ({ a with AB:=({ a.AB with Aa:=b.q0,AO:=c.q0 }:EG),Low:=({ a.Low with AO:=d.q0 }:Df) }:Ae) g)))))))
 | .b3 c d a e=>.br (decide (d<c)) (.fail) (.bind 1408 (UC a.Out) (fun(b:WR)=>kl b.q0 (.chk (kL a.Ah&&(kL a.Cache&&(kL a.Ai&&(kL a.A7.Out&&(kL a.A7.In&&(kL a.AB.Aa&&(kL a.AB.AO&&(kL a.Low.AO&&kL b.q0)))))))) (Ac (.b4 (↑b.q0.length:Int) (0:Int) ({ a with Out:=b.q0 }:Ae) e)))))
 | .b4 b c a d=>.br (decide (c<b)) (.fail) (kl a.Ah (kl a.Cache (kl a.Ai (kl a.A7.Out (kl a.A7.In (kl a.AB.Aa (kl a.AB.AO (kl a.Low.AO (kl a.Out (AZ a))))))))))
def Om (a:Ae):Option Ae:=AY Nj (.b0 a)
def Z69:Lay:=⟨[1,2,35,36],[KP,KP,KP,KP],[.var k18,.var k1,.row true,.row true,.row true,.row true,.row true],⟨[PQ 0,PQ 1,OV 3,OV 3],[.var 76 46 (ag3 2),VA 76 46,.row 39 true,.row 49 true,.row 138 true,.row 149 true,.row 135 true]⟩⟩
def Z6t:Lay:=⟨[1,2,57,58],[KP,KP,KP,KP],[.var k18,.var k1,.row true,.row true,.row true,.row true,.row true],⟨[PQ 0,PQ 1,OV 3,OV 3],[.var 76 46 (ag3 2),VA 76 46,.row 39 true,.row 49 true,.row 138 true,.row 149 true,.row 135 true]⟩⟩
def Z6s:Lay:=⟨[1,2,97,98],[KP,KP,KP,KP],[.var [.keep,.keep,.keep,.keep,.keep,.keep,.keep,.keep,.keep,.keep,.keep,.keep,.keep,.keep,.keep,.keep,.keep,.keep,.keep,.keep,.own 39 1,.own 49 3,.own 138 3,.own 149 10,.own 135 11,.keep,.own 158 18,.own 39 1,.keep,.keep,.keep,.keep,.keep,.keep,.keep,.keep,.keep,.keep,.keep,.own 39 1,.keep,.keep,.keep,.s 120 3,.keep,.keep],.var k1,.row true,.row true,.row true,.row true,.row true,.row true,.row true,.row true],⟨[PQ 0,PQ 1,OV 3,OV 3],[.var 76 46 (.agg [VC 39 1,VC 41 1,VC 41 1,.v 59 11 true,.v 61 3 true,VC 47 1,VC 4 1,VC 4 1,.own 39 2,.own 49 3,.own 138 4,.own 149 5,.own 135 6,VC 39 1,.own 158 7,.own 39 8,VC 3 1,VC 4 1,VC 3 1,VC 3 1,VC 3 1,VC 3 1,VC 39 1,VC 3 1,VC 3 1,VC 3 1,VC 3 1,.own 39 9,VC 3 1,VC 4 1,VC 3 1,VC 74 1,VC 47 1,VC 4 1]),VA 76 46,.row 39 true,.row 49 true,.row 138 true,.row 149 true,.row 135 true,.row 158 true,.row 39 true,.row 39 true]⟩⟩
def Z6g:Lay:=⟨[1,2,133,134],[KP,KP,KP,KP],[.var k9,.var k1,.row true,.row true,.row true,.row true,.row true,.row true,.row true,.row true,.row true],⟨[PQ 0,PQ 1,OV 3,OV 3],[.var 76 46 (WC 2),VA 76 46,.row 39 true,.row 49 true,.row 138 true,.row 149 true,.row 135 true,.row 158 true,.row 39 true,.row 39 true,.row 120 true]⟩⟩
def ZkA:Zb->BN U
 | .b0 a=>CU f37 [76] (a,())
 | .b1 b c a d=>BB f37 [1,1,1,0,1,0,0,0] Z69 (((),((),((b,()),((c,()),())))),((tu8 a),((d,()),(tu10 a))))
 | .b2 b c a d=>BB f37 [1,1,1,1,0,1,0,0,0] Z6t (((),((),((b,()),((c,()),())))),((tu8 a),((d,()),(tu10 a))))
 | .b3 b c a d=>AA3 f37 [1,1,1,1,1,1,0,1,0,0,0] Z6s (b,c,a.Address,a.Device,a.App,a.Keys,a.IV,a.Seq,a.Fz,a.Hg,a.AB.Low,a.AB.Ed,a.AB.Sent,a.AB.Hz,a.AB.Counter,a.AB.Dropped,a.Low.EP,a.Low.AB,a.Low.Ed,a.Low.Counter,a.Low.Em,a.Low.IB,a.Low.Told,a.Low.More,a.Low.Last,a.Out,a.G8,a.Up,d,a.Ah,a.Cache,a.Ai,a.A7.Out,a.A7.In,a.AB.Aa,a.AB.AO,a.Low.AO,())
 | .b4 b c a d=>BB f37 [1,1,1,1,1,1,1,1,0,1,0,0,0] Z6g (((),((),((b,()),((c,()),())))),((TM a),((d,()),(WH a))))
theorem Z6H:AA1 37 [76] 76 (fun x=>Om x.1) rfl:=Cb (mc Zii Az) (hc [] UA (hc [] qE (hc [] aC (hc [] Yv (hc [] Z2q (hc [] Z2s (hc [] Z2T (hc [] Z33 Aw)))))))) (al [(4,Z69),(9,Z6t),(15,Z6s),(22,Z6g),(5,LX),(10,LX),(16,LX),(23,LX)]) ZkA func37 (fun p=>by cases p<;>kernel_rfl) (by kernel_rfl) fun _=>rfl
inductive yE where
 | b0 (a:Aq)
 | b1 (a b:Int) (c d:Aq)
 | b2 (a b:Int) (c d:Aq)
 | b3 (a b:Int) (c d:Aq)
def Oh:yE->Tr U (QP⊕yE)
 | .b0 b=>.bind 1396 (UE b.Ak) (fun(a:WV)=>kl a.q0 (.chk (kL a.q0&&(true&&(true&&(true&&(true&&true))))) (Ac (.b1 (↑a.q0.length:Int) (0:Int) ({ b with Ak:=a.q0 }:Aq) Ib))))
 | .b1 e c a b=>let n:=kI c a.Ak;let l:=Int.toNat c;let k:=kL b.Ak&&(kL b.BA&&(kL b.BG&&(kL b.Flight&&kL b.Notes)));.br (decide (c<e)) (kl a.Ak (.chk n (kl a.Ak (.bind 76 (a.Ak[l]?) (fun(i:Ae)=>.bind 76 (Om i) (fun(f:Ae)=>let m:=a.Ak.set l f;kl a.Ak (.chk n (.chk (a.Ak.length==a.Ak.length&&decide (0<=l)) (.bind 76 (a.Ak[l]?) (fun(j:Ae)=>.chk ((m.length==a.Ak.length)&&k) (Ac (.b1 e (Ad (c+1)) ({ a with Ak:=m }:Aq) b)))))))))))) (.bind 1397 (UG a.BA) (fun(g:WW)=>.bind 1398 (UM a.BG) (fun(h:WT)=>.bind 1399 (UQ a.Flight) (fun(d:WZ)=>kl d.q0 (.chk (kL a.Ak&&(kL g.q0&&(kL h.q0&&(kL d.q0&&k)))) (Ac (.b2 (↑d.q0.length:Int) (0:Int) ({ a with BA:=g.q0,BG:=h.q0,Flight:=d.q0 }:Aq) b)))))))
 | .b2 d e a b=>.br (decide (e<d)) (.fail) (.bind 1401 (TZ a.Notes) (fun(c:WO)=>kl c.q0 (.chk (kL a.Ak&&(kL a.BA&&(kL a.BG&&(kL a.Flight&&(kL c.q0&&(kL b.Ak&&(kL b.BA&&(kL b.BG&&(kL b.Flight&&kL b.Notes))))))))) (Ac (.b3 (↑c.q0.length:Int) (0:Int) ({ a with Notes:=c.q0 }:Aq) b)))))
 | .b3 b c a d=>.br (decide (c<b)) (.fail) (.chk (kL a.Ak&&(kL a.BA&&(kL a.BG&&(kL a.Flight&&kL a.Notes)))) (AZ (⟨a⟩:QP)))
def eU (a:Aq):Option QP:=AY Oh (.b0 a)
def Z5d:Shape:=⟨[.agg [.v 33 7 true]],[]⟩
def Zgn:Shape:=⟨[(ET 0)],[.row 76 true,.row 79 true,.row 113 true,.row 106 true,.row 55 true]⟩
noncomputable def ZiV:HMod U:=⟨[[.s 76 46,.s 79 2,.s 113 2,.keep,.keep,.s 106 4,.s 55 13]],[],Z5d,Zgn,true,1413,fun(y:QP)=>(((y.q0.Count,(y.q0.Now,())),()),(JO y.q0)),fun x=>eU x.1.1.1,okS rfl⟩
def Z5k:Lay:=⟨[1,2,12,13],[KP,KP,KP,KP],[.var [.own 76 46,.s 79 2,.s 113 2,.keep,.keep,.s 106 4,.s 55 13],.var [.own 76 46,.own 79 2,.own 113 2,.keep,.keep,.own 106 4,.own 55 13],.row true,.row true,.row true,.row true,.row true,.row true],⟨[PQ 0,PQ 1,OV 3,OV 3],[.var 33 7 (.agg [.own 76 2,VC 23 1,VC 24 1,VC 3 1,VC 3 1,VC 30 1,VC 31 1]),.var 33 7 (ET 3),.row 76 true,.row 76 true,.row 79 true,.row 113 true,.row 106 true,.row 55 true]⟩⟩
def Z55:Lay:=⟨[1,2,41,42],[KP,KP,KP,KP],[.var [.own 76 46,.own 79 2,.own 113 2,.keep,.keep,.own 106 4,.s 55 13],.var [.own 76 46,.own 79 2,.own 113 2,.keep,.keep,.own 106 4,.own 55 13],.row true,.row true,.row true,.row true,.row true,.row true,.row true,.row true,.row true],⟨[PQ 0,PQ 1,OV 3,OV 3],[.var 33 7 (.agg [.own 76 2,.own 79 3,.own 113 4,VC 3 1,VC 3 1,.own 106 5,VC 31 1]),.var 33 7 (ET 6),.row 76 true,.row 79 true,.row 113 true,.row 106 true,.row 76 true,.row 79 true,.row 113 true,.row 106 true,.row 55 true]⟩⟩
def Z5j:Lay:=⟨[1,2,64,65],[KP,KP,KP,KP],[.var [.own 76 46,.own 79 2,.own 113 2,.keep,.keep,.own 106 4,.own 55 13],.var [.own 76 46,.own 79 2,.own 113 2,.keep,.keep,.own 106 4,.own 55 13],.row true,.row true,.row true,.row true,.row true,.row true,.row true,.row true,.row true,.row true],⟨[PQ 0,PQ 1,OV 3,OV 3],[.var 33 7 (ET 2),.var 33 7 (ET 7),.row 76 true,.row 79 true,.row 113 true,.row 106 true,.row 55 true,.row 76 true,.row 79 true,.row 113 true,.row 106 true,.row 55 true]⟩⟩
def Zi5:yE->BN U
 | .b0 a=>DZ f18 Z5d (((a,()),()),())
 | .b1 c d a b=>BB f18 [1,1,0,1,0,0,0] Z5k (((),((),((c,()),((d,()),())))),((a.BA,(a.BG,(a.Count,(a.Now,(a.Flight,(a.Notes,())))))),((b.Count,(b.Now,())),(a.Ak,(JO b)))))
 | .b2 c d a b=>BB f18 [1,1,1,1,1,1,0,1,0,0,0] Z55 (((),((),((c,()),((d,()),())))),((a.Count,(a.Now,(a.Notes,()))),((b.Count,(b.Now,())),(a.Ak,(a.BA,(a.BG,(a.Flight,(JO b))))))))
 | .b3 c d a b=>BB f18 [1,1,1,1,1,1,1,1,0,1,0,0,0] Z5j (((),((),((c,()),((d,()),())))),((a.Count,(a.Now,())),((b.Count,(b.Now,())),(a.Ak,(a.BA,(a.BG,(a.Flight,(a.Notes,(JO b)))))))))
theorem Z5X:Bi Tryz.prog B0 18 ZiV:=okR (mc Z6H Az) (hc [] Z3s (hc [] Z3x (hc [] Z3v (hc [] Z3D (hc [] UA (hc [] Z2o Aw)))))) (al [(3,Z5k),(11,Z55),(17,Z5j),(12,LX),(18,LX)]) [[.own 76 46,.own 79 2,.own 113 2,.keep,.keep,.own 106 4,.own 55 13]] [.row true,.row true,.row true,.row true,.row true] 0 Zi5 func18 (fun p=>by cases p<;>kernel_rfl) (by kernel_rfl) fun x=>by kernel_rfl
inductive xN where
 | b0 (a b:Ae)
def Zjm:xN->Tr U (Ue⊕xN)
 | .b0 b a=>AZ (⟨(b.Address==a.Address),a⟩:Ue)
def yG (a b:Ae):Option Ue:=AY Zjm (.b0 a b)
def Z5u:Shape:=⟨[.agg [.v 76 46 true],PQ 0],[VA 76 46]⟩
def Zgl:Shape:=⟨[OV 4],[VA 76 46]⟩
noncomputable def ZjO:HMod U:=⟨[k1,KP],[.var k1],Z5u,Zgl,true,1412,fun(y:Ue)=>(((y.q0,()),()),((y.q1,()),())),fun x=>yG x.1.1.1 x.2.1.1,okS rfl⟩
def Zin:xN->BN U
 | .b0 a b=>DZ f23 Z5u (((a,()),((),())),((b,()),()))
theorem ZiB:Bi Tryz.prog B0 23 ZjO:=okR Az Aw AN [KP] [.var k1] 1 Zin func23 (fun p=>by cases p<;>kernel_rfl) (by kernel_rfl) fun x=>by kernel_rfl
inductive pR where
 | b0 (a:List Ae) (b:Ae)
 | b1 (a:List Ae) (b c:Int) (d:Ae)
def WM:pR->Tr U (Qx⊕pR)
 | .b0 a b=>Ac (.b1 a (↑a.length:Int) (0:Int) b)
 | .b1 b d a e=>.br (decide (a<d)) (.chk (kI a b) (.bind 76 (b[(Int.toNat a)]?) (fun(f:Ae)=>.bind 1412 (yG f e) (fun(c:Ue)=>.br c.q0 (AZ (⟨a,c.q1⟩:Qx)) (Ac (.b1 b d (Ad (a+1)) c.q1)))))) (AZ (⟨-1,e⟩:Qx))
def pM (a:List Ae) (b:Ae):Option Qx:=AY WM (.b0 a b)
def Z2g:Shape:=⟨[OV 29,.one (.fn 23 [] [0])],[VA 76 46]⟩
def Zck:Shape:=⟨[OV 3],[VA 76 46]⟩
noncomputable def ZcQ:HMod U:=⟨[[.s 76 46],KP],[.var k1],Z2g,Zck,true,1411,fun(y:Qx)=>(((y.q0,()),()),((y.q1,()),())),fun x=>pM x.1.1.1 x.2.1.1,okS rfl⟩
def Z2h:Lay:=⟨[0,1,7,8],[[.s 76 46],KP,KP,KP],[.var k1],⟨[OV 29,.one (.fn 23 [] [0]),OV 3,OV 3],[VA 76 46]⟩⟩
def ZcF:pR->BN U
 | .b0 a b=>DZ f47 Z2g (((a,()),((),())),((b,()),()))
 | .b1 a b c d=>AA3 f47 [1,0,1,0,0,0] Z2h (a,b,c,d,())
theorem ZcD:Bi Tryz.prog B0 47 ZcQ:=okR Az (hc [] ZiB Aw) (al [(2,Z2h)]) [KP] [.var k1] 1 ZcF func47 (fun p=>by cases p<;>kernel_rfl) (by kernel_rfl) fun x=>by kernel_rfl
inductive oW where
 | b0 (a:List Ae) (b:Ae)
def Z2e:oW->Tr U (TU⊕oW)
 | .b0 b c=>.bind 1411 (pM b c) (fun(a:Qx)=>AZ (⟨(decide (a.q0>=0)),a.q1⟩:TU))
def Ym (a:List Ae) (b:Ae):Option TU:=AY Z2e (.b0 a b)
def Z28:Shape:=⟨[OV 29,.one (.fn 23 [] [0])],[VA 76 46]⟩
def Zc6:Shape:=⟨[OV 4],[VA 76 46]⟩
noncomputable def Zci:HMod U:=⟨[[.s 76 46],KP],[.var k1],Z28,Zc6,true,1410,fun(y:TU)=>(((y.q0,()),()),((y.q1,()),())),fun x=>Ym x.1.1.1 x.2.1.1,okS rfl⟩
def Zcg:oW->BN U
 | .b0 a b=>DZ f22 Z28 (((a,()),((),())),((b,()),()))
theorem Zcd:Bi Tryz.prog B0 22 Zci:=okR Az (hc [23] ZcD Aw) AN [KP] [.var k1] 1 Zcg func22 (fun p=>by cases p<;>kernel_rfl) (by kernel_rfl) fun x=>by kernel_rfl
inductive Z7 where
 | b0 (a:List Ae) (b:List BR)
 | b1 (a:List Ae) (b:List BR) (c:List Ae) (d e:Int) (f:Aq)
 | b2 (a:List Ae) (b c:List BR) (d e:Int) (f:Aq)
 | b3 (a:Aq)
 | b4 (a:List Ae) (b:List BR) (c:Int) (d:List BR) (e f:Int) (g:Aq) (h:BR)
 | b5 (a:Aq)
 | b6 (a:List Ae) (b c:List BR) (d e:Int) (f:Aq)
def Gv:Z7->Tr U ((Aq×Int)⊕Z7)
 | .b0 a b=>let c:=(↑a.length:Int);.br (decide (c>16)) (.fail) (Ac (.b1 a b a c (0:Int) Ib))
 | .b1 b c d e a f=>let j:=Int.toNat a;.br (decide (a<e)) (.chk (kI a d) (.bind 76 (d[j]?) (fun(g:Ae)=>.bind 4 (MI g.Address) (fun(h:Bool)=>.br (!h) (.fail) (.chk (decide (0<=a/\a<=(↑b.length:Int))) (.bind 1410 (Ym ((b.drop 0).take (j - 0)) g) (fun(i:TU)=>.br i.q0 (.fail) (Ac (.b1 b c d e (Ad (a+1)) f))))))))) (Ac (.b2 b c c (↑c.length:Int) (0:Int) f))
 | .b2 e g f h b d=>let i:=Ac (Z7.b3 d);.br (decide (b<h)) (.chk (kI b f) (.bind 79 (f[(Int.toNat b)]?) (fun(c:BR)=>.br (decide (c.A<0)) i (.br (decide (c.A>=c.B)) i (.br (decide (c.B>=(↑e.length:Int))) i (Ac (.b4 e g b f h b d c))))))) (.bind 1413 (eU (⟨e,g,([]:List DK),0,0,([]:List CS),([]:List EE)⟩:Aq)) (fun(a:QP)=>kl a.q0.Ak (kl a.q0.BA (kl a.q0.BG (kl a.q0.Flight (kl a.q0.Notes (AZ (a.q0,0))))))))
 | .b3 a=>AZ (Ib,5)
 | .b4 d a b e f g c h=>let l:=Ad (b - 1);let k:=Ac (Z7.b6 d a e f g c);.br (decide (b>0)) (.chk (kI l a) (.bind 79 (a[(Int.toNat l)]?) (fun(i:BR)=>.bind 4 (XL i h) (fun(j:Bool)=>.br (!j) (Ac (.b5 c)) k)))) k
 | .b5 a=>AZ (Ib,13)
 | .b6 a b c d e f=>Ac (.b2 a b c d (Ad (e+1)) f)
def zG (a:List Ae) (b:List BR):Option (Aq×Int):=AY Gv (.b0 a b)
def Z64:Lay:=LT [0,1,4,14,15,16] [.v 29,.v 23,.p 0,.v 29,.v 3,.v 3] [.s 33]
def fJ:Lay:=LT [0,1,4,33,34,35] [.v 29,.v 23,.p 0,.v 23,.v 3,.v 3] [.s 33]
def fF:Lay:=LT [4] [.p 0] [.s 33]
def Z6l:Lay:=LT [0,1,4,8,9,33,34,35] [.v 29,.v 23,.p 0,.v 3,.p 1,.v 23,.v 3,.v 3] [.s 33,.s 79]
def ZjX:Z7->BN U
 | .b0 a b=>CU f8 [29,23] (a,b,())
 | .b1 a b c d e f=>AA3 f8 [1,1,0,1,0,0,0] Z64 (a,b,c,d,e,f,())
 | .b2 a b c d e f=>AA3 f8 [1,1,1,0,1,0,0,0] fJ (a,b,c,d,e,f,())
 | .b3 a=>AA3 f8 [1,1,1,0,1,0,0,1,1,0,0,1,0,1,0,0] fF (a,())
 | .b4 a b c d e f g h=>AA3 f8 [1,1,1,0,1,0,0,1,1,0,0,1,1,0] Z6l (a,b,c,d,e,f,g,h,())
 | .b5 a=>AA3 f8 [1,1,1,0,1,0,0,1,1,0,0,1,1,1,0,0] fF (a,())
 | .b6 a b c d e f=>AA3 f8 [1,1,1,0,1,0,0,1,1,1] fJ (a,b,c,d,e,f,())
theorem Zkw:AA1 8 [29,23] 37 (fun x=>zG x.1 x.2.1) rfl:=Cb (mc dW (mc ZjI Az)) (hc [] Z5X (hc [23] Zcd Aw)) (al [(4,Z64),(12,fJ),(15,fF),(16,Z6l),(17,fF),(18,fJ),(2,LX),(7,LX),(9,LX)]) ZjX func8 (fun p=>by cases p<;>kernel_rfl) (by kernel_rfl) fun _=>rfl
def zX:S1 (Int×Unit) Bool
 | (a,_)=>.br (decide (a>0)) (AZ (decide (a<32768))) (AZ false)
def XT (a:Int):Option Bool:=AY zX (a,())
theorem Z6I:AA1 32 [39] 4 (fun x=>XT x.1) rfl:=ok1 Az Aw func32 (fun _=>by kernel_rfl) (by kernel_rfl)
inductive Zk where
 | b0 (a b:Int)
 | b1 (a b:Int) (c:List Int) (d:Int)
def X5:Zk->Tr U ((List Int)⊕Zk)
 | .b0 a b=>.chk true (Ac (.b1 a b ([]:List Int) (0:Int)))
 | .b1 c b a d=>let e:=a++[(IntKind.wrap .u8 ((Int.tmod b 256)))];.br (decide (d<c)) (.chk true (kl a (.chk (kA (a.length+1) 1) (kl e (Ac (.b1 c (IntKind.wrap .u64 (Int.tdiv b 256)) e (Ad (d+1)))))))) (kl a (AZ a))
def iM (a b:Int):Option (List Int):=AY X5 (.b0 a b)
def Z70:Lay:=LT [0,1,5,6] [.v 3,.v 40,.o 5 1 0,.v 3] [.r 5]
def ZlY:Zk->BN U
 | .b0 a b=>CU f117 [3,40] (a,b,())
 | .b1 a b c d=>AA3 f117 [1,1,0,1,0,0,0,0] Z70 (a,b,d,c,())
theorem ZkP:AA1 117 [3,40] 27 (fun x=>iM x.1 x.2.1) rfl:=Cb Az Aw (al [(3,Z70)]) ZlY func117 (fun p=>by cases p<;>kernel_rfl) (by kernel_rfl) fun _=>rfl
inductive Zg where
 | b0 (a b:Int)
 | b1 (a:Int)
def iI:Zg->Tr U (Int⊕Zg)
 | .b0 b a=>let e:=IntKind.bits .u64;let c:=(Int.tmod (Ad ((Ad ((Int.tmod a 64)+64))*11)) (64:Int));let d:=Ad ((64:Int) - c);.br (decide (c>0)) (.chk (decide (0<=c)) (.chk (decide (0<=d)) (Ac (.b1 (bits .or .u64 (IntKind.wrap .u64 (b*2 ^ (min (Int.toNat c) e))) (Int.fdiv b (2 ^ (min (Int.toNat d) e)))))))) (Ac (.b1 b))
 | .b1 a=>AZ (IntKind.wrap .u32 ((Int.tmod a 4294967296)))
def XW (a b:Int):Option Int:=AY iI (.b0 a b)
def Z6A:Lay:=LT [6] [.v 40] []
def Zmb:Zg->BN U
 | .b0 a b=>CU f246 [41,3] (a,b,())
 | .b1 a=>AA3 f246 [1,1,1,1,0] Z6A (a,())
theorem Zlm:AA1 246 [41,3] 47 (fun x=>XW x.1 x.2.1) rfl:=Cb Az Aw (al [(5,Z6A)]) Zmb func246 (fun p=>by cases p<;>kernel_rfl) (by kernel_rfl) fun _=>rfl
def ZkZ:S1 (Int×Int×Unit) Int
 | (b,a,_)=>let d:=IntKind.bits .u32;let c:=Ad ((32:Int) - a);.chk (decide (0<=a)) (.chk (decide (0<=c)) (AZ (bits .or .u32 (IntKind.wrap .u32 (b*2 ^ (min (Int.toNat a) d))) (Int.fdiv b (2 ^ (min (Int.toNat c) d))))))
def Oq (a b:Int):Option Int:=AY ZkZ (a,b,())
theorem Zk8:AA1 247 [47,3] 47 (fun x=>Oq x.1 x.2.1) rfl:=ok1 Az Aw func247 (fun _=>by kernel_rfl) (by kernel_rfl)
def Z6Q:S1 (Int×Int×Int×Unit) Int
 | (b,c,d,_)=>.bind 47 (XW b c) (fun(a:Int)=>.bind 47 (Oq (IntKind.wrap .u32 (d+a)) (7:Int)) (fun(e:Int)=>.bind 47 (Oq a (16:Int)) (fun(f:Int)=>AZ (bits .xor .u32 (IntKind.wrap .u32 (e*2654435761)) f))))
def yY (a b c:Int):Option Int:=AY Z6Q (a,b,c,())
theorem Zj7:AA1 207 [41,3,47] 47 (fun x=>yY x.1 x.2.1 x.2.2.1) rfl:=ok1 (mc Zlm (mc Zk8 Az)) Aw func207 (fun _=>by kernel_rfl) (by kernel_rfl)
inductive Zx where
 | b0 (a b:Int)
 | b1 (a b c d:Int)
def VB:Zx->Tr U (Int⊕Zx)
 | .b0 b a=>Ac (.b1 b (IntKind.wrap .u32 ((IntKind.wrap .u64 (Int.tdiv a 4294967296)))) (IntKind.wrap .u32 ((Int.tmod a 4294967296))) (0:Int))
 | .b1 c d a b=>.br (decide (b<8)) (.bind 47 (yY c b a) (fun(e:Int)=>Ac (.b1 c a (bits .xor .u32 d e) (Ad (b+1))))) (AZ (IntKind.wrap .u64 ((IntKind.wrap .u64 ((IntKind.wrap .u64 (d))*4294967296))+(IntKind.wrap .u64 (a)))))
def XZ (a b:Int):Option Int:=AY VB (.b0 a b)
def Z6z:Lay:=LT [0,5,6,7] [.v 41,.v 47,.v 47,.v 3] []
def ZkQ:Zx->BN U
 | .b0 a b=>CU f155 [41,40] (a,b,())
 | .b1 a b c d=>AA3 f155 [1,1,1,0,1,0,0,0,0] Z6z (a,b,c,d,())
theorem ZlM:AA1 155 [41,40] 40 (fun x=>XZ x.1 x.2.1) rfl:=Cb (mc Zj7 Az) Aw (al [(4,Z6z)]) ZkQ func155 (fun p=>by cases p<;>kernel_rfl) (by kernel_rfl) fun _=>rfl
inductive yQ where
 | b0 (a:List Int)
 | b1 (a:List Int) (b c:Int)
def XI:yQ->Tr U (Int⊕yQ)
 | .b0 a=>Ac (.b1 a (0:Int) (Ad ((↑a.length:Int) - 1)))
 | .b1 b c a=>.br (decide (a>=0)) (.chk (kI a b) (.bind 5 (b[(Int.toNat a)]?) (fun(d:Int)=>Ac (.b1 b (IntKind.wrap .u64 ((IntKind.wrap .u64 (c*256))+(IntKind.wrap .u64 (d)))) (Ad (a - 1)))))) (AZ c)
def yX (a:List Int):Option Int:=AY XI (.b0 a)
def Z5F:Lay:=LT [0,3,4] [.v 27,.v 40,.v 3] []
def ZjJ:yQ->BN U
 | .b0 a=>CU f156 [27] (a,())
 | .b1 a b c=>AA3 f156 [1,1,0,1,0,0,0,0] Z5F (a,b,c,())
theorem Zji:AA1 156 [27] 40 (fun x=>yX x.1) rfl:=Cb Az Aw (al [(3,Z5F)]) ZjJ func156 (fun p=>by cases p<;>kernel_rfl) (by kernel_rfl) fun _=>rfl
inductive Zr where
 | b0 (a:Int) (b:List Int)
 | b1 (a:Int) (b:List Int) (c d:Int)
def XX:Zr->Tr U (Int⊕Zr)
 | .b0 a b=>.bind 40 (XZ a (IntKind.wrap .u64 ((↑b.length:Int)))) (fun(c:Int)=>Ac (.b1 a b c (0:Int)))
 | .b1 c b d a=>let k:=Int.toNat a;let i:=Ad (a+8);let h:=(↑b.length:Int);let g:=if h<i then h else i;let j:=Int.toNat g;.br (decide (a<h)) (.chk (decide (0<=g/\g<=h)) (.chk (decide (0<=a/\a<=(↑j:Int))) (.bind 40 (yX ((b.drop k).take (j - k))) (fun(e:Int)=>.bind 40 (XZ c (bits .xor .u64 d e)) (fun(f:Int)=>Ac (.b1 c b f i)))))) (AZ d)
def X4 (a:Int) (b:List Int):Option Int:=AY XX (.b0 a b)
def Z6C:Lay:=LT [0,1,5,6] [.v 41,.v 27,.v 40,.v 3] []
def Zls:Zr->BN U
 | .b0 a b=>CU f118 [41,27] (a,b,())
 | .b1 a b c d=>AA3 f118 [1,1,0,1,0,0,0,0] Z6C (a,b,c,d,())
theorem Zl0:AA1 118 [41,27] 40 (fun x=>X4 x.1 x.2.1) rfl:=Cb (mc ZlM (mc Zji Az)) Aw (al [(3,Z6C)]) Zls func118 (fun p=>by cases p<;>kernel_rfl) (by kernel_rfl) fun _=>rfl
inductive xP where
 | b0 (a:Int) (b:ByteArray) (c:List Int)
 | b1 (a:Int) (b c:List Int) (d:Int)
def XD:xP->Tr U (Int⊕xP)
 | .b0 b a c=>let d:=Ku U 5 a;let e:=d++[(0:Int)];.chk (lY U 5 a) (.chk true (kl d (.chk (kA (d.length+1) 1) (kl e (Ac (.b1 b c e (0:Int)))))))
 | .b1 e b a c=>.br (decide (c<(↑b.length:Int))) (.chk (kI c b) (.bind 40 (b[(Int.toNat c)]?) (fun(f:Int)=>.bind 27 (iM (8:Int) f) (fun(d:List Int)=>kl a (.chk (kA (a.length+d.length) 1) (kl (a++d) (Ac (.b1 e b (a++d) (Ad (c+1)))))))))) (kl a (.bind 40 (X4 e a) (fun(g:Int)=>AZ g)))
def Uj (a:Int) (b:ByteArray) (c:List Int):Option Int:=AY XD (.b0 a b c)
def Z5q:Lay:=LT [0,2,7,8] [.v 41,.v 207,.o 5 1 0,.v 3] [.r 5]
def Zit:xP->BN U
 | .b0 a b c=>CU f79 [41,9,207] (a,b,c,())
 | .b1 a b c d=>AA3 f79 [1,1,0,1,0,0,0,0] Z5q (a,b,d,c,())
theorem ZiK:AA1 79 [41,9,207] 41 (fun x=>Uj x.1 x.2.1 x.2.2.1) rfl:=Cb (mc ZkP (mc Zl0 Az)) Aw (al [(3,Z5q)]) Zit func79 (fun p=>by cases p<;>kernel_rfl) (by kernel_rfl) fun _=>rfl
def Z60:S1 (Int×Unit) Bh
 | (a,_)=>.bind 41 (Uj a (⟨#[110,105,100]⟩:ByteArray) ([])) (fun(b:Int)=>.bind 41 (Uj a (⟨#[101,110,99,114,121,112,116]⟩:ByteArray) ([])) (fun(c:Int)=>.bind 41 (Uj a (⟨#[104,105,100,101]⟩:ByteArray) ([])) (fun(d:Int)=>.bind 41 (Uj a (⟨#[98,101,97,99,111,110]⟩:ByteArray) ([])) (fun(e:Int)=>AZ (⟨a,(Ad ((Int.tmod b 128))),c,d,e⟩:Bh)))))
def xK (a:Int):Option Bh:=AY Z60 (a,())
theorem ZiS:AA1 48 [41] 57 (fun x=>xK x.1) rfl:=ok1 (mc ZiK Az) Aw func48 (fun _=>by kernel_rfl) (by kernel_rfl)
def Z80:S1 (Int×Int×Int×Int×Bool×Bool×Unit) (Ae×Int)
 | (a,b,c,d,e,f,_)=>.bind 4 (XT a) (fun(g:Bool)=>.br (!g) (AZ (ZkU,1)) (.bind 57 (xK d) (fun(h:Bh)=>AZ ((⟨a,b,c,(⟨0,h,I8⟩:EM),ED,0,e,f,[],[],[],(⟨[],[]⟩:BV),Gu,En,[],0,true⟩:Ae),(0:Int)))))
def ZG (a b c d:Int) (e f:Bool):Option (Ae×Int):=AY Z80 (a,b,c,d,e,f,())
theorem Zl7:AA1 25 [39,41,41,41,4,4] 96 (fun x=>ZG x.1 x.2.1 x.2.2.1 x.2.2.2.1 x.2.2.2.2.1 x.2.2.2.2.2.1) rfl:=ok1 (mc Z6I (mc ZiS Az)) Aw func25 (fun _=>by kernel_rfl) (by kernel_rfl)
inductive sO where
 | b0 (a:F7)
 | b1 (a:List Ae) (b:Int) (c:F7)
 | b2 (a:List Ae) (b:Int) (c:Bool) (d:F7)
def QF:sO->Tr U ((List Ae)⊕sO)
 | .b0 a=>.chk true (Ac (.b1 ([]:List Ae) (0:Int) a))
 | .b1 a b c=>.br (decide (b<(↑c.Dq.length:Int))) (.br (decide (b<(↑c.Iz.length:Int))) (.chk (kI b c.Iz) (.bind 4 (c.Iz[(Int.toNat b)]?) (fun(d:Bool)=>kl a (Ac (.b2 a b d c))))) (kl a (Ac (.b2 a b false c)))) (kl a (AZ a))
 | .b2 a b e c=>.chk (kI b c.Dq) (.bind 4 (c.Dq[(Int.toNat b)]?) (fun(f:Bool)=>.bind 96 (ZG (IntKind.wrap .u16 ((Ad (b+50)))) (1:Int) (2:Int) (3:Int) f e) (fun(d:Ae×Int)=>.chk true (kl a (.chk (kA (a.length+1) 480) (kl (a++[d.1]) (Ac (.b1 (a++[d.1]) (Ad (b+1)) c))))))))
def bP (a:F7):Option (List Ae):=AY QF (.b0 a)
def Z3r:Lay:=LT [1,3,4] [.p 0,.o 76 46 1,.v 3] [.s 26,.r 76]
def Z3l:Lay:=LT [1,3,4,5] [.p 0,.o 76 46 1,.v 3,.v 4] [.s 26,.r 76]
def Zei:sO->BN U
 | .b0 a=>CU f9 [26] (a,())
 | .b1 a b c=>AA3 f9 [1,1,0,1,0,0,0,0] Z3r (b,c,a,())
 | .b2 a b c d=>AA3 f9 [1,1,0,1,0,0,1,0,0,1,0] Z3l (b,c,d,a,())
theorem Zeu:AA1 9 [26] 29 (fun x=>bP x.1) rfl:=Cb (mc Zl7 Az) Aw (al [(3,Z3r),(6,Z3l)]) Zei func9 (fun p=>by cases p<;>kernel_rfl) (by kernel_rfl) fun _=>rfl
def Z78:S1 (BR×BR×Unit) Bool
 | (a,b,_)=>.br (decide (a.A<b.A)) (AZ true) (.br (a.A==b.A) (AZ (decide (a.B<b.B))) (AZ false))
def gU (a b:BR):Option Bool:=AY Z78 (a,b,())
theorem Zk5:AA1 33 [79,79] 4 (fun x=>gU x.1 x.2.1) rfl:=ok1 Az Aw func33 (fun _=>by kernel_rfl) (by kernel_rfl)
end
noncomputable section
inductive Zo where
 | b0 (a:List Ae) (b:List BR)
 | b1 (a:List Ae) (b:List BR) (c:Int) (d:Aq)
 | b2 (a:List Ae) (b:List BR) (c d:Int) (e:Aq)
 | b3 (a:List Ae) (b:List BR) (c:Int) (d:Aq)
 | b4 (a:Aq)
 | b5 (a:List Ae) (b:List BR) (c:Int) (d:Aq) (e:BR)
 | b6 (a:Aq)
 | b7 (a:List Ae) (b:List BR) (c:Int) (d:Aq)
def Fe:Zo->Tr U ((Aq×Int)⊕Zo)
 | .b0 a b=>.br (decide ((↑a.length:Int)>16)) (.fail) (Ac (.b1 a b (0:Int) Ib))
 | .b1 a c b d=>.br (decide (b<(↑a.length:Int))) (.chk (kI b a) (.bind 76 (a[(Int.toNat b)]?) (fun(e:Ae)=>.bind 4 (XT e.Address) (fun(f:Bool)=>.br (!f) (.fail) (Ac (.b2 a c b (0:Int) d)))))) (Ac (.b3 a c (0:Int) d))
 | .b2 a d b c e=>.br (decide (c<b)) (.chk (kI c a) (.bind 76 (a[(Int.toNat c)]?) (fun(f:Ae)=>.chk (kI b a) (.bind 76 (a[(Int.toNat b)]?) (fun(g:Ae)=>.br (f.Address==g.Address) (.fail) (Ac (.b2 a d b (Ad (c+1)) e))))))) (Ac (.b1 a d (Ad (b+1)) e))
 | .b3 b a d e=>let h:=([]:List BR)++a;let g:=([]:List Ae)++b;let f:=Ac (Zo.b4 e);.br (decide (d<(↑a.length:Int))) (.chk (kI d a) (.bind 79 (a[(Int.toNat d)]?) (fun(c:BR)=>.br (decide (c.A<0)) f (.br (decide (c.B<=c.A)) f (.br (decide (c.B>=(↑b.length:Int))) f (Ac (.b5 b a d e c))))))) (.chk true (.chk (kA (0+b.length) 480) (.chk true (.chk (kA (0+a.length) 16) (kl g (kl h (AZ ((⟨g,h,[],0,0,[],[]⟩:Aq),(0:Int)))))))))
 | .b4 a=>AZ (Ib,5)
 | .b5 d b a c e=>let i:=Ad (a - 1);let h:=Ac (Zo.b7 d b a c);.br (decide (a>0)) (.chk (kI i b) (.bind 79 (b[(Int.toNat i)]?) (fun(f:BR)=>.bind 4 (gU f e) (fun(g:Bool)=>.br (!g) (Ac (.b6 c)) h)))) h
 | .b6 a=>AZ (Ib,13)
 | .b7 a b c d=>Ac (.b3 a b (Ad (c+1)) d)
def Zf (a:List Ae) (b:List BR):Option (Aq×Int):=AY Fe (.b0 a b)
def Z6O:Lay:=LT [0,1,4,6] [.v 29,.v 23,.p 0,.v 3] [.s 33]
def Z6W:Lay:=LT [0,1,4,6,7] [.v 29,.v 23,.p 0,.v 3,.v 3] [.s 33]
def fM:Lay:=LT [0,1,4,8] [.v 29,.v 23,.p 0,.v 3] [.s 33]
def fQ:Lay:=LT [4] [.p 0] [.s 33]
def Z71:Lay:=LT [0,1,4,8,9] [.v 29,.v 23,.p 0,.v 3,.p 1] [.s 33,.s 79]
def Zla:Zo->BN U
 | .b0 a b=>CU f13 [29,23] (a,b,())
 | .b1 a b c d=>AA3 f13 [1,1,0,1,0,0,0,0] Z6O (a,b,c,d,())
 | .b2 a b c d e=>AA3 f13 [1,1,0,1,0,0,1,0,0,1,1,0,0,0,0] Z6W (a,b,c,d,e,())
 | .b3 a b c d=>AA3 f13 [1,1,1,0,1,0,0,0,0] fM (a,b,c,d,())
 | .b4 a=>AA3 f13 [1,1,1,0,1,0,0,1,0,0,1,0,1,0,0] fQ (a,())
 | .b5 a b c d e=>AA3 f13 [1,1,1,0,1,0,0,1,0,0,1,1,0] Z71 (a,b,c,d,e,())
 | .b6 a=>AA3 f13 [1,1,1,0,1,0,0,1,0,0,1,1,1,0,0] fQ (a,())
 | .b7 a b c d=>AA3 f13 [1,1,1,0,1,0,0,1,1] fM (a,b,c,d,())
theorem ZlW:AA1 13 [29,23] 37 (fun x=>Zf x.1 x.2.1) rfl:=Cb (mc Z6I (mc Zk5 Az)) Aw (al [(4,Z6O),(9,Z6W),(14,fM),(18,fQ),(19,Z71),(20,fQ),(15,fM),(2,LX),(7,LX),(12,LX)]) Zla func13 (fun p=>by cases p<;>kernel_rfl) (by kernel_rfl) fun _=>rfl
inductive uY where
 | b0 (a b:List Int)
 | b1 (a b:List Int) (c:Int)
def dB:uY->Tr U (Bool⊕uY)
 | .b0 a b=>.br ((↑a.length:Int) != (↑b.length:Int)) (.fail) (Ac (.b1 a b (0:Int)))
 | .b1 a c b=>.br (decide (b<(↑a.length:Int))) (.fail) (AZ true)
def Wn (a b:List Int):Option Bool:=AY dB (.b0 a b)
def Z3X:Lay:=LT [0,1,5] [.v 62,.v 62,.v 3] []
def Zfx:uY->BN U
 | .b0 a b=>CU f58 [62,62] (a,b,())
 | .b1 a b c=>AA3 f58 [1,1,0,1,0,0,0,0] Z3X (a,b,c,())
theorem tN:AA1 58 [62,62] 4 (fun x=>Wn x.1 x.2.1) rfl:=Cb Az Aw (al [(4,Z3X),(2,LX),(6,LX)]) Zfx func58 (fun p=>by cases p<;>kernel_rfl) (by kernel_rfl) fun _=>rfl
inductive rQ where
 | b0 (a b:BV)
 | b1 (a b:BV)
 | b2 (a:Int) (b c:BV)
 | b3 (a:Int) (b c:BV)
def QE:rQ->Tr U (Bool⊕rQ)
 | .b0 a b=>.br ((↑a.Out.length:Int) != (↑b.Out.length:Int)) (.fail) (.br ((↑a.In.length:Int) != (↑b.In.length:Int)) (.fail) (Ac (.b1 a b)))
 | .b1 a b=>Ac (.b2 (0:Int) a b)
 | .b2 b a c=>.br (decide (b<(↑a.Out.length:Int))) (.fail) (Ac (.b3 (0:Int) a c))
 | .b3 a b c=>.br (decide (a<(↑b.In.length:Int))) (.fail) (AZ true)
def sH (a b:BV):Option Bool:=AY QE (.b0 a b)
def Z3e:Lay:=LT [2,3] [.p 0,.p 1] [.s 68,.s 68]
def Z3c:Lay:=LT [2,3,5] [.p 0,.p 1,.v 3] [.s 68,.s 68]
def Z37:Lay:=LT [2,3,8] [.p 0,.p 1,.v 3] [.s 68,.s 68]
def Ze0:rQ->BN U
 | .b0 a b=>CU f59 [68,68] (a,b,())
 | .b1 a b=>AA3 f59 [1,1,0,0] Z3e (a,b,())
 | .b2 a b c=>AA3 f59 [1,1,0,1,0,0,0,0] Z3c (a,b,c,())
 | .b3 a b c=>AA3 f59 [1,1,1,0,1,0,0,0,0] Z37 (a,b,c,())
theorem Ze2:AA1 59 [68,68] 4 (fun x=>sH x.1 x.2.1) rfl:=Cb Az Aw (al [(3,Z3e),(4,Z3c),(10,Z37),(2,LX),(6,LX),(12,LX)]) Ze0 func59 (fun p=>by cases p<;>kernel_rfl) (by kernel_rfl) fun _=>rfl
inductive uO where
 | b0 (a b:EG)
 | b1 (a b:EG)
 | b2 (a:Int) (b c:EG)
def UZ:uO->Tr U (Bool⊕uO)
 | .b0 a b=>.br (a.Low != b.Low) (.fail) (.br ((↑a.Aa.length:Int) != (↑b.Aa.length:Int)) (.fail) (.bind 4 (Wn a.AO b.AO) (fun(c:Bool)=>.br (!c) (.fail) (.br (a.Ed != b.Ed) (.fail) (.br (!(a.Sent==b.Sent)) (.fail) (.br (a.Hz != b.Hz) (.fail) (.br (a.Counter != b.Counter) (.fail) (.br (a.Dropped != b.Dropped) (.fail) (Ac (.b1 a b))))))))))
 | .b1 a b=>Ac (.b2 (0:Int) a b)
 | .b2 a b c=>.br (decide (a<(↑b.Aa.length:Int))) (.fail) (AZ true)
def uI (a b:EG):Option Bool:=AY UZ (.b0 a b)
def Z3T:Lay:=LT [2,3] [.p 0,.p 1] [.s 71,.s 71]
def Z3L:Lay:=LT [2,3,5] [.p 0,.p 1,.v 3] [.s 71,.s 71]
def Zf9:uO->BN U
 | .b0 a b=>CU f60 [71,71] (a,b,())
 | .b1 a b=>AA3 f60 [1,1,0,0] Z3T (a,b,())
 | .b2 a b c=>AA3 f60 [1,1,0,1,0,0,0,0] Z3L (a,b,c,())
theorem Zfz:AA1 60 [71,71] 4 (fun x=>uI x.1 x.2.1) rfl:=Cb (mc tN Az) Aw (al [(3,Z3T),(4,Z3L),(2,LX),(6,LX)]) Zf9 func60 (fun p=>by cases p<;>kernel_rfl) (by kernel_rfl) fun _=>rfl
def Z5A:S1 (Df×Df×Unit) Bool
 | (a,b,_)=>.br (a.EP==b.EP) (.br (a.AB==b.AB) (.br (a.Ed==b.Ed) (.br (a.Counter==b.Counter) (.br (a.Em==b.Em) (.br (a.IB==b.IB) (.bind 4 (Wn a.AO b.AO) (fun(c:Bool)=>.br c (.br (a.Told==b.Told) (.br (a.More==b.More) (AZ (a.Last==b.Last)) (AZ false)) (AZ false)) (AZ false))) (AZ false)) (AZ false)) (AZ false)) (AZ false)) (AZ false)) (AZ false)
def wK (a b:Df):Option Bool:=AY Z5A (a,b,())
theorem ZhI:AA1 61 [73,73] 4 (fun x=>wK x.1 x.2.1) rfl:=ok1 (mc tN Az) Aw func61 (fun _=>by kernel_rfl) (by kernel_rfl)
inductive vI where
 | b0 (a b:List BL)
 | b1 (a b:List BL) (c:Int)
def dK:vI->Tr U (Bool⊕vI)
 | .b0 a b=>.br ((↑a.length:Int) != (↑b.length:Int)) (.fail) (Ac (.b1 a b (0:Int)))
 | .b1 a c b=>.br (decide (b<(↑a.length:Int))) (.fail) (AZ true)
def vC (a b:List BL):Option Bool:=AY dK (.b0 a b)
def Z47:Lay:=LT [0,1,5] [.v 74,.v 74,.v 3] []
def Zgb:vI->BN U
 | .b0 a b=>CU f62 [74,74] (a,b,())
 | .b1 a b c=>AA3 f62 [1,1,0,1,0,0,0,0] Z47 (a,b,c,())
theorem Zg0:AA1 62 [74,74] 4 (fun x=>vC x.1 x.2.1) rfl:=Cb Az Aw (al [(4,Z47),(2,LX),(6,LX)]) Zgb func62 (fun p=>by cases p<;>kernel_rfl) (by kernel_rfl) fun _=>rfl
inductive zM where
 | b0 (a b:Ae)
 | b1 (a b:Ae)
 | b2 (a:Int) (b c:Ae)
 | b3 (a:Int) (b c:Ae)
 | b4 (a b:Ae)
def Nh:zM->Tr U (Bool⊕zM)
 | .b0 a b=>.br ((↑a.Cache.length:Int) != (↑b.Cache.length:Int)) (.fail) (.br ((↑a.Ai.length:Int) != (↑b.Ai.length:Int)) (.fail) (Ac (.b1 a b)))
 | .b1 a b=>Ac (.b2 (0:Int) a b)
 | .b2 b a c=>.br (decide (b<(↑a.Cache.length:Int))) (.fail) (Ac (.b3 (0:Int) a c))
 | .b3 c a b=>.br (decide (c<(↑a.Ai.length:Int))) (.fail) (.br (a.Address != b.Address) (.fail) (.br (a.Device != b.Device) (.fail) (.br (a.App != b.App) (.fail) (.br (!((a.Keys.EP==b.Keys.EP)&&((a.Keys.Old.Key==b.Keys.Old.Key)&&((a.Keys.Old.C9==b.Keys.Old.C9)&&((a.Keys.Old.LC==b.Keys.Old.LC)&&((a.Keys.Old.Hide==b.Keys.Old.Hide)&&((a.Keys.Old.JY==b.Keys.Old.JY)&&((a.Keys.New.Key==b.Keys.New.Key)&&((a.Keys.New.C9==b.Keys.New.C9)&&((a.Keys.New.LC==b.Keys.New.LC)&&((a.Keys.New.Hide==b.Keys.New.Hide)&&((a.Keys.New.JY==b.Keys.New.JY)&&true)))))))))))) (.fail) (.br (!((a.IV.Index==b.IV.Index)&&((a.IV.GI==b.IV.GI)&&((a.IV.Since==b.IV.Since)&&true)))) (.fail) (.br (a.Seq != b.Seq) (.fail) (.br (!(a.Fz==b.Fz)) (.fail) (.br (!(a.Hg==b.Hg)) (.fail) (.br (a.G8 != b.G8) (.fail) (.br (!(a.Up==b.Up)) (.fail) (Ac (.b4 a b))))))))))))
 | .b4 a b=>let h:=AZ false;.bind 4 (Wn a.Ah b.Ah) (fun(c:Bool)=>.br c (.bind 4 (sH a.A7 b.A7) (fun(d:Bool)=>.br d (.bind 4 (uI a.AB b.AB) (fun(e:Bool)=>.br e (.bind 4 (wK a.Low b.Low) (fun(f:Bool)=>.br f (.bind 4 (vC a.Out b.Out) (fun(g:Bool)=>AZ g)) h)) h)) h)) h)
def gV (a b:Ae):Option Bool:=AY Nh (.b0 a b)
def fE:Lay:=LT [2,3] [.p 0,.p 1] [.s 76,.s 76]
def Z61:Lay:=LT [2,3,5] [.p 0,.p 1,.v 3] [.s 76,.s 76]
def Z67:Lay:=LT [2,3,6] [.p 0,.p 1,.v 3] [.s 76,.s 76]
def Zkc:zM->BN U
 | .b0 a b=>CU f34 [76,76] (a,b,())
 | .b1 a b=>AA3 f34 [1,1,0,0] fE (a,b,())
 | .b2 a b c=>AA3 f34 [1,1,0,1,0,0,0,0] Z61 (a,b,c,())
 | .b3 a b c=>AA3 f34 [1,1,1,0,1,0,0,0,0] Z67 (a,b,c,())
 | .b4 a b=>AA3 f34 [1,1,1,1,1,0] fE (a,b,())
theorem Zke:AA1 34 [76,76] 4 (fun x=>gV x.1 x.2.1) rfl:=Cb (mc tN (mc Ze2 (mc Zfz (mc ZhI (mc Zg0 Az))))) Aw (al [(3,fE),(4,Z61),(9,Z67),(15,fE),(2,LX),(6,LX),(11,LX),(14,LX)]) Zkc func34 (fun p=>by cases p<;>kernel_rfl) (by kernel_rfl) fun _=>rfl
inductive xQ where
 | b0 (a b:Aq)
 | b1 (a b:Aq)
 | b2 (a:Int) (b c:Aq)
 | b3 (a:Int) (b c:Aq)
 | b4 (a:Int) (b c:Aq)
 | b5 (a:Int) (b c:Aq)
def Jf:xQ->Tr U (Bool⊕xQ)
 | .b0 a b=>.br ((↑a.Ak.length:Int) != (↑b.Ak.length:Int)) (.fail) (.br ((↑a.BA.length:Int) != (↑b.BA.length:Int)) (.fail) (.br ((↑a.Flight.length:Int) != (↑b.Flight.length:Int)) (.fail) (.br ((↑a.Notes.length:Int) != (↑b.Notes.length:Int)) (.fail) (.br (a.Count != b.Count) (.fail) (.br (a.Now != b.Now) (.fail) (Ac (.b1 a b)))))))
 | .b1 a b=>Ac (.b2 (0:Int) a b)
 | .b2 a b c=>let g:=Int.toNat a;.br (decide (a<(↑b.Ak.length:Int))) (.chk (kI a b.Ak) (.bind 76 (b.Ak[g]?) (fun(d:Ae)=>.chk (kI a c.Ak) (.bind 76 (c.Ak[g]?) (fun(e:Ae)=>.bind 4 (gV d e) (fun(f:Bool)=>.br (!f) (.fail) (Ac (.b2 (Ad (a+1)) b c)))))))) (Ac (.b3 (0:Int) b c))
 | .b3 a b c=>let f:=Int.toNat a;.br (decide (a<(↑b.BA.length:Int))) (.chk (kI a b.BA) (.bind 79 (b.BA[f]?) (fun(d:BR)=>.chk (kI a c.BA) (.bind 79 (c.BA[f]?) (fun(e:BR)=>.br (!((d.A==e.A)&&((d.B==e.B)&&true))) (.fail) (Ac (.b3 (Ad (a+1)) b c))))))) (Ac (.b4 (0:Int) b c))
 | .b4 b a c=>.br (decide (b<(↑a.Flight.length:Int))) (.fail) (Ac (.b5 (0:Int) a c))
 | .b5 a b c=>.br (decide (a<(↑b.Notes.length:Int))) (.fail) (AZ true)
def eH (a b:Aq):Option Bool:=AY Jf (.b0 a b)
def Z52:Lay:=LT [2,3] [.p 0,.p 1] [.s 33,.s 33]
def Z54:Lay:=LT [2,3,5] [.p 0,.p 1,.v 3] [.s 33,.s 33]
def Z5m:Lay:=LT [2,3,6] [.p 0,.p 1,.v 3] [.s 33,.s 33]
def Z5e:Lay:=LT [2,3,7] [.p 0,.p 1,.v 3] [.s 33,.s 33]
def Z5i:Lay:=LT [2,3,10] [.p 0,.p 1,.v 3] [.s 33,.s 33]
def Zi7:xQ->BN U
 | .b0 a b=>CU f14 [33,33] (a,b,())
 | .b1 a b=>AA3 f14 [1,1,0,0] Z52 (a,b,())
 | .b2 a b c=>AA3 f14 [1,1,0,1,0,0,0,0] Z54 (a,b,c,())
 | .b3 a b c=>AA3 f14 [1,1,1,0,1,0,0,0,0] Z5m (a,b,c,())
 | .b4 a b c=>AA3 f14 [1,1,1,1,0,1,0,0,0,0] Z5e (a,b,c,())
 | .b5 a b c=>AA3 f14 [1,1,1,1,1,0,1,0,0,0,0] Z5i (a,b,c,())
theorem Ziu:AA1 14 [33,33] 4 (fun x=>eH x.1 x.2.1) rfl:=Cb (mc Zke Az) Aw (al [(3,Z52),(4,Z54),(9,Z5m),(14,Z5e),(20,Z5i),(2,LX),(7,LX),(12,LX),(16,LX),(22,LX)]) Zi7 func14 (fun p=>by cases p<;>kernel_rfl) (by kernel_rfl) fun _=>rfl
inductive xA where
 | b0 (a:F7)
 | b1 (a:Int) (b:F7) (c d e f:Aq)
def dX:xA->Tr U ((Aq×Aq×Int×Bool)⊕xA)
 | .b0 a=>let g:=([]:List BR)++a.BA;.bind 29 (bP a) (fun(d:List Ae)=>.chk true (.chk (kA (0+a.BA.length) 16) (kl g (.bind 37 (zG d g) (fun(b:Aq×Int)=>.bind 29 (bP a) (fun(e:List Ae)=>.bind 37 (Zf e a.BA) (fun(c:Aq×Int)=>.br (b.2 != c.2) (.fail) (.bind 4 (eH b.1 c.1) (fun(f:Bool)=>.br (!f) (.fail) (Ac (.b1 b.2 a Ib Ib b.1 c.1)))))))))))
 | .b1 b a e f c d=>let h:=kA (0+a.BG.length) 16;let g:=([]:List DK)++a.BG;.chk true (.chk h (.chk true (.chk h (kl g (kl g (AZ (({ c with BG:=g }:Aq),({ d with BG:=g }:Aq),b,true)))))))
def xC (a:F7):Option (Aq×Aq×Int×Bool):=AY dX (.b0 a)
def Z4y:Lay:=LT [1,2,3,6,7,8] [.p 0,.p 1,.p 2,.p 3,.v 34,.p 4] [.s 26,.s 33,.s 33,.s 33,.s 33]
def ZgZ:xA->BN U
 | .b0 a=>CU f5 [26] (a,())
 | .b1 a b c d e f=>AA3 f5 [1,1,1,1,0] Z4y (a,b,c,d,e,f,())
theorem Zh2:AA1 5 [26] 35 (fun x=>xC x.1) rfl:=Cb (mc Zkw (mc Zeu (mc ZlW (mc Ziu Az)))) Aw (al [(5,Z4y),(4,LX)]) ZgZ func5 (fun p=>by cases p<;>kernel_rfl) (by kernel_rfl) fun _=>rfl
def ZfW (_:EM) (_:Int):Option (EM×Int):=none
theorem Zfw:AA1 85 [59,41] 179 (fun x=>ZfW x.1 x.2.1) rfl:=⟨⟨_,func85,rfl,by kernel_rfl⟩,fun _ _ h=>nomatch h⟩
def ZgJ (_:EM) (_:Int):Option (EM×Bool):=none
theorem ZfP:AA1 87 [59,3] 182 (fun x=>ZgJ x.1 x.2.1) rfl:=⟨⟨_,func87,rfl,by kernel_rfl⟩,fun _ _ h=>nomatch h⟩
def Zgg:S1 (CY×Int×Unit) Bool
 | (a,b,_)=>AZ (decide (b>=(Ad (a.Since+1000))))
def dE (a:CY) (b:Int):Option Bool:=AY Zgg (a,b,())
theorem Z3Z:AA1 129 [61,3] 4 (fun x=>dE x.1 x.2.1) rfl:=ok1 Az Aw func129 (fun _=>by kernel_rfl) (by kernel_rfl)
inductive vK where
 | b0 (a:CY) (b:Int)
def vG:vK->Tr U ((CY×Int)⊕vK)
 | .b0 a b=>let d:=IntKind.wrap .u32 (a.Index+1);.br a.GI (.fail) (.bind 4 (dE a b) (fun(c:Bool)=>.br (!c) (AZ (a,20)) (.br (d==0) (AZ (a,5)) (AZ ((⟨d,true,b⟩:CY),(0:Int))))))
def dI (a:CY) (b:Int):Option (CY×Int):=AY vG (.b0 a b)
def ZfZ:vK->BN U
 | .b0 a b=>CU f89 [61,3] (a,b,())
theorem Z4q:AA1 89 [61,3] 184 (fun x=>dI x.1 x.2.1) rfl:=Cb (mc Z3Z Az) Aw (al [(2,LX)]) ZfZ func89 (fun p=>by cases p<;>kernel_rfl) (by kernel_rfl) fun _=>rfl
def Zhf:S1 (Int×Unit) Bool
 | (a,_)=>AZ (decide (a>=49152))
def U5 (a:Int):Option Bool:=AY Zhf (a,())
theorem vM:AA1 120 [39] 4 (fun x=>U5 x.1) rfl:=ok1 Az Aw func120 (fun _=>by kernel_rfl) (by kernel_rfl)
inductive yA where
 | b0 (a:CY)
 | b1 (a:CY)
 | b2 (a:CY)
def yJ:yA->Tr U (Int⊕yA)
 | .b0 a=>let b:=Ac (yA.b2 a);.br a.GI (.br (a.Index != 0) (Ac (.b1 a)) b) b
 | .b1 a=>AZ (IntKind.wrap .u32 (a.Index - 1))
 | .b2 a=>AZ a.Index
def Uk (a:CY):Option Int:=AY yJ (.b0 a)
def dV:Lay:=LT [1] [.p 0] [.s 61]
def ZiJ:yA->BN U
 | .b0 a=>CU f121 [61] (a,())
 | .b1 a=>AA3 f121 [1,0,1,0,0] dV (a,())
 | .b2 a=>AA3 f121 [1,1,0] dV (a,())
theorem wO:AA1 121 [61] 47 (fun x=>Uk x.1) rfl:=Cb Az Aw (al [(2,dV),(3,dV)]) ZiJ func121 (fun p=>by cases p<;>kernel_rfl) (by kernel_rfl) fun _=>rfl
inductive wI where
 | b0 (a:List (List Int))
 | b1 (a:List Int) (b:List (List Int)) (c d:Int)
def XA:wI->Tr U ((List Int)⊕wI)
 | .b0 a=>.chk true (Ac (.b1 ([]:List Int) a (↑a.length:Int) (0:Int)))
 | .b1 a c e b=>.br (decide (b<e)) (.chk (kI b c) (.bind 27 (c[(Int.toNat b)]?) (fun(d:List Int)=>kl a (.chk (kA (a.length+d.length) 1) (kl (a++d) (Ac (.b1 (a++d) c e (Ad (b+1))))))))) (kl a (AZ a))
def Hw (a:List (List Int)):Option (List Int):=AY XA (.b0 a)
def Z4I:Lay:=LT [3,6,7,8] [.o 5 1 0,.v 133,.v 3,.v 3] [.r 5]
def Zho:wI->BN U
 | .b0 a=>CU f162 [133] (a,())
 | .b1 a b c d=>AA3 f162 [1,1,0,1,0,0,0] Z4I (b,c,d,a,())
theorem MG:AA1 162 [133] 27 (fun x=>Hw x.1) rfl:=Cb Az Aw (al [(3,Z4I)]) Zho func162 (fun p=>by cases p<;>kernel_rfl) (by kernel_rfl) fun _=>rfl
def Z4Z:S1 (Int×Unit) Bool
 | (a,_)=>.br (decide (a>=1)) (AZ (decide (a<=8))) (AZ false)
def dM (a:Int):Option Bool:=AY Z4Z (a,())
theorem Z4M:AA1 217 [3] 4 (fun x=>dM x.1) rfl:=ok1 Az Aw func217 (fun _=>by kernel_rfl) (by kernel_rfl)
inductive yF where
 | b0 (a:List DF)
 | b1 (a:List Int) (b:List DF) (c d:Int)
 | b2 (a:List Int) (b:List DF) (c d:Int) (e:DF)
 | b3 (a:List Int) (b:List DF) (c d e f:Int) (g:DF)
def KZ:yF->Tr U (((List Int)×Int)⊕yF)
 | .b0 a=>.chk true (Ac (.b1 ([]:List Int) a (↑a.length:Int) (0:Int)))
 | .b1 b d e c=>let g:=Tr.chk true (AZ (([]:List Int),(5:Int)));.br (decide (c<e)) (.chk (kI c d) (.bind 276 (d[(Int.toNat c)]?) (fun(a:DF)=>let i:=Ad ((8:Int)*a.Size);let h:=kl b (Ac (yF.b2 b d e c a));.bind 4 (dM a.Size) (fun(f:Bool)=>.br (!f) g (.br (decide (a.Size<8)) (.chk (decide (0<=i)) (.br ((Int.fdiv a.Value (2 ^ (min (Int.toNat i) (IntKind.bits .u64)))) != 0) g h)) h))))) (kl b (AZ (b,0)))
 | .b2 a c d e b=>kl a (Ac (.b3 a c d e b.Size (0:Int) b))
 | .b3 a d e f g b c=>let i:=Ad ((8:Int)*b);let h:=a++[(IntKind.wrap .u8 ((Int.fdiv c.Value (2 ^ (min (Int.toNat i) (IntKind.bits .u64))))))];.br (decide (b<g)) (.chk (decide (0<=i)) (.chk true (kl a (.chk (kA (a.length+1) 1) (kl h (Ac (.b3 h d e f g (Ad (b+1)) c))))))) (kl a (Ac (.b1 a d e (Ad (f+1)))))
def MK (a:List DF):Option ((List Int)×Int):=AY KZ (.b0 a)
def Z5p:Lay:=LT [4,8,9,10] [.o 5 1 0,.v 328,.v 3,.v 3] [.r 5]
def Z5y:Lay:=LT [4,6,8,9,10] [.o 5 1 0,.p 1,.v 328,.v 3,.v 3] [.r 5,.s 276]
def Z5b:Lay:=LT [4,6,8,9,10,33,34] [.o 5 1 0,.p 1,.v 328,.v 3,.v 3,.v 3,.v 3] [.r 5,.s 276]
def ZhP:yF->BN U
 | .b0 a=>CU f168 [328] (a,())
 | .b1 a b c d=>AA3 f168 [1,1,0,1,0,0,0] Z5p (b,c,d,a,())
 | .b2 a b c d e=>AA3 f168 [1,1,0,1,0,0,1,1,0,0,1,1,0] Z5y (b,c,d,a,e,())
 | .b3 a b c d e f g=>AA3 f168 [1,1,0,1,0,0,1,1,0,0,1,1,1,0,0,0] Z5b (b,c,d,e,f,a,g,())
theorem eF:AA1 168 [328] 270 (fun x=>MK x.1) rfl:=Cb (mc Z4M Az) Aw (al [(3,Z5p),(7,Z5y),(8,Z5b)]) ZhP func168 (fun p=>by cases p<;>kernel_rfl) (by kernel_rfl) fun _=>rfl
inductive y9 where
 | b0 (a:List Int)
 | b1 (a:List DF) (b:List Int) (c d:Int)
def XK:y9->Tr U ((List Int)⊕y9)
 | .b0 a=>.chk true (Ac (.b1 ([]:List DF) a (↑a.length:Int) (0:Int)))
 | .b1 a c d b=>.br (decide (b<d)) (.chk (kI b c) (.bind 40 (c[(Int.toNat b)]?) (fun(e:Int)=>let g:=a++[(⟨8,e⟩:DF)];.chk true (kl a (.chk (kA (a.length+1) 16) (kl g (Ac (.b1 g c d (Ad (b+1)))))))))) (kl a (.bind 270 (MK a) (fun(f:(List Int)×Int)=>AZ f.1)))
def RU (a:List Int):Option (List Int):=AY XK (.b0 a)
def Z5T:Lay:=LT [3,8,9,10] [.o 276 2 0,.v 207,.v 3,.v 3] [.r 276]
def ZjG:y9->BN U
 | .b0 a=>CU f216 [207] (a,())
 | .b1 a b c d=>AA3 f216 [1,1,0,1,0,0,0] Z5T (b,c,d,a,())
theorem xX:AA1 216 [207] 27 (fun x=>RU x.1) rfl:=Cb (mc eF Az) Aw (al [(3,Z5T)]) ZjG func216 (fun p=>by cases p<;>kernel_rfl) (by kernel_rfl) fun _=>rfl
def Z6m:S1 (Int×ByteArray×(List Int)×Unit) Int
 | (b,a,c,_)=>.chk (lY U 5 a) (.bind 27 (RU c) (fun(d:List Int)=>kl (Ku U 5 a) (.chk true (.chk true (.bind 27 (Hw ([(Ku U 5 a),[(0:Int)],d])) (fun(e:List Int)=>.bind 40 (Rh b e) (fun(f:Int)=>AZ f)))))))
def eY (a:Int) (b:ByteArray) (c:List Int):Option Int:=AY Z6m (a,b,c,())
theorem Z5J:AA1 167 [41,9,207] 41 (fun x=>eY x.1 x.2.1 x.2.2.1) rfl:=ok1 (mc MG (mc zN (mc xX Az))) Aw func167 (fun _=>by kernel_rfl) (by kernel_rfl)
def Z4T:S1 ((List Int)×Unit) Int
 | (a,_)=>.bind 41 (eY (0:Int) (⟨#[110,111,110,99,101]⟩:ByteArray) a) (fun(b:Int)=>AZ b)
def vN (a:List Int):Option Int:=AY Z4T (a,())
theorem Zgc:AA1 248 [207] 40 (fun x=>vN x.1) rfl:=ok1 (mc Z5J Az) Aw func248 (fun _=>by kernel_rfl) (by kernel_rfl)
def Z4F:S1 (Int×Int×Int×Int×Unit) Int
 | (a,b,c,d,_)=>.chk true (.bind 40 (vN ([(IntKind.wrap .u64 (a)),(IntKind.wrap .u64 (b)),(IntKind.wrap .u64 (c)),(IntKind.wrap .u64 (d))])) (fun(e:Int)=>AZ e))
def U0 (a b c d:Int):Option Int:=AY Z4F (a,b,c,d,())
theorem uM:AA1 208 [3,39,47,47] 40 (fun x=>U0 x.1 x.2.1 x.2.2.1 x.2.2.2.1) rfl:=ok1 (mc Zgc Az) Aw func208 (fun _=>by kernel_rfl) (by kernel_rfl)
inductive uJ where
 | b0 (a:Bool) (b:Ar) (c:Int)
 | b1 (a b:Int) (c:Ar)
def Wl:uJ->Tr U ((Int×(List Int))⊕uJ)
 | .b0 c a b=>.br c (Ac (.b1 b (1:Int) a)) (Ac (.b1 b (2:Int) a))
 | .b1 b c a=>.bind 40 (U0 c a.Src a.Seq a.IV) (fun(d:Int)=>.chk true (AZ (d,[(IntKind.wrap .u8 (b)),(IntKind.wrap .u8 ((Int.fdiv b (2 ^ (8:Nat)))))])))
def Wp (a:Bool) (b:Ar) (c:Int):Option (Int×(List Int)):=AY Wl (.b0 a b c)
def Z3S:Lay:=LT [2,4,8] [.v 39,.p 0,.v 3] [.s 49]
def Zfm:uJ->BN U
 | .b0 a b c=>CU f158 [4,49,39] (a,b,c,())
 | .b1 a b c=>AA3 f158 [1,1,1,0] Z3S (a,b,c,())
theorem Z3Y:AA1 158 [4,49,39] 262 (fun x=>Wp x.1 x.2.1 x.2.2.1) rfl:=Cb (mc uM Az) Aw (al [(4,Z3S)]) Zfm func158 (fun p=>by cases p<;>kernel_rfl) (by kernel_rfl) fun _=>rfl
inductive yL where
 | b0 (a b:List Int)
 | b1 (a b c:List Int) (d e:Int)
def XG:yL->Tr U ((List Int)⊕yL)
 | .b0 a b=>let f:=(↑a.length:Int);let e:=(↑b.length:Int);let c:=(if e<f then e else f);let d:=(List.replicate (Int.toNat c) (0:Int));.chk (decide (0<=c/\c<=c/\Int.toNat c*1<=lim/\c<=(↑maxLen:Int))) (kl d (kl d (Ac (.b1 a b d (↑(d.length):Int) (0:Int)))))
 | .b1 c d b e a=>let i:=Int.toNat a;.br (decide (a<e)) (.chk (kI a c) (.bind 5 (c[i]?) (fun(f:Int)=>.chk (kI a d) (.bind 5 (d[i]?) (fun(g:Int)=>let j:=b.set i (bits .xor .u8 f g);kl b (.chk (kI a b) (.chk (b.length==b.length&&decide (0<=i)) (.bind 5 (b[i]?) (fun(h:Int)=>.chk (j.length==b.length) (Ac (.b1 c d j e (Ad (a+1))))))))))))) (kl b (AZ b))
def eX (a b:List Int):Option (List Int):=AY XG (.b0 a b)
def Z5n:Lay:=LT [0,1,5,14,15] [.v 27,.v 27,.o 5 1 0,.v 3,.v 3] [.r 5]
def ZiN:yL->BN U
 | .b0 a b=>CU f209 [27,27] (a,b,())
 | .b1 a b c d e=>AA3 f209 [1,1,0,1,0,0,0] Z5n (a,b,d,e,c,())
theorem Z5R:AA1 209 [27,27] 27 (fun x=>eX x.1 x.2.1) rfl:=Cb Az Aw (al [(3,Z5n)]) ZiN func209 (fun p=>by cases p<;>kernel_rfl) (by kernel_rfl) fun _=>rfl
inductive xZ where
 | b0 (a b c:Int)
 | b1 (a b c:Int) (d:List Int) (e:Int)
def XE:xZ->Tr U ((List Int)⊕xZ)
 | .b0 b c a=>let f:=Ad (a+8);let e:=(List.replicate (Int.toNat 0) (0:Int));.bind 40 (Ia b c) (fun(d:Int)=>.chk (decide (0<=(0:Int)/\(0:Int)<=f/\Int.toNat f*1<=lim/\f<=(↑maxLen:Int))) (kl e (Ac (.b1 b a d e (0:Int)))))
 | .b1 d b e a f=>let j:=(↑a.length:Int);let i:=Int.toNat b;let h:=(decide (0<=b/\b<=j));kl a (.br (decide (j<b)) (.bind 40 (Ia d (IntKind.wrap .u64 (e+f))) (fun(g:Int)=>.chk true (.bind 27 (RU ([g])) (fun(c:List Int)=>kl a (.chk (kA (a.length+c.length) 1) (kl (a++c) (Ac (.b1 d b e (a++c) (IntKind.wrap .u64 (f+1)))))))))) (kl a (.chk h (.chk h (.chk (i==i) (kl a (AZ ((a.drop 0).take (i - 0)))))))))
def fH (a b c:Int):Option (List Int):=AY XE (.b0 a b c)
def Z5f:Lay:=LT [0,2,7,8,9] [.v 41,.v 3,.v 40,.o 5 1 0,.v 40] [.r 5]
def ZhZ:xZ->BN U
 | .b0 a b c=>CU f210 [41,40,3] (a,b,c,())
 | .b1 a b c d e=>AA3 f210 [1,1,1,0,1,0,0,0,0] Z5f (a,b,c,e,d,())
theorem Z5S:AA1 210 [41,40,3] 27 (fun x=>fH x.1 x.2.1 x.2.2.1) rfl:=Cb (mc xX (mc fA Az)) Aw (al [(4,Z5f)]) ZhZ func210 (fun p=>by cases p<;>kernel_rfl) (by kernel_rfl) fun _=>rfl
end
noncomputable section
def Z7c:S1 (Int×Int×(List Int)×(List Int)×Unit) (List Int)
 | (c,d,a,e,_)=>.chk true (.bind 270 (MK ([(⟨4,(IntKind.wrap .u64 ((IntKind.wrap .u32 ((↑a.length:Int)))))⟩:DF)])) (fun(f:(List Int)×Int)=>.chk true (.bind 27 (RU ([d])) (fun(g:List Int)=>.chk true (.bind 27 (Hw ([g,f.1,a,e])) (fun(h:List Int)=>.bind 40 (Rh c h) (fun(i:Int)=>.chk true (.bind 27 (RU ([i])) (fun(b:List Int)=>.chk (decide (0<=(4:Int)/\(4:Int)<=(↑b.length:Int))) (AZ ((b.drop 0).take ((Int.toNat 4) - 0))))))))))))
def gB (a b:Int) (c d:List Int):Option (List Int):=AY Z7c (a,b,c,d,())
theorem Z6D:AA1 211 [41,40,27,27] 27 (fun x=>gB x.1 x.2.1 x.2.2.1 x.2.2.2.1) rfl:=ok1 (mc MG (mc eF (mc zN (mc xX Az)))) Aw func211 (fun _=>by kernel_rfl) (by kernel_rfl)
def Z7E:S1 (Int×Int×(List Int)×(List Int)×Unit) (List Int)
 | (a,b,e,c,_)=>.bind 27 (fH a b (↑c.length:Int)) (fun(f:List Int)=>.bind 27 (eX c f) (fun(d:List Int)=>.bind 27 (gB a b e d) (fun(g:List Int)=>.chk true (.bind 27 (Hw ([d,g])) (fun(h:List Int)=>AZ h)))))
def XR (a b:Int) (c d:List Int):Option (List Int):=AY Z7E (a,b,c,d,())
theorem Z6X:AA1 159 [41,40,27,27] 27 (fun x=>XR x.1 x.2.1 x.2.2.1 x.2.2.2.1) rfl:=ok1 (mc MG (mc Z5R (mc Z5S (mc Z6D Az)))) Aw func159 (fun _=>by kernel_rfl) (by kernel_rfl)
def Z4b:S1 (Int×Bool×Ar×Int×(List Int)×Unit) (List Int)
 | (b,c,d,e,f,_)=>.bind 262 (Wp c d e) (fun(a:Int×(List Int))=>.bind 27 (XR b a.1 a.2 f) (fun(g:List Int)=>AZ g))
def bY (a:Int) (b:Bool) (c:Ar) (d:Int) (e:List Int):Option (List Int):=AY Z4b (a,b,c,d,e,())
theorem ZeA:AA1 122 [41,4,49,39,27] 27 (fun x=>bY x.1 x.2.1 x.2.2.1 x.2.2.2.1 x.2.2.2.2.1) rfl:=ok1 (mc Z3Y (mc Z6X Az)) Aw func122 (fun _=>by kernel_rfl) (by kernel_rfl)
def ZeV:S1 (Je×Bool×Unit) Int
 | (a,b,_)=>.br b (AZ a.Node.App) (AZ a.Node.Device)
def W9 (a:Je) (b:Bool):Option Int:=AY ZeV (a,b,())
theorem Z3E:AA1 123 [130,4] 41 (fun x=>W9 x.1 x.2.1) rfl:=ok1 Az Aw func123 (fun _=>by kernel_rfl) (by kernel_rfl)
inductive tV where
 | b0 (a:Int)
 | b1 (a:Int)
def cO:tV->Tr U (Int⊕tV)
 | .b0 a=>let b:=AZ (0:Int);.br (decide (a<1)) b (.br (decide (a>384)) b (Ac (.b1 a)))
 | .b1 a=>.br (decide (a<=15)) (AZ (1:Int)) (AZ (Ad (Int.tdiv (Ad ((Ad (a+12)) - 1)) (12:Int))))
def uB (a:Int):Option Int:=AY cO (.b0 a)
def Z3J:Lay:=LT [0] [.v 3] []
def ZeB:tV->BN U
 | .b0 a=>CU f212 [3] (a,())
 | .b1 a=>AA3 f212 [1,0,0,1,1,0] Z3J (a,())
theorem ZeY:AA1 212 [3] 3 (fun x=>uB x.1) rfl:=Cb Az Aw (al [(3,Z3J)]) ZeB func212 (fun p=>by cases p<;>kernel_rfl) (by kernel_rfl) fun _=>rfl
inductive sQ where
 | b0 (a:BV) (b:Dw)
 | b1 (a:Int) (b:BV) (c:Dw)
 | b2 (a:List DJ) (b c:Int) (d:BV) (e:Dw)
def bI:sQ->Tr U (Int⊕sQ)
 | .b0 b a=>let h:=AZ (1:Int);let g:=(↑a.Bytes.length:Int);let f:=Tr.br (g==0) h (Ac (sQ.b1 g b a));.bind 4 (MI a.Src) (fun(c:Bool)=>.br (!c) h (.bind 4 (MI a.Cf) (fun(d:Bool)=>.br (!d) (.bind 4 (U5 a.Cf) (fun(e:Bool)=>.br (!e) h f)) f)))
 | .b1 a b c=>.br (decide (a>384)) (AZ (4:Int)) (.bind 3 (uB a) (fun(d:Int)=>.br (decide ((IntKind.wrap .u64 ((IntKind.wrap .u64 ((IntKind.wrap .u64 (c.Seq.Seq))+(IntKind.wrap .u64 (d)))) - 1))>16777215)) (AZ (5:Int)) (.br (decide (a<=15)) (AZ (0:Int)) (Ac (.b2 b.Out (↑b.Out.length:Int) (0:Int) b c)))))
 | .b2 b c a d e=>.br (decide (a<c)) (.chk (kI a b) (.bind 149 (b[(Int.toNat a)]?) (fun(f:DJ)=>.br (f.Cf==e.Cf) (AZ (20:Int)) (Ac (.b2 b c (Ad (a+1)) d e))))) (.br (decide ((↑d.Out.length:Int)>=8)) (AZ (8:Int)) (AZ (0:Int)))
def sU (a:BV) (b:Dw):Option Int:=AY bI (.b0 a b)
def Z3n:Lay:=LT [2,3,5] [.p 0,.p 1,.v 3] [.s 68,.s 51]
def Z3t:Lay:=LT [2,3,50,51,52] [.p 0,.p 1,.v 65,.v 3,.v 3] [.s 68,.s 51]
def Zep:sQ->BN U
 | .b0 a b=>CU f160 [68,51] (a,b,())
 | .b1 a b c=>AA3 f160 [1,1,0,0,1,1,0] Z3n (a,b,c,())
 | .b2 a b c d e=>AA3 f160 [1,1,1,0,1,0,0,0] Z3t (a,b,c,d,e,())
theorem Zeo:AA1 160 [68,51] 34 (fun x=>sU x.1 x.2.1) rfl:=Cb (mc dW (mc vM (mc ZeY Az))) Aw (al [(4,Z3n),(11,Z3t)]) Zep func160 (fun p=>by cases p<;>kernel_rfl) (by kernel_rfl) fun _=>rfl
def Zfh (_:List (List Int)):Option (List (List Int)):=none
theorem ZeJ:AA1 213 [133] 133 (fun x=>Zfh x.1) rfl:=⟨⟨_,func213,rfl,by kernel_rfl⟩,fun _ _ h=>nomatch h⟩
inductive sZ where
 | b0 (a:BV)
 | b1 (a b:Int) (c d:BV)
 | b2 (a b:Int) (c d:BV)
def UU:sZ->Tr U (Oa⊕sZ)
 | .b0 a=>let i:=(↑maxLen:Int);let e:=(↑a.In.length:Int);let d:=(↑a.Out.length:Int);let c:=(List.replicate (Int.toNat e) U4);let g:=a.In.take c.length++c.drop a.In.length;let b:=(List.replicate (Int.toNat d) N8);let f:=a.Out.take b.length++b.drop a.Out.length;let h:=f.length==b.length;.chk (decide (0<=d/\d<=d/\Int.toNat d*72<=lim/\d<=i)) (.chk (decide (0<=e/\e<=e/\Int.toNat e*80<=lim/\e<=i)) (kl b (kl c (.chk h (.chk (true&&(true&&(h&&(g.length==c.length)))) (Ac (.b1 (↑(b.length):Int) (0:Int) (⟨([]:List DJ),([]:List D9)⟩:BV) (⟨f,g⟩:BV))))))))
 | .b1 c d b a=>.br (decide (d<c)) (.fail) (kl a.In (.chk (kL b.Out&&(kL b.In&&(kL a.Out&&kL a.In))) (Ac (.b2 (↑a.In.length:Int) (0:Int) b a))))
 | .b2 b c d a=>.br (decide (c<b)) (.fail) (.chk (kL a.Out&&kL a.In) (AZ (⟨a⟩:Oa)))
def UR (a:BV):Option Oa:=AY UU (.b0 a)
def Z3A:Shape:=⟨[.agg [.v 68 2 true]],[]⟩
def Ze8:Shape:=⟨[(Qs 0)],[.row 149 true,.row 135 true]⟩
noncomputable def Zfb:HMod U:=⟨[[.s 149 10,.s 135 11]],[],Z3A,Ze8,true,1447,fun(y:Oa)=>(((),()),(y.q0.Out,(y.q0.In,()))),fun x=>UR x.1.1.1,okS rfl⟩
def Z3G:Lay:=⟨[2,3,27,28],[KP,KP,KP,KP],[.var [.own 149 10,.own 135 11],.var [.own 149 10,.own 135 11],.row true,.row true,.row true,.row true],⟨[PQ 0,PQ 1,OV 3,OV 3],[.var 68 2 (Qs 2),.var 68 2 (Qs 4),.row 149 true,.row 135 true,.row 149 true,.row 135 true]⟩⟩
def Z3F:Lay:=⟨[2,3,46,47],[KP,KP,KP,KP],[.var [.own 149 10,.own 135 11],.var [.own 149 10,.own 135 11],.row true,.row true,.row true,.row true],⟨[PQ 0,PQ 1,OV 3,OV 3],[.var 68 2 (Qs 2),.var 68 2 (Qs 4),.row 149 true,.row 135 true,.row 149 true,.row 135 true]⟩⟩
def ZeD:sZ->BN U
 | .b0 a=>DZ f161 Z3A (((a,()),()),())
 | .b1 c d a b=>AA3 f161 [1,1,1,1,0,1,0,0,0] Z3G (c,d,a.Out,a.In,b.Out,b.In,())
 | .b2 c d a b=>AA3 f161 [1,1,1,1,1,0,1,0,0,0] Z3F (c,d,a.Out,a.In,b.Out,b.In,())
theorem bK:Bi Tryz.prog B0 161 Zfb:=okR (mc ZeJ Az) Aw (al [(5,Z3G),(10,Z3F),(6,LX),(11,LX)]) [[.own 149 10,.own 135 11]] [.row true,.row true] 0 ZeD func161 (fun p=>by cases p<;>kernel_rfl) (by kernel_rfl) fun x=>by kernel_rfl
inductive uX where
 | b0 (a:BV) (b:Dw) (c:Int)
def Z4m:uX->Tr U ((BV×(List Bc)×Int)⊕uX)
 | .b0 c a f=>.bind 34 (sU c a) (fun(d:Int)=>.bind 1447 (UR c) (fun(b:Oa)=>.br (d != 0) (.fail) (.br (decide ((↑a.Bytes.length:Int)<=15)) (.chk true (.bind 27 (Hw ([a.Bytes])) (fun(e:List Int)=>kl b.q0.Out (kl b.q0.In (.chk true (AZ (b.q0,[(⟨false,false,a.App,0,0,0,0,0,false,e⟩:Bc)],(0:Int)))))))) (.fail))))
def uS (a:BV) (b:Dw) (c:Int):Option (BV×(List Bc)×Int):=AY Z4m (.b0 a b c)
def Zfq:uX->BN U
 | .b0 a b c=>CU f124 [68,51,3] (a,b,c,())
theorem ZfG:AA1 124 [68,51,3] 214 (fun x=>uS x.1 x.2.1 x.2.2.1) rfl:=Cb (mc Zeo (mc MG Az)) (hc [] bK Aw) (al [(4,LX),(7,LX)]) Zfq func124 (fun p=>by cases p<;>kernel_rfl) (by kernel_rfl) fun _=>rfl
def Zem:S1 (EM×Unit) (List Bh)
 | (a,_)=>.br (a.EP==1) (.chk true (AZ ([a.Old,a.New]))) (.br (a.EP==2) (.chk true (AZ ([a.New,a.Old]))) (.chk true (AZ ([a.Old]))))
def O9 (a:EM):Option (List Bh):=AY Zem (a,())
theorem aQ:AA1 133 [59] 228 (fun x=>O9 x.1) rfl:=ok1 Az Aw func133 (fun _=>by kernel_rfl) (by kernel_rfl)
def Z49:S1 (EM×Unit) Bh
 | (b,_)=>.bind 228 (O9 b) (fun(a:List Bh)=>.chk (kI (0:Int) a) (.bind 57 (a[(Int.toNat 0)]?) (fun(c:Bh)=>AZ c)))
def uD (a:EM):Option Bh:=AY Z49 (a,())
theorem ZeS:AA1 166 [59] 57 (fun x=>uD x.1) rfl:=ok1 (mc aQ Az) Aw func166 (fun _=>by kernel_rfl) (by kernel_rfl)
def Z2U:S1 (Je×Unit) Bh
 | (a,_)=>.bind 57 (uD a.Node.Keys) (fun(b:Bh)=>AZ b)
def Tc (a:Je):Option Bh:=AY Z2U (a,())
theorem Yq:AA1 126 [130] 57 (fun x=>Tc x.1) rfl:=ok1 (mc ZeS Az) Aw func126 (fun _=>by kernel_rfl) (by kernel_rfl)
def Zfy:S1 (Bc×Unit) Bool
 | (a,_)=>.br a.Control (AZ (a.QZ==0)) (AZ false)
def bT (a:Bc):Option Bool:=AY Zfy (a,())
theorem Z3P:AA1 214 [156] 4 (fun x=>bT x.1) rfl:=ok1 Az Aw func214 (fun _=>by kernel_rfl) (by kernel_rfl)
def Z4d:S1 (Bc×Unit) Bool
 | (a,_)=>let f:=a.Zero==0;let e:=a.Last==0;let d:=a.Block==0;let c:=a.Index==0;.bind 4 (bT a) (fun(b:Bool)=>.br b (.br (!a.Ox) (.br (!a.App) (.br c (.br e (AZ ((↑a.Bytes.length:Int)==0)) (AZ false)) (AZ false)) (AZ false)) (AZ false)) (.br a.Control (.br (!a.Ox) (.br (!a.App) (.br f (.br c (.br e (.br d (AZ (!a.AB)) (AZ false)) (AZ false)) (AZ false)) (AZ false)) (AZ false)) (AZ false)) (.br a.Ox (.br (a.QZ==0) (.br d (AZ (!a.AB)) (AZ false)) (AZ false)) (.br (a.QZ==0) (.br f (.br c (.br e (.br d (AZ (!a.AB)) (AZ false)) (AZ false)) (AZ false)) (AZ false)) (AZ false)))))
def uK (a:Bc):Option Bool:=AY Z4d (a,())
theorem ZfB:AA1 229 [156] 4 (fun x=>uK x.1) rfl:=ok1 (mc Z3P Az) Aw func229 (fun _=>by kernel_rfl) (by kernel_rfl)
inductive tY where
 | b0 (a:Bc)
 | b1 (a b:Int) (c:Bc)
 | b2 (a b:Int) (c:Bc)
 | b3 (a b:Int) (c:Bc)
def QJ:tY->Tr U (Int⊕tY)
 | .b0 a=>.br a.Control (Ac (.b1 (0:Int) (15:Int) a)) (.br a.Ox (.br (decide (a.Index<a.Last)) (Ac (.b1 (12:Int) (12:Int) a)) (Ac (.b1 (1:Int) (12:Int) a))) (Ac (.b1 (1:Int) (15:Int) a)))
 | .b1 b c a=>let e:=AZ (12:Int);let d:=Ac (tY.b2 b c a);.br a.Control (.br (decide (a.QZ<0)) e (.br (decide (a.QZ>=9)) e d)) d
 | .b2 b c a=>let e:=AZ (5:Int);.bind 4 (uK a) (fun(d:Bool)=>.br (!d) (AZ (1:Int)) (.br (decide (a.Zero<0)) e (.br (decide (a.Zero>=8192)) e (.br (decide (a.Last<0)) e (.br (decide (a.Last>=32)) e (.br (decide (a.Index<0)) e (.br (decide (a.Index>a.Last)) e (Ac (.b3 b c a)))))))))
 | .b3 b c a=>let d:=(↑a.Bytes.length:Int);.br (decide (d<b)) (AZ (1:Int)) (.br (decide (d>c)) (AZ (4:Int)) (AZ (0:Int)))
def We (a:Bc):Option Int:=AY QJ (.b0 a)
def UL:Lay:=LT [1,3,4] [.p 0,.v 3,.v 3] [.s 156]
def ZeQ:tY->BN U
 | .b0 a=>CU f187 [156] (a,())
 | .b1 a b c=>AA3 f187 [1,1,1,0,0,0] UL (a,b,c,())
 | .b2 a b c=>AA3 f187 [1,1,1,0,0,1,1,0] UL (a,b,c,())
 | .b3 a b c=>AA3 f187 [1,1,1,0,0,1,1,1,1,1,1,0] UL (a,b,c,())
theorem sN:AA1 187 [156] 34 (fun x=>We x.1) rfl:=Cb (mc ZfB Az) Aw (al [(8,UL),(10,UL),(14,UL)]) ZeQ func187 (fun p=>by cases p<;>kernel_rfl) (by kernel_rfl) fun _=>rfl
def Zg6:S1 (Bool×Int×Unit) Int
 | (a,b,_)=>.br a (AZ b) (AZ (0:Int))
def Wj (a:Bool) (b:Int):Option Int:=AY Zg6 (a,b,())
theorem ZfF:AA1 215 [4,40] 40 (fun x=>Wj x.1 x.2.1) rfl:=ok1 Az Aw func215 (fun _=>by kernel_rfl) (by kernel_rfl)
inductive sW where
 | b0 (a:Bc)
 | b1 (a:List DF) (b:Bc)
def bM:sW->Tr U (((List Int)×Int)⊕sW)
 | .b0 a=>let g:=(Wj a.App (64:Int));.bind 34 (We a) (fun(b:Int)=>.br (b != 0) (.chk true (AZ (([]:List Int),b))) (.bind 4 (bT a) (fun(c:Bool)=>.br c (.bind 40 (Wj a.AB (8192:Int)) (fun(d:Int)=>.chk true (Ac (.b1 ([(⟨1,0⟩:DF),(⟨2,(IntKind.wrap .u64 ((IntKind.wrap .u64 (a.Zero))+d))⟩:DF),(⟨4,(IntKind.wrap .u64 (a.Block))⟩:DF)]) a)))) (.br a.Control (.chk true (Ac (.b1 ([(⟨1,(IntKind.wrap .u64 (a.QZ))⟩:DF)]) a))) (.br a.Ox (.bind 40 g (fun(e:Int)=>.chk true (Ac (.b1 ([(⟨1,(IntKind.wrap .u64 ((128:Int)+e))⟩:DF),(⟨3,(IntKind.wrap .u64 ((Ad ((Ad (a.Zero+(Ad (a.Index*8192))))+(Ad ((Ad (a.Last*8192))*32))))))⟩:DF)]) a)))) (.bind 40 g (fun(f:Int)=>.chk true (Ac (.b1 ([(⟨1,f⟩:DF)]) a)))))))))
 | .b1 a b=>kl a (.bind 270 (MK a) (fun(c:(List Int)×Int)=>.chk true (.bind 27 (Hw ([c.1,b.Bytes])) (fun(d:List Int)=>AZ (d,0)))))
def sK (a:Bc):Option ((List Int)×Int):=AY bM (.b0 a)
def Z3i:Lay:=LT [1,5] [.p 0,.o 276 2 1] [.s 156,.r 276]
def Zeq:sW->BN U
 | .b0 a=>CU f165 [156] (a,())
 | .b1 a b=>AA3 f165 [1,1,1,1,0] Z3i (b,a,())
theorem Zek:AA1 165 [156] 270 (fun x=>sK x.1) rfl:=Cb (mc MG (mc eF (mc sN (mc Z3P (mc ZfF Az))))) Aw (al [(12,Z3i)]) Zeq func165 (fun p=>by cases p<;>kernel_rfl) (by kernel_rfl) fun _=>rfl
inductive Wi where
 | b0 (a b:Dj)
 | b1 (a:Int) (b c d:Dj)
def Vq (a0:Int) (a1 z C:Dj) (v:Int):Tr U (Dj⊕Wi):=
 .br (a0==(0:Int)) (.leaf (.inr (.b1 (Ad (a0+(1:Int))) ({ a1 with x0:=v }:Dj) z C))) (
 .br (a0==(1:Int)) (.leaf (.inr (.b1 (Ad (a0+(1:Int))) ({ a1 with x1:=v }:Dj) z C))) (
 .br (a0==(2:Int)) (.leaf (.inr (.b1 (Ad (a0+(1:Int))) ({ a1 with x2:=v }:Dj) z C))) (
 .br (a0==(3:Int)) (.leaf (.inr (.b1 (Ad (a0+(1:Int))) ({ a1 with x3:=v }:Dj) z C))) (
 .br (a0==(4:Int)) (.leaf (.inr (.b1 (Ad (a0+(1:Int))) ({ a1 with x4:=v }:Dj) z C))) (
 .br (a0==(5:Int)) (.leaf (.inr (.b1 (Ad (a0+(1:Int))) ({ a1 with x5:=v }:Dj) z C))) (
 .fail))))))
def Vx (a0:Int) (a1 z C:Dj) (u:Int):Tr U (Dj⊕Wi):=
 .br (a0==(0:Int)) (Vq a0 a1 z C (bits .xor .u8 u z.x0)) (
 .br (a0==(1:Int)) (Vq a0 a1 z C (bits .xor .u8 u z.x1)) (
 .br (a0==(2:Int)) (Vq a0 a1 z C (bits .xor .u8 u z.x2)) (
 .br (a0==(3:Int)) (Vq a0 a1 z C (bits .xor .u8 u z.x3)) (
 .br (a0==(4:Int)) (Vq a0 a1 z C (bits .xor .u8 u z.x4)) (
 .br (a0==(5:Int)) (Vq a0 a1 z C (bits .xor .u8 u z.x5)) (
 .fail))))))
def QH:Wi->Tr U (Dj⊕Wi)
 | .b0 a b=>Ac (.b1 (0:Int) a b KY)
 | .b1 a b c d=>.br (decide (a<6)) (.br (a==0) (Vx a b c d b.x0) (.br (a==1) (Vx a b c d b.x1) (.br (a==2) (Vx a b c d b.x2) (.br (a==3) (Vx a b c d b.x3) (.br (a==4) (Vx a b c d b.x4) (.br (a==5) (Vx a b c d b.x5) (.fail))))))) (AZ b)
def bV (a b:Dj):Option Dj:=AY QH (.b0 a b)
def Z3z:Lay:=LT [2,3,4,6] [.p 0,.p 1,.p 2,.v 3] [.s 335,.s 335,.s 335]
def ZeG:Wi->BN U
 | .b0 a b=>CU f222 [335,335] (a,b,())
 | .b1 a b c d=>AA3 f222 [1,0,1,0,0,0] Z3z (a,b,c,d,())
theorem Z3Q:AA1 222 [335,335] 335 (fun x=>bV x.1 x.2.1) rfl:=Cb Az Aw (al [(2,Z3z)]) ZeG func222 (fun p=>by cases p<;>kernel_rfl) (by kernel_rfl) fun _=>rfl
inductive wG where
 | b0 (a b:List Int)
 | b1 (a b:List Int) (c:Int) (d:List Int) (e f:Int)
 | b2 (a b c:List Int) (d e:Int)
 | b3 (a b:List Int) (c d:Int) (e:List Int) (f g h i:Int)
def KA:wG->Tr U (((List Int)×(List Int)×Int)⊕wG)
 | .b0 b a=>Ac (.b1 b a (0:Int) a (↑a.length:Int) (0:Int))
 | .b1 b c e d f a=>let i:=([]:List Int);.br (decide (a<f)) (.chk (kI a d) (.bind 3 (d[(Int.toNat a)]?) (fun(g:Int)=>.bind 4 (dM g) (fun(h:Bool)=>.br (!h) (.chk true (.chk true (AZ (i,i,(5:Int))))) (Ac (.b1 b c (Ad (e+g)) d f (Ad (a+1)))))))) (.br (decide ((↑b.length:Int)<e)) (.chk true (.chk true (AZ (i,i,(3:Int))))) (.chk true (Ac (.b2 b i c (↑c.length:Int) (0:Int)))))
 | .b2 d a c e b=>.br (decide (b<e)) (.chk (kI b c) (.bind 3 (c[(Int.toNat b)]?) (fun(f:Int)=>kl a (Ac (.b3 d a f (0:Int) c e b f (0:Int)))))) (.chk true (.bind 27 (Hw ([d])) (fun(g:List Int)=>kl a (AZ (a,g,(0:Int))))))
 | .b3 a b d e f g h i c=>let l:=Int.toNat d;let k:=Ad ((8:Int)*c);.br (decide (c<i)) (.chk (kI c a) (.bind 5 (a[(Int.toNat c)]?) (fun(j:Int)=>.chk (decide (0<=k)) (kl b (Ac (.b3 a b d (bits .or .u64 e (IntKind.wrap .u64 ((IntKind.wrap .u64 (j))*2 ^ (min (Int.toNat k) (IntKind.bits .u64))))) f g h i (Ad (c+1)))))))) (.chk true (kl b (.chk (kA (b.length+1) 8) (.chk (decide (0<=d/\d<=(↑a.length:Int))) (kl (b++[e]) (Ac (.b2 ((a.drop l).take (a.length - l)) (b++[e]) f g (Ad (h+1)))))))))
def RS (a b:List Int):Option ((List Int)×(List Int)×Int):=AY KA (.b0 a b)
def Z4Q:Lay:=LT [0,1,7,15,16,17] [.v 27,.v 45,.v 3,.v 45,.v 3,.v 3] []
def Z4S:Lay:=LT [0,10,32,33,34] [.v 27,.o 40 1 0,.v 45,.v 3,.v 3] [.r 40]
def Z4x:Lay:=LT [0,10,12,13,32,33,34,38,39] [.v 27,.o 40 1 0,.v 3,.v 40,.v 45,.v 3,.v 3,.v 3,.v 3] [.r 40]
def Zh7:wG->BN U
 | .b0 a b=>CU f174 [27,45] (a,b,())
 | .b1 a b c d e f=>AA3 f174 [1,1,0,1,0,0,0] Z4Q (a,b,c,d,e,f,())
 | .b2 a b c d e=>AA3 f174 [1,1,1,1,1,0,1,0,0,0] Z4S (a,c,d,e,b,())
 | .b3 a b c d e f g h i=>AA3 f174 [1,1,1,1,1,0,1,0,0,1,1,0,0,1,1,0,1,0,0,0] Z4x (a,c,d,e,f,g,h,i,b,())
theorem wF:AA1 174 [27,45] 279 (fun x=>RS x.1 x.2.1) rfl:=Cb (mc MG (mc Z4M Az)) Aw (al [(3,Z4Q),(13,Z4S),(17,Z4x)]) Zh7 func174 (fun p=>by cases p<;>kernel_rfl) (by kernel_rfl) fun _=>rfl
inductive wZ where
 | b0 (a:Bh) (b:Int) (c:List Int)
 | b1 (a b:Int) (c d:Dj)
def N9:wZ->Tr U (Dj⊕wZ)
 | .b0 b c d=>.chk true (.bind 279 (RS d ([(7:Int)])) (fun(a:(List Int)×(List Int)×Int)=>.chk (kI (0:Int) a.1) (.bind 40 (a.1[(Int.toNat 0)]?) (fun(e:Int)=>.chk true (.bind 41 (eY b.Hide (⟨#[104,105,100,101]⟩:ByteArray) ([(IntKind.wrap .u64 (c)),e])) (fun(f:Int)=>Ac (.b1 f (0:Int) KY KY)))))))
 | .b1 b a d c=>let g:=Ad ((8:Int)*a);let f:=Ad (a+1);let e:=IntKind.wrap .u8 ((Int.fdiv b (2 ^ (min (Int.toNat g) (IntKind.bits .u64)))));.br (decide (a<6)) (.chk (decide (0<=g)) (.br (a==0) (Ac (.b1 b f d ({ c with x0:=e }:Dj))) (.br (a==1) (Ac (.b1 b f d ({ c with x1:=e }:Dj))) (.br (a==2) (Ac (.b1 b f d ({ c with x2:=e }:Dj))) (.br (a==3) (Ac (.b1 b f d ({ c with x3:=e }:Dj))) (.br (a==4) (Ac (.b1 b f d ({ c with x4:=e }:Dj))) (.br (a==5) (Ac (.b1 b f d ({ c with x5:=e }:Dj))) (.fail)))))))) (AZ c)
def eG (a:Bh) (b:Int) (c:List Int):Option Dj:=AY N9 (.b0 a b c)
def Z4D:Lay:=LT [6,10,11,29] [.p 0,.v 41,.p 1,.v 3] [.s 335,.s 335]
def ZhH:wZ->BN U
 | .b0 a b c=>CU f223 [57,47,27] (a,b,c,())
 | .b1 a b c d=>AA3 f223 [1,1,1,1,0,1,0,0,0] Z4D (a,b,c,d,())
theorem Z5x:AA1 223 [57,47,27] 335 (fun x=>eG x.1 x.2.1 x.2.2.1) rfl:=Cb (mc Z5J (mc wF Az)) Aw (al [(5,Z4D)]) ZhH func223 (fun p=>by cases p<;>kernel_rfl) (by kernel_rfl) fun _=>rfl
inductive vS where
 | b0 (a:CG)
 | b1 (a:CG)
 | b2 (a:CG)
def U2:vS->Tr U (Int⊕vS)
 | .b0 a=>let b:=AZ (5:Int);.br (decide (a.C9<0)) b (.br (decide (a.C9>=128)) b (.br (decide (a.EL<0)) b (.br (decide (a.EL>127)) b (.br (decide (a.Seq>16777215)) b (Ac (.b1 a))))))
 | .b1 a=>let f:=AZ (1:Int);let e:=Tr.br ((↑a.Payload.length:Int)==0) f (Ac (vS.b2 a));.bind 4 (MI a.Src) (fun(b:Bool)=>.br (!b) f (.bind 4 (MI a.Cf) (fun(c:Bool)=>.br (!c) (.bind 4 (U5 a.Cf) (fun(d:Bool)=>.br (!d) f e)) e)))
 | .b2 a=>.br (decide ((↑a.Payload.length:Int)>16)) (AZ (4:Int)) (AZ (0:Int))
def dO (a:CG):Option Int:=AY U2 (.b0 a)
def dA:Lay:=LT [1] [.p 0] [.s 154]
def Zgp:vS->BN U
 | .b0 a=>CU f225 [154] (a,())
 | .b1 a=>AA3 f225 [1,0,0,1,1,0] dA (a,())
 | .b2 a=>AA3 f225 [1,0,0,1,1,1,1,0] dA (a,())
theorem Z4W:AA1 225 [154] 34 (fun x=>dO x.1) rfl:=Cb (mc dW (mc vM Az)) Aw (al [(3,dA),(5,dA)]) Zgp func225 (fun p=>by cases p<;>kernel_rfl) (by kernel_rfl) fun _=>rfl
def Z4f:S1 (CG×Unit) Int
 | (a,_)=>let b:=IntKind.wrap .u8 (a.EL);.br a.Control (AZ (bits .or .u8 b (128:Int))) (AZ b)
def cZ (a:CG):Option Int:=AY Z4f (a,())
theorem Z46:AA1 227 [154] 5 (fun x=>cZ x.1) rfl:=ok1 Az Aw func227 (fun _=>by kernel_rfl) (by kernel_rfl)
def Z4L:S1 (CG×Unit) Dj
 | (a,_)=>let c:=(2 ^ (8:Nat));.bind 5 (cZ a) (fun(b:Int)=>AZ (⟨b,(IntKind.wrap .u8 (a.Seq)),(IntKind.wrap .u8 ((Int.fdiv a.Seq c))),(IntKind.wrap .u8 ((Int.fdiv a.Seq (2 ^ (16:Nat))))),(IntKind.wrap .u8 (a.Src)),(IntKind.wrap .u8 ((Int.fdiv a.Src c)))⟩:Dj))
def vH (a:CG):Option Dj:=AY Z4L (a,())
theorem ZfQ:AA1 228 [154] 335 (fun x=>vH x.1) rfl:=ok1 (mc Z46 Az) Aw func228 (fun _=>by kernel_rfl) (by kernel_rfl)
def Z4v:S1 (Bh×CG×Unit) ((List Int)×Int)
 | (c,a,_)=>let l:=([]:List Int);.bind 34 (dO a) (fun(d:Int)=>.br (d != 0) (.chk true (AZ (l,d))) (.br (a.C9 != c.C9) (.chk true (AZ (l,(17:Int)))) (.chk true (.chk true (.bind 27 (Hw ([[(IntKind.wrap .u8 (a.Cf)),(IntKind.wrap .u8 ((Int.fdiv a.Cf (2 ^ (8:Nat)))))],a.Payload])) (fun(f:List Int)=>.bind 40 (U0 (0:Int) a.Src a.Seq a.IV) (fun(g:Int)=>.bind 5 (cZ a) (fun(h:Int)=>.chk true (.bind 27 (XR c.LC g ([h]) f) (fun(e:List Int)=>.bind 335 (vH a) (fun(i:Dj)=>.bind 335 (eG c a.IV e) (fun(j:Dj)=>.bind 335 (bV i j) (fun(b:Dj)=>.chk true (.chk true (.bind 27 (Hw ([[(bits .or .u8 (IntKind.wrap .u8 (a.C9)) (IntKind.wrap .u8 ((IntKind.wrap .u8 ((bits .and .u32 a.IV (1:Int))))*2 ^ (7:Nat))))],(List.take 6 [b.x0,b.x1,b.x2,b.x3,b.x4,b.x5]),e])) (fun(k:List Int)=>AZ (k,0)))))))))))))))))
def Wx (a:Bh) (b:CG):Option ((List Int)×Int):=AY Z4v (a,b,())
theorem Z4j:AA1 184 [57,154] 270 (fun x=>Wx x.1 x.2.1) rfl:=ok1 (mc Z6X (mc MG (mc uM (mc Z3Q (mc Z5x (mc Z4W (mc Z46 (mc ZfQ Az)))))))) Aw func184 (fun _=>by kernel_rfl) (by kernel_rfl)
inductive rF where
 | b0 (a:Bh) (b:CG) (c:Int) (d:BJ) (e:List BH)
def Z3u:rF->Tr U (UB⊕rF)
 | .b0 e f c a d=>.bind 270 (Wx e f) (fun(b:(List Int)×Int)=>let g:=a.Node.Out++[(⟨c,b.1,0⟩:BL)];.br (b.2 != 0) (.fail) (.chk true (kl a.Node.Out (.chk (kA (a.Node.Out.length+1) 40) (.chk (kL a.Node.Ah&&(kL a.Node.Cache&&(kL a.Node.Ai&&(kL a.Node.AB.Aa&&(kL a.Node.AB.AO&&(kL a.Node.Low.AO&&((g.length==g.length)&&(kL a.Node.AB.Aa&&(kL a.Node.AB.AO&&kL d))))))))) (AZ (⟨true,(⟨({ a.Node with Out:=g }:Ae),a.DL⟩:BJ),d⟩:UB)))))))
def rH (a:Bh) (b:CG) (c:Int) (d:BJ) (e:List BH):Option UB:=AY Z3u (.b0 a b c d e)
def Z2P:Shape:=⟨[PQ 0,.agg [.v 57 5 true],.agg [.v 154 8 true],OV 3],[.var 177 48 (.agg [VC 39 1,VC 41 1,VC 41 1,.v 59 11 true,.v 61 3 true,VC 47 1,VC 4 1,VC 4 1,.own 39 1,.own 49 2,.own 138 3,.v 68 2 true,VC 39 1,.own 158 4,.own 39 5,VC 3 1,VC 4 1,VC 3 1,VC 3 1,VC 3 1,VC 3 1,VC 39 1,VC 3 1,VC 3 1,VC 3 1,VC 3 1,.own 39 6,VC 3 1,VC 4 1,VC 3 1,.own 120 7,VC 47 1,VC 4 1,VC 3 1,.fn 83 [] [8]]),.row 39 true,.row 49 true,.row 138 true,.row 158 false,.row 39 false,.row 39 true,.row 120 true,.var 100 1 (.one (.own 53 9)),.row 53 true]⟩
def ZcW:Shape:=⟨[OV 4],[.var 177 48 (.agg [VC 39 1,VC 41 1,VC 41 1,.v 59 11 true,.v 61 3 true,VC 47 1,VC 4 1,VC 4 1,.own 39 1,.own 49 2,.own 138 3,.v 68 2 true,VC 39 1,.own 158 4,.own 39 5,VC 3 1,VC 4 1,VC 3 1,VC 3 1,VC 3 1,VC 3 1,VC 39 1,VC 3 1,VC 3 1,VC 3 1,VC 3 1,.own 39 6,VC 3 1,VC 4 1,VC 3 1,.own 120 7,VC 47 1,VC 4 1,VC 3 1,.fn 83 [] [8]]),.row 39 true,.row 49 true,.row 138 true,.row 158 false,.row 39 false,.row 39 true,.row 120 true,.var 100 1 (.one (.own 53 9)),.row 53 true]⟩
noncomputable def Ze5:HMod U:=⟨[KP,k10,k7,KP],[.var k3,.row true,.row true,.row true,.row false,.row false,.row true,.row true,.var [.own 53 11],.row true],Z2P,ZcW,true,1445,fun(y:UB)=>(((y.q0,()),()),((Jz y.q1),(y.q1.Node.Ah,(y.q1.Node.Cache,(y.q1.Node.Ai,(y.q1.Node.AB.Aa,(y.q1.Node.AB.AO,(y.q1.Node.Low.AO,(y.q1.Node.Out,((),(y.q2,()))))))))))),fun x=>rH x.1.2.1.1 x.1.2.2.1.1 x.1.2.2.2.1.1 (match x with|⟨_,⟨v0,v2,v4,v6,v8,z,D,I,J,M,Q,R,S,Y,v21,v22,v23,v24,v25,v26,v27,v28,v29,v30,v31,v32,v33,_⟩,v1,v3,v5,v7,v9,C,G,_⟩=>(⟨(⟨v0,v2,v4,v6,v8,z,D,I,v1,v3,v5,J,(⟨M,v7,v9,Q,R,S,Y,v21⟩:EG),(⟨v22,v23,v24,v25,v26,v27,C,v28,v29,v30⟩:Df),G,v31,v32⟩:Ae),v33⟩:BJ)) x.2.2.2.2.2.2.2.2.2.2.1,okS rfl⟩
def ZdL:rF->BN U
 | .b0 b c d a e=>DZ f139 Z2P (((),((b,()),((c,()),((d,()),())))),((Jz a),(a.Node.Ah,(a.Node.Cache,(a.Node.Ai,(a.Node.AB.Aa,(a.Node.AB.AO,(a.Node.Low.AO,(a.Node.Out,((),(e,())))))))))))
theorem ZdA:Bi Tryz.prog B0 139 Ze5:=okR (mc Z4j Az) Aw (al [(3,LX)]) [KP] [.var k3,.row true,.row true,.row true,.row false,.row false,.row true,.row true,.var [.own 53 11],.row true] 10 ZdL func139 (fun p=>by cases p<;>kernel_rfl) (by kernel_rfl) fun x=>by kernel_rfl
end
noncomputable section
def ZhR (_:Gh):Option Gh:=none
theorem vP:AA1 94 [158] 158 (fun x=>ZhR x.1) rfl:=⟨⟨_,func94,rfl,by kernel_rfl⟩,fun _ _ h=>nomatch h⟩
inductive rD where
 | b0 (a:List Int) (b:Int)
 | b1 (a:List Int) (b c d:Int)
def Zdw:rD->Tr U (Int⊕rD)
 | .b0 a b=>Ac (.b1 a b (↑a.length:Int) (0:Int))
 | .b1 b c d a=>.br (decide (a<d)) (.chk (kI a b) (.bind 39 (b[(Int.toNat a)]?) (fun(e:Int)=>.br (c==e) (AZ a) (Ac (.b1 b c d (Ad (a+1))))))) (AZ (-1:Int))
def Z32 (a:List Int) (b:Int):Option Int:=AY Zdw (.b0 a b)
def Z2L:Lay:=LT [0,1,7,8] [.v 62,.v 39,.v 3,.v 3] []
def Zdj:rD->BN U
 | .b0 a b=>CU f236 [62,39] (a,b,())
 | .b1 a b c d=>AA3 f236 [1,0,1,0,0,0] Z2L (a,b,c,d,())
theorem Zda:AA1 236 [62,39] 3 (fun x=>Z32 x.1 x.2.1) rfl:=Cb Az Aw (al [(2,Z2L)]) Zdj func236 (fun p=>by cases p<;>kernel_rfl) (by kernel_rfl) fun _=>rfl
def Zcz:S1 ((List Int)×Int×Unit) Bool
 | (a,b,_)=>.bind 3 (Z32 a b) (fun(c:Int)=>AZ (decide (c>=0)))
def Yn (a:List Int) (b:Int):Option Bool:=AY Zcz (a,b,())
theorem Z2l:AA1 191 [62,39] 4 (fun x=>Yn x.1 x.2.1) rfl:=ok1 (mc Zda Az) Aw func191 (fun _=>by kernel_rfl) (by kernel_rfl)
def Zhc:S1 (EG×Int×Unit) Bool
 | (a,b,_)=>.br (a.Low != 0) (.br (b==a.Low) (AZ true) (.br (b==65535) (AZ true) (.bind 4 (Yn a.AO b) (fun(c:Bool)=>AZ c)))) (AZ false)
def dR (a:EG) (b:Int):Option Bool:=AY Zhc (a,b,())
theorem Z4P:AA1 188 [71,39] 4 (fun x=>dR x.1 x.2.1) rfl:=ok1 (mc Z2l Az) Aw func188 (fun _=>by kernel_rfl) (by kernel_rfl)
def Zfp:S1 (Bc×Unit) Bool
 | (a,_)=>.br a.Control (AZ (a.QZ != 0)) (AZ false)
def uA (a:Bc):Option Bool:=AY Zfp (a,())
theorem Z3N:AA1 189 [156] 4 (fun x=>uA x.1) rfl:=ok1 Az Aw func189 (fun _=>by kernel_rfl) (by kernel_rfl)
inductive qI where
 | b0 (a:CG) (b:Bc) (c:BJ) (d:List BH)
def Z36:qI->Tr U (Qz⊕qI)
 | .b0 c d a b=>let g:=Tr.chk (kL a.Node.Ah&&(kL a.Node.Cache&&(kL a.Node.Ai&&(kL a.Node.AB.Aa&&(kL a.Node.AB.AO&&(kL a.Node.Low.AO&&(kL a.Node.Out&&(kL a.Node.AB.Aa&&(kL a.Node.AB.AO&&kL b))))))))) (AZ (⟨a,b⟩:Qz));kl a.Node.AB.Aa (kl a.Node.AB.AO (.bind 4 (dR a.Node.AB c.Cf) (fun(e:Bool)=>.br e (.bind 4 (uA d) (fun(f:Bool)=>.br (!f) (.fail) g)) g)))
def qJ (a:CG) (b:Bc) (c:BJ) (d:List BH):Option Qz:=AY Z36 (.b0 a b c d)
def Z2A:Shape:=⟨[PQ 0,.agg [.v 154 8 true],.agg [.v 156 10 true]],[.var 177 48 (.agg [VC 39 1,VC 41 1,VC 41 1,.v 59 11 true,.v 61 3 true,VC 47 1,VC 4 1,VC 4 1,.own 39 1,.own 49 2,.own 138 3,.v 68 2 true,VC 39 1,.own 158 4,.own 39 5,VC 3 1,VC 4 1,VC 3 1,VC 3 1,VC 3 1,VC 3 1,VC 39 1,VC 3 1,VC 3 1,VC 3 1,VC 3 1,.own 39 6,VC 3 1,VC 4 1,VC 3 1,.own 120 7,VC 47 1,VC 4 1,VC 3 1,.fn 83 [] [8]]),.row 39 true,.row 49 true,.row 138 true,.row 158 false,.row 39 false,.row 39 true,.row 120 true,.var 100 1 (.one (.own 53 9)),.row 53 true]⟩
def Zcy:Shape:=⟨[],[.var 177 48 (.agg [VC 39 1,VC 41 1,VC 41 1,.v 59 11 true,.v 61 3 true,VC 47 1,VC 4 1,VC 4 1,.own 39 1,.own 49 2,.own 138 3,.v 68 2 true,VC 39 1,.own 158 4,.own 39 5,VC 3 1,VC 4 1,VC 3 1,VC 3 1,VC 3 1,VC 3 1,VC 39 1,VC 3 1,VC 3 1,VC 3 1,VC 3 1,.own 39 6,VC 3 1,VC 4 1,VC 3 1,.own 120 7,VC 47 1,VC 4 1,VC 3 1,.fn 83 [] [8]]),.row 39 true,.row 49 true,.row 138 true,.row 158 false,.row 39 false,.row 39 true,.row 120 true,.var 100 1 (.one (.own 53 9)),.row 53 true]⟩
noncomputable def Zdy:HMod U:=⟨[KP,k7,k4],[.var k3,.row true,.row true,.row true,.row false,.row false,.row true,.row true,.var [.own 53 11],.row true],Z2A,Zcy,false,1446,fun(y:Qz)=>((),((Jz y.q0),(y.q0.Node.Ah,(y.q0.Node.Cache,(y.q0.Node.Ai,(y.q0.Node.AB.Aa,(y.q0.Node.AB.AO,(y.q0.Node.Low.AO,(y.q0.Node.Out,((),(y.q1,()))))))))))),fun x=>qJ x.1.2.1.1 x.1.2.2.1.1 (match x with|⟨_,⟨v0,v2,v4,v6,v8,z,D,I,J,M,Q,R,S,Y,v21,v22,v23,v24,v25,v26,v27,v28,v29,v30,v31,v32,v33,_⟩,v1,v3,v5,v7,v9,C,G,_⟩=>(⟨(⟨v0,v2,v4,v6,v8,z,D,I,v1,v3,v5,J,(⟨M,v7,v9,Q,R,S,Y,v21⟩:EG),(⟨v22,v23,v24,v25,v26,v27,C,v28,v29,v30⟩:Df),G,v31,v32⟩:Ae),v33⟩:BJ)) x.2.2.2.2.2.2.2.2.2.2.1,okS rfl⟩
def Zdb:qI->BN U
 | .b0 b c a d=>DZ f141 Z2A (((),((b,()),((c,()),()))),((Jz a),(a.Node.Ah,(a.Node.Cache,(a.Node.Ai,(a.Node.AB.Aa,(a.Node.AB.AO,(a.Node.Low.AO,(a.Node.Out,((),(d,())))))))))))
theorem Zde:Bi Tryz.prog B0 141 Zdy:=okR (mc vP (mc Z4P (mc Z3N Az))) Aw (al [(2,LX)]) [] [.var k3,.row true,.row true,.row true,.row false,.row false,.row true,.row true,.var [.own 53 11],.row true] 10 Zdb func141 (fun p=>by cases p<;>kernel_rfl) (by kernel_rfl) fun x=>by kernel_rfl
inductive qU where
 | b0 (a:BJ) (b:List BH)
 | b1 (a:BJ) (b:List BH)
def qN:qU->Tr U (Ti⊕qU)
 | .b0 a b=>let c:=kL a.Node.Ah&&(kL a.Node.Cache&&(kL a.Node.Ai&&(kL a.Node.AB.Aa&&(kL a.Node.AB.AO&&(kL a.Node.Low.AO&&(kL a.Node.Out&&(kL a.Node.AB.Aa&&(kL a.Node.AB.AO&&kL b))))))));.br (a.Node.Seq==a.Node.G8) (.chk c (Ac (.b1 (⟨({ a.Node with G8:=(IntKind.wrap .u32 (a.Node.G8+100)) }:Ae),a.DL⟩:BJ) b))) (.chk c (Ac (.b1 a b)))
 | .b1 a b=>let c:=IntKind.wrap .u32 (a.Node.Seq+1);.chk (kL a.Node.Ah&&(kL a.Node.Cache&&(kL a.Node.Ai&&(kL a.Node.AB.Aa&&(kL a.Node.AB.AO&&(kL a.Node.Low.AO&&(kL a.Node.Out&&(kL a.Node.AB.Aa&&(kL a.Node.AB.AO&&kL b))))))))) (AZ (⟨(IntKind.wrap .u32 (c - 1)),(⟨({ a.Node with Seq:=c }:Ae),a.DL⟩:BJ),b⟩:Ti))
def qP (a:BJ) (b:List BH):Option Ti:=AY qN (.b0 a b)
def Z2M:Shape:=⟨[PQ 0],[.var 177 48 (.agg [VC 39 1,VC 41 1,VC 41 1,.v 59 11 true,.v 61 3 true,VC 47 1,VC 4 1,VC 4 1,.own 39 1,.own 49 2,.own 138 3,.v 68 2 true,VC 39 1,.own 158 4,.own 39 5,VC 3 1,VC 4 1,VC 3 1,VC 3 1,VC 3 1,VC 3 1,VC 39 1,VC 3 1,VC 3 1,VC 3 1,VC 3 1,.own 39 6,VC 3 1,VC 4 1,VC 3 1,.own 120 7,VC 47 1,VC 4 1,VC 3 1,.fn 83 [] [8]]),.row 39 true,.row 49 true,.row 138 true,.row 158 false,.row 39 false,.row 39 true,.row 120 true,.var 100 1 (.one (.own 53 9)),.row 53 true]⟩
def Zcx:Shape:=⟨[OV 47],[.var 177 48 (.agg [VC 39 1,VC 41 1,VC 41 1,.v 59 11 true,.v 61 3 true,VC 47 1,VC 4 1,VC 4 1,.own 39 1,.own 49 2,.own 138 3,.v 68 2 true,VC 39 1,.own 158 4,.own 39 5,VC 3 1,VC 4 1,VC 3 1,VC 3 1,VC 3 1,VC 3 1,VC 39 1,VC 3 1,VC 3 1,VC 3 1,VC 3 1,.own 39 6,VC 3 1,VC 4 1,VC 3 1,.own 120 7,VC 47 1,VC 4 1,VC 3 1,.fn 83 [] [8]]),.row 39 true,.row 49 true,.row 138 true,.row 158 false,.row 39 false,.row 39 true,.row 120 true,.var 100 1 (.one (.own 53 9)),.row 53 true]⟩
noncomputable def ZdJ:HMod U:=⟨[KP],[.var k3,.row true,.row true,.row true,.row false,.row false,.row true,.row true,.var [.own 53 11],.row true],Z2M,Zcx,true,1444,fun(y:Ti)=>(((y.q0,()),()),((Jz y.q1),(y.q1.Node.Ah,(y.q1.Node.Cache,(y.q1.Node.Ai,(y.q1.Node.AB.Aa,(y.q1.Node.AB.AO,(y.q1.Node.Low.AO,(y.q1.Node.Out,((),(y.q2,()))))))))))),fun x=>qP (match x with|⟨_,⟨v0,v2,v4,v6,v8,z,D,I,J,M,Q,R,S,Y,v21,v22,v23,v24,v25,v26,v27,v28,v29,v30,v31,v32,v33,_⟩,v1,v3,v5,v7,v9,C,G,_⟩=>(⟨(⟨v0,v2,v4,v6,v8,z,D,I,v1,v3,v5,J,(⟨M,v7,v9,Q,R,S,Y,v21⟩:EG),(⟨v22,v23,v24,v25,v26,v27,C,v28,v29,v30⟩:Df),G,v31,v32⟩:Ae),v33⟩:BJ)) x.2.2.2.2.2.2.2.2.2.2.1,okS rfl⟩
def Z2F:Lay:=⟨[0],[KP],[.var k3,.row true,.row true,.row true,.row false,.row false,.row true,.row true,.var [.own 53 11],.row true],⟨[PQ 0],[.var 177 48 (.agg [VC 39 1,VC 41 1,VC 41 1,.v 59 11 true,.v 61 3 true,VC 47 1,VC 4 1,VC 4 1,.own 39 1,.own 49 2,.own 138 3,.v 68 2 true,VC 39 1,.own 158 4,.own 39 5,VC 3 1,VC 4 1,VC 3 1,VC 3 1,VC 3 1,VC 3 1,VC 39 1,VC 3 1,VC 3 1,VC 3 1,VC 3 1,.own 39 6,VC 3 1,VC 4 1,VC 3 1,.own 120 7,VC 47 1,VC 4 1,VC 3 1,.fn 83 [] [8]]),.row 39 true,.row 49 true,.row 138 true,.row 158 false,.row 39 false,.row 39 true,.row 120 true,.var 100 1 (.one (.own 53 9)),.row 53 true]⟩⟩
def Zd1:qU->BN U
 | .b0 a b=>DZ f164 Z2M (((),()),((Jz a),(a.Node.Ah,(a.Node.Cache,(a.Node.Ai,(a.Node.AB.Aa,(a.Node.AB.AO,(a.Node.Low.AO,(a.Node.Out,((),(b,())))))))))))
 | .b1 a b=>BB f164 [1,1,0] Z2F (((),()),((Jz a),(a.Node.Ah,(a.Node.Cache,(a.Node.Ai,(a.Node.AB.Aa,(a.Node.AB.AO,(a.Node.Low.AO,(a.Node.Out,((),(b,())))))))))))
theorem Zdg:Bi Tryz.prog B0 164 ZdJ:=okR Az Aw (al [(3,Z2F)]) [KP] [.var k3,.row true,.row true,.row true,.row false,.row false,.row true,.row true,.var [.own 53 11],.row true] 10 Zd1 func164 (fun p=>by cases p<;>kernel_rfl) (by kernel_rfl) fun x=>by kernel_rfl
inductive qY where
 | b0 (a:Bh) (b:EF) (c:BJ) (d:List BH)
 | b1 (a:Int) (b:List Int) (c:BJ) (d:List BH) (e:Bh) (f:EF)
def Yy:qY->Tr U (O8⊕qY)
 | .b0 f c b d=>.chk (kL b.Node.Ah&&(kL b.Node.Cache&&(kL b.Node.Ai&&(kL b.Node.AB.Aa&&(kL b.Node.AB.AO&&(kL b.Node.Low.AO&&(kL b.Node.Out&&(kL b.Node.AB.Aa&&(kL b.Node.AB.AO&&kL d))))))))) (.bind 1444 (qP b d) (fun(a:Ti)=>let g:=kL a.q1.Node.Ah&&(kL a.q1.Node.Cache&&(kL a.q1.Node.Ai&&(kL a.q1.Node.AB.Aa&&(kL a.q1.Node.AB.AO&&(kL a.q1.Node.Low.AO&&(kL a.q1.Node.Out&&(kL a.q1.Node.AB.Aa&&(kL a.q1.Node.AB.AO&&kL a.q2))))))));let h:=Tr.chk g (AZ (⟨a.q1,a.q2⟩:O8));.bind 270 (sK c.Lower) (fun(e:(List Int)×Int)=>.br (e.2 != 0) h (.br (decide (a.q0>16777215)) h (.chk g (Ac (.b1 a.q0 e.1 a.q1 a.q2 f c)))))))
 | .b1 f g b h e d=>.bind 47 (Uk b.Node.IV) (fun(i:Int)=>let k:=(⟨i,e.C9,d.Lower.Control,d.EL,f,d.Src,d.Cf,g⟩:CG);.chk (kL b.Node.Ah&&(kL b.Node.Cache&&(kL b.Node.Ai&&(kL b.Node.AB.Aa&&(kL b.Node.AB.AO&&(kL b.Node.Low.AO&&(kL b.Node.Out&&(kL b.Node.AB.Aa&&(kL b.Node.AB.AO&&kL h))))))))) (.bind 1445 (rH e k b.DL b h) (fun(a:UB)=>let j:=kL a.q1.Node.Ah&&(kL a.q1.Node.Cache&&(kL a.q1.Node.Ai&&(kL a.q1.Node.AB.Aa&&(kL a.q1.Node.AB.AO&&(kL a.q1.Node.Low.AO&&(kL a.q1.Node.Out&&(kL a.q1.Node.AB.Aa&&(kL a.q1.Node.AB.AO&&kL a.q2))))))));.br a.q0 (.chk j (.bind 1446 (qJ k d.Lower a.q1 a.q2) (fun(c:Qz)=>.chk (kL c.q0.Node.Ah&&(kL c.q0.Node.Cache&&(kL c.q0.Node.Ai&&(kL c.q0.Node.AB.Aa&&(kL c.q0.Node.AB.AO&&(kL c.q0.Node.Low.AO&&(kL c.q0.Node.Out&&(kL c.q0.Node.AB.Aa&&(kL c.q0.Node.AB.AO&&kL c.q1))))))))) (AZ (⟨c.q0,c.q1⟩:O8))))) (.chk j (AZ (⟨a.q1,a.q2⟩:O8))))))
def qQ (a:Bh) (b:EF) (c:BJ) (d:List BH):Option O8:=AY Yy (.b0 a b c d)
def Z2x:Shape:=⟨[PQ 0,.agg [.v 57 5 true],.agg [.v 219 13 true]],[.var 177 48 (.agg [VC 39 1,VC 41 1,VC 41 1,.v 59 11 true,.v 61 3 true,VC 47 1,VC 4 1,VC 4 1,.own 39 1,.own 49 2,.own 138 3,.v 68 2 true,VC 39 1,.own 158 4,.own 39 5,VC 3 1,VC 4 1,VC 3 1,VC 3 1,VC 3 1,VC 3 1,VC 39 1,VC 3 1,VC 3 1,VC 3 1,VC 3 1,.own 39 6,VC 3 1,VC 4 1,VC 3 1,.own 120 7,VC 47 1,VC 4 1,VC 3 1,.fn 83 [] [8]]),.row 39 true,.row 49 true,.row 138 true,.row 158 false,.row 39 false,.row 39 true,.row 120 true,.var 100 1 (.one (.own 53 9)),.row 53 true]⟩
def ZcJ:Shape:=⟨[],[.var 177 48 (.agg [VC 39 1,VC 41 1,VC 41 1,.v 59 11 true,.v 61 3 true,VC 47 1,VC 4 1,VC 4 1,.own 39 1,.own 49 2,.own 138 3,.v 68 2 true,VC 39 1,.own 158 4,.own 39 5,VC 3 1,VC 4 1,VC 3 1,VC 3 1,VC 3 1,VC 3 1,VC 39 1,VC 3 1,VC 3 1,VC 3 1,VC 3 1,.own 39 6,VC 3 1,VC 4 1,VC 3 1,.own 120 7,VC 47 1,VC 4 1,VC 3 1,.fn 83 [] [8]]),.row 39 true,.row 49 true,.row 138 true,.row 158 false,.row 39 false,.row 39 true,.row 120 true,.var 100 1 (.one (.own 53 9)),.row 53 true]⟩
noncomputable def Zdx:HMod U:=⟨[KP,k10,k19],[.var k3,.row true,.row true,.row true,.row false,.row false,.row true,.row true,.var [.own 53 11],.row true],Z2x,ZcJ,false,1443,fun(y:O8)=>((),((Jz y.q0),(y.q0.Node.Ah,(y.q0.Node.Cache,(y.q0.Node.Ai,(y.q0.Node.AB.Aa,(y.q0.Node.AB.AO,(y.q0.Node.Low.AO,(y.q0.Node.Out,((),(y.q1,()))))))))))),fun x=>qQ x.1.2.1.1 x.1.2.2.1.1 (match x with|⟨_,⟨v0,v2,v4,v6,v8,z,D,I,J,M,Q,R,S,Y,v21,v22,v23,v24,v25,v26,v27,v28,v29,v30,v31,v32,v33,_⟩,v1,v3,v5,v7,v9,C,G,_⟩=>(⟨(⟨v0,v2,v4,v6,v8,z,D,I,v1,v3,v5,J,(⟨M,v7,v9,Q,R,S,Y,v21⟩:EG),(⟨v22,v23,v24,v25,v26,v27,C,v28,v29,v30⟩:Df),G,v31,v32⟩:Ae),v33⟩:BJ)) x.2.2.2.2.2.2.2.2.2.2.1,okS rfl⟩
def Z2N:Lay:=⟨[0,4,5,6,7],[KP,KP,KP,KP,[.s 5 1]],[.var k3,.row true,.row true,.row true,.row false,.row false,.row true,.row true,.var [.own 53 11],.row true,.var k10,.var k19],⟨[PQ 0,PQ 10,PQ 11,OV 47,OV 27],[.var 177 48 (.agg [VC 39 1,VC 41 1,VC 41 1,.v 59 11 true,.v 61 3 true,VC 47 1,VC 4 1,VC 4 1,.own 39 1,.own 49 2,.own 138 3,.v 68 2 true,VC 39 1,.own 158 4,.own 39 5,VC 3 1,VC 4 1,VC 3 1,VC 3 1,VC 3 1,VC 3 1,VC 39 1,VC 3 1,VC 3 1,VC 3 1,VC 3 1,.own 39 6,VC 3 1,VC 4 1,VC 3 1,.own 120 7,VC 47 1,VC 4 1,VC 3 1,.fn 83 [] [8]]),.row 39 true,.row 49 true,.row 138 true,.row 158 false,.row 39 false,.row 39 true,.row 120 true,.var 100 1 (.one (.own 53 9)),.row 53 true,VA 57 5,VA 219 13]⟩⟩
def Zdk:qY->BN U
 | .b0 b c a d=>DZ f125 Z2x (((),((b,()),((c,()),()))),((Jz a),(a.Node.Ah,(a.Node.Cache,(a.Node.Ai,(a.Node.AB.Aa,(a.Node.AB.AO,(a.Node.Low.AO,(a.Node.Out,((),(d,())))))))))))
 | .b1 b c a d e f=>BB f125 [1,1,1,1,0] Z2N (((),((),((),((b,()),((c,()),()))))),((Jz a),(a.Node.Ah,(a.Node.Cache,(a.Node.Ai,(a.Node.AB.Aa,(a.Node.AB.AO,(a.Node.Low.AO,(a.Node.Out,((),(d,((e,()),((f,()),())))))))))))))
theorem ZcZ:Bi Tryz.prog B0 125 Zdx:=okR (mc wO (mc Zek Az)) (hc [] ZdA (hc [] Zde (hc [] Zdg Aw))) (al [(4,Z2N)]) [] [.var k3,.row true,.row true,.row true,.row false,.row false,.row true,.row true,.var [.own 53 11],.row true] 10 Zdk func125 (fun p=>by cases p<;>kernel_rfl) (by kernel_rfl) fun x=>by kernel_rfl
inductive sG where
 | b0 (a:Int) (b:Bool) (c:Int) (d:List Int) (e:BJ) (f:List BH)
 | b1 (a:Int) (b:Bool) (c:Int) (d:List Int) (e:BJ) (f:List BH)
 | b2 (a:Int) (b:Bool) (c:Int) (d:List Int) (e:BJ) (f:List BH)
 | b3 (a b:Int) (c:List Bc) (d e:Int) (f:BJ) (g:List BH) (h:List DJ) (i:List D9)
def NZ:sG->Tr U (UI⊕sG)
 | .b0 b d e f a c=>let i:=Tr.chk (kL a.Node.Ah&&(kL a.Node.Cache&&(kL a.Node.Ai&&(kL a.Node.A7.Out&&(kL a.Node.A7.In&&(kL a.Node.AB.Aa&&(kL a.Node.AB.AO&&(kL a.Node.Low.AO&&(kL a.Node.Out&&kL c))))))))) (Ac (sG.b1 b d e f a c));.br (!a.Node.Up) (.fail) (.bind 4 (MI b) (fun(g:Bool)=>.br (!g) (.bind 4 (U5 b) (fun(h:Bool)=>.br (!h) (.fail) i)) i))
 | .b1 d e b f a c=>.br (decide (b<0)) (.fail) (.br (decide (b>127)) (.fail) (.chk (kL a.Node.Ah&&(kL a.Node.Cache&&(kL a.Node.Ai&&(kL a.Node.A7.Out&&(kL a.Node.A7.In&&(kL a.Node.AB.Aa&&(kL a.Node.AB.AO&&(kL a.Node.Low.AO&&(kL a.Node.Out&&kL c))))))))) (Ac (.b2 d e b f a c))))
 | .b2 c d f e a g=>let l:=(↑e.length:Int);.br (l==0) (.fail) (.br (decide (l>380)) (.fail) (.bind 47 (Uk a.Node.IV) (fun(h:Int)=>let k:=(⟨a.Node.Address,h,a.Node.Seq⟩:Ar);.bind 41 (W9 (dS a) d) (fun(i:Int)=>.bind 27 (bY i d k c e) (fun(j:List Int)=>kl a.Node.A7.Out (kl a.Node.A7.In (.bind 214 (uS a.Node.A7 (⟨a.Node.Address,c,d,f,k,j⟩:Dw) a.DL) (fun(b:BV×(List Bc)×Int)=>.br (b.2.2 != 0) (.fail) (.chk (kL a.Node.Ah&&(kL a.Node.Cache&&(kL a.Node.Ai&&(kL a.Node.AB.Aa&&(kL a.Node.AB.AO&&(kL a.Node.Low.AO&&(kL a.Node.Out&&(kL a.Node.A7.Out&&(kL a.Node.A7.In&&(kL a.Node.AB.Aa&&(kL a.Node.AB.AO&&kL g))))))))))) (Ac (.b3 c f b.2.1 (↑b.2.1.length:Int) (0:Int) (⟨({ a.Node with A7:=b.1 }:Ae),a.DL⟩:BJ) g a.Node.A7.Out a.Node.A7.In)))))))))))
 | .b3 h i g j c a d e f=>let m:=kL a.Node.AB.Aa&&(kL a.Node.AB.AO&&kL d);.br (decide (c<j)) (.chk (kI c g) (.bind 156 (g[(Int.toNat c)]?) (fun(k:Bc)=>.bind 57 (Tc (dS a)) (fun(l:Bh)=>.chk (kL a.Node.Ah&&(kL a.Node.Cache&&(kL a.Node.Ai&&(kL a.Node.AB.Aa&&(kL a.Node.AB.AO&&(kL a.Node.Low.AO&&(kL a.Node.Out&&m))))))) (.bind 1443 (qQ l (⟨a.Node.Address,h,i,k⟩:EF) a d) (fun(b:O8)=>.chk (kL b.q0.Node.Ah&&(kL b.q0.Node.Cache&&(kL b.q0.Node.Ai&&(kL b.q0.Node.AB.Aa&&(kL b.q0.Node.AB.AO&&(kL b.q0.Node.Low.AO&&(kL b.q0.Node.Out&&(kL e&&(kL f&&(kL b.q0.Node.AB.Aa&&(kL b.q0.Node.AB.AO&&kL b.q1))))))))))) (Ac (.b3 h i g j (Ad (c+1)) b.q0 b.q1 e f)))))))) (.chk (kL a.Node.Ah&&(kL a.Node.Cache&&(kL a.Node.Ai&&(kL a.Node.AB.Aa&&(kL a.Node.AB.AO&&(kL a.Node.Low.AO&&(kL a.Node.Out&&(kL e&&(kL f&&m))))))))) (AZ (⟨0,a,d,e,f⟩:UI)))
def rZ (a:Int) (b:Bool) (c:Int) (d:List Int) (e:BJ) (f:List BH):Option UI:=AY NZ (.b0 a b c d e f)
def Z3g:Shape:=⟨[PQ 0,OV 39,OV 4,OV 3,OV 27],[.var 177 48 (.agg [VC 39 1,VC 41 1,VC 41 1,.v 59 11 true,.v 61 3 true,VC 47 1,VC 4 1,VC 4 1,.own 39 1,.own 49 2,.own 138 3,.own 149 4,.own 135 5,VC 39 1,.own 158 6,.own 39 7,VC 3 1,VC 4 1,VC 3 1,VC 3 1,VC 3 1,VC 3 1,VC 39 1,VC 3 1,VC 3 1,VC 3 1,VC 3 1,.own 39 8,VC 3 1,VC 4 1,VC 3 1,.own 120 9,VC 47 1,VC 4 1,VC 3 1,.fn 83 [] [10]]),.row 39 true,.row 49 true,.row 138 true,.row 149 true,.row 135 true,.row 158 true,.row 39 true,.row 39 true,.row 120 true,.var 100 1 (.one (.own 53 11)),.row 53 true]⟩
def Zd9:Shape:=⟨[OV 34],[.var 177 48 (.agg [VC 39 1,VC 41 1,VC 41 1,.v 59 11 true,.v 61 3 true,VC 47 1,VC 4 1,VC 4 1,.own 39 1,.own 49 2,.own 138 3,.v 68 2 true,VC 39 1,.own 158 6,.own 39 7,VC 3 1,VC 4 1,VC 3 1,VC 3 1,VC 3 1,VC 3 1,VC 39 1,VC 3 1,VC 3 1,VC 3 1,VC 3 1,.own 39 8,VC 3 1,VC 4 1,VC 3 1,.own 120 9,VC 47 1,VC 4 1,VC 3 1,.fn 83 [] [10]]),.row 39 true,.row 49 true,.row 138 true,.row 149 false,.row 135 false,.row 158 false,.row 39 false,.row 39 true,.row 120 true,.var 100 1 (.one (.own 53 11)),.row 53 true]⟩
noncomputable def Zee:HMod U:=⟨[KP,KP,KP,KP,[.s 5 1]],[.var k2,.row true,.row true,.row true,.row true,.row true,.row true,.row true,.row true,.row true,.var [.own 53 11],.row true],Z3g,Zd9,true,1438,fun(y:UI)=>(((y.q0,()),()),((Jz y.q1),(y.q1.Node.Ah,(y.q1.Node.Cache,(y.q1.Node.Ai,(y.q3,(y.q4,(y.q1.Node.AB.Aa,(y.q1.Node.AB.AO,(y.q1.Node.Low.AO,(y.q1.Node.Out,((),(y.q2,()))))))))))))),fun x=>rZ x.1.2.1.1 x.1.2.2.1.1 x.1.2.2.2.1.1 x.1.2.2.2.2.1.1 (match x with|⟨_,⟨v0,v2,v4,v6,v8,z,D,I,M,R,S,Y,v21,v22,v23,v24,v25,v26,v27,v28,v29,v30,v31,v32,v33,v34,_⟩,v1,v3,v5,v7,v9,C,G,J,Q,_⟩=>(⟨(⟨v0,v2,v4,v6,v8,z,D,I,v1,v3,v5,(⟨v7,v9⟩:BV),(⟨M,C,G,R,S,Y,v21,v22⟩:EG),(⟨v23,v24,v25,v26,v27,v28,J,v29,v30,v31⟩:Df),Q,v32,v33⟩:Ae),v34⟩:BJ)) x.2.2.2.2.2.2.2.2.2.2.2.2.1,okS rfl⟩
def aA:Lay:=⟨[0,1,2,3,4],[KP,KP,KP,KP,[.s 5 1]],[.var k2,.row true,.row true,.row true,.row true,.row true,.row true,.row true,.row true,.row true,.var [.own 53 11],.row true],⟨[PQ 0,OV 39,OV 4,OV 3,OV 27],[.var 177 48 (.agg [VC 39 1,VC 41 1,VC 41 1,.v 59 11 true,.v 61 3 true,VC 47 1,VC 4 1,VC 4 1,.own 39 1,.own 49 2,.own 138 3,.own 149 4,.own 135 5,VC 39 1,.own 158 6,.own 39 7,VC 3 1,VC 4 1,VC 3 1,VC 3 1,VC 3 1,VC 3 1,VC 39 1,VC 3 1,VC 3 1,VC 3 1,VC 3 1,.own 39 8,VC 3 1,VC 4 1,VC 3 1,.own 120 9,VC 47 1,VC 4 1,VC 3 1,.fn 83 [] [10]]),.row 39 true,.row 49 true,.row 138 true,.row 149 true,.row 135 true,.row 158 true,.row 39 true,.row 39 true,.row 120 true,.var 100 1 (.one (.own 53 11)),.row 53 true]⟩⟩
def Z3h:Lay:=⟨[0,1,3,107,108,109],[KP,KP,KP,[.s 156 10],KP,KP],[.var k3,.row true,.row true,.row true,.row false,.row false,.row false,.row false,.row true,.row true,.var [.own 53 11],.row true],⟨[PQ 0,OV 39,OV 3,OV 213,OV 3,OV 3],[.var 177 48 (.agg [VC 39 1,VC 41 1,VC 41 1,.v 59 11 true,.v 61 3 true,VC 47 1,VC 4 1,VC 4 1,.own 39 1,.own 49 2,.own 138 3,.v 68 2 true,VC 39 1,.own 158 6,.own 39 7,VC 3 1,VC 4 1,VC 3 1,VC 3 1,VC 3 1,VC 3 1,VC 39 1,VC 3 1,VC 3 1,VC 3 1,VC 3 1,.own 39 8,VC 3 1,VC 4 1,VC 3 1,.own 120 9,VC 47 1,VC 4 1,VC 3 1,.fn 83 [] [10]]),.row 39 true,.row 49 true,.row 138 true,.row 149 false,.row 135 false,.row 158 false,.row 39 false,.row 39 true,.row 120 true,.var 100 1 (.one (.own 53 11)),.row 53 true]⟩⟩
def ZdS:sG->BN U
 | .b0 b c d e a f=>DZ f84 Z3g (((),((b,()),((c,()),((d,()),((e,()),()))))),((IL a),(a.Node.Ah,(a.Node.Cache,(a.Node.Ai,(a.Node.A7.Out,(a.Node.A7.In,(a.Node.AB.Aa,(a.Node.AB.AO,(a.Node.Low.AO,(a.Node.Out,((),(f,())))))))))))))
 | .b1 b c d e a f=>BB f84 [1,0,0,1,1,1,1,0] aA (((),((b,()),((c,()),((d,()),((e,()),()))))),((IL a),(a.Node.Ah,(a.Node.Cache,(a.Node.Ai,(a.Node.A7.Out,(a.Node.A7.In,(a.Node.AB.Aa,(a.Node.AB.AO,(a.Node.Low.AO,(a.Node.Out,((),(f,())))))))))))))
 | .b2 b c d e a f=>BB f84 [1,0,0,1,1,1,1,1,1,0] aA (((),((b,()),((c,()),((d,()),((e,()),()))))),((IL a),(a.Node.Ah,(a.Node.Cache,(a.Node.Ai,(a.Node.A7.Out,(a.Node.A7.In,(a.Node.AB.Aa,(a.Node.AB.AO,(a.Node.Low.AO,(a.Node.Out,((),(f,())))))))))))))
 | .b3 b c d e f a g h i=>BB f84 [1,1,1,1,1,1,1,0,1,0,0,0] Z3h (((),((b,()),((c,()),((d,()),((e,()),((f,()),())))))),((Jz a),(a.Node.Ah,(a.Node.Cache,(a.Node.Ai,(h,(i,(a.Node.AB.Aa,(a.Node.AB.AO,(a.Node.Low.AO,(a.Node.Out,((),(g,())))))))))))))
theorem ZdU:Bi Tryz.prog B0 84 Zee:=okR (mc dW (mc vM (mc wO (mc ZeA (mc Z3E (mc ZfG (mc Yq Az))))))) (hc [] ZcZ Aw) (al [(5,aA),(7,aA),(18,Z3h),(2,LX),(4,LX),(6,LX),(8,LX),(10,LX),(15,LX)]) [KP] [.var k3,.row true,.row true,.row true,.row false,.row false,.row false,.row false,.row true,.row true,.var [.own 53 11],.row true] 12 ZdS func84 (fun p=>by cases p<;>kernel_rfl) (by kernel_rfl) fun x=>by kernel_rfl
inductive rG where
 | b0 (a:DV) (b:BJ) (c:List BH)
def Z3k:rG->Tr U (Tz⊕rG)
 | .b0 c b d=>.br (!b.Node.Up) (.fail) (.br (c.Kind==1) (.chk (kL b.Node.Ah&&(kL b.Node.Cache&&(kL b.Node.Ai&&(kL b.Node.A7.Out&&(kL b.Node.A7.In&&(kL b.Node.AB.Aa&&(kL b.Node.AB.AO&&(kL b.Node.Low.AO&&(kL b.Node.Out&&kL d))))))))) (.bind 1438 (rZ c.Cf c.App c.EL c.Bytes b d) (fun(a:UI)=>.chk (kL a.q1.Node.Ah&&(kL a.q1.Node.Cache&&(kL a.q1.Node.Ai&&(kL a.q1.Node.AB.Aa&&(kL a.q1.Node.AB.AO&&(kL a.q1.Node.Low.AO&&(kL a.q1.Node.Out&&(kL a.q3&&(kL a.q4&&(kL a.q1.Node.AB.Aa&&(kL a.q1.Node.AB.AO&&kL a.q2))))))))))) (AZ (⟨a.q0,a.q1,a.q2,a.q3,a.q4⟩:Tz))))) (.fail))
def rE (a:DV) (b:BJ) (c:List BH):Option Tz:=AY Z3k (.b0 a b c)
def Z2W:Shape:=⟨[PQ 0,.agg [.v 43 10 true]],[.var 177 48 (.agg [VC 39 1,VC 41 1,VC 41 1,.v 59 11 true,.v 61 3 true,VC 47 1,VC 4 1,VC 4 1,.own 39 1,.own 49 2,.own 138 3,.own 149 4,.own 135 5,VC 39 1,.own 158 6,.own 39 7,VC 3 1,VC 4 1,VC 3 1,VC 3 1,VC 3 1,VC 3 1,VC 39 1,VC 3 1,VC 3 1,VC 3 1,VC 3 1,.own 39 8,VC 3 1,VC 4 1,VC 3 1,.own 120 9,VC 47 1,VC 4 1,VC 3 1,.fn 83 [] [10]]),.row 39 true,.row 49 true,.row 138 true,.row 149 true,.row 135 true,.row 158 true,.row 39 true,.row 39 true,.row 120 true,.var 100 1 (.one (.own 53 11)),.row 53 true]⟩
def ZcO:Shape:=⟨[OV 34],[.var 177 48 (.agg [VC 39 1,VC 41 1,VC 41 1,.v 59 11 true,.v 61 3 true,VC 47 1,VC 4 1,VC 4 1,.own 39 1,.own 49 2,.own 138 3,.v 68 2 true,VC 39 1,.own 158 6,.own 39 7,VC 3 1,VC 4 1,VC 3 1,VC 3 1,VC 3 1,VC 3 1,VC 39 1,VC 3 1,VC 3 1,VC 3 1,VC 3 1,.own 39 8,VC 3 1,VC 4 1,VC 3 1,.own 120 9,VC 47 1,VC 4 1,VC 3 1,.fn 83 [] [10]]),.row 39 true,.row 49 true,.row 138 true,.row 149 false,.row 135 false,.row 158 false,.row 39 false,.row 39 true,.row 120 true,.var 100 1 (.one (.own 53 11)),.row 53 true]⟩
noncomputable def ZdW:HMod U:=⟨[KP,k8],[.var k2,.row true,.row true,.row true,.row true,.row true,.row true,.row true,.row true,.row true,.var [.own 53 11],.row true],Z2W,ZcO,true,1437,fun(y:Tz)=>(((y.q0,()),()),((Jz y.q1),(y.q1.Node.Ah,(y.q1.Node.Cache,(y.q1.Node.Ai,(y.q3,(y.q4,(y.q1.Node.AB.Aa,(y.q1.Node.AB.AO,(y.q1.Node.Low.AO,(y.q1.Node.Out,((),(y.q2,()))))))))))))),fun x=>rE x.1.2.1.1 (match x with|⟨_,⟨v0,v2,v4,v6,v8,z,D,I,M,R,S,Y,v21,v22,v23,v24,v25,v26,v27,v28,v29,v30,v31,v32,v33,v34,_⟩,v1,v3,v5,v7,v9,C,G,J,Q,_⟩=>(⟨(⟨v0,v2,v4,v6,v8,z,D,I,v1,v3,v5,(⟨v7,v9⟩:BV),(⟨M,C,G,R,S,Y,v21,v22⟩:EG),(⟨v23,v24,v25,v26,v27,v28,J,v29,v30,v31⟩:Df),Q,v32,v33⟩:Ae),v34⟩:BJ)) x.2.2.2.2.2.2.2.2.2.2.2.2.1,okS rfl⟩
def Zdu:rG->BN U
 | .b0 b a c=>DZ f54 Z2W (((),((b,()),())),((IL a),(a.Node.Ah,(a.Node.Cache,(a.Node.Ai,(a.Node.A7.Out,(a.Node.A7.In,(a.Node.AB.Aa,(a.Node.AB.AO,(a.Node.Low.AO,(a.Node.Out,((),(c,())))))))))))))
theorem ZdO:Bi Tryz.prog B0 54 ZdW:=okR (mc Zfw (mc ZfP (mc Z4q Az))) (hc [] ZdU Aw) (al [(2,LX),(7,LX)]) [KP] [.var k3,.row true,.row true,.row true,.row false,.row false,.row false,.row false,.row true,.row true,.var [.own 53 11],.row true] 12 Zdu func54 (fun p=>by cases p<;>kernel_rfl) (by kernel_rfl) fun x=>by kernel_rfl
inductive vX where
 | b0 (a:BJ) (b:DV) (c:Int) (d:List BH)
def Z58:vX->Tr U (U3⊕vX)
 | .b0 b c e d=>.chk (kL b.Node.Ah&&(kL b.Node.Cache&&(kL b.Node.Ai&&(kL b.Node.A7.Out&&(kL b.Node.A7.In&&(kL b.Node.AB.Aa&&(kL b.Node.AB.AO&&(kL b.Node.Low.AO&&(kL b.Node.Out&&kL d))))))))) (.bind 1437 (rE c b d) (fun(a:Tz)=>.chk (kL a.q1.Node.Ah&&(kL a.q1.Node.Cache&&(kL a.q1.Node.Ai&&(kL a.q1.Node.AB.Aa&&(kL a.q1.Node.AB.AO&&(kL a.q1.Node.Low.AO&&(kL a.q1.Node.Out&&(kL a.q3&&(kL a.q4&&(kL a.q1.Node.AB.Aa&&(kL a.q1.Node.AB.AO&&kL a.q2))))))))))) (AZ (⟨a.q1,c,a.q0,a.q2,a.q3,a.q4⟩:U3))))
def vZ (a:BJ) (b:DV) (c:Int) (d:List BH):Option U3:=AY Z58 (.b0 a b c d)
def Z4n:Shape:=⟨[PQ 0,PQ 1,PQ 2],[.var 177 48 (.agg [VC 39 1,VC 41 1,VC 41 1,.v 59 11 true,.v 61 3 true,VC 47 1,VC 4 1,VC 4 1,.own 39 3,.own 49 4,.own 138 5,.own 149 6,.own 135 7,VC 39 1,.own 158 8,.own 39 9,VC 3 1,VC 4 1,VC 3 1,VC 3 1,VC 3 1,VC 3 1,VC 39 1,VC 3 1,VC 3 1,VC 3 1,VC 3 1,.own 39 10,VC 3 1,VC 4 1,VC 3 1,.own 120 11,VC 47 1,VC 4 1,VC 3 1,.fn 83 [] [12]]),VA 43 10,.var 34 1 (OV 34),.row 39 true,.row 49 true,.row 138 true,.row 149 true,.row 135 true,.row 158 true,.row 39 true,.row 39 true,.row 120 true,.var 100 1 (.one (.own 53 13)),.row 53 true]⟩
def ZfC:Shape:=⟨[],[.var 177 48 (.agg [VC 39 1,VC 41 1,VC 41 1,.v 59 11 true,.v 61 3 true,VC 47 1,VC 4 1,VC 4 1,.own 39 3,.own 49 4,.own 138 5,.v 68 2 true,VC 39 1,.own 158 8,.own 39 9,VC 3 1,VC 4 1,VC 3 1,VC 3 1,VC 3 1,VC 3 1,VC 39 1,VC 3 1,VC 3 1,VC 3 1,VC 3 1,.own 39 10,VC 3 1,VC 4 1,VC 3 1,.own 120 11,VC 47 1,VC 4 1,VC 3 1,.fn 83 [] [12]]),VA 43 10,.var 34 1 (OV 34),.row 39 true,.row 49 true,.row 138 true,.row 149 false,.row 135 false,.row 158 false,.row 39 false,.row 39 true,.row 120 true,.var 100 1 (.one (.own 53 13)),.row 53 true]⟩
noncomputable def ZhF:HMod U:=⟨[KP,KP,KP],[.var k2,.var k8,.var KP,.row true,.row true,.row true,.row true,.row true,.row true,.row true,.row true,.row true,.var [.own 53 11],.row true],Z4n,ZfC,false,1436,fun(y:U3)=>((),((Jz y.q0),((y.q1,()),((y.q2,()),(y.q0.Node.Ah,(y.q0.Node.Cache,(y.q0.Node.Ai,(y.q4,(y.q5,(y.q0.Node.AB.Aa,(y.q0.Node.AB.AO,(y.q0.Node.Low.AO,(y.q0.Node.Out,((),(y.q3,()))))))))))))))),fun x=>vZ (match x with|⟨_,⟨v0,v1,v2,v4,v6,v8,z,D,I,M,R,Y,v21,v22,v23,v24,v25,v26,v27,v28,v29,v30,v31,v32,v33,v34,_⟩,_,_,v3,v5,v7,v9,C,G,J,Q,S,_⟩=>(⟨(⟨v0,v1,v2,v4,v6,v8,z,D,v3,v5,v7,(⟨v9,C⟩:BV),(⟨I,G,J,M,R,Y,v21,v22⟩:EG),(⟨v23,v24,v25,v26,v27,v28,Q,v29,v30,v31⟩:Df),S,v32,v33⟩:Ae),v34⟩:BJ)) x.2.2.1.1 x.2.2.2.1.1 x.2.2.2.2.2.2.2.2.2.2.2.2.2.2.1,okS rfl⟩
def Zgy:vX->BN U
 | .b0 a b c d=>DZ f53 Z4n (((),((),((),()))),((IL a),((b,()),((c,()),(a.Node.Ah,(a.Node.Cache,(a.Node.Ai,(a.Node.A7.Out,(a.Node.A7.In,(a.Node.AB.Aa,(a.Node.AB.AO,(a.Node.Low.AO,(a.Node.Out,((),(d,())))))))))))))))
theorem Zgz:Bi Tryz.prog B0 53 ZhF:=okR Az (hc [] ZdO Aw) AN [] [.var k3,.var k8,.var KP,.row true,.row true,.row true,.row false,.row false,.row false,.row false,.row true,.row true,.var [.own 53 11],.row true] 14 Zgy func53 (fun p=>by cases p<;>kernel_rfl) (by kernel_rfl) fun x=>by kernel_rfl
end
end Go.Proofs.YteinepnbndegdaaGreat
