/- A part of it. -/
import Derived.Test.YtlabamnhpgoekaaGreatDoorF1
import Derived.RangeFuncWrites
import Derived.RangeFuncBox
import Derived.RangeFuncLeaves
import Derived.WalkKit
import Derived.OwnWalkIn
import Derived.TacticsInMore
import Derived.RegionIn
import Derived.LoopNIn
import Derived.LoopIn
import Derived.Shelf.Abstract
import Derived.IntWalk
import Derived.Lib.Hide
import Derived.Laws.Closers25b
import Derived.RangeFuncCalls
set_option linter.unusedVariables false
set_option linter.unusedSimpArgs false
namespace Go.Proofs.YtlabamnhpgoekaaGreatDoor
set_option maxRecDepth 100000
noncomputable section
attribute [local go_sem] Go.Oper.semAt_some
open Go Go.RowKit Go.Shelf
def IZ (ys:List Int):Nat->Int
 | 0=>0
 | m+1=>bits .or .u64 (IZ ys m) (IntKind.wrap .u64 (ys[m]?.getD 0*2 ^ (8*m)))
def Ht (xs:List Int) (k:Nat):Int:=IZ ((xs.drop (8*k)).take 8) ((xs.drop (8*k)).take 8).length
def gN (xs:List Int):Nat:=(xs.length+7) / 8
theorem Z29 {a b:Nat} (h:a<=b):List.range a <+: List.range b:=by
 obtain⟨d,rfl⟩:∃d,b=a+d:=⟨b - a,by omega⟩
 rw [List.range_add]
 exact List.prefix_append _ _
theorem meas {L k:Nat} {a b:Int} (h:8*k<L) (ha:a=8*(k:Int)) (hb:b=8*(k:Int)+8):L+8 - (intOf (.int .i64 b)).toNat<L+8 - (intOf (.int .i64 a)).toNat:=by
 subst ha hb
 simp only [intOf]
 omega
structure BytesAt (W:World) (Bm b o cap:Nat) (a:Option Addr) (xs:List Int):Prop where
 box:W.cell? ⟨Bm,0,none⟩=some (.slice a xs.length cap)
 LJ:xs≠[]->a=some ⟨b,o,none⟩
 cells:∀j (h:j<xs.length),W.cell? ⟨b,o+j,none⟩=some (.int .u8 xs[j])
 len:xs.length<=cap
 max:cap<=maxLen
 bd:∀x∈xs,0<=x/\x<256
set_option maxHeartbeats 1000000 in
theorem g1_in (F:Fence) (n:Nat) (hG1:F.fn 369) (hro:F.round=none) (hn:1<=n) (xs:List Int) (hlen:xs.length<=4611686018427387904) (b o cap:Nat) (a:Option Addr) (l Bm:Nat) (J Jx:List Nat->World->Prop)
  (hY:∀pre x W,J pre W->pre.length<gN xs->YieldAt F (n - 1) Tryz.prog l #[.int .u64 (Ht xs x)] W fun e W' =>
   (e = .returned (.bool true)/\J (pre++[x]) W' /\ (BytesAt W Bm b o cap a xs->BytesAt W' Bm b o cap a xs))\/(e = .returned (.bool false)/\Jx (pre++[x]) W'))
  (W:World) (hB:BytesAt W Bm b o cap a xs) (h0:J [] W) :
  CallsIn F n Tryz.prog 369 #[.func (.yield l) #[] #[],.pointer (some ⟨Bm,0,none⟩)] W fun e W' =>(∃v,e = .returned v) /\
   ((∃ys,ys=List.range (gN xs)/\J ys W')\/(∃pre,pre <+: List.range (gN xs)/\Jx pre W')):=by
 refine callsIn_of_wp Tryz.func369 rfl hG1 ?_ hro
 simp only [Tryz.ntmps369,List.size_toArray,List.length_cons,List.length_nil,Nat.reduceAdd,Nat.reduceSub,Array.replicate_succ,Array.replicate_zero,List.push_toArray,List.append_toArray,List.nil_append,List.cons_append]
 gi_wp2
 gi_loopw [3] (fun i wr=>∃k:Nat,k<=gN xs/\i = .int .i64 ((8*k:Nat):Int)/\J (List.range k) wr/\BytesAt wr Bm b o cap a xs)
  (fun i _=>xs.length+8 - (intOf i).toNat)
 case atStart=>exact⟨0,by omega,rfl,by simpa using h0,hB⟩
 case round=>
  obtain⟨k,hk,rfl,hJ,hb⟩:=hrel
  have hbox:=hb.box
  by_cases hlt:8*k<xs.length
  ·have hl:=hb.len
   have hne:xs≠[]:=by rintro rfl;simp at hlt
   obtain rfl:=hb.LJ hne
   have hw:wrap64 (8*(k:Int)+8)=8*(k:Int)+8:=by unfold wrap64;omega
   have c1:(8*(k:Int)<xs.length):=by omega
   have c2:(0<=8*(k:Int)+8):=by omega
   have c3:(0<=8*(k:Int)):=by omega
   have c4:(8*(k:Int)<=8*(k:Int)+8):=by omega
   have c5:((xs.length:Int)<=cap):=by omega
   by_cases h8:8*k+8<=xs.length
   ·have d1:¬((xs.length:Int)<8*(k:Int)+8):=by omega
    have d2:(8*(k:Int)+8<=cap):=by omega
    have d3:(8*(k:Int)+8).toNat=8*k+8:=by omega
    have HL:=Lib.hid hl;have HE:=Lib.hid hlen;have HT:=Lib.hid hlt;have HK:=Lib.hid hk;have H8:=Lib.hid h8
    clear hl hne hlt hk h8 hlen
    gi_wp2
    gi_loopw [4,22] (fun acc j wi=>∃m:Nat,m<=8/\j = .int .i64 (m:Int)/\acc = .int .u64 (IZ ((xs.drop (8*k)).take 8) m)/\J (List.range k) wi/\BytesAt wi Bm b o cap (some ⟨b,o,none⟩) xs)
     (fun _ j _=>8 - (intOf j).toNat)
    case atStart=>exact⟨0,by omega,rfl,rfl,hJ,hb⟩
    case round=>
     obtain⟨m,hm,rfl,rfl,hJ2,hb2⟩:=hrel
     have hb2b:=hb2.box
     by_cases hm8:m<8
     ·have e1:((m:Int)<8):=by omega
      have e2:(0<=(m:Int)):=by omega
      have e3:m<8:=hm8
      have hj:8*k+m<xs.length:=by have:=H8.out;omega
      have hcell:wr.cell? ⟨b,o+8*k+m,none⟩=some (.int .u8 xs[8*k+m]):=by rw [Nat.add_assoc];exact hb2.cells _ hj
      obtain⟨bd1,bd2⟩:=hb2.bd _ (List.getElem_mem hj)
      have e4:IntKind.wrap .u64 xs[8*k+m]=xs[8*k+m]:=by simp only [IntKind.wrap,IntKind.signed,IntKind.bits,Bool.false_and,Bool.false_eq_true,if_false];omega
      have e5:wrap64 (8*(m:Int))=8*(m:Int):=by unfold wrap64;omega
      clear hm
      have hgn:IZ ((xs.drop (8*k)).take 8) (m+1)=bits .or .u64 (IZ ((xs.drop (8*k)).take 8) m) (IntKind.wrap .u64 (xs[8*k+m]*2 ^ (8*m))):=by
       simp only [IZ]
       rw [List.getElem?_take,if_pos hm8,List.getElem?_drop,List.getElem?_eq_getElem hj]
       rfl
      have HG:=Lib.hid hgn
      clear hgn
      gi_wp2
      go_roundw
      case rel=>exact⟨m+1,by omega,by go_num,by rw [HG.out],hJ2,hb2⟩
      case measure=>simp [intOf];omega
     ·obtain rfl:m=8:=by omega
      have hb3:=hb2
      obtain⟨fn,tmps,assign,body,hy,hR⟩:=hY (List.range k) k wr hJ2 (by have:=H8.out;simp [gN];omega)
      have hg:IZ ((xs.drop (8*k)).take 8) 8=Ht xs k:=by
       have:=H8.out
       unfold Ht
       rw [show ((xs.drop (8*k)).take 8).length=8 by simp;omega]
      have hstep:List.range k++[k]=List.range (k+1):=List.range_succ.symm
      have hpre:List.range (k+1) <+: List.range (gN xs):=Z29 (by have:=HT.out;unfold gN;omega)
      rw [hstep] at hR
      have HS:=Lib.hid hstep;have HP:=Lib.hid hpre;clear hstep hpre
      gi_wp2
      refine hR.mono ?_
      rintro e W3 (⟨rfl,hJ3,hk3⟩|⟨rfl,hJx3⟩)
      ·have hb4:=hk3 hb3
       clear hk3
       gi_wp2
       go_roundw
       case rel=>exact⟨k+1,by have:=HT.out;unfold gN;omega,by simp only [Value.int.injEq,true_and];omega,hJ3,hb4⟩
       case measure=>exact meas (by have:=HT.out;omega) (by omega) (by omega)
      ·gi_wp2
       refine bodyPost_ret (results_none rfl _ _ _) rfl ?_
       exact⟨⟨_,rfl⟩,.inr ⟨_,HP.out,hJx3⟩⟩
   ·have d1:((xs.length:Int)<8*(k:Int)+8):=by omega
    have d2:(8*(k:Int)<=xs.length):=by omega
    obtain⟨q,hq⟩:∃q,xs.length - 8*k=q:=⟨_,rfl⟩
    have d3:(0<=(xs.length:Int)):=by omega
    have HQ:=Lib.hid hq
    have HL:=Lib.hid hl;have HE:=Lib.hid hlen;have HT:=Lib.hid hlt;have HK:=Lib.hid hk;have H8:=Lib.hid h8
    clear hl hne hlt hk h8 hlen
    gi_wp2
    gi_loopw [4,22] (fun acc j wi=>∃m:Nat,m<=q/\j = .int .i64 (m:Int)/\acc = .int .u64 (IZ ((xs.drop (8*k)).take 8) m)/\J (List.range k) wi/\BytesAt wi Bm b o cap (some ⟨b,o,none⟩) xs)
     (fun _ j _=>q - (intOf j).toNat)
    case atStart=>exact⟨0,by omega,rfl,rfl,hJ,hb⟩
    case round=>
     obtain⟨m,hm,rfl,rfl,hJ2,hb2⟩:=hrel
     have hb2b:=hb2.box
     by_cases hm8:m<q
     ·have e1:((m:Int)<q):=by omega
      have e2:(0<=(m:Int)):=by omega
      have e3:m<xs.length - 8*k:=by have:=HQ.out;omega
      have hj:8*k+m<xs.length:=by have:=HQ.out;omega
      have hcell:wr.cell? ⟨b,o+8*k+m,none⟩=some (.int .u8 xs[8*k+m]):=by rw [Nat.add_assoc];exact hb2.cells _ hj
      obtain⟨bd1,bd2⟩:=hb2.bd _ (List.getElem_mem hj)
      have e4:IntKind.wrap .u64 xs[8*k+m]=xs[8*k+m]:=by simp only [IntKind.wrap,IntKind.signed,IntKind.bits,Bool.false_and,Bool.false_eq_true,if_false];omega
      have e5:wrap64 (8*(m:Int))=8*(m:Int):=by have:=HQ.out;have:=H8.out;unfold wrap64;omega
      clear hm
      have hgn:IZ ((xs.drop (8*k)).take 8) (m+1)=bits .or .u64 (IZ ((xs.drop (8*k)).take 8) m) (IntKind.wrap .u64 (xs[8*k+m]*2 ^ (8*m))):=by
       simp only [IZ]
       rw [List.getElem?_take,if_pos (by have:=HQ.out;have:=H8.out;omega),List.getElem?_drop,List.getElem?_eq_getElem hj]
       rfl
      have HG:=Lib.hid hgn
      clear hgn
      gi_wp2
      go_roundw
      case rel=>exact⟨m+1,by omega,by go_num,by rw [HG.out],hJ2,hb2⟩
      case measure=>simp [intOf];omega
     ·obtain rfl:m=q:=by omega
      have hb3:=hb2
      obtain⟨fn,tmps,assign,body,hy,hR⟩:=hY (List.range k) k wr hJ2 (by have:=HT.out;simp [gN];omega)
      have hg:IZ ((xs.drop (8*k)).take 8) m=Ht xs k:=by
       have:=H8.out
       unfold Ht
       rw [show ((xs.drop (8*k)).take 8).length=m by have:=HQ.out;simp only [List.length_take,List.length_drop];omega]
      have hstep:List.range k++[k]=List.range (k+1):=List.range_succ.symm
      have hpre:List.range (k+1) <+: List.range (gN xs):=Z29 (by have:=HT.out;unfold gN;omega)
      rw [hstep] at hR
      have HS:=Lib.hid hstep;have HP:=Lib.hid hpre;clear hstep hpre
      gi_wp2
      refine hR.mono ?_
      rintro e W3 (⟨rfl,hJ3,hk3⟩|⟨rfl,hJx3⟩)
      ·have hb4:=hk3 hb3
       clear hk3
       gi_wp2
       go_roundw
       case rel=>exact⟨k+1,by have:=HT.out;unfold gN;omega,by simp only [Value.int.injEq,true_and];omega,hJ3,hb4⟩
       case measure=>exact meas (by have:=HT.out;omega) (by omega) (by omega)
      ·gi_wp2
       refine bodyPost_ret (results_none rfl _ _ _) rfl ?_
       exact⟨⟨_,rfl⟩,.inr ⟨_,HP.out,hJx3⟩⟩
  ·have hkk:k<=(xs.length+7) / 8:=hk
   have hdone:k=gN xs:=by unfold gN;omega
   rw [hdone] at hJ
   have c1:¬(8*(k:Int)<xs.length):=by omega
   gi_wp2
   go_end0
   exact⟨⟨_,rfl⟩,.inl hJ⟩
def SC (mx:Int->Int->Option Int) (k:Int) (xs:List Int):Option Int:=
 if xs.length<=4611686018427387904 then (mx k xs.length).bind fun s=>(List.range (gN xs)).foldlM (fun s g=>mx k (bits .xor .u64 s (Ht xs g))) s else none
def Y7 (F:Fence) (mx:Int->Int->Option Int):Prop:=∀k s r,(Lit.int .u64 k).wf=true->(Lit.int .u64 s).wf=true->mx k s=some r->(Lit.int .u64 r).wf=true /\
 ∀n w,CallsIn F n Tryz.prog 274 #[.int .u64 k,.int .u64 s] w fun e w' =>e = .returned (.int .u64 r)/\Below w.heap.size w w'
structure Jj (W:World) (b o cap:Nat) (a:Option Addr) (xs:List Int):Prop where
 LJ:xs≠[]->a=some ⟨b,o,none⟩
 cells:∀j (h:j<xs.length),W.cell? ⟨b,o+j,none⟩=some (.int .u8 xs[j])
 len:xs.length<=cap
 max:cap<=maxLen
 bd:∀x∈xs,0<=x/\x<256
theorem Jj.below {W W' : World} {n b o cap:Nat} {a:Option Addr} {xs:List Int} (h:Jj W b o cap a xs) (hb:Below n W W') (hn:W.heap.size<=n\/b<n):Jj W' b o cap a xs:=
 ⟨h.LJ,fun j hj=>(hb.cell (p:=⟨b,o+j,none⟩) (by
  rcases hn with hn|hn
  ·exact Nat.lt_of_lt_of_le (by have:=h.cells j hj;unfold World.cell? at this;split at this<;>first|exact(Array.getElem?_eq_some_iff.1 ‹_›).1|cases this) hn
  ·exact hn)).trans (h.cells j hj),h.len,h.max,h.bd⟩
theorem BytesAt.of {W:World} {Bm b o cap:Nat} {a:Option Addr} {xs:List Int} (h:Jj W b o cap a xs) (hb:W.cell? ⟨Bm,0,none⟩=some (.slice a xs.length cap)):BytesAt W Bm b o cap a xs:=⟨hb,h.LJ,h.cells,h.len,h.max,h.bd⟩
theorem BytesAt.row {W:World} {Bm b o cap:Nat} {a:Option Addr} {xs:List Int} (h:BytesAt W Bm b o cap a xs):Jj W b o cap a xs:=⟨h.LJ,h.cells,h.len,h.max,h.bd⟩
theorem Jj.same {W W' : World} {b o cap:Nat} {a:Option Addr} {xs:List Int} (h:Jj W b o cap a xs) (hb:xs≠[]->W'.heap[b]? = W.heap[b]?):Jj W' b o cap a xs:=
 ⟨h.LJ,fun j hj=>(World.cell?_of_block (hb (by rintro rfl;cases hj))).trans (h.cells j hj),h.len,h.max,h.bd⟩
theorem Jj.lt {W:World} {b o cap:Nat} {a:Option Addr} {xs:List Int} (h:Jj W b o cap a xs) (hx:xs≠[]):b<W.heap.size:=by
 have:=h.cells 0 (List.length_pos_iff.2 hx)
 unfold World.cell? at this
 split at this<;>first|exact(Array.getElem?_eq_some_iff.1 ‹_›).1|cases this
structure VL (k:Int) (w:World) (n5:Nat) (s:Int) (W:World):Prop where
 key:Boxed W w.heap.size 27 (.int .u64 k)
 st:Boxed W n5 24 (.int .u64 s)
 below:Below w.heap.size w W
theorem Z1i {W W' : World} {row:Option Nat} {B B0:Nat} {t:TypeId} {v:Value} (h:Boxed W B t v) (hg:W.grownBy W' row) (hr:∀r,row=some r->B0<=r/\∃o:Obj,W.heap[r]? = some o/\o.isCells=false):Boxed W' B t v:=by
 refine h.kept hg ?_
 intro e
 obtain⟨_,o,ho,hc⟩:=hr B e.symm
 rw [show W.heap[B]? = _ from h] at ho
 cases ho
 cases hc
theorem VL.own {k:Int} {w:World} {n5:Nat} {s:Int} {W W' : World} {row:Option Nat} {B0:Nat} (hB:w.heap.size<=B0) (h:VL k w n5 s W) (hg:W.grownBy W' row) (hr:∀r,row=some r->B0<=r/\∃o:Obj,W.heap[r]? = some o/\o.isCells=false):VL k w n5 s W' :=
 ⟨Z1i h.key hg hr,Z1i h.st hg hr,h.below.grown hg h.below.size (fun k e=>Nat.le_trans hB (hr k e).1)⟩
theorem uF (a b:Int):(Lit.int .u64 (bits .xor .u64 a b)).wf=true:=by
 have:=bits_within .xor .u64 a b
 simp only [Lit.wf,Bool.and_eq_true,decide_eq_true_eq]
 exact this
theorem ZdT (F:Fence) (n:Nat) (hG:F.fn 275) (hro:F.round=none) (a:Option Addr) (l c:Nat) (w:World) :
  CallsIn F n Tryz.prog 275 #[.slice a l c] w fun e w' =>e = .returned (.func (.func 369) #[] #[.pointer (some ⟨w.heap.size,0,none⟩)])/\w' = w.alloc (.cells #[.slice a l c] 41):=by
 refine callsIn_of_wp Tryz.func275 rfl hG ?_ hro
 simp only [Tryz.ntmps275,List.size_toArray,List.length_cons,List.length_nil,Nat.reduceAdd,Nat.reduceSub,Array.replicate_succ,Array.replicate_zero,List.push_toArray,List.append_toArray,List.nil_append,List.cons_append]
 gi_wp2
 go_ret
 exact⟨rfl,rfl⟩
set_option maxHeartbeats 2000000 in
theorem Zkm (F:Fence) (hMIX:F.fn 274) (hG:F.fn 275) (hG1:F.fn 369) (hSELF:F.fn 218) (hro:F.round=none) (mx:Int->Int->Option Int) (hM:Y7 F mx) (hT:∀k s,(Lit.int .u64 s).wf=true->∃r,mx k s=some r) (n:Nat) (hn:3<=n) (k:Int) (xs:List Int) (r:Int) (hk:(Lit.int .u64 k).wf=true) (hr:SC mx k xs=some r) (b o cap:Nat) (a:Option Addr) (w:World) (hB:Jj w b o cap a xs) :
  CallsIn F n Tryz.prog 218 #[.int .u64 k,.slice a xs.length cap] w fun e W' =>e = .returned (.int .u64 r)/\Below w.heap.size w W' :=by
 unfold SC at hr
 split at hr
 ·rename_i hlen
  cases h0:mx k xs.length with
  | none=>rw [h0] at hr;cases hr
  | some s0=>
   rw [h0] at hr
   change (List.range (gN xs)).foldlM (fun s g=>mx k (bits .xor .u64 s (Ht xs g))) s0=some r at hr
   have hlw:(Lit.int .u64 (xs.length:Int)).wf=true:=by simp [Lit.wf,IntKind.min,IntKind.max,IntKind.signed,IntKind.bits];omega
   obtain⟨hs0,hC⟩:=hM k xs.length s0 hk hlw h0
   have h1:1<=n:=by omega
   refine callsIn_of_wp_marks Tryz.func218 rfl hSELF ?_ hro
   simp only [Tryz.ntmps218,List.size_toArray,List.length_cons,List.length_nil,Nat.reduceAdd,Nat.reduceSub,Array.replicate_succ,Array.replicate_zero,List.push_toArray,List.append_toArray,List.nil_append,List.cons_append]
   have hcv:IntKind.wrap .u64 (xs.length:Int)=xs.length:=by simp only [IntKind.wrap,IntKind.signed,IntKind.bits,Bool.false_and,Bool.false_eq_true,if_false];omega
   have HR:=Lib.hid hr;have HS:=Lib.hid hs0;have HL:=Lib.hid hlen
   clear hr hs0 hlen
   gi_wp2_with (gi_at_call 274;refine(hC (n - 1) _).mono ?_;rintro e w1 ⟨rfl,hb1⟩)
   gi_wp2_with (gi_at_call 275;refine(ZdT F (n - 1) hG hro _ _ _ _).mono ?_;rintro e w2 ⟨rfl,rfl⟩)
   have hb1' : w.heap.size<w1.heap.size:=by have:=hb1.size;simp at this;omega
   obtain⟨W0,hW0⟩:∃W0,(w1.alloc (Obj.cells #[Value.int IntKind.u64 s0] 24)).alloc (Obj.cells #[Value.slice a xs.length cap] 41)=W0:=⟨_,rfl⟩
   have hk1:Boxed w1 w.heap.size 27 (.int .u64 k):=(hb1.block _ (by simp)).trans (Boxed.new w 27 _)
   have hI0:VL k w w1.heap.size s0 W0:=by
    rw [<- hW0]
    refine⟨(hk1.alloc _).alloc _,(Boxed.new w1 24 (.int .u64 s0)).alloc _,?_⟩
    exact(((((Below.refl _ w).alloc (Nat.le_refl _) _).trans (hb1.mono (by simp))).alloc (Nat.le_of_lt hb1') _).alloc (by simp;omega) _)
   have hbyt:BytesAt W0 (w1.heap.size+1) b o cap a xs:=by
    refine BytesAt.of (hB.below hI0.below (.inl (Nat.le_refl _))) ?_
    rw [<- hW0]
    simp
   have hs0' : W0.heap.size=w1.heap.size+2:=by rw [<- hW0];simp
   rw [hW0]
   have HB:=Lib.hid hbyt
   clear hW0 hk1
   refine wpIn_rangeFunc_ownG hro h1 (gf:=369) (lb:=#[.pointer (some ⟨w1.heap.size+1,0,none⟩)]) rfl hG1 (enters_of Tryz.func369 (by kernel_rfl) rfl) (α:=Nat) (encs:=fun x=>#[Value.int .u64 (Ht xs x)])
    (Kp:=fun A B=>BytesAt A (w1.heap.size+1) b o cap a xs->BytesAt B (w1.heap.size+1) b o cap a xs) (S:=fun ys=>ys=List.range (gN xs)) (Sp:=fun pre=>pre <+: List.range (gN xs)) (N:=gN xs) (w0:=W0)
    (fun l J Jx W hW _ _ hY hJ=>g1_in F (n - 1) hG1 hro (by omega) xs HL.out b o cap a l (w1.heap.size+1) J Jx (fun pre x W1 h1 h2=>hY pre x W1 h1 h2)
     W (BytesAt.of (hbyt.row.below hW (.inl (Nat.le_refl _))) ((hW.cell (p:=⟨w1.heap.size+1,0,none⟩) (by simp;omega)).trans hbyt.box)) hJ)
    (fun h k=>fun x=>k (h x))
    (fun W l o o' hl ho hc _ hby=>BytesAt.of (hby.row.same fun hx=>World.putObj_heap_other (by have:=hbyt.row.lt hx;omega)) ((World.cell?_of_block (World.putObj_heap_other (by simp only;omega))).trans hby.box))
    (Below.refl _ _) (fun _=>rfl)
    (fun pre W=>∃s,pre.foldlM (fun s g=>mx k (bits .xor .u64 s (Ht xs g))) s0=some s/\(Lit.int .u64 s).wf=true/\VL k w w1.heap.size s W)
    (fun _ _ _=>False)
    (fun p A B row hs hg hr=>by obtain⟨s,q1,q2,q3⟩:=hs;exact⟨s,q1,q2,q3.own (by omega) hg hr⟩)
    (fun c p A B row hs hg hr=>hs)
    ⟨s0,rfl,HS.out,hI0⟩
    (fun x=>{ tmps:=#[.int .u64 k,.slice a xs.length cap,.pointer (some ⟨w.heap.size,0,none⟩),undef,.int .u64 0,.pointer (some ⟨w1.heap.size,0,none⟩),.int .u64 (Ht xs x),.int .u64 k,.slice a xs.length cap,.int .i64 xs.length,.int .u64 xs.length,.int .u64 s0,.slice a xs.length cap,.func (.func 369) #[] #[.pointer (some ⟨w1.heap.size+1,0,none⟩)],.int .u64 (Ht xs x),undef,undef,undef,undef,undef,undef],defers:=[] }) ?assign ?body ?done ?stop
   case assign=>
    intro l x W K hK
    gi_wp2
    exact hK
   case body=>
    rintro l pre x W ⟨s,q1,q2,hI⟩ hlen
    obtain⟨r',hr'⟩:=hT k (bits .xor .u64 s (Ht xs x)) (uF _ _)
    obtain⟨hw',hC'⟩:=hM k _ r' hk (uF _ _) hr'
    have hc0:=hI.key.cell
    have hc1:=hI.st.cell
    have hf1:=hI.st.frozen
    have hMIXl:(F.inRound l).fn 274:=hMIX
    have h3:1<=n - 1 - 1:=by omega
    gi_wp2_with (gi_at_call 274;refine(CallsIn.inRound l (hC' (n - 1 - 1 - 1) _)).mono ?_;rintro e W2 ⟨rfl,hb2⟩;have hst2:Boxed W2 w1.heap.size 24 (.int .u64 s):=(hb2.block _ hI.st.lt).trans hI.st;have hky2:Boxed W2 w.heap.size 27 (.int .u64 k):=(hb2.block _ hI.key.lt).trans hI.key;have hc2:=hst2.cell;have hf2:=hst2.frozen;clear hc0 hc1 hf1)
    refine⟨KeepsFrom.trans ⟨hb2.size,fun j o _ hj _=>(hb2.block _ (Array.getElem?_eq_some_iff.1 hj).1).trans hj⟩ (KeepsFrom.of_grownBy (grownBy_setCell' W2 _ _) (fun j e=>by cases e;omega)),fun hby=>?_,r',?_,hw',?_⟩
    ·refine BytesAt.of ((hby.row.below hb2 (.inl (Nat.le_refl _))).same fun hx=>Below.heap_setCell _ _ _ _ (by have:=hB.lt hx;simp only;omega)) ?_
     have hbm:w1.heap.size+1<W.heap.size:=by
      have:=hby.box
      unfold World.cell? at this
      split at this<;>first|exact(Array.getElem?_eq_some_iff.1 ‹_›).1|cases this
     exact(World.cell?_of_block (Below.heap_setCell _ _ _ _ (by simp only;omega))).trans ((hb2.cell (p:=⟨w1.heap.size+1,0,none⟩) hbm).trans hby.box)
    ·simp only [List.foldlM_append,q1,List.foldlM_cons,List.foldlM_nil,Option.bind_eq_bind,Option.bind_some,hr',Option.pure_def]
    ·exact⟨(Below.heap_setCell _ _ _ _ (by simp only;omega)).trans hky2,hst2.set _,(hI.below.trans (hb2.mono hI.below.size)).setCell (p:=⟨w1.heap.size,0,none⟩) (Nat.le_of_lt hb1') _⟩
   case done=>
    rintro D ys W hD rfl ⟨s,q1,q2,hI⟩ hK
    have hsr:s=r:=Option.some.inj (q1.symm.trans HR.out)
    subst hsr
    have hc1:=hI.st.cell
    have hf1:=hI.st.frozen
    gi_wp2
    refine⟨by simp,.inl ⟨_,_,rfl,run_takeDeferred hK,?_⟩⟩
    refine⟨.int .u64 s,?_,?_,?_⟩
    ·simp [results,Tryz.f218,go_sem]
    ·rfl
    ·exact hI.below.trans (belowK_b (w:=w) (Nat.le_refl _) _ D _ _ (by omega) hK rfl rfl)
   case stop=>
    rintro D c pre W hD hp hf hK
    exact hf.elim
 ·cases hr
open Go.Proofs.YtlabamnhpgoekaaGreatDoor.Le
theorem Zdo {σ:Sg} {w:World}:∀{xs:List Int} {us:List Value},AL σ w (xs.map fun x=>V.lit (.int .u8 x)) us->us=xs.map (fun x=>Value.int .u8 x)/\∀x∈xs,0<=x/\x<256:=by
 intro xs
 induction xs with
 | nil=>intro us h;cases h.EN;exact⟨rfl,by simp⟩
 | cons x xs ih=>
  intro us h
  obtain⟨v,vs,rfl,h1,h2⟩:=h.Cf
  obtain⟨i1,i2⟩:=ih h2
  cases h1 with
  | lit hl _=>
   refine⟨by rw [i1];rfl,fun y hy=>?_⟩
   rcases List.mem_cons.1 hy with rfl|hy
   ·simp [leaf,Lit.wf,IntKind.min,IntKind.max,IntKind.signed,IntKind.bits] at hl
    omega
   ·exact i2 y hy
theorem row_of {σ:Sg} {w:World} {xs:List Int} {v:Value} (h:AL σ w [.sl false 1 (xs.map fun x=>V.lit (.int .u8 x))] [v]):∃a b o cap,v = .slice a xs.length cap/\Jj w b o cap a xs:=by
 generalize hes:(xs.map fun x=>V.lit (.int .u8 x))=es at h
 cases h with
 | Dj _=>
  have:xs=[]:=by simpa using hes
  subst this
  exact⟨none,0,0,0,rfl,⟨fun h=>absurd rfl h,fun j hj=>(by cases hj),Nat.le_refl _,Nat.zero_le _,by simp⟩⟩
 | EG a _=>
  have:xs=[]:=by simpa using hes
  subst this
  exact⟨_,0,0,_,rfl,⟨fun h=>absurd rfl h,fun j hj=>(by cases hj),Nat.zero_le _,by first|exact Nat.zero_le _|assumption,by simp⟩⟩
 | sl b o c e h0 h1 h2 h3 h4 h5 h6 _=>
  subst hes
  obtain⟨rfl,hbd⟩:=Zdo h0
  refine⟨_,b,o,c,by rw [List.length_map],⟨fun _=>rfl,fun j hj=>?_,by simpa using h4,h5,hbd⟩⟩
  refine(h6 j (.int .u8 xs[j]) ?_).2
  have:∀l:List Int,flat (l.map fun x=>Value.int .u8 x)=l.map fun x=>Value.int .u8 x:=by
   intro l
   induction l with
   | nil=>rfl
   | cons y l ih=>rw [List.map_cons,JC,ih];rfl
  rw [this,List.getElem?_map,List.getElem?_eq_getElem hj]
  rfl
theorem Z3W (n:Int):0<=IntKind.wrap .u64 n:=by simp only [IntKind.wrap,IntKind.signed,IntKind.bits,Bool.false_and,Bool.false_eq_true,if_false];omega
theorem Z3g (a b:Int):0<=bits .and .u64 a b:=(bits_within .and .u64 a b).1
theorem Zhn (a b:Int):∃r,QR a b=some r:=⟨_,(AU _ _).trans (by simp only [vZ,Tr.den,F5,Z3W,Z3g,decide_true,cond_true];rfl)⟩
theorem Z3i (a b:Int):∃r,Nq a b=some r:=⟨_,(AU _ _).trans (by simp only [vS,Tr.den,F5,Z3W,Z3g,decide_true,cond_true];rfl)⟩
theorem Z3E (a:Int):∃r,Nu a 32=some r:=⟨_,(AU _ _).trans (by simp [iW,Tr.den,F5];rfl)⟩
theorem Zi6 (a:Int):∃r,WJ a=some r:=by
 obtain⟨x,hx⟩:=Z3E a
 exact⟨_,(AU _ _).trans (by simp only [gK,Tr.den,F5,hx,Option.bind_some];rfl)⟩
theorem Z3P (a:Hf):∃r,TF a=some r:=⟨_,(AU _ _).trans (by simp only [Vo,Tr.den,F5];rfl)⟩
theorem ZgZ (a b c:Int):∃r,TM a b c=some r:=by
 obtain⟨x1,h1⟩:=Zhn a (Int.tmod (Af ((11:Int)*(Int.tmod b (64:Int)))) (64:Int))
 obtain⟨x2,h2⟩:=Z3E x1
 obtain⟨x3,h3⟩:=Z3i (IntKind.wrap .u32 (c+(IntKind.wrap .u32 (x2)))) 7
 obtain⟨x4,h4⟩:=Z3i (IntKind.wrap .u32 (x2)) 16
 exact⟨_,(AU _ _).trans (by simp only [gG,Tr.den,F5,h1,h2,h3,h4,Option.bind_some];rfl)⟩
theorem Zl0 (k:Int):∀(n:Nat) (i:Int) (h:Hf),0<=i->8 - i<=n->∃r,AY G5 (.b1 k i h)=some r:=by
 intro n
 induction n with
 | zero=>
  intro i h h0 h8
  obtain⟨r,hr⟩:=Z3P h
  have:decide (i<(8:Int))=false:=by simp;omega
  exact⟨r,(AU _ _).trans (by simp only [G5,Tr.den,F5,this,cond_false,hr,Option.bind_some])⟩
 | succ n ih=>
  intro i h h0 h8
  by_cases hi:i<8
  ·obtain⟨x,hx⟩:=ZgZ k i h.x1
   have hw:Af (i+1)=i+1:=by simp [Af,IntKind.wrap,IntKind.signed,IntKind.bits];split<;>omega
   obtain⟨r,hr⟩:=ih (i+1) ⟨h.x1,bits .xor .u32 h.x0 x⟩ (by omega) (by omega)
   have:decide (i<(8:Int))=true:=by simp [hi]
   exact⟨r,(AU _ _).trans (by simp only [G5,Tr.den,F5,this,cond_true,hx,Option.bind_some,hw,hr])⟩
  ·obtain⟨r,hr⟩:=Z3P h
   have:decide (i<(8:Int))=false:=by simp;omega
   exact⟨r,(AU _ _).trans (by simp only [G5,Tr.den,F5,this,cond_false,hr,Option.bind_some])⟩
theorem Z4w (k s:Int):∃r,KH k s=some r:=by
 obtain⟨x,hx⟩:=Zi6 s
 obtain⟨r,hr⟩:=Zl0 k 8 0 x (by omega) (by omega)
 exact⟨r,(AU _ _).trans (by simp only [G5,Tr.den,F5,hx,Option.bind_some,hr])⟩
def Su:Nat->Option (List V):=fun _=>none
def BZ:Env:=EV (U:=U) Tryz.prog Su 0 (fun _=>none) noH FH
abbrev QN:={ms:FuncId->Option (Ai U) // ∀g m,ms g=some m->Ag Tryz.prog BZ g m}
abbrev V3:={hs:FuncId->List FuncId->Option (HMod U) // ∀g k m,hs g k=some m->Dh Tryz.prog BZ g m}
def QD:QN:=⟨fun _=>none,fun _ _ h=>nomatch h⟩
def QI:V3:=⟨fun _ _=>none,fun _ _ _ h=>nomatch h⟩
def QJ {f:FuncId} {m:Ai U} (h:Ag Tryz.prog BZ f m) (s:QN):QN:=⟨fun g=>bif Nat.beq g f then some m else s.1 g,fun g m' e=>by
 cases hb:Nat.beq g f with
 | true=>dsimp only at e;rw [hb] at e;cases e;exact(Nat.eq_of_beq_eq_true hb)▸h
 | false=>dsimp only at e;rw [hb] at e;exact s.2 g m' e⟩
abbrev sS (f:FuncId) (fn:Func) (ms:QN) (hs:V3) (A:Nat->Option Lay) (rt:Nat) {Pt:Type} (T:Pt->Tr U (U.Ty rt⊕Pt)) (sp:Pt->BI U):Prop:=
 ∀p,Le.DR (EV Tryz.prog Su f ms.1 hs.1 FH) (Lu ms.1 hs.1 FH.tab) A f fn 0 (Uu (EV Tryz.prog Su f ms.1 hs.1 FH) fn) 1000 (.run (sp p).c) (sp p).K (sp p).st (sp p).sk=(T p).map (NW (Yh (U:=U) rt) sp)
theorem okPz {f:FuncId} {fn:Func} {ms:QN} {hs:V3} {A:Nat->Option Lay} {m:Ai U} {Pt:Type} {T:Pt->Tr U (U.Ty m.rt⊕Pt)} {sp:Pt->BI U} (h:sS f fn ms hs A m.rt T sp) (b0:Dy U m.ts->Pt)
  (hc:DD (EV Tryz.prog Su f ms.1 hs.1 FH) f (FZ fn)=true) (hfn:Tryz.prog.funcs[f]? = some fn) (hn:(fn.name == "runtime.NumGoroutine")=false) (hb:fn.body=some (FZ fn))
  (hm:∀x,m.fn x=AY T (b0 x)) (hsp:∀x,sp (b0 x)=Bl fn m.ts x):Ag Tryz.prog BZ f m:=
 Z2Z rfl (Xl _ rfl) FB ms.2 hs.2 hfn hn hb hc m T sp h b0 hm hsp
theorem okQz {f rt:Nat} {ts:List Nat} {hk:∀t∈ts,t∈U.keys} {fn:Func} {Pt:Type} {T:Pt->Tr U (U.Ty rt⊕Pt)} {b0:Dy U ts->Pt} (ms:QN) (hs:V3) (A:Nat->Option Lay) (sp:Pt->BI U) (hfn:Tryz.prog.funcs[f]? = some fn) (h:sS f fn ms hs A rt T sp)
  (hc:(DD (EV Tryz.prog Su f ms.1 hs.1 FH) f (FZ fn),fn.name == "runtime.NumGoroutine",fn.body)=(true,false,some (FZ fn))) (hsp:∀x,sp (b0 x)=Bl fn ts x):Ag Tryz.prog BZ f ⟨ts,rt,fun x=>AY T (b0 x),hk⟩:=
 okPz (m:=⟨ts,rt,fun x=>AY T (b0 x),hk⟩) h b0 (congrArg (·.1) hc) hfn (congrArg (·.2.1) hc) (congrArg (·.2.2) hc) (fun _=>rfl) hsp
theorem SE {f rt:Nat} {ts:List Nat} {hk:∀t∈ts,t∈U.keys} {fn:Func} {T:Dy U ts->Tr U (U.Ty rt⊕Dy U ts)} (ms:QN) (hs:V3) (hfn:Tryz.prog.funcs[f]? = some fn) (h:sS f fn ms hs AN rt T (Bl fn ts))
  (hc:(DD (EV Tryz.prog Su f ms.1 hs.1 FH) f (FZ fn),fn.name == "runtime.NumGoroutine",fn.body)=(true,false,some (FZ fn))):Ag Tryz.prog BZ f ⟨ts,rt,fun x=>AY T x,hk⟩:=
 okQz (b0:=fun x=>x) ms hs AN (Bl fn ts) hfn h hc fun _=>rfl
theorem zQ:Ag Tryz.prog BZ 432 ZaI:=SE QD QI Tryz.func432 (fun _=>by kernel_rfl) (by kernel_rfl)
theorem Z8c:Ag Tryz.prog BZ 366 Z95:=SE (QJ zQ QD) QI Tryz.func366 (fun _=>by kernel_rfl) (by kernel_rfl)
theorem Z5g:Ag Tryz.prog BZ 433 Z5J:=SE QD QI Tryz.func433 (fun _=>by kernel_rfl) (by kernel_rfl)
theorem Z5i:Ag Tryz.prog BZ 434 Z5B:=SE QD QI Tryz.func434 (fun _=>by kernel_rfl) (by kernel_rfl)
theorem Z7V:Ag Tryz.prog BZ 367 Z9t:=SE (QJ zQ (QJ Z5g (QJ Z5i QD))) QI Tryz.func367 (fun _=>by kernel_rfl) (by kernel_rfl)
theorem Z6j:Ag Tryz.prog BZ 368 Z6J:=SE QD QI Tryz.func368 (fun _=>by kernel_rfl) (by kernel_rfl)
theorem Z9B:Ag Tryz.prog BZ 274 jR:=okQz (QJ Z8c (QJ Z7V (QJ Z6j QD))) QI (al [(3,Ze)]) Zaf Tryz.func274 (fun p=>by cases p<;>kernel_rfl) (by kernel_rfl) fun _=>rfl
theorem Z3e (ok:Ag Tryz.prog BZ 274 jR):Y7 Fence.wide KH:=by
 intro k s r hk hs hr
 have key:∀w,Calls Tryz.prog 274 #[.int .u64 k,.int .u64 s] w fun e w' =>(e = .returned (.int .u64 r)/\Below w.heap.size w w')/\(Lit.int .u64 r).wf=true:=fun w=>by
  have:=ok.pure (k,s,()) r hr (fun _ _=>False) w [.int .u64 k,.int .u64 s] (fun _ _ h=>h.elim) (fun g r h=>by cases h) (.lit hk (.lit hs .nil))
  refine this.mono ?_
  rintro e w' ⟨u,fz',rfl,hb,_,_,_,h1,_⟩
  cases h1 with
  | lit hl _=>exact⟨⟨rfl,hb⟩,hl⟩
 refine⟨?_,fun n w=>callsIn_wide.2 ((key w).mono fun e w' h=>h.1)⟩
 obtain⟨e,w',fr,h,_⟩:=key { heap:=#[],os:=default,tape:=default,output:=default,drawn:=default } []
 exact h.2
theorem fold_wf {F:Fence} {mx:Int->Int->Option Int} (hM:Y7 F mx) {k:Int} (hk:(Lit.int .u64 k).wf=true) {xs:List Int}:∀(l:List Nat) (s r:Int),(Lit.int .u64 s).wf=true->l.foldlM (fun s g=>mx k (bits .xor .u64 s (Ht xs g))) s=some r->(Lit.int .u64 r).wf=true:=by
 intro l
 induction l with
 | nil=>intro s r hs h;cases h;exact hs
 | cons g l ih=>
  intro s r hs h
  rw [List.foldlM_cons] at h
  obtain⟨s',h1,h2⟩:=Option.bind_eq_some_iff.1 h
  exact ih s' r (hM k _ s' hk (Go.Proofs.YtlabamnhpgoekaaGreatDoor.uF _ _) h1).1 h2
theorem Zl7 {F:Fence} {mx:Int->Int->Option Int} (hM:Y7 F mx) {k:Int} (hk:(Lit.int .u64 k).wf=true) {xs:List Int} {r:Int} (h:SC mx k xs=some r):(Lit.int .u64 r).wf=true:=by
 unfold SC at h
 split at h
 ·rename_i hlen
  obtain⟨s',h1,h2⟩:=Option.bind_eq_some_iff.1 h
  refine fold_wf hM hk _ s' r (hM k _ s' hk ?_ h1).1 h2
  simp [Lit.wf,IntKind.min,IntKind.max,IntKind.signed,IntKind.bits]
  omega
 ·cases h
def XT (k:Int) (xs:List Int):Option Int:=SC KH k xs
def Z2h:Ai U:=⟨[27,41],24,fun x=>XT x.1 x.2.1,by decide⟩
theorem Zc1 (ok:Ag Tryz.prog BZ 274 jR) (hT:∀k s,(Lit.int .u64 s).wf=true->∃r,KH k s=some r):Ag Tryz.prog B0 218 Z2h:=by
 refine⟨⟨Tryz.f218,Tryz.func218,by kernel_rfl,by kernel_rfl⟩,?_⟩
 rintro ⟨k,xs,_⟩ r ha fz w vs hcells hg hr
 obtain⟨v0,vs,rfl,h1,hr⟩:=hr.Cf
 obtain⟨v1,vs,rfl,h2,hr⟩:=hr.Cf
 cases hr.EN
 obtain⟨a,b,o,cap,rfl,hrow⟩:=row_of (xs:=xs) h2
 cases h1 with
 | lit hl _=>
  have hw:(Lit.int .u64 r).wf=true:=Zl7 (Z3e ok) hl ha
  refine(callsIn_wide.1 (Zkm Fence.wide trivial trivial trivial trivial rfl KH (Z3e ok) hT 3 (by omega) k xs r hl ha b o cap a w hrow)).mono ?_
  rintro e w' ⟨rfl,hb⟩
  refine⟨_,fz,rfl,hb,fun _ _ h=>h,fun _ _ h _=>h,fun b c h=>?_,.lit hw .nil,rfl⟩
  obtain⟨u,hu⟩:=hcells b c h
  exact⟨u,(hb.cell (p:=⟨b,c,none⟩) (cell_lt hu)).trans hu⟩
theorem ZdL:Ag Tryz.prog B0 218 Z2h:=Zc1 Z9B fun k s _=>Z4w k s
end
open Go Go.Proofs.YtlabamnhpgoekaaGreatDoor.Le
noncomputable section
inductive jU where
 | b0 (a0:List Int)
 | b1 (a0:List D7) (a1:List Int) (a2 a3:Int)
def Tf:jU->Tr U ((List Int)⊕jU)
 | .b0 a0=>.chk true ( A8 (.b1 ([]:List D7) a0 (↑a0.length:Int) (0:Int)))
 | .b1 a0 a1 a2 a3=>.br (decide (a3<a2)) ( .chk (kI a3 a1) ( .bind 24 (a1[(Int.toNat a3)]?) (fun(x1:Int)=>.chk true ( kl a0 ( .chk (kA (a0.length+1) 16) ( kl (a0++[(⟨8,x1⟩:D7)]) ( A8 (.b1 (a0++[(⟨8,x1⟩:D7)]) a1 a2 (Af (a3+1)))))))))) ( kl a0 ( .bind 421 (TW a0) (fun(x2:(List Int)×Int)=>AQ x2.1)))
def jB (a0:List Int):Option (List Int):=AY Tf (.b0 a0)
def ZbE:Ai U:=⟨[311],41,fun x=>jB x.1,by decide⟩
def Zi:Lay:=LT [3,8,9,10] [.o 434 2 0,.v 311,.v 3,.v 3] [.r 434]
def Zac:jU->BI U
 | .b0 a0=>Bl Tryz.f219 [311] (a0,())
 | .b1 a0 a1 a2 a3=>BA Tryz.f219 [1,1,0,1,0,0,0] Zi (((),((a1,()),((a2,()),((a3,()),())))),(a0,()))
theorem Za8:Ag Tryz.prog B0 219 ZbE:=CZ (mc Zz Ar) Ap (al [(3,Zi)]) Zac Tryz.func219 (fun p=>by cases p<;>kernel_rfl) (by kernel_rfl) fun _=>rfl
def Z03:S1 (Int×ByteArray×(List Int)×Unit) Int
 | (a0,a1,a2,_)=>.chk (YX U 5 a1) ( .bind 41 (jB a2) (fun(x1:List Int)=>kl (JX U 5 a1) ( .chk true ( .chk true ( .bind 41 (MR ([(JX U 5 a1),[(0:Int)],x1])) (fun(x2:List Int)=>.bind 24 (XT a0 x2) (fun(x3:Int)=>AQ x3)))))))
def Q7 (a0:Int) (a1:ByteArray) (a2:List Int):Option Int:=AY Z03 (a0,a1,a2,())
def Z9V:Ai U:=⟨[27,9,311],27,fun x=>Q7 x.1 x.2.1 x.2.2.1,by decide⟩
theorem Zr:Ag Tryz.prog B0 157 Z9V:=ok1 (mc Q3 (mc ZdL (mc Za8 Ar))) Ap Tryz.func157 (fun _=>by kernel_rfl) (by kernel_rfl)
def ZU:S1 (Int×Int×Unit) Int
 | (a0,a1,_)=>.bind 24 (JU a1) (fun(x1:Int)=>.bind 24 (JU a1) (fun(x2:Int)=>AQ (if (IntKind.wrap .u64 (x2 - 1))<(if (1:Int)>(bits .and .u64 a0 x1) then (1:Int) else (bits .and .u64 a0 x1)) then (IntKind.wrap .u64 (x2 - 1)) else (if (1:Int)>(bits .and .u64 a0 x1) then (1:Int) else (bits .and .u64 a0 x1)))))
def WQ (a0 a1:Int):Option Int:=AY ZU (a0,a1,())
def Z9w:Ai U:=⟨[24,3],24,fun x=>WQ x.1 x.2.1,by decide⟩
theorem Z8W:Ag Tryz.prog B0 276 Z9w:=ok1 (mc Vy Ar) Ap Tryz.func276 (fun _=>by kernel_rfl) (by kernel_rfl)
inductive dN where
 | b0 (a0 a1:Int)
 | b1 (a0 a1:Int) (a2:Aa)
 | b2 (a0 a1 a2:Int) (a3:Aa)
def Vu:dN->Tr U (Aa⊕dN)
 | .b0 a0 a1=>.br (a0==1) ( .bind 24 (JU (48:Int)) (fun(x1:Int)=>AQ (⟨a0,(bits .and .u64 a1 x1)⟩:Aa))) ( .br (a0==2) ( .br (a0==2) ( A8 (.b1 a0 a1 (⟨0,0⟩:Aa))) ( A8 (.b2 a0 a1 a0 (⟨0,0⟩:Aa)))) ( .br (a0==4) ( A8 (.b1 a0 a1 (⟨0,0⟩:Aa))) ( A8 (.b2 a0 a1 a0 (⟨0,0⟩:Aa)))))
 | .b1 a0 a1 a2=>.chk (decide (0<=a0/\a0<5)) ( .bind 24 (([0,0,3,1,0]:List Int)[(Int.toNat a0)]?) (fun(x1:Int)=>.bind 24 (WQ a1 (46:Int)) (fun(x2:Int)=>AQ (⟨a0,(bits .or .u64 (IntKind.wrap .u64 (x1*2 ^ (46:Nat))) x2)⟩:Aa))))
 | .b2 a0 a1 a2 a3=>.br (a2==3) ( .chk (decide (0<=a0/\a0<5)) ( .bind 24 (([0,0,3,1,0]:List Int)[(Int.toNat a0)]?) (fun(x1:Int)=>.bind 24 (WQ (Int.fdiv a1 (2 ^ (24:Nat))) (22:Int)) (fun(x2:Int)=>.bind 24 (JU (24:Int)) (fun(x3:Int)=>AQ (⟨a0,(bits .or .u64 (bits .or .u64 (IntKind.wrap .u64 (x1*2 ^ (46:Nat))) (IntKind.wrap .u64 (x2*2 ^ (24:Nat)))) (bits .and .u64 a1 x3))⟩:Aa)))))) ( AQ (⟨0,0⟩:Aa))
def dD (a0 a1:Int):Option Aa:=AY Vu (.b0 a0 a1)
def Z7s:Ai U:=⟨[3,24],26,fun x=>dD x.1 x.2.1,by decide⟩
def xQ:Lay:=LT [0,1,4] [.v 3,.v 24,.p 0] [.s 26]
def xW:Lay:=LT [0,1,4,5] [.v 3,.v 24,.p 0,.v 3] [.s 26]
def Z77:dN->BI U
 | .b0 a0 a1=>Bl Tryz.f220 [3,24] (a0,a1,())
 | .b1 a0 a1 a2=>BA Tryz.f220 [1,0,1,0,1,1,1,0,0] xQ (((a0,()),((a1,()),((),()))),((a2,()),()))
 | .b2 a0 a1 a2 a3=>BA Tryz.f220 [1,0,1,0,1,1,1,1,0] xW (((a0,()),((a1,()),((),((a2,()),())))),((a3,()),()))
theorem Z7g:Ag Tryz.prog B0 220 Z7s:=CZ (mc Vy (mc Z8W Ar)) Ap (al [(6,xQ),(7,xW)]) Z77 Tryz.func220 (fun p=>by cases p<;>kernel_rfl) (by kernel_rfl) fun _=>rfl
def zW:S1 (Int×Int×Unit) Int
 | (a0,a1,_)=>.chk true ( .bind 27 (Q7 a0 (⟨#[114,112,97]⟩:ByteArray) ([a1])) (fun(x1:Int)=>AQ (bits .and .u64 x1 (16777215:Int))))
def eF (a0 a1:Int):Option Int:=AY zW (a0,a1,())
def Z8C:Ai U:=⟨[27,24],24,fun x=>eF x.1 x.2.1,by decide⟩
theorem Z87:Ag Tryz.prog B0 221 Z8C:=ok1 (mc Zr Ar) Ap Tryz.func221 (fun _=>by kernel_rfl) (by kernel_rfl)
inductive fJ where
 | b0 (a0 a1:Int)
 | b1 (a0:Aa)
 | b2 (a0 a1:Int) (a2:Aa)
def TK:fJ->Tr U ((Aa×Int)⊕fJ)
 | .b0 a0 a1=>.br (a0==0) ( AQ ((⟨0,0⟩:Aa),(17:Int))) ( .br (decide (a1<1)) ( A8 (.b1 (⟨0,0⟩:Aa))) ( .br (decide (a1>4194302)) ( A8 (.b1 (⟨0,0⟩:Aa))) ( A8 (.b2 a0 a1 (⟨0,0⟩:Aa)))))
 | .b1 a0=>AQ ((⟨0,0⟩:Aa),(5:Int))
 | .b2 a0 a1 a2=>.bind 24 (eF a0 (IntKind.wrap .u64 (a1))) (fun(x1:Int)=>.bind 26 (dD (3:Int) (bits .or .u64 (IntKind.wrap .u64 ((IntKind.wrap .u64 (a1))*2 ^ (24:Nat))) x1)) (fun(x2:Aa)=>AQ (x2,0)))
def eH (a0 a1:Int):Option (Aa×Int):=AY TK (.b0 a0 a1)
def Z8V:Ai U:=⟨[27,111],308,fun x=>eH x.1 x.2.1,by decide⟩
def yN:Lay:=LT [4] [.p 0] [.s 26]
def yO:Lay:=LT [0,1,4] [.v 27,.v 111,.p 0] [.s 26]
def Z7J:fJ->BI U
 | .b0 a0 a1=>Bl Tryz.f158 [27,111] (a0,a1,())
 | .b1 a0=>BA Tryz.f158 [1,1,0,1,0,0] yN (((),()),((a0,()),()))
 | .b2 a0 a1 a2=>BA Tryz.f158 [1,1,1,0] yO (((a0,()),((a1,()),((),()))),((a2,()),()))
theorem Z7W:Ag Tryz.prog B0 158 Z8V:=CZ (mc Z7g (mc Z87 Ar)) Ap (al [(4,yN),(5,yO)]) Z7J Tryz.func158 (fun p=>by cases p<;>kernel_rfl) (by kernel_rfl) fun _=>rfl
def Z0h:S1 (Int×Int×Unit) Aa
 | (a0,a1,_)=>.chk true ( .bind 27 (Q7 a0 (⟨#[101,112,111,99,104]⟩:ByteArray) ([(IntKind.wrap .u64 (a1))])) (fun(x1:Int)=>.bind 308 (eH a0 (IntKind.wrap .u32 ((IntKind.wrap .u64 ((1:Int)+(Int.tmod x1 4194302)))))) (fun(x2:Aa×Int)=>AQ x2.1)))
def iO (a0 a1:Int):Option Aa:=AY Z0h (a0,a1,())
def ZaN:Ai U:=⟨[27,3],26,fun x=>iO x.1 x.2.1,by decide⟩
theorem Z9H:Ag Tryz.prog B0 92 ZaN:=ok1 (mc Zr (mc Z7W Ar)) Ap Tryz.func92 (fun _=>by kernel_rfl) (by kernel_rfl)
inductive dO where
 | b0 (a0 a1:Int)
 | b1 (a0 a1:Int)
def Vz:dO->Tr U (Int⊕dO)
 | .b0 a0 a1=>.br (decide (a1<1)) ( AQ (0:Int)) ( .br (decide (a0<0)) ( AQ (0:Int)) ( A8 (.b1 a0 a1)))
 | .b1 a0 a1=>.chk (a1 != 0) ( AQ (Af (Int.tdiv a0 a1)))
def dW (a0 a1:Int):Option Int:=AY Vz (.b0 a0 a1)
def Z88:Ai U:=⟨[3,3],3,fun x=>dW x.1 x.2.1,by decide⟩
def yE:Lay:=LT [0,1] [.v 3,.v 3] []
def Z7t:dO->BI U
 | .b0 a0 a1=>Bl Tryz.f93 [3,3] (a0,a1,())
 | .b1 a0 a1=>BA Tryz.f93 [1,1,0] yE (((a0,()),((a1,()),())),())
theorem Z7y:Ag Tryz.prog B0 93 Z88:=CZ Ar Ap (al [(3,yE)]) Z7t Tryz.func93 (fun p=>by cases p<;>kernel_rfl) (by kernel_rfl) fun _=>rfl
inductive bZ where
 | b0 (a0:Bv) (a1:Bool) (a2 a3:Int)
 | b1 (a0:Bv) (a1:Aa)
 | b2 (a0 a1:Int) (a2:Bv) (a3:Aa)
def TG:bZ->Tr U (Aa⊕bZ)
 | .b0 a0 a1 a2 a3=>.br (!a1) ( A8 (.b1 a0 (⟨0,0⟩:Aa))) ( .br (a0.Dq==0) ( A8 (.b1 a0 (⟨0,0⟩:Aa))) ( A8 (.b2 a2 a3 a0 (⟨0,0⟩:Aa))))
 | .b1 a0 a1=>AQ a0.Address
 | .b2 a0 a1 a2 a3=>.bind 3 (dW a0 a1) (fun(x1:Int)=>.bind 26 (iO a2.Dq x1) (fun(x2:Aa)=>AQ x2))
def dA (a0:Bv) (a1:Bool) (a2 a3:Int):Option Aa:=AY TG (.b0 a0 a1 a2 a3)
def Z7b:Ai U:=⟨[29,4,3,3],26,fun x=>dA x.1 x.2.1 x.2.2.1 x.2.2.2.1,by decide⟩
def xC:Lay:=LT [4,8] [.p 0,.p 1] [.s 29,.s 26]
def xI:Lay:=LT [2,3,4,8] [.v 3,.v 3,.p 0,.p 1] [.s 29,.s 26]
def Z70:bZ->BI U
 | .b0 a0 a1 a2 a3=>Bl Tryz.f35 [29,4,3,3] (a0,a1,a2,a3,())
 | .b1 a0 a1=>BA Tryz.f35 [1,0,1,0,0] xC (((),((),())),((a0,()),((a1,()),())))
 | .b2 a0 a1 a2 a3=>BA Tryz.f35 [1,1,0] xI (((a0,()),((a1,()),((),((),())))),((a2,()),((a3,()),())))
theorem Z6Z:Ag Tryz.prog B0 35 Z7b:=CZ (mc Z9H (mc Z7y Ar)) Ap (al [(2,xC),(3,xI)]) Z70 Tryz.func35 (fun p=>by cases p<;>kernel_rfl) (by kernel_rfl) fun _=>rfl
def yM:S1 (Cb×Int×Unit) Aa
 | (a0,a1,_)=>.bind 26 (dA a0.GH.DT a0.GH.Fa a1 a0.GH.Hq) (fun(x1:Aa)=>AQ x1)
def dI (a0:Cb) (a1:Int):Option Aa:=AY yM (a0,a1,())
def Z7z:Ai U:=⟨[64,3],26,fun x=>dI x.1 x.2.1,by decide⟩
theorem Z76:Ag Tryz.prog B0 8 Z7z:=ok1 (mc Z6Z Ar) Ap Tryz.func8 (fun _=>by kernel_rfl) (by kernel_rfl)
inductive mZ where
 | b0 (a0 a1:Int)
 | b1 (a0:Int)
def XJ:mZ->Tr U (Int⊕mZ)
 | .b0 a0 a1=>.br (decide ((Int.tmod (Af ((Af ((Int.tmod a1 64)+64))*11)) (64:Int))>0)) ( .chk (decide (0<=(Int.tmod (Af ((Af ((Int.tmod a1 64)+64))*11)) (64:Int)))) ( .chk (decide (0<=(Af ((64:Int) - (Int.tmod (Af ((Af ((Int.tmod a1 64)+64))*11)) (64:Int)))))) ( A8 (.b1 (bits .or .u64 (IntKind.wrap .u64 (a0*2 ^ (min (Int.toNat (Int.tmod (Af ((Af ((Int.tmod a1 64)+64))*11)) (64:Int))) (IntKind.bits .u64)))) (Int.fdiv a0 (2 ^ (min (Int.toNat (Af ((64:Int) - (Int.tmod (Af ((Af ((Int.tmod a1 64)+64))*11)) (64:Int))))) (IntKind.bits .u64))))))))) ( A8 (.b1 a0))
 | .b1 a0=>AQ (IntKind.wrap .u32 ((Int.tmod a0 4294967296)))
def UD (a0 a1:Int):Option Int:=AY XJ (.b0 a0 a1)
def Zem:Ai U:=⟨[27,3],111,fun x=>UD x.1 x.2.1,by decide⟩
def Z0t:Lay:=LT [6] [.v 24] []
def Zd3:mZ->BI U
 | .b0 a0 a1=>Bl Tryz.f435 [27,3] (a0,a1,())
 | .b1 a0=>BA Tryz.f435 [1,1,1,1,0] Z0t (((a0,()),()),())
theorem ZcU:Ag Tryz.prog B0 435 Zem:=CZ Ar Ap (al [(5,Z0t)]) Zd3 Tryz.func435 (fun p=>by cases p<;>kernel_rfl) (by kernel_rfl) fun _=>rfl
def Zdx:S1 (Int×Int×Unit) Int
 | (a0,a1,_)=>.chk (decide (0<=a1)) ( .chk (decide (0<=(Af ((32:Int) - a1)))) ( AQ (bits .or .u32 (IntKind.wrap .u32 (a0*2 ^ (min (Int.toNat a1) (IntKind.bits .u32)))) (Int.fdiv a0 (2 ^ (min (Int.toNat (Af ((32:Int) - a1))) (IntKind.bits .u32)))))))
def Mc (a0 a1:Int):Option Int:=AY Zdx (a0,a1,())
def Zde:Ai U:=⟨[111,3],111,fun x=>Mc x.1 x.2.1,by decide⟩
theorem Zbu:Ag Tryz.prog B0 436 Zde:=ok1 Ar Ap Tryz.func436 (fun _=>by kernel_rfl) (by kernel_rfl)
def Z0I:S1 (Int×Int×Int×Unit) Int
 | (a0,a1,a2,_)=>.bind 111 (UD a0 a1) (fun(x1:Int)=>.bind 111 (Mc (IntKind.wrap .u32 (a2+x1)) (7:Int)) (fun(x2:Int)=>.bind 111 (Mc x1 (16:Int)) (fun(x3:Int)=>AQ (bits .xor .u32 (IntKind.wrap .u32 (x2*2654435761)) x3))))
def jF (a0 a1 a2:Int):Option Int:=AY Z0I (a0,a1,a2,())
def ZbX:Ai U:=⟨[27,3,111],111,fun x=>jF x.1 x.2.1 x.2.2.1,by decide⟩
theorem ZaQ:Ag Tryz.prog B0 370 ZbX:=ok1 (mc ZcU (mc Zbu Ar)) Ap Tryz.func370 (fun _=>by kernel_rfl) (by kernel_rfl)
inductive mP where
 | b0 (a0 a1:Int)
 | b1 (a0 a1 a2 a3:Int)
def Qj:mP->Tr U (Int⊕mP)
 | .b0 a0 a1=>A8 (.b1 a0 (IntKind.wrap .u32 ((IntKind.wrap .u64 (Int.tdiv a1 4294967296)))) (IntKind.wrap .u32 ((Int.tmod a1 4294967296))) (0:Int))
 | .b1 a0 a1 a2 a3=>.br (decide (a3<8)) ( .bind 111 (jF a0 a3 a2) (fun(x1:Int)=>A8 (.b1 a0 a2 (bits .xor .u32 a1 x1) (Af (a3+1))))) ( AQ (IntKind.wrap .u64 ((IntKind.wrap .u64 ((IntKind.wrap .u64 (a1))*4294967296))+(IntKind.wrap .u64 (a2)))))
def UC (a0 a1:Int):Option Int:=AY Qj (.b0 a0 a1)
def Ze3:Ai U:=⟨[27,24],24,fun x=>UC x.1 x.2.1,by decide⟩
def Z0z:Lay:=LT [0,5,6,7] [.v 27,.v 111,.v 111,.v 3] []
def Zcg:mP->BI U
 | .b0 a0 a1=>Bl Tryz.f277 [27,24] (a0,a1,())
 | .b1 a0 a1 a2 a3=>BA Tryz.f277 [1,1,1,0,1,0,0,0,0] Z0z (((a0,()),((a1,()),((a2,()),((a3,()),())))),())
theorem Zd1:Ag Tryz.prog B0 277 Ze3:=CZ (mc ZaQ Ar) Ap (al [(4,Z0z)]) Zcg Tryz.func277 (fun p=>by cases p<;>kernel_rfl) (by kernel_rfl) fun _=>rfl
inductive nG where
 | b0 (a0:Int) (a1:List Int)
 | b1 (a0:Int) (a1:List Int) (a2 a3:Int)
def UA:nG->Tr U (Int⊕nG)
 | .b0 a0 a1=>.bind 24 (UC a0 (IntKind.wrap .u64 ((↑a1.length:Int)))) (fun(x1:Int)=>A8 (.b1 a0 a1 x1 (0:Int)))
 | .b1 a0 a1 a2 a3=>.br (decide (a3<(↑a1.length:Int))) ( .chk (decide (0<=(if (↑a1.length:Int)<(Af (a3+8)) then (↑a1.length:Int) else (Af (a3+8)))/\(if (↑a1.length:Int)<(Af (a3+8)) then (↑a1.length:Int) else (Af (a3+8)))<=(↑a1.length:Int))) ( .chk (decide (0<=a3/\a3<=(↑(Int.toNat (if (↑a1.length:Int)<(Af (a3+8)) then (↑a1.length:Int) else (Af (a3+8)))):Int))) ( .bind 24 (Qa ((a1.drop (Int.toNat a3)).take ((Int.toNat (if (↑a1.length:Int)<(Af (a3+8)) then (↑a1.length:Int) else (Af (a3+8)))) - (Int.toNat a3)))) (fun(x1:Int)=>.bind 24 (UC a0 (bits .xor .u64 a2 x1)) (fun(x2:Int)=>A8 (.b1 a0 a1 x2 (Af (a3+8)))))))) ( AQ a2)
def UE (a0:Int) (a1:List Int):Option Int:=AY UA (.b0 a0 a1)
def ZeZ:Ai U:=⟨[27,41],24,fun x=>UE x.1 x.2.1,by decide⟩
def Z0G:Lay:=LT [0,1,5,6] [.v 27,.v 41,.v 24,.v 3] []
def Zcz:nG->BI U
 | .b0 a0 a1=>Bl Tryz.f222 [27,41] (a0,a1,())
 | .b1 a0 a1 a2 a3=>BA Tryz.f222 [1,1,0,1,0,0,0,0] Z0G (((a0,()),((a1,()),((a2,()),((a3,()),())))),())
theorem ZcS:Ag Tryz.prog B0 222 ZeZ:=CZ (mc Z0l (mc Zd1 Ar)) Ap (al [(3,Z0G)]) Zcz Tryz.func222 (fun p=>by cases p<;>kernel_rfl) (by kernel_rfl) fun _=>rfl
inductive iT where
 | b0 (a0:Int) (a1:ByteArray) (a2:List Int)
 | b1 (a0:Int) (a1 a2:List Int) (a3:Int)
def TY:iT->Tr U (Int⊕iT)
 | .b0 a0 a1 a2=>.chk (YX U 5 a1) ( .chk true ( kl (JX U 5 a1) ( .chk (kA ((JX U 5 a1).length+1) 1) ( kl ((JX U 5 a1)++[(0:Int)]) ( A8 (.b1 a0 a2 ((JX U 5 a1)++[(0:Int)]) (0:Int)))))))
 | .b1 a0 a1 a2 a3=>.br (decide (a3<(↑a1.length:Int))) ( .chk (kI a3 a1) ( .bind 24 (a1[(Int.toNat a3)]?) (fun(x1:Int)=>.bind 1754 (OI (8:Int) x1) (fun(y2:OH)=>kl y2.q0 ( kl a2 ( .chk (kA (a2.length+y2.q0.length) 1) ( kl (a2++y2.q0) ( A8 (.b1 a0 a1 (a2++y2.q0) (Af (a3+1))))))))))) ( kl a2 ( .bind 24 (UE a0 a2) (fun(x3:Int)=>AQ x3)))
def Q9 (a0:Int) (a1:ByteArray) (a2:List Int):Option Int:=AY TY (.b0 a0 a1 a2)
def ZaG:Ai U:=⟨[27,9,311],27,fun x=>Q9 x.1 x.2.1 x.2.2.1,by decide⟩
def Zc:Lay:=LT [0,2,7,8] [.v 27,.v 311,.o 5 1 0,.v 3] [.r 5]
def Z9v:iT->BI U
 | .b0 a0 a1 a2=>Bl Tryz.f159 [27,9,311] (a0,a1,a2,())
 | .b1 a0 a1 a2 a3=>BA Tryz.f159 [1,1,0,1,0,0,0,0] Zc (((a0,()),((a1,()),((),((a3,()),())))),(a2,()))
theorem Zm:Ag Tryz.prog B0 159 ZaG:=CZ (mc ZcS Ar) (hc [] Z14 Ap) (al [(3,Zc)]) Z9v Tryz.func159 (fun p=>by cases p<;>kernel_rfl) (by kernel_rfl) fun _=>rfl
def Z1k:S1 (Int×Int×Unit) Int
 | (a0,a1,_)=>.chk true ( .bind 27 (Q9 a0 (⟨#[114,112,97]⟩:ByteArray) ([a1])) (fun(x1:Int)=>AQ (Int.tmod x1 16777216)))
def kS (a0 a1:Int):Option Int:=AY Z1k (a0,a1,())
def Zcx:Ai U:=⟨[27,24],24,fun x=>kS x.1 x.2.1,by decide⟩
theorem ZbI:Ag Tryz.prog B0 223 Zcx:=ok1 (mc Zm Ar) Ap Tryz.func223 (fun _=>by kernel_rfl) (by kernel_rfl)
inductive kM where
 | b0 (a0 a1:Int)
 | b1 (a0:Aa)
 | b2 (a0 a1:Int) (a2:Aa)
def Tj:kM->Tr U ((Aa×Int)⊕kM)
 | .b0 a0 a1=>.br (a0==0) ( AQ ((⟨0,0⟩:Aa),(17:Int))) ( .br (decide (a1<1)) ( A8 (.b1 (⟨0,0⟩:Aa))) ( .br (decide (a1>4194302)) ( A8 (.b1 (⟨0,0⟩:Aa))) ( A8 (.b2 a0 a1 (⟨0,0⟩:Aa)))))
 | .b1 a0=>AQ ((⟨0,0⟩:Aa),(5:Int))
 | .b2 a0 a1 a2=>.bind 24 (kS a0 (IntKind.wrap .u64 (a1))) (fun(x1:Int)=>AQ ((⟨3,(IntKind.wrap .u64 ((IntKind.wrap .u64 ((70368744177664:Int)+(IntKind.wrap .u64 ((IntKind.wrap .u64 (a1))*16777216))))+x1))⟩:Aa),(0:Int)))
def kE (a0 a1:Int):Option (Aa×Int):=AY Tj (.b0 a0 a1)
def Zdr:Ai U:=⟨[27,111],308,fun x=>kE x.1 x.2.1,by decide⟩
def Z0g:Lay:=LT [4] [.p 0] [.s 26]
def Z01:Lay:=LT [0,1,4] [.v 27,.v 111,.p 0] [.s 26]
def Zb8:kM->BI U
 | .b0 a0 a1=>Bl Tryz.f160 [27,111] (a0,a1,())
 | .b1 a0=>BA Tryz.f160 [1,1,0,1,0,0] Z0g (((),()),((a0,()),()))
 | .b2 a0 a1 a2=>BA Tryz.f160 [1,1,1,0] Z01 (((a0,()),((a1,()),((),()))),((a2,()),()))
theorem ZbU:Ag Tryz.prog B0 160 Zdr:=CZ (mc ZbI Ar) Ap (al [(4,Z0g),(5,Z01)]) Zb8 Tryz.func160 (fun p=>by cases p<;>kernel_rfl) (by kernel_rfl) fun _=>rfl
def Z2N:S1 (Int×Int×Unit) Aa
 | (a0,a1,_)=>.chk true ( .bind 27 (Q9 a0 (⟨#[101,112,111,99,104]⟩:ByteArray) ([(IntKind.wrap .u64 (a1))])) (fun(x1:Int)=>.bind 308 (kE a0 (IntKind.wrap .u32 ((IntKind.wrap .u64 ((1:Int)+(Int.tmod x1 4194302)))))) (fun(x2:Aa×Int)=>AQ x2.1)))
def oU (a0 a1:Int):Option Aa:=AY Z2N (a0,a1,())
def Zg0:Ai U:=⟨[27,3],26,fun x=>oU x.1 x.2.1,by decide⟩
theorem Zec:Ag Tryz.prog B0 94 Zg0:=ok1 (mc Zm (mc ZbU Ar)) Ap Tryz.func94 (fun _=>by kernel_rfl) (by kernel_rfl)
inductive jD where
 | b0 (a0 a1:Int)
 | b1 (a0 a1:Int)
def Wl:jD->Tr U (Int⊕jD)
 | .b0 a0 a1=>.br (decide (a1<1)) ( AQ (0:Int)) ( .br (decide (a0<0)) ( AQ (0:Int)) ( A8 (.b1 a0 a1)))
 | .b1 a0 a1=>.chk (a1 != 0) ( AQ (Af (Int.tdiv a0 a1)))
def jY (a0 a1:Int):Option Int:=AY Wl (.b0 a0 a1)
def Zba:Ai U:=⟨[3,3],3,fun x=>jY x.1 x.2.1,by decide⟩
def ZI:Lay:=LT [0,1] [.v 3,.v 3] []
def Zaa:jD->BI U
 | .b0 a0 a1=>Bl Tryz.f95 [3,3] (a0,a1,())
 | .b1 a0 a1=>BA Tryz.f95 [1,1,0] ZI (((a0,()),((a1,()),())),())
theorem Zaq:Ag Tryz.prog B0 95 Zba:=CZ Ar Ap (al [(3,ZI)]) Zaa Tryz.func95 (fun p=>by cases p<;>kernel_rfl) (by kernel_rfl) fun _=>rfl
inductive iE where
 | b0 (a0:Bv) (a1:Bool) (a2 a3:Int)
 | b1 (a0 a1:Int) (a2:Bv) (a3:Aa)
 | b2 (a0:Bv) (a1:Aa)
def TN:iE->Tr U (Aa⊕iE)
 | .b0 a0 a1 a2 a3=>.br a1 ( .br (a0.Dq != 0) ( A8 (.b1 a2 a3 a0 (⟨0,0⟩:Aa))) ( A8 (.b2 a0 (⟨0,0⟩:Aa)))) ( A8 (.b2 a0 (⟨0,0⟩:Aa)))
 | .b1 a0 a1 a2 a3=>.bind 3 (jY a0 a1) (fun(x1:Int)=>.bind 26 (oU a2.Dq x1) (fun(x2:Aa)=>AQ x2))
 | .b2 a0 a1=>AQ a0.Address
def iF (a0:Bv) (a1:Bool) (a2 a3:Int):Option Aa:=AY TN (.b0 a0 a1 a2 a3)
def Z93:Ai U:=⟨[29,4,3,3],26,fun x=>iF x.1 x.2.1 x.2.2.1 x.2.2.2.1,by decide⟩
def yX:Lay:=LT [2,3,4,8] [.v 3,.v 3,.p 0,.p 1] [.s 29,.s 26]
def yS:Lay:=LT [4,8] [.p 0,.p 1] [.s 29,.s 26]
def Z8A:iE->BI U
 | .b0 a0 a1 a2 a3=>Bl Tryz.f36 [29,4,3,3] (a0,a1,a2,a3,())
 | .b1 a0 a1 a2 a3=>BA Tryz.f36 [1,0,1,0,0] yX (((a0,()),((a1,()),((),((),())))),((a2,()),((a3,()),())))
 | .b2 a0 a1=>BA Tryz.f36 [1,1,0] yS (((),((),())),((a0,()),((a1,()),())))
theorem Z8l:Ag Tryz.prog B0 36 Z93:=CZ (mc Zec (mc Zaq Ar)) Ap (al [(2,yX),(3,yS)]) Z8A Tryz.func36 (fun p=>by cases p<;>kernel_rfl) (by kernel_rfl) fun _=>rfl
def ZG:S1 (Cb×Int×Unit) Aa
 | (a0,a1,_)=>.bind 26 (iF a0.GH.DT a0.GH.Fa a1 a0.GH.Hq) (fun(x1:Aa)=>AQ x1)
def iC (a0:Cb) (a1:Int):Option Aa:=AY ZG (a0,a1,())
def Z9K:Ai U:=⟨[64,3],26,fun x=>iC x.1 x.2.1,by decide⟩
theorem Z8n:Ag Tryz.prog B0 9 Z9K:=ok1 (mc Z8l Ar) Ap Tryz.func9 (fun _=>by kernel_rfl) (by kernel_rfl)
inductive bJ where
 | b0 (a0:C9) (a1:Int)
 | b1 (a0:Int) (a1:C9)
 | b2 (a0 a1:Int) (a2:C9)
def MP:bJ->Tr U (Bool⊕bJ)
 | .b0 a0 a1=>.bind 4 (gI) (fun(x1:Bool)=>.br (!x1) ( AQ false) ( .br (decide ((↑a0.CO.length:Int)>20)) ( AQ true) ( .br (decide (a0.Ea>4096)) ( .br (decide (a0.Ea<=65536)) ( AQ true) ( A8 (.b1 a1 a0))) ( A8 (.b1 a1 a0)))))
 | .b1 a0 a1=>A8 (.b2 a0 (0:Int) a1)
 | .b2 a0 a1 a2=>.br (decide (a1<(↑a2.CO.length:Int))) ( .chk (kI a1 a2.CO) ( .bind 40 (a2.CO[(Int.toNat a1)]?) (fun(x1:Am)=>.br (decide ((↑x1.BC.length:Int)>20)) ( AQ true) ( A8 (.b2 a0 (Af (a1+1)) a2))))) ( .bind 66 (iR a2) (fun(x2:Cb×Int)=>.bind 66 (mX a2) (fun(x3:Cb×Int)=>.br (x2.2==x3.2) ( .bind 4 (Tt x2.1 x3.1) (fun(x4:Bool)=>.br x4 ( .br (x2.2 != 0) ( AQ true) ( .bind 26 (dI x2.1 a0) (fun(x5:Aa)=>.bind 26 (iC x3.1 a0) (fun(x6:Aa)=>AQ ((x5.Kind==x6.Kind)&&((x5.Bits==x6.Bits)&&true)))))) ( AQ false))) ( AQ false))))
def xH (a0:C9) (a1:Int):Option Bool:=AY MP (.b0 a0 a1)
def TE:Ai U:=⟨[34,3],4,fun x=>xH x.1 x.2.1,by decide⟩
def wU:Lay:=LT [1,2] [.v 3,.p 0] [.s 34]
def wX:Lay:=LT [1,2,5] [.v 3,.p 0,.v 3] [.s 34]
def Z6v:bJ->BI U
 | .b0 a0 a1=>Bl Tryz.f3 [34,3] (a0,a1,())
 | .b1 a0 a1=>BA Tryz.f3 [1,1,1,0,0] wU (((a0,()),((),())),((a1,()),()))
 | .b2 a0 a1 a2=>BA Tryz.f3 [1,1,1,0,1,0,0,0,0] wX (((a0,()),((),((a1,()),()))),((a2,()),()))
theorem Z6o:Ag Tryz.prog B0 3 TE:=CZ (mc Z8O (mc Z91 (mc ZdQ (mc Zbl (mc Z76 (mc Z8n Ar)))))) Ap (al [(5,wU),(6,wX)]) Z6v Tryz.func3 (fun p=>by cases p<;>kernel_rfl) (by kernel_rfl) fun _=>rfl
end
end Go.Proofs.YtlabamnhpgoekaaGreatDoor
