/- A part of it. -/
import Derived.Test.YtjodhcdmhobmoaaGreatDoorF2
import Derived.RangeFuncWrites
import Derived.RangeFuncBox
import Derived.RangeFuncLeaves
import Derived.WalkKit
import Derived.OwnWalkIn
import Derived.TacticsInMore
import Derived.RegionIn
import Derived.LoopNIn
import Derived.LoopIn
import Derived.Shelf.Abstract
import Derived.IntWalk
import Derived.Lib.Hide
import Derived.Laws.Closers25b
import Derived.RangeFuncCalls
import Derived.Maps.Own
import Derived.Laws.EntriesVeiled
import Derived.KernelRfl
set_option linter.unusedVariables false
set_option linter.unusedSimpArgs false
namespace Go.Proofs.YtjodhcdmhobmoaaGreatDoor
set_option maxRecDepth 100000
noncomputable section
attribute [local go_sem] Go.Oper.semAt_some
open Go Go.RowKit Go.Shelf
def JV (ys:List Int):Nat->Int
 | 0=>0
 | m+1=>bits .or .u64 (JV ys m) (IntKind.wrap .u64 (ys[m]?.getD 0*2 ^ (8*m)))
def JD (xs:List Int) (k:Nat):Int:=JV ((xs.drop (8*k)).take 8) ((xs.drop (8*k)).take 8).length
def gN (xs:List Int):Nat:=(xs.length+7) / 8
theorem Zc8 {a b:Nat} (h:a<=b):List.range a <+: List.range b:=by
 obtain⟨d,rfl⟩:∃d,b=a+d:=⟨b - a,by omega⟩
 rw [List.range_add]
 exact List.prefix_append _ _
theorem meas {L k:Nat} {a b:Int} (h:8*k<L) (ha:a=8*(k:Int)) (hb:b=8*(k:Int)+8):L+8 - (intOf (.int .i64 b)).toNat<L+8 - (intOf (.int .i64 a)).toNat:=by
 subst ha hb
 simp only [intOf]
 omega
structure BytesAt (W:World) (Bm b o cap:Nat) (a:Option Addr) (xs:List Int):Prop where
 box:W.cell? ⟨Bm,0,none⟩=some (.slice a xs.length cap)
 Vo:xs≠[]->a=some ⟨b,o,none⟩
 cells:∀j (h:j<xs.length),W.cell? ⟨b,o+j,none⟩=some (.int .u8 xs[j])
 len:xs.length<=cap
 max:cap<=maxLen
 bd:∀x∈xs,0<=x/\x<256
set_option maxHeartbeats 1000000 in
theorem g1_in (F:Fence) (n:Nat) (hG1:F.fn 382) (hro:F.round=none) (hn:1<=n) (xs:List Int) (hlen:xs.length<=4611686018427387904) (b o cap:Nat) (a:Option Addr) (l Bm:Nat) (J Jx:List Nat->World->Prop)
  (hY:∀pre x W,J pre W->pre.length<gN xs->YieldAt F (n - 1) Tryz.prog l #[.int .u64 (JD xs x)] W fun e W' =>
   (e = .returned (.bool true)/\J (pre++[x]) W' /\ (BytesAt W Bm b o cap a xs->BytesAt W' Bm b o cap a xs))\/(e = .returned (.bool false)/\Jx (pre++[x]) W'))
  (W:World) (hB:BytesAt W Bm b o cap a xs) (h0:J [] W) :
  CallsIn F n Tryz.prog 382 #[.func (.yield l) #[] #[],.pointer (some ⟨Bm,0,none⟩)] W fun e W' =>(∃v,e = .returned v) /\
   ((∃ys,ys=List.range (gN xs)/\J ys W')\/(∃pre,pre <+: List.range (gN xs)/\Jx pre W')):=by
 refine callsIn_of_wp Tryz.func382 rfl hG1 ?_ hro
 simp only [Tryz.ntmps382,List.size_toArray,List.length_cons,List.length_nil,Nat.reduceAdd,Nat.reduceSub,Array.replicate_succ,Array.replicate_zero,List.push_toArray,List.append_toArray,List.nil_append,List.cons_append]
 gi_wp2
 gi_loopw [3] (fun i wr=>∃k:Nat,k<=gN xs/\i = .int .i64 ((8*k:Nat):Int)/\J (List.range k) wr/\BytesAt wr Bm b o cap a xs)
  (fun i _=>xs.length+8 - (intOf i).toNat)
 case atStart=>exact⟨0,by omega,rfl,by simpa using h0,hB⟩
 case round=>
  obtain⟨k,hk,rfl,hJ,hb⟩:=hrel
  have hbox:=hb.box
  by_cases hlt:8*k<xs.length
  ·have hl:=hb.len
   have hne:xs≠[]:=by rintro rfl;simp at hlt
   obtain rfl:=hb.Vo hne
   have hw:wrap64 (8*(k:Int)+8)=8*(k:Int)+8:=by unfold wrap64;omega
   have c1:(8*(k:Int)<xs.length):=by omega
   have c2:(0<=8*(k:Int)+8):=by omega
   have c3:(0<=8*(k:Int)):=by omega
   have c4:(8*(k:Int)<=8*(k:Int)+8):=by omega
   have c5:((xs.length:Int)<=cap):=by omega
   by_cases h8:8*k+8<=xs.length
   ·have d1:¬((xs.length:Int)<8*(k:Int)+8):=by omega
    have d2:(8*(k:Int)+8<=cap):=by omega
    have d3:(8*(k:Int)+8).toNat=8*k+8:=by omega
    have HL:=Lib.hid hl;have HE:=Lib.hid hlen;have HT:=Lib.hid hlt;have HK:=Lib.hid hk;have H8:=Lib.hid h8
    clear hl hne hlt hk h8 hlen
    gi_wp2
    gi_loopw [4,22] (fun acc j wi=>∃m:Nat,m<=8/\j = .int .i64 (m:Int)/\acc = .int .u64 (JV ((xs.drop (8*k)).take 8) m)/\J (List.range k) wi/\BytesAt wi Bm b o cap (some ⟨b,o,none⟩) xs)
     (fun _ j _=>8 - (intOf j).toNat)
    case atStart=>exact⟨0,by omega,rfl,rfl,hJ,hb⟩
    case round=>
     obtain⟨m,hm,rfl,rfl,hJ2,hb2⟩:=hrel
     have hb2b:=hb2.box
     by_cases hm8:m<8
     ·have e1:((m:Int)<8):=by omega
      have e2:(0<=(m:Int)):=by omega
      have e3:m<8:=hm8
      have hj:8*k+m<xs.length:=by have:=H8.out;omega
      have hcell:wr.cell? ⟨b,o+8*k+m,none⟩=some (.int .u8 xs[8*k+m]):=by rw [Nat.add_assoc];exact hb2.cells _ hj
      obtain⟨bd1,bd2⟩:=hb2.bd _ (List.getElem_mem hj)
      have e4:IntKind.wrap .u64 xs[8*k+m]=xs[8*k+m]:=by simp only [IntKind.wrap,IntKind.signed,IntKind.bits,Bool.false_and,Bool.false_eq_true,if_false];omega
      have e5:wrap64 (8*(m:Int))=8*(m:Int):=by unfold wrap64;omega
      clear hm
      have hgn:JV ((xs.drop (8*k)).take 8) (m+1)=bits .or .u64 (JV ((xs.drop (8*k)).take 8) m) (IntKind.wrap .u64 (xs[8*k+m]*2 ^ (8*m))):=by
       simp only [JV]
       rw [List.getElem?_take,if_pos hm8,List.getElem?_drop,List.getElem?_eq_getElem hj]
       rfl
      have HG:=Lib.hid hgn
      clear hgn
      gi_wp2
      go_roundw
      case rel=>exact⟨m+1,by omega,by go_num,by rw [HG.out],hJ2,hb2⟩
      case measure=>simp [intOf];omega
     ·obtain rfl:m=8:=by omega
      have hb3:=hb2
      obtain⟨fn,tmps,assign,body,hy,hR⟩:=hY (List.range k) k wr hJ2 (by have:=H8.out;simp [gN];omega)
      have hg:JV ((xs.drop (8*k)).take 8) 8=JD xs k:=by
       have:=H8.out
       unfold JD
       rw [show ((xs.drop (8*k)).take 8).length=8 by simp;omega]
      have hstep:List.range k++[k]=List.range (k+1):=List.range_succ.symm
      have hpre:List.range (k+1) <+: List.range (gN xs):=Zc8 (by have:=HT.out;unfold gN;omega)
      rw [hstep] at hR
      have HS:=Lib.hid hstep;have HP:=Lib.hid hpre;clear hstep hpre
      gi_wp2
      refine hR.mono ?_
      rintro e W3 (⟨rfl,hJ3,hk3⟩|⟨rfl,hJx3⟩)
      ·have hb4:=hk3 hb3
       clear hk3
       gi_wp2
       go_roundw
       case rel=>exact⟨k+1,by have:=HT.out;unfold gN;omega,by simp only [Value.int.injEq,true_and];omega,hJ3,hb4⟩
       case measure=>exact meas (by have:=HT.out;omega) (by omega) (by omega)
      ·gi_wp2
       refine bodyPost_ret (results_none rfl _ _ _) rfl ?_
       exact⟨⟨_,rfl⟩,.inr ⟨_,HP.out,hJx3⟩⟩
   ·have d1:((xs.length:Int)<8*(k:Int)+8):=by omega
    have d2:(8*(k:Int)<=xs.length):=by omega
    obtain⟨q,hq⟩:∃q,xs.length - 8*k=q:=⟨_,rfl⟩
    have d3:(0<=(xs.length:Int)):=by omega
    have HQ:=Lib.hid hq
    have HL:=Lib.hid hl;have HE:=Lib.hid hlen;have HT:=Lib.hid hlt;have HK:=Lib.hid hk;have H8:=Lib.hid h8
    clear hl hne hlt hk h8 hlen
    gi_wp2
    gi_loopw [4,22] (fun acc j wi=>∃m:Nat,m<=q/\j = .int .i64 (m:Int)/\acc = .int .u64 (JV ((xs.drop (8*k)).take 8) m)/\J (List.range k) wi/\BytesAt wi Bm b o cap (some ⟨b,o,none⟩) xs)
     (fun _ j _=>q - (intOf j).toNat)
    case atStart=>exact⟨0,by omega,rfl,rfl,hJ,hb⟩
    case round=>
     obtain⟨m,hm,rfl,rfl,hJ2,hb2⟩:=hrel
     have hb2b:=hb2.box
     by_cases hm8:m<q
     ·have e1:((m:Int)<q):=by omega
      have e2:(0<=(m:Int)):=by omega
      have e3:m<xs.length - 8*k:=by have:=HQ.out;omega
      have hj:8*k+m<xs.length:=by have:=HQ.out;omega
      have hcell:wr.cell? ⟨b,o+8*k+m,none⟩=some (.int .u8 xs[8*k+m]):=by rw [Nat.add_assoc];exact hb2.cells _ hj
      obtain⟨bd1,bd2⟩:=hb2.bd _ (List.getElem_mem hj)
      have e4:IntKind.wrap .u64 xs[8*k+m]=xs[8*k+m]:=by simp only [IntKind.wrap,IntKind.signed,IntKind.bits,Bool.false_and,Bool.false_eq_true,if_false];omega
      have e5:wrap64 (8*(m:Int))=8*(m:Int):=by have:=HQ.out;have:=H8.out;unfold wrap64;omega
      clear hm
      have hgn:JV ((xs.drop (8*k)).take 8) (m+1)=bits .or .u64 (JV ((xs.drop (8*k)).take 8) m) (IntKind.wrap .u64 (xs[8*k+m]*2 ^ (8*m))):=by
       simp only [JV]
       rw [List.getElem?_take,if_pos (by have:=HQ.out;have:=H8.out;omega),List.getElem?_drop,List.getElem?_eq_getElem hj]
       rfl
      have HG:=Lib.hid hgn
      clear hgn
      gi_wp2
      go_roundw
      case rel=>exact⟨m+1,by omega,by go_num,by rw [HG.out],hJ2,hb2⟩
      case measure=>simp [intOf];omega
     ·obtain rfl:m=q:=by omega
      have hb3:=hb2
      obtain⟨fn,tmps,assign,body,hy,hR⟩:=hY (List.range k) k wr hJ2 (by have:=HT.out;simp [gN];omega)
      have hg:JV ((xs.drop (8*k)).take 8) m=JD xs k:=by
       have:=H8.out
       unfold JD
       rw [show ((xs.drop (8*k)).take 8).length=m by have:=HQ.out;simp only [List.length_take,List.length_drop];omega]
      have hstep:List.range k++[k]=List.range (k+1):=List.range_succ.symm
      have hpre:List.range (k+1) <+: List.range (gN xs):=Zc8 (by have:=HT.out;unfold gN;omega)
      rw [hstep] at hR
      have HS:=Lib.hid hstep;have HP:=Lib.hid hpre;clear hstep hpre
      gi_wp2
      refine hR.mono ?_
      rintro e W3 (⟨rfl,hJ3,hk3⟩|⟨rfl,hJx3⟩)
      ·have hb4:=hk3 hb3
       clear hk3
       gi_wp2
       go_roundw
       case rel=>exact⟨k+1,by have:=HT.out;unfold gN;omega,by simp only [Value.int.injEq,true_and];omega,hJ3,hb4⟩
       case measure=>exact meas (by have:=HT.out;omega) (by omega) (by omega)
      ·gi_wp2
       refine bodyPost_ret (results_none rfl _ _ _) rfl ?_
       exact⟨⟨_,rfl⟩,.inr ⟨_,HP.out,hJx3⟩⟩
  ·have hkk:k<=(xs.length+7) / 8:=hk
   have hdone:k=gN xs:=by unfold gN;omega
   rw [hdone] at hJ
   have c1:¬(8*(k:Int)<xs.length):=by omega
   gi_wp2
   go_end0
   exact⟨⟨_,rfl⟩,.inl hJ⟩
def Vf (mx:Int->Int->Option Int) (k:Int) (xs:List Int):Option Int:=
 if xs.length<=4611686018427387904 then (mx k xs.length).bind fun s=>(List.range (gN xs)).foldlM (fun s g=>mx k (bits .xor .u64 s (JD xs g))) s else none
def uN (F:Fence) (mx:Int->Int->Option Int):Prop:=∀k s r,(Lit.int .u64 k).wf=true->(Lit.int .u64 s).wf=true->mx k s=some r->(Lit.int .u64 r).wf=true /\
 ∀n w,CallsIn F n Tryz.prog 322 #[.int .u64 k,.int .u64 s] w fun e w' =>e = .returned (.int .u64 r)/\Below w.heap.size w w'
structure MI (W:World) (b o cap:Nat) (a:Option Addr) (xs:List Int):Prop where
 Vo:xs≠[]->a=some ⟨b,o,none⟩
 cells:∀j (h:j<xs.length),W.cell? ⟨b,o+j,none⟩=some (.int .u8 xs[j])
 len:xs.length<=cap
 max:cap<=maxLen
 bd:∀x∈xs,0<=x/\x<256
theorem MI.below {W W' : World} {n b o cap:Nat} {a:Option Addr} {xs:List Int} (h:MI W b o cap a xs) (hb:Below n W W') (hn:W.heap.size<=n\/b<n):MI W' b o cap a xs:=
 ⟨h.Vo,fun j hj=>(hb.cell (p:=⟨b,o+j,none⟩) (by
  rcases hn with hn|hn
  ·exact Nat.lt_of_lt_of_le (by have:=h.cells j hj;unfold World.cell? at this;split at this<;>first|exact(Array.getElem?_eq_some_iff.1 ‹_›).1|cases this) hn
  ·exact hn)).trans (h.cells j hj),h.len,h.max,h.bd⟩
theorem BytesAt.of {W:World} {Bm b o cap:Nat} {a:Option Addr} {xs:List Int} (h:MI W b o cap a xs) (hb:W.cell? ⟨Bm,0,none⟩=some (.slice a xs.length cap)):BytesAt W Bm b o cap a xs:=⟨hb,h.Vo,h.cells,h.len,h.max,h.bd⟩
theorem BytesAt.row {W:World} {Bm b o cap:Nat} {a:Option Addr} {xs:List Int} (h:BytesAt W Bm b o cap a xs):MI W b o cap a xs:=⟨h.Vo,h.cells,h.len,h.max,h.bd⟩
theorem MI.same {W W' : World} {b o cap:Nat} {a:Option Addr} {xs:List Int} (h:MI W b o cap a xs) (hb:xs≠[]->W'.heap[b]? = W.heap[b]?):MI W' b o cap a xs:=
 ⟨h.Vo,fun j hj=>(World.cell?_of_block (hb (by rintro rfl;cases hj))).trans (h.cells j hj),h.len,h.max,h.bd⟩
theorem MI.lt {W:World} {b o cap:Nat} {a:Option Addr} {xs:List Int} (h:MI W b o cap a xs) (hx:xs≠[]):b<W.heap.size:=by
 have:=h.cells 0 (List.length_pos_iff.2 hx)
 unfold World.cell? at this
 split at this<;>first|exact(Array.getElem?_eq_some_iff.1 ‹_›).1|cases this
structure gZ (k:Int) (w:World) (n5:Nat) (s:Int) (W:World):Prop where
 key:Boxed W w.heap.size 29 (.int .u64 k)
 st:Boxed W n5 25 (.int .u64 s)
 below:Below w.heap.size w W
theorem Zbx {W W' : World} {row:Option Nat} {B B0:Nat} {t:TypeId} {v:Value} (h:Boxed W B t v) (hg:W.grownBy W' row) (hr:∀r,row=some r->B0<=r/\∃o:Obj,W.heap[r]? = some o/\o.isCells=false):Boxed W' B t v:=by
 refine h.kept hg ?_
 intro e
 obtain⟨_,o,ho,hc⟩:=hr B e.symm
 rw [show W.heap[B]? = _ from h] at ho
 cases ho
 cases hc
theorem gZ.own {k:Int} {w:World} {n5:Nat} {s:Int} {W W' : World} {row:Option Nat} {B0:Nat} (hB:w.heap.size<=B0) (h:gZ k w n5 s W) (hg:W.grownBy W' row) (hr:∀r,row=some r->B0<=r/\∃o:Obj,W.heap[r]? = some o/\o.isCells=false):gZ k w n5 s W' :=
 ⟨Zbx h.key hg hr,Zbx h.st hg hr,h.below.grown hg h.below.size (fun k e=>Nat.le_trans hB (hr k e).1)⟩
theorem wf_x (a b:Int):(Lit.int .u64 (bits .xor .u64 a b)).wf=true:=by
 have:=bits_within .xor .u64 a b
 simp only [Lit.wf,Bool.and_eq_true,decide_eq_true_eq]
 exact this
theorem Zy9 (F:Fence) (n:Nat) (hG:F.fn 358) (hro:F.round=none) (a:Option Addr) (l c:Nat) (w:World) :
  CallsIn F n Tryz.prog 358 #[.slice a l c] w fun e w' =>e = .returned (.func (.func 382) #[] #[.pointer (some ⟨w.heap.size,0,none⟩)])/\w' = w.alloc (.cells #[.slice a l c] 62):=by
 refine callsIn_of_wp Tryz.func358 rfl hG ?_ hro
 simp only [Tryz.ntmps358,List.size_toArray,List.length_cons,List.length_nil,Nat.reduceAdd,Nat.reduceSub,Array.replicate_succ,Array.replicate_zero,List.push_toArray,List.append_toArray,List.nil_append,List.cons_append]
 gi_wp2
 go_ret
 exact⟨rfl,rfl⟩
set_option maxHeartbeats 2000000 in
theorem ZED (F:Fence) (hMIX:F.fn 322) (hG:F.fn 358) (hG1:F.fn 382) (hSELF:F.fn 324) (hro:F.round=none) (mx:Int->Int->Option Int) (hM:uN F mx) (hT:∀k s,(Lit.int .u64 s).wf=true->∃r,mx k s=some r) (n:Nat) (hn:3<=n) (k:Int) (xs:List Int) (r:Int) (hk:(Lit.int .u64 k).wf=true) (hr:Vf mx k xs=some r) (b o cap:Nat) (a:Option Addr) (w:World) (hB:MI w b o cap a xs) :
  CallsIn F n Tryz.prog 324 #[.int .u64 k,.slice a xs.length cap] w fun e W' =>e = .returned (.int .u64 r)/\Below w.heap.size w W' :=by
 unfold Vf at hr
 split at hr
 ·rename_i hlen
  cases h0:mx k xs.length with
  | none=>rw [h0] at hr;cases hr
  | some s0=>
   rw [h0] at hr
   change (List.range (gN xs)).foldlM (fun s g=>mx k (bits .xor .u64 s (JD xs g))) s0=some r at hr
   have hlw:(Lit.int .u64 (xs.length:Int)).wf=true:=by simp [Lit.wf,IntKind.min,IntKind.max,IntKind.signed,IntKind.bits];omega
   obtain⟨hs0,hC⟩:=hM k xs.length s0 hk hlw h0
   have h1:1<=n:=by omega
   refine callsIn_of_wp_marks Tryz.func324 rfl hSELF ?_ hro
   simp only [Tryz.ntmps324,List.size_toArray,List.length_cons,List.length_nil,Nat.reduceAdd,Nat.reduceSub,Array.replicate_succ,Array.replicate_zero,List.push_toArray,List.append_toArray,List.nil_append,List.cons_append]
   have hcv:IntKind.wrap .u64 (xs.length:Int)=xs.length:=by simp only [IntKind.wrap,IntKind.signed,IntKind.bits,Bool.false_and,Bool.false_eq_true,if_false];omega
   have HR:=Lib.hid hr;have HS:=Lib.hid hs0;have HL:=Lib.hid hlen
   clear hr hs0 hlen
   gi_wp2_with (gi_at_call 322;refine(hC (n - 1) _).mono ?_;rintro e w1 ⟨rfl,hb1⟩)
   gi_wp2_with (gi_at_call 358;refine(Zy9 F (n - 1) hG hro _ _ _ _).mono ?_;rintro e w2 ⟨rfl,rfl⟩)
   have hb1' : w.heap.size<w1.heap.size:=by have:=hb1.size;simp at this;omega
   obtain⟨W0,hW0⟩:∃W0,(w1.alloc (Obj.cells #[Value.int IntKind.u64 s0] 25)).alloc (Obj.cells #[Value.slice a xs.length cap] 62)=W0:=⟨_,rfl⟩
   have hk1:Boxed w1 w.heap.size 29 (.int .u64 k):=(hb1.block _ (by simp)).trans (Boxed.new w 29 _)
   have hI0:gZ k w w1.heap.size s0 W0:=by
    rw [<- hW0]
    refine⟨(hk1.alloc _).alloc _,(Boxed.new w1 25 (.int .u64 s0)).alloc _,?_⟩
    exact(((((Below.refl _ w).alloc (Nat.le_refl _) _).trans (hb1.mono (by simp))).alloc (Nat.le_of_lt hb1') _).alloc (by simp;omega) _)
   have hbyt:BytesAt W0 (w1.heap.size+1) b o cap a xs:=by
    refine BytesAt.of (hB.below hI0.below (.inl (Nat.le_refl _))) ?_
    rw [<- hW0]
    simp
   have hs0' : W0.heap.size=w1.heap.size+2:=by rw [<- hW0];simp
   rw [hW0]
   have HB:=Lib.hid hbyt
   clear hW0 hk1
   refine wpIn_rangeFunc_ownG hro h1 (gf:=382) (lb:=#[.pointer (some ⟨w1.heap.size+1,0,none⟩)]) rfl hG1 (enters_of Tryz.func382 (by kernel_rfl) rfl) (α:=Nat) (encs:=fun x=>#[Value.int .u64 (JD xs x)])
    (Kp:=fun A B=>BytesAt A (w1.heap.size+1) b o cap a xs->BytesAt B (w1.heap.size+1) b o cap a xs) (S:=fun ys=>ys=List.range (gN xs)) (Sp:=fun pre=>pre <+: List.range (gN xs)) (N:=gN xs) (w0:=W0)
    (fun l J Jx W hW _ _ hY hJ=>g1_in F (n - 1) hG1 hro (by omega) xs HL.out b o cap a l (w1.heap.size+1) J Jx (fun pre x W1 h1 h2=>hY pre x W1 h1 h2)
     W (BytesAt.of (hbyt.row.below hW (.inl (Nat.le_refl _))) ((hW.cell (p:=⟨w1.heap.size+1,0,none⟩) (by simp;omega)).trans hbyt.box)) hJ)
    (fun h k=>fun x=>k (h x))
    (fun W l o o' hl ho hc _ hby=>BytesAt.of (hby.row.same fun hx=>World.putObj_heap_other (by have:=hbyt.row.lt hx;omega)) ((World.cell?_of_block (World.putObj_heap_other (by simp only;omega))).trans hby.box))
    (Below.refl _ _) (fun _=>rfl)
    (fun pre W=>∃s,pre.foldlM (fun s g=>mx k (bits .xor .u64 s (JD xs g))) s0=some s/\(Lit.int .u64 s).wf=true/\gZ k w w1.heap.size s W)
    (fun _ _ _=>False)
    (fun p A B row hs hg hr=>by obtain⟨s,q1,q2,q3⟩:=hs;exact⟨s,q1,q2,q3.own (by omega) hg hr⟩)
    (fun c p A B row hs hg hr=>hs)
    ⟨s0,rfl,HS.out,hI0⟩
    (fun x=>{ tmps:=#[.int .u64 k,.slice a xs.length cap,.pointer (some ⟨w.heap.size,0,none⟩),undef,.int .u64 0,.pointer (some ⟨w1.heap.size,0,none⟩),.int .u64 (JD xs x),.int .u64 k,.slice a xs.length cap,.int .i64 xs.length,.int .u64 xs.length,.int .u64 s0,.slice a xs.length cap,.func (.func 382) #[] #[.pointer (some ⟨w1.heap.size+1,0,none⟩)],.int .u64 (JD xs x),undef,undef,undef,undef,undef,undef],defers:=[] }) ?assign ?body ?done ?stop
   case assign=>
    intro l x W K hK
    gi_wp2
    exact hK
   case body=>
    rintro l pre x W ⟨s,q1,q2,hI⟩ hlen
    obtain⟨r',hr'⟩:=hT k (bits .xor .u64 s (JD xs x)) (wf_x _ _)
    obtain⟨hw',hC'⟩:=hM k _ r' hk (wf_x _ _) hr'
    have hc0:=hI.key.cell
    have hc1:=hI.st.cell
    have hf1:=hI.st.frozen
    have hMIXl:(F.inRound l).fn 322:=hMIX
    have h3:1<=n - 1 - 1:=by omega
    gi_wp2_with (gi_at_call 322;refine(CallsIn.inRound l (hC' (n - 1 - 1 - 1) _)).mono ?_;rintro e W2 ⟨rfl,hb2⟩;have hst2:Boxed W2 w1.heap.size 25 (.int .u64 s):=(hb2.block _ hI.st.lt).trans hI.st;have hky2:Boxed W2 w.heap.size 29 (.int .u64 k):=(hb2.block _ hI.key.lt).trans hI.key;have hc2:=hst2.cell;have hf2:=hst2.frozen;clear hc0 hc1 hf1)
    refine⟨KeepsFrom.trans ⟨hb2.size,fun j o _ hj _=>(hb2.block _ (Array.getElem?_eq_some_iff.1 hj).1).trans hj⟩ (KeepsFrom.of_grownBy (grownBy_setCell' W2 _ _) (fun j e=>by cases e;omega)),fun hby=>?_,r',?_,hw',?_⟩
    ·refine BytesAt.of ((hby.row.below hb2 (.inl (Nat.le_refl _))).same fun hx=>Below.heap_setCell _ _ _ _ (by have:=hB.lt hx;simp only;omega)) ?_
     have hbm:w1.heap.size+1<W.heap.size:=by
      have:=hby.box
      unfold World.cell? at this
      split at this<;>first|exact(Array.getElem?_eq_some_iff.1 ‹_›).1|cases this
     exact(World.cell?_of_block (Below.heap_setCell _ _ _ _ (by simp only;omega))).trans ((hb2.cell (p:=⟨w1.heap.size+1,0,none⟩) hbm).trans hby.box)
    ·simp only [List.foldlM_append,q1,List.foldlM_cons,List.foldlM_nil,Option.bind_eq_bind,Option.bind_some,hr',Option.pure_def]
    ·exact⟨(Below.heap_setCell _ _ _ _ (by simp only;omega)).trans hky2,hst2.set _,(hI.below.trans (hb2.mono hI.below.size)).setCell (p:=⟨w1.heap.size,0,none⟩) (Nat.le_of_lt hb1') _⟩
   case done=>
    rintro D ys W hD rfl ⟨s,q1,q2,hI⟩ hK
    have hsr:s=r:=Option.some.inj (q1.symm.trans HR.out)
    subst hsr
    have hc1:=hI.st.cell
    have hf1:=hI.st.frozen
    gi_wp2
    refine⟨by simp,.inl ⟨_,_,rfl,run_takeDeferred hK,?_⟩⟩
    refine⟨.int .u64 s,?_,?_,?_⟩
    ·simp [results,Tryz.f324,go_sem]
    ·rfl
    ·exact hI.below.trans (belowK_b (w:=w) (Nat.le_refl _) _ D _ _ (by omega) hK rfl rfl)
   case stop=>
    rintro D c pre W hD hp hf hK
    exact hf.elim
 ·cases hr
open Go.Proofs.YtjodhcdmhobmoaaGreatDoor.Le
theorem ZuE {σ:Sg} {w:World}:∀{xs:List Int} {us:List Value},AQ σ w (xs.map fun x=>V.lit (.int .u8 x)) us->us=xs.map (fun x=>Value.int .u8 x)/\∀x∈xs,0<=x/\x<256:=by
 intro xs
 induction xs with
 | nil=>intro us h;cases h.FM;exact⟨rfl,by simp⟩
 | cons x xs ih=>
  intro us h
  obtain⟨v,vs,rfl,h1,h2⟩:=h.Dq
  obtain⟨i1,i2⟩:=ih h2
  cases h1 with
  | lit hl _=>
   refine⟨by rw [i1];rfl,fun y hy=>?_⟩
   rcases List.mem_cons.1 hy with rfl|hy
   ·simp [leaf,Lit.wf,IntKind.min,IntKind.max,IntKind.signed,IntKind.bits] at hl
    omega
   ·exact i2 y hy
theorem row_of {σ:Sg} {w:World} {xs:List Int} {v:Value} (h:AQ σ w [.sl false 1 (xs.map fun x=>V.lit (.int .u8 x))] [v]):∃a b o cap,v = .slice a xs.length cap/\MI w b o cap a xs:=by
 generalize hes:(xs.map fun x=>V.lit (.int .u8 x))=es at h
 cases h with
 | EW _=>
  have:xs=[]:=by simpa using hes
  subst this
  exact⟨none,0,0,0,rfl,⟨fun h=>absurd rfl h,fun j hj=>(by cases hj),Nat.le_refl _,Nat.zero_le _,by simp⟩⟩
 | FV a _=>
  have:xs=[]:=by simpa using hes
  subst this
  exact⟨_,0,0,_,rfl,⟨fun h=>absurd rfl h,fun j hj=>(by cases hj),Nat.zero_le _,by first|exact Nat.zero_le _|assumption,by simp⟩⟩
 | sl b o c e h0 h1 h2 h3 h4 h5 h6 _=>
  subst hes
  obtain⟨rfl,hbd⟩:=ZuE h0
  refine⟨_,b,o,c,by rw [List.length_map],⟨fun _=>rfl,fun j hj=>?_,by simpa using h4,h5,hbd⟩⟩
  refine(h6 j (.int .u8 xs[j]) ?_).2
  have:∀l:List Int,flat (l.map fun x=>Value.int .u8 x)=l.map fun x=>Value.int .u8 x:=by
   intro l
   induction l with
   | nil=>rfl
   | cons y l ih=>rw [List.map_cons,KI,ih];rfl
  rw [this,List.getElem?_map,List.getElem?_eq_getElem hj]
  rfl
theorem Zev (n:Int):0<=IntKind.wrap .u64 n:=by simp only [IntKind.wrap,IntKind.signed,IntKind.bits,Bool.false_and,Bool.false_eq_true,if_false];omega
theorem Zel (a b:Int):0<=bits .and .u64 a b:=(bits_within .and .u64 a b).1
theorem ZDL (a b:Int):∃r,TF a b=some r:=⟨_,(AZ _ _).trans (by simp only [Z55,Tr.den,Hf,Zev,Zel,decide_true,cond_true];rfl)⟩
theorem ZdV (a b:Int):∃r,Po a b=some r:=⟨_,(AZ _ _).trans (by simp only [Z52,Tr.den,Hf,Zev,Zel,decide_true,cond_true];rfl)⟩
theorem ZdS (a:Int):∃r,QG a 32=some r:=⟨_,(AZ _ _).trans (by simp [Z0B,Tr.den,Hf];rfl)⟩
theorem ZBF (a:Int):∃r,lT a=some r:=by
 obtain⟨x,hx⟩:=ZdS a
 exact⟨_,(AZ _ _).trans (by simp only [Z08,Tr.den,Hf,hx,Option.bind_some];rfl)⟩
theorem ZeH (a:Io):∃r,Vx a=some r:=⟨_,(AZ _ _).trans (by simp only [jC,Tr.den,Hf];rfl)⟩
theorem ZDy (a b c:Int):∃r,XH a b c=some r:=by
 obtain⟨x1,h1⟩:=ZDL a (Int.tmod (AP ((11:Int)*(Int.tmod b (64:Int)))) (64:Int))
 obtain⟨x2,h2⟩:=ZdS x1
 obtain⟨x3,h3⟩:=ZdV (IntKind.wrap .u32 (c+(IntKind.wrap .u32 (x2)))) 7
 obtain⟨x4,h4⟩:=ZdV (IntKind.wrap .u32 (x2)) 16
 exact⟨_,(AZ _ _).trans (by simp only [ZU,Tr.den,Hf,h1,h2,h3,h4,Option.bind_some];rfl)⟩
theorem ZFB (k:Int):∀(n:Nat) (i:Int) (h:Io),0<=i->8 - i<=n->∃r,AV IQ (.b1 k i h)=some r:=by
 intro n
 induction n with
 | zero=>
  intro i h h0 h8
  obtain⟨r,hr⟩:=ZeH h
  have:decide (i<(8:Int))=false:=by simp;omega
  exact⟨r,(AZ _ _).trans (by simp only [IQ,Tr.den,Hf,this,cond_false,hr,Option.bind_some])⟩
 | succ n ih=>
  intro i h h0 h8
  by_cases hi:i<8
  ·obtain⟨x,hx⟩:=ZDy k i h.x1
   have hw:AP (i+1)=i+1:=by simp [AP,IntKind.wrap,IntKind.signed,IntKind.bits];split<;>omega
   obtain⟨r,hr⟩:=ih (i+1) ⟨h.x1,bits .xor .u32 h.x0 x⟩ (by omega) (by omega)
   have:decide (i<(8:Int))=true:=by simp [hi]
   exact⟨r,(AZ _ _).trans (by simp only [IQ,Tr.den,Hf,this,cond_true,hx,Option.bind_some,hw,hr])⟩
  ·obtain⟨r,hr⟩:=ZeH h
   have:decide (i<(8:Int))=false:=by simp;omega
   exact⟨r,(AZ _ _).trans (by simp only [IQ,Tr.den,Hf,this,cond_false,hr,Option.bind_some])⟩
theorem Zfh (k s:Int):∃r,KD k s=some r:=by
 obtain⟨x,hx⟩:=ZBF s
 obtain⟨r,hr⟩:=ZFB k 8 0 x (by omega) (by omega)
 exact⟨r,(AZ _ _).trans (by simp only [IQ,Tr.den,Hf,hx,Option.bind_some,hr])⟩
def iJ:Nat->Option (List V):=fun _=>none
def BZ:Env:=EV (U:=U) Tryz.prog iJ 0 (fun _=>none) noH
abbrev Vs:={ms:FuncId->Option (Af U) // ∀g m,ms g=some m->Ad Tryz.prog BZ g m}
abbrev vY:={hs:FuncId->List FuncId->Option (HMod U) // ∀g k m,hs g k=some m->Dv Tryz.prog BZ g m}
def Sv:Vs:=⟨fun _=>none,fun _ _ h=>nomatch h⟩
def Su:vY:=⟨fun _ _=>none,fun _ _ _ h=>nomatch h⟩
def Sz {f:FuncId} {m:Af U} (h:Ad Tryz.prog BZ f m) (s:Vs):Vs:=⟨fun g=>bif Nat.beq g f then some m else s.1 g,fun g m' e=>by
 cases hb:Nat.beq g f with
 | true=>dsimp only at e;rw [hb] at e;cases e;exact(Nat.eq_of_beq_eq_true hb)▸h
 | false=>dsimp only at e;rw [hb] at e;exact s.2 g m' e⟩
abbrev Zf4 (f:FuncId) (fn:Func) (ms:Vs) (hs:vY) (A:Nat->Option Lay) (rt:Nat) {Pt:Type} (T:Pt->Tr U (U.Ty rt⊕Pt)) (sp:Pt->Ac U):Prop:=
 ∀p,Le.ER (EV Tryz.prog iJ f ms.1 hs.1) (Qk ms.1 hs.1) A f fn 0 (gG (EV Tryz.prog iJ f ms.1 hs.1) fn) 1000 (.run (sp p).c) (sp p).K (sp p).st (sp p).sk=(T p).map (SG (vJ (U:=U) rt) sp)
theorem okPz {f:FuncId} {fn:Func} {ms:Vs} {hs:vY} {A:Nat->Option Lay} {m:Af U} {Pt:Type} {T:Pt->Tr U (U.Ty m.rt⊕Pt)} {sp:Pt->Ac U} (h:Zf4 f fn ms hs A m.rt T sp) (b0:FY U m.ts->Pt)
  (hc:E8 (EV Tryz.prog iJ f ms.1 hs.1) f (JM fn)=true) (hfn:Tryz.prog.funcs[f]? = some fn) (hn:(fn.name == "runtime.NumGoroutine")=false) (hb:fn.body=some (JM fn))
  (hm:∀x,m.fn x=AV T (b0 x)) (hsp:∀x,sp (b0 x)=Ai fn m.ts x):Ad Tryz.prog BZ f m:=
 Zdg rfl (Z3p _ rfl) Q9 ms.2 hs.2 hfn hn hb hc m T sp h b0 hm hsp
theorem Sm {f rt:Nat} {ts:List Nat} {hk:∀t∈ts,t∈U.keys} {fn:Func} {Pt:Type} {T:Pt->Tr U (U.Ty rt⊕Pt)} {b0:FY U ts->Pt} (ms:Vs) (hs:vY) (A:Nat->Option Lay) (sp:Pt->Ac U) (hfn:Tryz.prog.funcs[f]? = some fn) (h:Zf4 f fn ms hs A rt T sp)
  (hc:(E8 (EV Tryz.prog iJ f ms.1 hs.1) f (JM fn),fn.name == "runtime.NumGoroutine",fn.body)=(true,false,some (JM fn))) (hsp:∀x,sp (b0 x)=Ai fn ts x):Ad Tryz.prog BZ f ⟨ts,rt,fun x=>AV T (b0 x),hk⟩:=
 okPz (m:=⟨ts,rt,fun x=>AV T (b0 x),hk⟩) h b0 (congrArg (·.1) hc) hfn (congrArg (·.2.1) hc) (congrArg (·.2.2) hc) (fun _=>rfl) hsp
theorem Z7C:Ad Tryz.prog BZ 379 Z95:=Sm Sv Su AN Z86 Tryz.func379 (fun p=>by cases p<;>kernel_rfl) (by kernel_rfl) fun _=>rfl
theorem ZkB:Ad Tryz.prog BZ 355 Z7F:=Sm (Sz Z7C Sv) Su AN Z7a Tryz.func355 (fun p=>by cases p<;>kernel_rfl) (by kernel_rfl) fun _=>rfl
theorem ZfL:Ad Tryz.prog BZ 380 Z53:=Sm Sv Su AN Z50 Tryz.func380 (fun p=>by cases p<;>kernel_rfl) (by kernel_rfl) fun _=>rfl
theorem ZfK:Ad Tryz.prog BZ 381 Z54:=Sm Sv Su AN Z4Y Tryz.func381 (fun p=>by cases p<;>kernel_rfl) (by kernel_rfl) fun _=>rfl
theorem ZkF:Ad Tryz.prog BZ 356 Z7U:=Sm (Sz Z7C (Sz ZfL (Sz ZfK Sv))) Su AN Z7A Tryz.func356 (fun p=>by cases p<;>kernel_rfl) (by kernel_rfl) fun _=>rfl
theorem Zg4:Ad Tryz.prog BZ 357 Z5K:=Sm Sv Su AN Z5n Tryz.func357 (fun p=>by cases p<;>kernel_rfl) (by kernel_rfl) fun _=>rfl
theorem ZnW:Ad Tryz.prog BZ 322 nD:=Sm (Sz ZkB (Sz ZkF (Sz Zg4 Sv))) Su ZaI Z92 Tryz.func322 (fun p=>by cases p<;>kernel_rfl) (by kernel_rfl) fun _=>rfl
theorem Zed (ok:Ad Tryz.prog BZ 322 nD):uN Fence.wide KD:=by
 intro k s r hk hs hr
 have key:∀w,Calls Tryz.prog 322 #[.int .u64 k,.int .u64 s] w fun e w' =>(e = .returned (.int .u64 r)/\Below w.heap.size w w')/\(Lit.int .u64 r).wf=true:=fun w=>by
  have:=ok.pure (k,s,()) r hr (fun _ _=>False) w [.int .u64 k,.int .u64 s] (fun _ _ h=>h.elim) (fun g r h=>by cases h) (.lit hk (.lit hs .nil))
  refine this.mono ?_
  rintro e w' ⟨u,fz',rfl,hb,_,_,_,h1,_⟩
  cases h1 with
  | lit hl _=>exact⟨⟨rfl,hb⟩,hl⟩
 refine⟨?_,fun n w=>callsIn_wide.2 ((key w).mono fun e w' h=>h.1)⟩
 obtain⟨e,w',fr,h,_⟩:=key { heap:=#[],os:=default,tape:=default,output:=default,drawn:=default } []
 exact h.2
theorem fold_wf {F:Fence} {mx:Int->Int->Option Int} (hM:uN F mx) {k:Int} (hk:(Lit.int .u64 k).wf=true) {xs:List Int}:∀(l:List Nat) (s r:Int),(Lit.int .u64 s).wf=true->l.foldlM (fun s g=>mx k (bits .xor .u64 s (JD xs g))) s=some r->(Lit.int .u64 r).wf=true:=by
 intro l
 induction l with
 | nil=>intro s r hs h;cases h;exact hs
 | cons g l ih=>
  intro s r hs h
  rw [List.foldlM_cons] at h
  obtain⟨s',h1,h2⟩:=Option.bind_eq_some_iff.1 h
  exact ih s' r (hM k _ s' hk (Go.Proofs.YtjodhcdmhobmoaaGreatDoor.wf_x _ _) h1).1 h2
theorem ZFg {F:Fence} {mx:Int->Int->Option Int} (hM:uN F mx) {k:Int} (hk:(Lit.int .u64 k).wf=true) {xs:List Int} {r:Int} (h:Vf mx k xs=some r):(Lit.int .u64 r).wf=true:=by
 unfold Vf at h
 split at h
 ·rename_i hlen
  obtain⟨s',h1,h2⟩:=Option.bind_eq_some_iff.1 h
  refine fold_wf hM hk _ s' r (hM k _ s' hk ?_ h1).1 h2
  simp [Lit.wf,IntKind.min,IntKind.max,IntKind.signed,IntKind.bits]
  omega
 ·cases h
def pO (k:Int) (xs:List Int):Option Int:=Vf KD k xs
def ZcS:Af U:=⟨[29,62],25,fun x=>pO x.1 x.2.1,by decide⟩
theorem Zrm (ok:Ad Tryz.prog BZ 322 nD) (hT:∀k s,(Lit.int .u64 s).wf=true->∃r,KD k s=some r):AA0 324 ZcS:=by
 refine⟨⟨Tryz.f324,Tryz.func324,by kernel_rfl,by kernel_rfl⟩,?_⟩
 rintro ⟨k,xs,_⟩ r ha fz w vs hcells hg hr
 obtain⟨v0,vs,rfl,h1,hr⟩:=hr.Dq
 obtain⟨v1,vs,rfl,h2,hr⟩:=hr.Dq
 cases hr.FM
 obtain⟨a,b,o,cap,rfl,hrow⟩:=row_of (xs:=xs) h2
 cases h1 with
 | lit hl _=>
  have hw:(Lit.int .u64 r).wf=true:=ZFg (Zed ok) hl ha
  refine(callsIn_wide.1 (ZED Fence.wide trivial trivial trivial trivial rfl KD (Zed ok) hT 3 (by omega) k xs r hl ha b o cap a w hrow)).mono ?_
  rintro e w' ⟨rfl,hb⟩
  refine⟨_,fz,rfl,hb,fun _ _ h=>h,fun _ _ h _=>h,fun b c h=>?_,.lit hw .nil,rfl⟩
  obtain⟨u,hu⟩:=hcells b c h
  exact⟨u,(hb.cell (p:=⟨b,c,none⟩) (cell_lt hu)).trans hu⟩
theorem ZvF:AA0 324 ZcS:=Zrm ZnW fun k s _=>Zfh k s
end
open Go Go.Proofs.YtjodhcdmhobmoaaGreatDoor.Le
noncomputable section
inductive Z1X where
 | b0 (a0 a1:Int) (a2 a3:List Int)
def ZbF:Z1X->Tr U ((List Int)⊕Z1X)
 | .b0 a0 a1 a2 a3=>.chk (([(⟨4,(IntKind.wrap .u64 ((IntKind.wrap .u32 ((↑a2.length:Int)))))⟩:Bd)]).length==1) ( .bind 120 (QF ([(⟨4,(IntKind.wrap .u64 ((IntKind.wrap .u32 ((↑a2.length:Int)))))⟩:Bd)])) (fun(x1:(List Int)×Int)=>.chk (([a1]).length==1) ( .bind 62 (UO ([a1])) (fun(x2:List Int)=>.chk (([x2,x1.1,a2,a3]).length==4) ( .bind 62 (UC ([x2,x1.1,a2,a3])) (fun(x3:List Int)=>.bind 25 (pO a0 x3) (fun(x4:Int)=>.chk (([x4]).length==1) ( .bind 62 (UO ([x4])) (fun(x5:List Int)=>.chk (decide (0<=(4:Int)/\(4:Int)<=(↑x5.length:Int))) ( AA ((x5.drop 0).take ((Int.toNat 4) - 0))))))))))))
def Z22 (a0 a1:Int) (a2 a3:List Int):Option (List Int):=AV ZbF (.b0 a0 a1 a2 a3)
def Zrj:Z1X->Ac U
 | .b0 a0 a1 a2 a3=>Ai Tryz.f234 [29,25,62,62] (a0,a1,a2,a3,())
theorem ZtA:AA1 234 [29,25,62,62] 62 (fun x=>Z22 x.1 x.2.1 x.2.2.1 x.2.2.2.1) rfl:=Aj (mc kW (mc ZW (mc Z9D (mc ZvF Ag)))) Ah AN Zrj Tryz.func234 (fun p=>by cases p<;>kernel_rfl) (by kernel_rfl) fun _=>rfl
inductive Z2f where
 | b0 (a0 a1:Int) (a2 a3:List Int)
def Zbt:Z2f->Tr U ((List Int)⊕Z2f)
 | .b0 a0 a1 a2 a3=>.bind 62 (Z0m a0 a1 (↑a3.length:Int)) (fun(x1:List Int)=>.bind 62 (Z0r a3 x1) (fun(x2:List Int)=>.bind 62 (Z22 a0 a1 a2 x2) (fun(x3:List Int)=>.chk (([x2,x3]).length==2) ( .bind 62 (UC ([x2,x3])) (fun(x4:List Int)=>AA x4)))))
def Z1I (a0 a1:Int) (a2 a3:List Int):Option (List Int):=AV Zbt (.b0 a0 a1 a2 a3)
def Zr1:Z2f->Ac U
 | .b0 a0 a1 a2 a3=>Ai Tryz.f157 [29,25,62,62] (a0,a1,a2,a3,())
theorem ZtM:AA1 157 [29,25,62,62] 62 (fun x=>Z1I x.1 x.2.1 x.2.2.1 x.2.2.2.1) rfl:=Aj (mc kW (mc Znq (mc Znj (mc ZtA Ag)))) Ah AN Zr1 Tryz.func157 (fun p=>by cases p<;>kernel_rfl) (by kernel_rfl) fun _=>rfl
inductive yX where
 | b0 (a0:Int) (a1:QC) (a2:Int)
def Zjx:yX->Tr U (Int⊕yX)
 | .b0 a0 a1 a2=>AA (bits .xor .u64 a1.Bo (IntKind.wrap .u64 ((IntKind.wrap .u64 ((2:Int)*a0))+a2)))
def yU (a0:Int) (a1:QC) (a2:Int):Option Int:=AV Zjx (.b0 a0 a1 a2)
def Zif:yX->Ac U
 | .b0 a0 a1 a2=>Ai Tryz.f235 [25,3385,3369] (a0,a1,a2,())
theorem ZhO:AA1 235 [25,3385,3369] 25 (fun x=>yU x.1 x.2.1 x.2.2.1) rfl:=Aj Ag Ah AN Zif Tryz.func235 (fun p=>by cases p<;>kernel_rfl) (by kernel_rfl) fun _=>rfl
inductive Zv where
 | b0 (a0:C9) (a1:Int)
def Zkw:Zv->Tr U (Tm⊕Zv)
 | .b0 a0 a1=>AA (⟨a0,a1⟩:Tm)
def Zf (a0:C9) (a1:Int):Option Tm:=AV Zkw (.b0 a0 a1)
def Z6x:Shape:=⟨[.agg [.v 41 7 true],OV 25],[]⟩
def ZhP:Shape:=⟨[.one (.fn 235 [] [0,1])],[VA 41 7,.var 25 1 (OV 25)]⟩
noncomputable def Zkn:HMod U:=⟨[k7,KP],[],Z6x,ZhP,true,1356,fun(y:Tm)=>(((),()),((y.q0,()),((y.q1,()),()))),fun x=>Zf x.1.1.1 x.1.2.1.1,okS rfl⟩
def ZjH:Zv->Ac U
 | .b0 a0 a1=>Fe Tryz.f158 Z6x (((a0,()),((a1,()),())),())
theorem ZjQ:Dv Tryz.prog B0 158 Zkn:=okR Ag Ah AN [KP] [.var k7,.var KP] 0 ZjH Tryz.func158 (fun p=>by cases p<;>kernel_rfl) (by kernel_rfl) fun x=>by kernel_rfl
inductive ZA where
 | b0 (a0:C9) (a1:BM)
 | b1 (a0 a1:BM)
 | b2 (a0:C9) (a1 a2:BM)
def Tt:ZA->Tr U ((BM×Int)⊕ZA)
 | .b0 a0 a1=>.bind 45 (Tj a1) (fun(x1:Int)=>.br (x1 != 0) ( AA (F8,x1)) ( .br (!a0.Jp) ( AO (.b1 a1 F8)) ( .bind 4 (Wh a1.BG) (fun(x2:Bool)=>.br x2 ( AO (.b1 a1 F8)) ( AO (.b2 a0 a1 F8))))))
 | .b1 a0 a1=>.chk (([a0.BG.Payload]).length==1) ( .bind 62 (UC ([a0.BG.Payload])) (fun(x1:List Int)=>.bind 70 (kZ a0 x1) (fun(x2:BM)=>AA (x2,0))))
 | .b2 a0 a1 a2=>.br (decide ((↑a1.BG.Payload.length:Int)>251)) ( AA (F8,4)) ( .bind 194 (Zm a0) (fun(x1:Int×Int)=>.bind 1356 (Zf a0 x1.1) (fun(y2:Tm)=>.bind 25 (yU a0.Tx (ZmT y2.q0) y2.q1) (fun(x3:Int)=>.chk (([(IntKind.wrap .u8 (a1.BG.Bq))]).length==1) ( .bind 62 (Z1I a0.Key x3 ([(IntKind.wrap .u8 (a1.BG.Bq))]) a1.BG.Payload) (fun(x4:List Int)=>.bind 70 (kZ a1 x4) (fun(x5:BM)=>AA (x5,0))))))))
def kR (a0:C9) (a1:BM):Option (BM×Int):=AV Tt (.b0 a0 a1)
def Z6y:Lay:=⟨[3,4],[KP,KP],[.var k4,.var k4],⟨[PQ 0,PQ 1],[VA 70 5,VA 70 5]⟩⟩
def Z6N:Lay:=⟨[2,3,4],[KP,KP,KP],[.var k7,.var k4,.var k4],⟨[PQ 0,PQ 1,PQ 2],[VA 41 7,VA 70 5,VA 70 5]⟩⟩
def ZlE:Nat->Option Lay
 | 5=>some Z6y
 | 6=>some Z6N
 | _=>none
def ZkI:ZA->Ac U
 | .b0 a0 a1=>Ai Tryz.f65 [41,70] (a0,a1,())
 | .b1 a0 a1=>AA3 Tryz.f65 [1,1,0,1,0,0] Z6y (a0,a1,())
 | .b2 a0 a1 a2=>AA3 Tryz.f65 [1,1,1,0,0] Z6N (a0,a1,a2,())
theorem Zl1:AA1 65 [41,70] 71 (fun x=>kR x.1 x.2.1) rfl:=Aj (mc Z6E (mc Z7 (mc ZkD (mc kW (mc Zkd (mc ZtM (mc ZhO Ag))))))) (hc [] ZjQ Ah) ZlE ZkI Tryz.func65 (fun p=>by cases p<;>kernel_rfl) (by kernel_rfl) fun _=>rfl
inductive xE where
 | b0 (a0 a1 a2:Int)
def Z6e:xE->Tr U (Pv⊕xE)
 | .b0 a0 a1 a2=>.chk (decide (0<=a1)) ( AA (⟨(bits .or .u8 a2 (IntKind.wrap .u8 ((IntKind.wrap .u8 (a0))*2 ^ (min (Int.toNat a1) (IntKind.bits .u8)))))⟩:Pv))
def Vz (a0 a1 a2:Int):Option Pv:=AV Z6e (.b0 a0 a1 a2)
def Z5e:Shape:=⟨[OV 3,OV 3,PQ 0],[.var 5 1 (OV 5)]⟩
def Zg3:Shape:=⟨[],[.var 5 1 (OV 5)]⟩
noncomputable def ZhB:HMod U:=⟨[KP,KP,KP],[.var KP],Z5e,Zg3,false,1357,fun(y:Pv)=>((),((y.q0,()),())),fun x=>Vz x.1.1.1 x.1.2.1.1 x.2.1.1,okS rfl⟩
def Zgy:xE->Ac U
 | .b0 a0 a1 a2=>Fe Tryz.f159 Z5e (((a0,()),((a1,()),((),()))),((a2,()),()))
theorem ZgP:Dv Tryz.prog B0 159 ZhB:=okR Ag Ah AN [] [.var KP] 1 Zgy Tryz.func159 (fun p=>by cases p<;>kernel_rfl) (by kernel_rfl) fun x=>by kernel_rfl
inductive zU where
 | b0 (a0:BM)
def Z6C:zU->Tr U (((List Int)×Int)⊕zU)
 | .b0 a0=>.bind 45 (Tj a0) (fun(x1:Int)=>.br (x1 != 0) ( .chk (([]:List Int).length==0) ( AA (([]:List Int),x1))) ( .bind 1357 (Vz a0.EF (2:Int) (IntKind.wrap .u8 (a0.BG.Bq))) (fun(y2:Pv)=>.bind 1357 (Vz a0.SN (3:Int) y2.q0) (fun(y3:Pv)=>.bind 1357 (Vz a0.MD (4:Int) y3.q0) (fun(y4:Pv)=>.chk (([y4.q0,(IntKind.wrap .u8 ((↑a0.BG.Payload.length:Int)))]).length==2) ( .chk (([[y4.q0,(IntKind.wrap .u8 ((↑a0.BG.Payload.length:Int)))],a0.BG.Payload]).length==2) ( .bind 62 (UC ([[y4.q0,(IntKind.wrap .u8 ((↑a0.BG.Payload.length:Int)))],a0.BG.Payload])) (fun(x5:List Int)=>AA (x5,0)))))))))
def kF (a0:BM):Option ((List Int)×Int):=AV Z6C (.b0 a0)
def ZiP:zU->Ac U
 | .b0 a0=>Ai Tryz.f66 [70] (a0,())
theorem Zjl:AA1 66 [70] 120 (fun x=>kF x.1) rfl:=Aj (mc Z7 (mc kW Ag)) (hc [] ZgP Ah) AN ZiP Tryz.func66 (fun p=>by cases p<;>kernel_rfl) (by kernel_rfl) fun _=>rfl
inductive ZH where
 | b0 (a0:Int)
def Z7s:ZH->Tr U (Int⊕ZH)
 | .b0 a0=>AA (AP ((64:Int)+(if (39:Int)<(if (0:Int)>a0 then (0:Int) else a0) then (39:Int) else (if (0:Int)>a0 then (0:Int) else a0))))
def ZJ (a0:Int):Option Int:=AV Z7s (.b0 a0)
def Zl7:ZH->Ac U
 | .b0 a0=>Ai Tryz.f236 [3] (a0,())
theorem ZkO:AA1 236 [3] 3 (fun x=>ZJ x.1) rfl:=Aj Ag Ah AN Zl7 Tryz.func236 (fun p=>by cases p<;>kernel_rfl) (by kernel_rfl) fun _=>rfl
inductive Z04 where
 | b0 (a0:Int)
def Z82:Z04->Tr U ((Int×Int)⊕Z04)
 | .b0 a0=>.br (decide (a0<64)) ( AA ((0:Int),(AP (a0*2 ^ (1:Nat))))) ( AA ((1:Int),(bits .xor .i64 (bits .and .i64 (AP (a0*2 ^ (1:Nat))) (127:Int)) (17:Int))))
def Z03 (a0:Int):Option (Int×Int):=AV Z82 (.b0 a0)
def Zmh:Z04->Ac U
 | .b0 a0=>Ai Tryz.f237 [3] (a0,())
theorem Zli:AA1 237 [3] 104 (fun x=>Z03 x.1) rfl:=Aj Ag Ah AN Zmh Tryz.func237 (fun p=>by cases p<;>kernel_rfl) (by kernel_rfl) fun _=>rfl
inductive yI where
 | b0 (a0 a1:Int)
 | b1 (a0:Int) (a1:List Int) (a2 a3:Int)
 | b2 (a0:Int) (a1:List Int) (a2 a3 a4 a5:Int)
def Mc:yI->Tr U (TW⊕yI)
 | .b0 a0 a1=>.bind 3 (ZJ a0) (fun(x1:Int)=>.chk (decide (0<=a1/\a1<=a1/\Int.toNat a1*1<=lim/\a1<=(↑maxLen:Int))) ( .chk (kL (List.replicate (Int.toNat a1) (0:Int))) ( .chk (kL (List.replicate (Int.toNat a1) (0:Int))) ( AO (.b1 x1 (List.replicate (Int.toNat a1) (0:Int)) (↑((List.replicate (Int.toNat a1) (0:Int)).length):Int) (0:Int))))))
 | .b1 a0 a1 a2 a3=>.br (decide (a3<a2)) ( .chk (kL a1) ( AO (.b2 a0 a1 a3 a2 a3 (0:Int)))) ( .chk (kL a1) ( AA (⟨a1⟩:TW)))
 | .b2 a0 a1 a2 a3 a4 a5=>.br (decide (a5<8)) ( .bind 104 (Z03 a0) (fun(x1:Int×Int)=>.chk (kL a1) ( .chk (decide (0<=a2/\a2<(↑a1.length:Int))) ( .chk (kL a1) ( .bind 5 (a1[(Int.toNat a2)]?) (fun(x2:Int)=>.chk (decide (0<=a5)) ( .chk (kL a1) ( .chk (decide (0<=a2/\a2<(↑a1.length:Int))) ( .chk (a1.length==a1.length&&decide (0<=(Int.toNat a2))) ( .bind 5 (a1[(Int.toNat a2)]?) (fun(x3:Int)=>.chk ((a1.set (Int.toNat a2) (bits .or .u8 x2 (IntKind.wrap .u8 ((AP (x1.1*2 ^ (min (Int.toNat a5) (IntKind.bits .i64)))))))).length==a1.length) ( AO (.b2 x1.2 (a1.set (Int.toNat a2) (bits .or .u8 x2 (IntKind.wrap .u8 ((AP (x1.1*2 ^ (min (Int.toNat a5) (IntKind.bits .i64)))))))) a2 a3 a4 (AP (a5+1))))))))))))))) ( .chk (kL a1) ( AO (.b1 a0 a1 a3 (AP (a4+1)))))
def y8 (a0 a1:Int):Option TW:=AV Mc (.b0 a0 a1)
def Z5D:Shape:=⟨[OV 3,OV 3],[]⟩
def Zgq:Shape:=⟨[.one (.own 5 0)],[.row 5 true]⟩
noncomputable def ZjA:HMod U:=⟨[KP,KP],[],Z5D,Zgq,true,1358,fun(y:TW)=>(((),()),(y.q0,())),fun x=>y8 x.1.1.1 x.1.2.1.1,okS rfl⟩
def Z5v:Lay:=⟨[5,6,15,16],[KP,[.own 5 1],KP,KP],[.row true],⟨[OV 3,.one (.own 5 0),OV 3,OV 3],[.row 5 true]⟩⟩
def Z5A:Lay:=⟨[5,6,7,15,16,19],[KP,[.own 5 1],KP,KP,KP,KP],[.row true],⟨[OV 3,.one (.own 5 0),OV 3,OV 3,OV 3,OV 3],[.row 5 true]⟩⟩
def ZiW:Nat->Option Lay
 | 4=>some Z5v
 | 7=>some Z5A
 | _=>none
def Zir:yI->Ac U
 | .b0 a0 a1=>Fe Tryz.f160 Z5D (((a0,()),((a1,()),())),())
 | .b1 a0 a1 a2 a3=>AA3 Tryz.f160 [1,1,1,0,1,0,0,0] Z5v (a0,a2,a3,a1,())
 | .b2 a0 a1 a2 a3 a4 a5=>AA3 Tryz.f160 [1,1,1,0,1,0,0,1,1,0,0,1,1,0,0,0] Z5A (a0,a2,a3,a4,a5,a1,())
theorem ZhA:Dv Tryz.prog B0 160 ZjA:=okR (mc ZkO (mc Zli Ag)) Ah ZiW [[.own 5 1]] [.row true] 0 Zir Tryz.func160 (fun p=>by cases p<;>kernel_rfl) (by kernel_rfl) fun x=>by kernel_rfl
inductive ZL where
 | b0 (a0:Int) (a1:List Int)
 | b1 (a0 a1:List Int) (a2 a3:Int)
def Wp:ZL->Tr U ((List Int)⊕ZL)
 | .b0 a0 a1=>.bind 1358 (y8 a0 (↑a1.length:Int)) (fun(y1:TW)=>.chk (kL y1.q0) ( AO (.b1 y1.q0 a1 (↑a1.length:Int) (0:Int))))
 | .b1 a0 a1 a2 a3=>.br (decide (a3<a2)) ( .chk (decide (0<=a3/\a3<(↑a1.length:Int))) ( .bind 5 (a1[(Int.toNat a3)]?) (fun(x1:Int)=>.chk (kL a0) ( .chk (decide (0<=a3/\a3<(↑a0.length:Int))) ( .chk (kL a0) ( .bind 5 (a0[(Int.toNat a3)]?) (fun(x2:Int)=>.chk (kL a0) ( .chk (decide (0<=a3/\a3<(↑a0.length:Int))) ( .chk (a0.length==a0.length&&decide (0<=(Int.toNat a3))) ( .bind 5 (a0[(Int.toNat a3)]?) (fun(x3:Int)=>.chk ((a0.set (Int.toNat a3) (bits .xor .u8 x2 x1)).length==a0.length) ( AO (.b1 (a0.set (Int.toNat a3) (bits .xor .u8 x2 x1)) a1 a2 (AP (a3+1))))))))))))))) ( .chk (kL a0) ( AA a0))
def Zz (a0:Int) (a1:List Int):Option (List Int):=AV Wp (.b0 a0 a1)
def Z6M:Lay:=⟨[5,12,13,14],[[.own 5 1],[.s 5 1],KP,KP],[.row true],⟨[.one (.own 5 0),OV 62,OV 3,OV 3],[.row 5 true]⟩⟩
def Zm4:Nat->Option Lay
 | 3=>some Z6M
 | _=>none
def Zkp:ZL->Ac U
 | .b0 a0 a1=>Ai Tryz.f67 [3,62] (a0,a1,())
 | .b1 a0 a1 a2 a3=>AA3 Tryz.f67 [1,1,0,1,0,0,0] Z6M (a1,a2,a3,a0,())
theorem Zkr:AA1 67 [3,62] 62 (fun x=>Zz x.1 x.2.1) rfl:=Aj Ag (hc [] ZhA Ah) Zm4 Zkp Tryz.func67 (fun p=>by cases p<;>kernel_rfl) (by kernel_rfl) fun _=>rfl
inductive Z1W where
 | b0 (a0 a1:Int)
def ZbD:Z1W->Tr U (Int⊕Z1W)
 | .b0 a0 a1=>.chk (decide (0<=(bits .and .u32 (bits .xor .u32 a0 (IntKind.wrap .u32 (a1))) (15:Int))/\(bits .and .u32 (bits .xor .u32 a0 (IntKind.wrap .u32 (a1))) (15:Int))<16)) ( .bind 22 (([0,1788928,3577856,3003392,7155712,7764992,6006784,4252672,14311424,12659712,15529984,16233472,12013568,11279360,8505344,10126336]:List Int)[(Int.toNat (bits .and .u32 (bits .xor .u32 a0 (IntKind.wrap .u32 (a1))) (15:Int)))]?) (fun(x1:Int)=>.chk (decide (0<=(bits .and .u32 (bits .xor .u32 (bits .xor .u32 (Int.fdiv a0 (2 ^ (4:Nat))) x1) (IntKind.wrap .u32 ((Int.fdiv a1 (2 ^ (4:Nat)))))) (15:Int))/\(bits .and .u32 (bits .xor .u32 (bits .xor .u32 (Int.fdiv a0 (2 ^ (4:Nat))) x1) (IntKind.wrap .u32 ((Int.fdiv a1 (2 ^ (4:Nat)))))) (15:Int))<16)) ( .bind 22 (([0,1788928,3577856,3003392,7155712,7764992,6006784,4252672,14311424,12659712,15529984,16233472,12013568,11279360,8505344,10126336]:List Int)[(Int.toNat (bits .and .u32 (bits .xor .u32 (bits .xor .u32 (Int.fdiv a0 (2 ^ (4:Nat))) x1) (IntKind.wrap .u32 ((Int.fdiv a1 (2 ^ (4:Nat)))))) (15:Int)))]?) (fun(x2:Int)=>AA (bits .xor .u32 (Int.fdiv (bits .xor .u32 (Int.fdiv a0 (2 ^ (4:Nat))) x1) (2 ^ (4:Nat))) x2)))))
def o7 (a0 a1:Int):Option Int:=AV ZbD (.b0 a0 a1)
def Zu0:Z1W->Ac U
 | .b0 a0 a1=>Ai Tryz.f238 [22,5] (a0,a1,())
theorem Zsi:AA1 238 [22,5] 22 (fun x=>o7 x.1 x.2.1) rfl:=Aj Ag Ah AN Zu0 Tryz.func238 (fun p=>by cases p<;>kernel_rfl) (by kernel_rfl) fun _=>rfl
inductive Z2p where
 | b0 (a0:Int) (a1:List Int)
 | b1 (a0:Int) (a1:List Int) (a2 a3:Int)
def dO:Z2p->Tr U (Int⊕Z2p)
 | .b0 a0 a1=>AO (.b1 (bits .and .u32 a0 (16777215:Int)) a1 (↑a1.length:Int) (0:Int))
 | .b1 a0 a1 a2 a3=>.br (decide (a3<a2)) ( .chk (decide (0<=a3/\a3<(↑a1.length:Int))) ( .bind 5 (a1[(Int.toNat a3)]?) (fun(x1:Int)=>.bind 22 (o7 a0 x1) (fun(x2:Int)=>AO (.b1 x2 a1 a2 (AP (a3+1))))))) ( AA a0)
def Z2q (a0:Int) (a1:List Int):Option Int:=AV dO (.b0 a0 a1)
def Zam:Lay:=⟨[5,10,11,12],[KP,[.s 5 1],KP,KP],[],⟨[OV 22,OV 62,OV 3,OV 3],[]⟩⟩
def Zyi:Nat->Option Lay
 | 3=>some Zam
 | _=>none
def Zus:Z2p->Ac U
 | .b0 a0 a1=>Ai Tryz.f161 [22,62] (a0,a1,())
 | .b1 a0 a1 a2 a3=>AA3 Tryz.f161 [1,1,0,1,0,0,0] Zam (a0,a1,a2,a3,())
theorem Zws:AA1 161 [22,62] 22 (fun x=>Z2q x.1 x.2.1) rfl:=Aj (mc Zsi Ag) Ah Zyi Zus Tryz.func161 (fun p=>by cases p<;>kernel_rfl) (by kernel_rfl) fun _=>rfl
inductive Z0G where
 | b0 (a0:Int) (a1:List Int)
def Z9g:Z0G->Tr U ((List Int)⊕Z0G)
 | .b0 a0 a1=>.bind 22 (Z2q a0 a1) (fun(x1:Int)=>.bind 1344 (N9 a1) (fun(y2:RD)=>.chk (([(IntKind.wrap .u8 (x1)),(IntKind.wrap .u8 ((Int.fdiv x1 (2 ^ (8:Nat))))),(IntKind.wrap .u8 ((Int.fdiv x1 (2 ^ (16:Nat)))))]).length==3) ( .chk (kL y2.q0) ( .chk (kA (y2.q0.length+([(IntKind.wrap .u8 (x1)),(IntKind.wrap .u8 ((Int.fdiv x1 (2 ^ (8:Nat))))),(IntKind.wrap .u8 ((Int.fdiv x1 (2 ^ (16:Nat)))))]).length) 1) ( .chk (kL (y2.q0++[(IntKind.wrap .u8 (x1)),(IntKind.wrap .u8 ((Int.fdiv x1 (2 ^ (8:Nat))))),(IntKind.wrap .u8 ((Int.fdiv x1 (2 ^ (16:Nat)))))])) ( AA (y2.q0++[(IntKind.wrap .u8 (x1)),(IntKind.wrap .u8 ((Int.fdiv x1 (2 ^ (8:Nat))))),(IntKind.wrap .u8 ((Int.fdiv x1 (2 ^ (16:Nat)))))])))))))
def mO (a0:Int) (a1:List Int):Option (List Int):=AV Z9g (.b0 a0 a1)
def Zms:Z0G->Ac U
 | .b0 a0 a1=>Ai Tryz.f68 [22,62] (a0,a1,())
theorem ZnJ:AA1 68 [22,62] 62 (fun x=>mO x.1 x.2.1) rfl:=Aj (mc Zws Ag) (hc [] wK Ah) AN Zms Tryz.func68 (fun p=>by cases p<;>kernel_rfl) (by kernel_rfl) fun _=>rfl
inductive Z1s where
 | b0 (a0:A8)
 | b1 (a0 a1:List Aw) (a2 a3:Int) (a4:A8)
def nU:Z1s->Tr U (UL⊕Z1s)
 | .b0 a0=>.chk (decide (0<=(↑a0.BB.Az.length:Int)/\(↑a0.BB.Az.length:Int)<=(↑a0.BB.Az.length:Int)/\Int.toNat (↑a0.BB.Az.length:Int)*32<=lim/\(↑a0.BB.Az.length:Int)<=(↑maxLen:Int))) ( .chk (kL (List.replicate (Int.toNat (↑a0.BB.Az.length:Int)) ((⟨0,[]⟩:Aw):Aw))) ( AO (.b1 (List.replicate (Int.toNat (↑a0.BB.Az.length:Int)) ((⟨0,[]⟩:Aw):Aw)) a0.BB.Az (↑a0.BB.Az.length:Int) (0:Int) a0)))
 | .b1 a0 a1 a2 a3 a4=>.br (decide (a3<a2)) ( .chk (decide (0<=a3/\a3<(↑a1.length:Int))) ( .bind 68 (a1[(Int.toNat a3)]?) (fun(x1:Aw)=>.bind 1344 (N9 x1.Payload) (fun(y2:RD)=>.chk (kL a0) ( .chk (decide (0<=a3/\a3<(↑a0.length:Int))) ( .chk (a0.length==a0.length&&decide (0<=(Int.toNat a3))) ( .bind 68 (a0[(Int.toNat a3)]?) (fun(x3:Aw)=>.chk (kL y2.q0) ( .chk ((a0.set (Int.toNat a3) (⟨x1.Bq,y2.q0⟩:Aw)).length==a0.length) ( AO (.b1 (a0.set (Int.toNat a3) (⟨x1.Bq,y2.q0⟩:Aw)) a1 a2 (AP (a3+1)) a4))))))))))) ( .bind 1345 (Vt a4.Ak.BI) (fun(y4:Qy)=>.bind 1346 (iU a4.Ak.Bz) (fun(y5:Vu)=>.bind 1347 (iY a4.DJ) (fun(y6:Vw)=>.bind 1345 (Vt a4.BA) (fun(y7:Qy)=>.chk (kL a0&&(kL y4.q0&&(kL y5.q0&&(kL y6.q0&&(kL y7.q0&&(([]:List Am).length==0)))))) ( AA (⟨(⟨({ a4 with BB:=({ a4.BB with Az:=a0 }:BU),Ak:=({ a4.Ak with BI:=y4.q0,Bz:=y5.q0 }:Aa),DJ:=y6.q0,BA:=y7.q0 }:A8),([]:List Am)⟩:FO)⟩:UL)))))))
def Z1t (a0:A8):Option UL:=AV nU (.b0 a0)
def Z8c:Shape:=⟨[.agg [.v 44 66 true]],[]⟩
def ZlR:Shape:=⟨[PQ 0],[.var 118 67 (ag3 1),.row 68 true,.row 156 true,.row 138 true,.row 99 true,.row 156 true,.row 148 true]⟩
noncomputable def Zsv:HMod U:=⟨[k2],[],Z8c,ZlR,true,1353,fun(y:UL)=>(((),()),((y.q0.Link.Bl,(y.q0.Link.Ce,(y.q0.Link.Clock,(y.q0.Link.Event,(y.q0.Link.Last,(y.q0.Link.Ed,(y.q0.Link.Size,(y.q0.Link.Sync,(y.q0.Link.JR,(y.q0.Link.Hw,(y.q0.Link.J6,(y.q0.Link.Good,(y.q0.Link.Fp,(y.q0.Link.More,(y.q0.Link.BB.SN,(y.q0.Link.BB.EF,(y.q0.Link.BB.Open,(y.q0.Link.BB.Empty,(y.q0.Link.BB.Fp,(y.q0.Link.BB.Taken,(y.q0.Link.GM,(y.q0.Link.Ak.Bl,(y.q0.Link.Ak.Own,(y.q0.Link.Ak.Since,(y.q0.Link.Ak.Other,(y.q0.Link.Ak.Ir,(y.q0.Link.Ak.Told,(y.q0.Link.Ak.CQ,(y.q0.Link.Ak.MB,(y.q0.Link.Ak.Hl,(y.q0.Link.Ak.JK,(y.q0.Link.Ak.Version,(y.q0.Link.Ak.Length,(y.q0.Link.Ak.Limit,(y.q0.Link.Ak.Bo,(y.q0.Link.Ak.JW,(y.q0.Link.Ak.Mark,(y.q0.Link.Ak.EI,(y.q0.Link.Ak.GR,(y.q0.Link.ED,(y.q0.Link.Key,(y.q0.Link.Bc,(y.q0.Link.I4,()))))))))))))))))))))))))))))))))))))))))))),(y.q0.Link.BB.Az,(y.q0.Link.Ak.BI,(y.q0.Link.Ak.Bz,(y.q0.Link.DJ,(y.q0.Link.BA,(y.q0.Dt,())))))))),fun x=>Z1t x.1.1.1,okS rfl⟩
def Z8t:Lay:=⟨[1,3,13,14,15],[KP,[.own 68 2],[.s 68 2],KP,KP],[.var k2,.row true],⟨[PQ 0,.one (.own 68 1),OV 31,OV 3,OV 3],[VA 44 66,.row 68 true]⟩⟩
def ZtS:Nat->Option Lay
 | 3=>some Z8t
 | _=>none
def ZoK:Z1s->Ac U
 | .b0 a0=>Fe Tryz.f62 Z8c (((a0,()),()),())
 | .b1 a0 a1 a2 a3 a4=>AA3 Tryz.f62 [1,1,0,1,0,0,0] Z8t (a1,a2,a3,a4,a0,())
theorem Zoz:Dv Tryz.prog B0 62 Zsv:=okR Ag (hc [] wK (hc [] ZfS (hc [] ZfW (hc [] Zg6 Ah)))) ZtS [KP] [.var k14,.row true,.row true,.row true,.row true,.row true,.row true] 0 ZoK Tryz.func62 (fun p=>by cases p<;>kernel_rfl) (by kernel_rfl) fun x=>by kernel_rfl
inductive yJ where
 | b0 (a0:Aa)
def Z6u:yJ->Tr U (Bool⊕yJ)
 | .b0 a0=>.br (a0.EI==1) ( AA true) ( .br (a0.EI==2) ( AA true) ( AA (a0.EI==3)))
def zB (a0:Aa):Option Bool:=AV Z6u (.b0 a0)
def Zhx:yJ->Ac U
 | .b0 a0=>Ai Tryz.f149 [39] (a0,())
theorem Zia:AA1 149 [39] 4 (fun x=>zB x.1) rfl:=Aj Ag Ah AN Zhx Tryz.func149 (fun p=>by cases p<;>kernel_rfl) (by kernel_rfl) fun _=>rfl
inductive ZT where
 | b0 (a0:Int)
def Z8L:ZT->Tr U (Bool⊕ZT)
 | .b0 a0=>.br (a0==3) ( .br (a0==3) ( AA true) ( AA false)) ( .br (a0==4) ( .br (a0==4) ( AA true) ( AA false)) ( .br (a0==5) ( .br (a0==5) ( AA true) ( AA false)) ( .br (a0==6) ( .br (a0==6) ( AA true) ( AA false)) ( .br (a0==13) ( AA true) ( AA false)))))
def Z01 (a0:Int):Option Bool:=AV Z8L (.b0 a0)
def Zlt:ZT->Ac U
 | .b0 a0=>Ai Tryz.f150 [3] (a0,())
theorem ZlF:AA1 150 [3] 4 (fun x=>Z01 x.1) rfl:=Aj Ag Ah AN Zlt Tryz.func150 (fun p=>by cases p<;>kernel_rfl) (by kernel_rfl) fun _=>rfl
end
end Go.Proofs.YtjodhcdmhobmoaaGreatDoor
namespace Go.Proofs.YtjodhcdmhobmoaaGreatDoor
open Go Go.RowKit Go.Maps Go.MapKept Go.ChangeMaps
attribute [local go_sem] Oper.semAt_some
set_option maxRecDepth 100000
theorem hao (w:World) (o:Obj) (i:Nat) (h:i<w.heap.size):(w.alloc o).heap[i]? = w.heap[i]?:=by
 show (w.heap.push o)[i]? = w.heap[i]?
 rw [Array.getElem?_push,if_neg (Nat.ne_of_lt h)]
theorem ZAY (F:Fence) (n:Nat) (h:F.fn 289) (hro:F.round=none) (W:World):CallsIn F n Tryz.prog 289 #[] W fun e W' =>e = .returned (.agg #[.slice none 0 0,.func (.func 348) #[] #[],.func (.func 349) #[] #[],.func (.func 309) #[] #[]])/\W' = W.alloc (.cells #[.slice none 0 0,.func (.func 348) #[] #[],.func (.func 349) #[] #[],.func (.func 309) #[] #[]] 248):=by
 refine callsIn_of_wp Tryz.func289 rfl h ?_ hro
 simp only [Tryz.ntmps289,List.size_toArray,List.length_cons,List.length_nil,Nat.reduceAdd,Nat.reduceSub,Array.replicate_succ,Array.replicate_zero,List.push_toArray,List.append_toArray,List.nil_append,List.cons_append]
 gi_wp2
 exact bodyPost_ret (results_cell_row rfl _ _ W.heap.size 248 _ _ _ rfl (heap_alloc_new _ _) (by rfl) rfl (by rfl)) rfl ⟨rfl,rfl⟩
theorem ZDs (F:Fence) (n:Nat) (h:F.fn 290) (hro:F.round=none) (W:World):CallsIn F n Tryz.prog 290 #[] W fun e W' =>e = .returned (.agg #[.slice (some ⟨W.heap.size+1,0,none⟩) 1 1,.func (.func 350) #[] #[],.func (.func 351) #[] #[],.func (.func 309) #[] #[]])/\W' = (W.alloc (.cells #[.slice (some ⟨W.heap.size+1,0,none⟩) 1 1,.func (.func 350) #[] #[],.func (.func 351) #[] #[],.func (.func 309) #[] #[]] 248)).alloc (.cells #[.int .i64 8] 3):=by
 refine callsIn_of_wp Tryz.func290 rfl h ?_ hro
 simp only [Tryz.ntmps290,List.size_toArray,List.length_cons,List.length_nil,Nat.reduceAdd,Nat.reduceSub,Array.replicate_succ,Array.replicate_zero,List.push_toArray,List.append_toArray,List.nil_append,List.cons_append]
 gi_wp2
 exact bodyPost_ret (results_cell_row rfl _ _ W.heap.size 248 _ _ _ rfl ((hao _ _ _ (by simp)).trans (heap_alloc_new _ _)) (by rfl) rfl (by rfl)) rfl ⟨rfl,rfl⟩
theorem ZD3 (F:Fence) (n:Nat) (h:F.fn 291) (hro:F.round=none) (W:World):CallsIn F n Tryz.prog 291 #[] W fun e W' =>e = .returned (.agg #[.slice (some ⟨W.heap.size+1,0,none⟩) 1 1,.func (.func 352) #[] #[],.func (.func 353) #[] #[],.func (.func 354) #[] #[]])/\W' = (W.alloc (.cells #[.slice (some ⟨W.heap.size+1,0,none⟩) 1 1,.func (.func 352) #[] #[],.func (.func 353) #[] #[],.func (.func 354) #[] #[]] 248)).alloc (.cells #[.int .i64 1] 3):=by
 refine callsIn_of_wp Tryz.func291 rfl h ?_ hro
 simp only [Tryz.ntmps291,List.size_toArray,List.length_cons,List.length_nil,Nat.reduceAdd,Nat.reduceSub,Array.replicate_succ,Array.replicate_zero,List.push_toArray,List.append_toArray,List.nil_append,List.cons_append]
 gi_wp2
 exact bodyPost_ret (results_cell_row rfl _ _ W.heap.size 248 _ _ _ rfl ((hao _ _ _ (by simp)).trans (heap_alloc_new _ _)) (by rfl) rfl (by rfl)) rfl ⟨rfl,rfl⟩
def MA (w:World) (b:Nat) (L:List (Int×Value)):Prop:=∃es c,w.heap[b]? = some (.map es c)/\es.toList.map (fun x=>(x.key,x.val))=L.map fun p=>(Value.int .i64 p.1,p.2)
theorem MA.put {P:Program} {w:World} {b:Nat} {L:List (Int×Value)} (h:MA w b L) (K:Keyed P 3) {t e:TypeId} (ht:P.underlying t=some (.map 3 e)) (k:Int) (v:Value) (hk:keyOf P 3 (.int .i64 k)=some (.int .i64 k)) (hnew:L.all (fun p=>p.1 != k)=true) (hK:∀p∈L,keyOf P 3 (.int .i64 p.1)=some (.int .i64 p.1)) :
  ∃w',(Instr.mapUpdate t (.map (some b)) (.int .i64 k) v).run P w = .ok () w' /\ MA w' b (L++[(k,v)])/\w.grownBy w' (some b):=by
 obtain⟨es,c,hb,he⟩:=h
 have hin:∀x∈es.toList,∃p∈L,x.key = .int .i64 p.1:=fun x hx=>by
  have h1:(x.key,x.val)∈es.toList.map (fun x=>(x.key,x.val)):=List.mem_map.2 ⟨x,hx,rfl⟩
  rw [he] at h1
  obtain⟨p,hp,hq⟩:=List.mem_map.1 h1
  exact⟨p,hp,(congrArg Prod.fst hq).symm⟩
 have hg:∀o:Obj,w.grownBy (setBlock w b o) (some b):=fun o=>⟨rfl,rfl,rfl,by simp [setBlock],fun i _ hi=>heap_setBlock_other hb _ (fun e=>hi (by rw [e]))⟩
 rcases K.find w hk es.toList (fun x hx=>by obtain⟨p,hp,hq⟩:=hin x hx;exact⟨_,by rw [hq];exact hK p hp⟩) with ⟨g1,g2⟩|⟨j,e0,g1,g2,g3⟩
 ·refine⟨setBlock w b (.map (es.push ⟨.int .i64 k,v,c⟩) (c+1)),?_,⟨_,_,heap_setBlock_same hb _,?_⟩,hg _⟩
  ·simp [Instr.mapUpdate,run_underlying ht,MapKept.run_getObj_map hb,K.check w false hk,g1,MapKept.run_setObj_map _ hb,Result.andThen,setBlock]
  ·rw [Array.toList_push,List.map_append,he,List.map_append]
   rfl
 ·exfalso
  obtain⟨p,hp,hq⟩:=hin e0 (List.mem_of_getElem? g2)
  have:=List.all_eq_true.1 hnew p hp
  rw [g3] at hq
  injection hq with _ h2
  rw [h2] at this
  simp at this
structure FS (w0 w:World) (L:List (Int×Value)) (R:List (Nat×Array Value)):Prop where
 map:MA w w0.heap.size L
 rows:∀p∈R,w0.heap.size<p.1/\w.heap[p.1]? = some (.cells p.2 3)
 below:Below w0.heap.size w0 w
 sz:w0.heap.size<w.heap.size
theorem FS.start (w:World):FS w (w.alloc (.map #[] 0)) [] []:=
 ⟨⟨#[],0,(MapKept.heap_alloc w _).1,rfl⟩,by simp,(Below.refl _ _).alloc (Nat.le_refl _) _,by simp⟩
theorem FS.cells {w0 w:World} {L R} (h:FS w0 w L R) (cs:Array Value) (t:TypeId):FS w0 (w.alloc (.cells cs t)) L R:=by
 obtain⟨⟨es,c,hb,he⟩,h2,h3,h4⟩:=h
 refine⟨⟨es,c,(hao _ _ _ h4).trans hb,he⟩,fun p hp=>⟨(h2 p hp).1,(hao _ _ _ ?_).trans (h2 p hp).2⟩,h3.alloc (Nat.le_of_lt h4) _,by simp;omega⟩
 have:=(h2 p hp).2
 exact(Array.getElem?_eq_some_iff.1 this).1
theorem FS.row {w0 w:World} {L R} (h:FS w0 w L R) (cs:Array Value):FS w0 (w.alloc (.cells cs 3)) L ((w.heap.size,cs)::R):=by
 have h1:=h.cells cs 3
 refine⟨h1.map,fun p hp=>?_,h1.below,h1.sz⟩
 rcases List.mem_cons.1 hp with rfl|hp
 ·exact⟨h.sz,heap_alloc_new _ _⟩
 ·exact h1.rows p hp
theorem FS.rowA {w0 w:World} {L R} (h:FS w0 w L R) (cs:Array Value) (a:Nat) (ha:a=w.heap.size):FS w0 (w.alloc (.cells cs 3)) L ((a,cs)::R):=ha▸h.row cs
theorem FS.put {w0 w:World} {L R} (h:FS w0 w L R) (k:Int) (v:Value) (hk:(Lit.int .i64 k).wf=true) (hnew:L.all (fun p=>p.1 != k)=true) (hK:L.all (fun p=>(Lit.int .i64 p.1).wf)=true) :
  ∃w',(Instr.mapUpdate 249 (.map (some w0.heap.size)) (.int .i64 k) v).run Tryz.prog w = .ok () w' /\ FS w0 w' (L++[(k,v)]) R:=by
 have h3:Tryz.prog.underlying 3=some (.int .i64):=by rfl
 obtain⟨w',h1,h2,hg⟩:=h.map.put (int_keyed h3) (t:=249) (e:=248) (by rfl) k v (keyOf_int_mk h3 hk) hnew (fun p hp=>keyOf_int_mk h3 (List.all_eq_true.1 hK p hp))
 have hsz:=hg.size
 refine⟨w',h1,h2,fun p hp=>⟨(h.rows p hp).1,?_⟩,h.below.grown hg h.below.size (fun k e=>by cases e;exact Nat.le_refl _),by have:=h.sz;omega⟩
 have hr:=(h.rows p hp).2
 obtain⟨_,_,_,_,hg5⟩:=hg
 exact(hg5 p.1 (Array.getElem?_eq_some_iff.1 hr).1 (fun e=>by have:=(h.rows p hp).1;injection e with e;omega)).trans hr
def frmL (a1 a2 a3 a4 a5 a6 a7 a8 a9 a10 a11 a12 a13:Nat):List (Int×Value):=[(5,.agg #[.slice none 0 0,.func (.func 348) #[] #[],.func (.func 349) #[] #[],.func (.func 309) #[] #[]]),
 (6,.agg #[.slice none 0 0,.func (.func 348) #[] #[],.func (.func 349) #[] #[],.func (.func 309) #[] #[]]),
 (18,.agg #[.slice none 0 0,.func (.func 348) #[] #[],.func (.func 349) #[] #[],.func (.func 309) #[] #[]]),
 (19,.agg #[.slice none 0 0,.func (.func 348) #[] #[],.func (.func 349) #[] #[],.func (.func 309) #[] #[]]),
 (8,.agg #[.slice (some ⟨a1,0,none⟩) 1 1,.func (.func 350) #[] #[],.func (.func 351) #[] #[],.func (.func 309) #[] #[]]),
 (9,.agg #[.slice (some ⟨a2,0,none⟩) 1 1,.func (.func 350) #[] #[],.func (.func 351) #[] #[],.func (.func 309) #[] #[]]),
 (20,.agg #[.slice (some ⟨a3,0,none⟩) 1 1,.func (.func 352) #[] #[],.func (.func 353) #[] #[],.func (.func 354) #[] #[]]),
 (21,.agg #[.slice (some ⟨a4,0,none⟩) 1 1,.func (.func 352) #[] #[],.func (.func 353) #[] #[],.func (.func 354) #[] #[]]),
 (0,.agg #[.slice (some ⟨a5,0,none⟩) 6 6,.func (.func 292) #[] #[],.func (.func 294) #[] #[],.func (.func 296) #[] #[]]),
 (1,.agg #[.slice (some ⟨a6,0,none⟩) 2 2,.func (.func 297) #[] #[],.func (.func 298) #[] #[],.func (.func 299) #[] #[]]),
 (15,.agg #[.slice (some ⟨a7,0,none⟩) 5 5,.func (.func 300) #[] #[],.func (.func 301) #[] #[],.func (.func 302) #[] #[]]),
 (2,.agg #[.slice (some ⟨a8,0,none⟩) 1 1,.func (.func 303) #[] #[],.func (.func 304) #[] #[],.func (.func 305) #[] #[]]),
 (3,.agg #[.slice (some ⟨a9,0,none⟩) 2 2,.func (.func 307) #[] #[],.func (.func 308) #[] #[],.func (.func 309) #[] #[]]),
 (4,.agg #[.slice (some ⟨a10,0,none⟩) 1 1,.func (.func 310) #[] #[],.func (.func 311) #[] #[],.func (.func 309) #[] #[]]),
 (7,.agg #[.slice (some ⟨a11,0,none⟩) 1 1,.func (.func 312) #[] #[],.func (.func 313) #[] #[],.func (.func 314) #[] #[]]),
 (12,.agg #[.slice (some ⟨a12,0,none⟩) 1 1,.func (.func 315) #[] #[],.func (.func 316) #[] #[],.func (.func 317) #[] #[]]),
 (13,.agg #[.slice (some ⟨a13,0,none⟩) 2 2,.func (.func 318) #[] #[],.func (.func 319) #[] #[],.func (.func 320) #[] #[]])]
def Jr (a1 a2 a3 a4 a5 a6 a7 a8 a9 a10 a11 a12 a13:Nat):List (Nat×Array Value):=[(a13,#[.int .i64 1,.int .i64 1]),(a12,#[.int .i64 1]),(a11,#[.int .i64 1]),(a10,#[.int .i64 8]),(a9,#[.int .i64 8,.int .i64 8]),(a8,#[.int .i64 1]),(a7,#[.int .i64 1,.int .i64 2,.int .i64 2,.int .i64 2,.int .i64 2]),(a6,#[.int .i64 5,.int .i64 2]),(a5,#[.int .i64 1,.int .i64 2,.int .i64 2,.int .i64 2,.int .i64 2,.int .i64 2]),(a4,#[.int .i64 1]),(a3,#[.int .i64 1]),(a2,#[.int .i64 8]),(a1,#[.int .i64 8])]
set_option maxHeartbeats 4000000 in
theorem ZAV (F:Fence) (n:Nat) (h9:F.fn 289) (h0:F.fn 290) (h1:F.fn 291) (h:F.fn 229) (hro:F.round=none) (hn:1<=n) (w:World):CallsIn F n Tryz.prog 229 #[] w fun e W' =>e = .returned (.map (some w.heap.size))/\∃a1 a2 a3 a4 a5 a6 a7 a8 a9 a10 a11 a12 a13,FS w W' (frmL a1 a2 a3 a4 a5 a6 a7 a8 a9 a10 a11 a12 a13) (Jr a1 a2 a3 a4 a5 a6 a7 a8 a9 a10 a11 a12 a13):=by
 have hmm:=@run_makeMap Tryz.prog
 have G0:=FS.start w
 have H1:=G0.cells #[.slice none 0 0,.func (.func 348) #[] #[],.func (.func 349) #[] #[],.func (.func 309) #[] #[]] 248
 obtain⟨w1,u1,G1⟩:=H1.put 5 (.agg #[.slice none 0 0,.func (.func 348) #[] #[],.func (.func 349) #[] #[],.func (.func 309) #[] #[]]) (by decide) rfl rfl
 have H2:=G1.cells #[.slice none 0 0,.func (.func 348) #[] #[],.func (.func 349) #[] #[],.func (.func 309) #[] #[]] 248
 obtain⟨w2,u2,G2⟩:=H2.put 6 (.agg #[.slice none 0 0,.func (.func 348) #[] #[],.func (.func 349) #[] #[],.func (.func 309) #[] #[]]) (by decide) rfl rfl
 have H3:=G2.cells #[.slice none 0 0,.func (.func 348) #[] #[],.func (.func 349) #[] #[],.func (.func 309) #[] #[]] 248
 obtain⟨w3,u3,G3⟩:=H3.put 18 (.agg #[.slice none 0 0,.func (.func 348) #[] #[],.func (.func 349) #[] #[],.func (.func 309) #[] #[]]) (by decide) rfl rfl
 have H4:=G3.cells #[.slice none 0 0,.func (.func 348) #[] #[],.func (.func 349) #[] #[],.func (.func 309) #[] #[]] 248
 obtain⟨w4,u4,G4⟩:=H4.put 19 (.agg #[.slice none 0 0,.func (.func 348) #[] #[],.func (.func 349) #[] #[],.func (.func 309) #[] #[]]) (by decide) rfl rfl
 have H5:=(G4.cells #[.slice (some ⟨w4.heap.size+1,0,none⟩) 1 1,.func (.func 350) #[] #[],.func (.func 351) #[] #[],.func (.func 309) #[] #[]] 248).rowA #[.int .i64 8] (w4.heap.size+1) (by simp)
 obtain⟨w5,u5,G5⟩:=H5.put 8 (.agg #[.slice (some ⟨w4.heap.size+1,0,none⟩) 1 1,.func (.func 350) #[] #[],.func (.func 351) #[] #[],.func (.func 309) #[] #[]]) (by decide) rfl rfl
 have H6:=(G5.cells #[.slice (some ⟨w5.heap.size+1,0,none⟩) 1 1,.func (.func 350) #[] #[],.func (.func 351) #[] #[],.func (.func 309) #[] #[]] 248).rowA #[.int .i64 8] (w5.heap.size+1) (by simp)
 obtain⟨w6,u6,G6⟩:=H6.put 9 (.agg #[.slice (some ⟨w5.heap.size+1,0,none⟩) 1 1,.func (.func 350) #[] #[],.func (.func 351) #[] #[],.func (.func 309) #[] #[]]) (by decide) rfl rfl
 have H7:=(G6.cells #[.slice (some ⟨w6.heap.size+1,0,none⟩) 1 1,.func (.func 352) #[] #[],.func (.func 353) #[] #[],.func (.func 354) #[] #[]] 248).rowA #[.int .i64 1] (w6.heap.size+1) (by simp)
 obtain⟨w7,u7,G7⟩:=H7.put 20 (.agg #[.slice (some ⟨w6.heap.size+1,0,none⟩) 1 1,.func (.func 352) #[] #[],.func (.func 353) #[] #[],.func (.func 354) #[] #[]]) (by decide) rfl rfl
 have H8:=(G7.cells #[.slice (some ⟨w7.heap.size+1,0,none⟩) 1 1,.func (.func 352) #[] #[],.func (.func 353) #[] #[],.func (.func 354) #[] #[]] 248).rowA #[.int .i64 1] (w7.heap.size+1) (by simp)
 obtain⟨w8,u8,G8⟩:=H8.put 21 (.agg #[.slice (some ⟨w7.heap.size+1,0,none⟩) 1 1,.func (.func 352) #[] #[],.func (.func 353) #[] #[],.func (.func 354) #[] #[]]) (by decide) rfl rfl
 have H9:=G8.row #[.int .i64 1,.int .i64 2,.int .i64 2,.int .i64 2,.int .i64 2,.int .i64 2]
 obtain⟨w9,u9,G9⟩:=H9.put 0 (.agg #[.slice (some ⟨w8.heap.size,0,none⟩) 6 6,.func (.func 292) #[] #[],.func (.func 294) #[] #[],.func (.func 296) #[] #[]]) (by decide) rfl rfl
 have H10:=G9.row #[.int .i64 5,.int .i64 2]
 obtain⟨w10,u10,G10⟩:=H10.put 1 (.agg #[.slice (some ⟨w9.heap.size,0,none⟩) 2 2,.func (.func 297) #[] #[],.func (.func 298) #[] #[],.func (.func 299) #[] #[]]) (by decide) rfl rfl
 have H11:=G10.row #[.int .i64 1,.int .i64 2,.int .i64 2,.int .i64 2,.int .i64 2]
 obtain⟨w11,u11,G11⟩:=H11.put 15 (.agg #[.slice (some ⟨w10.heap.size,0,none⟩) 5 5,.func (.func 300) #[] #[],.func (.func 301) #[] #[],.func (.func 302) #[] #[]]) (by decide) rfl rfl
 have H12:=G11.row #[.int .i64 1]
 obtain⟨w12,u12,G12⟩:=H12.put 2 (.agg #[.slice (some ⟨w11.heap.size,0,none⟩) 1 1,.func (.func 303) #[] #[],.func (.func 304) #[] #[],.func (.func 305) #[] #[]]) (by decide) rfl rfl
 have H13:=G12.row #[.int .i64 8,.int .i64 8]
 obtain⟨w13,u13,G13⟩:=H13.put 3 (.agg #[.slice (some ⟨w12.heap.size,0,none⟩) 2 2,.func (.func 307) #[] #[],.func (.func 308) #[] #[],.func (.func 309) #[] #[]]) (by decide) rfl rfl
 have H14:=G13.row #[.int .i64 8]
 obtain⟨w14,u14,G14⟩:=H14.put 4 (.agg #[.slice (some ⟨w13.heap.size,0,none⟩) 1 1,.func (.func 310) #[] #[],.func (.func 311) #[] #[],.func (.func 309) #[] #[]]) (by decide) rfl rfl
 have H15:=G14.row #[.int .i64 1]
 obtain⟨w15,u15,G15⟩:=H15.put 7 (.agg #[.slice (some ⟨w14.heap.size,0,none⟩) 1 1,.func (.func 312) #[] #[],.func (.func 313) #[] #[],.func (.func 314) #[] #[]]) (by decide) rfl rfl
 have H16:=G15.row #[.int .i64 1]
 obtain⟨w16,u16,G16⟩:=H16.put 12 (.agg #[.slice (some ⟨w15.heap.size,0,none⟩) 1 1,.func (.func 315) #[] #[],.func (.func 316) #[] #[],.func (.func 317) #[] #[]]) (by decide) rfl rfl
 have H17:=G16.row #[.int .i64 1,.int .i64 1]
 obtain⟨w17,u17,G17⟩:=H17.put 13 (.agg #[.slice (some ⟨w16.heap.size,0,none⟩) 2 2,.func (.func 318) #[] #[],.func (.func 319) #[] #[],.func (.func 320) #[] #[]]) (by decide) rfl rfl
 refine callsIn_of_wp Tryz.func229 rfl h ?_ hro
 simp only [Tryz.ntmps229,List.size_toArray,List.length_cons,List.length_nil,Nat.reduceAdd,Nat.reduceSub,Array.replicate_succ,Array.replicate_zero,List.push_toArray,List.append_toArray,List.nil_append,List.cons_append]
 gi_wp2_with (first|(gi_at_call 289;refine(ZAY F (n - 1) h9 hro _).mono ?_;rintro e w' ⟨rfl,rfl⟩)|(gi_at_call 290;refine(ZDs F (n - 1) h0 hro _).mono ?_;rintro e w' ⟨rfl,rfl⟩)|(gi_at_call 291;refine(ZD3 F (n - 1) h1 hro _).mono ?_;rintro e w' ⟨rfl,rfl⟩))
 exact bodyPost_ret (results_tmp rfl _ _ _) rfl ⟨rfl,w4.heap.size+1,w5.heap.size+1,w6.heap.size+1,w7.heap.size+1,w8.heap.size,w9.heap.size,w10.heap.size,w11.heap.size,w12.heap.size,w13.heap.size,w14.heap.size,w15.heap.size,w16.heap.size,G17⟩
open Go.Proofs.YtjodhcdmhobmoaaGreatDoor.Le
theorem KQ {w0 w:World} {L R} (h:FS w0 w L R) (fz:Nat->Nat->Prop) {a:Nat} (xs:List Int) (hp:(a,(xs.map (Value.int .i64 ·)).toArray)∈R) (hw:xs.all (fun x=>(Lit.int .i64 x).wf)=true) (hl:xs.length<=100) :
  AQ (bare (fun b c=>fz b c\/(w0.heap.size<b/\∃u,w.cell? ⟨b,c,none⟩=some u))) w [.sl false 1 (xs.map fun x=>.lit (.int .i64 x))] [.slice (some ⟨a,0,none⟩) xs.length xs.length]:=by
 obtain⟨h1,h2⟩:=h.rows _ hp
 have hus:∀ys:List Int,ys.all (fun x=>(Lit.int .i64 x).wf)=true->AQ (bare (fun b c=>fz b c\/(w0.heap.size<b/\∃u,w.cell? ⟨b,c,none⟩=some u))) w (ys.map fun x=>.lit (.int .i64 x)) (ys.map (Value.int .i64 ·)):=by
  intro ys
  induction ys with
  | nil=>intro _;exact .nil
  | cons y ys ih=>
   intro hy
   simp only [List.all_cons,Bool.and_eq_true] at hy
   exact .lit hy.1 (ih hy.2)
 have hfl:∀ys:List Int,flat (ys.map (Value.int .i64 ·))=ys.map (Value.int .i64 ·):=by
  intro ys
  induction ys with
  | nil=>rfl
  | cons y ys ih=>
   show [Value.int .i64 y]++flat (ys.map (Value.int .i64 ·))=_
   rw [ih]
   rfl
 have hc:∀j,w.cell? ⟨a,j,none⟩=(xs.map (Value.int .i64 ·)).toArray[j]?:=fun j=>cell_of_row w a j _ 3 _ h2
 have:=AQ.sl (xs:=[]) (vs:=[]) a 0 xs.length 1 (hus xs hw) (by intro x hx;obtain⟨n,_,rfl⟩:=List.mem_map.1 hx;rfl) (by intro u hu;obtain⟨n,_,rfl⟩:=List.mem_map.1 hu;rfl)
  (by rw [hfl];intro u hu;obtain⟨n,_,rfl⟩:=List.mem_map.1 hu;rfl) (by simp) (by rw [show maxLen=9223372036854775807 from rfl];omega)
  (by
   intro j u hj
   rw [hfl] at hj
   have e:w.cell? ⟨a,0+j,none⟩=some u:=by rw [Nat.zero_add,hc];simpa using hj
   exact⟨.inr ⟨h1,u,e⟩,e⟩) .nil
 rw [List.length_map] at this
 exact this
theorem I9 {σ:Sg} {w:World} {k:Int} {xs:List Int} {sv:Value} {a b c:Nat} {r:List V} {vr:List Value} (hk:(Lit.int .i64 k).wf=true) (hs:AQ σ w [.sl false 1 (xs.map fun x=>.lit (.int .i64 x))] [sv]) (ho:sv.oneCell' = true) (h:AQ σ w r vr) :
  AQ σ w (.lit (.int .i64 k) :: .agg [.sl false 1 (xs.map fun x=>.lit (.int .i64 x)),.fn a [] [],.fn b [] [],.fn c [] []]::r) (.int .i64 k :: .agg #[sv,.func (.func a) #[] #[],.func (.func b) #[] #[],.func (.func c) #[] #[]]::vr):=
 .lit hk (.agg (ws:=[sv,.func (.func a) #[] #[],.func (.func b) #[] #[],.func (.func c) #[] #[]]) (AQ.FH.2 ⟨hs,.fn (us:=[]) (ws:=[]) .nil .nil (.fn (us:=[]) (ws:=[]) .nil .nil (.fn (us:=[]) (ws:=[]) .nil .nil .nil))⟩) (by intro u hu;simp only [List.mem_cons,List.not_mem_nil,or_false] at hu;rcases hu with rfl|rfl|rfl|rfl<;>first|exact ho|rfl) h)
noncomputable def Gw:Option Unit:=some ()
noncomputable def ZkX:Af U:={ ts:=[],rt:=249,fn:=fun _=>Gw,ok:=by decide }
theorem Z6A:AA0 229 ZkX:=by
 refine⟨⟨Tryz.f229,Tryz.func229,by kernel_rfl,by kernel_rfl⟩,?_⟩
 rintro x a ha fz w vs hcells hg hr
 cases ha
 cases hr.FM
 refine(callsIn_wide.1 (ZAV Fence.wide 3 trivial trivial trivial trivial rfl (by omega) w)).mono ?_
 rintro e w' ⟨rfl,a1,a2,a3,a4,a5,a6,a7,a8,a9,a10,a11,a12,a13,h⟩
 refine⟨_,fun b c=>fz b c\/(w.heap.size<b/\∃u,w'.cell? ⟨b,c,none⟩=some u),rfl,h.below,fun _ _ h=>.inl h,fun b c h hb=>h.elim id (fun h=>absurd hb (by omega)),fun b c hq=>?_,?_,rfl⟩
 ·rcases hq with hq|⟨_,hq⟩
  ·obtain⟨u,hu⟩:=hcells b c hq
   exact⟨u,(h.below.cell (p:=⟨b,c,none⟩) (cell_lt hu)).trans hu⟩
  ·exact hq
 ·obtain⟨es,c,hb,he⟩:=h.map
  have hus:(frmL a1 a2 a3 a4 a5 a6 a7 a8 a9 a10 a11 a12 a13).flatMap (fun p=>[Value.int .i64 p.1,p.2])=es.toList.flatMap (fun e=>[e.key,e.val]):=by
   have h1:(es.toList.map fun x=>(x.key,x.val)).flatMap (fun q:Value×Value=>[q.1,q.2])=es.toList.flatMap (fun e=>[e.key,e.val]):=by rw [List.flatMap_map]
   rw [<- h1,he,List.flatMap_map]
  refine .GV w.heap.size es c (us:=(frmL a1 a2 a3 a4 a5 a6 a7 a8 a9 a10 a11 a12 a13).flatMap (fun p=>[Value.int .i64 p.1,p.2])) ?_ hb hus .nil
  exact I9 (xs:=[]) (by decide) (.EW .nil) rfl (I9 (xs:=[]) (by decide) (.EW .nil) rfl (I9 (xs:=[]) (by decide) (.EW .nil) rfl (I9 (xs:=[]) (by decide) (.EW .nil) rfl (I9 (xs:=[8]) (by decide) (KQ h fz [8] (by simp [Jr]) (by decide) (by decide)) rfl (I9 (xs:=[8]) (by decide) (KQ h fz [8] (by simp [Jr]) (by decide) (by decide)) rfl (I9 (xs:=[1]) (by decide) (KQ h fz [1] (by simp [Jr]) (by decide) (by decide)) rfl (I9 (xs:=[1]) (by decide) (KQ h fz [1] (by simp [Jr]) (by decide) (by decide)) rfl (I9 (xs:=[1,2,2,2,2,2]) (by decide) (KQ h fz [1,2,2,2,2,2] (by simp [Jr]) (by decide) (by decide)) rfl (I9 (xs:=[5,2]) (by decide) (KQ h fz [5,2] (by simp [Jr]) (by decide) (by decide)) rfl (I9 (xs:=[1,2,2,2,2]) (by decide) (KQ h fz [1,2,2,2,2] (by simp [Jr]) (by decide) (by decide)) rfl (I9 (xs:=[1]) (by decide) (KQ h fz [1] (by simp [Jr]) (by decide) (by decide)) rfl (I9 (xs:=[8,8]) (by decide) (KQ h fz [8,8] (by simp [Jr]) (by decide) (by decide)) rfl (I9 (xs:=[8]) (by decide) (KQ h fz [8] (by simp [Jr]) (by decide) (by decide)) rfl (I9 (xs:=[1]) (by decide) (KQ h fz [1] (by simp [Jr]) (by decide) (by decide)) rfl (I9 (xs:=[1]) (by decide) (KQ h fz [1] (by simp [Jr]) (by decide) (by decide)) rfl (I9 (xs:=[1,1]) (by decide) (KQ h fz [1,1] (by simp [Jr]) (by decide) (by decide)) rfl (.nil)))))))))))))))))
open Go Go.Proofs.YtjodhcdmhobmoaaGreatDoor.Le
noncomputable section
inductive zX where
 | b0 (a0:DL)
def ZjN:zX->Tr U (RH⊕zX)
 | .b0 a0=>.chk (([(IntKind.wrap .u64 (a0.EK)),(IntKind.wrap .u64 (a0.EJ)),(IntKind.wrap .u64 (a0.Df)),(IntKind.wrap .u64 (a0.Dh)),(IntKind.wrap .u64 (a0.EO))]).length==5) ( AA (⟨[(IntKind.wrap .u64 (a0.EK)),(IntKind.wrap .u64 (a0.EJ)),(IntKind.wrap .u64 (a0.Df)),(IntKind.wrap .u64 (a0.Dh)),(IntKind.wrap .u64 (a0.EO))]⟩:RH))
def kG (a0:DL):Option RH:=AV ZjN (.b0 a0)
def Z6d:Shape:=⟨[.agg [.v 24 5 true]],[]⟩
def Zh4:Shape:=⟨[.one (.own 25 0)],[.row 25 true]⟩
noncomputable def ZjG:HMod U:=⟨[k12],[],Z6d,Zh4,true,1371,fun(y:RH)=>(((),()),(y.q0,())),fun x=>kG x.1.1.1,okS rfl⟩
def Zjq:zX->Ac U
 | .b0 a0=>Fe Tryz.f293 Z6d (((a0,()),()),())
theorem Z6m:Dv Tryz.prog B0 293 ZjG:=okR Ag Ah AN [[.own 25 1]] [.row true] 0 Zjq Tryz.func293 (fun p=>by cases p<;>kernel_rfl) (by kernel_rfl) fun x=>by kernel_rfl
inductive zF where
 | b0 (a0:AL)
def Z6o:zF->Tr U ((List Int)⊕zF)
 | .b0 a0=>.bind 1371 (kG a0.BH) (fun(y1:RH)=>.chk (([(IntKind.wrap .u64 (a0.DD))]).length==1) ( .chk (kL y1.q0) ( .chk (kA (y1.q0.length+([(IntKind.wrap .u64 (a0.DD))]).length) 8) ( .chk (kL (y1.q0++[(IntKind.wrap .u64 (a0.DD))])) ( AA (y1.q0++[(IntKind.wrap .u64 (a0.DD))]))))))
def jY (a0:AL):Option (List Int):=AV Z6o (.b0 a0)
def Zhk:zF->Ac U
 | .b0 a0=>Ai Tryz.f292 [156] (a0,())
theorem Z5U:AA1 292 [156] 254 (fun x=>jY x.1) rfl:=Aj Ag (hc [] Z6m Ah) AN Zhk Tryz.func292 (fun p=>by cases p<;>kernel_rfl) (by kernel_rfl) fun _=>rfl
inductive Z8 where
 | b0 (a0:List FD)
 | b1 (a0:List FD) (a1 a2:Int)
 | b2 (a0:List FD) (a1 a2:Int)
def WX:Z8->Tr U (Bool⊕Z8)
 | .b0 a0=>AO (.b1 a0 (↑a0.length:Int) (0:Int))
 | .b1 a0 a1 a2=>.br (decide (a2<a1)) ( .chk (decide (0<=a2/\a2<(↑a0.length:Int))) ( .bind 174 (a0[(Int.toNat a2)]?) (fun(x1:FD)=>.br (decide (x1.TA<x1.f_low)) ( AA false) ( .br (decide (x1.TA>x1.tK)) ( AA false) ( AO (.b2 a0 a1 a2)))))) ( AA true)
 | .b2 a0 a1 a2=>AO (.b1 a0 a1 (AP (a2+1)))
def zS (a0:List FD):Option Bool:=AV WX (.b0 a0)
def jR:Lay:=⟨[5,6,7],[[.s 174 3],KP,KP],[],⟨[OV 240,OV 3,OV 3],[]⟩⟩
def Zk2:Nat->Option Lay
 | 2=>some jR
 | 6=>some jR
 | _=>none
def ZiF:Z8->Ac U
 | .b0 a0=>Ai Tryz.f124 [240] (a0,())
 | .b1 a0 a1 a2=>AA3 Tryz.f124 [1,0,1,0,0,0] jR (a0,a1,a2,())
 | .b2 a0 a1 a2=>AA3 Tryz.f124 [1,0,1,0,0,1,1,1] jR (a0,a1,a2,())
theorem Zjn:AA1 124 [240] 4 (fun x=>zS x.1) rfl:=Aj Ag Ah Zk2 ZiF Tryz.func124 (fun p=>by cases p<;>kernel_rfl) (by kernel_rfl) fun _=>rfl
inductive wJ where
 | b0 (a0:DL)
def Z5d:wJ->Tr U (Int⊕wJ)
 | .b0 a0=>.chk (([(⟨a0.EK,1,8⟩:FD),(⟨a0.EJ,0,3200⟩:FD),(⟨a0.Df,6,3200⟩:FD),(⟨a0.Dh,0,499⟩:FD),(⟨a0.EO,10,3200⟩:FD)]).length==5) ( .bind 4 (zS ([(⟨a0.EK,1,8⟩:FD),(⟨a0.EJ,0,3200⟩:FD),(⟨a0.Df,6,3200⟩:FD),(⟨a0.Dh,0,499⟩:FD),(⟨a0.EO,10,3200⟩:FD)])) (fun(x1:Bool)=>.br (!x1) ( AA (5:Int)) ( .br (decide (a0.EK>=a0.Df)) ( AA (11:Int)) ( .br (decide (a0.EJ>a0.Df)) ( AA (11:Int)) ( .br (decide ((AP (a0.EO*10000))<=(AP ((AP ((AP ((2:Int)*(AP (a0.Dh+1))))*a0.Df))*1250)))) ( AA (11:Int)) ( AA (0:Int)))))))
def iV (a0:DL):Option Int:=AV Z5d (.b0 a0)
def ZfX:wJ->Ac U
 | .b0 a0=>Ai Tryz.f122 [24] (a0,())
theorem Z57:AA1 122 [24] 45 (fun x=>iV x.1) rfl:=Aj (mc Zjn Ag) Ah AN ZfX Tryz.func122 (fun p=>by cases p<;>kernel_rfl) (by kernel_rfl) fun _=>rfl
inductive yL where
 | b0 (a0:AL)
def Z6j:yL->Tr U (Int⊕yL)
 | .b0 a0=>.bind 45 (iV a0.BH) (fun(x1:Int)=>AA x1)
def zD (a0:AL):Option Int:=AV Z6j (.b0 a0)
def Zhg:yL->Ac U
 | .b0 a0=>Ai Tryz.f296 [156] (a0,())
theorem Zis:AA1 296 [156] 45 (fun x=>zD x.1) rfl:=Aj (mc Z57 Ag) Ah AN Zhg Tryz.func296 (fun p=>by cases p<;>kernel_rfl) (by kernel_rfl) fun _=>rfl
inductive yM where
 | b0 (a0:AL)
def Zj9:yM->Tr U ((List Int)⊕yM)
 | .b0 a0=>.chk (([a0.Map,(IntKind.wrap .u64 (a0.DD))]).length==2) ( AA ([a0.Map,(IntKind.wrap .u64 (a0.DD))]))
def jV (a0:AL):Option (List Int):=AV Zj9 (.b0 a0)
def Zhi:yM->Ac U
 | .b0 a0=>Ai Tryz.f297 [156] (a0,())
theorem Z69:AA1 297 [156] 254 (fun x=>jV x.1) rfl:=Aj Ag Ah AN Zhi Tryz.func297 (fun p=>by cases p<;>kernel_rfl) (by kernel_rfl) fun _=>rfl
inductive Zd where
 | b0 (a0:Int)
def Z6V:Zd->Tr U (Int⊕Zd)
 | .b0 a0=>.br ((bits .andNot .u64 a0 (137438953471:Int)) != 0) ( AA (5:Int)) ( .bind 3 (Ti a0) (fun(x1:Int)=>.br (decide (x1<2)) ( AA (1:Int)) ( AA (0:Int))))
def Zk (a0:Int):Option Int:=AV Z6V (.b0 a0)
def Zkg:Zd->Ac U
 | .b0 a0=>Ai Tryz.f123 [26] (a0,())
theorem Zk8:AA1 123 [26] 45 (fun x=>Zk x.1) rfl:=Aj (mc zZ Ag) Ah AN Zkg Tryz.func123 (fun p=>by cases p<;>kernel_rfl) (by kernel_rfl) fun _=>rfl
inductive yN where
 | b0 (a0:AL)
def Z6t:yN->Tr U (Int⊕yN)
 | .b0 a0=>.bind 45 (Zk a0.Map) (fun(x1:Int)=>AA x1)
def yR (a0:AL):Option Int:=AV Z6t (.b0 a0)
def ZhJ:yN->Ac U
 | .b0 a0=>Ai Tryz.f299 [156] (a0,())
theorem Zhv:AA1 299 [156] 45 (fun x=>yR x.1) rfl:=Aj (mc Zk8 Ag) Ah AN ZhJ Tryz.func299 (fun p=>by cases p<;>kernel_rfl) (by kernel_rfl) fun _=>rfl
inductive zK where
 | b0 (a0:AL)
def Z6g:zK->Tr U ((List Int)⊕zK)
 | .b0 a0=>.bind 1371 (kG a0.BH) (fun(y1:RH)=>.chk (kL y1.q0) ( AA y1.q0))
def jX (a0:AL):Option (List Int):=AV Z6g (.b0 a0)
def Zhr:zK->Ac U
 | .b0 a0=>Ai Tryz.f300 [156] (a0,())
theorem Z5W:AA1 300 [156] 254 (fun x=>jX x.1) rfl:=Aj Ag (hc [] Z6m Ah) AN Zhr Tryz.func300 (fun p=>by cases p<;>kernel_rfl) (by kernel_rfl) fun _=>rfl
inductive yY where
 | b0 (a0:AL)
def Z6q:yY->Tr U (Int⊕yY)
 | .b0 a0=>.bind 45 (iV a0.BH) (fun(x1:Int)=>AA x1)
def yS (a0:AL):Option Int:=AV Z6q (.b0 a0)
def Zhq:yY->Ac U
 | .b0 a0=>Ai Tryz.f302 [156] (a0,())
theorem Zio:AA1 302 [156] 45 (fun x=>yS x.1) rfl:=Aj (mc Z57 Ag) Ah AN Zhq Tryz.func302 (fun p=>by cases p<;>kernel_rfl) (by kernel_rfl) fun _=>rfl
inductive xQ where
 | b0 (a0:AL)
def ZhS:xQ->Tr U ((List Int)⊕xQ)
 | .b0 a0=>.chk (([(IntKind.wrap .u64 (a0.Bc))]).length==1) ( AA ([(IntKind.wrap .u64 (a0.Bc))]))
def jS (a0:AL):Option (List Int):=AV ZhS (.b0 a0)
def ZgF:xQ->Ac U
 | .b0 a0=>Ai Tryz.f303 [156] (a0,())
theorem Z5I:AA1 303 [156] 254 (fun x=>jS x.1) rfl:=Aj Ag Ah AN ZgF Tryz.func303 (fun p=>by cases p<;>kernel_rfl) (by kernel_rfl) fun _=>rfl
inductive zW where
 | b0 (a0 a1 a2:Int)
def Z6L:zW->Tr U (Int⊕zW)
 | .b0 a0 a1 a2=>.br (decide (a0<a1)) ( AA (5:Int)) ( .br (decide (a0>a2)) ( AA (5:Int)) ( AA (0:Int)))
def Py (a0 a1 a2:Int):Option Int:=AV Z6L (.b0 a0 a1 a2)
def ZiJ:zW->Ac U
 | .b0 a0 a1 a2=>Ai Tryz.f306 [3,3,3] (a0,a1,a2,())
theorem WV:AA1 306 [3,3,3] 45 (fun x=>Py x.1 x.2.1 x.2.2.1) rfl:=Aj Ag Ah AN ZiJ Tryz.func306 (fun p=>by cases p<;>kernel_rfl) (by kernel_rfl) fun _=>rfl
inductive xK where
 | b0 (a0:AL)
def Z5Y:xK->Tr U (Int⊕xK)
 | .b0 a0=>.bind 45 (Py a0.Bc (0:Int) (255:Int)) (fun(x1:Int)=>AA x1)
def xW (a0:AL):Option Int:=AV Z5Y (.b0 a0)
def Zh5:xK->Ac U
 | .b0 a0=>Ai Tryz.f305 [156] (a0,())
theorem Zh7:AA1 305 [156] 45 (fun x=>xW x.1) rfl:=Aj (mc WV Ag) Ah AN Zh5 Tryz.func305 (fun p=>by cases p<;>kernel_rfl) (by kernel_rfl) fun _=>rfl
inductive wU where
 | b0 (a0:AL)
def Ziv:wU->Tr U ((List Int)⊕wU)
 | .b0 a0=>.chk (([a0.Bo,a0.Mark]).length==2) ( AA ([a0.Bo,a0.Mark]))
def jG (a0:AL):Option (List Int):=AV Ziv (.b0 a0)
def ZgO:wU->Ac U
 | .b0 a0=>Ai Tryz.f307 [156] (a0,())
theorem Z5M:AA1 307 [156] 254 (fun x=>jG x.1) rfl:=Aj Ag Ah AN ZgO Tryz.func307 (fun p=>by cases p<;>kernel_rfl) (by kernel_rfl) fun _=>rfl
inductive ZK where
 | b0 (a0:AL)
def Z7d:ZK->Tr U (Int⊕ZK)
 | .b0 a0=>AA (0:Int)
def Nc (a0:AL):Option Int:=AV Z7d (.b0 a0)
def ZkV:ZK->Ac U
 | .b0 a0=>Ai Tryz.f309 [156] (a0,())
theorem Zkl:AA1 309 [156] 45 (fun x=>Nc x.1) rfl:=Aj Ag Ah AN ZkV Tryz.func309 (fun p=>by cases p<;>kernel_rfl) (by kernel_rfl) fun _=>rfl
inductive xU where
 | b0 (a0:AL)
def Zic:xU->Tr U ((List Int)⊕xU)
 | .b0 a0=>.chk (([a0.Bo]).length==1) ( AA ([a0.Bo]))
def jM (a0:AL):Option (List Int):=AV Zic (.b0 a0)
def ZgJ:xU->Ac U
 | .b0 a0=>Ai Tryz.f310 [156] (a0,())
theorem Z5F:AA1 310 [156] 254 (fun x=>jM x.1) rfl:=Aj Ag Ah AN ZgJ Tryz.func310 (fun p=>by cases p<;>kernel_rfl) (by kernel_rfl) fun _=>rfl
inductive xP where
 | b0 (a0:AL)
def ZhD:xP->Tr U ((List Int)⊕xP)
 | .b0 a0=>.chk (([(IntKind.wrap .u64 (a0.DI))]).length==1) ( AA ([(IntKind.wrap .u64 (a0.DI))]))
def jQ (a0:AL):Option (List Int):=AV ZhD (.b0 a0)
def ZgK:xP->Ac U
 | .b0 a0=>Ai Tryz.f312 [156] (a0,())
theorem Z5O:AA1 312 [156] 254 (fun x=>jQ x.1) rfl:=Aj Ag Ah AN ZgK Tryz.func312 (fun p=>by cases p<;>kernel_rfl) (by kernel_rfl) fun _=>rfl
inductive xH where
 | b0 (a0:AL)
def Z5T:xH->Tr U (Int⊕xH)
 | .b0 a0=>.bind 45 (Py a0.DI (0:Int) (255:Int)) (fun(x1:Int)=>AA x1)
def xN (a0:AL):Option Int:=AV Z5T (.b0 a0)
def ZgB:xH->Ac U
 | .b0 a0=>Ai Tryz.f314 [156] (a0,())
theorem Zhd:AA1 314 [156] 45 (fun x=>xN x.1) rfl:=Aj (mc WV Ag) Ah AN ZgB Tryz.func314 (fun p=>by cases p<;>kernel_rfl) (by kernel_rfl) fun _=>rfl
inductive yB where
 | b0 (a0:AL)
def Zi1:yB->Tr U ((List Int)⊕yB)
 | .b0 a0=>.chk (([(IntKind.wrap .u64 (a0.Version))]).length==1) ( AA ([(IntKind.wrap .u64 (a0.Version))]))
def jH (a0:AL):Option (List Int):=AV Zi1 (.b0 a0)
def ZgM:yB->Ac U
 | .b0 a0=>Ai Tryz.f315 [156] (a0,())
theorem Z5z:AA1 315 [156] 254 (fun x=>jH x.1) rfl:=Aj Ag Ah AN ZgM Tryz.func315 (fun p=>by cases p<;>kernel_rfl) (by kernel_rfl) fun _=>rfl
inductive xO where
 | b0 (a0:AL)
def Z67:xO->Tr U (Int⊕xO)
 | .b0 a0=>.bind 45 (Py a0.Version (0:Int) (255:Int)) (fun(x1:Int)=>AA x1)
def yC (a0:AL):Option Int:=AV Z67 (.b0 a0)
def Zh3:xO->Ac U
 | .b0 a0=>Ai Tryz.f317 [156] (a0,())
theorem ZgR:AA1 317 [156] 45 (fun x=>yC x.1) rfl:=Aj (mc WV Ag) Ah AN Zh3 Tryz.func317 (fun p=>by cases p<;>kernel_rfl) (by kernel_rfl) fun _=>rfl
inductive wX where
 | b0 (a0:AL)
def Zii:wX->Tr U ((List Int)⊕wX)
 | .b0 a0=>.chk (([(IntKind.wrap .u64 (a0.Bc)),(IntKind.wrap .u64 (a0.DI))]).length==2) ( AA ([(IntKind.wrap .u64 (a0.Bc)),(IntKind.wrap .u64 (a0.DI))]))
def jO (a0:AL):Option (List Int):=AV Zii (.b0 a0)
def ZgG:wX->Ac U
 | .b0 a0=>Ai Tryz.f318 [156] (a0,())
theorem Z5J:AA1 318 [156] 254 (fun x=>jO x.1) rfl:=Aj Ag Ah AN ZgG Tryz.func318 (fun p=>by cases p<;>kernel_rfl) (by kernel_rfl) fun _=>rfl
inductive wR where
 | b0 (a0:AL)
def Z66:wR->Tr U (Int⊕wR)
 | .b0 a0=>.bind 45 (Py a0.Bc (0:Int) (255:Int)) (fun(x1:Int)=>.bind 45 (Py a0.DI (0:Int) (255:Int)) (fun(x2:Int)=>AA (if x2>x1 then x2 else x1)))
def xX (a0:AL):Option Int:=AV Z66 (.b0 a0)
def Zh2:wR->Ac U
 | .b0 a0=>Ai Tryz.f320 [156] (a0,())
theorem ZgV:AA1 320 [156] 45 (fun x=>xX x.1) rfl:=Aj (mc WV Ag) Ah AN Zh2 Tryz.func320 (fun p=>by cases p<;>kernel_rfl) (by kernel_rfl) fun _=>rfl
inductive yZ where
 | b0 (a0:AL)
def Zj6:yZ->Tr U ((List Int)⊕yZ)
 | .b0 a0=>.chk (([]:List Int).length==0) ( AA ([]:List Int))
def Nb (a0:AL):Option (List Int):=AV Zj6 (.b0 a0)
def ZhX:yZ->Ac U
 | .b0 a0=>Ai Tryz.f348 [156] (a0,())
theorem Z5Z:AA1 348 [156] 254 (fun x=>Nb x.1) rfl:=Aj Ag Ah AN ZhX Tryz.func348 (fun p=>by cases p<;>kernel_rfl) (by kernel_rfl) fun _=>rfl
inductive wM where
 | b0 (a0:AL)
def Zgj:wM->Tr U ((List Int)⊕wM)
 | .b0 a0=>.chk (([a0.CQ]).length==1) ( AA ([a0.CQ]))
def TL (a0:AL):Option (List Int):=AV Zgj (.b0 a0)
def Zg8:wM->Ac U
 | .b0 a0=>Ai Tryz.f350 [156] (a0,())
theorem Z5b:AA1 350 [156] 254 (fun x=>TL x.1) rfl:=Aj Ag Ah AN Zg8 Tryz.func350 (fun p=>by cases p<;>kernel_rfl) (by kernel_rfl) fun _=>rfl
inductive wP where
 | b0 (a0:AL)
def Zhn:wP->Tr U ((List Int)⊕wP)
 | .b0 a0=>.chk (([(IntKind.wrap .u64 (a0.Length))]).length==1) ( AA ([(IntKind.wrap .u64 (a0.Length))]))
def TV (a0:AL):Option (List Int):=AV Zhn (.b0 a0)
def Zh9:wP->Ac U
 | .b0 a0=>Ai Tryz.f352 [156] (a0,())
theorem Z5B:AA1 352 [156] 254 (fun x=>TV x.1) rfl:=Aj Ag Ah AN Zh9 Tryz.func352 (fun p=>by cases p<;>kernel_rfl) (by kernel_rfl) fun _=>rfl
inductive xI where
 | b0 (a0:AL)
def Z6f:xI->Tr U (Int⊕xI)
 | .b0 a0=>.bind 45 (Py a0.Length (27:Int) (251:Int)) (fun(x1:Int)=>AA x1)
def jP (a0:AL):Option Int:=AV Z6f (.b0 a0)
def ZgS:xI->Ac U
 | .b0 a0=>Ai Tryz.f354 [156] (a0,())
theorem ZgD:AA1 354 [156] 45 (fun x=>jP x.1) rfl:=Aj (mc WV Ag) Ah AN ZgS Tryz.func354 (fun p=>by cases p<;>kernel_rfl) (by kernel_rfl) fun _=>rfl
inductive yQ where
 | b0 (a0:List Int)
def Z6s:yQ->Tr U (DL⊕yQ)
 | .b0 a0=>.chk (decide (0<=(0:Int)/\(0:Int)<(↑a0.length:Int))) ( .bind 25 (a0[(Int.toNat 0)]?) (fun(x1:Int)=>.chk (decide (0<=(1:Int)/\(1:Int)<(↑a0.length:Int))) ( .bind 25 (a0[(Int.toNat 1)]?) (fun(x2:Int)=>.chk (decide (0<=(2:Int)/\(2:Int)<(↑a0.length:Int))) ( .bind 25 (a0[(Int.toNat 2)]?) (fun(x3:Int)=>.chk (decide (0<=(3:Int)/\(3:Int)<(↑a0.length:Int))) ( .bind 25 (a0[(Int.toNat 3)]?) (fun(x4:Int)=>.chk (decide (0<=(4:Int)/\(4:Int)<(↑a0.length:Int))) ( .bind 25 (a0[(Int.toNat 4)]?) (fun(x5:Int)=>AA (⟨(AP (x1)),(AP (x2)),(AP (x3)),(AP (x4)),(AP (x5))⟩:DL)))))))))))
def kE (a0:List Int):Option DL:=AV Z6s (.b0 a0)
def ZhL:yQ->Ac U
 | .b0 a0=>Ai Tryz.f295 [254] (a0,())
theorem Z62:AA1 295 [254] 24 (fun x=>kE x.1) rfl:=Aj Ag Ah AN ZhL Tryz.func295 (fun p=>by cases p<;>kernel_rfl) (by kernel_rfl) fun _=>rfl
inductive zJ where
 | b0 (a0:List Int) (a1:AL)
def Z6h:zJ->Tr U (Tc⊕zJ)
 | .b0 a0 a1=>.bind 24 (kE a0) (fun(x1:DL)=>.chk (decide (0<=(5:Int)/\(5:Int)<(↑a0.length:Int))) ( .bind 25 (a0[(Int.toNat 5)]?) (fun(x2:Int)=>AA (⟨({ a1 with BH:=x1,DD:=(IntKind.wrap .u16 (x2)) }:AL)⟩:Tc))))
def zM (a0:List Int) (a1:AL):Option Tc:=AV Z6h (.b0 a0 a1)
def Z5x:Shape:=⟨[PQ 0,OV 254],[VA 156 15]⟩
def Zgk:Shape:=⟨[],[VA 156 15]⟩
noncomputable def ZiM:HMod U:=⟨[KP,[.s 25 1]],[.var k0],Z5x,Zgk,false,1362,fun(y:Tc)=>((),((y.q0,()),())),fun x=>zM x.1.2.1.1 x.2.1.1,okS rfl⟩
def Zi5:zJ->Ac U
 | .b0 a0 a1=>Fe Tryz.f294 Z5x (((),((a0,()),())),((a1,()),()))
theorem ZhK:Dv Tryz.prog B0 294 ZiM:=okR (mc Z62 Ag) Ah AN [] [.var k0] 1 Zi5 Tryz.func294 (fun p=>by cases p<;>kernel_rfl) (by kernel_rfl) fun x=>by kernel_rfl
inductive zA where
 | b0 (a0:List Int) (a1:AL)
def Zjh:zA->Tr U (Td⊕zA)
 | .b0 a0 a1=>.chk (decide (0<=(0:Int)/\(0:Int)<(↑a0.length:Int))) ( .bind 25 (a0[(Int.toNat 0)]?) (fun(x1:Int)=>.chk (decide (0<=(1:Int)/\(1:Int)<(↑a0.length:Int))) ( .bind 25 (a0[(Int.toNat 1)]?) (fun(x2:Int)=>AA (⟨({ a1 with Map:=x1,DD:=(IntKind.wrap .u16 (x2)) }:AL)⟩:Td)))))
def zL (a0:List Int) (a1:AL):Option Td:=AV Zjh (.b0 a0 a1)
def Z5E:Shape:=⟨[PQ 0,OV 254],[VA 156 15]⟩
def Zgm:Shape:=⟨[],[VA 156 15]⟩
noncomputable def Zjg:HMod U:=⟨[KP,[.s 25 1]],[.var k0],Z5E,Zgm,false,1363,fun(y:Td)=>((),((y.q0,()),())),fun x=>zL x.1.2.1.1 x.2.1.1,okS rfl⟩
def Zi8:zA->Ac U
 | .b0 a0 a1=>Fe Tryz.f298 Z5E (((),((a0,()),())),((a1,()),()))
theorem Zi0:Dv Tryz.prog B0 298 Zjg:=okR Ag Ah AN [] [.var k0] 1 Zi8 Tryz.func298 (fun p=>by cases p<;>kernel_rfl) (by kernel_rfl) fun x=>by kernel_rfl
inductive yV where
 | b0 (a0:List Int) (a1:AL)
def Z6w:yV->Tr U (TZ⊕yV)
 | .b0 a0 a1=>.bind 24 (kE a0) (fun(x1:DL)=>AA (⟨({ a1 with BH:=x1 }:AL)⟩:TZ))
def yO (a0:List Int) (a1:AL):Option TZ:=AV Z6w (.b0 a0 a1)
def Z5C:Shape:=⟨[PQ 0,OV 254],[VA 156 15]⟩
def Zgh:Shape:=⟨[],[VA 156 15]⟩
noncomputable def Zjw:HMod U:=⟨[KP,[.s 25 1]],[.var k0],Z5C,Zgh,false,1364,fun(y:TZ)=>((),((y.q0,()),())),fun x=>yO x.1.2.1.1 x.2.1.1,okS rfl⟩
def Zig:yV->Ac U
 | .b0 a0 a1=>Fe Tryz.f301 Z5C (((),((a0,()),())),((a1,()),()))
theorem Zht:Dv Tryz.prog B0 301 Zjw:=okR (mc Z62 Ag) Ah AN [] [.var k0] 1 Zig Tryz.func301 (fun p=>by cases p<;>kernel_rfl) (by kernel_rfl) fun x=>by kernel_rfl
inductive wY where
 | b0 (a0:List Int) (a1:AL)
def Zhy:wY->Tr U (TQ⊕wY)
 | .b0 a0 a1=>.chk (decide (0<=(0:Int)/\(0:Int)<(↑a0.length:Int))) ( .bind 25 (a0[(Int.toNat 0)]?) (fun(x1:Int)=>AA (⟨({ a1 with Bc:=(AP (x1)) }:AL)⟩:TQ)))
def xB (a0:List Int) (a1:AL):Option TQ:=AV Zhy (.b0 a0 a1)
def Z5p:Shape:=⟨[PQ 0,OV 254],[VA 156 15]⟩
def Zg5:Shape:=⟨[],[VA 156 15]⟩
noncomputable def Zi2:HMod U:=⟨[KP,[.s 25 1]],[.var k0],Z5p,Zg5,false,1365,fun(y:TQ)=>((),((y.q0,()),())),fun x=>xB x.1.2.1.1 x.2.1.1,okS rfl⟩
def Zh6:wY->Ac U
 | .b0 a0 a1=>Fe Tryz.f304 Z5p (((),((a0,()),())),((a1,()),()))
theorem Zha:Dv Tryz.prog B0 304 Zi2:=okR Ag Ah AN [] [.var k0] 1 Zh6 Tryz.func304 (fun p=>by cases p<;>kernel_rfl) (by kernel_rfl) fun x=>by kernel_rfl
inductive wW where
 | b0 (a0:List Int) (a1:AL)
def ZhF:wW->Tr U (TU⊕wW)
 | .b0 a0 a1=>.chk (decide (0<=(0:Int)/\(0:Int)<(↑a0.length:Int))) ( .bind 25 (a0[(Int.toNat 0)]?) (fun(x1:Int)=>.chk (decide (0<=(1:Int)/\(1:Int)<(↑a0.length:Int))) ( .bind 25 (a0[(Int.toNat 1)]?) (fun(x2:Int)=>AA (⟨({ a1 with Bo:=x1,Mark:=x2 }:AL)⟩:TU)))))
def xM (a0:List Int) (a1:AL):Option TU:=AV ZhF (.b0 a0 a1)
def Z5q:Shape:=⟨[PQ 0,OV 254],[VA 156 15]⟩
def Zg1:Shape:=⟨[],[VA 156 15]⟩
noncomputable def Zhe:HMod U:=⟨[KP,[.s 25 1]],[.var k0],Z5q,Zg1,false,1366,fun(y:TU)=>((),((y.q0,()),())),fun x=>xM x.1.2.1.1 x.2.1.1,okS rfl⟩
def ZgW:wW->Ac U
 | .b0 a0 a1=>Fe Tryz.f308 Z5q (((),((a0,()),())),((a1,()),()))
theorem Zh1:Dv Tryz.prog B0 308 Zhe:=okR Ag Ah AN [] [.var k0] 1 ZgW Tryz.func308 (fun p=>by cases p<;>kernel_rfl) (by kernel_rfl) fun x=>by kernel_rfl
inductive xG where
 | b0 (a0:List Int) (a1:AL)
def ZhR:xG->Tr U (TS⊕xG)
 | .b0 a0 a1=>.chk (decide (0<=(0:Int)/\(0:Int)<(↑a0.length:Int))) ( .bind 25 (a0[(Int.toNat 0)]?) (fun(x1:Int)=>AA (⟨({ a1 with Bo:=x1 }:AL)⟩:TS)))
def xJ (a0:List Int) (a1:AL):Option TS:=AV ZhR (.b0 a0 a1)
def Z5s:Shape:=⟨[PQ 0,OV 254],[VA 156 15]⟩
def Zg7:Shape:=⟨[],[VA 156 15]⟩
noncomputable def Zik:HMod U:=⟨[KP,[.s 25 1]],[.var k0],Z5s,Zg7,false,1367,fun(y:TS)=>((),((y.q0,()),())),fun x=>xJ x.1.2.1.1 x.2.1.1,okS rfl⟩
def ZgI:xG->Ac U
 | .b0 a0 a1=>Fe Tryz.f311 Z5s (((),((a0,()),())),((a1,()),()))
theorem ZgX:Dv Tryz.prog B0 311 Zik:=okR Ag Ah AN [] [.var k0] 1 ZgI Tryz.func311 (fun p=>by cases p<;>kernel_rfl) (by kernel_rfl) fun x=>by kernel_rfl
inductive xZ where
 | b0 (a0:List Int) (a1:AL)
def ZiD:xZ->Tr U (TR⊕xZ)
 | .b0 a0 a1=>.chk (decide (0<=(0:Int)/\(0:Int)<(↑a0.length:Int))) ( .bind 25 (a0[(Int.toNat 0)]?) (fun(x1:Int)=>AA (⟨({ a1 with DI:=(AP (x1)) }:AL)⟩:TR)))
def wS (a0:List Int) (a1:AL):Option TR:=AV ZiD (.b0 a0 a1)
def Z5m:Shape:=⟨[PQ 0,OV 254],[VA 156 15]⟩
def Zg2:Shape:=⟨[],[VA 156 15]⟩
noncomputable def ZhG:HMod U:=⟨[KP,[.s 25 1]],[.var k0],Z5m,Zg2,false,1368,fun(y:TR)=>((),((y.q0,()),())),fun x=>wS x.1.2.1.1 x.2.1.1,okS rfl⟩
def Zhc:xZ->Ac U
 | .b0 a0 a1=>Fe Tryz.f313 Z5m (((),((a0,()),())),((a1,()),()))
theorem Zgu:Dv Tryz.prog B0 313 ZhG:=okR Ag Ah AN [] [.var k0] 1 Zhc Tryz.func313 (fun p=>by cases p<;>kernel_rfl) (by kernel_rfl) fun x=>by kernel_rfl
inductive wQ where
 | b0 (a0:List Int) (a1:AL)
def Zin:wQ->Tr U (TT⊕wQ)
 | .b0 a0 a1=>.chk (decide (0<=(0:Int)/\(0:Int)<(↑a0.length:Int))) ( .bind 25 (a0[(Int.toNat 0)]?) (fun(x1:Int)=>AA (⟨({ a1 with Version:=(AP (x1)) }:AL)⟩:TT)))
def yD (a0:List Int) (a1:AL):Option TT:=AV Zin (.b0 a0 a1)
def Z5f:Shape:=⟨[PQ 0,OV 254],[VA 156 15]⟩
def ZfZ:Shape:=⟨[],[VA 156 15]⟩
noncomputable def Zi6:HMod U:=⟨[KP,[.s 25 1]],[.var k0],Z5f,ZfZ,false,1369,fun(y:TT)=>((),((y.q0,()),())),fun x=>yD x.1.2.1.1 x.2.1.1,okS rfl⟩
def ZgQ:wQ->Ac U
 | .b0 a0 a1=>Fe Tryz.f316 Z5f (((),((a0,()),())),((a1,()),()))
theorem Zgz:Dv Tryz.prog B0 316 Zi6:=okR Ag Ah AN [] [.var k0] 1 ZgQ Tryz.func316 (fun p=>by cases p<;>kernel_rfl) (by kernel_rfl) fun x=>by kernel_rfl
inductive xY where
 | b0 (a0:List Int) (a1:AL)
def Zip:xY->Tr U (TP⊕xY)
 | .b0 a0 a1=>.chk (decide (0<=(0:Int)/\(0:Int)<(↑a0.length:Int))) ( .bind 25 (a0[(Int.toNat 0)]?) (fun(x1:Int)=>.chk (decide (0<=(1:Int)/\(1:Int)<(↑a0.length:Int))) ( .bind 25 (a0[(Int.toNat 1)]?) (fun(x2:Int)=>AA (⟨({ a1 with Bc:=(AP (x1)),DI:=(AP (x2)) }:AL)⟩:TP)))))
def wV (a0:List Int) (a1:AL):Option TP:=AV Zip (.b0 a0 a1)
def Z5l:Shape:=⟨[PQ 0,OV 254],[VA 156 15]⟩
def Zgb:Shape:=⟨[],[VA 156 15]⟩
noncomputable def Zhj:HMod U:=⟨[KP,[.s 25 1]],[.var k0],Z5l,Zgb,false,1370,fun(y:TP)=>((),((y.q0,()),())),fun x=>wV x.1.2.1.1 x.2.1.1,okS rfl⟩
def ZgY:xY->Ac U
 | .b0 a0 a1=>Fe Tryz.f319 Z5l (((),((a0,()),())),((a1,()),()))
theorem Zgs:Dv Tryz.prog B0 319 Zhj:=okR Ag Ah AN [] [.var k0] 1 ZgY Tryz.func319 (fun p=>by cases p<;>kernel_rfl) (by kernel_rfl) fun x=>by kernel_rfl
inductive yT where
 | b0 (a0:List Int) (a1:AL)
def Zjs:yT->Tr U (Oe⊕yT)
 | .b0 a0 a1=>AA (⟨a1⟩:Oe)
def TY (a0:List Int) (a1:AL):Option Oe:=AV Zjs (.b0 a0 a1)
def Z5N:Shape:=⟨[PQ 0,OV 254],[VA 156 15]⟩
def Zgo:Shape:=⟨[],[VA 156 15]⟩
noncomputable def ZiY:HMod U:=⟨[KP,[.s 25 1]],[.var k0],Z5N,Zgo,false,1359,fun(y:Oe)=>((),((y.q0,()),())),fun x=>TY x.1.2.1.1 x.2.1.1,okS rfl⟩
def Zhp:yT->Ac U
 | .b0 a0 a1=>Fe Tryz.f349 Z5N (((),((a0,()),())),((a1,()),()))
theorem Zi7:Dv Tryz.prog B0 349 ZiY:=okR Ag Ah AN [] [.var k0] 1 Zhp Tryz.func349 (fun p=>by cases p<;>kernel_rfl) (by kernel_rfl) fun x=>by kernel_rfl
inductive wL where
 | b0 (a0:List Int) (a1:AL)
def Zgn:wL->Tr U (Qz⊕wL)
 | .b0 a0 a1=>.chk (decide (0<=(0:Int)/\(0:Int)<(↑a0.length:Int))) ( .bind 25 (a0[(Int.toNat 0)]?) (fun(x1:Int)=>AA (⟨({ a1 with CQ:=x1 }:AL)⟩:Qz)))
def iW (a0:List Int) (a1:AL):Option Qz:=AV Zgn (.b0 a0 a1)
def Z59:Shape:=⟨[PQ 0,OV 254],[VA 156 15]⟩
def ZfT:Shape:=⟨[],[VA 156 15]⟩
noncomputable def Zgg:HMod U:=⟨[KP,[.s 25 1]],[.var k0],Z59,ZfT,false,1360,fun(y:Qz)=>((),((y.q0,()),())),fun x=>iW x.1.2.1.1 x.2.1.1,okS rfl⟩
def Zge:wL->Ac U
 | .b0 a0 a1=>Fe Tryz.f351 Z59 (((),((a0,()),())),((a1,()),()))
theorem Zg0:Dv Tryz.prog B0 351 Zgg:=okR Ag Ah AN [] [.var k0] 1 Zge Tryz.func351 (fun p=>by cases p<;>kernel_rfl) (by kernel_rfl) fun x=>by kernel_rfl
end
noncomputable section
inductive yA where
 | b0 (a0:List Int) (a1:AL)
def Zid:yA->Tr U (RF⊕yA)
 | .b0 a0 a1=>.chk (decide (0<=(0:Int)/\(0:Int)<(↑a0.length:Int))) ( .bind 25 (a0[(Int.toNat 0)]?) (fun(x1:Int)=>AA (⟨({ a1 with Length:=(AP (x1)) }:AL)⟩:RF)))
def jI (a0:List Int) (a1:AL):Option RF:=AV Zid (.b0 a0 a1)
def Z5r:Shape:=⟨[PQ 0,OV 254],[VA 156 15]⟩
def Zg9:Shape:=⟨[],[VA 156 15]⟩
noncomputable def Zhs:HMod U:=⟨[KP,[.s 25 1]],[.var k0],Z5r,Zg9,false,1361,fun(y:RF)=>((),((y.q0,()),())),fun x=>jI x.1.2.1.1 x.2.1.1,okS rfl⟩
def Zgw:yA->Ac U
 | .b0 a0 a1=>Fe Tryz.f353 Z5r (((),((a0,()),())),((a1,()),()))
theorem ZgA:Dv Tryz.prog B0 353 Zhs:=okR Ag Ah AN [] [.var k0] 1 Zgw Tryz.func353 (fun p=>by cases p<;>kernel_rfl) (by kernel_rfl) fun x=>by kernel_rfl
inductive Ze where
 | b0 (a0:AL)
def Jt:Ze->Tr U (Int⊕Ze)
 | .b0 a0=>.bind 249 (Gw) (fun(x1:Unit)=>.br (a0.Kind==5) ( .br (!true) ( AA (12:Int)) ( .bind 254 (Nb a0) (fun(x2:List Int)=>.bind 1359 (TY x2 (⟨a0.Kind,BP,0,0,0,0,0,0,0,0,0⟩:AL)) (fun(y3:Oe)=>.br (!(Gj y3.q0 a0)) ( AA (1:Int)) ( .bind 45 (Nc a0) (fun(x4:Int)=>AA x4)))))) ( .br (a0.Kind==6) ( .br (!true) ( AA (12:Int)) ( .bind 254 (Nb a0) (fun(x5:List Int)=>.bind 1359 (TY x5 (⟨a0.Kind,BP,0,0,0,0,0,0,0,0,0⟩:AL)) (fun(y6:Oe)=>.br (!(Gj y6.q0 a0)) ( AA (1:Int)) ( .bind 45 (Nc a0) (fun(x7:Int)=>AA x7)))))) ( .br (a0.Kind==18) ( .br (!true) ( AA (12:Int)) ( .bind 254 (Nb a0) (fun(x8:List Int)=>.bind 1359 (TY x8 (⟨a0.Kind,BP,0,0,0,0,0,0,0,0,0⟩:AL)) (fun(y9:Oe)=>.br (!(Gj y9.q0 a0)) ( AA (1:Int)) ( .bind 45 (Nc a0) (fun(x10:Int)=>AA x10)))))) ( .br (a0.Kind==19) ( .br (!true) ( AA (12:Int)) ( .bind 254 (Nb a0) (fun(x11:List Int)=>.bind 1359 (TY x11 (⟨a0.Kind,BP,0,0,0,0,0,0,0,0,0⟩:AL)) (fun(y12:Oe)=>.br (!(Gj y12.q0 a0)) ( AA (1:Int)) ( .bind 45 (Nc a0) (fun(x13:Int)=>AA x13)))))) ( .br (a0.Kind==8) ( .br (!true) ( AA (12:Int)) ( .bind 254 (TL a0) (fun(x14:List Int)=>.bind 1360 (iW x14 (⟨a0.Kind,BP,0,0,0,0,0,0,0,0,0⟩:AL)) (fun(y15:Qz)=>.br (!(Gj y15.q0 a0)) ( AA (1:Int)) ( .bind 45 (Nc a0) (fun(x16:Int)=>AA x16)))))) ( .br (a0.Kind==9) ( .br (!true) ( AA (12:Int)) ( .bind 254 (TL a0) (fun(x17:List Int)=>.bind 1360 (iW x17 (⟨a0.Kind,BP,0,0,0,0,0,0,0,0,0⟩:AL)) (fun(y18:Qz)=>.br (!(Gj y18.q0 a0)) ( AA (1:Int)) ( .bind 45 (Nc a0) (fun(x19:Int)=>AA x19)))))) ( .br (a0.Kind==20) ( .br (!true) ( AA (12:Int)) ( .bind 254 (TV a0) (fun(x20:List Int)=>.bind 1361 (jI x20 (⟨a0.Kind,BP,0,0,0,0,0,0,0,0,0⟩:AL)) (fun(y21:RF)=>.br (!(Gj y21.q0 a0)) ( AA (1:Int)) ( .bind 45 (jP a0) (fun(x22:Int)=>AA x22)))))) ( .br (a0.Kind==21) ( .br (!true) ( AA (12:Int)) ( .bind 254 (TV a0) (fun(x23:List Int)=>.bind 1361 (jI x23 (⟨a0.Kind,BP,0,0,0,0,0,0,0,0,0⟩:AL)) (fun(y24:RF)=>.br (!(Gj y24.q0 a0)) ( AA (1:Int)) ( .bind 45 (jP a0) (fun(x25:Int)=>AA x25)))))) ( .br (a0.Kind==0) ( .br (!true) ( AA (12:Int)) ( .bind 254 (jY a0) (fun(x26:List Int)=>.bind 1362 (zM x26 (⟨a0.Kind,BP,0,0,0,0,0,0,0,0,0⟩:AL)) (fun(y27:Tc)=>.br (!(Gj y27.q0 a0)) ( AA (1:Int)) ( .bind 45 (zD a0) (fun(x28:Int)=>AA x28)))))) ( .br (a0.Kind==1) ( .br (!true) ( AA (12:Int)) ( .bind 254 (jV a0) (fun(x29:List Int)=>.bind 1363 (zL x29 (⟨a0.Kind,BP,0,0,0,0,0,0,0,0,0⟩:AL)) (fun(y30:Td)=>.br (!(Gj y30.q0 a0)) ( AA (1:Int)) ( .bind 45 (yR a0) (fun(x31:Int)=>AA x31)))))) ( .br (a0.Kind==15) ( .br (!true) ( AA (12:Int)) ( .bind 254 (jX a0) (fun(x32:List Int)=>.bind 1364 (yO x32 (⟨a0.Kind,BP,0,0,0,0,0,0,0,0,0⟩:AL)) (fun(y33:TZ)=>.br (!(Gj y33.q0 a0)) ( AA (1:Int)) ( .bind 45 (yS a0) (fun(x34:Int)=>AA x34)))))) ( .br (a0.Kind==2) ( .br (!true) ( AA (12:Int)) ( .bind 254 (jS a0) (fun(x35:List Int)=>.bind 1365 (xB x35 (⟨a0.Kind,BP,0,0,0,0,0,0,0,0,0⟩:AL)) (fun(y36:TQ)=>.br (!(Gj y36.q0 a0)) ( AA (1:Int)) ( .bind 45 (xW a0) (fun(x37:Int)=>AA x37)))))) ( .br (a0.Kind==3) ( .br (!true) ( AA (12:Int)) ( .bind 254 (jG a0) (fun(x38:List Int)=>.bind 1366 (xM x38 (⟨a0.Kind,BP,0,0,0,0,0,0,0,0,0⟩:AL)) (fun(y39:TU)=>.br (!(Gj y39.q0 a0)) ( AA (1:Int)) ( .bind 45 (Nc a0) (fun(x40:Int)=>AA x40)))))) ( .br (a0.Kind==4) ( .br (!true) ( AA (12:Int)) ( .bind 254 (jM a0) (fun(x41:List Int)=>.bind 1367 (xJ x41 (⟨a0.Kind,BP,0,0,0,0,0,0,0,0,0⟩:AL)) (fun(y42:TS)=>.br (!(Gj y42.q0 a0)) ( AA (1:Int)) ( .bind 45 (Nc a0) (fun(x43:Int)=>AA x43)))))) ( .br (a0.Kind==7) ( .br (!true) ( AA (12:Int)) ( .bind 254 (jQ a0) (fun(x44:List Int)=>.bind 1368 (wS x44 (⟨a0.Kind,BP,0,0,0,0,0,0,0,0,0⟩:AL)) (fun(y45:TR)=>.br (!(Gj y45.q0 a0)) ( AA (1:Int)) ( .bind 45 (xN a0) (fun(x46:Int)=>AA x46)))))) ( .br (a0.Kind==12) ( .br (!true) ( AA (12:Int)) ( .bind 254 (jH a0) (fun(x47:List Int)=>.bind 1369 (yD x47 (⟨a0.Kind,BP,0,0,0,0,0,0,0,0,0⟩:AL)) (fun(y48:TT)=>.br (!(Gj y48.q0 a0)) ( AA (1:Int)) ( .bind 45 (yC a0) (fun(x49:Int)=>AA x49)))))) ( .br (a0.Kind==13) ( .br (!true) ( AA (12:Int)) ( .bind 254 (jO a0) (fun(x50:List Int)=>.bind 1370 (wV x50 (⟨a0.Kind,BP,0,0,0,0,0,0,0,0,0⟩:AL)) (fun(y51:TP)=>.br (!(Gj y51.q0 a0)) ( AA (1:Int)) ( .bind 45 (xX a0) (fun(x52:Int)=>AA x52)))))) ( .br (!false) ( AA (12:Int)) ( .fail)))))))))))))))))))
def Zt (a0:AL):Option Int:=AV Jt (.b0 a0)
def Zk1:Ze->Ac U
 | .b0 a0=>Ai Tryz.f228 [156] (a0,())
theorem ZjL:AA1 228 [156] 45 (fun x=>Zt x.1) rfl:=Aj (mc Z6A (mc Z5U (mc Zis (mc Z69 (mc Zhv (mc Z5W (mc Zio (mc Z5I (mc Zh7 (mc Z5M (mc Zkl (mc Z5F (mc Z5O (mc Zhd (mc Z5z (mc ZgR (mc Z5J (mc ZgV (mc Z5Z (mc Z5b (mc Z5B (mc ZgD Ag)))))))))))))))))))))) (hc [] ZhK (hc [] Zi0 (hc [] Zht (hc [] Zha (hc [] Zh1 (hc [] ZgX (hc [] Zgu (hc [] Zgz (hc [] Zgs (hc [] Zi7 (hc [] Zg0 (hc [] ZgA Ah)))))))))))) AN Zk1 Tryz.func228 (fun p=>by cases p<;>kernel_rfl) (by kernel_rfl) fun _=>rfl
inductive zY where
 | b0 (a0:AL)
 | b1 (a0:List Bd) (a1:List Int) (a2 a3:Int) (a4:IM)
def GX:zY->Tr U (((List Int)×Int)⊕zY)
 | .b0 a0=>.bind 45 (Zt a0) (fun(x1:Int)=>.br (x1 != 0) ( .chk (([]:List Int).length==0) ( AA (([]:List Int),x1))) ( .bind 249 (Gw) (fun(x2:Unit)=>.br (a0.Kind==5) ( .bind 254 (Nb a0) (fun(x3:List Int)=>.chk (([(⟨1,(IntKind.wrap .u64 (a0.Kind))⟩:Bd)]).length==1) ( AO (.b1 ([(⟨1,(IntKind.wrap .u64 (a0.Kind))⟩:Bd)]) x3 (↑x3.length:Int) (0:Int) (⟨([]:List Int)⟩:IM))))) ( .br (a0.Kind==6) ( .bind 254 (Nb a0) (fun(x4:List Int)=>.chk (([(⟨1,(IntKind.wrap .u64 (a0.Kind))⟩:Bd)]).length==1) ( AO (.b1 ([(⟨1,(IntKind.wrap .u64 (a0.Kind))⟩:Bd)]) x4 (↑x4.length:Int) (0:Int) (⟨([]:List Int)⟩:IM))))) ( .br (a0.Kind==18) ( .bind 254 (Nb a0) (fun(x5:List Int)=>.chk (([(⟨1,(IntKind.wrap .u64 (a0.Kind))⟩:Bd)]).length==1) ( AO (.b1 ([(⟨1,(IntKind.wrap .u64 (a0.Kind))⟩:Bd)]) x5 (↑x5.length:Int) (0:Int) (⟨([]:List Int)⟩:IM))))) ( .br (a0.Kind==19) ( .bind 254 (Nb a0) (fun(x6:List Int)=>.chk (([(⟨1,(IntKind.wrap .u64 (a0.Kind))⟩:Bd)]).length==1) ( AO (.b1 ([(⟨1,(IntKind.wrap .u64 (a0.Kind))⟩:Bd)]) x6 (↑x6.length:Int) (0:Int) (⟨([]:List Int)⟩:IM))))) ( .br (a0.Kind==8) ( .bind 254 (TL a0) (fun(x7:List Int)=>.chk (([(⟨1,(IntKind.wrap .u64 (a0.Kind))⟩:Bd)]).length==1) ( AO (.b1 ([(⟨1,(IntKind.wrap .u64 (a0.Kind))⟩:Bd)]) x7 (↑x7.length:Int) (0:Int) (⟨([8]:List Int)⟩:IM))))) ( .br (a0.Kind==9) ( .bind 254 (TL a0) (fun(x8:List Int)=>.chk (([(⟨1,(IntKind.wrap .u64 (a0.Kind))⟩:Bd)]).length==1) ( AO (.b1 ([(⟨1,(IntKind.wrap .u64 (a0.Kind))⟩:Bd)]) x8 (↑x8.length:Int) (0:Int) (⟨([8]:List Int)⟩:IM))))) ( .br (a0.Kind==20) ( .bind 254 (TV a0) (fun(x9:List Int)=>.chk (([(⟨1,(IntKind.wrap .u64 (a0.Kind))⟩:Bd)]).length==1) ( AO (.b1 ([(⟨1,(IntKind.wrap .u64 (a0.Kind))⟩:Bd)]) x9 (↑x9.length:Int) (0:Int) (⟨([1]:List Int)⟩:IM))))) ( .br (a0.Kind==21) ( .bind 254 (TV a0) (fun(x10:List Int)=>.chk (([(⟨1,(IntKind.wrap .u64 (a0.Kind))⟩:Bd)]).length==1) ( AO (.b1 ([(⟨1,(IntKind.wrap .u64 (a0.Kind))⟩:Bd)]) x10 (↑x10.length:Int) (0:Int) (⟨([1]:List Int)⟩:IM))))) ( .br (a0.Kind==0) ( .bind 254 (jY a0) (fun(x11:List Int)=>.chk (([(⟨1,(IntKind.wrap .u64 (a0.Kind))⟩:Bd)]).length==1) ( AO (.b1 ([(⟨1,(IntKind.wrap .u64 (a0.Kind))⟩:Bd)]) x11 (↑x11.length:Int) (0:Int) (⟨([1,2,2,2,2,2]:List Int)⟩:IM))))) ( .br (a0.Kind==1) ( .bind 254 (jV a0) (fun(x12:List Int)=>.chk (([(⟨1,(IntKind.wrap .u64 (a0.Kind))⟩:Bd)]).length==1) ( AO (.b1 ([(⟨1,(IntKind.wrap .u64 (a0.Kind))⟩:Bd)]) x12 (↑x12.length:Int) (0:Int) (⟨([5,2]:List Int)⟩:IM))))) ( .br (a0.Kind==15) ( .bind 254 (jX a0) (fun(x13:List Int)=>.chk (([(⟨1,(IntKind.wrap .u64 (a0.Kind))⟩:Bd)]).length==1) ( AO (.b1 ([(⟨1,(IntKind.wrap .u64 (a0.Kind))⟩:Bd)]) x13 (↑x13.length:Int) (0:Int) (⟨([1,2,2,2,2]:List Int)⟩:IM))))) ( .br (a0.Kind==2) ( .bind 254 (jS a0) (fun(x14:List Int)=>.chk (([(⟨1,(IntKind.wrap .u64 (a0.Kind))⟩:Bd)]).length==1) ( AO (.b1 ([(⟨1,(IntKind.wrap .u64 (a0.Kind))⟩:Bd)]) x14 (↑x14.length:Int) (0:Int) (⟨([1]:List Int)⟩:IM))))) ( .br (a0.Kind==3) ( .bind 254 (jG a0) (fun(x15:List Int)=>.chk (([(⟨1,(IntKind.wrap .u64 (a0.Kind))⟩:Bd)]).length==1) ( AO (.b1 ([(⟨1,(IntKind.wrap .u64 (a0.Kind))⟩:Bd)]) x15 (↑x15.length:Int) (0:Int) (⟨([8,8]:List Int)⟩:IM))))) ( .br (a0.Kind==4) ( .bind 254 (jM a0) (fun(x16:List Int)=>.chk (([(⟨1,(IntKind.wrap .u64 (a0.Kind))⟩:Bd)]).length==1) ( AO (.b1 ([(⟨1,(IntKind.wrap .u64 (a0.Kind))⟩:Bd)]) x16 (↑x16.length:Int) (0:Int) (⟨([8]:List Int)⟩:IM))))) ( .br (a0.Kind==7) ( .bind 254 (jQ a0) (fun(x17:List Int)=>.chk (([(⟨1,(IntKind.wrap .u64 (a0.Kind))⟩:Bd)]).length==1) ( AO (.b1 ([(⟨1,(IntKind.wrap .u64 (a0.Kind))⟩:Bd)]) x17 (↑x17.length:Int) (0:Int) (⟨([1]:List Int)⟩:IM))))) ( .br (a0.Kind==12) ( .bind 254 (jH a0) (fun(x18:List Int)=>.chk (([(⟨1,(IntKind.wrap .u64 (a0.Kind))⟩:Bd)]).length==1) ( AO (.b1 ([(⟨1,(IntKind.wrap .u64 (a0.Kind))⟩:Bd)]) x18 (↑x18.length:Int) (0:Int) (⟨([1]:List Int)⟩:IM))))) ( .br (a0.Kind==13) ( .bind 254 (jO a0) (fun(x19:List Int)=>.chk (([(⟨1,(IntKind.wrap .u64 (a0.Kind))⟩:Bd)]).length==1) ( AO (.b1 ([(⟨1,(IntKind.wrap .u64 (a0.Kind))⟩:Bd)]) x19 (↑x19.length:Int) (0:Int) (⟨([1,1]:List Int)⟩:IM))))) ( .fail))))))))))))))))))))
 | .b1 a0 a1 a2 a3 a4=>.br (decide (a3<a2)) ( .chk (decide (0<=a3/\a3<(↑a1.length:Int))) ( .bind 25 (a1[(Int.toNat a3)]?) (fun(x1:Int)=>.chk (decide (0<=a3/\a3<(↑a4.Z3v.length:Int))) ( .bind 3 (a4.Z3v[(Int.toNat a3)]?) (fun(x2:Int)=>.chk (([(⟨x2,x1⟩:Bd)]).length==1) ( .chk (kL a0) ( .chk (kA (a0.length+([(⟨x2,x1⟩:Bd)]).length) 16) ( .chk (kL (a0++[(⟨x2,x1⟩:Bd)])) ( AO (.b1 (a0++[(⟨x2,x1⟩:Bd)]) a1 a2 (AP (a3+1)) a4)))))))))) ( .chk (kL a0) ( .bind 120 (QF a0) (fun(x3:(List Int)×Int)=>AA (x3.1,x3.2))))
def GY (a0:AL):Option ((List Int)×Int):=AV GX (.b0 a0)
def Z63:Lay:=⟨[5,6,26,27,28],[KP,[.own 252 2],[.s 25 1],KP,KP],[.var [.s 3 1,.drop,.drop,.drop],.row true],⟨[PQ 0,.one (.own 252 1),OV 254,OV 3,OV 3],[.var 248 4 (.agg [VC 226 1,.und,.und,.und]),.row 252 true]⟩⟩
def ZjU:Nat->Option Lay
 | 7=>some Z63
 | _=>none
def ZjC:zY->Ac U
 | .b0 a0=>Ai Tryz.f151 [156] (a0,())
 | .b1 a0 a1 a2 a3 a4=>AA3 Tryz.f151 [1,1,1,1,0,1,0,0,0] Z63 (a1,a2,a3,a4.Z3v,a0,())
theorem ZiR:AA1 151 [156] 120 (fun x=>GY x.1) rfl:=Aj (mc ZjL (mc Z6A (mc ZW (mc Z5U (mc Z69 (mc Z5W (mc Z5I (mc Z5M (mc Z5F (mc Z5O (mc Z5z (mc Z5J (mc Z5Z (mc Z5b (mc Z5B Ag))))))))))))))) Ah ZjU ZjC Tryz.func151 (fun p=>by cases p<;>kernel_rfl) (by kernel_rfl) fun _=>rfl
inductive Z1p where
 | b0 (a0:BU) (a1:Aw)
 | b1 (a0:BU) (a1:Aw) (a2:BU)
def Xw:Z1p->Tr U ((BU×Int)⊕Z1p)
 | .b0 a0 a1=>.bind 1355 (qJ a0) (fun(y1:Rh)=>.bind 4 (Wh a1) (fun(x2:Bool)=>.br x2 ( .chk (kL y1.q0.Az) ( AA (y1.q0,1))) ( .br (decide ((↑a1.Payload.length:Int)>251)) ( .chk (kL y1.q0.Az) ( AA (y1.q0,1))) ( .bind 45 (Tj (⟨0,0,0,a1⟩:BM)) (fun(x3:Int)=>.br (x3 != 0) ( .chk (kL y1.q0.Az) ( AA (y1.q0,1))) ( .chk (kL y1.q0.Az) ( AO (.b1 y1.q0 a1 Jc))))))))
 | .b1 a0 a1 a2=>.chk (kL a0.Az) ( .br (decide ((↑a0.Az.length:Int)>=64)) ( .chk (kL a0.Az) ( AA (a0,8))) ( .bind 68 (YC a1) (fun(x1:Aw)=>.chk (([x1]).length==1) ( .chk (kL a0.Az) ( .chk (kA (a0.Az.length+([x1]).length) 32) ( .chk (kL (a0.Az++[x1])) ( AA (({ a0 with Az:=(a0.Az++[x1]) }:BU),(0:Int)))))))))
def Z1d (a0:BU) (a1:Aw):Option (BU×Int):=AV Xw (.b0 a0 a1)
def Z8P:Lay:=⟨[2,3,4],[KP,KP,KP],[.var k8,.var [.keep,.s 5 1],.var k6,.row true],⟨[PQ 0,PQ 1,PQ 2],[.var 33 7 (Vl 3),VA 68 2,VA 33 7,.row 68 true]⟩⟩
def Zs5:Nat->Option Lay
 | 4=>some Z8P
 | _=>none
def Zo7:Z1p->Ac U
 | .b0 a0 a1=>Ai Tryz.f152 [33,68] (a0,a1,())
 | .b1 a0 a1 a2=>Ae Tryz.f152 [1,1,1,0,0] Z8P (((),((),((),()))),((TC a0),((a1,()),((a2,()),(a0.Az,())))))
theorem Zoy:AA1 152 [33,68] 189 (fun x=>Z1d x.1 x.2.1) rfl:=Aj (mc Z6E (mc Z0v (mc Z7 Ag))) (hc [] ZbO Ah) Zs5 Zo7 Tryz.func152 (fun p=>by cases p<;>kernel_rfl) (by kernel_rfl) fun _=>rfl
inductive zV where
 | b0 (a0:FO)
 | b1 (a0 a1:List AL) (a2 a3:Int) (a4:FO) (a5:List Aw)
 | b2 (a0 a1:List AL) (a2 a3:Int) (a4:FO) (a5:AL) (a6:List Aw)
 | b3 (a0 a1:List AL) (a2 a3:Int) (a4:FO) (a5:AL) (a6:List Aw)
 | b4 (a0 a1:List AL) (a2 a3:Int) (a4:FO) (a5:List Aw)
def Kt:zV->Tr U (Tf⊕zV)
 | .b0 a0=>.chk (kL a0.Link.BA) ( .chk (kL a0.Link.BB.Az) ( .chk ((([]:List AL).length==0)&&(kL a0.Link.BA&&(kL a0.Link.Ak.BI&&(kL a0.Link.Ak.Bz&&(kL a0.Link.DJ&&(kL a0.Link.BA&&(kL a0.Dt&&(kL a0.Link.BB.Az&&(kL a0.Link.Ak.BI&&kL a0.Link.Ak.Bz))))))))) ( AO (.b1 ([]:List AL) a0.Link.BA (↑a0.Link.BA.length:Int) (0:Int) a0 a0.Link.BB.Az))))
 | .b1 a0 a1 a2 a3 a4 a5=>.br (decide (a3<a2)) ( .chk (kL a1) ( .chk (decide (0<=a3/\a3<(↑a1.length:Int))) ( .chk (kL a1) ( .bind 156 (a1[(Int.toNat a3)]?) (fun(x1:AL)=>.br (decide ((↑a4.Link.BB.Az.length:Int)>=64)) ( .chk (kL a0&&(kL a1&&(kL a4.Link.Ak.BI&&(kL a4.Link.Ak.Bz&&(kL a4.Link.DJ&&(kL a1&&(kL a4.Dt&&(kL a5&&(kL a4.Link.Ak.BI&&kL a4.Link.Ak.Bz))))))))) ( AO (.b2 a0 a1 a2 a3 (⟨({ a4.Link with BA:=a1 }:A8),a4.Dt⟩:FO) x1 a5))) ( .chk (kL a4.Link.Ak.BI) ( .chk (kL a4.Link.Ak.Bz) ( .bind 4 (zB a4.Link.Ak) (fun(x2:Bool)=>.br x2 ( .bind 4 (Z01 x1.Kind) (fun(x3:Bool)=>.br (!x3) ( .chk (kL a0&&(kL a1&&(kL a4.Link.Ak.BI&&(kL a4.Link.Ak.Bz&&(kL a4.Link.DJ&&(kL a1&&(kL a4.Dt&&(kL a5&&(kL a4.Link.Ak.BI&&kL a4.Link.Ak.Bz))))))))) ( AO (.b2 a0 a1 a2 a3 (⟨({ a4.Link with BA:=a1 }:A8),a4.Dt⟩:FO) x1 a5))) ( .chk (kL a0&&(kL a1&&(kL a4.Link.Ak.BI&&(kL a4.Link.Ak.Bz&&(kL a4.Link.DJ&&(kL a1&&(kL a4.Dt&&(kL a5&&(kL a4.Link.Ak.BI&&kL a4.Link.Ak.Bz))))))))) ( AO (.b3 a0 a1 a2 a3 (⟨({ a4.Link with BA:=a1 }:A8),a4.Dt⟩:FO) x1 a5))))) ( .chk (kL a0&&(kL a1&&(kL a4.Link.Ak.BI&&(kL a4.Link.Ak.Bz&&(kL a4.Link.DJ&&(kL a1&&(kL a4.Dt&&(kL a5&&(kL a4.Link.Ak.BI&&kL a4.Link.Ak.Bz))))))))) ( AO (.b3 a0 a1 a2 a3 (⟨({ a4.Link with BA:=a1 }:A8),a4.Dt⟩:FO) x1 a5)))))))))))) ( .chk (kL a4.Link.Ak.BI&&(kL a4.Link.Ak.Bz&&(kL a4.Link.DJ&&(kL a0&&(kL a4.Dt&&(kL a5&&(kL a4.Link.Ak.BI&&kL a4.Link.Ak.Bz))))))) ( AA (⟨(⟨({ a4.Link with BA:=a0 }:A8),a4.Dt⟩:FO),a5,a1⟩:Tf)))
 | .b2 a0 a1 a2 a3 a4 a5 a6=>.chk (([a5]).length==1) ( .chk (kL a0) ( .chk (kA (a0.length+([a5]).length) 120) ( .chk (kL (a0++[a5])&&(kL a1&&(kL a4.Link.Ak.BI&&(kL a4.Link.Ak.Bz&&(kL a4.Link.DJ&&(kL a1&&(kL a4.Dt&&(kL a6&&(kL a4.Link.Ak.BI&&kL a4.Link.Ak.Bz))))))))) ( AO (.b4 (a0++[a5]) a1 a2 a3 (⟨({ a4.Link with BA:=a1 }:A8),a4.Dt⟩:FO) a6)))))
 | .b3 a0 a1 a2 a3 a4 a5 a6=>.bind 120 (GY a5) (fun(x1:(List Int)×Int)=>.br (x1.2 != 0) ( .chk (kL a0&&(kL a1&&(kL a4.Link.Ak.BI&&(kL a4.Link.Ak.Bz&&(kL a4.Link.DJ&&(kL a1&&(kL a4.Dt&&(kL a6&&(kL a4.Link.Ak.BI&&kL a4.Link.Ak.Bz))))))))) ( AO (.b4 a0 a1 a2 a3 (⟨({ a4.Link with BA:=a1 }:A8),a4.Dt⟩:FO) a6))) ( .bind 189 (Z1d a4.Link.BB (⟨3,x1.1⟩:Aw)) (fun(x2:BU×Int)=>.chk (kL a0&&(kL a1&&(kL a4.Link.Ak.BI&&(kL a4.Link.Ak.Bz&&(kL a4.Link.DJ&&(kL a1&&(kL a4.Dt&&(kL a6&&(kL a4.Link.Ak.BI&&kL a4.Link.Ak.Bz))))))))) ( AO (.b4 a0 a1 a2 a3 (⟨({ a4.Link with BB:=x2.1,BA:=a1 }:A8),a4.Dt⟩:FO) a6)))))
 | .b4 a0 a1 a2 a3 a4 a5=>.chk (kL a0&&(kL a1&&(kL a4.Link.Ak.BI&&(kL a4.Link.Ak.Bz&&(kL a4.Link.DJ&&(kL a1&&(kL a4.Dt&&(kL a5&&(kL a4.Link.Ak.BI&&kL a4.Link.Ak.Bz))))))))) ( AO (.b1 a0 a1 a2 (AP (a3+1)) (⟨({ a4.Link with BA:=a1 }:A8),a4.Dt⟩:FO) a5))
def Z4 (a0:FO):Option Tf:=AV Kt (.b0 a0)
def Z6b:Shape:=⟨[PQ 0],[.var 118 67 (ag3 1),.row 68 true,.row 156 true,.row 138 true,.row 99 true,.row 156 true,.row 148 true]⟩
def ZgT:Shape:=⟨[],[.var 118 67 (.agg [VC 3 1,.v 28 11 true,VC 3 1,VC 30 1,VC 3 1,VC 3 1,VC 3 1,VC 3 1,VC 3 1,VC 4 1,VC 4 1,VC 4 1,VC 4 1,VC 4 1,.v 33 7 true,.v 35 3 true,VC 3 1,VC 3 1,VC 3 1,.own 156 2,VC 3 1,VC 3 1,.own 138 3,VC 4 1,VC 25 1,VC 25 1,VC 4 1,VC 4 1,VC 3 1,VC 3 1,VC 3 1,VC 25 1,VC 25 1,VC 25 1,VC 3 1,VC 3 1,.v 41 7 true,VC 29 1,.own 99 4,.own 156 7,VC 3 1,VC 25 1,.own 148 6]),.row 68 false,.row 156 false,.row 138 false,.row 99 true,.row 156 true,.row 148 true,.row 156 true]⟩
noncomputable def Zk3:HMod U:=⟨[KP],[.var k14,.row true,.row true,.row true,.row true,.row true,.row true],Z6b,ZgT,false,1354,fun(y:Tf)=>((),((Vj y.q0),(y.q1,(y.q0.Link.Ak.BI,(y.q0.Link.Ak.Bz,(y.q0.Link.DJ,(y.q2,(y.q0.Dt,(y.q0.Link.BA,()))))))))),fun x=>Z4 (match x with|⟨_,⟨v0,v2,v4,v6,v8,v10,v12,v13,v14,v15,v16,v17,v18,v19,v20,v21,v22,v23,v24,v25,v26,v27,v28,v29,v30,v31,v32,v33,v34,v35,v36,v37,v38,v39,v40,v41,v42,v43,v44,v45,v46,v47,v48,_⟩,v1,v3,v5,v7,v9,v11,_⟩=>(⟨(⟨v0,v2,v4,v6,v8,v10,v12,v13,v14,v15,v16,v17,v18,v19,(⟨v20,v21,v1,v22,v23,v24,v25⟩:BU),v26,(⟨v27,v28,v29,v3,v30,v31,v5,v32,v33,v34,v35,v36,v37,v38,v39,v40,v41,v42,v43,v44⟩:Aa),v45,v46,v7,v9,v47,v48⟩:A8),v11⟩:FO)),okS rfl⟩
def jL:Lay:=⟨[0,2,11,12,13],[KP,[.own 156 15],[.own 156 15],KP,KP],[.var k10,.row false,.row false,.row false,.row true,.row true,.row true,.row true],⟨[PQ 0,.one (.own 156 7),.one (.own 156 5),OV 3,OV 3],[.var 118 67 (ag2 2),.row 68 false,.row 156 false,.row 138 false,.row 99 true,.row 156 true,.row 148 true,.row 156 true]⟩⟩
def jK:Lay:=⟨[0,2,4,11,12,13],[KP,[.own 156 15],KP,[.own 156 15],KP,KP],[.var k10,.row false,.row false,.row false,.row true,.row true,.row true,.row true,.var k0],⟨[PQ 0,.one (.own 156 7),PQ 8,.one (.own 156 5),OV 3,OV 3],[.var 118 67 (ag2 2),.row 68 false,.row 156 false,.row 138 false,.row 99 true,.row 156 true,.row 148 true,.row 156 true,VA 156 15]⟩⟩
def Zka:Nat->Option Lay
 | 2=>some jL
 | 5=>some jK
 | 6=>some jK
 | 9=>some jL
 | _=>none
def Zja:zV->Ac U
 | .b0 a0=>Fe Tryz.f64 Z6b (((),()),((a0.Link.Bl,(a0.Link.Ce,(a0.Link.Clock,(a0.Link.Event,(a0.Link.Last,(a0.Link.Ed,(a0.Link.Size,(a0.Link.Sync,(a0.Link.JR,(a0.Link.Hw,(a0.Link.J6,(a0.Link.Good,(a0.Link.Fp,(a0.Link.More,(a0.Link.BB.SN,(a0.Link.BB.EF,(a0.Link.BB.Open,(a0.Link.BB.Empty,(a0.Link.BB.Fp,(a0.Link.BB.Taken,(a0.Link.GM,(a0.Link.Ak.Bl,(a0.Link.Ak.Own,(a0.Link.Ak.Since,(a0.Link.Ak.Other,(a0.Link.Ak.Ir,(a0.Link.Ak.Told,(a0.Link.Ak.CQ,(a0.Link.Ak.MB,(a0.Link.Ak.Hl,(a0.Link.Ak.JK,(a0.Link.Ak.Version,(a0.Link.Ak.Length,(a0.Link.Ak.Limit,(a0.Link.Ak.Bo,(a0.Link.Ak.JW,(a0.Link.Ak.Mark,(a0.Link.Ak.EI,(a0.Link.Ak.GR,(a0.Link.ED,(a0.Link.Key,(a0.Link.Bc,(a0.Link.I4,()))))))))))))))))))))))))))))))))))))))))))),(a0.Link.BB.Az,(a0.Link.Ak.BI,(a0.Link.Ak.Bz,(a0.Link.DJ,(a0.Link.BA,(a0.Dt,()))))))))
 | .b1 a0 a1 a2 a3 a4 a5=>Ae Tryz.f64 [1,0,1,0,0,0] jL (((),((),((),((a2,()),((a3,()),()))))),((Vj a4),(a5,(a4.Link.Ak.BI,(a4.Link.Ak.Bz,(a4.Link.DJ,(a1,(a4.Dt,(a0,())))))))))
 | .b2 a0 a1 a2 a3 a4 a5 a6=>Ae Tryz.f64 [1,0,1,0,0,1,1,0,0,1,0,1,0,0] jK (((),((),((),((),((a2,()),((a3,()),())))))),((Vj a4),(a6,(a4.Link.Ak.BI,(a4.Link.Ak.Bz,(a4.Link.DJ,(a1,(a4.Dt,(a0,((a5,()),()))))))))))
 | .b3 a0 a1 a2 a3 a4 a5 a6=>Ae Tryz.f64 [1,0,1,0,0,1,1,0,0,1,1,0] jK (((),((),((),((),((a2,()),((a3,()),())))))),((Vj a4),(a6,(a4.Link.Ak.BI,(a4.Link.Ak.Bz,(a4.Link.DJ,(a1,(a4.Dt,(a0,((a5,()),()))))))))))
 | .b4 a0 a1 a2 a3 a4 a5=>Ae Tryz.f64 [1,0,1,0,0,1,1,1] jL (((),((),((),((a2,()),((a3,()),()))))),((Vj a4),(a5,(a4.Link.Ak.BI,(a4.Link.Ak.Bz,(a4.Link.DJ,(a1,(a4.Dt,(a0,())))))))))
theorem ZiO:Dv Tryz.prog B0 64 Zk3:=okR (mc Zia (mc ZlF (mc ZiR (mc Zoy Ag)))) Ah Zka [] [.var k10,.row false,.row false,.row false,.row true,.row true,.row true,.row true] 7 Zja Tryz.func64 (fun p=>by cases p<;>kernel_rfl) (by kernel_rfl) fun x=>by kernel_rfl
inductive Z1x where
 | b0 (a0:A8)
 | b1 (a0:A8) (a1:FO) (a2:BM)
def Xz:Z1x->Tr U ((A8×(List Int))⊕Z1x)
 | .b0 a0=>.bind 1353 (Z1t a0) (fun(y1:UL)=>.bind 4 (yH (ZrF y1.q0)) (fun(x2:Bool)=>.br (!x2) ( .chk (kL y1.q0.Link.BB.Az) ( .chk (kL y1.q0.Link.Ak.BI) ( .chk (kL y1.q0.Link.Ak.Bz) ( .chk (kL y1.q0.Link.DJ) ( .chk (kL y1.q0.Link.BA) ( .chk (([]:List Int).length==0) ( AA (y1.q0.Link,([]:List Int))))))))) ( .chk (kL y1.q0.Link.BB.Az&&(kL y1.q0.Link.Ak.BI&&(kL y1.q0.Link.Ak.Bz&&(kL y1.q0.Link.DJ&&(kL y1.q0.Link.BA&&kL y1.q0.Dt))))) ( .bind 1354 (Z4 y1.q0) (fun(y3:Tf)=>.bind 75 (oK y3.q0.Link.BB) (fun(x4:BU×BM)=>.br y3.q0.Link.ED.Jp ( .bind 71 (kR y3.q0.Link.ED x4.2) (fun(x5:BM×Int)=>.br (x5.2==0) ( .chk (kL y3.q0.Link.Ak.BI&&(kL y3.q0.Link.Ak.Bz&&(kL y3.q0.Link.DJ&&(kL y3.q0.Link.BA&&(kL y3.q0.Dt&&(kL y3.q0.Link.Ak.BI&&kL y3.q0.Link.Ak.Bz)))))) ( AO (.b1 Dp (⟨({ y3.q0.Link with More:=(x4.2.MD==1),BB:=x4.1 }:A8),y3.q0.Dt⟩:FO) x5.1))) ( .chk (kL y3.q0.Link.Ak.BI&&(kL y3.q0.Link.Ak.Bz&&(kL y3.q0.Link.DJ&&(kL y3.q0.Link.BA&&(kL y3.q0.Dt&&(kL y3.q0.Link.Ak.BI&&kL y3.q0.Link.Ak.Bz)))))) ( AO (.b1 Dp (⟨({ y3.q0.Link with More:=(x4.2.MD==1),BB:=x4.1 }:A8),y3.q0.Dt⟩:FO) x4.2))))) ( .chk (kL y3.q0.Link.Ak.BI&&(kL y3.q0.Link.Ak.Bz&&(kL y3.q0.Link.DJ&&(kL y3.q0.Link.BA&&(kL y3.q0.Dt&&(kL y3.q0.Link.Ak.BI&&kL y3.q0.Link.Ak.Bz)))))) ( AO (.b1 Dp (⟨({ y3.q0.Link with More:=(x4.2.MD==1),BB:=x4.1 }:A8),y3.q0.Dt⟩:FO) x4.2)))))))))
 | .b1 a0 a1 a2=>.bind 120 (kF a2) (fun(x1:(List Int)×Int)=>.chk (kL a1.Link.Ak.BI) ( .chk (kL a1.Link.Ak.Bz) ( .chk (kL a1.Link.DJ) ( .chk (kL a1.Link.BA) ( .bind 3 (kY a1.Link) (fun(x2:Int)=>.bind 62 (mO a1.Link.Ce.NT x1.1) (fun(x3:List Int)=>.bind 62 (Zz x2 x3) (fun(x4:List Int)=>.chk (kL a1.Link.Ak.BI) ( .chk (kL a1.Link.Ak.Bz) ( .chk (kL a1.Link.DJ) ( .chk (kL a1.Link.BA) ( AA (a1.Link,x4)))))))))))))
def Z12 (a0:A8):Option (A8×(List Int)):=AV Xz (.b0 a0)
def Z8q:Lay:=⟨[2,4,5],[KP,KP,KP],[.var k2,.var k10,.var k4,.row false,.row false,.row true,.row true,.row true],⟨[PQ 0,PQ 1,PQ 2],[VA 44 66,.var 118 67 (ag2 3),VA 70 5,.row 156 false,.row 138 false,.row 99 true,.row 156 true,.row 148 true]⟩⟩
def ZrH:Nat->Option Lay
 | 12=>some Z8q
 | _=>none
def Zo2:Z1x->Ac U
 | .b0 a0=>Ai Tryz.f22 [44] (a0,())
 | .b1 a0 a1 a2=>Ae Tryz.f22 [1,1,1,1,1,1,1,1,0] Z8q (((),((),((),()))),((a0,()),((Vj a1),((a2,()),(a1.Link.Ak.BI,(a1.Link.Ak.Bz,(a1.Link.DJ,(a1.Link.BA,(a1.Dt,())))))))))
theorem Zpa:AA1 22 [44] 63 (fun x=>Z12 x.1) rfl:=Aj (mc Z6W (mc ZtZ (mc ZgN (mc Zl1 (mc Zjl (mc Zkr (mc ZnJ Ag))))))) (hc [] Zoz (hc [] ZiO Ah)) ZrH Zo2 Tryz.func22 (fun p=>by cases p<;>kernel_rfl) (by kernel_rfl) fun _=>rfl
end
noncomputable section
inductive zG where
 | b0 (a0:List Aw)
 | b1 (a0 a1:List Aw) (a2:Int)
def jW:zG->Tr U ((List Aw)⊕zG)
 | .b0 a0=>.chk (([]:List Aw).length==0) ( AO (.b1 a0 ([]:List Aw) (0:Int)))
 | .b1 a0 a1 a2=>.br (decide (a2<(↑a0.length:Int))) ( .chk (decide (0<=a2/\a2<(↑a0.length:Int))) ( .bind 68 (a0[(Int.toNat a2)]?) (fun(x1:Aw)=>.chk (decide (0<=a2/\a2<(↑a0.length:Int))) ( .bind 68 (a0[(Int.toNat a2)]?) (fun(x2:Aw)=>.chk (([]:List Int).length==0) ( .chk (kA (0+x2.Payload.length) 1) ( .chk (kL (([]:List Int)++x2.Payload)) ( .chk (([(⟨x1.Bq,(([]:List Int)++x2.Payload)⟩:Aw)]).length==1) ( .chk (kL a1) ( .chk (kA (a1.length+([(⟨x1.Bq,(([]:List Int)++x2.Payload)⟩:Aw)]).length) 32) ( .chk (kL (a1++[(⟨x1.Bq,(([]:List Int)++x2.Payload)⟩:Aw)])) ( AO (.b1 a0 (a1++[(⟨x1.Bq,(([]:List Int)++x2.Payload)⟩:Aw)]) (AP (a2+1))))))))))))))) ( .chk (kL a1) ( AA a1))
def zN (a0:List Aw):Option (List Aw):=AV jW (.b0 a0)
def Z5R:Lay:=⟨[0,3,4],[[.s 68 2],[.own 68 2],KP],[.row true],⟨[OV 31,.one (.own 68 0),OV 3],[.row 68 true]⟩⟩
def ZiG:Nat->Option Lay
 | 3=>some Z5R
 | _=>none
def Zix:zG->Ac U
 | .b0 a0=>Ai Tryz.f69 [31] (a0,())
 | .b1 a0 a1 a2=>AA3 Tryz.f69 [1,1,0,1,0,0,0,0] Z5R (a0,a2,a1,())
theorem Zhl:AA1 69 [31] 31 (fun x=>zN x.1) rfl:=Aj Ag Ah ZiG Zix Tryz.func69 (fun p=>by cases p<;>kernel_rfl) (by kernel_rfl) fun _=>rfl
inductive aO where
 | b0 (a0:A8)
def Z1F:aO->Tr U (A8⊕aO)
 | .b0 a0=>.bind 31 (zN a0.BB.Az) (fun(x1:List Aw)=>.chk (([]:List AL).length==0) ( .chk (kA (0+a0.Ak.BI.length) 120) ( .chk (([]:List BN).length==0) ( .chk (kA (0+a0.Ak.Bz.length) 64) ( .chk (([]:List BR).length==0) ( .chk (kA (0+a0.DJ.length) 16) ( .chk (([]:List AL).length==0) ( .chk (kA (0+a0.BA.length) 120) ( .chk (kL (([]:List AL)++a0.Ak.BI)) ( .chk (kL (([]:List BN)++a0.Ak.Bz)) ( .chk (kL (([]:List BR)++a0.DJ)) ( .chk (kL (([]:List AL)++a0.BA)) ( AA ({ a0 with BB:=({ a0.BB with Az:=x1 }:BU),Ak:=({ a0.Ak with BI:=(([]:List AL)++a0.Ak.BI),Bz:=(([]:List BN)++a0.Ak.Bz) }:Aa),DJ:=(([]:List BR)++a0.DJ),BA:=(([]:List AL)++a0.BA) }:A8))))))))))))))
def U1 (a0:A8):Option A8:=AV Z1F (.b0 a0)
def ZsT:aO->Ac U
 | .b0 a0=>Ai Tryz.f23 [44] (a0,())
theorem ZqT:AA1 23 [44] 44 (fun x=>U1 x.1) rfl:=Aj (mc Zhl Ag) Ah AN ZsT Tryz.func23 (fun p=>by cases p<;>kernel_rfl) (by kernel_rfl) fun _=>rfl
inductive WT where
 | b0 (a0:Il)
def yK:WT->Tr U (Bool⊕WT)
 | .b0 a0=>.bind 4 (Z8i) (fun(x1:Bool)=>.br (!x1) ( AA false) ( .bind 60 (Zb a0) (fun(x2:A8×Int×Bool)=>.br (!x2.2.2) ( AA true) ( .bind 44 (U1 x2.1) (fun(x3:A8)=>.bind 63 (Z12 x3) (fun(x4:A8×(List Int))=>.bind 63 (UZ x2.1) (fun(x5:A8×(List Int))=>.chk (Jd U 5 x4.2) ( .chk (Jd U 5 x5.2) ( .br ((strOf U 5 x4.2).toList==(strOf U 5 x5.2).toList) ( .bind 4 (Z2e x4.1 x5.1) (fun(x6:Bool)=>.br x6 ( .bind 44 (U1 x2.1) (fun(x7:A8)=>.bind 3 (kY x7) (fun(x8:Int)=>.bind 3 (UA x2.1) (fun(x9:Int)=>.br (x8==x9) ( .bind 44 (U1 x2.1) (fun(x10:A8)=>.bind 52 (ZX x10) (fun(x11:Hq)=>.bind 52 (mD x2.1) (fun(x12:Hq)=>.br ((x11.Start==x12.Start)&&((x11.End==x12.End)&&true)) ( .bind 44 (U1 x2.1) (fun(x13:A8)=>.bind 4 (Z0j x13) (fun(x14:Bool)=>.bind 4 (UN x2.1) (fun(x15:Bool)=>AA (x14==x15))))) ( AA false))))) ( AA false))))) ( AA false))) ( AA false))))))))))
def Z6i (a0:Il):Option Bool:=AV yK (.b0 a0)
def WO:Af U:=⟨[59],4,fun x=>Z6i x.1,by decide⟩
def ZiE:WT->Ac U
 | .b0 a0=>Ai Tryz.f4 [59] (a0,())
theorem Zil:AA0 4 WO:=Aj (mc Zr2 (mc Zla (mc Z6W (mc ZB (mc Zm5 (mc ZnI (mc ZmB (mc Z0k (mc Zju (mc Zpa (mc ZqT (mc ZaO Ag)))))))))))) Ah AN ZiE Tryz.func4 (fun p=>by cases p<;>kernel_rfl) (by kernel_rfl) fun _=>rfl
end
end Go.Proofs.YtjodhcdmhobmoaaGreatDoor
