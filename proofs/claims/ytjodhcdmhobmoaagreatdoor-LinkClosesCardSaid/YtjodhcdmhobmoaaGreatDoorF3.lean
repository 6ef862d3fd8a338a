/-
  A part of the proof.
-/
import Derived.Test.YtjodhcdmhobmoaaGreatDoorF2
import Derived.RangeFuncWrites
import Derived.RangeFuncBox
import Derived.RangeFuncLeaves
import Derived.WalkKit
import Derived.OwnWalkIn
import Derived.TacticsInMore
import Derived.RegionIn
import Derived.LoopNIn
import Derived.LoopIn
import Derived.Shelf.Abstract
import Derived.IntWalk
import Derived.Lib.Hide
set_option linter.unusedVariables false
set_option linter.unusedSimpArgs false
namespace Go.Proofs.YtjodhcdmhobmoaaGreatDoor
open Go Go.RowKit Go.Shelf
attribute [local go_sem] Oper.semAt_some
set_option maxRecDepth 100000
def hasB (m:Int) (c:Nat):Bool:=(bits .and .u64 (m / 2 ^ c) 1==1)
def chL (m:Int) (k:Nat):List Nat:=(List.range k).filter (hasB m)
theorem ZOA (F:Fence) (n:Nat) (hHAS:F.fn 223) (hro:F.round=none) (m:Int) (c:Nat) (hc:c<37) (W:World) {b:Bool} (hb:hasB m c=b):CallsIn F n Tryz.prog 223 #[.int .u64 m,.int .i64 c] W fun e W' =>e = .returned (.bool b)/\W' = W:=by
 refine callsIn_of_wp Tryz.func223 rfl hHAS ?_ hro
 simp only [Tryz.ntmps223,List.size_toArray,List.length_cons,List.length_nil,Nat.reduceAdd,Nat.reduceSub,Array.replicate_succ,Array.replicate_zero,List.push_toArray,List.append_toArray,List.nil_append,List.cons_append]
 have HB:=Lib.hid hb;clear hb
 gi_wp2
 go_ret
 exact⟨by rw [<- HB.out];rfl,rfl⟩
theorem Zus (m:Int) (k:Nat):chL m (k+1)=chL m k++if hasB m k then [k] else []:=by
 unfold chL
 rw [List.range_succ,List.filter_append]
 cases h:hasB m k<;>simp [h]
theorem ZPE (m:Int) {k:Nat} (h:k<=37):chL m k <+: chL m 37:=by
 obtain⟨d,hd⟩:∃d,37=k+d:=⟨37 - k,by omega⟩
 rw [hd]
 unfold chL
 rw [List.range_add,List.filter_append]
 exact List.prefix_append _ _
set_option maxHeartbeats 1000000 in
theorem all1_in (F:Fence) (n:Nat) (hHAS:F.fn 223) (hALL1:F.fn 347) (hro:F.round=none) (hn:1<=n) (m:Int) (l Bm:Nat) (J Jx:List Nat->World->Prop)
  (hY:∀pre x W,J pre W->pre.length<(chL m 37).length->YieldAt F (n - 1) Tryz.prog l #[.int .i64 (x:Nat)] W fun e W' =>
   (e = .returned (.bool true)/\J (pre++[x]) W' /\ W'.cell? ⟨Bm,0,none⟩=W.cell? ⟨Bm,0,none⟩)\/(e = .returned (.bool false)/\Jx (pre++[x]) W'))
  (W:World) (hBm:W.cell? ⟨Bm,0,none⟩=some (.int .u64 m)) (h0:J [] W) :
  CallsIn F n Tryz.prog 347 #[.func (.yield l) #[] #[],.pointer (some ⟨Bm,0,none⟩)] W fun e W' =>(∃v,e = .returned v) /\
   ((∃ys,ys=chL m 37/\J ys W')\/(∃pre,pre <+: chL m 37/\Jx pre W')):=by
 refine callsIn_of_wp Tryz.func347 rfl hALL1 ?_ hro
 simp only [Tryz.ntmps347,List.size_toArray,List.length_cons,List.length_nil,Nat.reduceAdd,Nat.reduceSub,Array.replicate_succ,Array.replicate_zero,List.push_toArray,List.append_toArray,List.nil_append,List.cons_append]
 gi_wp2
 gi_loopw [4] (fun i wr=>∃k:Nat,k<=37/\i = .int .i64 k/\J (chL m k) wr/\wr.cell? ⟨Bm,0,none⟩=some (.int .u64 m))
  (fun i _=>37 - (intOf i).toNat)
 case atStart=>exact⟨0,by omega,rfl,h0,hBm⟩
 case round=>
  obtain⟨k,hk,rfl,hJ,hcell⟩:=hrel
  by_cases hlt:k<37
  ·have hs:=Zus m k
   have hpre:=ZPE m (k:=k+1) (by omega)
   cases hb:hasB m k with
   | false=>
    rw [hb] at hs
    simp only [Bool.false_eq_true,if_false,List.append_nil] at hs
    have HS:=Lib.hid hs;clear hs hpre
    gi_wp2_with (gi_at_call 223;refine(ZOA F (n - 1) hHAS hro m k hlt _ hb).mono ?_;rintro e w' ⟨rfl,rfl⟩)
    refine⟨fun f h=>(by cases h),?_⟩
    gi_wp2
    go_roundw
    case rel=>exact⟨k+1,by omega,by go_num,by rw [HS.out];exact hJ,hcell⟩
    case measure=>simp [intOf];omega
   | true=>
    rw [hb] at hs
    simp only [if_true] at hs
    have hlen:(chL m k).length<(chL m 37).length:=by
     have:=hpre.length_le
     rw [hs] at this
     simp at this
     omega
    obtain⟨fn,tmps,assign,body,hy,hR⟩:=hY (chL m k) k wr hJ hlen
    have HS:=Lib.hid hs;have HP:=Lib.hid hpre;clear hs hpre hlen
    gi_wp2_with (gi_at_call 223;refine(ZOA F (n - 1) hHAS hro m k hlt _ hb).mono ?_;rintro e w' ⟨rfl,rfl⟩)
    refine hR.mono ?_
    rintro e W3 (⟨rfl,hJ3,hk3⟩|⟨rfl,hJx3⟩)
    ·have hc3:=hk3.trans hcell
     clear hk3
     gi_wp2
     go_roundw
     case rel=>exact⟨k+1,by omega,by go_num,by rw [HS.out];exact hJ3,hc3⟩
     case measure=>simp [intOf];omega
    ·gi_wp2
     refine bodyPost_ret (results_none rfl _ _ _) rfl ?_
     exact⟨⟨_,rfl⟩,.inr ⟨chL m k++[k],by rw [<- HS.out];exact HP.out,hJx3⟩⟩
  ·obtain rfl:k=37:=by omega
   gi_wp2
   go_end0
   exact⟨⟨_,rfl⟩,.inl ⟨_,rfl,hJ⟩⟩
def KpM (Bm:Nat) (A B:World):Prop:=B.cell? ⟨Bm,0,none⟩=A.cell? ⟨Bm,0,none⟩
theorem all_stops (F:Fence) (n:Nat) (hHAS:F.fn 223) (hALL1:F.fn 347) (hro:F.round=none) (hn:1<=n) (m:Int) (Bm:Nat) (w:World) (hBm:Bm<w.heap.size) (hc:w.cell? ⟨Bm,0,none⟩=some (.int .u64 m)) :
  SeqStopsK F n Tryz.prog 347 #[.pointer (some ⟨Bm,0,none⟩)] (fun x:Nat=>#[Value.int .i64 (x:Nat)]) (KpM Bm) (fun ys=>ys=chL m 37) (fun pre=>pre <+: chL m 37) (chL m 37).length w:=fun l J Jx W hW _ _ hY h0=>
 all1_in F n hHAS hALL1 hro hn m l Bm J Jx hY W ((hW.cell (p:=⟨Bm,0,none⟩) hBm).trans hc) h0
theorem all_in (F:Fence) (n:Nat) (hALL:F.fn 288) (hro:F.round=none) (m:Int) (w:World) :
  CallsIn F n Tryz.prog 288 #[.int .u64 m] w fun e w' =>e = .returned (.func (.func 347) #[] #[.pointer (some ⟨w.heap.size,0,none⟩)])/\w' = w.alloc (.cells #[.int .u64 m] 26):=by
 refine callsIn_of_wp Tryz.func288 rfl hALL ?_ hro
 simp only [Tryz.ntmps288,List.size_toArray,List.length_cons,List.length_nil,Nat.reduceAdd,Nat.reduceSub,Array.replicate_succ,Array.replicate_zero,List.push_toArray,List.append_toArray,List.nil_append,List.cons_append]
 gi_wp2
 go_ret
 exact⟨rfl,rfl⟩
def ZIW (m i:Int):Int:=if 0<=i/\i<(chL m 37).length then (((chL m 37)[i.toNat]?.getD 0:Nat):Int) else -1
theorem boxed_own {W W' : World} {row:Option Nat} {B B0:Nat} {t:TypeId} {v:Value} (h:Boxed W B t v) (hg:W.grownBy W' row) (hr:∀r,row=some r->B0<=r/\∃o:Obj,W.heap[r]? = some o/\o.isCells=false):Boxed W' B t v:=by
 refine h.kept hg ?_
 intro e
 obtain⟨_,o,ho,hc⟩:=hr B e.symm
 rw [show W.heap[B]? = _ from h] at ho
 cases ho
 cases hc
theorem ZyR {W:World} {B l:Nat} {t:TypeId} {v:Value} {o o' : Obj} (h:Boxed W B t v) (hl:W.heap[l]? = some o) (hc:o.isCells=false):Boxed (W.putObj l o') B t v:=
 boxed_own (B0:=0) h (grownBy_putObj' W l o') (fun r e=>by cases e;exact⟨Nat.zero_le _,o,hl,hc⟩)
theorem ZbO {W:World} {B b:Nat} {t:TypeId} {v u:Value} (h:Boxed W B t v) (hne:B≠b):Boxed (W.setCell ⟨b,0,none⟩ u) B t v:=
 (Below.heap_setCell W ⟨b,0,none⟩ u B hne).trans h
theorem Zrb {W w:World} {n b:Nat} {u:Value} (h:Below n w W) (hb:n<=b):Below n w (W.setCell ⟨b,0,none⟩ u):=h.setCell hb u
structure ZQL (m i:Int) (w:World) (res:Int) (k:Nat) (W:World):Prop where
 b0:Boxed W w.heap.size 3 (.int .i64 i)
 b1:Boxed W (w.heap.size+1) 3 (.int .i64 res)
 b2:Boxed W (w.heap.size+1+1) 3 (.int .i64 k)
 b3:Boxed W (w.heap.size+1+1+1) 26 (.int .u64 m)
 below:Below w.heap.size w W
theorem ZQL.own {m i:Int} {w:World} {res:Int} {k:Nat} {W W' : World} {row:Option Nat} {B0:Nat} (hB:w.heap.size<=B0) (h:ZQL m i w res k W) (hg:W.grownBy W' row) (hr:∀r,row=some r->B0<=r/\∃o:Obj,W.heap[r]? = some o/\o.isCells=false):ZQL m i w res k W' :=
 ⟨boxed_own h.b0 hg hr,boxed_own h.b1 hg hr,boxed_own h.b2 hg hr,boxed_own h.b3 hg hr,h.below.grown hg h.below.size (fun k e=>Nat.le_trans hB (hr k e).1)⟩
set_option maxHeartbeats 2000000 in
theorem ZRL (F:Fence) (n:Nat) (hHAS:F.fn 223) (hALL1:F.fn 347) (hALL:F.fn 288) (hSELF:F.fn 224) (hro:F.round=none) (hn:3<=n) (m i:Int) (w:World) :
  CallsIn F n Tryz.prog 224 #[.int .u64 m,.int .i64 i] w fun e W' =>e = .returned (.int .i64 (ZIW m i))/\Below w.heap.size w W' :=by
 have h1:1<=n:=by omega
 refine callsIn_of_wp_marks Tryz.func224 rfl hSELF ?_ hro
 simp only [Tryz.ntmps224,List.size_toArray,List.length_cons,List.length_nil,Nat.reduceAdd,Nat.reduceSub,Array.replicate_succ,Array.replicate_zero,List.push_toArray,List.append_toArray,List.nil_append,List.cons_append]
 gi_wp2_with (gi_at_call 288;refine(all_in F (n - 1) hALL hro _ _).mono ?_;rintro e w' ⟨rfl,rfl⟩)
 have hI0:ZQL m i w 0 0 ((((w.alloc (Obj.cells #[Value.int IntKind.i64 i] 3)).alloc (Obj.cells #[Value.int IntKind.i64 0] 3)).alloc (Obj.cells #[Value.int IntKind.i64 0] 3)).alloc (Obj.cells #[Value.int IntKind.u64 m] 26)):=by
  refine⟨(((Boxed.new _ _ _).alloc _).alloc _).alloc _,?_,?_,?_,((((Below.refl _ _).alloc (Nat.le_refl _) _).alloc (by simp) _).alloc (by simp;omega) _).alloc (by simp;omega) _⟩
  ·have:=((Boxed.new (w.alloc (Obj.cells #[Value.int IntKind.i64 i] 3)) 3 (.int .i64 0)).alloc (Obj.cells #[Value.int IntKind.i64 0] 3)).alloc (Obj.cells #[Value.int IntKind.u64 m] 26)
   simpa using this
  ·have:=(Boxed.new ((w.alloc (Obj.cells #[Value.int IntKind.i64 i] 3)).alloc (Obj.cells #[Value.int IntKind.i64 0] 3)) 3 (.int .i64 0)).alloc (Obj.cells #[Value.int IntKind.u64 m] 26)
   simpa using this
  ·have:=Boxed.new (((w.alloc (Obj.cells #[Value.int IntKind.i64 i] 3)).alloc (Obj.cells #[Value.int IntKind.i64 0] 3)).alloc (Obj.cells #[Value.int IntKind.i64 0] 3)) 26 (.int .u64 m)
   simpa using this
 generalize hW0:((((w.alloc (Obj.cells #[Value.int IntKind.i64 i] 3)).alloc (Obj.cells #[Value.int IntKind.i64 0] 3)).alloc (Obj.cells #[Value.int IntKind.i64 0] 3)).alloc (Obj.cells #[Value.int IntKind.u64 m] 26))=W0 at hI0
 have hs0:W0.heap.size=w.heap.size+4:=by rw [<- hW0];simp
 clear hW0
 refine wpIn_rangeFunc_ownG hro h1 (gf:=347) (lb:=#[.pointer (some ⟨w.heap.size+1+1+1,0,none⟩)]) rfl hALL1 (enters_of Tryz.func347 (by kernel_rfl) rfl)
  (all_stops F (n - 1) hHAS hALL1 hro (by omega) m (w.heap.size+1+1+1) W0 (by omega) hI0.b3.cell) (fun h k=>k.trans h)
  (fun W l o o' hl ho hc _=>World.cell?_of_block (World.putObj_heap_other (by simp only;omega))) (Below.refl _ _) (fun _=>rfl)
  (fun pre W=>ZQL m i w 0 pre.length W/\¬(0<=i/\i<pre.length))
  (fun c pre W=>c = .ret/\∃(pre' : List Nat) (x:Nat),pre=pre' ++[x]/\i=(pre'.length:Int)/\ZQL m i w (x:Nat) pre'.length W)
  (fun s A B row hs hg hr=>⟨hs.1.own (by omega) hg hr,hs.2⟩)
  (fun c s A B row hs hg hr=>by obtain⟨h1,p,x,h2,h3,h4⟩:=hs;exact⟨h1,p,x,h2,h3,h4.own (by omega) hg hr⟩)
  ⟨hI0,by simp⟩
  (fun x=>{ tmps:=#[.int .u64 m,.int .i64 i,undef,.pointer (some ⟨w.heap.size,0,none⟩),.pointer (some ⟨w.heap.size+1,0,none⟩),.pointer (some ⟨w.heap.size+1+1,0,none⟩),.int .i64 (x:Nat),.int .u64 m,.func (.func 347) #[] #[.pointer (some ⟨w.heap.size+1+1+1,0,none⟩)],.int .i64 (x:Nat),undef,undef,undef,undef,undef,undef],defers:=[] }) ?assign ?body ?done ?stop
 case assign=>
  intro l x W K hK
  gi_wp2
  exact hK
 case body=>
  rintro l pre x W ⟨hI,hno⟩ hlen
  have hc0:=hI.b0.cell
  have hf0:=hI.b0.frozen
  have hc1:=hI.b1.cell
  have hf1:=hI.b1.frozen
  have hc2:=hI.b2.cell
  have hf2:=hI.b2.frozen
  have hl37:pre.length<37:=by
   have:(chL m 37).length<=37:=by unfold chL;exact Nat.le_trans (List.length_filter_le _ _) (by simp)
   omega
  by_cases hx:i=(pre.length:Int)
  ·subst hx
   gi_wp2
   refine⟨KeepsFrom.of_grownBy (grownBy_setCell' W _ _) (fun j e=>by cases e;omega),rfl,pre,x,rfl,rfl,ZbO hI.b0 (by omega),hI.b1.set _,ZbO hI.b2 (by omega),ZbO hI.b3 (by omega),Zrb hI.below (by omega)⟩
  ·have hx' : ((pre.length:Int)==i)=false:=by simp;omega
   gi_wp2
   refine⟨KeepsFrom.of_grownBy (grownBy_setCell' W _ _) (fun j e=>by cases e;omega),World.cell?_of_block (Below.heap_setCell W _ _ _ (by simp only;omega)),⟨ZbO hI.b0 (by omega),ZbO hI.b1 (by omega),?_,ZbO hI.b3 (by omega),Zrb hI.below (by omega)⟩,by simp;omega⟩
   have:=hI.b2.set (.int .i64 (pre.length+1:Nat))
   simpa using this
 case done=>
  rintro D xs W hD rfl ⟨hI,hno⟩ hK
  have hc1:=hI.b1.cell
  have hf1:=hI.b1.frozen
  gi_wp2
  have hK' : (W.setCell ⟨w.heap.size+1,0,none⟩ (.int .i64 (-1))).heap[D]? = some (.deferred (some [])):=(Below.heap_setCell W _ _ D (by simp only;omega)).trans hK
  have hb:=hI.b1.set (.int .i64 (-1))
  refine⟨by simp,.inl ⟨_,_,rfl,run_takeDeferred hK',?_⟩⟩
  have hc5:=(ZyR (o' :=.deferred none) hb hK' rfl).cell
  refine⟨.int .i64 (-1),?_,?_,?_⟩
  ·simp [results,Tryz.f224,go_sem,hc5]
  ·unfold ZIW
   rw [if_neg hno]
  ·exact(Zrb hI.below (by omega)).trans (belowK_b (w:=w) (Nat.le_refl _) _ D _ _ (by omega) hK' rfl rfl)
 case stop=>
  rintro D c pre W hD hp ⟨rfl,pre',x,rfl,hi,hI⟩ hK
  have hc1:=hI.b1.cell
  gi_wp2
  refine⟨by simp,.inl ⟨_,_,rfl,run_takeDeferred hK,?_⟩⟩
  have hc5:=(ZyR (o' :=.deferred none) hI.b1 hK rfl).cell
  refine⟨.int .i64 (x:Nat),?_,?_,?_⟩
  ·simp [results,Tryz.f224,go_sem,hc5]
  ·obtain⟨t,ht⟩:=hp
   unfold ZIW
   rw [<- ht,hi]
   simp
   omega
  ·exact hI.below.trans (belowK_b (w:=w) (Nat.le_refl _) _ D _ _ (by omega) hK rfl rfl)
theorem ZPV (m i:Int) : -1<=ZIW m i/\ZIW m i<37:=by
 unfold ZIW
 split
 ·rename_i h
  have hx:i.toNat<(chL m 37).length:=by omega
  have hm:(chL m 37)[i.toNat]∈chL m 37:=List.getElem_mem hx
  rw [List.getElem?_eq_getElem hx,Option.getD_some]
  generalize (chL m 37)[i.toNat]=c at hm
  have:c<37:=by
   unfold chL at hm
   have:=(List.mem_filter.1 hm).1
   simpa using this
  omega
 ·omega
open Go.Proofs.YtjodhcdmhobmoaaGreatDoor.Le
noncomputable def Z87 (a0 a1:Int):Option Int:=some (ZIW a0 a1)
noncomputable def ZuA:Mod U:={ ts:=[26,3],rt:=3,fn:=fun x=>Z87 x.1 x.2.1,ok:=by decide }
theorem ZgX:Z0a Tryz.prog B0 224 ZuA:=by
 refine⟨⟨Tryz.f224,Tryz.func224,by kernel_rfl,by kernel_rfl⟩,?_⟩
 rintro ⟨m,i,_⟩ a ha fz w vs hcells hg hr
 cases ha
 obtain⟨v0,vs,rfl,h1,hr⟩:=hr.ZX
 obtain⟨v1,vs,rfl,h2,hr⟩:=hr.ZX
 cases hr.Z0Y
 cases h1 with
 | lit _ _=>cases h2 with
  | lit _ _=>
   refine(callsIn_wide.1 (ZRL Fence.wide 3 trivial trivial trivial trivial rfl (by omega) m i w)).mono ?_
   rintro e w' ⟨rfl,hb⟩
   refine⟨_,fz,rfl,hb,fun _ _ h=>h,fun _ _ h _=>h,fun b c h=>?_,.lit ?_ .nil,rfl⟩
   ·obtain⟨u,hu⟩:=hcells b c h
    exact⟨u,(hb.cell (p:=⟨b,c,none⟩) (cell_lt hu)).trans hu⟩
   ·have:=ZPV m i
    simp [leaf,Lit.wf,IntKind.min,IntKind.max,IntKind.signed,IntKind.bits]
    omega
open Go Go.Proofs.YtjodhcdmhobmoaaGreatDoor.Le
inductive Zp9 where
 | b0 (a0 a1 a2:Int)
noncomputable def Zrh:Zp9->Tr U (Int⊕Zp9)
 | .b0 a0 a1 a2=>.bind 30 (Zck a2) (fun(x1:Int)=>.bind 30 (Zav a1 x1) (fun(x2:Int)=>.bind 4 (Z8k a0 (Int.tmod (w64 (x2)) 37)) (fun(x3:Bool)=>.br x3 ( .leaf (.inl (Int.tmod (w64 (x2)) 37))) ( .bind 3 (Z3Y a0) (fun(x4:Int)=>.bind 3 (Z87 a0 (Int.fdiv (w64 (x4*(w64 (x2)))) (2 ^ (16:Nat)))) (fun(x5:Int)=>.leaf (.inl x5)))))))
noncomputable def ZoG (a0 a1 a2:Int):Option Int:=ZO Zrh (.b0 a0 a1 a2)
noncomputable def ZM1:Mod U:=⟨[26,30,22],3,fun x=>ZoG x.1 x.2.1 x.2.2.1,by decide⟩
noncomputable def ZGp:Zp9->Z08 U
 | .b0 a0 a1 a2=>Z0f Tryz.f135 [26,30,22] (a0,a1,a2,())
theorem ZEj:Z0g 135 Tryz.f135 (mc ZjU (mc Zn4 (mc Zdz (mc ZgY (mc ZgX msN))))) hsN AN 3 Zrh ZGp
 | .b0 ..=>by kernel_rfl
theorem ZHj:Z0a Tryz.prog B0 135 ZM1:=okP ZEj (fun x=>.b0 x.1 x.2.1 x.2.2.1) (by kernel_rfl) Tryz.func135 (by kernel_rfl) (by kernel_rfl) (fun _=>rfl) (fun _=>rfl)
inductive Zle where
 | b0 (a0 a1:Int)
noncomputable def Zts:Zle->Tr U (Int⊕Zle)
 | .b0 a0 a1=>.leaf (.inl (Int.tmod (w64 ((w64 ((Int.tmod a0 37)+(Int.tmod a1 37)))+74)) (37:Int)))
noncomputable def Zlj (a0 a1:Int):Option Int:=ZO Zts (.b0 a0 a1)
noncomputable def ZHl:Mod U:=⟨[3,3],3,fun x=>Zlj x.1 x.2.1,by decide⟩
noncomputable def ZBM:Zle->Z08 U
 | .b0 a0 a1=>Z0f Tryz.f136 [3,3] (a0,a1,())
theorem ZxH:Z0g 136 Tryz.f136 msN hsN AN 3 Zts ZBM
 | .b0 ..=>by kernel_rfl
theorem ZCL:Z0a Tryz.prog B0 136 ZHl:=okP ZxH (fun x=>.b0 x.1 x.2.1) (by kernel_rfl) Tryz.func136 (by kernel_rfl) (by kernel_rfl) (fun _=>rfl) (fun _=>rfl)
inductive Z9u where
 | b0 (a0 a1:Int)
noncomputable def Za3:Z9u->Tr U (Int⊕Z9u)
 | .b0 a0 a1=>.bind 4 (Z8k a0 (if (36:Int)<(if (0:Int)>a1 then (0:Int) else a1) then (36:Int) else (if (0:Int)>a1 then (0:Int) else a1))) (fun(x1:Bool)=>.br x1 ( .leaf (.inl (if (36:Int)<(if (0:Int)>a1 then (0:Int) else a1) then (36:Int) else (if (0:Int)>a1 then (0:Int) else a1)))) ( .bind 3 (Z3Y a0) (fun(x2:Int)=>.br (x2==0) ( .leaf (.inl (-1:Int))) ( .bind 3 (Z3Y a0) (fun(x3:Int)=>.chk (x3 != 0) ( .bind 3 (Z87 a0 (Int.tmod (if (36:Int)<(if (0:Int)>a1 then (0:Int) else a1) then (36:Int) else (if (0:Int)>a1 then (0:Int) else a1)) x3)) (fun(x4:Int)=>.leaf (.inl x4))))))))
noncomputable def Za2 (a0 a1:Int):Option Int:=ZO Za3 (.b0 a0 a1)
noncomputable def ZqL:Mod U:=⟨[26,3],3,fun x=>Za2 x.1 x.2.1,by decide⟩
noncomputable def ZnS:Z9u->Z08 U
 | .b0 a0 a1=>Z0f Tryz.f137 [26,3] (a0,a1,())
theorem ZmA:Z0g 137 Tryz.f137 (mc Zdz (mc ZgY (mc ZgX msN))) hsN AN 3 Za3 ZnS
 | .b0 ..=>by kernel_rfl
theorem ZnJ:Z0a Tryz.prog B0 137 ZqL:=okP ZmA (fun x=>.b0 x.1 x.2.1) (by kernel_rfl) Tryz.func137 (by kernel_rfl) (by kernel_rfl) (fun _=>rfl) (fun _=>rfl)
inductive ZlC where
 | b0 (a0:Zy) (a1 a2:Int)
noncomputable def ZmQ:ZlC->Tr U ((Int×Int)⊕ZlC)
 | .b0 a0 a1 a2=>.br (a0.Z2K==2) ( .bind 30 (Zck a0.Z3W) (fun(x1:Int)=>.bind 30 (Zav a1 x1) (fun(x2:Int)=>.bind 3 (ZoG a0.Map a1 a0.Z3W) (fun(x3:Int)=>.leaf (.inl (x3,(w64 ((Int.tmod x2 37))))))))) ( .bind 3 (Zlj a2 a0.Hop) (fun(x4:Int)=>.bind 3 (Za2 a0.Map x4) (fun(x5:Int)=>.leaf (.inl (x5,x4)))))
noncomputable def Z8x (a0:Zy) (a1 a2:Int):Option (Int×Int):=ZO ZmQ (.b0 a0 a1 a2)
noncomputable def ZGr:Mod U:=⟨[28,30,3],104,fun x=>Z8x x.1 x.2.1 x.2.2.1,by decide⟩
noncomputable def ZCO:ZlC->Z08 U
 | .b0 a0 a1 a2=>Z0f Tryz.f53 [28,30,3] (a0,a1,a2,())
theorem Zxy:Z0g 53 Tryz.f53 (mc ZjU (mc Zn4 (mc ZHj (mc ZCL (mc ZnJ msN))))) hsN AN 104 ZmQ ZCO
 | .b0 ..=>by kernel_rfl
theorem Zr5:Z0a Tryz.prog B0 53 ZGr:=okP Zxy (fun x=>.b0 x.1 x.2.1 x.2.2.1) (by kernel_rfl) Tryz.func53 (by kernel_rfl) (by kernel_rfl) (fun _=>rfl) (fun _=>rfl)
inductive Z5b where
 | b0 (a0:Z0N)
noncomputable def Zae:Z5b->Tr U (Bool⊕Z5b)
 | .b0 a0=>.leaf (.inl (a0.Link.Z05==0))
noncomputable def Z5F (a0:Z0N):Option Bool:=ZO Zae (.b0 a0)
noncomputable def ZkP:Mod U:=⟨[115],4,fun x=>Z5F x.1,by decide⟩
noncomputable def ZhA:Z5b->Z08 U
 | .b0 a0=>Z0f Tryz.f63 [115] (a0,())
theorem Zge:Z0g 63 Tryz.f63 msN hsN AN 4 Zae ZhA
 | .b0 ..=>by kernel_rfl
theorem ZiJ:Z0a Tryz.prog B0 63 ZkP:=okP Zge (fun x=>.b0 x.1) (by kernel_rfl) Tryz.func63 (by kernel_rfl) (by kernel_rfl) (fun _=>rfl) (fun _=>rfl)
inductive Zb7 where
 | b0 (a0:Zk)
noncomputable def ZaT:Zb7->Tr U ((Zk×Int)⊕Zb7)
 | .b0 a0=>.bind 4 (Z4v a0 false) (fun(x1:Bool)=>.br x1 ( .leaf (.inl (a0,9))) ( .leaf (.inl (({ a0 with Z3y:=(w64 (a0.Z3y+1)) }:Zk),(0:Int)))))
noncomputable def Zb4 (a0:Zk):Option (Zk×Int):=ZO ZaT (.b0 a0)
noncomputable def ZsS:Mod U:=⟨[35],129,fun x=>Zb4 x.1,by decide⟩
noncomputable def ZoE:Zb7->Z08 U
 | .b0 a0=>Z0f Tryz.f80 [35] (a0,())
theorem Zo0:Z0g 80 Tryz.f80 (mc Zfa msN) hsN AN 129 ZaT ZoE
 | .b0 ..=>by kernel_rfl
theorem ZqD:Z0a Tryz.prog B0 80 ZsS:=okP Zo0 (fun x=>.b0 x.1) (by kernel_rfl) Tryz.func80 (by kernel_rfl) (by kernel_rfl) (fun _=>rfl) (fun _=>rfl)
inductive Z7E where
 | b0 (a0:Zk) (a1:Bool)
noncomputable def Zdu:Z7E->Tr U (Zk⊕Z7E)
 | .b0 a0 a1=>.br a0.Full ( .leaf (.inl (⟨a0.Z0o,0,(!a1)⟩:Zk))) ( .leaf (.inl (⟨a0.Z0o,0,false⟩:Zk)))
noncomputable def Z7A (a0:Zk) (a1:Bool):Option Zk:=ZO Zdu (.b0 a0 a1)
noncomputable def Zo1:Mod U:=⟨[35,4],35,fun x=>Z7A x.1 x.2.1,by decide⟩
noncomputable def Zlq:Z7E->Z08 U
 | .b0 a0 a1=>Z0f Tryz.f81 [35,4] (a0,a1,())
theorem Zjm:Z0g 81 Tryz.f81 msN hsN AN 35 Zdu Zlq
 | .b0 ..=>by kernel_rfl
theorem ZmH:Z0a Tryz.prog B0 81 Zo1:=okP Zjm (fun x=>.b0 x.1 x.2.1) (by kernel_rfl) Tryz.func81 (by kernel_rfl) (by kernel_rfl) (fun _=>rfl) (fun _=>rfl)
inductive Zfb where
 | b0 (a0 a1:Int)
noncomputable def Zau:Zfb->Tr U (Int⊕Zfb)
 | .b0 a0 a1=>.leaf (.inl (IntKind.wrap .u16 (a0+(IntKind.wrap .u16 (a1)))))
noncomputable def Z2k (a0 a1:Int):Option Int:=ZO Zau (.b0 a0 a1)
noncomputable def Zxn:Mod U:=⟨[30,3],30,fun x=>Z2k x.1 x.2.1,by decide⟩
noncomputable def Zwz:Zfb->Z08 U
 | .b0 a0 a1=>Z0f Tryz.f83 [30,3] (a0,a1,())
theorem Zs4:Z0g 83 Tryz.f83 msN hsN AN 30 Zau Zwz
 | .b0 ..=>by kernel_rfl
theorem ZcW:Z0a Tryz.prog B0 83 Zxn:=okP Zs4 (fun x=>.b0 x.1 x.2.1) (by kernel_rfl) Tryz.func83 (by kernel_rfl) (by kernel_rfl) (fun _=>rfl) (fun _=>rfl)
inductive Z4l where
 | b0 (a0:Z0N)
noncomputable def Z7W:Z4l->Tr U (Int⊕Z4l)
 | .b0 a0=>.leaf (.inl (w64 (a0.Link.ZN.Zt.Z0j*1250)))
noncomputable def Z1Q (a0:Z0N):Option Int:=ZO Z7W (.b0 a0)
noncomputable def Zgi:Mod U:=⟨[115],3,fun x=>Z1Q x.1,by decide⟩
noncomputable def Zef:Z4l->Z08 U
 | .b0 a0=>Z0f Tryz.f84 [115] (a0,())
theorem ZdI:Z0g 84 Tryz.f84 msN hsN AN 3 Z7W Zef
 | .b0 ..=>by kernel_rfl
theorem Z7h:Z0a Tryz.prog B0 84 Zgi:=okP ZdI (fun x=>.b0 x.1) (by kernel_rfl) Tryz.func84 (by kernel_rfl) (by kernel_rfl) (fun _=>rfl) (fun _=>rfl)
inductive Zd8 where
 | b0 (a0 a1:Int)
noncomputable def Zdi:Zd8->Tr U (Int⊕Zd8)
 | .b0 a0 a1=>.leaf (.inl (w64 ((IntKind.wrap .i16 ((IntKind.wrap .u16 (a1 - a0)))))))
noncomputable def Z8j (a0 a1:Int):Option Int:=ZO Zdi (.b0 a0 a1)
noncomputable def Zwg:Mod U:=⟨[30,30],3,fun x=>Z8j x.1 x.2.1,by decide⟩
noncomputable def Zs1:Zd8->Z08 U
 | .b0 a0 a1=>Z0f Tryz.f331 [30,30] (a0,a1,())
theorem Zpu:Z0g 331 Tryz.f331 msN hsN AN 3 Zdi Zs1
 | .b0 ..=>by kernel_rfl
theorem Zsj:Z0a Tryz.prog B0 331 Zwg:=okP Zpu (fun x=>.b0 x.1 x.2.1) (by kernel_rfl) Tryz.func331 (by kernel_rfl) (by kernel_rfl) (fun _=>rfl) (fun _=>rfl)
inductive Z9T where
 | b0 (a0 a1:Int)
noncomputable def Z5B:Z9T->Tr U (Bool⊕Z9T)
 | .b0 a0 a1=>.bind 3 (Z8j a1 a0) (fun(x1:Int)=>.leaf (.inl (decide (x1>=0))))
noncomputable def Z1h (a0 a1:Int):Option Bool:=ZO Z5B (.b0 a0 a1)
noncomputable def ZpQ:Mod U:=⟨[30,30],4,fun x=>Z1h x.1 x.2.1,by decide⟩
noncomputable def Zod:Z9T->Z08 U
 | .b0 a0 a1=>Z0f Tryz.f252 [30,30] (a0,a1,())
theorem Zm1:Z0g 252 Tryz.f252 (mc Zsj msN) hsN AN 4 Z5B Zod
 | .b0 ..=>by kernel_rfl
theorem Z3g:Z0a Tryz.prog B0 252 ZpQ:=okP Zm1 (fun x=>.b0 x.1 x.2.1) (by kernel_rfl) Tryz.func252 (by kernel_rfl) (by kernel_rfl) (fun _=>rfl) (fun _=>rfl)
inductive ZcC where
 | b0 (a0:List Z8) (a1:Int)
noncomputable def Z5i:ZcC->Tr U (((List Z8)×(List Z8))⊕ZcC)
 | .b0 a0 a1=>.chk (decide (0<=(0:Int)/\(0:Int)<=(↑a0.length:Int))) ( .chk (decide (0<=(0:Int)/\(0:Int)<=(↑a0.length:Int))) ( .chk ((Int.toNat 0)==(Int.toNat 0)) ( .chk (decide (0<=(0:Int)/\(0:Int)<=(↑a0.length:Int))) ( .chk (decide (0<=(0:Int)/\(0:Int)<=(↑a0.length:Int))) ( .chk ((Int.toNat 0)==(Int.toNat 0)) ( .br (decide ((0:Int)<(↑a0.length:Int))) ( .chk (decide (0<=(0:Int)/\(0:Int)<(↑a0.length:Int))) ( .bind 138 (a0[(Int.toNat 0)]?) (fun(x1:Z8)=>.bind 4 (Z1h a1 x1.ZQ) (fun(x2:Bool)=>.br x2 ( .chk (([x1]).length==1) ( .chk (decide ((((a0.drop 0).take ((Int.toNat 0) - 0)).length+([x1]).length)*64<=lim)&&decide (((a0.drop 0).take ((Int.toNat 0) - 0)).length+([x1]).length<=maxLen)) ( .br (([x1]).isEmpty) ( .br (decide ((1:Int)<(↑a0.length:Int))) ( .chk (decide (0<=(1:Int)/\(1:Int)<(↑a0.length:Int))) ( .bind 138 (a0[(Int.toNat 1)]?) (fun(x3:Z8)=>.bind 4 (Z1h a1 x3.ZQ) (fun(x4:Bool)=>.fail)))) ( .leaf (.inl (((a0.drop 0).take ((Int.toNat 0) - 0)),((a0.drop 0).take ((Int.toNat 0) - 0)))))) ( .br (decide ((1:Int)<(↑a0.length:Int))) ( .chk (decide (0<=(1:Int)/\(1:Int)<(↑a0.length:Int))) ( .bind 138 (a0[(Int.toNat 1)]?) (fun(x5:Z8)=>.bind 4 (Z1h a1 x5.ZQ) (fun(x6:Bool)=>.fail)))) ( .chk ((((a0.drop 0).take ((Int.toNat 0) - 0))++[x1]).length==(((a0.drop 0).take ((Int.toNat 0) - 0))++[x1]).length) ( .leaf (.inl (((a0.drop 0).take ((Int.toNat 0) - 0)),(((a0.drop 0).take ((Int.toNat 0) - 0))++[x1]))))))))) ( .chk (([x1]).length==1) ( .chk (decide ((((a0.drop 0).take ((Int.toNat 0) - 0)).length+([x1]).length)*64<=lim)&&decide (((a0.drop 0).take ((Int.toNat 0) - 0)).length+([x1]).length<=maxLen)) ( .br (([x1]).isEmpty) ( .br (decide ((1:Int)<(↑a0.length:Int))) ( .chk (decide (0<=(1:Int)/\(1:Int)<(↑a0.length:Int))) ( .bind 138 (a0[(Int.toNat 1)]?) (fun(x7:Z8)=>.bind 4 (Z1h a1 x7.ZQ) (fun(x8:Bool)=>.fail)))) ( .leaf (.inl (((a0.drop 0).take ((Int.toNat 0) - 0)),((a0.drop 0).take ((Int.toNat 0) - 0)))))) ( .br (decide ((1:Int)<(↑a0.length:Int))) ( .chk (decide (0<=(1:Int)/\(1:Int)<(↑a0.length:Int))) ( .bind 138 (a0[(Int.toNat 1)]?) (fun(x9:Z8)=>.bind 4 (Z1h a1 x9.ZQ) (fun(x10:Bool)=>.fail)))) ( .chk ((((a0.drop 0).take ((Int.toNat 0) - 0))++[x1]).length==(((a0.drop 0).take ((Int.toNat 0) - 0))++[x1]).length) ( .leaf (.inl ((((a0.drop 0).take ((Int.toNat 0) - 0))++[x1]),((a0.drop 0).take ((Int.toNat 0) - 0)))))))))))))) ( .leaf (.inl (((a0.drop 0).take ((Int.toNat 0) - 0)),((a0.drop 0).take ((Int.toNat 0) - 0)))))))))))
noncomputable def Zcq (a0:List Z8) (a1:Int):Option ((List Z8)×(List Z8)):=ZO Z5i (.b0 a0 a1)
noncomputable def Zjc:Mod U:=⟨[37,30],208,fun x=>Zcq x.1 x.2.1,by decide⟩
noncomputable def Z3p:ZcC->Z08 U
 | .b0 a0 a1=>Z0f Tryz.f178 [37,30] (a0,a1,())
theorem ZpD:∀p,Le.ZdB (EV Tryz.prog gl 178 (mc Z3g msN).1 hsN.1) (ZAI (mc Z3g msN).1 hsN.1) AN 178 Tryz.f178 0 (ZJ6 (EV Tryz.prog gl 178 (mc Z3g msN).1 hsN.1) Tryz.f178) 48 (.run (Z3p p).c) (Z3p p).K (Z3p p).st (Z3p p).sk=(Z5i p).map (Zq0 (ZSv (U:=U) 208) Z3p)
 | .b0 ..=>by kernel_rfl
theorem ZsK:Z0a Tryz.prog B0 178 Zjc:=ZEV rfl (ZER _ rfl) ZmU (mc Z3g msN).2 hsN.2 Tryz.func178 (by kernel_rfl) (by kernel_rfl) (by kernel_rfl) Zjc Z5i Z3p ZpD (fun x=>.b0 x.1 x.2.1) (fun _=>rfl) (fun _=>rfl)
inductive Z2O where
 | b0 (a0:Z1m)
noncomputable def Z4V:Z2O->Tr U (Bool⊕Z2O)
 | .b0 a0=>.leaf (.inl (a0.Ze.Z1z != 1))
noncomputable def Z2M (a0:Z1m):Option Bool:=ZO Z4V (.b0 a0)
noncomputable def Zc5:Mod U:=⟨[206],4,fun x=>Z2M x.1,by decide⟩
noncomputable def Zb3:Z2O->Z08 U
 | .b0 a0=>Z0f Tryz.f179 [206] (a0,())
theorem Za8:Z0g 179 Tryz.f179 msN hsN AN 4 Z4V Zb3
 | .b0 ..=>by kernel_rfl
theorem ZaW:Z0a Tryz.prog B0 179 Zc5:=okP Za8 (fun x=>.b0 x.1) (by kernel_rfl) Tryz.func179 (by kernel_rfl) (by kernel_rfl) (fun _=>rfl) (fun _=>rfl)
inductive ZaY where
 | b0 (a0:Z7) (a1 a2:Int)
noncomputable def ZaR:ZaY->Tr U (Z2z⊕ZaY)
 | .b0 a0 a1 a2=>.bind 1345 (Z0O a0.Zf) (fun(y1:Z0u)=>.bind 1346 (Z0D a0.Zo) (fun(y2:Z0B)=>.chk ((y1.q0.length==y1.q0.length)&&((y2.q0.length==y2.q0.length)&&((([]:List Z4).length==0)&&(([]:List Z5).length==0)))) ( .leaf (.inl (⟨(⟨({ a0 with Zf:=y1.q0,Zo:=y2.q0 }:Z7),a1,a2,([]:List Z4),([]:List Z5)⟩:Zm)⟩:Z2z)))))
noncomputable def Z6O (a0:Z7) (a1 a2:Int):Option Z2z:=ZO ZaR (.b0 a0 a1 a2)
def Zdt:Shape:=⟨[.agg [.v 39 20 true],OV 30,OV 3],[]⟩
noncomputable def ZgV:HMod U:=⟨[k0,KP,KP],[],Zdt,⟨[PQ 0],[.var 211 24 (.agg [VC 3 1,VC 3 1,VC 3 1,.own 156 1,VC 3 1,VC 3 1,.own 138 2,VC 4 1,VC 25 1,VC 25 1,VC 4 1,VC 4 1,VC 3 1,VC 3 1,VC 3 1,VC 25 1,VC 25 1,VC 25 1,VC 3 1,VC 3 1,VC 30 1,VC 3 1,.own 156 3,.own 148 4]),.row 156 true,.row 138 true,.row 156 true,.row 148 true]⟩,true,1363,fun(y:Z2z)=>(((),()),((y.q0.Ze.Z1z,(y.q0.Ze.Own,(y.q0.Ze.Since,(y.q0.Ze.Other,(y.q0.Ze.Z0C,(y.q0.Ze.Told,(y.q0.Ze.ZZ,(y.q0.Ze.Z4Y,(y.q0.Ze.Z74,(y.q0.Ze.Z0q,(y.q0.Ze.Version,(y.q0.Ze.Length,(y.q0.Ze.Limit,(y.q0.Ze.Z5R,(y.q0.Ze.Zpv,(y.q0.Ze.Mark,(y.q0.Ze.Z29,(y.q0.Ze.Z1n,(y.q0.Z2B,(y.q0.Z6c,())))))))))))))))))))),(y.q0.Ze.Zf,(y.q0.Ze.Zo,(y.q0.f_out,(y.q0.ZR,())))))),fun x=>Z6O x.1.1.1 x.1.2.1.1 x.1.2.2.1.1,⟨⟨⟨⟨by decide,fun _=>⟨_,rfl,rfl⟩⟩,trivial⟩,⟨⟨by decide,fun _=>rfl⟩,⟨⟨by decide,fun _=>rfl⟩,trivial⟩⟩⟩,trivial⟩⟩
noncomputable def ZqW:ZaY->Z08 U
 | .b0 a0 a1 a2=>ZB3 Tryz.f177 Zdt (((a0,()),((a1,()),((a2,()),()))),())
theorem Zoj:ZB5 177 Tryz.f177 msN (hc [] Z5p (hc [] Z3A hsN)) AN [KP] [.var [.keep,.keep,.keep,.own 156 15,.keep,.keep,.own 138 8,.keep,.keep,.keep,.keep,.keep,.keep,.keep,.keep,.keep,.keep,.keep,.keep,.keep,.keep,.keep,.own 156 15,.own 148 18],.row true,.row true,.row true,.row true] 0 ZgV ZaR ZqW
 | .b0 ..=>by kernel_rfl
theorem ZdZ:Z4n Tryz.prog B0 177 ZgV:=okH Zoj (fun x=>.b0 x.1.1.1 x.1.2.1.1 x.1.2.2.1.1) (fun x=>by kernel_rfl) (by kernel_rfl) Tryz.func177 (by kernel_rfl) (by kernel_rfl) (fun x=>by kernel_rfl) (fun x=>by kernel_rfl)
inductive Z9s where
 | b0 (a0:Z7) (a1:Int)
 | b1 (a0:Z7) (a1:Zm)
 | b2 (a0:List Z8) (a1:Z7) (a2:Zm)
 | b3 (a0:Z7) (a1:Zm)
 | b4 (a0 a1:List Z8) (a2 a3:Int) (a4:Z7) (a5:Zm)
 | b5 (a0 a1:List Z8) (a2 a3:Int) (a4:Z7) (a5:Zm) (a6:Z8)
 | b6 (a0 a1:List Z8) (a2 a3:Int) (a4:Z7) (a5:Zm)
noncomputable def Z07:Z9s->Tr U ((Z7×(List Z8))⊕Z9s)
 | .b0 a0 a1=>.bind 1363 (Z6O a0 a1 (0:Int)) (fun(y1:Z2z)=>.chk (y1.q0.Ze.Zo.length==y1.q0.Ze.Zo.length) ( .bind 208 (Zcq y1.q0.Ze.Zo a1) (fun(x2:(List Z8)×(List Z8))=>.br (decide ((↑x2.2.length:Int)>0)) ( .bind 4 (Z2M (⟨(⟨y1.q0.Ze.Z1z,y1.q0.Ze.Own,y1.q0.Ze.Since,y1.q0.Ze.Other,y1.q0.Ze.Z0C,y1.q0.Ze.Told,y1.q0.Ze.ZZ,y1.q0.Ze.Z4Y,y1.q0.Ze.Z74,y1.q0.Ze.Z0q,y1.q0.Ze.Version,y1.q0.Ze.Length,y1.q0.Ze.Limit,y1.q0.Ze.Z5R,y1.q0.Ze.Zpv,y1.q0.Ze.Mark,y1.q0.Ze.Z29,y1.q0.Ze.Z1n⟩:Z3U),y1.q0.Z2B,y1.q0.Z6c⟩:Z1m)) (fun(x3:Bool)=>.br x3 ( .br (!y1.q0.Ze.Told) ( .chk ((y1.q0.Ze.Zf.length==y1.q0.Ze.Zf.length)&&((y1.q0.f_out.length==y1.q0.f_out.length)&&(y1.q0.ZR.length==y1.q0.ZR.length))) ( .leaf (.inr (.b1 ZI ({ y1.q0 with Ze:=({ y1.q0.Ze with Zo:=x2.1 }:Z7) }:Zm))))) ( .chk ((y1.q0.Ze.Zf.length==y1.q0.Ze.Zf.length)&&((y1.q0.f_out.length==y1.q0.f_out.length)&&(y1.q0.ZR.length==y1.q0.ZR.length))) ( .leaf (.inr (.b2 x2.2 ZI ({ y1.q0 with Ze:=({ y1.q0.Ze with Zo:=x2.1 }:Z7) }:Zm)))))) ( .chk ((y1.q0.Ze.Zf.length==y1.q0.Ze.Zf.length)&&((y1.q0.f_out.length==y1.q0.f_out.length)&&(y1.q0.ZR.length==y1.q0.ZR.length))) ( .leaf (.inr (.b2 x2.2 ZI ({ y1.q0 with Ze:=({ y1.q0.Ze with Zo:=x2.1 }:Z7) }:Zm))))))) ( .chk ((y1.q0.Ze.Zf.length==y1.q0.Ze.Zf.length)&&((y1.q0.f_out.length==y1.q0.f_out.length)&&(y1.q0.ZR.length==y1.q0.ZR.length))) ( .leaf (.inr (.b2 x2.2 ZI ({ y1.q0 with Ze:=({ y1.q0.Ze with Zo:=x2.1 }:Z7) }:Zm))))))))
 | .b1 a0 a1=>.br (a1.Ze.Z1n==0) ( .chk ((a1.Ze.Zf.length==a1.Ze.Zf.length)&&((a1.f_out.length==a1.f_out.length)&&(a1.ZR.length==a1.ZR.length))) ( .leaf (.inr (.b3 a0 ({ a1 with Ze:=({ a1.Ze with Z1n:=40 }:Z7) }:Zm))))) ( .chk ((a1.Ze.Zf.length==a1.Ze.Zf.length)&&((a1.f_out.length==a1.f_out.length)&&(a1.ZR.length==a1.ZR.length))) ( .leaf (.inr (.b3 a0 a1))))
 | .b2 a0 a1 a2=>.chk ((a2.Ze.Zf.length==a2.Ze.Zf.length)&&((a2.f_out.length==a2.f_out.length)&&(a2.ZR.length==a2.ZR.length))) ( .leaf (.inr (.b4 a0 a0 (↑a0.length:Int) (0:Int) a1 a2)))
 | .b3 a0 a1=>.chk (a1.Ze.Zf.length==a1.Ze.Zf.length) ( .chk (([]:List Z8).length==0) ( .leaf (.inl (a1.Ze,([]:List Z8)))))
 | .b4 a0 a1 a2 a3 a4 a5=>.br (decide (a3<a2)) ( .chk (decide (0<=a3/\a3<(↑a1.length:Int))) ( .bind 138 (a1[(Int.toNat a3)]?) (fun(x1:Z8)=>.br (a5.Ze.Own==x1.Kind) ( .chk ((a5.Ze.Zf.length==a5.Ze.Zf.length)&&((a5.f_out.length==a5.f_out.length)&&(a5.ZR.length==a5.ZR.length))) ( .leaf (.inr (.b5 a0 a1 a2 a3 a4 ({ a5 with Ze:=({ a5.Ze with Own:=-1 }:Z7) }:Zm) x1)))) ( .chk ((a5.Ze.Zf.length==a5.Ze.Zf.length)&&((a5.f_out.length==a5.f_out.length)&&(a5.ZR.length==a5.ZR.length))) ( .leaf (.inr (.b5 a0 a1 a2 a3 a4 a5 x1))))))) ( .chk (a5.Ze.Zf.length==a5.Ze.Zf.length) ( .leaf (.inl (a5.Ze,a0))))
 | .b5 a0 a1 a2 a3 a4 a5 a6=>.br (a5.Ze.Other==a6.Kind) ( .chk ((a5.Ze.Zf.length==a5.Ze.Zf.length)&&((a5.f_out.length==a5.f_out.length)&&(a5.ZR.length==a5.ZR.length))) ( .leaf (.inr (.b6 a0 a1 a2 a3 a4 ({ a5 with Ze:=({ a5.Ze with Other:=-1 }:Z7) }:Zm))))) ( .chk ((a5.Ze.Zf.length==a5.Ze.Zf.length)&&((a5.f_out.length==a5.f_out.length)&&(a5.ZR.length==a5.ZR.length))) ( .leaf (.inr (.b6 a0 a1 a2 a3 a4 a5))))
 | .b6 a0 a1 a2 a3 a4 a5=>.chk ((a5.Ze.Zf.length==a5.Ze.Zf.length)&&((a5.f_out.length==a5.f_out.length)&&(a5.ZR.length==a5.ZR.length))) ( .leaf (.inr (.b4 a0 a1 a2 (w64 (a3+1)) a4 a5)))
noncomputable def Z9k (a0:Z7) (a1:Int):Option (Z7×(List Z8)):=ZO Z07 (.b0 a0 a1)
noncomputable def Zp7:Mod U:=⟨[39,30],135,fun x=>Z9k x.1 x.2.1,by decide⟩
def Z4c:Lay:=⟨[4,6],[KP,KP],[.var k0,.var k12,.row true,.row true,.row true],⟨[PQ 0,PQ 1],[VA 39 20,.var 211 24 (ag3 2),.row 156 true,.row 156 true,.row 148 true]⟩⟩
def Zc9:Lay:=⟨[4,6,8],[KP,KP,[.s 138 8]],[.var k0,.var k12,.row true,.row true,.row true],⟨[PQ 0,PQ 1,OV 37],[VA 39 20,.var 211 24 (ag3 2),.row 156 true,.row 156 true,.row 148 true]⟩⟩
def Z4d:Lay:=⟨[4,6,8,58,59,60],[KP,KP,[.s 138 8],[.s 138 8],KP,KP],[.var k0,.var k12,.row true,.row true,.row true],⟨[PQ 0,PQ 1,OV 37,OV 37,OV 3,OV 3],[VA 39 20,.var 211 24 (ag3 2),.row 156 true,.row 156 true,.row 148 true]⟩⟩
def ZbR:Lay:=⟨[4,6,8,10,58,59,60],[KP,KP,[.s 138 8],KP,[.s 138 8],KP,KP],[.var k0,.var k12,.var k10,.row true,.row true,.row true],⟨[PQ 0,PQ 1,OV 37,PQ 2,OV 37,OV 3,OV 3],[VA 39 20,.var 211 24 (ag3 3),VA 138 8,.row 156 true,.row 156 true,.row 148 true]⟩⟩
def ZqM:Nat->Option Lay
 | 5=>some Z4c
 | 8=>some Zc9
 | 7=>some Z4c
 | 9=>some Z4d
 | 13=>some ZbR
 | 15=>some Z4d
 | _=>none
noncomputable def ZnL:Z9s->Z08 U
 | .b0 a0 a1=>Z0f Tryz.f85 [39,30] (a0,a1,())
 | .b1 a0 a1=>spL Tryz.f85 [1,1,1,1,0,1,0,0,0] Z4c (((),((),())),((a0,()),(tu1 a1)))
 | .b2 a0 a1 a2=>spL Tryz.f85 [1,1,1,1,1,0,0] Zc9 (((),((),((a0,()),()))),((a1,()),(tu1 a2)))
 | .b3 a0 a1=>spL Tryz.f85 [1,1,1,1,0,1,0,1,0] Z4c (((),((),())),((a0,()),(tu1 a1)))
 | .b4 a0 a1 a2 a3 a4 a5=>spL Tryz.f85 [1,1,1,1,1,0,1,0,0,0] Z4d (((),((),((a0,()),((a1,()),((a2,()),((a3,()),())))))),((a4,()),(tu1 a5)))
 | .b5 a0 a1 a2 a3 a4 a5 a6=>spL Tryz.f85 [1,1,1,1,1,0,1,0,0,1,1,0,0,1,1,0] ZbR (((),((),((a0,()),((),((a1,()),((a2,()),((a3,()),()))))))),((a4,()),((a5.Ze.Z1z,(a5.Ze.Own,(a5.Ze.Since,(a5.Ze.Other,(a5.Ze.Z0C,(a5.Ze.Zo,(a5.Ze.Told,(a5.Ze.ZZ,(a5.Ze.Z4Y,(a5.Ze.Z74,(a5.Ze.Z0q,(a5.Ze.Version,(a5.Ze.Length,(a5.Ze.Limit,(a5.Ze.Z5R,(a5.Ze.Zpv,(a5.Ze.Mark,(a5.Ze.Z29,(a5.Ze.Z1n,(a5.Z2B,(a5.Z6c,()))))))))))))))))))))),((a6,()),(a5.Ze.Zf,(a5.f_out,(a5.ZR,())))))))
 | .b6 a0 a1 a2 a3 a4 a5=>spL Tryz.f85 [1,1,1,1,1,0,1,0,0,1,1,1] Z4d (((),((),((a0,()),((a1,()),((a2,()),((a3,()),())))))),((a4,()),(tu1 a5)))
theorem Zmk:Z0g 85 Tryz.f85 (mc ZsK (mc ZaW msN)) (hc [] ZdZ hsN) ZqM 135 Z07 ZnL:=by intro p;cases p<;>kernel_rfl
theorem ZnC:Z0a Tryz.prog B0 85 Zp7:=okP Zmk (fun x=>.b0 x.1 x.2.1) (by kernel_rfl) Tryz.func85 (by kernel_rfl) (by kernel_rfl) (fun _=>rfl) (fun _=>rfl)
inductive Z4J where
 | b0 (a0:Int)
noncomputable def Za5:Z4J->Tr U (Bool⊕Z4J)
 | .b0 a0=>.br (a0==0) ( .leaf (.inl true)) ( .leaf (.inl (a0==1)))
noncomputable def Z33 (a0:Int):Option Bool:=ZO Za5 (.b0 a0)
noncomputable def ZhB:Mod U:=⟨[3],4,fun x=>Z33 x.1,by decide⟩
noncomputable def Zgd:Z4J->Z08 U
 | .b0 a0=>Z0f Tryz.f182 [3] (a0,())
theorem ZdU:Z0g 182 Tryz.f182 msN hsN AN 4 Za5 Zgd
 | .b0 ..=>by kernel_rfl
theorem Z83:Z0a Tryz.prog B0 182 ZhB:=okP ZdU (fun x=>.b0 x.1) (by kernel_rfl) Tryz.func182 (by kernel_rfl) (by kernel_rfl) (fun _=>rfl) (fun _=>rfl)
inductive ZaZ where
 | b0 (a0 a1:Int)
noncomputable def Z6P:ZaZ->Tr U (Int⊕ZaZ)
 | .b0 a0 a1=>.bind 30 (Z2k a0 (w64 ((6:Int)+(if (499:Int)<(if (0:Int)>a1 then (0:Int) else a1) then (499:Int) else (if (0:Int)>a1 then (0:Int) else a1))))) (fun(x1:Int)=>.leaf (.inl x1))
noncomputable def Z6K (a0 a1:Int):Option Int:=ZO Z6P (.b0 a0 a1)
noncomputable def Zry:Mod U:=⟨[30,3],30,fun x=>Z6K x.1 x.2.1,by decide⟩
noncomputable def ZpP:ZaZ->Z08 U
 | .b0 a0 a1=>Z0f Tryz.f253 [30,3] (a0,a1,())
theorem ZnU:Z0g 253 Tryz.f253 (mc ZcW msN) hsN AN 30 Z6P ZpP
 | .b0 ..=>by kernel_rfl
theorem Zqy:Z0a Tryz.prog B0 253 Zry:=okP ZnU (fun x=>.b0 x.1 x.2.1) (by kernel_rfl) Tryz.func253 (by kernel_rfl) (by kernel_rfl) (fun _=>rfl) (fun _=>rfl)
inductive Z8T where
 | b0 (a0:Int) (a1:Z8)
 | b1 (a0:Int) (a1:Z8)
noncomputable def Z1D:Z8T->Tr U (Int⊕Z8T)
 | .b0 a0 a1=>.br (a1.Kind != 0) ( .br (a1.Kind != 1) ( .leaf (.inl (12:Int))) ( .leaf (.inr (.b1 a0 a1)))) ( .leaf (.inr (.b1 a0 a1)))
 | .b1 a0 a1=>.bind 4 (Z1h a0 a1.ZQ) (fun(x1:Bool)=>.br x1 ( .leaf (.inl (18:Int))) ( .leaf (.inl (0:Int))))
noncomputable def Z5r (a0:Int) (a1:Z8):Option Int:=ZO Z1D (.b0 a0 a1)
noncomputable def ZoT:Mod U:=⟨[30,138],45,fun x=>Z5r x.1 x.2.1,by decide⟩
def ZbF:Lay:=⟨[0,3],[KP,KP],[.var k10],⟨[OV 30,PQ 0],[VA 138 8]⟩⟩
def Zq4:Nat->Option Lay
 | 3=>some ZbF
 | _=>none
noncomputable def Zog:Z8T->Z08 U
 | .b0 a0 a1=>Z0f Tryz.f332 [30,138] (a0,a1,())
 | .b1 a0 a1=>spL Tryz.f332 [1,1,0,0] ZbF (((a0,()),((),())),((a1,()),()))
theorem Zmt:Z0g 332 Tryz.f332 (mc Z3g msN) hsN Zq4 45 Z1D Zog:=by intro p;cases p<;>kernel_rfl
theorem ZnO:Z0a Tryz.prog B0 332 ZoT:=okP Zmt (fun x=>.b0 x.1 x.2.1) (by kernel_rfl) Tryz.func332 (by kernel_rfl) (by kernel_rfl) (fun _=>rfl) (fun _=>rfl)
inductive Zd5 where
 | b0 (a0:List Z8) (a1:Int) (a2:Z8)
noncomputable def Z8p:Zd5->Tr U (((List Z8)×Int)⊕Zd5)
 | .b0 a0 a1 a2=>.bind 45 (Z5r a1 a2) (fun(x1:Int)=>.br (x1 != 0) ( .bind 1346 (Z0D a0) (fun(y2:Z0B)=>.chk (y2.q0.length==y2.q0.length) ( .leaf (.inl (y2.q0,x1))))) ( .br (decide ((↑a0.length:Int)>0)) ( .bind 1346 (Z0D a0) (fun(y3:Z0B)=>.chk (y3.q0.length==y3.q0.length) ( .leaf (.inl (y3.q0,20))))) ( .chk (([a2]).length==1) ( .leaf (.inl ([a2],(0:Int)))))))
noncomputable def Z8d (a0:List Z8) (a1:Int) (a2:Z8):Option ((List Z8)×Int):=ZO Z8p (.b0 a0 a1 a2)
noncomputable def ZvQ:Mod U:=⟨[37,30,138],269,fun x=>Z8d x.1 x.2.1 x.2.2.1,by decide⟩
noncomputable def ZsC:Zd5->Z08 U
 | .b0 a0 a1 a2=>Z0f Tryz.f254 [37,30,138] (a0,a1,a2,())
theorem Zpt:Z0g 254 Tryz.f254 (mc ZnO msN) (hc [] Z3A hsN) AN 269 Z8p ZsC
 | .b0 ..=>by kernel_rfl
theorem Zrz:Z0a Tryz.prog B0 254 ZvQ:=okP Zpt (fun x=>.b0 x.1 x.2.1 x.2.2.1) (by kernel_rfl) Tryz.func254 (by kernel_rfl) (by kernel_rfl) (fun _=>rfl) (fun _=>rfl)
inductive Z5o where
 | b0 (a0:Z4)
noncomputable def ZaF:Z5o->Tr U (Z8⊕Z5o)
 | .b0 a0=>.leaf (.inl (⟨a0.Kind,a0.ZQ,a0.Zt,a0.Map⟩:Z8))
noncomputable def Z5v (a0:Z4):Option Z8:=ZO ZaF (.b0 a0)
noncomputable def Zkx:Mod U:=⟨[156],138,fun x=>Z5v x.1,by decide⟩
noncomputable def Zix:Z5o->Z08 U
 | .b0 a0=>Z0f Tryz.f255 [156] (a0,())
theorem Zgs:Z0g 255 Tryz.f255 msN hsN AN 138 ZaF Zix
 | .b0 ..=>by kernel_rfl
theorem ZiC:Z0a Tryz.prog B0 255 Zkx:=okP Zgs (fun x=>.b0 x.1) (by kernel_rfl) Tryz.func255 (by kernel_rfl) (by kernel_rfl) (fun _=>rfl) (fun _=>rfl)
inductive Z3x where
 | b0 (a0:Z4) (a1:Zm)
noncomputable def Z3z:Z3x->Tr U (Z11⊕Z3x)
 | .b0 a0 a1=>.chk (([a0]).length==1) ( .chk (a1.f_out.length==a1.f_out.length) ( .chk (decide ((a1.f_out.length+([a0]).length)*120<=lim)&&decide (a1.f_out.length+([a0]).length<=maxLen)) ( .chk (((a1.f_out++[a0]).length==(a1.f_out++[a0]).length)&&(a1.ZR.length==a1.ZR.length)) ( .leaf (.inl (⟨({ a1 with f_out:=(a1.f_out++[a0]) }:Zm)⟩:Z11))))))
noncomputable def Z3w (a0:Z4) (a1:Zm):Option Z11:=ZO Z3z (.b0 a0 a1)
def Z4U:Shape:=⟨[PQ 0,.agg [.v 156 15 true]],[.var 211 24 (ag1 1),.row 156 true,.row 148 true]⟩
noncomputable def Z60:HMod U:=⟨[KP,k1],[.var k8,.row true,.row true],Z4U,⟨[],[.var 211 24 (ag1 1),.row 156 true,.row 148 true]⟩,false,1365,fun(y:Z11)=>((),((y.q0.Ze,(y.q0.Z2B,(y.q0.Z6c,()))),(y.q0.f_out,(y.q0.ZR,())))),fun x=>Z3w x.1.2.1.1 (⟨x.2.1.1,x.2.1.2.1,x.2.1.2.2.1,x.2.2.1,x.2.2.2.1⟩:Zm),⟨⟨trivial,⟨⟨⟨by decide,fun _=>⟨_,rfl,rfl⟩⟩,trivial⟩,trivial⟩⟩,⟨⟨⟨by decide,fun _=>⟨_,rfl,rfl⟩⟩,⟨⟨by decide,fun _=>rfl⟩,⟨⟨by decide,fun _=>rfl⟩,⟨trivial,⟨trivial,trivial⟩⟩⟩⟩⟩,⟨by decide,⟨by decide,trivial⟩⟩⟩⟩⟩
noncomputable def ZcB:Z3x->Z08 U
 | .b0 a0 a1=>ZB3 Tryz.f256 Z4U (((),((a0,()),())),(tu2 a1))
theorem Zbq:ZB5 256 Tryz.f256 msN hsN AN [] [.var k8,.row true,.row true] 3 Z60 Z3z ZcB
 | .b0 ..=>by kernel_rfl
theorem Zdm:Z4n Tryz.prog B0 256 Z60:=okH Zbq (fun x=>.b0 x.1.2.1.1 (⟨x.2.1.1,x.2.1.2.1,x.2.1.2.2.1,x.2.2.1,x.2.2.2.1⟩:Zm)) (fun x=>by kernel_rfl) (by kernel_rfl) Tryz.func256 (by kernel_rfl) (by kernel_rfl) (fun x=>by kernel_rfl) (fun x=>by kernel_rfl)
inductive Z2P where
 | b0 (a0:Z4) (a1:Zm)
 | b1 (a0:Zm) (a1:Z4)
 | b2 (a0:Int) (a1:Zm) (a2:Z4)
 | b3 (a0:Zm) (a1:Z4)
 | b4 (a0:Zm) (a1:Z4)
noncomputable def Z04:Z2P->Tr U (Z0T⊕Z2P)
 | .b0 a0 a1=>.br (a0.Kind==0) ( .br (a0.Kind==0) ( .chk ((a1.f_out.length==a1.f_out.length)&&(a1.ZR.length==a1.ZR.length)) ( .leaf (.inr (.b1 ({ a1 with Ze:=({ a1.Ze with Own:=a0.Kind,Since:=a1.Z6c }:Z7) }:Zm) a0)))) ( .chk ((a1.f_out.length==a1.f_out.length)&&(a1.ZR.length==a1.ZR.length)) ( .leaf (.inr (.b2 a0.Kind ({ a1 with Ze:=({ a1.Ze with Own:=a0.Kind,Since:=a1.Z6c }:Z7) }:Zm) a0))))) ( .br (a0.Kind==1) ( .chk ((a1.f_out.length==a1.f_out.length)&&(a1.ZR.length==a1.ZR.length)) ( .leaf (.inr (.b1 ({ a1 with Ze:=({ a1.Ze with Own:=a0.Kind,Since:=a1.Z6c }:Z7) }:Zm) a0)))) ( .chk ((a1.f_out.length==a1.f_out.length)&&(a1.ZR.length==a1.ZR.length)) ( .leaf (.inr (.b2 a0.Kind ({ a1 with Ze:=({ a1.Ze with Own:=a0.Kind,Since:=a1.Z6c }:Z7) }:Zm) a0)))))
 | .b1 a0 a1=>.bind 30 (Z6K a0.Z2B (0:Int)) (fun(x1:Int)=>.bind 138 (Z5v ({ a1 with ZQ:=x1 }:Z4)) (fun(x2:Z8)=>.bind 269 (Z8d a0.Ze.Zo a0.Z2B x2) (fun(x3:(List Z8)×Int)=>.br (a1.Kind==0) ( .br (a0.Ze.Other==15) ( .chk ((a0.f_out.length==a0.f_out.length)&&(a0.ZR.length==a0.ZR.length)) ( .leaf (.inr (.b3 ({ a0 with Ze:=({ a0.Ze with Zo:=x3.1,Told:=false }:Z7) }:Zm) ({ a1 with ZQ:=x1 }:Z4))))) ( .chk ((a0.f_out.length==a0.f_out.length)&&(a0.ZR.length==a0.ZR.length)) ( .leaf (.inr (.b4 ({ a0 with Ze:=({ a0.Ze with Zo:=x3.1,Told:=false }:Z7) }:Zm) ({ a1 with ZQ:=x1 }:Z4)))))) ( .chk ((a0.f_out.length==a0.f_out.length)&&(a0.ZR.length==a0.ZR.length)) ( .leaf (.inr (.b4 ({ a0 with Ze:=({ a0.Ze with Zo:=x3.1,Told:=false }:Z7) }:Zm) ({ a1 with ZQ:=x1 }:Z4))))))))
 | .b2 a0 a1 a2=>.br (a0==3) ( .chk ((a1.f_out.length==a1.f_out.length)&&(a1.ZR.length==a1.ZR.length)) ( .leaf (.inr (.b4 ({ a1 with Ze:=({ a1.Ze with Z5R:=a2.Z5R,Mark:=a2.Mark,Z29:=1 }:Z7) }:Zm) a2)))) ( .br (a0==12) ( .chk ((a1.f_out.length==a1.f_out.length)&&(a1.ZR.length==a1.ZR.length)) ( .leaf (.inr (.b4 ({ a1 with Ze:=({ a1.Ze with Z0q:=true }:Z7) }:Zm) a2)))) ( .br (a0==20) ( .chk ((a1.f_out.length==a1.f_out.length)&&(a1.ZR.length==a1.ZR.length)) ( .leaf (.inr (.b4 ({ a1 with Ze:=({ a1.Ze with Limit:=a2.Length }:Z7) }:Zm) a2)))) ( .chk ((a1.f_out.length==a1.f_out.length)&&(a1.ZR.length==a1.ZR.length)) ( .leaf (.inr (.b4 a1 a2))))))
 | .b3 a0 a1=>.chk ((a0.f_out.length==a0.f_out.length)&&(a0.ZR.length==a0.ZR.length)) ( .leaf (.inr (.b4 ({ a0 with Ze:=({ a0.Ze with Other:=-1 }:Z7) }:Zm) a1)))
 | .b4 a0 a1=>.chk ((a0.f_out.length==a0.f_out.length)&&(a0.ZR.length==a0.ZR.length)) ( .bind 1365 (Z3w a1 a0) (fun(y1:Z11)=>.chk ((y1.q0.f_out.length==y1.q0.f_out.length)&&(y1.q0.ZR.length==y1.q0.ZR.length)) ( .leaf (.inl (⟨y1.q0⟩:Z0T)))))
noncomputable def Z2V (a0:Z4) (a1:Zm):Option Z0T:=ZO Z04 (.b0 a0 a1)
def Z4g:Shape:=⟨[PQ 0,.agg [.v 156 15 true]],[.var 211 24 (ag1 1),.row 156 true,.row 148 true]⟩
noncomputable def Z4R:HMod U:=⟨[KP,k1],[.var k8,.row true,.row true],Z4g,⟨[],[.var 211 24 (ag1 1),.row 156 true,.row 148 true]⟩,false,1366,fun(y:Z0T)=>((),((y.q0.Ze,(y.q0.Z2B,(y.q0.Z6c,()))),(y.q0.f_out,(y.q0.ZR,())))),fun x=>Z2V x.1.2.1.1 (⟨x.2.1.1,x.2.1.2.1,x.2.1.2.2.1,x.2.2.1,x.2.2.2.1⟩:Zm),⟨⟨trivial,⟨⟨⟨by decide,fun _=>⟨_,rfl,rfl⟩⟩,trivial⟩,trivial⟩⟩,⟨⟨⟨by decide,fun _=>⟨_,rfl,rfl⟩⟩,⟨⟨by decide,fun _=>rfl⟩,⟨⟨by decide,fun _=>rfl⟩,⟨trivial,⟨trivial,trivial⟩⟩⟩⟩⟩,⟨by decide,⟨by decide,trivial⟩⟩⟩⟩⟩
def Z0E:Lay:=⟨[0,3],[KP,KP],[.var k8,.row true,.row true,.var k1],⟨[PQ 0,PQ 3],[.var 211 24 (ag1 1),.row 156 true,.row 148 true,VA 156 15]⟩⟩
def Z4j:Lay:=⟨[0,3,19],[KP,KP,KP],[.var k8,.row true,.row true,.var k1],⟨[PQ 0,PQ 3,OV 3],[.var 211 24 (ag1 1),.row 156 true,.row 148 true,VA 156 15]⟩⟩
def Zbt:Nat->Option Lay
 | 5=>some Z0E
 | 10=>some Z4j
 | 9=>some Z0E
 | 16=>some Z0E
 | _=>none
noncomputable def Zb1:Z2P->Z08 U
 | .b0 a0 a1=>ZB3 Tryz.f183 Z4g (((),((a0,()),())),(tu2 a1))
 | .b1 a0 a1=>spL Tryz.f183 [1,1,0,1,0,1,0,0] Z0E (((),((),())),((a0.Ze,(a0.Z2B,(a0.Z6c,()))),(a0.f_out,(a0.ZR,((a1,()),())))))
 | .b2 a0 a1 a2=>spL Tryz.f183 [1,1,0,1,0,1,1,0] Z4j (((),((),((a0,()),()))),((a1.Ze,(a1.Z2B,(a1.Z6c,()))),(a1.f_out,(a1.ZR,((a2,()),())))))
 | .b3 a0 a1=>spL Tryz.f183 [1,1,0,1,0,1,0,1,1,1,1,0] Z0E (((),((),())),((a0.Ze,(a0.Z2B,(a0.Z6c,()))),(a0.f_out,(a0.ZR,((a1,()),())))))
 | .b4 a0 a1=>spL Tryz.f183 [1,1,1] Z0E (((),((),())),((a0.Ze,(a0.Z2B,(a0.Z6c,()))),(a0.f_out,(a0.ZR,((a1,()),())))))
theorem Za7:ZB5 183 Tryz.f183 (mc Zqy (mc Zrz (mc ZiC msN))) (hc [] Zdm hsN) Zbt [] [.var k8,.row true,.row true] 3 Z4R Z04 Zb1:=by intro p;cases p<;>kernel_rfl
theorem ZaG:Z4n Tryz.prog B0 183 Z4R:=okH Za7 (fun x=>.b0 x.1.2.1.1 (⟨x.2.1.1,x.2.1.2.1,x.2.1.2.2.1,x.2.2.1,x.2.2.2.1⟩:Zm)) (fun x=>by kernel_rfl) (by kernel_rfl) Tryz.func183 (by kernel_rfl) (by kernel_rfl) (fun x=>by kernel_rfl) (fun x=>by kernel_rfl)
inductive Z6y where
 | b0 (a0:Z7) (a1 a2:Int)
 | b1 (a0:Z7) (a1:Zm)
 | b2 (a0:Z7) (a1:Zm)
 | b3 (a0:Z7) (a1:Zm)
 | b4 (a0:Z7) (a1:Zm) (a2:Z4)
 | b5 (a0:Z7) (a1:Zm) (a2:Z4)
noncomputable def Z0b:Z6y->Tr U ((Z7×(List Z4))⊕Z6y)
 | .b0 a0 a1 a2=>.bind 1363 (Z6O a0 a1 a2) (fun(y1:Z2z)=>.chk (y1.q0.Ze.Zf.length==y1.q0.Ze.Zf.length) ( .chk (y1.q0.Ze.Zo.length==y1.q0.Ze.Zo.length) ( .chk ((y1.q0.f_out.length==y1.q0.f_out.length)&&(y1.q0.ZR.length==y1.q0.ZR.length)) ( .leaf (.inr (.b1 ZI y1.q0))))))
 | .b1 a0 a1=>.br (a1.Ze.Z1n==0) ( .br (a1.Ze.Own == -1) ( .br (decide ((↑a1.Ze.Zf.length:Int)>0)) ( .chk ((a1.f_out.length==a1.f_out.length)&&(a1.ZR.length==a1.ZR.length)) ( .leaf (.inr (.b2 a0 a1)))) ( .chk ((a1.f_out.length==a1.f_out.length)&&(a1.ZR.length==a1.ZR.length)) ( .leaf (.inr (.b3 a0 a1))))) ( .chk ((a1.f_out.length==a1.f_out.length)&&(a1.ZR.length==a1.ZR.length)) ( .leaf (.inr (.b3 a0 a1))))) ( .chk ((a1.f_out.length==a1.f_out.length)&&(a1.ZR.length==a1.ZR.length)) ( .leaf (.inr (.b3 a0 a1))))
 | .b2 a0 a1=>.chk (decide (0<=(0:Int)/\(0:Int)<(↑a1.Ze.Zf.length:Int))) ( .bind 156 (a1.Ze.Zf[(Int.toNat 0)]?) (fun(x1:Z4)=>.bind 4 (Z33 x1.Kind) (fun(x2:Bool)=>.br x2 ( .br (decide ((↑a1.Ze.Zo.length:Int)>0)) ( .chk ((a1.f_out.length==a1.f_out.length)&&(a1.ZR.length==a1.ZR.length)) ( .leaf (.inr (.b3 a0 a1)))) ( .chk ((a1.f_out.length==a1.f_out.length)&&(a1.ZR.length==a1.ZR.length)) ( .leaf (.inr (.b4 a0 a1 x1))))) ( .chk ((a1.f_out.length==a1.f_out.length)&&(a1.ZR.length==a1.ZR.length)) ( .leaf (.inr (.b4 a0 a1 x1)))))))
 | .b3 a0 a1=>.chk (a1.f_out.length==a1.f_out.length) ( .leaf (.inl (a1.Ze,a1.f_out)))
 | .b4 a0 a1 a2=>.chk (decide (0<=(1:Int)/\(1:Int)<=(↑a1.Ze.Zf.length:Int))) ( .br (a2.Kind==12) ( .br a1.Ze.Z0q ( .chk ((a1.f_out.length==a1.f_out.length)&&(a1.ZR.length==a1.ZR.length)) ( .leaf (.inr (.b1 a0 ({ a1 with Ze:=({ a1.Ze with Zf:=((a1.Ze.Zf.drop (Int.toNat 1)).take (a1.Ze.Zf.length - (Int.toNat 1))) }:Z7) }:Zm))))) ( .br (a2.Kind==3) ( .br (a1.Ze.Z29 != 0) ( .chk ((a1.f_out.length==a1.f_out.length)&&(a1.ZR.length==a1.ZR.length)) ( .leaf (.inr (.b1 a0 ({ a1 with Ze:=({ a1.Ze with Zf:=((a1.Ze.Zf.drop (Int.toNat 1)).take (a1.Ze.Zf.length - (Int.toNat 1))) }:Z7) }:Zm))))) ( .chk ((a1.f_out.length==a1.f_out.length)&&(a1.ZR.length==a1.ZR.length)) ( .leaf (.inr (.b5 a0 ({ a1 with Ze:=({ a1.Ze with Zf:=((a1.Ze.Zf.drop (Int.toNat 1)).take (a1.Ze.Zf.length - (Int.toNat 1))) }:Z7) }:Zm) a2))))) ( .chk ((a1.f_out.length==a1.f_out.length)&&(a1.ZR.length==a1.ZR.length)) ( .leaf (.inr (.b5 a0 ({ a1 with Ze:=({ a1.Ze with Zf:=((a1.Ze.Zf.drop (Int.toNat 1)).take (a1.Ze.Zf.length - (Int.toNat 1))) }:Z7) }:Zm) a2)))))) ( .br (a2.Kind==3) ( .br (a1.Ze.Z29 != 0) ( .chk ((a1.f_out.length==a1.f_out.length)&&(a1.ZR.length==a1.ZR.length)) ( .leaf (.inr (.b1 a0 ({ a1 with Ze:=({ a1.Ze with Zf:=((a1.Ze.Zf.drop (Int.toNat 1)).take (a1.Ze.Zf.length - (Int.toNat 1))) }:Z7) }:Zm))))) ( .chk ((a1.f_out.length==a1.f_out.length)&&(a1.ZR.length==a1.ZR.length)) ( .leaf (.inr (.b5 a0 ({ a1 with Ze:=({ a1.Ze with Zf:=((a1.Ze.Zf.drop (Int.toNat 1)).take (a1.Ze.Zf.length - (Int.toNat 1))) }:Z7) }:Zm) a2))))) ( .chk ((a1.f_out.length==a1.f_out.length)&&(a1.ZR.length==a1.ZR.length)) ( .leaf (.inr (.b5 a0 ({ a1 with Ze:=({ a1.Ze with Zf:=((a1.Ze.Zf.drop (Int.toNat 1)).take (a1.Ze.Zf.length - (Int.toNat 1))) }:Z7) }:Zm) a2))))))
 | .b5 a0 a1 a2=>.chk ((a1.f_out.length==a1.f_out.length)&&(a1.ZR.length==a1.ZR.length)) ( .bind 1366 (Z2V a2 a1) (fun(y1:Z0T)=>.chk ((y1.q0.f_out.length==y1.q0.f_out.length)&&(y1.q0.ZR.length==y1.q0.ZR.length)) ( .leaf (.inr (.b1 a0 y1.q0)))))
noncomputable def Z63 (a0:Z7) (a1 a2:Int):Option (Z7×(List Z4)):=ZO Z0b (.b0 a0 a1 a2)
noncomputable def ZmC:Mod U:=⟨[39,30,3],140,fun x=>Z63 x.1 x.2.1 x.2.2.1,by decide⟩
def Z1s:Lay:=⟨[6,8],[KP,KP],[.var k0,.var k8,.row true,.row true],⟨[PQ 0,PQ 1],[VA 39 20,.var 211 24 (ag1 2),.row 156 true,.row 148 true]⟩⟩
def Z37:Lay:=⟨[6,8,9],[KP,KP,KP],[.var k0,.var k8,.var k1,.row true,.row true],⟨[PQ 0,PQ 1,PQ 2],[VA 39 20,.var 211 24 (ag1 3),VA 156 15,.row 156 true,.row 148 true]⟩⟩
def Zma:Nat->Option Lay
 | 2=>some Z1s
 | 3=>some Z1s
 | 8=>some Z1s
 | 5=>some Z37
 | 7=>some Z37
 | _=>none
noncomputable def ZjS:Z6y->Z08 U
 | .b0 a0 a1 a2=>Z0f Tryz.f87 [39,30,3] (a0,a1,a2,())
 | .b1 a0 a1=>spL Tryz.f87 [1,1,0,0,0,0,0] Z1s (((),((),())),((a0,()),(tu2 a1)))
 | .b2 a0 a1=>spL Tryz.f87 [1,1,0,0,0,1,0,0] Z1s (((),((),())),((a0,()),(tu2 a1)))
 | .b3 a0 a1=>spL Tryz.f87 [1,1,1,0] Z1s (((),((),())),((a0,()),(tu2 a1)))
 | .b4 a0 a1 a2=>spL Tryz.f87 [1,1,0,0,0,1,0,1,1,0] Z37 (((),((),((),()))),((a0,()),((a1.Ze,(a1.Z2B,(a1.Z6c,()))),((a2,()),(a1.f_out,(a1.ZR,()))))))
 | .b5 a0 a1 a2=>spL Tryz.f87 [1,1,0,0,0,1,0,1,1,1,1] Z37 (((),((),((),()))),((a0,()),((a1.Ze,(a1.Z2B,(a1.Z6c,()))),((a2,()),(a1.f_out,(a1.ZR,()))))))
theorem Ziv:Z0g 87 Tryz.f87 (mc Z83 msN) (hc [] ZdZ (hc [] ZaG hsN)) Zma 140 Z0b ZjS:=by intro p;cases p<;>kernel_rfl
theorem Zjt:Z0a Tryz.prog B0 87 ZmC:=okP Ziv (fun x=>.b0 x.1 x.2.1 x.2.2.1) (by kernel_rfl) Tryz.func87 (by kernel_rfl) (by kernel_rfl) (fun _=>rfl) (fun _=>rfl)
inductive Z4p where
 | b0 (a0:Z0N)
noncomputable def Z4m:Z4p->Tr U (Int⊕Z4p)
 | .b0 a0=>.bind 30 (Z2k a0.Link.Event a0.Link.ZN.Zt.Z0o) (fun(x1:Int)=>.leaf (.inl x1))
noncomputable def Z4q (a0:Z0N):Option Int:=ZO Z4m (.b0 a0)
noncomputable def Zgn:Mod U:=⟨[115],30,fun x=>Z4q x.1,by decide⟩
noncomputable def Ze4:Z4p->Z08 U
 | .b0 a0=>Z0f Tryz.f88 [115] (a0,())
theorem ZdQ:Z0g 88 Tryz.f88 (mc ZcW msN) hsN AN 30 Z4m Ze4
 | .b0 ..=>by kernel_rfl
theorem ZeZ:Z0a Tryz.prog B0 88 Zgn:=okP ZdQ (fun x=>.b0 x.1) (by kernel_rfl) Tryz.func88 (by kernel_rfl) (by kernel_rfl) (fun _=>rfl) (fun _=>rfl)
inductive Zib where
 | b0 (a0:Z9)
 | b1 (a0 a1:List Zd) (a2 a3:Int) (a4:Z9)
noncomputable def Za6:Zib->Tr U (Z6x⊕Zib)
 | .b0 a0=>.chk (decide (0<=(↑a0.Arq.Zu.length:Int)/\(↑a0.Arq.Zu.length:Int)<=(↑a0.Arq.Zu.length:Int)/\Int.toNat (↑a0.Arq.Zu.length:Int)*32<=lim/\(↑a0.Arq.Zu.length:Int)<=(↑maxLen:Int))) ( .chk ((List.replicate (Int.toNat (↑a0.Arq.Zu.length:Int)) ((⟨0,[]⟩:Zd):Zd)).length==(List.replicate (Int.toNat (↑a0.Arq.Zu.length:Int)) ((⟨0,[]⟩:Zd):Zd)).length) ( .leaf (.inr (.b1 (List.replicate (Int.toNat (↑a0.Arq.Zu.length:Int)) ((⟨0,[]⟩:Zd):Zd)) a0.Arq.Zu (↑a0.Arq.Zu.length:Int) (0:Int) a0))))
 | .b1 a0 a1 a2 a3 a4=>.br (decide (a3<a2)) ( .chk (decide (0<=a3/\a3<(↑a1.length:Int))) ( .bind 68 (a1[(Int.toNat a3)]?) (fun(x1:Zd)=>.bind 1344 (Z1u x1.Payload) (fun(y2:Z1r)=>.chk (a0.length==a0.length) ( .chk (decide (0<=a3/\a3<(↑a0.length:Int))) ( .chk (a0.length==a0.length&&decide (0<=(Int.toNat a3))) ( .bind 68 (a0[(Int.toNat a3)]?) (fun(x3:Zd)=>.chk (y2.q0.length==y2.q0.length) ( .chk ((a0.set (Int.toNat a3) (⟨x1.Z5f,y2.q0⟩:Zd)).length==a0.length) ( .leaf (.inr (.b1 (a0.set (Int.toNat a3) (⟨x1.Z5f,y2.q0⟩:Zd)) a1 a2 (w64 (a3+1)) a4)))))))))))) ( .bind 1345 (Z0O a4.Ze.Zf) (fun(y4:Z0u)=>.bind 1346 (Z0D a4.Ze.Zo) (fun(y5:Z0B)=>.bind 1347 (Z2D a4.Zw) (fun(y6:Z1P)=>.bind 1345 (Z0O a4.Zb) (fun(y7:Z0u)=>.chk ((a0.length==a0.length)&&((y4.q0.length==y4.q0.length)&&((y5.q0.length==y5.q0.length)&&((y6.q0.length==y6.q0.length)&&((y7.q0.length==y7.q0.length)&&(([]:List Z5).length==0)))))) ( .leaf (.inl (⟨(⟨({ a4 with Arq:=({ a4.Arq with Zu:=a0 }:ZK),Ze:=({ a4.Ze with Zf:=y4.q0,Zo:=y5.q0 }:Z7),Zw:=y6.q0,Zb:=y7.q0 }:Z9),([]:List Z5)⟩:ZE)⟩:Z6x))))))))
noncomputable def Zi1 (a0:Z9):Option Z6x:=ZO Za6 (.b0 a0)
def Zku:Shape:=⟨[.agg [.v 44 66 true]],[]⟩
noncomputable def ZqG:HMod U:=⟨[k2],[],Zku,⟨[PQ 0],[.var 118 67 (ag4 1),.row 68 true,.row 156 true,.row 138 true,.row 99 true,.row 156 true,.row 148 true]⟩,true,1353,fun(y:Z6x)=>(((),()),((y.q0.Link.Z1z,(y.q0.Link.ZN,(y.q0.Link.Clock,(y.q0.Link.Event,(y.q0.Link.Last,(y.q0.Link.Z19,(y.q0.Link.Size,(y.q0.Link.Sync,(y.q0.Link.Z2W,(y.q0.Link.Z2C,(y.q0.Link.Got,(y.q0.Link.Good,(y.q0.Link.Z1U,(y.q0.Link.More,(y.q0.Link.Arq.SN,(y.q0.Link.Arq.Zda,(y.q0.Link.Arq.Open,(y.q0.Link.Arq.Empty,(y.q0.Link.Arq.Z1U,(y.q0.Link.Arq.Taken,(y.q0.Link.Z0y,(y.q0.Link.Ze.Z1z,(y.q0.Link.Ze.Own,(y.q0.Link.Ze.Since,(y.q0.Link.Ze.Other,(y.q0.Link.Ze.Z0C,(y.q0.Link.Ze.Told,(y.q0.Link.Ze.ZZ,(y.q0.Link.Ze.Z4Y,(y.q0.Link.Ze.Z74,(y.q0.Link.Ze.Z0q,(y.q0.Link.Ze.Version,(y.q0.Link.Ze.Length,(y.q0.Link.Ze.Limit,(y.q0.Link.Ze.Z5R,(y.q0.Link.Ze.Zpv,(y.q0.Link.Ze.Mark,(y.q0.Link.Ze.Z29,(y.q0.Link.Ze.Z1n,(y.q0.Link.Z0h,(y.q0.Link.Key,(y.q0.Link.Z05,(y.q0.Link.Zld,()))))))))))))))))))))))))))))))))))))))))))),(y.q0.Link.Arq.Zu,(y.q0.Link.Ze.Zf,(y.q0.Link.Ze.Zo,(y.q0.Link.Zw,(y.q0.Link.Zb,(y.q0.Zz,())))))))),fun x=>Zi1 x.1.1.1,⟨⟨⟨⟨by decide,fun _=>⟨_,rfl,rfl⟩⟩,trivial⟩,trivial⟩,trivial⟩⟩
def ZjY:Lay:=⟨[1,3,13,14,15],[KP,[.own 68 2],[.s 68 2],KP,KP],[.var k2,.row true],⟨[PQ 0,.one (.own 68 1),OV 31,OV 3,OV 3],[VA 44 66,.row 68 true]⟩⟩
def ZBV:Nat->Option Lay
 | 3=>some ZjY
 | _=>none
noncomputable def ZA6:Zib->Z08 U
 | .b0 a0=>ZB3 Tryz.f62 Zku (((a0,()),()),())
 | .b1 a0 a1 a2 a3 a4=>spL Tryz.f62 [1,1,0,1,0,0,0] ZjY (((),((),((a1,()),((a2,()),((a3,()),()))))),((a4,()),(a0,())))
theorem ZuY:ZB5 62 Tryz.f62 msN (hc [] Z82 (hc [] Z5p (hc [] Z3A (hc [] Zfd hsN)))) ZBV [KP] [.var k13,.row true,.row true,.row true,.row true,.row true,.row true] 0 ZqG Za6 ZA6:=by intro p;cases p<;>kernel_rfl
theorem ZAd:Z4n Tryz.prog B0 62 ZqG:=okH ZuY (fun x=>.b0 x.1.1.1) (fun x=>by kernel_rfl) (by kernel_rfl) Tryz.func62 (by kernel_rfl) (by kernel_rfl) (fun x=>by kernel_rfl) (fun x=>by kernel_rfl)
inductive ZaI where
 | b0 (a0:Z9)
noncomputable def ZaL:ZaI->Tr U (Int⊕ZaI)
 | .b0 a0=>.bind 104 (Z8x a0.ZN a0.Event a0.Last) (fun(x1:Int×Int)=>.leaf (.inl x1.1))
noncomputable def ZaS (a0:Z9):Option Int:=ZO ZaL (.b0 a0)
noncomputable def ZsJ:Mod U:=⟨[44],3,fun x=>ZaS x.1,by decide⟩
noncomputable def Zp3:ZaI->Z08 U
 | .b0 a0=>Z0f Tryz.f15 [44] (a0,())
theorem ZnX:Z0g 15 Tryz.f15 (mc Zr5 msN) hsN AN 3 ZaL Zp3
 | .b0 ..=>by kernel_rfl
theorem Zqj:Z0a Tryz.prog B0 15 ZsJ:=okP ZnX (fun x=>.b0 x.1) (by kernel_rfl) Tryz.func15 (by kernel_rfl) (by kernel_rfl) (fun _=>rfl) (fun _=>rfl)
inductive ZaN where
 | b0 (a0:List Zj)
noncomputable def ZaH:ZaN->Tr U (Z3q⊕ZaN)
 | .b0 a0=>.chk (decide (0<=(↑a0.length:Int)/\(↑a0.length:Int)<=(↑a0.length:Int)/\Int.toNat (↑a0.length:Int)*16<=lim/\(↑a0.length:Int)<=(↑maxLen:Int))) ( .chk ((List.replicate (Int.toNat (↑a0.length:Int)) (⟨0,0⟩:Zj)).length==(List.replicate (Int.toNat (↑a0.length:Int)) (⟨0,0⟩:Zj)).length) ( .chk ((a0.take (List.replicate (Int.toNat (↑a0.length:Int)) (⟨0,0⟩:Zj)).length++(List.replicate (Int.toNat (↑a0.length:Int)) (⟨0,0⟩:Zj)).drop a0.length).length==(List.replicate (Int.toNat (↑a0.length:Int)) (⟨0,0⟩:Zj)).length) ( .leaf (.inl (⟨(a0.take (List.replicate (Int.toNat (↑a0.length:Int)) (⟨0,0⟩:Zj)).length++(List.replicate (Int.toNat (↑a0.length:Int)) (⟨0,0⟩:Zj)).drop a0.length)⟩:Z3q)))))
noncomputable def Zb2 (a0:List Zj):Option Z3q:=ZO ZaH (.b0 a0)
def Zdv:Shape:=⟨[OV 42],[]⟩
noncomputable def Zh2:HMod U:=⟨[[.s 99 2]],[],Zdv,⟨[.one (.own 99 0)],[.row 99 true]⟩,true,1367,fun(y:Z3q)=>(((),()),(y.q0,())),fun x=>Zb2 x.1.1.1,⟨⟨⟨by decide,fun _=>rfl⟩,trivial⟩,trivial⟩⟩
noncomputable def Zr6:ZaN->Z08 U
 | .b0 a0=>ZB3 Tryz.f251 Zdv (((a0,()),()),())
theorem Zo6:ZB5 251 Tryz.f251 msN hsN AN [[.own 99 2]] [.row true] 0 Zh2 ZaH Zr6
 | .b0 ..=>by kernel_rfl
theorem ZpI:Z4n Tryz.prog B0 251 Zh2:=okH Zo6 (fun x=>.b0 x.1.1.1) (fun x=>by kernel_rfl) (by kernel_rfl) Tryz.func251 (by kernel_rfl) (by kernel_rfl) (fun x=>by kernel_rfl) (fun x=>by kernel_rfl)
inductive Z8I where
 | b0 (a0:List Zj) (a1:Int) (a2:Bool)
noncomputable def Z8Q:Z8I->Tr U ((List Zj)⊕Z8I)
 | .b0 a0 a1 a2=>.bind 1367 (Zb2 a0) (fun(y1:Z3q)=>.br (decide (a1<0)) ( .chk (y1.q0.length==y1.q0.length) ( .leaf (.inl y1.q0))) ( .chk (y1.q0.length==y1.q0.length) ( .br (decide (a1>=(↑y1.q0.length:Int))) ( .chk (y1.q0.length==y1.q0.length) ( .leaf (.inl y1.q0))) ( .chk (y1.q0.length==y1.q0.length) ( .chk (decide (0<=a1/\a1<(↑y1.q0.length:Int))) ( .br a2 ( .chk (y1.q0.length==y1.q0.length) ( .chk (decide (0<=a1/\a1<(↑y1.q0.length:Int))) ( .chk (y1.q0.length==y1.q0.length) ( .bind 99 (y1.q0[(Int.toNat a1)]?) (fun(x2:Zj)=>.br (decide (x2.Good<65536)) ( .chk (y1.q0.length==y1.q0.length) ( .bind 99 (y1.q0[(Int.toNat a1)]?) (fun(x3:Zj)=>.chk (y1.q0.length==y1.q0.length&&decide (0<=(Int.toNat a1))) ( .bind 99 (y1.q0[(Int.toNat a1)]?) (fun(x4:Zj)=>.chk ((y1.q0.set (Int.toNat a1) (⟨(w64 (x3.Good+1)),x4.Bad⟩:Zj)).length==y1.q0.length) ( .leaf (.inl (y1.q0.set (Int.toNat a1) (⟨(w64 (x3.Good+1)),x4.Bad⟩:Zj))))))))) ( .chk (y1.q0.length==y1.q0.length) ( .leaf (.inl y1.q0)))))))) ( .chk (y1.q0.length==y1.q0.length) ( .bind 99 (y1.q0[(Int.toNat a1)]?) (fun(x5:Zj)=>.br (decide (x5.Bad<65536)) ( .chk (y1.q0.length==y1.q0.length) ( .bind 99 (y1.q0[(Int.toNat a1)]?) (fun(x6:Zj)=>.chk (y1.q0.length==y1.q0.length&&decide (0<=(Int.toNat a1))) ( .bind 99 (y1.q0[(Int.toNat a1)]?) (fun(x7:Zj)=>.chk ((y1.q0.set (Int.toNat a1) (⟨x7.Good,(w64 (x6.Bad+1))⟩:Zj)).length==y1.q0.length) ( .leaf (.inl (y1.q0.set (Int.toNat a1) (⟨x7.Good,(w64 (x6.Bad+1))⟩:Zj))))))))) ( .chk (y1.q0.length==y1.q0.length) ( .leaf (.inl y1.q0))))))))))))
noncomputable def Z90 (a0:List Zj) (a1:Int) (a2:Bool):Option (List Zj):=ZO Z8Q (.b0 a0 a1 a2)
noncomputable def ZqC:Mod U:=⟨[42,3,4],42,fun x=>Z90 x.1 x.2.1 x.2.2.1,by decide⟩
noncomputable def ZnF:Z8I->Z08 U
 | .b0 a0 a1 a2=>Z0f Tryz.f176 [42,3,4] (a0,a1,a2,())
theorem ZlD:Z0g 176 Tryz.f176 msN (hc [] ZpI hsN) AN 42 Z8Q ZnF
 | .b0 ..=>by kernel_rfl
theorem Zo8:Z0a Tryz.prog B0 176 ZqC:=okP ZlD (fun x=>.b0 x.1 x.2.1 x.2.2.1) (by kernel_rfl) Tryz.func176 (by kernel_rfl) (by kernel_rfl) (fun _=>rfl) (fun _=>rfl)
inductive Z6u where
 | b0 (a0:Bool) (a1:ZE)
noncomputable def Z69:Z6u->Tr U (Z21⊕Z6u)
 | .b0 a0 a1=>.chk (a1.Link.Arq.Zu.length==a1.Link.Arq.Zu.length) ( .chk (a1.Link.Ze.Zf.length==a1.Link.Ze.Zf.length) ( .chk (a1.Link.Ze.Zo.length==a1.Link.Ze.Zo.length) ( .chk (a1.Link.Zw.length==a1.Link.Zw.length) ( .chk (a1.Link.Zb.length==a1.Link.Zb.length) ( .bind 3 (ZaS a1.Link) (fun(x1:Int)=>.chk (a1.Link.Zw.length==a1.Link.Zw.length) ( .bind 42 (Z90 a1.Link.Zw x1 a0) (fun(x2:List Zj)=>.chk ((a1.Link.Arq.Zu.length==a1.Link.Arq.Zu.length)&&((a1.Link.Ze.Zf.length==a1.Link.Ze.Zf.length)&&((a1.Link.Ze.Zo.length==a1.Link.Ze.Zo.length)&&((a1.Link.Zb.length==a1.Link.Zb.length)&&((a1.Zz.length==a1.Zz.length)&&((a1.Link.Arq.Zu.length==a1.Link.Arq.Zu.length)&&((a1.Link.Ze.Zf.length==a1.Link.Ze.Zf.length)&&((a1.Link.Ze.Zo.length==a1.Link.Ze.Zo.length)&&((a1.Link.Zw.length==a1.Link.Zw.length)&&(a1.Link.Zb.length==a1.Link.Zb.length)))))))))) ( .leaf (.inl (⟨(⟨({ a1.Link with Zw:=x2 }:Z9),a1.Zz⟩:ZE),a1.Link.Zw⟩:Z21)))))))))))
noncomputable def Z6m (a0:Bool) (a1:ZE):Option Z21:=ZO Z69 (.b0 a0 a1)
def Z9X:Shape:=⟨[PQ 0,OV 4],[.var 118 67 (ag4 1),.row 68 false,.row 156 false,.row 138 false,.row 99 false,.row 156 false,.row 148 true]⟩
noncomputable def Zbv:HMod U:=⟨[KP,KP],[.var k13,.row false,.row false,.row false,.row false,.row false,.row true],Z9X,⟨[],[.var 118 67 (.agg [VC 3 1,.v 28 11 true,VC 3 1,VC 30 1,VC 3 1,VC 3 1,VC 3 1,VC 3 1,VC 3 1,VC 4 1,VC 4 1,VC 4 1,VC 4 1,VC 4 1,VC 3 1,VC 3 1,.own 68 1,VC 4 1,VC 4 1,VC 3 1,VC 3 1,.v 35 3 true,VC 3 1,VC 3 1,VC 3 1,.own 156 2,VC 3 1,VC 3 1,.own 138 3,VC 4 1,VC 25 1,VC 25 1,VC 4 1,VC 4 1,VC 3 1,VC 3 1,VC 3 1,VC 25 1,VC 25 1,VC 25 1,VC 3 1,VC 3 1,.v 41 7 true,VC 29 1,VC 42 1,.own 156 5,VC 3 1,VC 25 1,.own 148 6]),.row 68 false,.row 156 false,.row 138 false,.row 99 false,.row 156 false,.row 148 true]⟩,false,1354,fun(y:Z21)=>((),((y.q0.Link.Z1z,(y.q0.Link.ZN,(y.q0.Link.Clock,(y.q0.Link.Event,(y.q0.Link.Last,(y.q0.Link.Z19,(y.q0.Link.Size,(y.q0.Link.Sync,(y.q0.Link.Z2W,(y.q0.Link.Z2C,(y.q0.Link.Got,(y.q0.Link.Good,(y.q0.Link.Z1U,(y.q0.Link.More,(y.q0.Link.Arq.SN,(y.q0.Link.Arq.Zda,(y.q0.Link.Arq.Open,(y.q0.Link.Arq.Empty,(y.q0.Link.Arq.Z1U,(y.q0.Link.Arq.Taken,(y.q0.Link.Z0y,(y.q0.Link.Ze.Z1z,(y.q0.Link.Ze.Own,(y.q0.Link.Ze.Since,(y.q0.Link.Ze.Other,(y.q0.Link.Ze.Z0C,(y.q0.Link.Ze.Told,(y.q0.Link.Ze.ZZ,(y.q0.Link.Ze.Z4Y,(y.q0.Link.Ze.Z74,(y.q0.Link.Ze.Z0q,(y.q0.Link.Ze.Version,(y.q0.Link.Ze.Length,(y.q0.Link.Ze.Limit,(y.q0.Link.Ze.Z5R,(y.q0.Link.Ze.Zpv,(y.q0.Link.Ze.Mark,(y.q0.Link.Ze.Z29,(y.q0.Link.Ze.Z1n,(y.q0.Link.Z0h,(y.q0.Link.Key,(y.q0.Link.Zw,(y.q0.Link.Z05,(y.q0.Link.Zld,())))))))))))))))))))))))))))))))))))))))))))),(y.q0.Link.Arq.Zu,(y.q0.Link.Ze.Zf,(y.q0.Link.Ze.Zo,(y.q1,(y.q0.Link.Zb,(y.q0.Zz,())))))))),fun x=>Z6m x.1.2.1.1 (⟨(⟨x.2.1.1,x.2.1.2.1,x.2.1.2.2.1,x.2.1.2.2.2.1,x.2.1.2.2.2.2.1,x.2.1.2.2.2.2.2.1,x.2.1.2.2.2.2.2.2.1,x.2.1.2.2.2.2.2.2.2.1,x.2.1.2.2.2.2.2.2.2.2.1,x.2.1.2.2.2.2.2.2.2.2.2.1,x.2.1.2.2.2.2.2.2.2.2.2.2.1,x.2.1.2.2.2.2.2.2.2.2.2.2.2.1,x.2.1.2.2.2.2.2.2.2.2.2.2.2.2.1,x.2.1.2.2.2.2.2.2.2.2.2.2.2.2.2.1,(⟨x.2.1.2.2.2.2.2.2.2.2.2.2.2.2.2.2.1,x.2.1.2.2.2.2.2.2.2.2.2.2.2.2.2.2.2.1,x.2.2.1,x.2.1.2.2.2.2.2.2.2.2.2.2.2.2.2.2.2.2.1,x.2.1.2.2.2.2.2.2.2.2.2.2.2.2.2.2.2.2.2.1,x.2.1.2.2.2.2.2.2.2.2.2.2.2.2.2.2.2.2.2.2.1,x.2.1.2.2.2.2.2.2.2.2.2.2.2.2.2.2.2.2.2.2.2.1⟩:ZK),x.2.1.2.2.2.2.2.2.2.2.2.2.2.2.2.2.2.2.2.2.2.2.1,(⟨x.2.1.2.2.2.2.2.2.2.2.2.2.2.2.2.2.2.2.2.2.2.2.2.1,x.2.1.2.2.2.2.2.2.2.2.2.2.2.2.2.2.2.2.2.2.2.2.2.2.1,x.2.1.2.2.2.2.2.2.2.2.2.2.2.2.2.2.2.2.2.2.2.2.2.2.2.1,x.2.2.2.1,x.2.1.2.2.2.2.2.2.2.2.2.2.2.2.2.2.2.2.2.2.2.2.2.2.2.2.1,x.2.1.2.2.2.2.2.2.2.2.2.2.2.2.2.2.2.2.2.2.2.2.2.2.2.2.2.1,x.2.2.2.2.1,x.2.1.2.2.2.2.2.2.2.2.2.2.2.2.2.2.2.2.2.2.2.2.2.2.2.2.2.2.1,x.2.1.2.2.2.2.2.2.2.2.2.2.2.2.2.2.2.2.2.2.2.2.2.2.2.2.2.2.2.1,x.2.1.2.2.2.2.2.2.2.2.2.2.2.2.2.2.2.2.2.2.2.2.2.2.2.2.2.2.2.2.1,x.2.1.2.2.2.2.2.2.2.2.2.2.2.2.2.2.2.2.2.2.2.2.2.2.2.2.2.2.2.2.2.1,x.2.1.2.2.2.2.2.2.2.2.2.2.2.2.2.2.2.2.2.2.2.2.2.2.2.2.2.2.2.2.2.2.1,x.2.1.2.2.2.2.2.2.2.2.2.2.2.2.2.2.2.2.2.2.2.2.2.2.2.2.2.2.2.2.2.2.2.1,x.2.1.2.2.2.2.2.2.2.2.2.2.2.2.2.2.2.2.2.2.2.2.2.2.2.2.2.2.2.2.2.2.2.2.1,x.2.1.2.2.2.2.2.2.2.2.2.2.2.2.2.2.2.2.2.2.2.2.2.2.2.2.2.2.2.2.2.2.2.2.2.1,x.2.1.2.2.2.2.2.2.2.2.2.2.2.2.2.2.2.2.2.2.2.2.2.2.2.2.2.2.2.2.2.2.2.2.2.2.1,x.2.1.2.2.2.2.2.2.2.2.2.2.2.2.2.2.2.2.2.2.2.2.2.2.2.2.2.2.2.2.2.2.2.2.2.2.2.1,x.2.1.2.2.2.2.2.2.2.2.2.2.2.2.2.2.2.2.2.2.2.2.2.2.2.2.2.2.2.2.2.2.2.2.2.2.2.2.1,x.2.1.2.2.2.2.2.2.2.2.2.2.2.2.2.2.2.2.2.2.2.2.2.2.2.2.2.2.2.2.2.2.2.2.2.2.2.2.2.1,x.2.1.2.2.2.2.2.2.2.2.2.2.2.2.2.2.2.2.2.2.2.2.2.2.2.2.2.2.2.2.2.2.2.2.2.2.2.2.2.2.1⟩:Z7),x.2.1.2.2.2.2.2.2.2.2.2.2.2.2.2.2.2.2.2.2.2.2.2.2.2.2.2.2.2.2.2.2.2.2.2.2.2.2.2.2.2.1,x.2.1.2.2.2.2.2.2.2.2.2.2.2.2.2.2.2.2.2.2.2.2.2.2.2.2.2.2.2.2.2.2.2.2.2.2.2.2.2.2.2.2.1,x.2.2.2.2.2.1,x.2.2.2.2.2.2.1,x.2.1.2.2.2.2.2.2.2.2.2.2.2.2.2.2.2.2.2.2.2.2.2.2.2.2.2.2.2.2.2.2.2.2.2.2.2.2.2.2.2.2.2.1,x.2.1.2.2.2.2.2.2.2.2.2.2.2.2.2.2.2.2.2.2.2.2.2.2.2.2.2.2.2.2.2.2.2.2.2.2.2.2.2.2.2.2.2.2.1⟩:Z9),x.2.2.2.2.2.2.2.1⟩:ZE),⟨⟨trivial,⟨⟨by decide,fun _=>rfl⟩,trivial⟩⟩,⟨⟨⟨by decide,fun _=>rfl⟩,⟨⟨by decide,fun _=>⟨_,rfl,rfl⟩⟩,⟨⟨by decide,fun _=>rfl⟩,⟨⟨by decide,fun _=>rfl⟩,⟨⟨by decide,fun _=>rfl⟩,⟨⟨by decide,fun _=>rfl⟩,⟨⟨by decide,fun _=>rfl⟩,⟨⟨by decide,fun _=>rfl⟩,⟨⟨by decide,fun _=>rfl⟩,⟨⟨by decide,fun _=>rfl⟩,⟨⟨by decide,fun _=>rfl⟩,⟨⟨by decide,fun _=>rfl⟩,⟨⟨by decide,fun _=>rfl⟩,⟨⟨by decide,fun _=>rfl⟩,⟨⟨by decide,fun _=>rfl⟩,⟨⟨by decide,fun _=>rfl⟩,⟨trivial,⟨⟨by decide,fun _=>rfl⟩,⟨⟨by decide,fun _=>rfl⟩,⟨⟨by decide,fun _=>rfl⟩,⟨⟨by decide,fun _=>rfl⟩,⟨⟨by decide,fun _=>⟨_,rfl,rfl⟩⟩,⟨⟨by decide,fun _=>rfl⟩,⟨⟨by decide,fun _=>rfl⟩,⟨⟨by decide,fun _=>rfl⟩,⟨trivial,⟨⟨by decide,fun _=>rfl⟩,⟨⟨by decide,fun _=>rfl⟩,⟨trivial,⟨⟨by decide,fun _=>rfl⟩,⟨⟨by decide,fun _=>rfl⟩,⟨⟨by decide,fun _=>rfl⟩,⟨⟨by decide,fun _=>rfl⟩,⟨⟨by decide,fun _=>rfl⟩,⟨⟨by decide,fun _=>rfl⟩,⟨⟨by decide,fun _=>rfl⟩,⟨⟨by decide,fun _=>rfl⟩,⟨⟨by decide,fun _=>rfl⟩,⟨⟨by decide,fun _=>rfl⟩,⟨⟨by decide,fun _=>rfl⟩,⟨⟨by decide,fun _=>rfl⟩,⟨⟨by decide,fun _=>rfl⟩,⟨⟨by decide,fun _=>⟨_,rfl,rfl⟩⟩,⟨⟨by decide,fun _=>rfl⟩,⟨trivial,⟨trivial,⟨⟨by decide,fun _=>rfl⟩,⟨⟨by decide,fun _=>rfl⟩,⟨trivial,trivial⟩⟩⟩⟩⟩⟩⟩⟩⟩⟩⟩⟩⟩⟩⟩⟩⟩⟩⟩⟩⟩⟩⟩⟩⟩⟩⟩⟩⟩⟩⟩⟩⟩⟩⟩⟩⟩⟩⟩⟩⟩⟩⟩⟩⟩⟩⟩⟩⟩,⟨by decide,⟨by decide,⟨by decide,⟨by decide,⟨by decide,⟨by decide,trivial⟩⟩⟩⟩⟩⟩⟩⟩⟩
noncomputable def Zkw:Z6u->Z08 U
 | .b0 a0 a1=>ZB3 Tryz.f82 Z9X (((),((a0,()),())),(tu5 a1))
theorem Zif:ZB5 82 Tryz.f82 (mc Zqj (mc Zo8 msN)) hsN AN [] [.var k15,.row false,.row false,.row false,.row false,.row false,.row true] 7 Zbv Z69 Zkw
 | .b0 ..=>by kernel_rfl
theorem ZkF:Z4n Tryz.prog B0 82 Zbv:=okH Zif (fun x=>.b0 x.1.2.1.1 (⟨(⟨x.2.1.1,x.2.1.2.1,x.2.1.2.2.1,x.2.1.2.2.2.1,x.2.1.2.2.2.2.1,x.2.1.2.2.2.2.2.1,x.2.1.2.2.2.2.2.2.1,x.2.1.2.2.2.2.2.2.2.1,x.2.1.2.2.2.2.2.2.2.2.1,x.2.1.2.2.2.2.2.2.2.2.2.1,x.2.1.2.2.2.2.2.2.2.2.2.2.1,x.2.1.2.2.2.2.2.2.2.2.2.2.2.1,x.2.1.2.2.2.2.2.2.2.2.2.2.2.2.1,x.2.1.2.2.2.2.2.2.2.2.2.2.2.2.2.1,(⟨x.2.1.2.2.2.2.2.2.2.2.2.2.2.2.2.2.1,x.2.1.2.2.2.2.2.2.2.2.2.2.2.2.2.2.2.1,x.2.2.1,x.2.1.2.2.2.2.2.2.2.2.2.2.2.2.2.2.2.2.1,x.2.1.2.2.2.2.2.2.2.2.2.2.2.2.2.2.2.2.2.1,x.2.1.2.2.2.2.2.2.2.2.2.2.2.2.2.2.2.2.2.2.1,x.2.1.2.2.2.2.2.2.2.2.2.2.2.2.2.2.2.2.2.2.2.1⟩:ZK),x.2.1.2.2.2.2.2.2.2.2.2.2.2.2.2.2.2.2.2.2.2.2.1,(⟨x.2.1.2.2.2.2.2.2.2.2.2.2.2.2.2.2.2.2.2.2.2.2.2.1,x.2.1.2.2.2.2.2.2.2.2.2.2.2.2.2.2.2.2.2.2.2.2.2.2.1,x.2.1.2.2.2.2.2.2.2.2.2.2.2.2.2.2.2.2.2.2.2.2.2.2.2.1,x.2.2.2.1,x.2.1.2.2.2.2.2.2.2.2.2.2.2.2.2.2.2.2.2.2.2.2.2.2.2.2.1,x.2.1.2.2.2.2.2.2.2.2.2.2.2.2.2.2.2.2.2.2.2.2.2.2.2.2.2.1,x.2.2.2.2.1,x.2.1.2.2.2.2.2.2.2.2.2.2.2.2.2.2.2.2.2.2.2.2.2.2.2.2.2.2.1,x.2.1.2.2.2.2.2.2.2.2.2.2.2.2.2.2.2.2.2.2.2.2.2.2.2.2.2.2.2.1,x.2.1.2.2.2.2.2.2.2.2.2.2.2.2.2.2.2.2.2.2.2.2.2.2.2.2.2.2.2.2.1,x.2.1.2.2.2.2.2.2.2.2.2.2.2.2.2.2.2.2.2.2.2.2.2.2.2.2.2.2.2.2.2.1,x.2.1.2.2.2.2.2.2.2.2.2.2.2.2.2.2.2.2.2.2.2.2.2.2.2.2.2.2.2.2.2.2.1,x.2.1.2.2.2.2.2.2.2.2.2.2.2.2.2.2.2.2.2.2.2.2.2.2.2.2.2.2.2.2.2.2.2.1,x.2.1.2.2.2.2.2.2.2.2.2.2.2.2.2.2.2.2.2.2.2.2.2.2.2.2.2.2.2.2.2.2.2.2.1,x.2.1.2.2.2.2.2.2.2.2.2.2.2.2.2.2.2.2.2.2.2.2.2.2.2.2.2.2.2.2.2.2.2.2.2.1,x.2.1.2.2.2.2.2.2.2.2.2.2.2.2.2.2.2.2.2.2.2.2.2.2.2.2.2.2.2.2.2.2.2.2.2.2.1,x.2.1.2.2.2.2.2.2.2.2.2.2.2.2.2.2.2.2.2.2.2.2.2.2.2.2.2.2.2.2.2.2.2.2.2.2.2.1,x.2.1.2.2.2.2.2.2.2.2.2.2.2.2.2.2.2.2.2.2.2.2.2.2.2.2.2.2.2.2.2.2.2.2.2.2.2.2.1,x.2.1.2.2.2.2.2.2.2.2.2.2.2.2.2.2.2.2.2.2.2.2.2.2.2.2.2.2.2.2.2.2.2.2.2.2.2.2.2.1,x.2.1.2.2.2.2.2.2.2.2.2.2.2.2.2.2.2.2.2.2.2.2.2.2.2.2.2.2.2.2.2.2.2.2.2.2.2.2.2.2.1⟩:Z7),x.2.1.2.2.2.2.2.2.2.2.2.2.2.2.2.2.2.2.2.2.2.2.2.2.2.2.2.2.2.2.2.2.2.2.2.2.2.2.2.2.2.1,x.2.1.2.2.2.2.2.2.2.2.2.2.2.2.2.2.2.2.2.2.2.2.2.2.2.2.2.2.2.2.2.2.2.2.2.2.2.2.2.2.2.2.1,x.2.2.2.2.2.1,x.2.2.2.2.2.2.1,x.2.1.2.2.2.2.2.2.2.2.2.2.2.2.2.2.2.2.2.2.2.2.2.2.2.2.2.2.2.2.2.2.2.2.2.2.2.2.2.2.2.2.2.1,x.2.1.2.2.2.2.2.2.2.2.2.2.2.2.2.2.2.2.2.2.2.2.2.2.2.2.2.2.2.2.2.2.2.2.2.2.2.2.2.2.2.2.2.2.1⟩:Z9),x.2.2.2.2.2.2.2.1⟩:ZE)) (fun x=>by kernel_rfl) (by kernel_rfl) Tryz.func82 (by kernel_rfl) (by kernel_rfl) (fun x=>by kernel_rfl) (fun x=>by kernel_rfl)
inductive ZcZ where
 | b0 (a0:Int)
noncomputable def ZcM:ZcZ->Tr U (Zk⊕ZcZ)
 | .b0 a0=>.leaf (.inl (⟨(if (499:Int)<(if (0:Int)>a0 then (0:Int) else a0) then (499:Int) else (if (0:Int)>a0 then (0:Int) else a0)),0,true⟩:Zk))
noncomputable def ZcF (a0:Int):Option Zk:=ZO ZcM (.b0 a0)
noncomputable def Zv1:Mod U:=⟨[3],35,fun x=>ZcF x.1,by decide⟩
noncomputable def ZrN:ZcZ->Z08 U
 | .b0 a0=>Z0f Tryz.f40 [3] (a0,())
theorem Zp8:Z0g 40 Tryz.f40 msN hsN AN 35 ZcM ZrN
 | .b0 ..=>by kernel_rfl
theorem ZrJ:Z0a Tryz.prog B0 40 Zv1:=okP Zp8 (fun x=>.b0 x.1) (by kernel_rfl) Tryz.func40 (by kernel_rfl) (by kernel_rfl) (fun _=>rfl) (fun _=>rfl)
inductive Zcr where
 | b0 (a0:Zk) (a1:Int)
noncomputable def ZcJ:Zcr->Tr U (Zk⊕Zcr)
 | .b0 a0 a1=>.bind 35 (ZcF a1) (fun(x1:Zk)=>.leaf (.inl x1))
noncomputable def ZcD (a0:Zk) (a1:Int):Option Zk:=ZO ZcJ (.b0 a0 a1)
noncomputable def Zw8:Mod U:=⟨[35,3],35,fun x=>ZcD x.1 x.2.1,by decide⟩
noncomputable def Zsy:Zcr->Z08 U
 | .b0 a0 a1=>Z0f Tryz.f180 [35,3] (a0,a1,())
theorem Zpx:Z0g 180 Tryz.f180 (mc ZrJ msN) hsN AN 35 ZcJ Zsy
 | .b0 ..=>by kernel_rfl
theorem ZsF:Z0a Tryz.prog B0 180 Zw8:=okP Zpx (fun x=>.b0 x.1 x.2.1) (by kernel_rfl) Tryz.func180 (by kernel_rfl) (by kernel_rfl) (fun _=>rfl) (fun _=>rfl)
inductive Z4r where
 | b0 (a0:Int) (a1:List Z5) (a2:ZE)
 | b1 (a0:Int) (a1:List Z5) (a2 a3:Int) (a4:ZE)
noncomputable def Z1j:Z4r->Tr U (Z10⊕Z4r)
 | .b0 a0 a1 a2=>.chk (a1.length==a1.length) ( .chk ((a1.length==a1.length)&&((a2.Link.Arq.Zu.length==a2.Link.Arq.Zu.length)&&((a2.Link.Zb.length==a2.Link.Zb.length)&&((a2.Zz.length==a2.Zz.length)&&((a2.Link.Arq.Zu.length==a2.Link.Arq.Zu.length)&&(a2.Link.Zb.length==a2.Link.Zb.length)))))) ( .leaf (.inr (.b1 a0 a1 (↑a1.length:Int) (0:Int) a2))))
 | .b1 a0 a1 a2 a3 a4=>.br (decide (a3<a2)) ( .chk (a1.length==a1.length) ( .chk (decide (0<=a3/\a3<(↑a1.length:Int))) ( .chk (a1.length==a1.length) ( .bind 148 (a1[(Int.toNat a3)]?) (fun(x1:Z5)=>.bind 1344 (Z1u x1.ZF.Payload) (fun(y2:Z1r)=>.chk (y2.q0.length==y2.q0.length) ( .chk (([({ x1 with Event:=a0,ZF:=(⟨x1.ZF.Z5f,y2.q0⟩:Zd) }:Z5)]).length==1) ( .chk (a4.Zz.length==a4.Zz.length) ( .chk (decide ((a4.Zz.length+([({ x1 with Event:=a0,ZF:=(⟨x1.ZF.Z5f,y2.q0⟩:Zd) }:Z5)]).length)*160<=lim)&&decide (a4.Zz.length+([({ x1 with Event:=a0,ZF:=(⟨x1.ZF.Z5f,y2.q0⟩:Zd) }:Z5)]).length<=maxLen)) ( .chk ((a1.length==a1.length)&&((a4.Link.Arq.Zu.length==a4.Link.Arq.Zu.length)&&((a4.Link.Zb.length==a4.Link.Zb.length)&&(((a4.Zz++[({ x1 with Event:=a0,ZF:=(⟨x1.ZF.Z5f,y2.q0⟩:Zd) }:Z5)]).length==(a4.Zz++[({ x1 with Event:=a0,ZF:=(⟨x1.ZF.Z5f,y2.q0⟩:Zd) }:Z5)]).length)&&((a4.Link.Arq.Zu.length==a4.Link.Arq.Zu.length)&&(a4.Link.Zb.length==a4.Link.Zb.length)))))) ( .leaf (.inr (.b1 a0 a1 a2 (w64 (a3+1)) (⟨a4.Link,(a4.Zz++[({ x1 with Event:=a0,ZF:=(⟨x1.ZF.Z5f,y2.q0⟩:Zd) }:Z5)])⟩:ZE)))))))))))))) ( .chk ((a4.Link.Arq.Zu.length==a4.Link.Arq.Zu.length)&&((a4.Link.Zb.length==a4.Link.Zb.length)&&((a4.Zz.length==a4.Zz.length)&&((a4.Link.Arq.Zu.length==a4.Link.Arq.Zu.length)&&(a4.Link.Zb.length==a4.Link.Zb.length))))) ( .leaf (.inl (⟨a4,a1⟩:Z10))))
noncomputable def Z2E (a0:Int) (a1:List Z5) (a2:ZE):Option Z10:=ZO Z1j (.b0 a0 a1 a2)
def Z5Z:Shape:=⟨[PQ 0,OV 30,.one (.own 148 1)],[.var 118 67 (ag0 2),.row 148 true,.row 68 false,.row 156 false,.row 148 true]⟩
noncomputable def Z7R:HMod U:=⟨[KP,KP,[.own 148 18]],[.var k7,.row true,.row false,.row false,.row true],Z5Z,⟨[],[.var 118 67 (ag0 2),.row 148 true,.row 68 false,.row 156 false,.row 148 true]⟩,false,1360,fun(y:Z10)=>((),((y.q0.Link.Z1z,(y.q0.Link.ZN,(y.q0.Link.Clock,(y.q0.Link.Event,(y.q0.Link.Last,(y.q0.Link.Z19,(y.q0.Link.Size,(y.q0.Link.Sync,(y.q0.Link.Z2W,(y.q0.Link.Z2C,(y.q0.Link.Got,(y.q0.Link.Good,(y.q0.Link.Z1U,(y.q0.Link.More,(y.q0.Link.Arq.SN,(y.q0.Link.Arq.Zda,(y.q0.Link.Arq.Open,(y.q0.Link.Arq.Empty,(y.q0.Link.Arq.Z1U,(y.q0.Link.Arq.Taken,(y.q0.Link.Z0y,(y.q0.Link.Ze,(y.q0.Link.Z0h,(y.q0.Link.Key,(y.q0.Link.Zw,(y.q0.Link.Z05,(y.q0.Link.Zld,()))))))))))))))))))))))))))),(y.q1,(y.q0.Link.Arq.Zu,(y.q0.Link.Zb,(y.q0.Zz,())))))),fun x=>Z2E x.1.2.1.1 x.2.2.1 (⟨(⟨x.2.1.1,x.2.1.2.1,x.2.1.2.2.1,x.2.1.2.2.2.1,x.2.1.2.2.2.2.1,x.2.1.2.2.2.2.2.1,x.2.1.2.2.2.2.2.2.1,x.2.1.2.2.2.2.2.2.2.1,x.2.1.2.2.2.2.2.2.2.2.1,x.2.1.2.2.2.2.2.2.2.2.2.1,x.2.1.2.2.2.2.2.2.2.2.2.2.1,x.2.1.2.2.2.2.2.2.2.2.2.2.2.1,x.2.1.2.2.2.2.2.2.2.2.2.2.2.2.1,x.2.1.2.2.2.2.2.2.2.2.2.2.2.2.2.1,(⟨x.2.1.2.2.2.2.2.2.2.2.2.2.2.2.2.2.1,x.2.1.2.2.2.2.2.2.2.2.2.2.2.2.2.2.2.1,x.2.2.2.1,x.2.1.2.2.2.2.2.2.2.2.2.2.2.2.2.2.2.2.1,x.2.1.2.2.2.2.2.2.2.2.2.2.2.2.2.2.2.2.2.1,x.2.1.2.2.2.2.2.2.2.2.2.2.2.2.2.2.2.2.2.2.1,x.2.1.2.2.2.2.2.2.2.2.2.2.2.2.2.2.2.2.2.2.2.1⟩:ZK),x.2.1.2.2.2.2.2.2.2.2.2.2.2.2.2.2.2.2.2.2.2.2.1,x.2.1.2.2.2.2.2.2.2.2.2.2.2.2.2.2.2.2.2.2.2.2.2.1,x.2.1.2.2.2.2.2.2.2.2.2.2.2.2.2.2.2.2.2.2.2.2.2.2.1,x.2.1.2.2.2.2.2.2.2.2.2.2.2.2.2.2.2.2.2.2.2.2.2.2.2.1,x.2.1.2.2.2.2.2.2.2.2.2.2.2.2.2.2.2.2.2.2.2.2.2.2.2.2.1,x.2.2.2.2.1,x.2.1.2.2.2.2.2.2.2.2.2.2.2.2.2.2.2.2.2.2.2.2.2.2.2.2.2.1,x.2.1.2.2.2.2.2.2.2.2.2.2.2.2.2.2.2.2.2.2.2.2.2.2.2.2.2.2.1⟩:Z9),x.2.2.2.2.2.1⟩:ZE),⟨⟨trivial,⟨⟨by decide,fun _=>rfl⟩,⟨trivial,trivial⟩⟩⟩,⟨⟨⟨by decide,fun _=>rfl⟩,⟨⟨by decide,fun _=>⟨_,rfl,rfl⟩⟩,⟨⟨by decide,fun _=>rfl⟩,⟨⟨by decide,fun _=>rfl⟩,⟨⟨by decide,fun _=>rfl⟩,⟨⟨by decide,fun _=>rfl⟩,⟨⟨by decide,fun _=>rfl⟩,⟨⟨by decide,fun _=>rfl⟩,⟨⟨by decide,fun _=>rfl⟩,⟨⟨by decide,fun _=>rfl⟩,⟨⟨by decide,fun _=>rfl⟩,⟨⟨by decide,fun _=>rfl⟩,⟨⟨by decide,fun _=>rfl⟩,⟨⟨by decide,fun _=>rfl⟩,⟨⟨by decide,fun _=>rfl⟩,⟨⟨by decide,fun _=>rfl⟩,⟨trivial,⟨⟨by decide,fun _=>rfl⟩,⟨⟨by decide,fun _=>rfl⟩,⟨⟨by decide,fun _=>rfl⟩,⟨⟨by decide,fun _=>rfl⟩,⟨⟨by decide,fun _=>⟨_,rfl,rfl⟩⟩,⟨⟨by decide,fun _=>⟨_,rfl,rfl⟩⟩,⟨⟨by decide,fun _=>⟨_,rfl,rfl⟩⟩,⟨⟨by decide,fun _=>rfl⟩,⟨⟨by decide,fun _=>rfl⟩,⟨trivial,⟨⟨by decide,fun _=>rfl⟩,⟨⟨by decide,fun _=>rfl⟩,⟨trivial,trivial⟩⟩⟩⟩⟩⟩⟩⟩⟩⟩⟩⟩⟩⟩⟩⟩⟩⟩⟩⟩⟩⟩⟩⟩⟩⟩⟩⟩⟩⟩,⟨by decide,⟨by decide,⟨by decide,⟨by decide,trivial⟩⟩⟩⟩⟩⟩⟩
def Z5Y:Lay:=⟨[0,1,8,9,10],[KP,KP,[.own 148 18],KP,KP],[.var k7,.row true,.row false,.row false,.row true],⟨[PQ 0,OV 30,.one (.own 148 1),OV 3,OV 3],[.var 118 67 (ag0 2),.row 148 true,.row 68 false,.row 156 false,.row 148 true]⟩⟩
def Zgp:Nat->Option Lay
 | 1=>some Z5Y
 | _=>none
noncomputable def Zft:Z4r->Z08 U
 | .b0 a0 a1 a2=>ZB3 Tryz.f181 Z5Z (((),((a0,()),((),()))),((tu3 a2),(a1,(a2.Link.Arq.Zu,(a2.Link.Zb,(a2.Zz,()))))))
 | .b1 a0 a1 a2 a3 a4=>spL Tryz.f181 [1,0,0,0] Z5Y (((),((a0,()),((),((a2,()),((a3,()),()))))),((tu3 a4),(a1,(a4.Link.Arq.Zu,(a4.Link.Zb,(a4.Zz,()))))))
theorem ZdL:ZB5 181 Tryz.f181 msN (hc [] Z82 hsN) Zgp [] [.var k7,.row true,.row false,.row false,.row true] 5 Z7R Z1j Zft:=by intro p;cases p<;>kernel_rfl
theorem Z6W:Z4n Tryz.prog B0 181 Z7R:=okH ZdL (fun x=>.b0 x.1.2.1.1 x.2.2.1 (⟨(⟨x.2.1.1,x.2.1.2.1,x.2.1.2.2.1,x.2.1.2.2.2.1,x.2.1.2.2.2.2.1,x.2.1.2.2.2.2.2.1,x.2.1.2.2.2.2.2.2.1,x.2.1.2.2.2.2.2.2.2.1,x.2.1.2.2.2.2.2.2.2.2.1,x.2.1.2.2.2.2.2.2.2.2.2.1,x.2.1.2.2.2.2.2.2.2.2.2.2.1,x.2.1.2.2.2.2.2.2.2.2.2.2.2.1,x.2.1.2.2.2.2.2.2.2.2.2.2.2.2.1,x.2.1.2.2.2.2.2.2.2.2.2.2.2.2.2.1,(⟨x.2.1.2.2.2.2.2.2.2.2.2.2.2.2.2.2.1,x.2.1.2.2.2.2.2.2.2.2.2.2.2.2.2.2.2.1,x.2.2.2.1,x.2.1.2.2.2.2.2.2.2.2.2.2.2.2.2.2.2.2.1,x.2.1.2.2.2.2.2.2.2.2.2.2.2.2.2.2.2.2.2.1,x.2.1.2.2.2.2.2.2.2.2.2.2.2.2.2.2.2.2.2.2.1,x.2.1.2.2.2.2.2.2.2.2.2.2.2.2.2.2.2.2.2.2.2.1⟩:ZK),x.2.1.2.2.2.2.2.2.2.2.2.2.2.2.2.2.2.2.2.2.2.2.1,x.2.1.2.2.2.2.2.2.2.2.2.2.2.2.2.2.2.2.2.2.2.2.2.1,x.2.1.2.2.2.2.2.2.2.2.2.2.2.2.2.2.2.2.2.2.2.2.2.2.1,x.2.1.2.2.2.2.2.2.2.2.2.2.2.2.2.2.2.2.2.2.2.2.2.2.2.1,x.2.1.2.2.2.2.2.2.2.2.2.2.2.2.2.2.2.2.2.2.2.2.2.2.2.2.1,x.2.2.2.2.1,x.2.1.2.2.2.2.2.2.2.2.2.2.2.2.2.2.2.2.2.2.2.2.2.2.2.2.2.1,x.2.1.2.2.2.2.2.2.2.2.2.2.2.2.2.2.2.2.2.2.2.2.2.2.2.2.2.2.1⟩:Z9),x.2.2.2.2.2.1⟩:ZE)) (fun x=>by kernel_rfl) (by kernel_rfl) Tryz.func181 (by kernel_rfl) (by kernel_rfl) (fun x=>by kernel_rfl) (fun x=>by kernel_rfl)
inductive Z4P where
 | b0 (a0:Z8) (a1:ZE)
 | b1 (a0:ZE) (a1:Z8)
 | b2 (a0:ZE) (a1:Z8)
noncomputable def Z0F:Z4P->Tr U (Z1p⊕Z4P)
 | .b0 a0 a1=>.br (a0.Kind==1) ( .chk ((a1.Link.Arq.Zu.length==a1.Link.Arq.Zu.length)&&((a1.Link.Zb.length==a1.Link.Zb.length)&&((a1.Zz.length==a1.Zz.length)&&((a1.Link.Arq.Zu.length==a1.Link.Arq.Zu.length)&&(a1.Link.Zb.length==a1.Link.Zb.length))))) ( .leaf (.inr (.b1 (⟨({ a1.Link with ZN:=({ a1.Link.ZN with Map:=a0.Map }:Zy) }:Z9),a1.Zz⟩:ZE) a0)))) ( .br (a1.Link.Z1z==1) ( .chk ((a1.Link.Arq.Zu.length==a1.Link.Arq.Zu.length)&&((a1.Link.Zb.length==a1.Link.Zb.length)&&((a1.Zz.length==a1.Zz.length)&&((a1.Link.Arq.Zu.length==a1.Link.Arq.Zu.length)&&(a1.Link.Zb.length==a1.Link.Zb.length))))) ( .leaf (.inr (.b2 (⟨({ a1.Link with ZN:=({ a1.Link.ZN with Zt:=a0.Zt }:Zy),Z19:=(w64 (a1.Link.Z19+(w64 (a0.Zt.Z0r*1250)))),Size:=(w64 (a1.Link.Size+(w64 (a0.Zt.Z1E*1250)))) }:Z9),a1.Zz⟩:ZE) a0)))) ( .chk ((a1.Link.Arq.Zu.length==a1.Link.Arq.Zu.length)&&((a1.Link.Zb.length==a1.Link.Zb.length)&&((a1.Zz.length==a1.Zz.length)&&((a1.Link.Arq.Zu.length==a1.Link.Arq.Zu.length)&&(a1.Link.Zb.length==a1.Link.Zb.length))))) ( .leaf (.inr (.b2 (⟨({ a1.Link with ZN:=({ a1.Link.ZN with Zt:=a0.Zt }:Zy),Z19:=(w64 (a1.Link.Z19+(w64 (a0.Zt.Z0r*1250)))) }:Z9),a1.Zz⟩:ZE) a0)))))
 | .b1 a0 a1=>.chk ((([(⟨2,0,(⟨0,[]⟩:Zd),a1,0,Zr⟩:Z5)]).length==1)&&((a0.Link.Arq.Zu.length==a0.Link.Arq.Zu.length)&&((a0.Link.Zb.length==a0.Link.Zb.length)&&((a0.Zz.length==a0.Zz.length)&&((a0.Link.Arq.Zu.length==a0.Link.Arq.Zu.length)&&(a0.Link.Zb.length==a0.Link.Zb.length)))))) ( .bind 1360 (Z2E a0.Link.Event ([(⟨2,0,(⟨0,[]⟩:Zd),a1,0,Zr⟩:Z5)]) a0) (fun(y1:Z10)=>.chk ((y1.q0.Link.Arq.Zu.length==y1.q0.Link.Arq.Zu.length)&&((y1.q0.Link.Zb.length==y1.q0.Link.Zb.length)&&((y1.q0.Zz.length==y1.q0.Zz.length)&&((y1.q0.Link.Arq.Zu.length==y1.q0.Link.Arq.Zu.length)&&(y1.q0.Link.Zb.length==y1.q0.Link.Zb.length))))) ( .leaf (.inl (⟨y1.q0⟩:Z1p)))))
 | .b2 a0 a1=>.bind 35 (ZcD a0.Link.Z0y a1.Zt.Z0o) (fun(x1:Zk)=>.chk ((a0.Link.Arq.Zu.length==a0.Link.Arq.Zu.length)&&((a0.Link.Zb.length==a0.Link.Zb.length)&&((a0.Zz.length==a0.Zz.length)&&((a0.Link.Arq.Zu.length==a0.Link.Arq.Zu.length)&&(a0.Link.Zb.length==a0.Link.Zb.length))))) ( .leaf (.inr (.b1 (⟨({ a0.Link with Z0y:=x1 }:Z9),a0.Zz⟩:ZE) a1))))
noncomputable def Z4M (a0:Z8) (a1:ZE):Option Z1p:=ZO Z0F (.b0 a0 a1)
def Z6V:Shape:=⟨[PQ 0,.agg [.v 138 8 true]],[.var 118 67 (ag0 1),.row 68 false,.row 156 false,.row 148 true]⟩
noncomputable def Z9G:HMod U:=⟨[KP,k10],[.var k7,.row false,.row false,.row true],Z6V,⟨[],[.var 118 67 (ag0 1),.row 68 false,.row 156 false,.row 148 true]⟩,false,1359,fun(y:Z1p)=>((),((y.q0.Link.Z1z,(y.q0.Link.ZN,(y.q0.Link.Clock,(y.q0.Link.Event,(y.q0.Link.Last,(y.q0.Link.Z19,(y.q0.Link.Size,(y.q0.Link.Sync,(y.q0.Link.Z2W,(y.q0.Link.Z2C,(y.q0.Link.Got,(y.q0.Link.Good,(y.q0.Link.Z1U,(y.q0.Link.More,(y.q0.Link.Arq.SN,(y.q0.Link.Arq.Zda,(y.q0.Link.Arq.Open,(y.q0.Link.Arq.Empty,(y.q0.Link.Arq.Z1U,(y.q0.Link.Arq.Taken,(y.q0.Link.Z0y,(y.q0.Link.Ze,(y.q0.Link.Z0h,(y.q0.Link.Key,(y.q0.Link.Zw,(y.q0.Link.Z05,(y.q0.Link.Zld,()))))))))))))))))))))))))))),(y.q0.Link.Arq.Zu,(y.q0.Link.Zb,(y.q0.Zz,()))))),fun x=>Z4M (⟨x.1.2.1.1.Kind,x.1.2.1.1.ZQ,x.1.2.1.1.Zt,x.1.2.1.1.Map⟩:Z8) (⟨(⟨x.2.1.1,x.2.1.2.1,x.2.1.2.2.1,x.2.1.2.2.2.1,x.2.1.2.2.2.2.1,x.2.1.2.2.2.2.2.1,x.2.1.2.2.2.2.2.2.1,x.2.1.2.2.2.2.2.2.2.1,x.2.1.2.2.2.2.2.2.2.2.1,x.2.1.2.2.2.2.2.2.2.2.2.1,x.2.1.2.2.2.2.2.2.2.2.2.2.1,x.2.1.2.2.2.2.2.2.2.2.2.2.2.1,x.2.1.2.2.2.2.2.2.2.2.2.2.2.2.1,x.2.1.2.2.2.2.2.2.2.2.2.2.2.2.2.1,(⟨x.2.1.2.2.2.2.2.2.2.2.2.2.2.2.2.2.1,x.2.1.2.2.2.2.2.2.2.2.2.2.2.2.2.2.2.1,x.2.2.1,x.2.1.2.2.2.2.2.2.2.2.2.2.2.2.2.2.2.2.1,x.2.1.2.2.2.2.2.2.2.2.2.2.2.2.2.2.2.2.2.1,x.2.1.2.2.2.2.2.2.2.2.2.2.2.2.2.2.2.2.2.2.1,x.2.1.2.2.2.2.2.2.2.2.2.2.2.2.2.2.2.2.2.2.2.1⟩:ZK),x.2.1.2.2.2.2.2.2.2.2.2.2.2.2.2.2.2.2.2.2.2.2.1,x.2.1.2.2.2.2.2.2.2.2.2.2.2.2.2.2.2.2.2.2.2.2.2.1,x.2.1.2.2.2.2.2.2.2.2.2.2.2.2.2.2.2.2.2.2.2.2.2.2.1,x.2.1.2.2.2.2.2.2.2.2.2.2.2.2.2.2.2.2.2.2.2.2.2.2.2.1,x.2.1.2.2.2.2.2.2.2.2.2.2.2.2.2.2.2.2.2.2.2.2.2.2.2.2.1,x.2.2.2.1,x.2.1.2.2.2.2.2.2.2.2.2.2.2.2.2.2.2.2.2.2.2.2.2.2.2.2.2.1,x.2.1.2.2.2.2.2.2.2.2.2.2.2.2.2.2.2.2.2.2.2.2.2.2.2.2.2.2.1⟩:Z9),x.2.2.2.2.1⟩:ZE),⟨⟨trivial,⟨⟨⟨by decide,fun _=>⟨_,rfl,rfl⟩⟩,trivial⟩,trivial⟩⟩,⟨⟨⟨by decide,fun _=>rfl⟩,⟨⟨by decide,fun _=>⟨_,rfl,rfl⟩⟩,⟨⟨by decide,fun _=>rfl⟩,⟨⟨by decide,fun _=>rfl⟩,⟨⟨by decide,fun _=>rfl⟩,⟨⟨by decide,fun _=>rfl⟩,⟨⟨by decide,fun _=>rfl⟩,⟨⟨by decide,fun _=>rfl⟩,⟨⟨by decide,fun _=>rfl⟩,⟨⟨by decide,fun _=>rfl⟩,⟨⟨by decide,fun _=>rfl⟩,⟨⟨by decide,fun _=>rfl⟩,⟨⟨by decide,fun _=>rfl⟩,⟨⟨by decide,fun _=>rfl⟩,⟨⟨by decide,fun _=>rfl⟩,⟨⟨by decide,fun _=>rfl⟩,⟨trivial,⟨⟨by decide,fun _=>rfl⟩,⟨⟨by decide,fun _=>rfl⟩,⟨⟨by decide,fun _=>rfl⟩,⟨⟨by decide,fun _=>rfl⟩,⟨⟨by decide,fun _=>⟨_,rfl,rfl⟩⟩,⟨⟨by decide,fun _=>⟨_,rfl,rfl⟩⟩,⟨⟨by decide,fun _=>⟨_,rfl,rfl⟩⟩,⟨⟨by decide,fun _=>rfl⟩,⟨⟨by decide,fun _=>rfl⟩,⟨trivial,⟨⟨by decide,fun _=>rfl⟩,⟨⟨by decide,fun _=>rfl⟩,⟨trivial,trivial⟩⟩⟩⟩⟩⟩⟩⟩⟩⟩⟩⟩⟩⟩⟩⟩⟩⟩⟩⟩⟩⟩⟩⟩⟩⟩⟩⟩⟩⟩,⟨by decide,⟨by decide,⟨by decide,trivial⟩⟩⟩⟩⟩⟩
def Z2u:Lay:=⟨[0,3],[KP,KP],[.var k7,.row false,.row false,.row true,.var k10],⟨[PQ 0,PQ 4],[.var 118 67 (ag0 1),.row 68 false,.row 156 false,.row 148 true,VA 138 8]⟩⟩
def Zid:Nat->Option Lay
 | 8=>some Z2u
 | 7=>some Z2u
 | _=>none
noncomputable def Zgo:Z4P->Z08 U
 | .b0 a0 a1=>ZB3 Tryz.f86 Z6V (((),((a0,()),())),(tu4 a1))
 | .b1 a0 a1=>spL Tryz.f86 [1,1] Z2u (((),((),())),((tu3 a0),(a0.Link.Arq.Zu,(a0.Link.Zb,(a0.Zz,((a1,()),()))))))
 | .b2 a0 a1=>spL Tryz.f86 [1,0,1,1,1,1,1] Z2u (((),((),())),((tu3 a0),(a0.Link.Arq.Zu,(a0.Link.Zb,(a0.Zz,((a1,()),()))))))
theorem ZfB:ZB5 86 Tryz.f86 (mc ZsF msN) (hc [] Z6W hsN) Zid [] [.var k7,.row false,.row false,.row true] 4 Z9G Z0F Zgo:=by intro p;cases p<;>kernel_rfl
theorem Zgm:Z4n Tryz.prog B0 86 Z9G:=okH ZfB (fun x=>.b0 (⟨x.1.2.1.1.Kind,x.1.2.1.1.ZQ,x.1.2.1.1.Zt,x.1.2.1.1.Map⟩:Z8) (⟨(⟨x.2.1.1,x.2.1.2.1,x.2.1.2.2.1,x.2.1.2.2.2.1,x.2.1.2.2.2.2.1,x.2.1.2.2.2.2.2.1,x.2.1.2.2.2.2.2.2.1,x.2.1.2.2.2.2.2.2.2.1,x.2.1.2.2.2.2.2.2.2.2.1,x.2.1.2.2.2.2.2.2.2.2.2.1,x.2.1.2.2.2.2.2.2.2.2.2.2.1,x.2.1.2.2.2.2.2.2.2.2.2.2.2.1,x.2.1.2.2.2.2.2.2.2.2.2.2.2.2.1,x.2.1.2.2.2.2.2.2.2.2.2.2.2.2.2.1,(⟨x.2.1.2.2.2.2.2.2.2.2.2.2.2.2.2.2.1,x.2.1.2.2.2.2.2.2.2.2.2.2.2.2.2.2.2.1,x.2.2.1,x.2.1.2.2.2.2.2.2.2.2.2.2.2.2.2.2.2.2.1,x.2.1.2.2.2.2.2.2.2.2.2.2.2.2.2.2.2.2.2.1,x.2.1.2.2.2.2.2.2.2.2.2.2.2.2.2.2.2.2.2.2.1,x.2.1.2.2.2.2.2.2.2.2.2.2.2.2.2.2.2.2.2.2.2.1⟩:ZK),x.2.1.2.2.2.2.2.2.2.2.2.2.2.2.2.2.2.2.2.2.2.2.1,x.2.1.2.2.2.2.2.2.2.2.2.2.2.2.2.2.2.2.2.2.2.2.2.1,x.2.1.2.2.2.2.2.2.2.2.2.2.2.2.2.2.2.2.2.2.2.2.2.2.1,x.2.1.2.2.2.2.2.2.2.2.2.2.2.2.2.2.2.2.2.2.2.2.2.2.2.1,x.2.1.2.2.2.2.2.2.2.2.2.2.2.2.2.2.2.2.2.2.2.2.2.2.2.2.1,x.2.2.2.1,x.2.1.2.2.2.2.2.2.2.2.2.2.2.2.2.2.2.2.2.2.2.2.2.2.2.2.2.1,x.2.1.2.2.2.2.2.2.2.2.2.2.2.2.2.2.2.2.2.2.2.2.2.2.2.2.2.2.1⟩:Z9),x.2.2.2.2.1⟩:ZE)) (fun x=>by kernel_rfl) (by kernel_rfl) Tryz.func86 (by kernel_rfl) (by kernel_rfl) (fun x=>by kernel_rfl) (fun x=>by kernel_rfl)
inductive Z7x where
 | b0 (a0 a1 a2:Int)
noncomputable def Z7B:Z7x->Tr U (Bool⊕Z7x)
 | .b0 a0 a1 a2=>.br (a0 != -1) ( .bind 4 (Z33 a0) (fun(x1:Bool)=>.br (!x1) ( .leaf (.inl (decide ((w64 (a2 - a1))>40000000)))) ( .leaf (.inl false)))) ( .leaf (.inl false))
noncomputable def Z4F (a0 a1 a2:Int):Option Bool:=ZO Z7B (.b0 a0 a1 a2)
noncomputable def Znz:Mod U:=⟨[3,3,3],4,fun x=>Z4F x.1 x.2.1 x.2.2.1,by decide⟩
noncomputable def Zlo:Z7x->Z08 U
 | .b0 a0 a1 a2=>Z0f Tryz.f257 [3,3,3] (a0,a1,a2,())
theorem Zk9:Z0g 257 Tryz.f257 (mc Z83 msN) hsN AN 4 Z7B Zlo
 | .b0 ..=>by kernel_rfl
theorem Zmm:Z0a Tryz.prog B0 257 Znz:=okP Zk9 (fun x=>.b0 x.1 x.2.1 x.2.2.1) (by kernel_rfl) Tryz.func257 (by kernel_rfl) (by kernel_rfl) (fun _=>rfl) (fun _=>rfl)
inductive Z4L where
 | b0 (a0:Z7) (a1:Int)
noncomputable def Z4O:Z4L->Tr U (Bool⊕Z4L)
 | .b0 a0 a1=>.bind 4 (Z4F a0.Own a0.Since a1) (fun(x1:Bool)=>.br x1 ( .leaf (.inl true)) ( .bind 4 (Z4F a0.Other a0.Z0C a1) (fun(x2:Bool)=>.leaf (.inl x2))))
noncomputable def Z4I (a0:Z7) (a1:Int):Option Bool:=ZO Z4O (.b0 a0 a1)
noncomputable def Zhu:Mod U:=⟨[39,3],4,fun x=>Z4I x.1 x.2.1,by decide⟩
noncomputable def Zgc:Z4L->Z08 U
 | .b0 a0 a1=>Z0f Tryz.f184 [39,3] (a0,a1,())
theorem Zfz:Z0g 184 Tryz.f184 (mc Zmm msN) hsN AN 4 Z4O Zgc
 | .b0 ..=>by kernel_rfl
theorem Zgf:Z0a Tryz.prog B0 184 Zhu:=okP Zfz (fun x=>.b0 x.1 x.2.1) (by kernel_rfl) Tryz.func184 (by kernel_rfl) (by kernel_rfl) (fun _=>rfl) (fun _=>rfl)
inductive Za1 where
 | b0 (a0 a1 a2:Int)
noncomputable def Zfx:Za1->Tr U (Int⊕Za1)
 | .b0 a0 a1 a2=>.leaf (.inl (if a2<(if a1>a0 then a1 else a0) then a2 else (if a1>a0 then a1 else a0)))
noncomputable def Z2T (a0 a1 a2:Int):Option Int:=ZO Zfx (.b0 a0 a1 a2)
noncomputable def ZoV:Mod U:=⟨[3,3,3],3,fun x=>Z2T x.1 x.2.1 x.2.2.1,by decide⟩
noncomputable def Zo5:Za1->Z08 U
 | .b0 a0 a1 a2=>Z0f Tryz.f219 [3,3,3] (a0,a1,a2,())
theorem Zm6:Z0g 219 Tryz.f219 msN hsN AN 3 Zfx Zo5
 | .b0 ..=>by kernel_rfl
theorem ZnQ:Z0a Tryz.prog B0 219 ZoV:=okP Zm6 (fun x=>.b0 x.1 x.2.1 x.2.2.1) (by kernel_rfl) Tryz.func219 (by kernel_rfl) (by kernel_rfl) (fun _=>rfl) (fun _=>rfl)
inductive Z6F where
 | b0 (a0:ZM)
noncomputable def Z6j:Z6F->Tr U (ZM⊕Z6F)
 | .b0 a0=>.bind 3 (Z2T a0.Z1E (1:Int) (8:Int)) (fun(x1:Int)=>.bind 3 (Z2T a0.Z0r (0:Int) (3200:Int)) (fun(x2:Int)=>.bind 3 (Z2T a0.Z0j (6:Int) (3200:Int)) (fun(x3:Int)=>.bind 3 (Z2T a0.Z1g (10:Int) (3200:Int)) (fun(x4:Int)=>.leaf (.inl (⟨x1,x2,x3,a0.Z0o,x4⟩:ZM))))))
noncomputable def Z62 (a0:ZM):Option ZM:=ZO Z6j (.b0 a0)
noncomputable def ZlZ:Mod U:=⟨[24],24,fun x=>Z62 x.1,by decide⟩
noncomputable def ZiN:Z6F->Z08 U
 | .b0 a0=>Z0f Tryz.f125 [24] (a0,())
theorem Zhk:Z0g 125 Tryz.f125 (mc ZnQ msN) hsN AN 24 Z6j ZiN
 | .b0 ..=>by kernel_rfl
theorem ZkM:Z0a Tryz.prog B0 125 ZlZ:=okP Zhk (fun x=>.b0 x.1) (by kernel_rfl) Tryz.func125 (by kernel_rfl) (by kernel_rfl) (fun _=>rfl) (fun _=>rfl)
inductive Z6o where
 | b0 (a0:ZM)
noncomputable def Z6D:Z6o->Tr U (Int⊕Z6o)
 | .b0 a0=>.bind 24 (Z62 a0) (fun(x1:ZM)=>.leaf (.inl (w64 (x1.Z1g*10000))))
noncomputable def Z1X (a0:ZM):Option Int:=ZO Z6D (.b0 a0)
noncomputable def ZmE:Mod U:=⟨[24],3,fun x=>Z1X x.1,by decide⟩
noncomputable def ZkW:Z6o->Z08 U
 | .b0 a0=>Z0f Tryz.f185 [24] (a0,())
theorem Zhh:Z0g 185 Tryz.f185 (mc ZkM msN) hsN AN 3 Z6D ZkW
 | .b0 ..=>by kernel_rfl
theorem Zkn:Z0a Tryz.prog B0 185 ZmE:=okP Zhh (fun x=>.b0 x.1) (by kernel_rfl) Tryz.func185 (by kernel_rfl) (by kernel_rfl) (fun _=>rfl) (fun _=>rfl)
inductive Z5j where
 | b0 (a0:Int) (a1:ZE)
 | b1 (a0:Int) (a1:ZE)
noncomputable def Z2q:Z5j->Tr U (Z0p⊕Z5j)
 | .b0 a0 a1=>.br (a1.Link.Ze.Z1n != 0) ( .chk ((a1.Link.Arq.Zu.length==a1.Link.Arq.Zu.length)&&((a1.Link.Zb.length==a1.Link.Zb.length)&&((a1.Zz.length==a1.Zz.length)&&((a1.Link.Arq.Zu.length==a1.Link.Arq.Zu.length)&&(a1.Link.Zb.length==a1.Link.Zb.length))))) ( .leaf (.inl (⟨a1.Link.Ze.Z1n,a1⟩:Z0p)))) ( .bind 4 (Z4I a1.Link.Ze a0) (fun(x1:Bool)=>.br x1 ( .chk ((a1.Link.Arq.Zu.length==a1.Link.Arq.Zu.length)&&((a1.Link.Zb.length==a1.Link.Zb.length)&&((a1.Zz.length==a1.Zz.length)&&((a1.Link.Arq.Zu.length==a1.Link.Arq.Zu.length)&&(a1.Link.Zb.length==a1.Link.Zb.length))))) ( .leaf (.inl (⟨34,a1⟩:Z0p)))) ( .br a1.Link.Z2C ( .bind 3 (Z1X a1.Link.ZN.Zt) (fun(x2:Int)=>.br (decide ((w64 (a0 - a1.Link.Z2W))>x2)) ( .chk ((a1.Link.Arq.Zu.length==a1.Link.Arq.Zu.length)&&((a1.Link.Zb.length==a1.Link.Zb.length)&&((a1.Zz.length==a1.Zz.length)&&((a1.Link.Arq.Zu.length==a1.Link.Arq.Zu.length)&&(a1.Link.Zb.length==a1.Link.Zb.length))))) ( .leaf (.inl (⟨8,a1⟩:Z0p)))) ( .chk ((a1.Link.Arq.Zu.length==a1.Link.Arq.Zu.length)&&((a1.Link.Zb.length==a1.Link.Zb.length)&&((a1.Zz.length==a1.Zz.length)&&((a1.Link.Arq.Zu.length==a1.Link.Arq.Zu.length)&&(a1.Link.Zb.length==a1.Link.Zb.length))))) ( .leaf (.inr (.b1 (w64 (a0 - a1.Link.Z2W)) a1)))))) ( .chk ((a1.Link.Arq.Zu.length==a1.Link.Arq.Zu.length)&&((a1.Link.Zb.length==a1.Link.Zb.length)&&((a1.Zz.length==a1.Zz.length)&&((a1.Link.Arq.Zu.length==a1.Link.Arq.Zu.length)&&(a1.Link.Zb.length==a1.Link.Zb.length))))) ( .leaf (.inr (.b1 (w64 (a0 - a1.Link.Z2W)) a1)))))))
 | .b1 a0 a1=>.br (!a1.Link.Z2C) ( .bind 3 (Z1Q (⟨(⟨a1.Link.Z1z,a1.Link.ZN,a1.Link.Clock,a1.Link.Event,a1.Link.Last,a1.Link.Z19,a1.Link.Size,a1.Link.Sync,a1.Link.Z2W,a1.Link.Z2C,a1.Link.Got,a1.Link.Good,a1.Link.Z1U,a1.Link.More,(⟨a1.Link.Arq.SN,a1.Link.Arq.Zda,a1.Link.Arq.Open,a1.Link.Arq.Empty,a1.Link.Arq.Z1U,a1.Link.Arq.Taken⟩:Zc7),a1.Link.Z0y,(⟨a1.Link.Ze.Z1z,a1.Link.Ze.Own,a1.Link.Ze.Since,a1.Link.Ze.Other,a1.Link.Ze.Z0C,a1.Link.Ze.Told,a1.Link.Ze.ZZ,a1.Link.Ze.Z4Y,a1.Link.Ze.Z74,a1.Link.Ze.Z0q,a1.Link.Ze.Version,a1.Link.Ze.Length,a1.Link.Ze.Limit,a1.Link.Ze.Z5R,a1.Link.Ze.Zpv,a1.Link.Ze.Mark,a1.Link.Ze.Z29,a1.Link.Ze.Z1n⟩:Z3U),a1.Link.Z0h,a1.Link.Key,a1.Link.Z05,a1.Link.Zld⟩:Z8B)⟩:Z0N)) (fun(x1:Int)=>.br (decide (a0>(w64 ((6:Int)*x1)))) ( .chk ((a1.Link.Arq.Zu.length==a1.Link.Arq.Zu.length)&&((a1.Link.Zb.length==a1.Link.Zb.length)&&((a1.Zz.length==a1.Zz.length)&&((a1.Link.Arq.Zu.length==a1.Link.Arq.Zu.length)&&(a1.Link.Zb.length==a1.Link.Zb.length))))) ( .leaf (.inl (⟨62,a1⟩:Z0p)))) ( .chk ((a1.Link.Arq.Zu.length==a1.Link.Arq.Zu.length)&&((a1.Link.Zb.length==a1.Link.Zb.length)&&((a1.Zz.length==a1.Zz.length)&&((a1.Link.Arq.Zu.length==a1.Link.Arq.Zu.length)&&(a1.Link.Zb.length==a1.Link.Zb.length))))) ( .leaf (.inl (⟨0,a1⟩:Z0p)))))) ( .chk ((a1.Link.Arq.Zu.length==a1.Link.Arq.Zu.length)&&((a1.Link.Zb.length==a1.Link.Zb.length)&&((a1.Zz.length==a1.Zz.length)&&((a1.Link.Arq.Zu.length==a1.Link.Arq.Zu.length)&&(a1.Link.Zb.length==a1.Link.Zb.length))))) ( .leaf (.inl (⟨0,a1⟩:Z0p))))
noncomputable def Z3I (a0:Int) (a1:ZE):Option Z0p:=ZO Z2q (.b0 a0 a1)
def Z7U:Shape:=⟨[PQ 0,OV 3],[.var 118 67 (ag0 1),.row 68 false,.row 156 false,.row 148 true]⟩
noncomputable def Zas:HMod U:=⟨[KP,KP],[.var k7,.row false,.row false,.row true],Z7U,⟨[OV 3],[.var 118 67 (ag0 1),.row 68 false,.row 156 false,.row 148 true]⟩,true,1361,fun(y:Z0p)=>(((y.q0,()),()),((y.q1.Link.Z1z,(y.q1.Link.ZN,(y.q1.Link.Clock,(y.q1.Link.Event,(y.q1.Link.Last,(y.q1.Link.Z19,(y.q1.Link.Size,(y.q1.Link.Sync,(y.q1.Link.Z2W,(y.q1.Link.Z2C,(y.q1.Link.Got,(y.q1.Link.Good,(y.q1.Link.Z1U,(y.q1.Link.More,(y.q1.Link.Arq.SN,(y.q1.Link.Arq.Zda,(y.q1.Link.Arq.Open,(y.q1.Link.Arq.Empty,(y.q1.Link.Arq.Z1U,(y.q1.Link.Arq.Taken,(y.q1.Link.Z0y,(y.q1.Link.Ze,(y.q1.Link.Z0h,(y.q1.Link.Key,(y.q1.Link.Zw,(y.q1.Link.Z05,(y.q1.Link.Zld,()))))))))))))))))))))))))))),(y.q1.Link.Arq.Zu,(y.q1.Link.Zb,(y.q1.Zz,()))))),fun x=>Z3I x.1.2.1.1 (⟨(⟨x.2.1.1,x.2.1.2.1,x.2.1.2.2.1,x.2.1.2.2.2.1,x.2.1.2.2.2.2.1,x.2.1.2.2.2.2.2.1,x.2.1.2.2.2.2.2.2.1,x.2.1.2.2.2.2.2.2.2.1,x.2.1.2.2.2.2.2.2.2.2.1,x.2.1.2.2.2.2.2.2.2.2.2.1,x.2.1.2.2.2.2.2.2.2.2.2.2.1,x.2.1.2.2.2.2.2.2.2.2.2.2.2.1,x.2.1.2.2.2.2.2.2.2.2.2.2.2.2.1,x.2.1.2.2.2.2.2.2.2.2.2.2.2.2.2.1,(⟨x.2.1.2.2.2.2.2.2.2.2.2.2.2.2.2.2.1,x.2.1.2.2.2.2.2.2.2.2.2.2.2.2.2.2.2.1,x.2.2.1,x.2.1.2.2.2.2.2.2.2.2.2.2.2.2.2.2.2.2.1,x.2.1.2.2.2.2.2.2.2.2.2.2.2.2.2.2.2.2.2.1,x.2.1.2.2.2.2.2.2.2.2.2.2.2.2.2.2.2.2.2.2.1,x.2.1.2.2.2.2.2.2.2.2.2.2.2.2.2.2.2.2.2.2.2.1⟩:ZK),x.2.1.2.2.2.2.2.2.2.2.2.2.2.2.2.2.2.2.2.2.2.2.1,x.2.1.2.2.2.2.2.2.2.2.2.2.2.2.2.2.2.2.2.2.2.2.2.1,x.2.1.2.2.2.2.2.2.2.2.2.2.2.2.2.2.2.2.2.2.2.2.2.2.1,x.2.1.2.2.2.2.2.2.2.2.2.2.2.2.2.2.2.2.2.2.2.2.2.2.2.1,x.2.1.2.2.2.2.2.2.2.2.2.2.2.2.2.2.2.2.2.2.2.2.2.2.2.2.1,x.2.2.2.1,x.2.1.2.2.2.2.2.2.2.2.2.2.2.2.2.2.2.2.2.2.2.2.2.2.2.2.2.1,x.2.1.2.2.2.2.2.2.2.2.2.2.2.2.2.2.2.2.2.2.2.2.2.2.2.2.2.2.1⟩:Z9),x.2.2.2.2.1⟩:ZE),⟨⟨trivial,⟨⟨by decide,fun _=>rfl⟩,trivial⟩⟩,⟨⟨⟨by decide,fun _=>rfl⟩,⟨⟨by decide,fun _=>⟨_,rfl,rfl⟩⟩,⟨⟨by decide,fun _=>rfl⟩,⟨⟨by decide,fun _=>rfl⟩,⟨⟨by decide,fun _=>rfl⟩,⟨⟨by decide,fun _=>rfl⟩,⟨⟨by decide,fun _=>rfl⟩,⟨⟨by decide,fun _=>rfl⟩,⟨⟨by decide,fun _=>rfl⟩,⟨⟨by decide,fun _=>rfl⟩,⟨⟨by decide,fun _=>rfl⟩,⟨⟨by decide,fun _=>rfl⟩,⟨⟨by decide,fun _=>rfl⟩,⟨⟨by decide,fun _=>rfl⟩,⟨⟨by decide,fun _=>rfl⟩,⟨⟨by decide,fun _=>rfl⟩,⟨trivial,⟨⟨by decide,fun _=>rfl⟩,⟨⟨by decide,fun _=>rfl⟩,⟨⟨by decide,fun _=>rfl⟩,⟨⟨by decide,fun _=>rfl⟩,⟨⟨by decide,fun _=>⟨_,rfl,rfl⟩⟩,⟨⟨by decide,fun _=>⟨_,rfl,rfl⟩⟩,⟨⟨by decide,fun _=>⟨_,rfl,rfl⟩⟩,⟨⟨by decide,fun _=>rfl⟩,⟨⟨by decide,fun _=>rfl⟩,⟨trivial,⟨⟨by decide,fun _=>rfl⟩,⟨⟨by decide,fun _=>rfl⟩,⟨trivial,trivial⟩⟩⟩⟩⟩⟩⟩⟩⟩⟩⟩⟩⟩⟩⟩⟩⟩⟩⟩⟩⟩⟩⟩⟩⟩⟩⟩⟩⟩⟩,⟨by decide,⟨by decide,⟨by decide,trivial⟩⟩⟩⟩⟩⟩
def Z7O:Lay:=⟨[0,5],[KP,KP],[.var k7,.row false,.row false,.row true],⟨[PQ 0,OV 3],[.var 118 67 (ag0 1),.row 68 false,.row 156 false,.row 148 true]⟩⟩
def Zkg:Nat->Option Lay
 | 8=>some Z7O
 | _=>none
noncomputable def ZhM:Z5j->Z08 U
 | .b0 a0 a1=>ZB3 Tryz.f89 Z7U (((),((a0,()),())),(tu4 a1))
 | .b1 a0 a1=>spL Tryz.f89 [1,0,1,0,1,1,1,1,1,1,0] Z7O (((),((a0,()),())),(tu4 a1))
theorem Zgq:ZB5 89 Tryz.f89 (mc Z7h (mc Zgf (mc Zkn msN))) hsN Zkg [KP] [.var k7,.row false,.row false,.row true] 4 Zas Z2q ZhM:=by intro p;cases p<;>kernel_rfl
theorem Zie:Z4n Tryz.prog B0 89 Zas:=okH Zgq (fun x=>.b0 x.1.2.1.1 (⟨(⟨x.2.1.1,x.2.1.2.1,x.2.1.2.2.1,x.2.1.2.2.2.1,x.2.1.2.2.2.2.1,x.2.1.2.2.2.2.2.1,x.2.1.2.2.2.2.2.2.1,x.2.1.2.2.2.2.2.2.2.1,x.2.1.2.2.2.2.2.2.2.2.1,x.2.1.2.2.2.2.2.2.2.2.2.1,x.2.1.2.2.2.2.2.2.2.2.2.2.1,x.2.1.2.2.2.2.2.2.2.2.2.2.2.1,x.2.1.2.2.2.2.2.2.2.2.2.2.2.2.1,x.2.1.2.2.2.2.2.2.2.2.2.2.2.2.2.1,(⟨x.2.1.2.2.2.2.2.2.2.2.2.2.2.2.2.2.1,x.2.1.2.2.2.2.2.2.2.2.2.2.2.2.2.2.2.1,x.2.2.1,x.2.1.2.2.2.2.2.2.2.2.2.2.2.2.2.2.2.2.1,x.2.1.2.2.2.2.2.2.2.2.2.2.2.2.2.2.2.2.2.1,x.2.1.2.2.2.2.2.2.2.2.2.2.2.2.2.2.2.2.2.2.1,x.2.1.2.2.2.2.2.2.2.2.2.2.2.2.2.2.2.2.2.2.2.1⟩:ZK),x.2.1.2.2.2.2.2.2.2.2.2.2.2.2.2.2.2.2.2.2.2.2.1,x.2.1.2.2.2.2.2.2.2.2.2.2.2.2.2.2.2.2.2.2.2.2.2.1,x.2.1.2.2.2.2.2.2.2.2.2.2.2.2.2.2.2.2.2.2.2.2.2.2.1,x.2.1.2.2.2.2.2.2.2.2.2.2.2.2.2.2.2.2.2.2.2.2.2.2.2.1,x.2.1.2.2.2.2.2.2.2.2.2.2.2.2.2.2.2.2.2.2.2.2.2.2.2.2.1,x.2.2.2.1,x.2.1.2.2.2.2.2.2.2.2.2.2.2.2.2.2.2.2.2.2.2.2.2.2.2.2.2.1,x.2.1.2.2.2.2.2.2.2.2.2.2.2.2.2.2.2.2.2.2.2.2.2.2.2.2.2.2.1⟩:Z9),x.2.2.2.2.1⟩:ZE)) (fun x=>by kernel_rfl) (by kernel_rfl) Tryz.func89 (by kernel_rfl) (by kernel_rfl) (fun x=>by kernel_rfl) (fun x=>by kernel_rfl)
inductive Z6r where
 | b0 (a0 a1:Int) (a2:ZE)
noncomputable def Z6k:Z6r->Tr U (Z20⊕Z6r)
 | .b0 a0 a1 a2=>.chk ((([(⟨4,0,(⟨0,[]⟩:Zd),Z0A,(IntKind.wrap .u64 (a1)),Zr⟩:Z5)]).length==1)&&((a2.Link.Arq.Zu.length==a2.Link.Arq.Zu.length)&&((a2.Link.Zb.length==a2.Link.Zb.length)&&((a2.Zz.length==a2.Zz.length)&&((a2.Link.Arq.Zu.length==a2.Link.Arq.Zu.length)&&(a2.Link.Zb.length==a2.Link.Zb.length)))))) ( .bind 1360 (Z2E a0 ([(⟨4,0,(⟨0,[]⟩:Zd),Z0A,(IntKind.wrap .u64 (a1)),Zr⟩:Z5)]) (⟨({ a2.Link with Z05:=a1 }:Z9),a2.Zz⟩:ZE)) (fun(y1:Z10)=>.chk ((y1.q0.Link.Arq.Zu.length==y1.q0.Link.Arq.Zu.length)&&((y1.q0.Link.Zb.length==y1.q0.Link.Zb.length)&&((y1.q0.Zz.length==y1.q0.Zz.length)&&((y1.q0.Link.Arq.Zu.length==y1.q0.Link.Arq.Zu.length)&&(y1.q0.Link.Zb.length==y1.q0.Link.Zb.length))))) ( .leaf (.inl (⟨y1.q0⟩:Z20)))))
noncomputable def Z6z (a0 a1:Int) (a2:ZE):Option Z20:=ZO Z6k (.b0 a0 a1 a2)
def Z8H:Shape:=⟨[PQ 0,OV 30,OV 3],[.var 118 67 (ag0 1),.row 68 false,.row 156 false,.row 148 true]⟩
noncomputable def Zc1:HMod U:=⟨[KP,KP,KP],[.var k7,.row false,.row false,.row true],Z8H,⟨[],[.var 118 67 (ag0 1),.row 68 false,.row 156 false,.row 148 true]⟩,false,1362,fun(y:Z20)=>((),((y.q0.Link.Z1z,(y.q0.Link.ZN,(y.q0.Link.Clock,(y.q0.Link.Event,(y.q0.Link.Last,(y.q0.Link.Z19,(y.q0.Link.Size,(y.q0.Link.Sync,(y.q0.Link.Z2W,(y.q0.Link.Z2C,(y.q0.Link.Got,(y.q0.Link.Good,(y.q0.Link.Z1U,(y.q0.Link.More,(y.q0.Link.Arq.SN,(y.q0.Link.Arq.Zda,(y.q0.Link.Arq.Open,(y.q0.Link.Arq.Empty,(y.q0.Link.Arq.Z1U,(y.q0.Link.Arq.Taken,(y.q0.Link.Z0y,(y.q0.Link.Ze,(y.q0.Link.Z0h,(y.q0.Link.Key,(y.q0.Link.Zw,(y.q0.Link.Z05,(y.q0.Link.Zld,()))))))))))))))))))))))))))),(y.q0.Link.Arq.Zu,(y.q0.Link.Zb,(y.q0.Zz,()))))),fun x=>Z6z x.1.2.1.1 x.1.2.2.1.1 (⟨(⟨x.2.1.1,x.2.1.2.1,x.2.1.2.2.1,x.2.1.2.2.2.1,x.2.1.2.2.2.2.1,x.2.1.2.2.2.2.2.1,x.2.1.2.2.2.2.2.2.1,x.2.1.2.2.2.2.2.2.2.1,x.2.1.2.2.2.2.2.2.2.2.1,x.2.1.2.2.2.2.2.2.2.2.2.1,x.2.1.2.2.2.2.2.2.2.2.2.2.1,x.2.1.2.2.2.2.2.2.2.2.2.2.2.1,x.2.1.2.2.2.2.2.2.2.2.2.2.2.2.1,x.2.1.2.2.2.2.2.2.2.2.2.2.2.2.2.1,(⟨x.2.1.2.2.2.2.2.2.2.2.2.2.2.2.2.2.1,x.2.1.2.2.2.2.2.2.2.2.2.2.2.2.2.2.2.1,x.2.2.1,x.2.1.2.2.2.2.2.2.2.2.2.2.2.2.2.2.2.2.1,x.2.1.2.2.2.2.2.2.2.2.2.2.2.2.2.2.2.2.2.1,x.2.1.2.2.2.2.2.2.2.2.2.2.2.2.2.2.2.2.2.2.1,x.2.1.2.2.2.2.2.2.2.2.2.2.2.2.2.2.2.2.2.2.2.1⟩:ZK),x.2.1.2.2.2.2.2.2.2.2.2.2.2.2.2.2.2.2.2.2.2.2.1,x.2.1.2.2.2.2.2.2.2.2.2.2.2.2.2.2.2.2.2.2.2.2.2.1,x.2.1.2.2.2.2.2.2.2.2.2.2.2.2.2.2.2.2.2.2.2.2.2.2.1,x.2.1.2.2.2.2.2.2.2.2.2.2.2.2.2.2.2.2.2.2.2.2.2.2.2.1,x.2.1.2.2.2.2.2.2.2.2.2.2.2.2.2.2.2.2.2.2.2.2.2.2.2.2.1,x.2.2.2.1,x.2.1.2.2.2.2.2.2.2.2.2.2.2.2.2.2.2.2.2.2.2.2.2.2.2.2.2.1,x.2.1.2.2.2.2.2.2.2.2.2.2.2.2.2.2.2.2.2.2.2.2.2.2.2.2.2.2.1⟩:Z9),x.2.2.2.2.1⟩:ZE),⟨⟨trivial,⟨⟨by decide,fun _=>rfl⟩,⟨⟨by decide,fun _=>rfl⟩,trivial⟩⟩⟩,⟨⟨⟨by decide,fun _=>rfl⟩,⟨⟨by decide,fun _=>⟨_,rfl,rfl⟩⟩,⟨⟨by decide,fun _=>rfl⟩,⟨⟨by decide,fun _=>rfl⟩,⟨⟨by decide,fun _=>rfl⟩,⟨⟨by decide,fun _=>rfl⟩,⟨⟨by decide,fun _=>rfl⟩,⟨⟨by decide,fun _=>rfl⟩,⟨⟨by decide,fun _=>rfl⟩,⟨⟨by decide,fun _=>rfl⟩,⟨⟨by decide,fun _=>rfl⟩,⟨⟨by decide,fun _=>rfl⟩,⟨⟨by decide,fun _=>rfl⟩,⟨⟨by decide,fun _=>rfl⟩,⟨⟨by decide,fun _=>rfl⟩,⟨⟨by decide,fun _=>rfl⟩,⟨trivial,⟨⟨by decide,fun _=>rfl⟩,⟨⟨by decide,fun _=>rfl⟩,⟨⟨by decide,fun _=>rfl⟩,⟨⟨by decide,fun _=>rfl⟩,⟨⟨by decide,fun _=>⟨_,rfl,rfl⟩⟩,⟨⟨by decide,fun _=>⟨_,rfl,rfl⟩⟩,⟨⟨by decide,fun _=>⟨_,rfl,rfl⟩⟩,⟨⟨by decide,fun _=>rfl⟩,⟨⟨by decide,fun _=>rfl⟩,⟨trivial,⟨⟨by decide,fun _=>rfl⟩,⟨⟨by decide,fun _=>rfl⟩,⟨trivial,trivial⟩⟩⟩⟩⟩⟩⟩⟩⟩⟩⟩⟩⟩⟩⟩⟩⟩⟩⟩⟩⟩⟩⟩⟩⟩⟩⟩⟩⟩⟩,⟨by decide,⟨by decide,⟨by decide,trivial⟩⟩⟩⟩⟩⟩
noncomputable def ZiM:Z6r->Z08 U
 | .b0 a0 a1 a2=>ZB3 Tryz.f90 Z8H (((),((a0,()),((a1,()),()))),(tu4 a2))
theorem Zhz:ZB5 90 Tryz.f90 msN (hc [] Z6W hsN) AN [] [.var k7,.row false,.row false,.row true] 4 Zc1 Z6k ZiM
 | .b0 ..=>by kernel_rfl
theorem ZkD:Z4n Tryz.prog B0 90 Zc1:=okH Zhz (fun x=>.b0 x.1.2.1.1 x.1.2.2.1.1 (⟨(⟨x.2.1.1,x.2.1.2.1,x.2.1.2.2.1,x.2.1.2.2.2.1,x.2.1.2.2.2.2.1,x.2.1.2.2.2.2.2.1,x.2.1.2.2.2.2.2.2.1,x.2.1.2.2.2.2.2.2.2.1,x.2.1.2.2.2.2.2.2.2.2.1,x.2.1.2.2.2.2.2.2.2.2.2.1,x.2.1.2.2.2.2.2.2.2.2.2.2.1,x.2.1.2.2.2.2.2.2.2.2.2.2.2.1,x.2.1.2.2.2.2.2.2.2.2.2.2.2.2.1,x.2.1.2.2.2.2.2.2.2.2.2.2.2.2.2.1,(⟨x.2.1.2.2.2.2.2.2.2.2.2.2.2.2.2.2.1,x.2.1.2.2.2.2.2.2.2.2.2.2.2.2.2.2.2.1,x.2.2.1,x.2.1.2.2.2.2.2.2.2.2.2.2.2.2.2.2.2.2.1,x.2.1.2.2.2.2.2.2.2.2.2.2.2.2.2.2.2.2.2.1,x.2.1.2.2.2.2.2.2.2.2.2.2.2.2.2.2.2.2.2.2.1,x.2.1.2.2.2.2.2.2.2.2.2.2.2.2.2.2.2.2.2.2.2.1⟩:ZK),x.2.1.2.2.2.2.2.2.2.2.2.2.2.2.2.2.2.2.2.2.2.2.1,x.2.1.2.2.2.2.2.2.2.2.2.2.2.2.2.2.2.2.2.2.2.2.2.1,x.2.1.2.2.2.2.2.2.2.2.2.2.2.2.2.2.2.2.2.2.2.2.2.2.1,x.2.1.2.2.2.2.2.2.2.2.2.2.2.2.2.2.2.2.2.2.2.2.2.2.2.1,x.2.1.2.2.2.2.2.2.2.2.2.2.2.2.2.2.2.2.2.2.2.2.2.2.2.2.1,x.2.2.2.1,x.2.1.2.2.2.2.2.2.2.2.2.2.2.2.2.2.2.2.2.2.2.2.2.2.2.2.2.1,x.2.1.2.2.2.2.2.2.2.2.2.2.2.2.2.2.2.2.2.2.2.2.2.2.2.2.2.2.1⟩:Z9),x.2.2.2.2.1⟩:ZE)) (fun x=>by kernel_rfl) (by kernel_rfl) Tryz.func90 (by kernel_rfl) (by kernel_rfl) (fun x=>by kernel_rfl) (fun x=>by kernel_rfl)
inductive ZeH where
 | b0 (a0:Z9) (a1:Int)
 | b1 (a0:Int) (a1:Bool) (a2:Z9) (a3:ZE)
 | b2 (a0:Int) (a1:Bool) (a2:Z9) (a3:ZE)
 | b3 (a0:Int) (a1:Z9) (a2:ZE)
 | b4 (a0:Int) (a1:Z9) (a2:ZE)
 | b5 (a0:Int) (a1:List Z8) (a2 a3:Int) (a4:Z9) (a5:ZE) (a6:Z7)
 | b6 (a0:Z9) (a1:ZE)
noncomputable def Z0d:ZeH->Tr U ((Z9×(List Z5))⊕ZeH)
 | .b0 a0 a1=>.bind 1353 (Zi1 a0) (fun(y1:Z6x)=>.bind 4 (Z5F (⟨(⟨y1.q0.Link.Z1z,y1.q0.Link.ZN,y1.q0.Link.Clock,y1.q0.Link.Event,y1.q0.Link.Last,y1.q0.Link.Z19,y1.q0.Link.Size,y1.q0.Link.Sync,y1.q0.Link.Z2W,y1.q0.Link.Z2C,y1.q0.Link.Got,y1.q0.Link.Good,y1.q0.Link.Z1U,y1.q0.Link.More,(⟨y1.q0.Link.Arq.SN,y1.q0.Link.Arq.Zda,y1.q0.Link.Arq.Open,y1.q0.Link.Arq.Empty,y1.q0.Link.Arq.Z1U,y1.q0.Link.Arq.Taken⟩:Zc7),y1.q0.Link.Z0y,(⟨y1.q0.Link.Ze.Z1z,y1.q0.Link.Ze.Own,y1.q0.Link.Ze.Since,y1.q0.Link.Ze.Other,y1.q0.Link.Ze.Z0C,y1.q0.Link.Ze.Told,y1.q0.Link.Ze.ZZ,y1.q0.Link.Ze.Z4Y,y1.q0.Link.Ze.Z74,y1.q0.Link.Ze.Z0q,y1.q0.Link.Ze.Version,y1.q0.Link.Ze.Length,y1.q0.Link.Ze.Limit,y1.q0.Link.Ze.Z5R,y1.q0.Link.Ze.Zpv,y1.q0.Link.Ze.Mark,y1.q0.Link.Ze.Z29,y1.q0.Link.Ze.Z1n⟩:Z3U),y1.q0.Link.Z0h,y1.q0.Link.Key,y1.q0.Link.Z05,y1.q0.Link.Zld⟩:Z8B)⟩:Z0N)) (fun(x2:Bool)=>.br (!x2) ( .chk (y1.q0.Link.Arq.Zu.length==y1.q0.Link.Arq.Zu.length) ( .chk (y1.q0.Link.Ze.Zf.length==y1.q0.Link.Ze.Zf.length) ( .chk (y1.q0.Link.Ze.Zo.length==y1.q0.Link.Ze.Zo.length) ( .chk (y1.q0.Link.Zw.length==y1.q0.Link.Zw.length) ( .chk (y1.q0.Link.Zb.length==y1.q0.Link.Zb.length) ( .chk (([]:List Z5).length==0) ( .leaf (.inl (y1.q0.Link,([]:List Z5)))))))))) ( .br (!y1.q0.Link.Got) ( .chk (y1.q0.Link.Arq.Zu.length==y1.q0.Link.Arq.Zu.length) ( .chk (y1.q0.Link.Ze.Zf.length==y1.q0.Link.Ze.Zf.length) ( .chk (y1.q0.Link.Ze.Zo.length==y1.q0.Link.Ze.Zo.length) ( .chk (y1.q0.Link.Zw.length==y1.q0.Link.Zw.length) ( .chk (y1.q0.Link.Zb.length==y1.q0.Link.Zb.length) ( .bind 4 (ZeF y1.q0.Link) (fun(x3:Bool)=>.chk ((y1.q0.Link.Arq.Zu.length==y1.q0.Link.Arq.Zu.length)&&((y1.q0.Link.Ze.Zf.length==y1.q0.Link.Ze.Zf.length)&&((y1.q0.Link.Ze.Zo.length==y1.q0.Link.Ze.Zo.length)&&((y1.q0.Link.Zw.length==y1.q0.Link.Zw.length)&&((y1.q0.Link.Zb.length==y1.q0.Link.Zb.length)&&((y1.q0.Zz.length==y1.q0.Zz.length)&&((y1.q0.Link.Arq.Zu.length==y1.q0.Link.Arq.Zu.length)&&((y1.q0.Link.Ze.Zf.length==y1.q0.Link.Ze.Zf.length)&&((y1.q0.Link.Ze.Zo.length==y1.q0.Link.Ze.Zo.length)&&((y1.q0.Link.Zw.length==y1.q0.Link.Zw.length)&&(y1.q0.Link.Zb.length==y1.q0.Link.Zb.length))))))))))) ( .leaf (.inr (.b1 a1 x3 ZH y1.q0)))))))))) ( .chk ((y1.q0.Link.Arq.Zu.length==y1.q0.Link.Arq.Zu.length)&&((y1.q0.Link.Ze.Zf.length==y1.q0.Link.Ze.Zf.length)&&((y1.q0.Link.Ze.Zo.length==y1.q0.Link.Ze.Zo.length)&&((y1.q0.Link.Zw.length==y1.q0.Link.Zw.length)&&((y1.q0.Link.Zb.length==y1.q0.Link.Zb.length)&&((y1.q0.Zz.length==y1.q0.Zz.length)&&((y1.q0.Link.Arq.Zu.length==y1.q0.Link.Arq.Zu.length)&&((y1.q0.Link.Ze.Zf.length==y1.q0.Link.Ze.Zf.length)&&((y1.q0.Link.Ze.Zo.length==y1.q0.Link.Ze.Zo.length)&&((y1.q0.Link.Zw.length==y1.q0.Link.Zw.length)&&(y1.q0.Link.Zb.length==y1.q0.Link.Zb.length))))))))))) ( .leaf (.inr (.b1 a1 false ZH y1.q0)))))))
 | .b1 a0 a1 a2 a3=>.br a1 ( .bind 129 (Zb4 a3.Link.Z0y) (fun(x1:Zk×Int)=>.chk ((a3.Link.Arq.Zu.length==a3.Link.Arq.Zu.length)&&((a3.Link.Ze.Zf.length==a3.Link.Ze.Zf.length)&&((a3.Link.Ze.Zo.length==a3.Link.Ze.Zo.length)&&((a3.Link.Zw.length==a3.Link.Zw.length)&&((a3.Link.Zb.length==a3.Link.Zb.length)&&((a3.Zz.length==a3.Zz.length)&&((a3.Link.Arq.Zu.length==a3.Link.Arq.Zu.length)&&((a3.Link.Ze.Zf.length==a3.Link.Ze.Zf.length)&&((a3.Link.Ze.Zo.length==a3.Link.Ze.Zo.length)&&((a3.Link.Zw.length==a3.Link.Zw.length)&&(a3.Link.Zb.length==a3.Link.Zb.length))))))))))) ( .leaf (.inr (.b2 a0 a1 a2 (⟨({ a3.Link with Z0y:=x1.1 }:Z9),a3.Zz⟩:ZE)))))) ( .br (a3.Link.Z1z==1) ( .bind 35 (Z7A a3.Link.Z0y a3.Link.Z1U) (fun(x2:Zk)=>.chk ((a3.Link.Arq.Zu.length==a3.Link.Arq.Zu.length)&&((a3.Link.Ze.Zf.length==a3.Link.Ze.Zf.length)&&((a3.Link.Ze.Zo.length==a3.Link.Ze.Zo.length)&&((a3.Link.Zw.length==a3.Link.Zw.length)&&((a3.Link.Zb.length==a3.Link.Zb.length)&&((a3.Zz.length==a3.Zz.length)&&((a3.Link.Arq.Zu.length==a3.Link.Arq.Zu.length)&&((a3.Link.Ze.Zf.length==a3.Link.Ze.Zf.length)&&((a3.Link.Ze.Zo.length==a3.Link.Ze.Zo.length)&&((a3.Link.Zw.length==a3.Link.Zw.length)&&(a3.Link.Zb.length==a3.Link.Zb.length))))))))))) ( .leaf (.inr (.b2 a0 a1 a2 (⟨({ a3.Link with Z0y:=x2 }:Z9),a3.Zz⟩:ZE)))))) ( .chk ((a3.Link.Arq.Zu.length==a3.Link.Arq.Zu.length)&&((a3.Link.Ze.Zf.length==a3.Link.Ze.Zf.length)&&((a3.Link.Ze.Zo.length==a3.Link.Ze.Zo.length)&&((a3.Link.Zw.length==a3.Link.Zw.length)&&((a3.Link.Zb.length==a3.Link.Zb.length)&&((a3.Zz.length==a3.Zz.length)&&((a3.Link.Arq.Zu.length==a3.Link.Arq.Zu.length)&&((a3.Link.Ze.Zf.length==a3.Link.Ze.Zf.length)&&((a3.Link.Ze.Zo.length==a3.Link.Ze.Zo.length)&&((a3.Link.Zw.length==a3.Link.Zw.length)&&(a3.Link.Zb.length==a3.Link.Zb.length))))))))))) ( .leaf (.inr (.b2 a0 a1 a2 a3)))))
 | .b2 a0 a1 a2 a3=>.br (!a3.Link.Good) ( .br (!a1) ( .chk ((a3.Link.Arq.Zu.length==a3.Link.Arq.Zu.length)&&((a3.Link.Ze.Zf.length==a3.Link.Ze.Zf.length)&&((a3.Link.Ze.Zo.length==a3.Link.Ze.Zo.length)&&((a3.Link.Zw.length==a3.Link.Zw.length)&&((a3.Link.Zb.length==a3.Link.Zb.length)&&((a3.Zz.length==a3.Zz.length)&&((a3.Link.Arq.Zu.length==a3.Link.Arq.Zu.length)&&((a3.Link.Ze.Zf.length==a3.Link.Ze.Zf.length)&&((a3.Link.Ze.Zo.length==a3.Link.Ze.Zo.length)&&((a3.Link.Zw.length==a3.Link.Zw.length)&&(a3.Link.Zb.length==a3.Link.Zb.length))))))))))) ( .leaf (.inr (.b3 a0 a2 a3)))) ( .chk (a3.Link.Zw.length==a3.Link.Zw.length) ( .chk ((a3.Link.Arq.Zu.length==a3.Link.Arq.Zu.length)&&((a3.Link.Ze.Zf.length==a3.Link.Ze.Zf.length)&&((a3.Link.Ze.Zo.length==a3.Link.Ze.Zo.length)&&((a3.Link.Zb.length==a3.Link.Zb.length)&&((a3.Zz.length==a3.Zz.length)&&((a3.Link.Arq.Zu.length==a3.Link.Arq.Zu.length)&&((a3.Link.Ze.Zf.length==a3.Link.Ze.Zf.length)&&((a3.Link.Ze.Zo.length==a3.Link.Ze.Zo.length)&&(a3.Link.Zb.length==a3.Link.Zb.length))))))))) ( .leaf (.inr (.b4 a0 a2 a3)))))) ( .chk (a3.Link.Zw.length==a3.Link.Zw.length) ( .chk ((a3.Link.Arq.Zu.length==a3.Link.Arq.Zu.length)&&((a3.Link.Ze.Zf.length==a3.Link.Ze.Zf.length)&&((a3.Link.Ze.Zo.length==a3.Link.Ze.Zo.length)&&((a3.Link.Zb.length==a3.Link.Zb.length)&&((a3.Zz.length==a3.Zz.length)&&((a3.Link.Arq.Zu.length==a3.Link.Arq.Zu.length)&&((a3.Link.Ze.Zf.length==a3.Link.Ze.Zf.length)&&((a3.Link.Ze.Zo.length==a3.Link.Ze.Zo.length)&&(a3.Link.Zb.length==a3.Link.Zb.length))))))))) ( .leaf (.inr (.b4 a0 a2 a3)))))
 | .b3 a0 a1 a2=>.chk ((a2.Link.Arq.Zu.length==a2.Link.Arq.Zu.length)&&((a2.Link.Ze.Zf.length==a2.Link.Ze.Zf.length)&&((a2.Link.Ze.Zo.length==a2.Link.Ze.Zo.length)&&((a2.Link.Zw.length==a2.Link.Zw.length)&&((a2.Link.Zb.length==a2.Link.Zb.length)&&((a2.Zz.length==a2.Zz.length)&&((a2.Link.Arq.Zu.length==a2.Link.Arq.Zu.length)&&((a2.Link.Ze.Zf.length==a2.Link.Ze.Zf.length)&&((a2.Link.Ze.Zo.length==a2.Link.Ze.Zo.length)&&((a2.Link.Zw.length==a2.Link.Zw.length)&&(a2.Link.Zb.length==a2.Link.Zb.length))))))))))) ( .bind 1354 (Z6m false a2) (fun(y1:Z21)=>.chk ((y1.q0.Link.Arq.Zu.length==y1.q0.Link.Arq.Zu.length)&&((y1.q0.Link.Ze.Zf.length==y1.q0.Link.Ze.Zf.length)&&((y1.q0.Link.Ze.Zo.length==y1.q0.Link.Ze.Zo.length)&&((y1.q0.Link.Zb.length==y1.q0.Link.Zb.length)&&((y1.q0.Zz.length==y1.q0.Zz.length)&&((y1.q0.Link.Arq.Zu.length==y1.q0.Link.Arq.Zu.length)&&((y1.q0.Link.Ze.Zf.length==y1.q0.Link.Ze.Zf.length)&&((y1.q0.Link.Ze.Zo.length==y1.q0.Link.Ze.Zo.length)&&(y1.q0.Link.Zb.length==y1.q0.Link.Zb.length))))))))) ( .leaf (.inr (.b4 a0 a1 y1.q0)))))
 | .b4 a0 a1 a2=>.bind 104 (Z8x a2.Link.ZN a2.Link.Event a2.Link.Last) (fun(x1:Int×Int)=>.bind 30 (Z2k a2.Link.Event (1:Int)) (fun(x2:Int)=>.bind 3 (Z1Q (⟨(⟨a2.Link.Z1z,a2.Link.ZN,a2.Link.Clock,x2,x1.2,a2.Link.Z19,a2.Link.Size,a2.Link.Sync,a2.Link.Z2W,a2.Link.Z2C,a2.Link.Got,a2.Link.Good,a2.Link.Z1U,a2.Link.More,(⟨a2.Link.Arq.SN,a2.Link.Arq.Zda,a2.Link.Arq.Open,a2.Link.Arq.Empty,a2.Link.Arq.Z1U,a2.Link.Arq.Taken⟩:Zc7),a2.Link.Z0y,(⟨a2.Link.Ze.Z1z,a2.Link.Ze.Own,a2.Link.Ze.Since,a2.Link.Ze.Other,a2.Link.Ze.Z0C,a2.Link.Ze.Told,a2.Link.Ze.ZZ,a2.Link.Ze.Z4Y,a2.Link.Ze.Z74,a2.Link.Ze.Z0q,a2.Link.Ze.Version,a2.Link.Ze.Length,a2.Link.Ze.Limit,a2.Link.Ze.Z5R,a2.Link.Ze.Zpv,a2.Link.Ze.Mark,a2.Link.Ze.Z29,a2.Link.Ze.Z1n⟩:Z3U),a2.Link.Z0h,a2.Link.Key,a2.Link.Z05,a2.Link.Zld⟩:Z8B)⟩:Z0N)) (fun(x3:Int)=>.chk (a2.Link.Ze.Zf.length==a2.Link.Ze.Zf.length) ( .chk (a2.Link.Ze.Zo.length==a2.Link.Ze.Zo.length) ( .bind 135 (Z9k a2.Link.Ze x2) (fun(x4:Z7×(List Z8))=>.chk ((a2.Link.Arq.Zu.length==a2.Link.Arq.Zu.length)&&((a2.Link.Zb.length==a2.Link.Zb.length)&&((a2.Zz.length==a2.Zz.length)&&((a2.Link.Arq.Zu.length==a2.Link.Arq.Zu.length)&&(a2.Link.Zb.length==a2.Link.Zb.length))))) ( .leaf (.inr (.b5 a0 x4.2 (↑x4.2.length:Int) (0:Int) a1 (⟨({ a2.Link with Event:=x2,Last:=x1.2,Z19:=(w64 (a2.Link.Z19+x3)),Got:=false,Good:=false,Z1U:=false,More:=false,Ze:=x4.1 }:Z9),a2.Zz⟩:ZE) x4.1)))))))))
 | .b5 a0 a1 a2 a3 a4 a5 a6=>.br (decide (a3<a2)) ( .chk (decide (0<=a3/\a3<(↑a1.length:Int))) ( .bind 138 (a1[(Int.toNat a3)]?) (fun(x1:Z8)=>.chk ((a5.Link.Arq.Zu.length==a5.Link.Arq.Zu.length)&&((a5.Link.Zb.length==a5.Link.Zb.length)&&((a5.Zz.length==a5.Zz.length)&&((a5.Link.Arq.Zu.length==a5.Link.Arq.Zu.length)&&(a5.Link.Zb.length==a5.Link.Zb.length))))) ( .bind 1359 (Z4M x1 a5) (fun(y2:Z1p)=>.chk ((y2.q0.Link.Arq.Zu.length==y2.q0.Link.Arq.Zu.length)&&((y2.q0.Link.Zb.length==y2.q0.Link.Zb.length)&&((y2.q0.Zz.length==y2.q0.Zz.length)&&((y2.q0.Link.Arq.Zu.length==y2.q0.Link.Arq.Zu.length)&&(y2.q0.Link.Zb.length==y2.q0.Link.Zb.length))))) ( .leaf (.inr (.b5 a0 a1 a2 (w64 (a3+1)) a4 y2.q0 a6)))))))) ( .bind 30 (Z4q (⟨(⟨a5.Link.Z1z,a5.Link.ZN,a5.Link.Clock,a5.Link.Event,a5.Link.Last,a5.Link.Z19,a5.Link.Size,a5.Link.Sync,a5.Link.Z2W,a5.Link.Z2C,a5.Link.Got,a5.Link.Good,a5.Link.Z1U,a5.Link.More,(⟨a5.Link.Arq.SN,a5.Link.Arq.Zda,a5.Link.Arq.Open,a5.Link.Arq.Empty,a5.Link.Arq.Z1U,a5.Link.Arq.Taken⟩:Zc7),a5.Link.Z0y,(⟨a5.Link.Ze.Z1z,a5.Link.Ze.Own,a5.Link.Ze.Since,a5.Link.Ze.Other,a5.Link.Ze.Z0C,a5.Link.Ze.Told,a5.Link.Ze.ZZ,a5.Link.Ze.Z4Y,a5.Link.Ze.Z74,a5.Link.Ze.Z0q,a5.Link.Ze.Version,a5.Link.Ze.Length,a5.Link.Ze.Limit,a5.Link.Ze.Z5R,a5.Link.Ze.Zpv,a5.Link.Ze.Mark,a5.Link.Ze.Z29,a5.Link.Ze.Z1n⟩:Z3U),a5.Link.Z0h,a5.Link.Key,a5.Link.Z05,a5.Link.Zld⟩:Z8B)⟩:Z0N)) (fun(x3:Int)=>.bind 140 (Z63 a5.Link.Ze x3 a0) (fun(x4:Z7×(List Z4))=>.chk (a5.Link.Zb.length==a5.Link.Zb.length) ( .chk (decide ((a5.Link.Zb.length+x4.2.length)*120<=lim)&&decide (a5.Link.Zb.length+x4.2.length<=maxLen)) ( .chk ((a5.Link.Arq.Zu.length==a5.Link.Arq.Zu.length)&&(((a5.Link.Zb++x4.2).length==(a5.Link.Zb++x4.2).length)&&((a5.Zz.length==a5.Zz.length)&&((a5.Link.Arq.Zu.length==a5.Link.Arq.Zu.length)&&((a5.Link.Zb++x4.2).length==(a5.Link.Zb++x4.2).length))))) ( .bind 1361 (Z3I a0 (⟨({ a5.Link with Ze:=x4.1,Zb:=(a5.Link.Zb++x4.2) }:Z9),a5.Zz⟩:ZE)) (fun(y5:Z0p)=>.br (y5.q0 != 0) ( .chk ((y5.q1.Link.Arq.Zu.length==y5.q1.Link.Arq.Zu.length)&&((y5.q1.Link.Zb.length==y5.q1.Link.Zb.length)&&((y5.q1.Zz.length==y5.q1.Zz.length)&&((y5.q1.Link.Arq.Zu.length==y5.q1.Link.Arq.Zu.length)&&(y5.q1.Link.Zb.length==y5.q1.Link.Zb.length))))) ( .bind 1362 (Z6z y5.q1.Link.Event y5.q0 y5.q1) (fun(y6:Z20)=>.chk ((y6.q0.Link.Arq.Zu.length==y6.q0.Link.Arq.Zu.length)&&((y6.q0.Link.Zb.length==y6.q0.Link.Zb.length)&&((y6.q0.Zz.length==y6.q0.Zz.length)&&((y6.q0.Link.Arq.Zu.length==y6.q0.Link.Arq.Zu.length)&&(y6.q0.Link.Zb.length==y6.q0.Link.Zb.length))))) ( .leaf (.inr (.b6 a4 y6.q0)))))) ( .chk ((y5.q1.Link.Arq.Zu.length==y5.q1.Link.Arq.Zu.length)&&((y5.q1.Link.Zb.length==y5.q1.Link.Zb.length)&&((y5.q1.Zz.length==y5.q1.Zz.length)&&((y5.q1.Link.Arq.Zu.length==y5.q1.Link.Arq.Zu.length)&&(y5.q1.Link.Zb.length==y5.q1.Link.Zb.length))))) ( .leaf (.inr (.b6 a4 y5.q1)))))))))))
 | .b6 a0 a1=>.chk (a1.Link.Arq.Zu.length==a1.Link.Arq.Zu.length) ( .chk (a1.Link.Zb.length==a1.Link.Zb.length) ( .chk (a1.Zz.length==a1.Zz.length) ( .leaf (.inl (a1.Link,a1.Zz)))))
noncomputable def Ze0 (a0:Z9) (a1:Int):Option (Z9×(List Z5)):=ZO Z0d (.b0 a0 a1)
noncomputable def ZxP:Mod U:=⟨[44,3],78,fun x=>Ze0 x.1 x.2.1,by decide⟩
def Z6Q:Lay:=⟨[1,4,6,7],[KP,KP,KP,KP],[.var k2,.var k13,.row false,.row false,.row false,.row false,.row false,.row true],⟨[OV 3,PQ 0,PQ 1,OV 4],[VA 44 66,.var 118 67 (ag4 2),.row 68 false,.row 156 false,.row 138 false,.row 99 false,.row 156 false,.row 148 true]⟩⟩
def Zgz:Lay:=⟨[1,4,6],[KP,KP,KP],[.var k2,.var k13,.row false,.row false,.row false,.row false,.row false,.row true],⟨[OV 3,PQ 0,PQ 1],[VA 44 66,.var 118 67 (ag4 2),.row 68 false,.row 156 false,.row 138 false,.row 99 false,.row 156 false,.row 148 true]⟩⟩
def ZgZ:Lay:=⟨[1,4,6],[KP,KP,KP],[.var k2,.var k15,.row false,.row false,.row false,.row false,.row true],⟨[OV 3,PQ 0,PQ 1],[VA 44 66,.var 118 67 (.agg [VC 3 1,.v 28 11 true,VC 3 1,VC 30 1,VC 3 1,VC 3 1,VC 3 1,VC 3 1,VC 3 1,VC 4 1,VC 4 1,VC 4 1,VC 4 1,VC 4 1,VC 3 1,VC 3 1,.own 68 2,VC 4 1,VC 4 1,VC 3 1,VC 3 1,.v 35 3 true,VC 3 1,VC 3 1,VC 3 1,.own 156 3,VC 3 1,VC 3 1,.own 138 4,VC 4 1,VC 25 1,VC 25 1,VC 4 1,VC 4 1,VC 3 1,VC 3 1,VC 3 1,VC 25 1,VC 25 1,VC 25 1,VC 3 1,VC 3 1,.v 41 7 true,VC 29 1,VC 42 1,.own 156 5,VC 3 1,VC 25 1,.own 148 6]),.row 68 false,.row 156 false,.row 138 false,.row 156 false,.row 148 true]⟩⟩
def Zgx:Lay:=⟨[1,4,6,8,162,163,164],[KP,KP,KP,KP,[.s 138 8],KP,KP],[.var k2,.var k7,.var k0,.row false,.row false,.row true],⟨[OV 3,PQ 0,PQ 1,PQ 2,OV 37,OV 3,OV 3],[VA 44 66,.var 118 67 (ag0 3),VA 39 20,.row 68 false,.row 156 false,.row 148 true]⟩⟩
def Zgw:Lay:=⟨[4,6],[KP,KP],[.var k2,.var k7,.row false,.row false,.row true],⟨[PQ 0,PQ 1],[VA 44 66,.var 118 67 (ag0 2),.row 68 false,.row 156 false,.row 148 true]⟩⟩
def ZxE:Nat->Option Lay
 | 5=>some Z6Q
 | 9=>some Z6Q
 | 10=>some Zgz
 | 11=>some ZgZ
 | 18=>some Zgx
 | 28=>some Zgw
 | _=>none
noncomputable def Zuw:ZeH->Z08 U
 | .b0 a0 a1=>Z0f Tryz.f29 [44,3] (a0,a1,())
 | .b1 a0 a1 a2 a3=>spL Tryz.f29 [1,1,1,1,0,0] Z6Q (((a0,()),((),((),((a1,()),())))),((a2,()),(tu5 a3)))
 | .b2 a0 a1 a2 a3=>spL Tryz.f29 [1,1,1,1,1,0,0] Z6Q (((a0,()),((),((),((a1,()),())))),((a2,()),(tu5 a3)))
 | .b3 a0 a1 a2=>spL Tryz.f29 [1,1,1,1,1,0,1,0] Zgz (((a0,()),((),((),()))),((a1,()),(tu5 a2)))
 | .b4 a0 a1 a2=>spL Tryz.f29 [1,1,1,1,1,1,0] ZgZ (((a0,()),((),((),()))),((a1,()),((a2.Link.Z1z,(a2.Link.ZN,(a2.Link.Clock,(a2.Link.Event,(a2.Link.Last,(a2.Link.Z19,(a2.Link.Size,(a2.Link.Sync,(a2.Link.Z2W,(a2.Link.Z2C,(a2.Link.Got,(a2.Link.Good,(a2.Link.Z1U,(a2.Link.More,(a2.Link.Arq.SN,(a2.Link.Arq.Zda,(a2.Link.Arq.Open,(a2.Link.Arq.Empty,(a2.Link.Arq.Z1U,(a2.Link.Arq.Taken,(a2.Link.Z0y,(a2.Link.Ze.Z1z,(a2.Link.Ze.Own,(a2.Link.Ze.Since,(a2.Link.Ze.Other,(a2.Link.Ze.Z0C,(a2.Link.Ze.Told,(a2.Link.Ze.ZZ,(a2.Link.Ze.Z4Y,(a2.Link.Ze.Z74,(a2.Link.Ze.Z0q,(a2.Link.Ze.Version,(a2.Link.Ze.Length,(a2.Link.Ze.Limit,(a2.Link.Ze.Z5R,(a2.Link.Ze.Zpv,(a2.Link.Ze.Mark,(a2.Link.Ze.Z29,(a2.Link.Ze.Z1n,(a2.Link.Z0h,(a2.Link.Key,(a2.Link.Zw,(a2.Link.Z05,(a2.Link.Zld,())))))))))))))))))))))))))))))))))))))))))))),(a2.Link.Arq.Zu,(a2.Link.Ze.Zf,(a2.Link.Ze.Zo,(a2.Link.Zb,(a2.Zz,()))))))))
 | .b5 a0 a1 a2 a3 a4 a5 a6=>spL Tryz.f29 [1,1,1,1,1,1,1,1,1,1,1,1,0,1,0,0,0] Zgx (((a0,()),((),((),((),((a1,()),((a2,()),((a3,()),()))))))),((a4,()),((tu3 a5),((a6,()),(a5.Link.Arq.Zu,(a5.Link.Zb,(a5.Zz,())))))))
 | .b6 a0 a1=>spL Tryz.f29 [1,1,1,1,1,1,1,1,1,1,1,1,1,1,1,1,1,0] Zgw (((),((),())),((a0,()),(tu4 a1)))
theorem Zs0:Z0g 29 Tryz.f29 (mc ZuQ (mc Zr5 (mc ZiJ (mc ZqD (mc ZmH (mc ZcW (mc Z7h (mc ZnC (mc Zjt (mc ZeZ msN)))))))))) (hc [] ZAd (hc [] ZkF (hc [] Zgm (hc [] Zie (hc [] ZkD hsN))))) ZxE 78 Z0d Zuw:=by intro p;cases p<;>kernel_rfl
theorem Zum:Z0a Tryz.prog B0 29 ZxP:=okP Zs0 (fun x=>.b0 x.1 x.2.1) (by kernel_rfl) Tryz.func29 (by kernel_rfl) (by kernel_rfl) (fun _=>rfl) (fun _=>rfl)
inductive Z3O where
 | b0 (a0 a1:List Z5)
 | b1 (a0 a1:List Z5) (a2:Int)
 | b2 (a0 a1:List Z5) (a2:Int)
noncomputable def Z0V:Z3O->Tr U (Bool⊕Z3O)
 | .b0 a0 a1=>.br ((↑a0.length:Int) != (↑a1.length:Int)) ( .leaf (.inl false)) ( .leaf (.inr (.b1 a0 a1 (0:Int))))
 | .b1 a0 a1 a2=>.br (decide (a2<(↑a0.length:Int))) ( .chk (decide (0<=a2/\a2<(↑a0.length:Int))) ( .bind 148 (a0[(Int.toNat a2)]?) (fun(x1:Z5)=>.chk (decide (0<=a2/\a2<(↑a1.length:Int))) ( .bind 148 (a1[(Int.toNat a2)]?) (fun(x2:Z5)=>.br (x1.Kind != x2.Kind) ( .leaf (.inl false)) ( .br (x1.Event != x2.Event) ( .leaf (.inl false)) ( .bind 4 (Z4E x1.ZF x2.ZF) (fun(x3:Bool)=>.br (!x3) ( .leaf (.inl false)) ( .br (!((x1.Z6Z.Kind==x2.Z6Z.Kind)&&((x1.Z6Z.ZQ==x2.Z6Z.ZQ)&&((x1.Z6Z.Zt.Z1E==x2.Z6Z.Zt.Z1E)&&((x1.Z6Z.Zt.Z0r==x2.Z6Z.Zt.Z0r)&&((x1.Z6Z.Zt.Z0j==x2.Z6Z.Zt.Z0j)&&((x1.Z6Z.Zt.Z0o==x2.Z6Z.Zt.Z0o)&&((x1.Z6Z.Zt.Z1g==x2.Z6Z.Zt.Z1g)&&((x1.Z6Z.Map==x2.Z6Z.Map)&&true))))))))) ( .leaf (.inl false)) ( .br (x1.Number != x2.Number) ( .leaf (.inl false)) ( .br (!((x1.Zt.Z1E==x2.Zt.Z1E)&&((x1.Zt.Z0r==x2.Zt.Z0r)&&((x1.Zt.Z0j==x2.Zt.Z0j)&&((x1.Zt.Z0o==x2.Zt.Z0o)&&((x1.Zt.Z1g==x2.Zt.Z1g)&&true)))))) ( .leaf (.inl false)) ( .leaf (.inr (.b2 a0 a1 a2)))))))))))))) ( .leaf (.inl true))
 | .b2 a0 a1 a2=>.leaf (.inr (.b1 a0 a1 (w64 (a2+1))))
noncomputable def Z3S (a0 a1:List Z5):Option Bool:=ZO Z0V (.b0 a0 a1)
noncomputable def ZeK:Mod U:=⟨[77,77],4,fun x=>Z3S x.1 x.2.1,by decide⟩
def Z1V:Lay:=⟨[0,1,5],[[.s 148 18],[.s 148 18],KP],[],⟨[OV 77,OV 77,OV 3],[]⟩⟩
def ZeW:Nat->Option Lay
 | 4=>some Z1V
 | 5=>some Z1V
 | _=>none
noncomputable def ZdO:Z3O->Z08 U
 | .b0 a0 a1=>Z0f Tryz.f31 [77,77] (a0,a1,())
 | .b1 a0 a1 a2=>spL Tryz.f31 [1,1,0,1,0,0,0,0] Z1V (((a0,()),((a1,()),((a2,()),()))),())
 | .b2 a0 a1 a2=>spL Tryz.f31 [1,1,0,1,0,0,1,1] Z1V (((a0,()),((a1,()),((a2,()),()))),())
theorem Zcz:Z0g 31 Tryz.f31 (mc Zbw msN) hsN ZeW 4 Z0V ZdO:=by intro p;cases p<;>kernel_rfl
theorem ZdK:Z0a Tryz.prog B0 31 ZeK:=okP Zcz (fun x=>.b0 x.1 x.2.1) (by kernel_rfl) Tryz.func31 (by kernel_rfl) (by kernel_rfl) (fun _=>rfl) (fun _=>rfl)
inductive Z2o where
 | b0 (a0:Z01) (a1:Int)
 | b1 (a0 a1:Int) (a2:Z9)
noncomputable def Z3F:Z2o->Tr U (Bool⊕Z2o)
 | .b0 a0 a1=>.bind 4 (Zje) (fun(x1:Bool)=>.br (!x1) ( .leaf (.inl false)) ( .bind 60 (Z7G a0) (fun(x2:Z9×Int×Bool)=>.br (!x2.2.2) ( .leaf (.inl true)) ( .br (decide (a1<0)) ( .leaf (.inl true)) ( .br (decide (a1>1073741824)) ( .leaf (.inl true)) ( .leaf (.inr (.b1 a1 x2.2.1 x2.1))))))))
 | .b1 a0 a1 a2=>.bind 44 (Zlx a2) (fun(x1:Z9)=>.bind 78 (Ze0 x1 (w64 (a1+a0))) (fun(x2:Z9×(List Z5))=>.bind 78 (Z6b a2 (w64 (a1+a0))) (fun(x3:Z9×(List Z5))=>.bind 4 (Z3S x2.2 x3.2) (fun(x4:Bool)=>.br x4 ( .bind 4 (ZmK x2.1 x3.1) (fun(x5:Bool)=>.leaf (.inl x5))) ( .leaf (.inl false))))))
noncomputable def Zak (a0:Z01) (a1:Int):Option Bool:=ZO Z3F (.b0 a0 a1)
noncomputable def Z2p:Mod U:=⟨[59,3],4,fun x=>Zak x.1 x.2.1,by decide⟩
def Z80:Lay:=⟨[1,5,6],[KP,KP,KP],[.var k2],⟨[OV 3,PQ 0,OV 3],[VA 44 66]⟩⟩
def ZiV:Nat->Option Lay
 | 6=>some Z80
 | _=>none
noncomputable def Zhy:Z2o->Z08 U
 | .b0 a0 a1=>Z0f Tryz.f6 [59,3] (a0,a1,())
 | .b1 a0 a1 a2=>spL Tryz.f6 [1,1,1,1,0] Z80 (((a0,()),((),((a1,()),()))),((a2,()),()))
theorem Zg9:Z0g 6 Tryz.f6 (mc ZBK (mc Zsh (mc ZlH (mc ZEQ (mc Zum (mc Znx (mc ZdK msN))))))) hsN ZiV 4 Z3F Zhy:=by intro p;cases p<;>kernel_rfl
theorem Zip:Z0a Tryz.prog B0 6 Z2p:=okP Zg9 (fun x=>.b0 x.1 x.2.1) (by kernel_rfl) Tryz.func6 (by kernel_rfl) (by kernel_rfl) (fun _=>rfl) (fun _=>rfl)
end Go.Proofs.YtjodhcdmhobmoaaGreatDoor
