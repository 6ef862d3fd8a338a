/- A part of it. -/
import Derived.Test.YteinepnbndegdaaGreatBRq
import Derived.Tactics2
import Derived.WalkSpells
import Derived.StillTactics
import Derived.Laws.Pointers
import Derived.Deep.RegionHeld3
import Derived.BigQuiet
import Derived.Lib.Hide
set_option linter.unusedVariables false
set_option linter.unusedSimpArgs false
namespace Go.Proofs.YteinepnbndegdaaGreat
open Go Go.RowKit Go.Maps Go.MapKept Go.ChangeMaps
set_option maxRecDepth 100000
theorem Yd:Tryz.prog.underlying 91=some (.map 3 4):=by kernel_rfl
theorem z4 (w:World):(zeroValue 4).run Tryz.prog w = .ok (.bool false) w:=by kernel_rfl
structure ZaH (w:World) (v:Value) (l:List Int) (lo hi:Nat):Prop where
 at_:∃a c,v = .slice a l.length c/\(l≠[]->∃g o,a=some ⟨g,o,none⟩/\g<w.heap.size/\(g<lo\/hi<=g)/\∀j (h:j<l.length),w.cell? ⟨g,o+j,none⟩=some (.int .i64 l[j]))
def Vr (D:List Int) (v:Value):Prop:=∃x∈D,v = .int .i64 x
theorem TP {x:Int} (z:0<=x) (C:x<1000):(Lit.int .i64 x).wf=true:=by
 simp[Lit.wf,IntKind.min,IntKind.max,IntKind.signed,IntKind.bits];omega
theorem ZO {x y:Int} (h:Value.int .i64 x = .int .i64 y):x=y:=by simpa using h
theorem Z9i {R:Nat->Prop} (h:∃m,R m):∃m,R m/\∀j,R j->m<=j:=by
 obtain⟨m,hm⟩:=h;induction m using Nat.strongRecOn with
 | _ m I=>
  by_cases h:∃j,j<m/\R j
  ·obtain⟨j,C,D⟩:=h;exact I j C D
  ·exact⟨m,hm,fun j G=>Nat.le_of_not_lt fun z=>h ⟨j,z,G⟩⟩
open Classical in
noncomputable def leastOf (R:Nat->Prop):Nat:=if h:∃m,R m then Classical.choose (Z9i h) else 0
theorem leastOf_spec {R:Nat->Prop} (h:∃m,R m):R (leastOf R)/\∀j,R j->leastOf R<=j:=by
 unfold leastOf;rw[dif_pos h];exact Classical.choose_spec (Z9i h)
def RI (w:World) (n:Nat) (z:Int->Bool) (nb:Int->List Int) (fr:Int) (cells:List Value) (m:Nat) (v:Value) (C:World):Prop:=
 ∃(k:Nat) (D:List Int) (c:Nat),m=n+1 - k/\k<=D.length/\D.Nodup/\(∀x∈D,0<=x/\x<n)/\c<=2000*k+40/\IJ z nb fr m k D=IJ z nb fr (n+1) 0 [fr]/\H7 C (w.heap.size+2) v (D.drop k)/\FB Tryz.prog 3 C (w.heap.size+1) c (Vr D) /\
   Below w.heap.size w C/\w.heap.size+3<=C.heap.size/\(∀i v,cells[i]? = some v->C.cell? ⟨w.heap.size,i,none⟩=some v)
theorem H7.pop {w:World} {base g o cap:Nat} {cur:Array Value} {x:Int} {q:List Int} (z:base<=g) (C:w.heap[g]? = some (.cells cur 3)) (I:q.length+1<=cap) (J:o+cap<=cur.size) (M:cap<=maxLen)
  (G:∀j (h:j<(x::q).length),cur[o+j]? = some (.int .i64 (x::q)[j])):H7 w base (.slice (if cap=1 then some ⟨g,o,none⟩ else some ⟨g,o+1,none⟩) q.length (cap - 1)) q:=by
 by_cases hc:cap=1
 ·rw[if_pos hc];exact⟨g,o,cap - 1,cur,rfl,z,C,by omega,by omega,by omega,fun j D=>by omega⟩
 ·rw[if_neg hc];refine⟨g,o+1,cap - 1,cur,rfl,z,C,by omega,by omega,by omega,fun j D=>?_⟩;have:=G (j+1) (by simpa using D);rw[show o+1+j=o+(j+1) by omega];simpa using this
theorem Below.drewN' {B:Nat} {a w:World} (h:Below B a w) (n:Nat):Below B a (w.drewN n):=⟨h.os,h.tape,h.output,h.size,h.block⟩
theorem XU:∀(n:Nat) (l:List Nat),l.Nodup->(∀x∈l,x<n)->l.length<=n
 | 0,l,_,h=>by
  cases l with
  | nil=>simp
  | cons x l=>exact absurd (h x List.mem_cons_self) (by omega)
 | n+1,l,C,h=>by
  by_cases hm:n∈l
  ·have D:=List.length_erase_of_mem hm;have G:=XU n (l.erase n) (C.erase n) (fun x z=>by
    have:=(List.Nodup.mem_erase_iff C).1 z;have:=h x this.2;omega)
   omega
  ·have:=XU n l C (fun x z=>by
    have D:=h x z;have:x≠n:=fun e=>hm (e▸z);omega)
   omega
theorem Z9x {D:List Int} {n:Nat} (S:n<=16) (G:D.Nodup) (z:∀x∈D,0<=x/\x<n):D.length<=n:=by
 have I:(D.map Int.toNat).Nodup:=by
  rw[List.nodup_iff_pairwise_ne,List.pairwise_map];refine(List.nodup_iff_pairwise_ne.1 G).imp_of_mem fun {a b} M hb C h=>C ?_;have:=(z a M).1;have:=(z b hb).1;omega
 have J:=XU n _ I (fun y R=>by
  obtain⟨x,Q,rfl⟩:=List.mem_map.1 R;have:=z x Q;omega)
 simpa using J
theorem Z4O (w:World) {ops:Array Oper} {z:List Oper} {o:Oper} {a:Act} {Q:Exit->Act->World->Prop} (D:o.guard=none) (s x:Operand)
  (J:o.op = .call { callee:=.builtin .append,args:=#[s,x],argTypes:=#[45,45] }) (v G v' : Value) (w' : World) (M:a.eval s=v) (R:a.eval x=G) (C:(Builtin.append_ #[45,45] o.type #[v,G]).run Tryz.prog w = .ok v' w')
  (h:wpList Tryz.prog ops Q z (a.put o.dst v') w'):wpList Tryz.prog ops Q (o::z) a w:=by
 refine wpList_plain D fun K I=>?_;unfold Oper.wp execOp;simp only[J,resolve,invoke,builtin,Sem.run_bind,Sem.run_pure,Result.andThen_ok,List.map_toArray,List.map_cons,List.map_nil,M,R,C];exact I _ _ h
def HY (D:List Int) (fr:Int) (j:Nat):List Int:=((List.range j).map fun i:Nat=>(i:Int)).filter fun i=>decide (i∈D/\i≠fr)
theorem ZnG (D:List Int) (fr:Int) (j:Nat):HY D fr (j+1)=if (j:Int)∈D/\(j:Int)≠fr then HY D fr j++[(j:Int)] else HY D fr j:=by
 unfold HY;rw[List.range_succ,List.map_append,List.filter_append]
 by_cases h:(j:Int)∈D/\(j:Int)≠fr
 ·rw[if_pos h];simp[h]
 ·rw[if_neg h];have:decide ((j:Int)∈D/\(j:Int)≠fr)=false:=decide_eq_false h;simp only[List.map_cons,List.map_nil,List.filter_cons,this,List.filter_nil];simp
theorem Zp5 (D:List Int) (fr:Int) (j:Nat):(HY D fr j).length<=j:=by
 unfold HY;exact Nat.le_trans (List.length_filter_le _ _) (by simp)
set_option maxHeartbeats 4000000 in
theorem Zkl (w:World) (n:Nat) (a0:Option Addr) (c0:Nat) (x1 x2 x5 x6:Value) (v3 v4:Int) (C:Int->Bool) (nb:Int->List Int) (fr:Int) (hn:n<=16) (hf0:0<=fr) (hf1:fr<n)
  (gN oN:Nat) (ha0:a0=some ⟨gN,oN,none⟩) (hN:∀j:Nat,j<n->w.cell? ⟨gN,oN+j*46+18,none⟩=some (.bool (C j)))
  (hx:x1.oneCell' = true/\x2.oneCell' = true/\x5.oneCell' = true/\x6.oneCell' = true)
  (hnb:∀i:Nat,i<n->∀wr,Below w.heap.size w wr->Calls Tryz.prog 20 #[.agg #[.slice a0 n c0,x1,x2,.int .i64 v3,.int .i64 v4,x5,x6],.int .i64 i] wr fun e w' =>∃v,e = .returned v/\ZaH w' v (nb i) w.heap.size wr.heap.size/\Below wr.heap.size wr w')
  (hnr:∀i:Nat,i<n->∀x∈nb i,0<=x/\x<n) (hnl:∀i,(nb i).length<=1000) :
  Calls Tryz.prog 7 #[.agg #[.slice a0 n c0,x1,x2,.int .i64 v3,.int .i64 v4,x5,x6],.int .i64 fr] w fun e w' =>∃v,e = .returned v /\
   w'.ownsRow w.heap.size 3 1 v (HY (IJ C nb fr (n+1) 0 [fr]) fr n).length ((HY (IJ C nb fr (n+1) 0 [fr]) fr n).map fun i=>Value.int .i64 i)/\Below w.heap.size w w' :=by
 have hmm:=@run_makeMap Tryz.prog;obtain⟨i0,hi,hz0,hz1,hz2⟩:=info_parts info3;have s1:=fun(w:World) (a:Addr) (m:Mode)=>run_store Tryz.prog w a x1 m hx.1;have s2:=fun(w:World) (a:Addr) (m:Mode)=>run_store Tryz.prog w a x2 m hx.2.1;have s5:=fun(w:World) (a:Addr) (m:Mode)=>run_store Tryz.prog w a x5 m hx.2.2.1;have s6:=fun(w:World) (a:Addr) (m:Mode)=>run_store Tryz.prog w a x6 m hx.2.2.2;have e0:¬(fr<0):=by omega
 have e1:¬((n:Int)<=fr):=by omega
 obtain⟨X,hX⟩:∃X,Obj.cells #[a0 |> fun a=>Value.slice a n c0,x1,x2,.int .i64 v3,.int .i64 v4,x5,x6] 33=X:=⟨_,rfl⟩;have hset0:=FB.made (w.alloc (.cells #[.slice a0 n c0,x1,x2,.int .i64 v3,.int .i64 v4,x5,x6] 33)) Tryz.prog 3;rw[World.size_alloc]at hset0;obtain⟨w1,hup1,hset1,hg1⟩:=hset0.store K3 Yd (by unfold maxLen;omega) (keyOf_int_mk u3 (TP hf0 (by omega)));have hs1:=hg1.size;simp only[World.size_alloc]at hs1;have hb1:Below w.heap.size w w1:=((((Below.refl _ _).alloc (Nat.le_refl _) _).alloc (by rw[World.size_alloc];omega) _)).grown hg1 (by simp;omega) (fun j h=>by cases h;omega);have ht1:∀i v,([.slice a0 n c0,x1,x2,.int .i64 v3,.int .i64 v4,x5,x6]:List Value)[i]? = some v->w1.cell? ⟨w.heap.size,i,none⟩=some v:=fun i v hv=>by
  rw[hg1.cell_far _ (by simp;omega) (by simp)];have hold:(((w.alloc (.cells #[.slice a0 n c0,x1,x2,.int .i64 v3,.int .i64 v4,x5,x6] 33)).alloc (.map #[] 0)).heap[w.heap.size]?)=some (.cells #[.slice a0 n c0,x1,x2,.int .i64 v3,.int .i64 v4,x5,x6] 33):=by
   rw[heap_alloc_old _ _ (by simp)];exact heap_alloc_new _ _
  simp only[World.cell?,hold];simpa using hv
 clear hX;have Q:FB Tryz.prog 3 (w1.alloc (.cells #[.int .i64 fr] 3)) (w.heap.size+1) 1 (Vr [fr]):=(hset1.alloc _).congr (fun v=>by simp[Vr]);have hq0:H7 (w1.alloc (.cells #[.int .i64 fr] 3)) (w.heap.size+2) (.slice (some ⟨w1.heap.size,0,none⟩) 1 1) [fr]:=
  ⟨w1.heap.size,0,1,#[.int .i64 fr],rfl,by omega,heap_alloc_new _ _,Nat.le_refl _,by simp,by unfold maxLen;omega,fun j hj=>by
   have:j=0:=by simpa using hj
   subst this;rfl⟩
 have hb2:Below w.heap.size w (w1.alloc (.cells #[.int .i64 fr] 3)):=hb1.alloc (by omega) _;have ht2:∀i v,([.slice a0 n c0,x1,x2,.int .i64 v3,.int .i64 v4,x5,x6]:List Value)[i]? = some v->(w1.alloc (.cells #[.int .i64 fr] 3)).cell? ⟨w.heap.size,i,none⟩=some v:=fun i v hv=>
  (((Below.refl w1.heap.size w1).alloc (Nat.le_refl _) _).cell (p:=⟨w.heap.size,i,none⟩) (by simp only;omega)).trans (ht1 i v hv)
 subst ha0
 go_enter Tryz.func7,Tryz.ntmps7
 go_wp2
 go_loopw [6] (fun v wr=>∃m,RI w n C nb fr [.slice (some ⟨gN,oN,none⟩) n c0,x1,x2,.int .i64 v3,.int .i64 v4,x5,x6] m v wr) (fun v wr=>leastOf fun m=>RI w n C nb fr [.slice (some ⟨gN,oN,none⟩) n c0,x1,x2,.int .i64 v3,.int .i64 v4,x5,x6] m v wr)
 case atStart=>exact⟨n+1,0,[fr],1,rfl,by simp,by simp,by simp;omega,by omega,rfl,hq0,Q,hb2,by simp;omega,ht2⟩
 case round=>
  obtain⟨hRI,hleast⟩:=leastOf_spec hrel;obtain⟨mm,hmm0⟩:∃mm,leastOf (fun m=>RI w n C nb fr [.slice (some ⟨gN,oN,none⟩) n c0,x1,x2,.int .i64 v3,.int .i64 v4,x5,x6] m u6 wr)=mm:=⟨_,rfl⟩;rw[hmm0]at hRI hleast;obtain⟨k,D,c,hm,hkD,hnd,hD,hc,hrun,hq,hset,hb,hs,ht⟩:=hRI;have hD16:D.length<=n:=Z9x hn hnd hD;have HM0:Hid (leastOf (fun m=>RI w n C nb fr [.slice (some ⟨gN,oN,none⟩) n c0,x1,x2,.int .i64 v3,.int .i64 v4,x5,x6] m u6 wr)=mm):=hmm0;clear hmm0 hleast;clear hrel hq0 Q hb2 ht2 hset1 hb1 ht1 s1 s2 s5 s6 hset0 hup1 hg1;have d0:wr.cell? ⟨w.heap.size,0,none⟩=some (.slice (some ⟨gN,oN,none⟩) n c0):=ht 0 _ rfl;have d1:wr.cell? ⟨w.heap.size,1,none⟩=some x1:=ht 1 _ rfl;have d2:wr.cell? ⟨w.heap.size,2,none⟩=some x2:=ht 2 _ rfl;have d3:wr.cell? ⟨w.heap.size,3,none⟩=some (.int .i64 v3):=ht 3 _ rfl;have d4:wr.cell? ⟨w.heap.size,4,none⟩=some (.int .i64 v4):=ht 4 _ rfl;have d5:wr.cell? ⟨w.heap.size,5,none⟩=some x5:=ht 5 _ rfl;have d6:wr.cell? ⟨w.heap.size,6,none⟩=some x6:=ht 6 _ rfl;have HT:Hid (∀i v,([.slice (some ⟨gN,oN,none⟩) n c0,x1,x2,.int .i64 v3,.int .i64 v4,x5,x6]:List Value)[i]? = some v->wr.cell? ⟨w.heap.size,i,none⟩=some v):=ht;clear ht;obtain⟨g,o,cap,cur,rfl,hbg,R,hle,hoc,hcm,Y⟩:=hq;have hgl:g<wr.heap.size:=(Array.getElem?_eq_some_iff.1 R).1
  by_cases hk:k<D.length
  ·obtain⟨x,hxk⟩:∃x,D[k]=x:=⟨_,rfl⟩;have hdr:D.drop k=x::D.drop (k+1):=by rw[List.drop_eq_getElem_cons hk,hxk]
   rw[hdr]at hle Y HM0 ⊢;obtain⟨q,hqd⟩:∃q,D.drop (k+1)=q:=⟨_,rfl⟩;rw[hqd]at hle Y HM0 hdr ⊢;simp only[List.length_cons]at hle HM0 ⊢;have hcx:wr.cell? ⟨g,o,none⟩=some (.int .i64 x):=by
    have:=Y 0 (by simp);simp only[World.cell?,R];simpa using this
   have HC:Hid (∀j (h:j<(x::q).length),cur[o+j]? = some (.int .i64 (x::q)[j])):=Y;clear Y;have e2:(0:Int)<((q.length+1:Nat):Int):=by omega
   have e3:(0:Int)<=x/\x<n:=hD x (hxk▸List.getElem_mem hk);obtain⟨X,rfl⟩:=Int.eq_ofNat_of_zero_le e3.1;have hXn:X<n:=by omega
   have hrc:wr.cell? ⟨gN,oN+X*46+18,none⟩=some (.bool (C X)):=(hb.cell (p:=⟨gN,_,none⟩) (World.block_lt_of_cell? w _ (hN X hXn))).trans (hN X hXn);have hst0:IJ C nb fr (mm - 1) (k+1) (Jn C nb fr D X)=IJ C nb fr (n+1) 0 [fr]:=by
    rw[<- hrun,show mm=(mm - 1)+1 by omega];show _=(match D[k]? with|none=>D|some x=>IJ C nb fr (mm - 1) (k+1) (Jn C nb fr D x));rw[List.getElem?_eq_getElem hk,hxk];rfl
   have hcase:((X:Int)≠fr/\C X=false)\/((X:Int)=fr)\/((X:Int)≠fr/\C X=true):=by
    by_cases h:(X:Int)=fr
    ·exact .inr (.inl h)
    ·cases h2:C X
     ·exact .inl ⟨h,rfl⟩
     ·exact .inr (.inr ⟨h,rfl⟩)
   rcases hcase with ⟨hxf,hrl⟩|hxf|⟨hxf,hrl⟩
   ·rw[hrl]at hrc;have hst:Jn C nb fr D X=D:=by unfold Jn;rw[if_pos ⟨hxf,hrl⟩]
    rw[hst]at hst0;have HR:Hid (IJ C nb fr (mm - 1) (k+1) D=IJ C nb fr (n+1) 0 [fr]):=hst0;clear hst0 hrun hst hrl
    go_wp2_with fail
    go_quiet (fail)
    go_wp2_with fail
    have J:RI w n C nb fr [.slice (some ⟨gN,oN,none⟩) n c0,x1,x2,.int .i64 v3,.int .i64 v4,x5,x6] (mm - 1) (.slice (if cap=1 then some ⟨g,o,none⟩ else some ⟨g,o+1,none⟩) q.length (cap - 1)) (wr.drewN nq):=
     ⟨k+1,D,c,by omega,by omega,hnd,hD,by omega,HR.out,by rw[hqd];exact H7.pop (w:=wr.drewN nq) hbg R hle hoc hcm HC.out,hset.same rfl,Below.drewN' hb _,hs,HT.out⟩
    refine⟨⟨_,J⟩,?_⟩;rw[HM0.out];exact Nat.lt_of_le_of_lt ((leastOf_spec ⟨_,J⟩).2 _ J) (by omega)
   all_goals
    (have hst:Jn C nb fr D X=FV D (nb X):=by unfold Jn;rw[if_neg (by grind)])
    rw[hst]at hst0
    (have HR:Hid (IJ C nb fr (mm - 1) (k+1) (FV D (nb X))=IJ C nb fr (n+1) 0 [fr]):=hst0)
    clear hst0 hrun hst
    first
     | (have hxd:decide ((X:Int)=fr)=true:=by simp[hxf]
        have hxd2:((X:Int) != fr)=false:=by simp[hxf]
        have hxd3:decide ((X:Int)≠fr)=false:=by simp[hxf]
        have hxd4:((X:Int)==fr)=true:=by simp[hxf]
        clear hxf)
     | (rw[hrl]at hrc
        clear hrl)
    go_wp2_with fail
    go_quiet (fail)
    go_wp2_with fail
    go_region_held3 (fun w' =>w'.cell? ⟨w.heap.size,0,none⟩=some (.slice (some ⟨gN,oN,none⟩) n c0)/\w'.cell? ⟨w.heap.size,1,none⟩=some x1/\w'.cell? ⟨w.heap.size,2,none⟩=some x2/\w'.cell? ⟨w.heap.size,3,none⟩=some (.int .i64 v3)/\w'.cell? ⟨w.heap.size,4,none⟩=some (.int .i64 v4)/\w'.cell? ⟨w.heap.size,5,none⟩=some x5/\w'.cell? ⟨w.heap.size,6,none⟩=some x6/\w'.cell? ⟨g,o,none⟩=some (.int .i64 X))
     (first
      | (go_split_ands;refine⟨by go_keep,by go_keep,by go_keep,by go_keep,by go_keep,by go_keep,by go_keep,by go_keep⟩)
      | (go_split_ands
         refine⟨?_,?_,?_,?_,?_,?_,?_,?_⟩<;>(rw[hbv.cell (by simp only;omega)];assumption)))
     ((go_at_call 20;refine(hnb X hXn _ ((Below.drewN' hb _).drew)).mono ?_;rintro e wn ⟨_,rfl,⟨an,cn,rfl,hvc⟩,S⟩;have hbv:Below wr.heap.size wr wn:=⟨S.os,S.tape,S.output,S.size,S.block⟩))
    (have hsn:=hbv.size)
    (have hMl:w.heap.size+1<wr.heap.size:=by omega)
    (have hsetn:FB Tryz.prog 3 wn (w.heap.size+1) c (Vr D):=hset.same (hbv.block _ hMl))
    (have hblkn:wn.heap[g]? = some (.cells cur 3):=(hbv.block _ hgl).trans R)
    (have hqn:H7 wn (w.heap.size+2) (.slice (some ⟨g,o,none⟩) (q.length+1) cap) (D.drop k):=by rw[hdr];exact⟨g,o,cap,cur,rfl,hbg,hblkn,hle,hoc,hcm,HC.out⟩)
    (have hbn:Below w.heap.size w wn:=hb.trans (hbv.mono (by omega)))
    (have HTn:Hid (∀i v,([.slice (some ⟨gN,oN,none⟩) n c0,x1,x2,.int .i64 v3,.int .i64 v4,x5,x6]:List Value)[i]? = some v->wn.cell? ⟨w.heap.size,i,none⟩=some v):=
     fun i v hv=>(hbv.cell (p:=⟨w.heap.size,i,none⟩) (by simp only;omega)).trans (HT.out i v hv))
    (have hnlX:=hnl X)
    (have hvc2:nb X≠[]->∃g o,an=some ⟨g,o,none⟩/\g<wn.heap.size/\(g<w.heap.size\/wr.heap.size<=g)/\∀j (h:j<(nb X).length),wn.cell? ⟨g,o+j,none⟩=some (.int .i64 (nb X)[j]):=hvc)
    clear hvc;clear d0 d1 d2 d3 d4 d5 d6 hcx hrc HT hset hb R S
    go_wp2_with fail
    go_loopw [6,52] (fun v j wi=>∃(i c' : Nat),i<=(nb X).length/\j = .int .i64 i/\c' <= c+i/\H7 wi (w.heap.size+2) v ((FV D ((nb X).take i)).drop k)/\(∀g',v.ownBlock=some g' -> g' = g\/wn.heap.size<=g') /\
      FB Tryz.prog 3 wi (w.heap.size+1) c' (Vr (FV D ((nb X).take i)))/\(∀b,b<wn.heap.size->b≠w.heap.size+1->b≠g->wi.heap[b]? = wn.heap[b]?)/\wn.heap.size<=wi.heap.size/\Below w.heap.size w wi)
     (fun _ j _=>(nb X).length - (RowKit.intOf j).toNat)
    case atStart=>exact⟨0,c,Nat.zero_le _,rfl,Nat.le_refl _,by rw[List.take_zero,Z9E];exact hqn,(fun g' h=>.inl (by cases h;rfl)),by rw[List.take_zero,Z9E];exact hsetn,(fun _ _ _ _=>rfl),Nat.le_refl _,hbn⟩
    case round=>
     obtain⟨i,c',hi',rfl,hc',M,hvo,I,hold,hsi,hbi⟩:=hrel;obtain⟨wi,hwi⟩:∃wi,wi=wr:=⟨_,rfl⟩;subst hwi;have hpre:D <+: FV D ((nb X).take i):=Z0d _ _
     by_cases hlt:i<(nb X).length
     ·obtain⟨gv,ov,rfl,hgv1,hgv2,hgv3⟩:=hvc2 (fun h=>by rw[h]at hlt;cases hlt);obtain⟨y,hy⟩:∃y,(nb X)[i]=y:=⟨_,rfl⟩;have hyb:0<=y/\y<n:=hnr X hXn y (hy▸List.getElem_mem hlt);have hcy:wi.cell? ⟨gv,ov+i,none⟩=some (.int .i64 y):=by
       rw[World.cell?_of_block (w:=wn) (a:=⟨gv,ov+i,none⟩) (hold gv hgv1 (by omega) (by omega)),hgv3 i hlt,hy]
      have f1:(i:Int)<(nb X).length:=by omega
      have f2:(0:Int)<=i:=by omega
      obtain⟨b,hlk,hbi2⟩:=I.lookup K3 Yd (z4 _) (keyOf_int_mk u3 (TP hyb.1 (by omega)));have G:=Zpe D (nb X) i hlt;rw[hy]at G;clear hnb hgv3;cases b with
      | true=>
       have hyD:y∈FV D ((nb X).take i):=by
        obtain⟨z,hz,he⟩:=hbi2.1 rfl;rw[ZO he];exact hz
       rw[if_pos hyD]at G;have HS:=Lib.hid G;clear G
       go_wp2
       go_roundw
       (case rel=>exact⟨i+1,c',by omega,by go_num,by omega,by rw[HS.out];exact M,hvo,by rw[HS.out];exact I,hold,hsi,hbi⟩)
       (case measure=>simp[RowKit.intOf];omega)
      | false=>
       have hyD:y∉FV D ((nb X).take i):=fun h=>by
        have:=hbi2.2 ⟨y,h,rfl⟩;cases this
       rw[if_neg hyD]at G;have HS:=Lib.hid G;clear G;obtain⟨w2,hup,Q,hg2⟩:=I.store K3 Yd (by unfold maxLen;omega) (keyOf_int_mk u3 (TP hyb.1 (by omega)));have hs2:=hg2.size;have hq2:H7 w2 (w.heap.size+2) u6 ((FV D ((nb X).take i)).drop k):=M.kept hg2 (fun h=>by have:=(M.lt h).1;omega);have hq3:H7 (w2.alloc (.cells #[.int .i64 y] 3)) (w.heap.size+2) u6 ((FV D ((nb X).take i)).drop k):=hq2.kept (World.grownBy_alloc w2 _ none) (fun h=>by obtain⟨_,_,_,_,rfl,_⟩:=hq2;cases h);have hlenD:(FV D ((nb X).take i)).length<=n:=Z9x hn (iC _ _ hnd) (fun z hz=>by
        rcases (Xu _ _ _).1 hz with h|h
        ·exact hD z h
        ·exact hnr X hXn z (List.mem_of_mem_take h))
       obtain⟨v',w4,hap,hq4,hg4,hvo4⟩:=hq3.append (by rw[World.size_alloc];omega) y ⟨w2.heap.size,0,none⟩ (cell_one_new _ _ _) 45 (by rw[List.length_drop];omega);have hpl:=hpre.length_le;have hdq:(FV D ((nb X).take i)).drop k++[y]=(FV D ((nb X).take (i+1))).drop k:=by rw[HS.out,List.drop_append_of_le_length (by omega)]
       rw[hdq]at hq4;have hne:∀g',u6.ownBlock=some g' -> g' ≠w.heap.size+1:=fun g' h=>by have:=(M.lt h).1;omega
       have hs4:=hg4.size;rw[World.size_alloc]at hs4;have hset4:FB Tryz.prog 3 w4 (w.heap.size+1) (c' + 1) (Vr (FV D ((nb X).take (i+1)))):=((Q.alloc _).same (hg4.block _ (by simp;omega) (fun h=>hne _ h.symm rfl))).congr (fun v=>by
        rw[HS.out];constructor
        ·rintro ⟨z,hz,rfl⟩
         rcases List.mem_append.1 hz with h|h
         ·exact .inr ⟨z,h,rfl⟩
         ·rw[List.mem_singleton.1 h];exact .inl rfl
        ·rintro (rfl|⟨z,hz,rfl⟩)
         ·exact⟨y,by simp,rfl⟩
         ·exact⟨z,by simp[hz],rfl⟩)
       have hold4:∀b,b<wn.heap.size->b≠w.heap.size+1->b≠g->w4.heap[b]? = wn.heap[b]?:=fun b h1 h2 h3=>by
        rw[hg4.block b (by simp;omega) (fun h=>by
         rcases hvo b h.symm with h5|h5
         ·exact h3 h5
         ·omega),heap_alloc_old _ _ (by omega),hg2.block b (by omega) (by simp;omega)]
        exact hold b h1 h2 h3
       have hb4:Below w.heap.size w w4:=((hbi.grown hg2 (by omega) (fun j h=>by cases h;omega)).alloc (by omega) _).grown hg4 (by simp;omega) (fun j h=>by have:=(M.lt h).1;omega);have hvo' : ∀g',v'.ownBlock=some g' -> g' = g\/wn.heap.size<=g' :=fun g' h=>by
        rcases hvo4 g' h with h5|h5
        ·exact hvo g' h5
        ·rw[World.size_alloc]at h5;exact .inr (by omega)
       have HAP:=Lib.hid hap;clear hq2 hq3 Q M I hap
       go_wp2_with (at_builtin;refine Z4O _ (by rfl) _ _ (by rfl) _ _ v' w4 (by rfl) (by rfl) HAP.out ?_)
       go_roundw
       (case rel=>exact⟨i+1,c' + 1,by omega,by go_num,by omega,hq4,hvo',hset4,hold4,by omega,hb4⟩)
       (case measure=>simp[RowKit.intOf];omega)
     ·obtain rfl:i=(nb X).length:=by omega
      have f1:¬(((nb X).length:Int)<(nb X).length):=by omega
      rw[List.take_length]at M I hpre;obtain⟨D2,hD2⟩:∃D2,FV D (nb X)=D2:=⟨_,rfl⟩;have hnd2:D2.Nodup:=hD2▸iC _ _ hnd;have hDb2:∀x∈D2,0<=x/\x<n:=fun z hz=>by
       rw[<- hD2]at hz;rcases (Xu _ _ _).1 hz with h|h
       ·exact hD z h
       ·exact hnr X hXn z h
      rw[hD2]at M I hpre HR;have hk2:k<D2.length:=Nat.lt_of_lt_of_le hk hpre.length_le;have hdr2:D2.drop k=(X:Int)::D2.drop (k+1):=by
       rw[List.drop_eq_getElem_cons hk2,<- hxk,List.IsPrefix.getElem hpre hk]
      rw[hdr2]at M;obtain⟨q2,hq2d⟩:∃q2,D2.drop (k+1)=q2:=⟨_,rfl⟩;rw[hq2d]at M;obtain⟨g2,o2,cap2,cur2,rfl,hbg2,hblk2,hle2,hoc2,hcm2,hcur2⟩:=M;simp only[List.length_cons]at hle2 ⊢;have HC2:Hid (∀j (h:j<((X:Int)::q2).length),cur2[o2+j]? = some (.int .i64 ((X:Int)::q2)[j])):=hcur2;have J:RI w n C nb fr [.slice (some ⟨gN,oN,none⟩) n c0,x1,x2,.int .i64 v3,.int .i64 v4,x5,x6] (mm - 1) (.slice (if cap2=1 then some ⟨g2,o2,none⟩ else some ⟨g2,o2+1,none⟩) q2.length (cap2 - 1)) wi:=
       ⟨k+1,D2,c',by omega,by omega,hnd2,hDb2,by omega,HR.out,by rw[hq2d];exact H7.pop hbg2 hblk2 hle2 hoc2 hcm2 HC2.out,I,hbi,by omega,fun i v hv=>by
        rw[World.cell?_of_block (w:=wn) (a:=⟨w.heap.size,i,none⟩) (hold w.heap.size (by omega) (by omega) (by omega))];exact HTn.out i v hv⟩
      clear hcur2 I hD hnr hnb hvc2
      go_wp2
      refine⟨⟨_,J⟩,?_⟩;rw[HM0.out];exact Nat.lt_of_le_of_lt ((leastOf_spec ⟨_,J⟩).2 _ J) (by omega)
  ·obtain rfl:k=D.length:=by omega
   have hdn:D.drop D.length=[]:=List.drop_length ..;rw[hdn]at HM0 hle ⊢;simp only[List.length_nil];have hrun2:IJ C nb fr (n+1) 0 [fr]=D:=by
    rw[<- hrun,show mm=(mm - 1)+1 by omega];show (match D[D.length]? with|none=>D|some x=>_)=D;rw[List.getElem?_eq_none (Nat.le_refl _)]
   have HR:Hid (IJ C nb fr (n+1) 0 [fr]=D):=hrun2;obtain⟨w5,hdel,hset5,hg5⟩:=hset.del K3 Yd (keyOf_int_mk u3 (TP hf0 (by omega))) 0;have hs5:=hg5.size;have hb5:Below w.heap.size w w5:=hb.grown hg5 (by omega) (fun j h=>by cases h;omega);have d50:w5.cell? ⟨w.heap.size,0,none⟩=some (.slice (some ⟨gN,oN,none⟩) n c0):=(hg5.cell_far _ (by simp only;omega) (by simp)).trans d0;clear hrun hrun2 hset Y R d0 d1 d2 d3 d4 d5 d6 HT hnb hnr hN
   go_wp2
   go_loopw [9,72] (fun v i wi=>∃j:Nat,j<=n/\i = .int .i64 j/\wi.ownsRow w5.heap.size 3 1 v (HY D fr j).length ((HY D fr j).map fun x=>Value.int .i64 x)/\Below w5.heap.size w5 wi) (fun _ i _=>n - (RowKit.intOf i).toNat)
   case atStart=>exact⟨0,Nat.zero_le _,rfl,World.ownsRow_nil _ _ _ _,Below.refl _ _⟩
   case round=>
    obtain⟨j,hj,rfl,hrow,hbi⟩:=hrel;obtain⟨wi,hwi⟩:∃wi,wi=wr:=⟨_,rfl⟩;subst hwi;have I:=hset5.same (hbi.block _ (by omega))
    by_cases hlt:j<n
    ·have f1:(j:Int)<n:=by omega
     have f2:(0:Int)<=j:=by omega
     obtain⟨b,hlk,hbb⟩:=I.lookup K3 Yd (z4 _) (keyOf_int_mk u3 (TP f2 (by omega)));have G:=ZnG D fr j;have hol:=Zp5 D fr j;have hbeq:b=decide ((j:Int)∈D/\(j:Int)≠fr):=by
      rw[Bool.eq_iff_iff,hbb,decide_eq_true_eq];constructor
      ·rintro ⟨h1,z,hz,he⟩
       rw[ZO he];exact⟨hz,fun h=>h1 (by rw[he,h])⟩
      ·rintro ⟨h1,h2⟩
       exact⟨fun h=>h2 (ZO h),j,h1,rfl⟩
     clear hbb;cases b with
     | false=>
      rw[if_neg (of_decide_eq_false hbeq.symm)]at G;have HS:=Lib.hid G;clear G hbeq
      go_wp2
      go_roundw
      case rel=>exact⟨j+1,by omega,by go_num,by rw[HS.out];exact hrow,hbi⟩
      case measure=>simp[RowKit.intOf];omega
     | true=>
      rw[if_pos (of_decide_eq_true hbeq.symm)]at G;have HS:=Lib.hid G;clear G hbeq;have hsi:=hbi.size;obtain⟨v',w6,hap,hown',hgrow,hnil⟩:=run_append_own (P:=Tryz.prog) (wi.alloc (.cells #[.int .i64 j] 3)) w5.heap.size 45 45 3 i0 (.int .i64 0) 1 8 Z0W hi hz0 hz1 hz2 rfl (by decide) u9 _ _ (hrow.alloc _) ⟨wi.heap.size,0,none⟩ 1 1 [.int .i64 j] rfl (cell_one_new _ _ _) (fun u hu=>by rw[List.mem_singleton.1 hu];rfl) (by unfold maxLen;omega) (by omega) (by rw[World.size_alloc];omega);have HAP:=Lib.hid hap;clear hap
      go_wp2_with (at_builtin;refine Z4O _ (by rfl) _ _ (by rfl) _ _ v' w6 (by rfl) (by rfl) HAP.out ?_)
      go_roundw
      case rel=>exact⟨j+1,by omega,by go_num,by rw[HS.out];simpa using hown',(hbi.alloc (by omega) _).grown hgrow (by simp;omega) (fun q h=>(hrow.lt q h).1)⟩
      case measure=>simp[RowKit.intOf];omega
    ·obtain rfl:j=n:=by omega
     have f1:¬((j:Int)<j):=by omega
     go_wp2
     go_ret
     refine⟨u9,rfl,?_,hb5.trans (hbi.mono (by omega))⟩;rw[HR.out];exact⟨hrow.1,hrow.2.imp id fun⟨g,cap,cur,a,b,c⟩=>⟨g,cap,cur,a,by omega,c⟩⟩
end Go.Proofs.YteinepnbndegdaaGreat
