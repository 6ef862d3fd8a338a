/- A part of it. -/
import Derived.Test.YteinepnbndegdaaGreatBAs
import Derived.Maps.AppendAt
import Derived.Tactics2
import Derived.WalkSpells
import Derived.StillTactics
import Derived.Laws.Pointers
import Derived.Deep.RegionHeld3
import Derived.Deep.AppendLies
set_option linter.unusedVariables false
set_option linter.unusedSimpArgs false
namespace Go.Proofs.YteinepnbndegdaaGreat
open Go Go.RowKit Go.Maps Go.MapKept Go.ChangeMaps Go.Proofs.YteinepnbndegdaaGreat.Le
set_option maxRecDepth 100000
def TE (R:Code):Code->Code
 | .seq a (.seq b (.seq c (.seq d (.seq e _))))=>.seq a (.seq b (.seq c (.seq d (.seq e R))))
 | c=>c
def getR:Code->Code
 | .seq _ (.seq _ (.seq _ (.seq _ (.seq _ r))))=>r
 | c=>c
def hcells (now:Int) (N:List HV):List Value:=N.flatMap (·.cells now)
theorem zU (now:Int):∀N:List HV,(hcells now N).length=N.length*4
 | []=>rfl
 | x::N=>by
  show ((x.cells now)++hcells now N).length=_;rw[List.length_append,zU now N,List.length_cons];show 4+_=_;omega
theorem Zkk (now:Int) (N:List HV) (k:Nat) (h:k<N.length):hcells now (N.take (k+1))=hcells now (N.take k)++N[k].cells now:=by
 unfold hcells;rw[List.take_add_one,List.getElem?_eq_getElem h,List.flatMap_append];simp
theorem Zql:(Tryz.prog.info? 106).map (fun i=>(i.zero,i.size,i.bytes))=some (some O0,4,48):=by kernel_rfl
theorem ZhW (w:World) (a b c d:Value) (t:TypeId):∀j u,[a,b,c,d][j]? = some u->(w.alloc (.cells #[a,b,c,d] t)).cell? ((⟨w.heap.size,0,none⟩:Addr).add j)=some u:=by
 intro j u z;rw[Addr.add_mid]
 match j,z with
 | 0,z=>simpa using z
 | 1,z=>simpa using z
 | 2,z=>simpa using z
 | 3,z=>simpa using z
 | j+4,z=>simp at z
theorem ZpR (w:World) (a:Option Addr) (cap:Nat) (f:Value):Calls Tryz.prog 71 #[.slice a 0 cap,f] w fun e w' =>e = .returned (.slice a 0 cap)/\w' = w:=by
 have z:=ZqV w a cap f
 go_enter Tryz.func71,Tryz.ntmps71
 go_wp2_with (go_at_call 98;refine z.mono ?_;rintro e w' ⟨rfl,rfl⟩)
 go_ret
 exact⟨rfl,rfl⟩
theorem SH.same {w w' : World} {g cap:Nat} {now:Int} {N:List HV} {cur:Array Value} {tg:Nat×Nat} (h:SH w g cap now N cur tg) (hb:w'.heap[g]? = w.heap[g]?):SH w' g cap now N cur tg:=
 ⟨hb.trans h.blk,h.mark,h.le,h.max,h.size,fun j z i v C=>(World.cell?_of_block (w:=w) (a:=⟨g,_,none⟩) hb).trans (h.cells j z i v C),h.one⟩
theorem Z9v {ops:Array Oper} {o:Oper} {a:Act} {w:World} {K:Act->World->Prop} {Q:Exit->Act->World->Prop} {E:Prop} (C:o.guard=none) (m x:Operand)
  (I:o.op = .call { callee:=.builtin .delete,args:=#[m,x],argTypes:=#[161,3] }) (M:Nat) (now:Int) (e:Option Value) (hm:a.eval m = .map (some M)) (R:a.eval x = .int .i64 now) (D:ES w M now e) (G:(Lit.int .i64 now).wf=true)
  (h:∀w',ES w' M now none->w.grownBy w' (some M)->K (a.put o.dst (.tuple #[])) w') :
  if Region.wanted o (yielded ops a.tmps)=true then Oper.wp Tryz.prog o a w K Q else E:=by
 have J:Region.wanted o (yielded ops a.tmps)=true:=by simp[Region.wanted,C]
 rw[if_pos J];obtain⟨w',z,S,Y⟩:=D.del G o.type;unfold Oper.wp;simp[execOp,I,resolve,invoke,builtin,hm,R,z,Result.andThen];exact h _ S Y
set_option maxHeartbeats 4000000 in
theorem Ztm (w:World) (g0 g cap:Nat) (now:Int) (N:List HV) (cur:Array Value) (tg:Nat×Nat) (hN:0<N.length) (hN2:N.length<=100000) (hr:SH w g cap now N cur tg) (hk:(Lit.int .i64 now).wf=true)
  (hc4:w.cell? ⟨g0,4,none⟩=some (.int .i64 now)) (hc5:w.cell? ⟨g0,5,none⟩=some (.slice (some ⟨g,0,none⟩) N.length cap)) (hf5:w.frozen? ⟨g0,5,none⟩=false) (hne:g0≠g) (R:Code) (Q:Exit->Act->World->Prop)
  (hQ:∀(w1:World) (D : Array Value) (a9:Act) (gR I:Nat),Below w.heap.size w w1->D.size=cur.size->a9.defers=[]->a9.tmps.size=89->a9.tmps[0]? = some (.pointer (some ⟨g0,0,none⟩))->a9.tmps[5]? = some (.slice (some ⟨gR,0,none⟩) N.length I) ->
   w.heap.size<=gR->N.length<=I->I<=maxLen->(∀j u,(hcells now N)[j]? = some u->w1.cell? ⟨gR,j,none⟩=some u)->R.wp Tryz.prog Q a9 ((w1.setRow g D).setCell ⟨g0,5,none⟩ (.slice (some ⟨g,0,none⟩) 0 cap)))
  (c:Code) (hc:Tryz.f43.body=some c):(TE R c).wp Tryz.prog Q { tmps:=#[.pointer (some ⟨g0,0,none⟩)]++Array.replicate (Tryz.f43.ntmps - 1) undef,defers:=[] } w:=by
 have hmm:=@run_makeMap Tryz.prog;obtain⟨i0,hi,hz0,hz1,hz2⟩:=info_parts Zql;have e:some _=some c:=hc;obtain rfl:=Option.some.inj e;clear hc e;dsimp only[TE];simp only[Tryz.ntmps43,List.size_toArray,List.length_cons,List.length_nil,Nat.reduceAdd,Nat.reduceSub,Array.replicate_succ,Array.replicate_zero,List.push_toArray,List.append_toArray,List.nil_append,List.cons_append];have S:=World.block_lt_of_cell? w _ hc5;have hgl:g<w.heap.size:=(Array.getElem?_eq_some_iff.1 hr.blk).1;simp only at S;obtain⟨W1,hW1⟩:∃W1,(w.alloc (.map #[] 0)).alloc (.cells #[.map (some w.heap.size)] 161)=W1:=⟨_,rfl⟩;have hs1:W1.heap.size=w.heap.size+2:=by rw[<- hW1];simp
 have hB1:Below w.heap.size w W1:=by rw[<- hW1];exact((Below.refl _ _).alloc (Nat.le_refl _) _).alloc (by simp) _
 have hM1:ES W1 w.heap.size now none:=⟨0,0,by rw[<- hW1,heap_alloc_old _ _ (by simp)];exact(MapKept.heap_alloc w _).1⟩;have hT1:W1.cell? ⟨w.heap.size+1,0,none⟩=some (.map (some w.heap.size)):=by
  have:=cell_one_new (w.alloc (.map #[] 0)) (.map (some w.heap.size)) 161 0 _ rfl;rw[World.size_alloc,Addr.add_mid]at this;rw[<- hW1];exact this
 have hd5:W1.cell? ⟨g0,5,none⟩=some (.slice (some ⟨g,0,none⟩) N.length cap):=(hB1.cell (p:=⟨g0,5,none⟩) S).trans hc5
 go_wp2
 go_loopw [16] (fun i wr=>∃k:Nat,k<=N.length/\i = .int .i64 (k:Int)/\Below w.heap.size w wr/\wr.cell? ⟨w.heap.size+1,0,none⟩=some (.map (some w.heap.size))/\w.heap.size+2<=wr.heap.size /\
   ∃e v,ES wr w.heap.size now e/\e.getD (.slice none 0 0)=v/\wr.ownsRow (w.heap.size+2) 106 4 v k (hcells now (N.take k))) (fun i _=>N.length - (RowKit.intOf i).toNat)
 case atStart=>exact⟨0,by omega,rfl,⟨hB1,hT1,by omega,none,_,hM1,rfl,World.ownsRow_nil _ _ _ _⟩⟩
 case round=>
  obtain⟨k,hkn,rfl,hBr,hTr,hsr,e,v,hMr,hev,G⟩:=hrel;obtain⟨C,hwi⟩:∃C,C=wr:=⟨_,rfl⟩;subst hwi;have hMl:=hMr.lt
  by_cases hlt:k<N.length
  ·have e1:(k:Int)<N.length:=by omega
   have e2:(0:Int)<=k:=by omega
   have hsuc:=Zkk now N k hlt;obtain⟨x,hx⟩:∃x,N[k]=x:=⟨_,rfl⟩;rw[hx]at hsuc;have ho:x.FW.oneCell' = true:=by rw[<- hx];exact hr.one _ (List.getElem_mem hlt)
   have hc:∀i v,(x.cells now)[i]? = some v->C.cell? ⟨g,k*4+i,none⟩=some v:=fun i v hv=>(hBr.cell (p:=⟨g,_,none⟩) hgl).trans (hr.cells k hlt i v (by rw[hx];exact hv));have c0:C.cell? ⟨g,k*4,none⟩=some (.int .i64 x.fr):=hc 0 _ rfl;have c1:C.cell? ⟨g,k*4+1,none⟩=some (.int .i64 x.to):=hc 1 _ rfl;have c2:C.cell? ⟨g,k*4+2,none⟩=some (.int .i64 now):=hc 2 _ rfl;have c3:C.cell? ⟨g,k*4+3,none⟩=some x.FW:=hc 3 _ rfl;clear hc;have s1:=fun(w:World) (a:Addr) (m:Mode)=>run_store Tryz.prog w a x.FW m ho;have hone:∀u∈([.int .i64 x.fr,.int .i64 x.to,.int .i64 now,x.FW]:List Value),u.oneCell' = true:=by
    intro u hu;simp at hu;rcases hu with rfl|rfl|rfl|rfl
    ·rfl
    ·rfl
    ·rfl
    ·exact ho
   have hT2:(C.alloc (.cells #[.int .i64 x.fr,.int .i64 x.to,.int .i64 now,x.FW] 106)).cell? ⟨w.heap.size+1,0,none⟩=some (.map (some w.heap.size)):=
    (((Below.refl C.heap.size C).alloc (Nat.le_refl _) _).cell (p:=⟨w.heap.size+1,0,none⟩) (by simp only;omega)).trans hTr
   have Y:ES (C.alloc (.cells #[.int .i64 x.fr,.int .i64 x.to,.int .i64 now,x.FW] 106)) w.heap.size now e:=hMr.same (heap_alloc_old _ _ hMl);have hlk:=Y.look hk;rw[hev]at hlk;have hnew:∀j u,([.int .i64 x.fr,.int .i64 x.to,.int .i64 now,x.FW]:List Value)[j]? = some u->((C.alloc (.cells #[.int .i64 x.fr,.int .i64 x.to,.int .i64 now,x.FW] 106)).alloc (.cells #[.int .i64 x.fr,.int .i64 x.to,.int .i64 now,x.FW] 106)).cell? ((⟨C.heap.size+1,0,none⟩:Addr).add j)=some u:=by
    have:=ZhW (C.alloc (.cells #[.int .i64 x.fr,.int .i64 x.to,.int .i64 now,x.FW] 106)) (.int .i64 x.fr) (.int .i64 x.to) (.int .i64 now) x.FW 106;rw[World.size_alloc]at this;exact this
   have hMo:ES ((C.alloc (.cells #[.int .i64 x.fr,.int .i64 x.to,.int .i64 now,x.FW] 106)).alloc (.cells #[.int .i64 x.fr,.int .i64 x.to,.int .i64 now,x.FW] 106)) w.heap.size now e:=Y.same (heap_alloc_old _ _ (by rw[World.size_alloc];omega));have hA:v.ownBlock≠some (w.heap.size+1):=fun h=>by have:=(G.lt _ h).1;omega
   have hC:v.ownBlock≠some w.heap.size:=fun h=>by have:=(G.lt _ h).1;omega
   have hB:v.ownBlock≠some C.heap.size:=fun h=>by have:=(G.lt _ h).2;omega
   have J:∀x e',ES x w.heap.size now e' -> (Instr.lookup 161 (.map (some w.heap.size)) (.int .i64 now) false).run Tryz.prog x = .ok (V9 x w.heap.size) x:=fun x e' hx=>hx.Jq hk;have hVl:∀x,ES x w.heap.size now e->V9 x w.heap.size=v:=fun x hx=>by rw[hx.val,hev]
   clear hlk hc4 hc5 hd5 hT1 hM1
   go_wp2_with fail
   go_region_held3 (fun w' =>w'.cell? ⟨w.heap.size+1,0,none⟩=some (.map (some w.heap.size))/\w'.cell? ⟨C.heap.size,0,none⟩=some (.int .i64 x.fr)/\w'.cell? ⟨C.heap.size,1,none⟩=some (.int .i64 x.to)/\w'.cell? ⟨C.heap.size,2,none⟩=some (.int .i64 now)/\w'.cell? ⟨C.heap.size,3,none⟩=some x.FW /\
     (Instr.lookup 161 (.map (some w.heap.size)) (.int .i64 now) false).run Tryz.prog w' = .ok (V9 w' w.heap.size) w')
    (first
     | (go_split_ands
        refine⟨by go_keep,by go_keep,by go_keep,by go_keep,by go_keep,?_⟩
        first|assumption|exact J _ _ Y|exact J _ _ (Y.same rfl)|exact J _ _ (hMo.same rfl)|exact J _ _ hMo)
     | (go_split_ands
        refine⟨?_,?_,?_,?_,?_,J _ _ hM3⟩
        ·(rw[z.cell_far _ (by simp;omega) (Ne.symm hA)];assumption)
        ·(rw[z.cell_far _ (by simp;omega) (Ne.symm hB)];assumption)
        ·(rw[z.cell_far _ (by simp;omega) (Ne.symm hB)];assumption)
        ·(rw[z.cell_far _ (by simp;omega) (Ne.symm hB)];assumption)
        ·(rw[z.cell_far _ (by simp;omega) (Ne.symm hB)];assumption))
     | (go_split_ands
        refine⟨?_,?_,?_,?_,?_,J _ _ hM4⟩
        ·(rw[M.cell_far _ (by simp only;omega) (by simp)];assumption)
        ·(rw[M.cell_far _ (by simp only;omega) (by simp;omega)];assumption)
        ·(rw[M.cell_far _ (by simp only;omega) (by simp;omega)];assumption)
        ·(rw[M.cell_far _ (by simp only;omega) (by simp;omega)];assumption)
        ·(rw[M.cell_far _ (by simp only;omega) (by simp;omega)];assumption)))
    ((refine step_append_lies _ (by rfl) _ _ _ (by rfl) (w.heap.size+2) 106 i0 O0 4 48 Zau hi hz0 hz1 hz2 rfl (by decide) v k _ (by first|rfl|exact hVl _ Y|exact hVl _ (Y.same rfl)|exact hVl _ (hMo.same rfl)|exact hVl _ hMo) (((G.alloc _).alloc _).drew) ⟨C.heap.size+1,0,none⟩ 1 1 [.int .i64 x.fr,.int .i64 x.to,.int .i64 now,x.FW] (by rfl) (by rfl) hnew hone (by decide) (by unfold maxLen;omega) (by omega) (by simp;omega) (C.heap.size+2) (by simp) ?_;intro gg cap' w3 hown' z hat hlt';have hM3:ES w3 w.heap.size now e:=hMo.same (z.block _ (by simp;omega) (fun h=>hC h.symm));have hsz3:=z.size;simp only[World.size_drew,World.size_alloc]at hsz3;obtain⟨w4,hup,hM4,M⟩:=hM3.store hk (.slice (some ⟨gg,0,none⟩) (k+1) cap')))
   all_goals
    have hb4:Below w.heap.size w w4:=((((hBr.alloc (by omega) _).alloc (by rw[World.size_alloc];omega) _).drew).grown z (by simp;omega) (fun j h=>by have:=(G.lt _ h).1;omega)).grown M (by omega) (fun j h=>by cases h;exact Nat.le_refl _);have ht4:w4.cell? ⟨w.heap.size+1,0,none⟩=some (.map (some w.heap.size)):=by
     rw[M.cell_far _ (by simp only;omega) (by simp),z.cell_far _ (by simp;omega) (Ne.symm hA)];exact((((Below.refl C.heap.size C).alloc (Nat.le_refl _) _).alloc (by rw[World.size_alloc];omega) _).drew.cell (p:=⟨w.heap.size+1,0,none⟩) (by simp only;omega)).trans hTr
    have hr4:w4.ownsRow (w.heap.size+2) 106 4 (.slice (some ⟨gg,0,none⟩) (k+1) cap') (k+1) (hcells now (N.take (k+1))):=by
     rw[hsuc];exact hown'.kept M (.inr (by
      intro h;have h2:=(hown'.lt _ h).1;omega))
    have hs4:=M.size
    go_wp2
    go_roundw
    (case rel=>exact⟨k+1,by omega,by go_num,hb4,ht4,by omega,some _,_,hM4,rfl,hr4⟩)
    (case measure=>simp[RowKit.intOf];omega)
  ·obtain rfl:k=N.length:=by omega
   have e1:¬((N.length:Int)<N.length):=by omega
   rw[List.take_length]at G;have hrow0:=G;rcases G.2 with ⟨_,h0⟩|⟨gR,I,curR,rfl,hbg,hblk,hleR,hcmR,hszR,htake⟩
   ·omega
   have hd4:C.cell? ⟨g0,4,none⟩=some (.int .i64 now):=(hBr.cell (p:=⟨g0,4,none⟩) S).trans hc4;have J:∀x,ES x w.heap.size now e->(Instr.lookup 161 (.map (some w.heap.size)) (.int .i64 now) false).run Tryz.prog x = .ok (.slice (some ⟨gR,0,none⟩) N.length I) x:=fun x hx=>by rw[hx.look hk,hev]
   have HF5:Hid (w.frozen? ⟨g0,5,none⟩=false):=hf5;clear hf5;have HC5:Hid (w.cell? ⟨g0,5,none⟩=some (.slice (some ⟨g,0,none⟩) N.length cap)):=hc5;clear hc4 hc5 hd5 hT1 hM1
   go_wp2_with fail
   go_region_held3 (fun w' =>w'.cell? ⟨w.heap.size+1,0,none⟩=some (.map (some w.heap.size))/\w'.cell? ⟨g0,4,none⟩=some (.int .i64 now)/\(Instr.lookup 161 (.map (some w.heap.size)) (.int .i64 now) false).run Tryz.prog w' = .ok (.slice (some ⟨gR,0,none⟩) N.length I) w')
    ((go_split_ands;refine⟨by go_keep,by go_keep,?_⟩;first|assumption|exact J _ hMr|exact J _ (hMr.same rfl)))
    (fail)
   go_wp2_with fail
   have hd4' : C.drew.cell? ⟨g0,4,none⟩=some (.int .i64 now):=hd4;have hTr' : C.drew.cell? ⟨w.heap.size+1,0,none⟩=some (.map (some w.heap.size)):=hTr;have hMr' : ES C.drew w.heap.size now e:=hMr.same rfl
   go_region_held3 (fun w' =>w'.cell? ⟨w.heap.size+1,0,none⟩=some (.map (some w.heap.size))/\w'.cell? ⟨g0,4,none⟩=some (.int .i64 now))
    (first
     | (go_split_ands;refine⟨by go_keep,by go_keep⟩)
     | (go_split_ands
        refine⟨?_,?_⟩
        ·(rw[hg5.cell_far _ (by simp;omega) (by simp)];exact hTr)
        ·(rw[hg5.cell_far _ (by simp;omega) (by simp;omega)];exact hd4)))
    ((refine Z9v (by rfl) _ _ (by rfl) w.heap.size now e (by rfl) (by rfl) hMr' hk ?_;intro w5 hM5 hg5))
   have hb5:Below w.heap.size w w5:=hBr.drew.drew.grown hg5 (by simp;omega) (fun j h=>by cases h;exact Nat.le_refl _);have hs5:=hg5.size;simp only[World.size_drew]at hs5;have hT5:w5.cell? ⟨w.heap.size+1,0,none⟩=some (.map (some w.heap.size)):=(hg5.cell_far _ (by simp;omega) (by simp)).trans hTr;have hr5:SH w5 g cap now N cur tg:=hr.same (hb5.block g hgl);have hdel:=Zng w5 g cap (w.heap.size+1) w.heap.size now N cur tg hN (by omega) hr5 hk hT5 hM5;have hd55:w5.cell? ⟨g0,5,none⟩=some (.slice (some ⟨g,0,none⟩) N.length cap):=(hb5.cell (p:=⟨g0,5,none⟩) S).trans HC5.out;clear hr hr5 hd4 hd4'
   go_wp2_with fail
   refine hdel.mono ?_
   rintro e w' ⟨rfl,w1,D,hb1,rfl,hcs⟩
   have hst:(w1.setRow g D).cell? ⟨g0,5,none⟩=some (.slice (some ⟨g,0,none⟩) N.length cap):=((World.cell?_of_block (w:=w1) (a:=⟨g0,5,none⟩) (setRow_other w1 g g0 D hne)).trans (hb1.cell (p:=⟨g0,5,none⟩) (by simp only;omega))).trans hd55;have hfs:(w1.setRow g D).frozen? ⟨g0,5,none⟩=false:=by
    rw[World.frozen?_of_block (w:=w) (a:=⟨g0,5,none⟩) (((setRow_other w1 g g0 D hne).trans (hb1.block g0 (by omega))).trans (hb5.block g0 S))];exact HF5.out
   go_wp2
   have hgR:gR<C.heap.size:=(hrow0.lt gR rfl).2;have hbR:w1.heap[gR]? = some (.cells curR 106):=by
    rw[hb1.block gR (by omega),hg5.block gR (by simp;omega) (by simp;omega)];exact hblk
   refine hQ w1 D _ gR I (hb5.trans (hb1.mono (by omega))) hcs ?_ ?_ ?_ ?_ (by omega) hleR hcmR ?_
   ·rfl
   ·rfl
   ·rfl
   ·rfl
   intro j u hu;rw[<- htake,List.getElem?_take]at hu;split at hu
   ·simp only[World.cell?,hbR];simpa using hu
   ·cases hu
set_option maxHeartbeats 4000000 in
theorem ZpH (w:World) (g0 cap:Nat) (fa:Option Addr) (now:Int) (hk:(Lit.int .i64 now).wf=true)
  (hc4:w.cell? ⟨g0,4,none⟩=some (.int .i64 now)) (J:w.cell? ⟨g0,5,none⟩=some (.slice fa 0 cap)) (hf5:w.frozen? ⟨g0,5,none⟩=false) (R:Code) (Q:Exit->Act->World->Prop)
  (hQ:∀(w1:World) (S:Act),Below w.heap.size w w1->S.defers=[]->S.tmps.size=89->S.tmps[0]? = some (.pointer (some ⟨g0,0,none⟩))->S.tmps[5]? = some (.slice none 0 0)->R.wp Tryz.prog Q S (w1.setCell ⟨g0,5,none⟩ (.slice fa 0 cap)))
  (c:Code) (hc:Tryz.f43.body=some c):(TE R c).wp Tryz.prog Q { tmps:=#[.pointer (some ⟨g0,0,none⟩)]++Array.replicate (Tryz.f43.ntmps - 1) undef,defers:=[] } w:=by
 have hmm:=@run_makeMap Tryz.prog;have e:some _=some c:=hc;obtain rfl:=Option.some.inj e;clear hc e;dsimp only[TE];simp only[Tryz.ntmps43,List.size_toArray,List.length_cons,List.length_nil,Nat.reduceAdd,Nat.reduceSub,Array.replicate_succ,Array.replicate_zero,List.push_toArray,List.append_toArray,List.nil_append,List.cons_append];have z:=World.block_lt_of_cell? w _ J;simp only at z;obtain⟨W1,C⟩:∃W1,(w.alloc (.map #[] 0)).alloc (.cells #[.map (some w.heap.size)] 161)=W1:=⟨_,rfl⟩;have hs1:W1.heap.size=w.heap.size+2:=by rw[<- C];simp
 have G:Below w.heap.size w W1:=by rw[<- C];exact((Below.refl _ _).alloc (Nat.le_refl _) _).alloc (by simp) _
 have I:ES W1 w.heap.size now none:=⟨0,0,by rw[<- C,heap_alloc_old _ _ (by simp)];exact(MapKept.heap_alloc w _).1⟩;have hT1:W1.cell? ⟨w.heap.size+1,0,none⟩=some (.map (some w.heap.size)):=by
  have:=cell_one_new (w.alloc (.map #[] 0)) (.map (some w.heap.size)) 161 0 _ rfl;rw[World.size_alloc,Addr.add_mid]at this;rw[<- C];exact this
 have hd5:W1.cell? ⟨g0,5,none⟩=some (.slice fa 0 cap):=(G.cell (p:=⟨g0,5,none⟩) z).trans J;have M:W1.cell? ⟨g0,4,none⟩=some (.int .i64 now):=(G.cell (p:=⟨g0,4,none⟩) z).trans hc4
 go_wp2
 go_loopw [16] (fun i wr=>i = .int .i64 0/\wr=W1) (fun _ _=>0)
 case atStart=>exact⟨rfl,rfl⟩
 case round=>
  obtain⟨rfl,rfl⟩:=hrel;have Y:∀x,ES x w.heap.size now none->(Instr.lookup 161 (.map (some w.heap.size)) (.int .i64 now) false).run Tryz.prog x = .ok (.slice none 0 0) x:=fun x hx=>by rw[hx.look hk];rfl
  have HF5:Hid (w.frozen? ⟨g0,5,none⟩=false):=hf5;have HC5:Hid (wr.cell? ⟨g0,5,none⟩=some (.slice fa 0 cap)):=hd5;clear hf5 J hd5 hc4 C
  go_wp2_with fail
  go_region_held3 (fun w' =>w'.cell? ⟨w.heap.size+1,0,none⟩=some (.map (some w.heap.size))/\w'.cell? ⟨g0,4,none⟩=some (.int .i64 now)/\(Instr.lookup 161 (.map (some w.heap.size)) (.int .i64 now) false).run Tryz.prog w' = .ok (.slice none 0 0) w')
   ((go_split_ands;refine⟨by go_keep,by go_keep,?_⟩;first|assumption|exact Y _ I|exact Y _ (I.same rfl)))
   (fail)
  go_wp2_with fail
  have hd4' : wr.drew.cell? ⟨g0,4,none⟩=some (.int .i64 now):=M;have hTr' : wr.drew.cell? ⟨w.heap.size+1,0,none⟩=some (.map (some w.heap.size)):=hT1;have hMr' : ES wr.drew w.heap.size now none:=I.same rfl
  go_region_held3 (fun w' =>w'.cell? ⟨w.heap.size+1,0,none⟩=some (.map (some w.heap.size))/\w'.cell? ⟨g0,4,none⟩=some (.int .i64 now))
   (first
    | (go_split_ands;refine⟨by go_keep,by go_keep⟩)
    | (go_split_ands
       refine⟨?_,?_⟩
       ·(rw[D.cell_far _ (by simp;omega) (by simp)];exact hT1)
       ·(rw[D.cell_far _ (by simp;omega) (by simp;omega)];exact M)))
   ((refine Z9v (by rfl) _ _ (by rfl) w.heap.size now none (by rfl) (by rfl) hMr' hk ?_;intro w5 hM5 D))
  have hb5:Below w.heap.size w w5:=G.drew.drew.grown D (by simp;omega) (fun j h=>by cases h;exact Nat.le_refl _);have hs5:=D.size;simp only[World.size_drew]at hs5;have hd55:w5.cell? ⟨g0,5,none⟩=some (.slice fa 0 cap):=(D.cell_far _ (by simp;omega) (by simp;omega)).trans HC5.out;have hdel:=ZpR w5 fa cap (.func (.func 72) #[] #[.pointer (some ⟨w.heap.size+1,0,none⟩)]);have hfs:w5.frozen? ⟨g0,5,none⟩=false:=by
   rw[World.frozen?_of_block (w:=w) (a:=⟨g0,5,none⟩) (hb5.block g0 z)];exact HF5.out
  clear M hd4'
  go_wp2_with fail
  refine hdel.mono ?_
  rintro e w' ⟨rfl,rfl⟩
  go_wp2
  refine hQ _ _ hb5 ?_ ?_ ?_ ?_
  ·rfl
  ·rfl
  ·rfl
  ·rfl
end Go.Proofs.YteinepnbndegdaaGreat
