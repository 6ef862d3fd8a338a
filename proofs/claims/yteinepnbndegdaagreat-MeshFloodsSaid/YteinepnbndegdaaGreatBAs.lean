/- A part of it. -/
import Derived.Test.YteinepnbndegdaaGreatBAr
import Derived.Test.YteinepnbndegdaaGreatL2
set_option linter.unusedVariables false
set_option linter.unusedSimpArgs false
namespace Go.Proofs.YteinepnbndegdaaGreat
open Go Go.RowKit Go.Maps Go.MapKept Go.ChangeMaps
set_option maxRecDepth 100000
theorem Z8P (w:World) (D M:Nat) (now:Int) (x:HV) (Q:(Lit.int .i64 now).wf=true) (hb:x.FW.oneCell' = true) (I:w.cell? ⟨D,0,none⟩=some (.map (some M))) (G:ES w M now none) :
  Calls Tryz.prog 72 #[.agg #[.int .i64 x.fr,.int .i64 x.to,.int .i64 now,x.FW],.pointer (some ⟨D,0,none⟩)] w fun e w' =>e = .returned (.bool true)/\Below w.heap.size w w' :=by
 obtain⟨fr,to,FW⟩:=x;simp only at hb ⊢;have C:=G.lt;have J:=World.block_lt_of_cell? w _ I;have z:ES (w.alloc (.cells #[.int .i64 fr,.int .i64 to,.int .i64 now,FW] 106)) M now none:=G.same (heap_alloc_old w _ C);have R:=z.Zn4 Q;have S:=fun(w:World) (a:Addr) (m:Mode)=>run_store Tryz.prog w a FW m hb
 go_enter Tryz.func72,Tryz.ntmps72
 go_wp2
 go_ret
 exact⟨rfl,(Below.refl _ _).alloc (Nat.le_refl _) _⟩
theorem ZqV (w:World) (a:Option Addr) (cap:Nat) (f:Value):Calls Tryz.prog 98 #[.slice a 0 cap,f] w fun e w' =>e = .returned (.int .i64 (-1))/\w' = w:=by
 go_enter Tryz.func98,Tryz.ntmps98
 go_wp2
 go_loopw [8] (fun i z=>i = .int .i64 0/\z=w) (fun _ _=>0)
 case atStart=>exact⟨rfl,rfl⟩
 case round=>
  obtain⟨rfl,rfl⟩:=hrel
  go_wp2
  go_ret
  exact⟨rfl,rfl⟩
theorem ZnS (w:World) (g n cap:Nat) (C M:Nat) (now:Int) (x:HV) (hn:0<n) (R:n<1000000) (Q:(Lit.int .i64 now).wf=true) (hb:x.FW.oneCell' = true) (J:w.cell? ⟨C,0,none⟩=some (.map (some M))) (I:ES w M now none)
  (z:∀j v,(x.cells now)[j]? = some v->w.cell? ⟨g,j,none⟩=some v) :
  Calls Tryz.prog 98 #[.slice (some ⟨g,0,none⟩) n cap,.func (.func 72) #[] #[.pointer (some ⟨C,0,none⟩)]] w fun e w' =>e = .returned (.int .i64 0)/\Below w.heap.size w w' :=by
 have c0:w.cell? ⟨g,0,none⟩=some (.int .i64 x.fr):=z 0 _ rfl;have Y:w.cell? ⟨g,1,none⟩=some (.int .i64 x.to):=z 1 _ rfl;have c2:w.cell? ⟨g,2,none⟩=some (.int .i64 now):=z 2 _ rfl;have c3:w.cell? ⟨g,3,none⟩=some x.FW:=z 3 _ rfl;have G:=Z8P w C M now x Q hb J I;clear z
 go_enter Tryz.func98,Tryz.ntmps98
 go_wp2
 go_loopw [8] (fun i S=>i = .int .i64 0/\S=w) (fun _ _=>0)
 case atStart=>exact⟨rfl,rfl⟩
 case round=>
  obtain⟨rfl,rfl⟩:=hrel
  go_wp2_with (go_at_call 72;refine G.mono ?_;rintro e w' ⟨rfl,D⟩)
  go_ret
  exact⟨rfl,D⟩
open Go.Proofs.YteinepnbndegdaaGreat.Le
structure SH (w:World) (g:Nat) (cap:Nat) (now:Int) (N:List HV) (cur:Array Value) (tg:Nat×Nat):Prop where
 blk:w.heap[g]? = some (.cells cur 106 tg)
 mark:noMark tg cur.size
 le:N.length<=cap
 max:cap<=maxLen
 size:cur.size=cap*4
 cells:∀j (h:j<N.length),∀i v,(N[j].cells now)[i]? = some v->w.cell? ⟨g,j*4+i,none⟩=some v
 one:∀x∈N,x.FW.oneCell' = true
theorem Zau:Tryz.prog.underlying 30=some (.slice 106):=by kernel_rfl
def O0:Value:=.agg #[.int .i64 0,.int .i64 0,.int .i64 0,.slice none 0 0]
theorem z106 (w:World):(zeroValue 106).run Tryz.prog w = .ok O0 w:=by kernel_rfl
theorem ZrB (w:World) (g n cap:Nat) (cur:Array Value) (tg:Nat×Nat) (ty:TypeId) (hb:w.heap[g]? = some (.cells cur 106 tg)) (hm:noMark tg cur.size) (S:0<n) (D:n<=cap) (R:cur.size=cap*4) :
  ∃C,C.size=cur.size/\(Builtin.clear_ #[30] ty #[.slice (some ⟨g,0,none⟩) n cap]).run Tryz.prog w = .ok (.tuple #[]) (w.setRow g C):=by
 have I:(flat (List.replicate n O0)).length=n*4:=by
  have:∀u∈List.replicate n O0,u.cells.size=4:=fun u G=>by rw[(List.mem_replicate.1 G).2];rfl
  rw[flat_length this,List.length_replicate]
 have M:∀u∈flat (List.replicate n O0),u.oneCell' = true:=by
  intro u G;simp only[flat,List.mem_flatMap]at G;obtain⟨a,Q,hb⟩:=G;rw[(List.mem_replicate.1 Q).2]at hb;have:u∈[Value.int .i64 0,.int .i64 0,.int .i64 0,.slice none 0 0]:=hb;simp at this;rcases this with rfl|rfl<;>rfl
 have z:=UO Tryz.prog g 0 106 tg (flat (List.replicate n O0)) 0 cur w hb hm (by rw[I,R];have:=Nat.mul_le_mul_right 4 D;omega) M;have J:=Z5l (zs:=O0) (n:=4) rfl (by decide) n;simp only[Nat.zero_add,List.take_zero,List.nil_append,I]at z;refine⟨(flat (List.replicate n O0)++cur.toList.drop (n*4)).toArray,?_,?_⟩
 ·simp only[List.size_toArray,List.length_append,List.length_drop,I,Array.length_toList];have:=Nat.mul_le_mul_right 4 D;omega
 ·obtain⟨m,rfl⟩:∃m,n=m+1:=⟨n - 1,by omega⟩;rw[<- J]at z;have h:=z106 w;simp only[O0]at J z h ⊢;simp[Builtin.clear_,run_underlying Zau,h,z];rw[J]
set_option maxHeartbeats 2000000 in
theorem Zng (w:World) (g cap:Nat) (I M:Nat) (now:Int) (N:List HV) (cur:Array Value) (tg:Nat×Nat) (S:0<N.length) (hN2:N.length<1000000) (G:SH w g cap now N cur tg) (hk:(Lit.int .i64 now).wf=true)
  (hT:w.cell? ⟨I,0,none⟩=some (.map (some M))) (Y:ES w M now none) :
  Calls Tryz.prog 71 #[.slice (some ⟨g,0,none⟩) N.length cap,.func (.func 72) #[] #[.pointer (some ⟨I,0,none⟩)]] w fun e w' =>e = .returned (.slice (some ⟨g,0,none⟩) 0 cap)/\∃w1 C,Below w.heap.size w w1/\w' = w1.setRow g C /\ C.size=cur.size:=by
 have hg:g<w.heap.size:=(Array.getElem?_eq_some_iff.1 G.blk).1;have hMl:=Y.lt;have hTl:=World.block_lt_of_cell? w _ hT;have Q:=ZnS w g N.length cap I M now N[0] S hN2 hk (G.one _ (List.getElem_mem S)) hT Y (fun j v hv=>by simpa using G.cells 0 S j v hv)
 go_enter Tryz.func71,Tryz.ntmps71
 go_wp2_with (go_at_call 98;refine Q.mono ?_;rintro e w' ⟨rfl,hbl⟩)
 go_loopw [5,6] (fun u i wr=>∃j:Nat,j<=N.length/\u = .int .i64 0/\i = .int .i64 (j:Int)/\Below w.heap.size w wr) (fun _ i _=>N.length - (RowKit.intOf i).toNat)
 case atStart=>exact⟨1,by omega,rfl,rfl,hbl⟩
 case round=>
  obtain⟨j,hj,rfl,rfl,z⟩:=hrel;obtain⟨D,hwi⟩:∃D,D=wr:=⟨_,rfl⟩;subst hwi
  by_cases R:j<N.length
  ·have e1:(j:Int)<N.length:=by omega
   have e2:(0:Int)<=j:=by omega
   obtain⟨x,hx⟩:∃x,N[j]=x:=⟨_,rfl⟩;have ho:x.FW.oneCell' = true:=by rw[<- hx];exact G.one _ (List.getElem_mem R)
   have hc:∀i v,(x.cells now)[i]? = some v->D.cell? ⟨g,j*4+i,none⟩=some v:=fun i v hv=>(z.cell (p:=⟨g,_,none⟩) hg).trans (G.cells j R i v (by rw[hx];exact hv));have c0:D.cell? ⟨g,j*4,none⟩=some (.int .i64 x.fr):=hc 0 _ rfl;have c1:D.cell? ⟨g,j*4+1,none⟩=some (.int .i64 x.to):=hc 1 _ rfl;have c2:D.cell? ⟨g,j*4+2,none⟩=some (.int .i64 now):=hc 2 _ rfl;have c3:D.cell? ⟨g,j*4+3,none⟩=some x.FW:=hc 3 _ rfl;clear hc;have hsz:=z.size;have hcl:=fun(o:Obj)=>Z8P (D.alloc o) I M now x hk ho (((Below.refl D.heap.size D).alloc (Nat.le_refl _) o).cell (p:=⟨I,0,none⟩) (by simp only;omega) |>.trans ((z.cell (p:=⟨I,0,none⟩) hTl).trans hT)) (Y.same (((heap_alloc_old D o (by omega)).trans (z.block M hMl))));have s1:=fun(w:World) (a:Addr) (m:Mode)=>run_store Tryz.prog w a x.FW m ho
   go_wp2_with (go_at_call 72;refine(hcl _).mono ?_;rintro e w' ⟨rfl,hb3⟩)
   go_roundw
   case rel=>exact⟨j+1,by omega,rfl,by go_num,(z.alloc (by omega) _).trans (hb3.mono (by simp;omega))⟩
   case measure=>simp[RowKit.intOf];omega
  ·obtain rfl:j=N.length:=by omega
   have e1:¬((N.length:Int)<N.length):=by omega
   have J:D.heap[g]? = some (.cells cur 106 tg):=(z.block g hg).trans G.blk;have hle:=G.le;obtain⟨C,hc1,hc2⟩:=ZrB D g N.length cap cur tg 0 J G.mark S G.le G.size
   go_wp2
   go_ret
   exact⟨rfl,D,z,C,rfl,hc1⟩
end Go.Proofs.YteinepnbndegdaaGreat
