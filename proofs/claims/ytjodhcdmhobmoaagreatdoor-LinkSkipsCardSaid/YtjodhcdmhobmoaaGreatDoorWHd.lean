/- A part of it. -/
import Derived.Test.YtjodhcdmhobmoaaGreatDoorWL6
import Derived.Test.YtjodhcdmhobmoaaGreatDoorProg
import Derived.WalkKit
import Derived.OwnWalkIn
import Derived.TacticsInMore
import Derived.RegionIn
import Derived.IntWalk
import Derived.Lib.Hide
import Derived.Maps.Own
import Derived.Laws.EntriesVeiled
import Derived.KernelRfl
set_option linter.unusedVariables false
set_option linter.unusedSimpArgs false
namespace Go.Proofs.YtjodhcdmhobmoaaGreatDoor
open Go Go.RowKit Go.Maps Go.MapKept Go.ChangeMaps
attribute [local go_sem] Oper.semAt_some
set_option maxRecDepth 100000
def MA (w:World) (b:Nat) (L:List (Int×Value)):Prop:=∃es c,w.heap[b]? = some (.map es c)/\es.toList.map (fun x=>(x.key,x.val))=L.map fun p=>(Value.int .i64 p.1,p.2)
theorem MA.put {P:Program} {w:World} {b:Nat} {L:List (Int×Value)} (h:MA w b L) (K:Keyed P 3) {t e:TypeId} (Y:P.underlying t=some (.map 3 e)) (k:Int) (v:Value) (hk:keyOf P 3 (.int .i64 k)=some (.int .i64 k)) (A:L.all (fun p=>p.1 != k)=true) (O:∀p∈L,keyOf P 3 (.int .i64 p.1)=some (.int .i64 p.1)) :
  ∃w',(Instr.mapUpdate t (.map (some b)) (.int .i64 k) v).run P w = .ok () w' /\ MA w' b (L++[(k,v)])/\w.grownBy w' (some b):=by
 obtain⟨es,c,hb,I⟩:=h;have z:∀x∈es.toList,∃p∈L,x.key = .int .i64 p.1:=fun x C=>by
  have G:(x.key,x.val)∈es.toList.map (fun x=>(x.key,x.val)):=List.mem_map.2 ⟨x,C,rfl⟩;rw[I]at G;obtain⟨p,hp,q⟩:=List.mem_map.1 G;exact⟨p,hp,(congrArg Prod.fst q).symm⟩
 have Q:∀o:Obj,w.grownBy (setBlock w b o) (some b):=fun o=>⟨rfl,rfl,rfl,by simp[setBlock],fun i _ S=>heap_setBlock_other hb _ (fun e=>S (by rw[e]))⟩;rcases K.find w hk es.toList (fun x C=>by obtain⟨p,hp,q⟩:=z x C;exact⟨_,by rw[q];exact O p hp⟩) with ⟨D,F⟩|⟨j,J,D,F,M⟩
 ·refine⟨setBlock w b (.map (es.push ⟨.int .i64 k,v,c⟩) (c+1)),?_,⟨_,_,heap_setBlock_same hb _,?_⟩,Q _⟩
  ·simp[Instr.mapUpdate,run_underlying Y,MapKept.run_getObj_map hb,K.check w false hk,D,MapKept.run_setObj_map _ hb,Result.andThen,setBlock]
  ·rw[Array.toList_push,List.map_append,I,List.map_append];rfl
 ·exfalso;obtain⟨p,hp,q⟩:=z J (List.mem_of_getElem? F);have:=List.all_eq_true.1 A p hp;rw[M]at q;injection q with _ N
  rw[N]at this;simp at this
structure HW (w0 w:World) (L:List (Int×Value)):Prop where
 map:MA w w0.heap.size L
 gr:w0.grownBy w none
 sz:w0.heap.size<w.heap.size
theorem HW.start (w:World):HW w (w.alloc (.map #[] 0)) []:=
 ⟨⟨#[],0,(MapKept.heap_alloc w _).1,rfl⟩,World.grownBy_alloc _ _ _,by simp⟩
theorem HW.put {w0 w:World} {L} (h:HW w0 w L) (k:Int) (v:Value) (hk:(Lit.int .i64 k).wf=true) (q:L.all (fun p=>p.1 != k)=true) (N:L.all (fun p=>(Lit.int .i64 p.1).wf)=true) :
  ∃w',(Instr.mapUpdate 306 (.map (some w0.heap.size)) (.int .i64 k) v).run Tryz.prog w = .ok () w' /\ HW w0 w' (L++[(k,v)]):=by
 have z:Tryz.prog.underlying 3=some (.int .i64):=by rfl
 obtain⟨w',J,M,A⟩:=h.map.put (int_keyed z) (t:=306) (e:=214) (by rfl) k v (keyOf_int_mk z hk) q (fun p hp=>keyOf_int_mk z (List.all_eq_true.1 N p hp));have S:=A.size;obtain⟨C,D,F,G,I⟩:=h.gr;obtain⟨b1,b2,b3,b4,b5⟩:=A;refine⟨w',J,M,⟨b1.trans C,b2.trans D,b3.trans F,Nat.le_trans G b4,fun i O Q=>(b5 i (by omega) (fun e=>by injection e with e;omega)).trans (I i O Q)⟩,by have:=h.sz;omega⟩
def yV:List (Int×FuncId):=[(0,366),(1,366),(2,367),(3,368),(4,369),(5,370),(6,371),(7,372),(13,372),(8,373),(9,373),(12,374),(15,375),(18,376),(19,377),(20,378),(21,378)]
def hndL (p:Value):List (Int×Value):=yV.map fun q=>(q.1,.func (.func q.2) #[p] #[])
set_option maxHeartbeats 4000000 in
theorem ZF4 (F:Fence) (n:Nat) (h:F.fn 343) (M:F.round=none) (p:Value) (w:World):CallsIn F n Tryz.prog 343 #[p] w fun e W' =>e = .returned (.map (some w.heap.size))/\HW w W' (hndL p):=by
 have hmm:=@run_makeMap Tryz.prog;have N:=HW.start w;obtain⟨w1,u1,O⟩:=N.put 0 (.func (.func 366) #[p] #[]) (by decide) rfl rfl;obtain⟨w2,u2,Q⟩:=O.put 1 (.func (.func 366) #[p] #[]) (by decide) rfl rfl;obtain⟨w3,u3,S⟩:=Q.put 2 (.func (.func 367) #[p] #[]) (by decide) rfl rfl;obtain⟨w4,u4,Y⟩:=S.put 3 (.func (.func 368) #[p] #[]) (by decide) rfl rfl;obtain⟨w5,u5,G5⟩:=Y.put 4 (.func (.func 369) #[p] #[]) (by decide) rfl rfl;obtain⟨w6,u6,G6⟩:=G5.put 5 (.func (.func 370) #[p] #[]) (by decide) rfl rfl;obtain⟨w7,u7,G7⟩:=G6.put 6 (.func (.func 371) #[p] #[]) (by decide) rfl rfl;obtain⟨w8,u8,G8⟩:=G7.put 7 (.func (.func 372) #[p] #[]) (by decide) rfl rfl;obtain⟨w9,u9,G9⟩:=G8.put 13 (.func (.func 372) #[p] #[]) (by decide) rfl rfl;obtain⟨w10,u10,q⟩:=G9.put 8 (.func (.func 373) #[p] #[]) (by decide) rfl rfl;obtain⟨w11,u11,z⟩:=q.put 9 (.func (.func 373) #[p] #[]) (by decide) rfl rfl;obtain⟨w12,u12,A⟩:=z.put 12 (.func (.func 374) #[p] #[]) (by decide) rfl rfl;obtain⟨w13,u13,C⟩:=A.put 15 (.func (.func 375) #[p] #[]) (by decide) rfl rfl;obtain⟨w14,u14,D⟩:=C.put 18 (.func (.func 376) #[p] #[]) (by decide) rfl rfl;obtain⟨w15,u15,G⟩:=D.put 19 (.func (.func 377) #[p] #[]) (by decide) rfl rfl;obtain⟨w16,u16,I⟩:=G.put 20 (.func (.func 378) #[p] #[]) (by decide) rfl rfl;obtain⟨w17,u17,J⟩:=I.put 21 (.func (.func 378) #[p] #[]) (by decide) rfl rfl;refine callsIn_of_wp Tryz.func343 rfl h ?_ M;simp only[Tryz.ntmps343,List.size_toArray,List.length_cons,List.length_nil,Nat.reduceAdd,Nat.reduceSub,Array.replicate_succ,Array.replicate_zero,List.push_toArray,List.append_toArray,List.nil_append,List.cons_append]
 gi_wp2
 exact bodyPost_ret (results_tmp rfl _ _ _) rfl ⟨rfl,J⟩
open Go.Proofs.YtjodhcdmhobmoaaGreatDoor.Le
theorem Zgb {σ:Sg} {w:World} {x:V} {v:Value} (hp:AV σ w [x] [v]):∀l:List (Int×FuncId),l.all (fun q=>(Lit.int .i64 q.1).wf)=true->AV σ w (l.flatMap fun q=>[V.lit (.int .i64 q.1),.fn q.2 [x] []]) (l.flatMap fun q=>[Value.int .i64 q.1,.func (.func q.2) #[v] #[]])
 | [],_=>.nil
 | q::l,h=>by
  rw[List.all_cons,Bool.and_eq_true]at h;exact .lit h.1 (.fn (us:=[v]) (ws:=[]) hp .nil (Zgb hp l h.2))
theorem ZBP (E:Env) (x:V) (H:Heap):Uf Tryz.prog E 343 [x] H (.Gf (yV.flatMap fun q=>[V.lit (.int .i64 q.1),.fn q.2 [x] []])) H:=by
 intro B w0 σ w vs G N z;obtain⟨M,vs,rfl,F,z⟩:=z.EP;cases z.Fj;refine(callsIn_wide.1 (ZF4 Fence.wide 1 trivial rfl M w)).mono ?_
 rintro e w' ⟨rfl,A⟩
 obtain⟨J,C⟩:=G.grown A.gr;obtain⟨es,c,hb,I⟩:=A.map;refine⟨_,σ,rfl,J,C,AV.Gf w.heap.size es c (Zgb (F.ext C) yV (by decide)) hb ?_ .nil⟩;have D:es.toList.flatMap (fun e=>[e.key,e.val])=(es.toList.map fun x=>(x.key,x.val)).flatMap fun q=>[q.1,q.2]:=by rw[List.flatMap_map]
 rw[D,I];rfl
def IU:Q8 Tryz.prog:=⟨fun f=>bif Nat.beq f 343 then some yV else none,fun f l h=>by
 cases hf:Nat.beq f 343 with
 | false=>rw[hf]at h;cases h
 | true=>
  rw[hf]at h;cases h;cases Nat.eq_of_beq_eq_true hf;exact⟨⟨Tryz.f343,Tryz.func343,by kernel_rfl,by kernel_rfl⟩,fun E x H=>ZBP E x H⟩⟩
end Go.Proofs.YtjodhcdmhobmoaaGreatDoor
