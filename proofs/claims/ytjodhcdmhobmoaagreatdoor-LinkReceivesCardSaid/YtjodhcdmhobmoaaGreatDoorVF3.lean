/- A part of it. -/
import Derived.Test.YtjodhcdmhobmoaaGreatDoorVF2
import Derived.WalkKit
import Derived.OwnWalkIn
import Derived.TacticsInMore
import Derived.RegionIn
import Derived.LoopNIn
import Derived.LoopIn
import Derived.IntWalk
import Derived.Lib.Hide
import Derived.Maps.Own
import Derived.Laws.EntriesVeiled
import Derived.KernelRfl
set_option linter.unusedVariables false
set_option linter.unusedSimpArgs false
namespace Go.Proofs.YtjodhcdmhobmoaaGreatDoor
open Tryz
open Go Go.RowKit Go.Maps Go.MapKept Go.ChangeMaps
attribute [local go_sem] Oper.semAt_some
set_option maxRecDepth 100000
theorem hao (w:World) (o:Obj) (i:Nat) (h:i<w.heap.size):(w.alloc o).heap[i]? = w.heap[i]?:=by
 show (w.heap.push o)[i]? = w.heap[i]?;rw[Array.getElem?_push,if_neg (Nat.ne_of_lt h)]
theorem ZBf (F:Fence) (n:Nat) (h:F.fn 289) (q:F.round=none) (W:World):CallsIn F n Tryz.prog 289 #[] W fun e z =>e = .returned (.agg #[.slice none 0 0,.func (.func 348) #[] #[],.func (.func 349) #[] #[],.func (.func 309) #[] #[]])/\z = W.alloc (.cells #[.slice none 0 0,.func (.func 348) #[] #[],.func (.func 349) #[] #[],.func (.func 309) #[] #[]] 248):=by
 refine callsIn_of_wp func289 rfl h ?_ q;simp only[Tryz.ntmps289,List.size_toArray,List.length_cons,List.length_nil,Nat.reduceAdd,Nat.reduceSub,Array.replicate_succ,Array.replicate_zero,List.push_toArray,List.append_toArray,List.nil_append,List.cons_append]
 gi_wp2
 exact bodyPost_ret (results_cell_row rfl _ _ W.heap.size 248 _ _ _ rfl (heap_alloc_new _ _) (by rfl) rfl (by rfl)) rfl ⟨rfl,rfl⟩
theorem ZEs (F:Fence) (n:Nat) (h:F.fn 290) (q:F.round=none) (W:World):CallsIn F n Tryz.prog 290 #[] W fun e z =>e = .returned (.agg #[.slice (some ⟨W.heap.size+1,0,none⟩) 1 1,.func (.func 350) #[] #[],.func (.func 351) #[] #[],.func (.func 309) #[] #[]])/\z = (W.alloc (.cells #[.slice (some ⟨W.heap.size+1,0,none⟩) 1 1,.func (.func 350) #[] #[],.func (.func 351) #[] #[],.func (.func 309) #[] #[]] 248)).alloc (.cells #[.int .i64 8] 3):=by
 refine callsIn_of_wp func290 rfl h ?_ q;simp only[Tryz.ntmps290,List.size_toArray,List.length_cons,List.length_nil,Nat.reduceAdd,Nat.reduceSub,Array.replicate_succ,Array.replicate_zero,List.push_toArray,List.append_toArray,List.nil_append,List.cons_append]
 gi_wp2
 exact bodyPost_ret (results_cell_row rfl _ _ W.heap.size 248 _ _ _ rfl ((hao _ _ _ (by simp)).trans (heap_alloc_new _ _)) (by rfl) rfl (by rfl)) rfl ⟨rfl,rfl⟩
theorem ZEF (F:Fence) (n:Nat) (h:F.fn 291) (q:F.round=none) (W:World):CallsIn F n Tryz.prog 291 #[] W fun e z =>e = .returned (.agg #[.slice (some ⟨W.heap.size+1,0,none⟩) 1 1,.func (.func 352) #[] #[],.func (.func 353) #[] #[],.func (.func 354) #[] #[]])/\z = (W.alloc (.cells #[.slice (some ⟨W.heap.size+1,0,none⟩) 1 1,.func (.func 352) #[] #[],.func (.func 353) #[] #[],.func (.func 354) #[] #[]] 248)).alloc (.cells #[.int .i64 1] 3):=by
 refine callsIn_of_wp func291 rfl h ?_ q;simp only[Tryz.ntmps291,List.size_toArray,List.length_cons,List.length_nil,Nat.reduceAdd,Nat.reduceSub,Array.replicate_succ,Array.replicate_zero,List.push_toArray,List.append_toArray,List.nil_append,List.cons_append]
 gi_wp2
 exact bodyPost_ret (results_cell_row rfl _ _ W.heap.size 248 _ _ _ rfl ((hao _ _ _ (by simp)).trans (heap_alloc_new _ _)) (by rfl) rfl (by rfl)) rfl ⟨rfl,rfl⟩
structure FS (w0 w:World) (L:List (Int×Value)) (R:List (Nat×Array Value)):Prop where
 map:MA w w0.heap.size L
 rows:∀p∈R,w0.heap.size<p.1/\w.heap[p.1]? = some (.cells p.2 3)
 below:Below w0.heap.size w0 w
 sz:w0.heap.size<w.heap.size
theorem FS.start (w:World):FS w (w.alloc (.map #[] 0)) [] []:=
 ⟨⟨#[],0,(MapKept.heap_alloc w _).1,rfl⟩,by simp,(Below.refl _ _).alloc (Nat.le_refl _) _,by simp⟩
theorem FS.cells {w0 w:World} {L R} (h:FS w0 w L R) (cs:Array Value) (t:TypeId):FS w0 (w.alloc (.cells cs t)) L R:=by
 obtain⟨⟨es,c,hb,C⟩,q,A,z⟩:=h;refine⟨⟨es,c,(hao _ _ _ z).trans hb,C⟩,fun p hp=>⟨(q p hp).1,(hao _ _ _ ?_).trans (q p hp).2⟩,A.alloc (Nat.le_of_lt z) _,by simp;omega⟩;have:=(q p hp).2;exact(Array.getElem?_eq_some_iff.1 this).1
theorem FS.row {w0 w:World} {L R} (h:FS w0 w L R) (cs:Array Value):FS w0 (w.alloc (.cells cs 3)) L ((w.heap.size,cs)::R):=by
 have q:=h.cells cs 3;refine⟨q.map,fun p hp=>?_,q.below,q.sz⟩;rcases List.mem_cons.1 hp with rfl|hp
 ·exact⟨h.sz,heap_alloc_new _ _⟩
 ·exact q.rows p hp
theorem FS.rowA {w0 w:World} {L R} (h:FS w0 w L R) (cs:Array Value) (a:Nat) (q:a=w.heap.size):FS w0 (w.alloc (.cells cs 3)) L ((a,cs)::R):=q▸h.row cs
theorem FS.put {w0 w:World} {L R} (h:FS w0 w L R) (k:Int) (v:Value) (hk:(Lit.int .i64 k).wf=true) (q:L.all (fun p=>p.1 != k)=true) (G:L.all (fun p=>(Lit.int .i64 p.1).wf)=true) :
  ∃w',(Instr.mapUpdate 249 (.map (some w0.heap.size)) (.int .i64 k) v).run Tryz.prog w = .ok () w' /\ FS w0 w' (L++[(k,v)]) R:=by
 have z:Tryz.prog.underlying 3=some (.int .i64):=by rfl
 obtain⟨w',D,F,A⟩:=h.map.put (int_keyed z) (t:=249) (e:=248) (by rfl) k v (keyOf_int_mk z hk) q (fun p hp=>keyOf_int_mk z (List.all_eq_true.1 G p hp));have I:=A.size;refine⟨w',D,F,fun p hp=>⟨(h.rows p hp).1,?_⟩,h.below.grown A h.below.size (fun k e=>by cases e;exact Nat.le_refl _),by have:=h.sz;omega⟩;have hr:=(h.rows p hp).2;obtain⟨_,_,_,_,C⟩:=A;exact(C p.1 (Array.getElem?_eq_some_iff.1 hr).1 (fun e=>by have:=(h.rows p hp).1;injection e with e;omega)).trans hr
def frmL (D F G I J M N O Q q z A C:Nat):List (Int×Value):=[(5,.agg #[.slice none 0 0,.func (.func 348) #[] #[],.func (.func 349) #[] #[],.func (.func 309) #[] #[]]),
 (6,.agg #[.slice none 0 0,.func (.func 348) #[] #[],.func (.func 349) #[] #[],.func (.func 309) #[] #[]]),
 (18,.agg #[.slice none 0 0,.func (.func 348) #[] #[],.func (.func 349) #[] #[],.func (.func 309) #[] #[]]),
 (19,.agg #[.slice none 0 0,.func (.func 348) #[] #[],.func (.func 349) #[] #[],.func (.func 309) #[] #[]]),
 (8,.agg #[.slice (some ⟨D,0,none⟩) 1 1,.func (.func 350) #[] #[],.func (.func 351) #[] #[],.func (.func 309) #[] #[]]),
 (9,.agg #[.slice (some ⟨F,0,none⟩) 1 1,.func (.func 350) #[] #[],.func (.func 351) #[] #[],.func (.func 309) #[] #[]]),
 (20,.agg #[.slice (some ⟨G,0,none⟩) 1 1,.func (.func 352) #[] #[],.func (.func 353) #[] #[],.func (.func 354) #[] #[]]),
 (21,.agg #[.slice (some ⟨I,0,none⟩) 1 1,.func (.func 352) #[] #[],.func (.func 353) #[] #[],.func (.func 354) #[] #[]]),
 (0,.agg #[.slice (some ⟨J,0,none⟩) 6 6,.func (.func 292) #[] #[],.func (.func 294) #[] #[],.func (.func 296) #[] #[]]),
 (1,.agg #[.slice (some ⟨M,0,none⟩) 2 2,.func (.func 297) #[] #[],.func (.func 298) #[] #[],.func (.func 299) #[] #[]]),
 (15,.agg #[.slice (some ⟨N,0,none⟩) 5 5,.func (.func 300) #[] #[],.func (.func 301) #[] #[],.func (.func 302) #[] #[]]),
 (2,.agg #[.slice (some ⟨O,0,none⟩) 1 1,.func (.func 303) #[] #[],.func (.func 304) #[] #[],.func (.func 305) #[] #[]]),
 (3,.agg #[.slice (some ⟨Q,0,none⟩) 2 2,.func (.func 307) #[] #[],.func (.func 308) #[] #[],.func (.func 309) #[] #[]]),
 (4,.agg #[.slice (some ⟨q,0,none⟩) 1 1,.func (.func 310) #[] #[],.func (.func 311) #[] #[],.func (.func 309) #[] #[]]),
 (7,.agg #[.slice (some ⟨z,0,none⟩) 1 1,.func (.func 312) #[] #[],.func (.func 313) #[] #[],.func (.func 314) #[] #[]]),
 (12,.agg #[.slice (some ⟨A,0,none⟩) 1 1,.func (.func 315) #[] #[],.func (.func 316) #[] #[],.func (.func 317) #[] #[]]),
 (13,.agg #[.slice (some ⟨C,0,none⟩) 2 2,.func (.func 318) #[] #[],.func (.func 319) #[] #[],.func (.func 320) #[] #[]])]
def LG (D F G I J M N O Q q z A C:Nat):List (Nat×Array Value):=[(C,#[.int .i64 1,.int .i64 1]),(A,#[.int .i64 1]),(z,#[.int .i64 1]),(q,#[.int .i64 8]),(Q,#[.int .i64 8,.int .i64 8]),(O,#[.int .i64 1]),(N,#[.int .i64 1,.int .i64 2,.int .i64 2,.int .i64 2,.int .i64 2]),(M,#[.int .i64 5,.int .i64 2]),(J,#[.int .i64 1,.int .i64 2,.int .i64 2,.int .i64 2,.int .i64 2,.int .i64 2]),(I,#[.int .i64 1]),(G,#[.int .i64 1]),(F,#[.int .i64 8]),(D,#[.int .i64 8])]
set_option maxHeartbeats 4000000 in
theorem ZCq (F:Fence) (n:Nat) (h9:F.fn 289) (h0:F.fn 290) (h1:F.fn 291) (h:F.fn 229) (q:F.round=none) (hn:1<=n) (w:World):CallsIn F n Tryz.prog 229 #[] w fun e W' =>e = .returned (.map (some w.heap.size))/\∃a1 a2 a3 a4 a5 a6 a7 a8 a9 z A C D,FS w W' (frmL a1 a2 a3 a4 a5 a6 a7 a8 a9 z A C D) (LG a1 a2 a3 a4 a5 a6 a7 a8 a9 z A C D):=by
 have hmm:=@run_makeMap Tryz.prog;have G0:=FS.start w;have H1:=G0.cells #[.slice none 0 0,.func (.func 348) #[] #[],.func (.func 349) #[] #[],.func (.func 309) #[] #[]] 248;obtain⟨w1,u1,G1⟩:=H1.put 5 (.agg #[.slice none 0 0,.func (.func 348) #[] #[],.func (.func 349) #[] #[],.func (.func 309) #[] #[]]) (by decide) rfl rfl;have H2:=G1.cells #[.slice none 0 0,.func (.func 348) #[] #[],.func (.func 349) #[] #[],.func (.func 309) #[] #[]] 248;obtain⟨w2,u2,G2⟩:=H2.put 6 (.agg #[.slice none 0 0,.func (.func 348) #[] #[],.func (.func 349) #[] #[],.func (.func 309) #[] #[]]) (by decide) rfl rfl;have H3:=G2.cells #[.slice none 0 0,.func (.func 348) #[] #[],.func (.func 349) #[] #[],.func (.func 309) #[] #[]] 248;obtain⟨w3,u3,G3⟩:=H3.put 18 (.agg #[.slice none 0 0,.func (.func 348) #[] #[],.func (.func 349) #[] #[],.func (.func 309) #[] #[]]) (by decide) rfl rfl;have H4:=G3.cells #[.slice none 0 0,.func (.func 348) #[] #[],.func (.func 349) #[] #[],.func (.func 309) #[] #[]] 248;obtain⟨S,u4,G4⟩:=H4.put 19 (.agg #[.slice none 0 0,.func (.func 348) #[] #[],.func (.func 349) #[] #[],.func (.func 309) #[] #[]]) (by decide) rfl rfl;have H5:=(G4.cells #[.slice (some ⟨S.heap.size+1,0,none⟩) 1 1,.func (.func 350) #[] #[],.func (.func 351) #[] #[],.func (.func 309) #[] #[]] 248).rowA #[.int .i64 8] (S.heap.size+1) (by simp);obtain⟨Y,u5,G5⟩:=H5.put 8 (.agg #[.slice (some ⟨S.heap.size+1,0,none⟩) 1 1,.func (.func 350) #[] #[],.func (.func 351) #[] #[],.func (.func 309) #[] #[]]) (by decide) rfl rfl;have H6:=(G5.cells #[.slice (some ⟨Y.heap.size+1,0,none⟩) 1 1,.func (.func 350) #[] #[],.func (.func 351) #[] #[],.func (.func 309) #[] #[]] 248).rowA #[.int .i64 8] (Y.heap.size+1) (by simp);obtain⟨w6,u6,G6⟩:=H6.put 9 (.agg #[.slice (some ⟨Y.heap.size+1,0,none⟩) 1 1,.func (.func 350) #[] #[],.func (.func 351) #[] #[],.func (.func 309) #[] #[]]) (by decide) rfl rfl;have H7:=(G6.cells #[.slice (some ⟨w6.heap.size+1,0,none⟩) 1 1,.func (.func 352) #[] #[],.func (.func 353) #[] #[],.func (.func 354) #[] #[]] 248).rowA #[.int .i64 1] (w6.heap.size+1) (by simp);obtain⟨w7,u7,G7⟩:=H7.put 20 (.agg #[.slice (some ⟨w6.heap.size+1,0,none⟩) 1 1,.func (.func 352) #[] #[],.func (.func 353) #[] #[],.func (.func 354) #[] #[]]) (by decide) rfl rfl;have H8:=(G7.cells #[.slice (some ⟨w7.heap.size+1,0,none⟩) 1 1,.func (.func 352) #[] #[],.func (.func 353) #[] #[],.func (.func 354) #[] #[]] 248).rowA #[.int .i64 1] (w7.heap.size+1) (by simp);obtain⟨w8,u8,G8⟩:=H8.put 21 (.agg #[.slice (some ⟨w7.heap.size+1,0,none⟩) 1 1,.func (.func 352) #[] #[],.func (.func 353) #[] #[],.func (.func 354) #[] #[]]) (by decide) rfl rfl;have H9:=G8.row #[.int .i64 1,.int .i64 2,.int .i64 2,.int .i64 2,.int .i64 2,.int .i64 2];obtain⟨w9,u9,G9⟩:=H9.put 0 (.agg #[.slice (some ⟨w8.heap.size,0,none⟩) 6 6,.func (.func 292) #[] #[],.func (.func 294) #[] #[],.func (.func 296) #[] #[]]) (by decide) rfl rfl;have H10:=G9.row #[.int .i64 5,.int .i64 2];obtain⟨G,u10,G10⟩:=H10.put 1 (.agg #[.slice (some ⟨w9.heap.size,0,none⟩) 2 2,.func (.func 297) #[] #[],.func (.func 298) #[] #[],.func (.func 299) #[] #[]]) (by decide) rfl rfl;have H11:=G10.row #[.int .i64 1,.int .i64 2,.int .i64 2,.int .i64 2,.int .i64 2];obtain⟨I,u11,G11⟩:=H11.put 15 (.agg #[.slice (some ⟨G.heap.size,0,none⟩) 5 5,.func (.func 300) #[] #[],.func (.func 301) #[] #[],.func (.func 302) #[] #[]]) (by decide) rfl rfl;have H12:=G11.row #[.int .i64 1];obtain⟨J,u12,G12⟩:=H12.put 2 (.agg #[.slice (some ⟨I.heap.size,0,none⟩) 1 1,.func (.func 303) #[] #[],.func (.func 304) #[] #[],.func (.func 305) #[] #[]]) (by decide) rfl rfl;have H13:=G12.row #[.int .i64 8,.int .i64 8];obtain⟨M,u13,G13⟩:=H13.put 3 (.agg #[.slice (some ⟨J.heap.size,0,none⟩) 2 2,.func (.func 307) #[] #[],.func (.func 308) #[] #[],.func (.func 309) #[] #[]]) (by decide) rfl rfl;have H14:=G13.row #[.int .i64 8];obtain⟨N,u14,G14⟩:=H14.put 4 (.agg #[.slice (some ⟨M.heap.size,0,none⟩) 1 1,.func (.func 310) #[] #[],.func (.func 311) #[] #[],.func (.func 309) #[] #[]]) (by decide) rfl rfl;have H15:=G14.row #[.int .i64 1];obtain⟨O,u15,G15⟩:=H15.put 7 (.agg #[.slice (some ⟨N.heap.size,0,none⟩) 1 1,.func (.func 312) #[] #[],.func (.func 313) #[] #[],.func (.func 314) #[] #[]]) (by decide) rfl rfl;have H16:=G15.row #[.int .i64 1];obtain⟨Q,u16,G16⟩:=H16.put 12 (.agg #[.slice (some ⟨O.heap.size,0,none⟩) 1 1,.func (.func 315) #[] #[],.func (.func 316) #[] #[],.func (.func 317) #[] #[]]) (by decide) rfl rfl;have H17:=G16.row #[.int .i64 1,.int .i64 1];obtain⟨w17,u17,G17⟩:=H17.put 13 (.agg #[.slice (some ⟨Q.heap.size,0,none⟩) 2 2,.func (.func 318) #[] #[],.func (.func 319) #[] #[],.func (.func 320) #[] #[]]) (by decide) rfl rfl;refine callsIn_of_wp func229 rfl h ?_ q;simp only[Tryz.ntmps229,List.size_toArray,List.length_cons,List.length_nil,Nat.reduceAdd,Nat.reduceSub,Array.replicate_succ,Array.replicate_zero,List.push_toArray,List.append_toArray,List.nil_append,List.cons_append]
 gi_wp2_with (first|(gi_at_call 289;refine(ZBf F (n - 1) h9 q _).mono ?_;rintro e w' ⟨rfl,rfl⟩)|(gi_at_call 290;refine(ZEs F (n - 1) h0 q _).mono ?_;rintro e w' ⟨rfl,rfl⟩)|(gi_at_call 291;refine(ZEF F (n - 1) h1 q _).mono ?_;rintro e w' ⟨rfl,rfl⟩))
 exact bodyPost_ret (results_tmp rfl _ _ _) rfl ⟨rfl,S.heap.size+1,Y.heap.size+1,w6.heap.size+1,w7.heap.size+1,w8.heap.size,w9.heap.size,G.heap.size,I.heap.size,J.heap.size,M.heap.size,N.heap.size,O.heap.size,Q.heap.size,G17⟩
open Go.Proofs.YtjodhcdmhobmoaaGreatDoor.Le
theorem MI {w0 w:World} {L R} (h:FS w0 w L R) (fz:Nat->Nat->Prop) {a:Nat} (xs:List Int) (hp:(a,(xs.map (Value.int .i64 ·)).toArray)∈R) (hw:xs.all (fun x=>(Lit.int .i64 x).wf)=true) (hl:xs.length<=100) :
  AV (bare (fun b c=>fz b c\/(w0.heap.size<b/\∃u,w.cell? ⟨b,c,none⟩=some u))) w [.sl false 1 (xs.map fun x=>.lit (.int .i64 x))] [.slice (some ⟨a,0,none⟩) xs.length xs.length]:=by
 obtain⟨F,G⟩:=h.rows _ hp;have z:∀ys:List Int,ys.all (fun x=>(Lit.int .i64 x).wf)=true->AV (bare (fun b c=>fz b c\/(w0.heap.size<b/\∃u,w.cell? ⟨b,c,none⟩=some u))) w (ys.map fun x=>.lit (.int .i64 x)) (ys.map (Value.int .i64 ·)):=by
  intro ys;induction ys with
  | nil=>intro _;exact .nil
  | cons y ys C=>
   intro A;simp only[List.all_cons,Bool.and_eq_true]at A;exact .lit A.1 (C A.2)
 have q:∀ys:List Int,flat (ys.map (Value.int .i64 ·))=ys.map (Value.int .i64 ·):=by
  intro ys;induction ys with
  | nil=>rfl
  | cons y ys C=>
   show [Value.int .i64 y]++flat (ys.map (Value.int .i64 ·))=_;rw[C];rfl
 have hc:∀j,w.cell? ⟨a,j,none⟩=(xs.map (Value.int .i64 ·)).toArray[j]?:=fun j=>cell_of_row w a j _ 3 _ G;have:=AV.sl (xs:=[]) (vs:=[]) a 0 xs.length 1 (z xs hw) (by intro x hx;obtain⟨n,_,rfl⟩:=List.mem_map.1 hx;rfl) (by intro u hu;obtain⟨n,_,rfl⟩:=List.mem_map.1 hu;rfl)
  (by rw[q];intro u hu;obtain⟨n,_,rfl⟩:=List.mem_map.1 hu;rfl) (by simp) (by rw[show maxLen=9223372036854775807 from rfl];omega)
  (by
   intro j u D;rw[q]at D;have e:w.cell? ⟨a,0+j,none⟩=some u:=by rw[Nat.zero_add,hc];simpa using D
   exact⟨.inr ⟨F,u,e⟩,e⟩) .nil
 rw[List.length_map]at this;exact this
theorem JR {σ:Sg} {w:World} {k:Int} {xs:List Int} {q:Value} {a b c:Nat} {r:List V} {z:List Value} (hk:(Lit.int .i64 k).wf=true) (hs:AV σ w [.sl false 1 (xs.map fun x=>.lit (.int .i64 x))] [q]) (A:q.oneCell' = true) (h:AV σ w r z) :
  AV σ w (.lit (.int .i64 k) :: .agg [.sl false 1 (xs.map fun x=>.lit (.int .i64 x)),.fn a [] [],.fn b [] [],.fn c [] []]::r) (.int .i64 k :: .agg #[q,.func (.func a) #[] #[],.func (.func b) #[] #[],.func (.func c) #[] #[]]::z):=
 .lit hk (.agg (ws:=[q,.func (.func a) #[] #[],.func (.func b) #[] #[],.func (.func c) #[] #[]]) (AV.FZ.2 ⟨hs,.fn (us:=[]) (ws:=[]) .nil .nil (.fn (us:=[]) (ws:=[]) .nil .nil (.fn (us:=[]) (ws:=[]) .nil .nil .nil))⟩) (by intro u hu;simp only[List.mem_cons,List.not_mem_nil,or_false]at hu;rcases hu with rfl|rfl|rfl|rfl<;>first|exact A|rfl) h)
noncomputable def QT:Option Unit:=some ()
noncomputable def Zo3:Aj U:={ ts:=[],rt:=249,fn:=fun _=>QT,ok:=by decide }
theorem Z8S:AA0 229 Zo3:=by
 refine⟨⟨f229,func229,by kernel_rfl,by kernel_rfl⟩,?_⟩
 rintro x a ha fz w vs z hg hr
 cases ha;cases hr.Fa;refine(callsIn_wide.1 (ZCq Fence.wide 3 trivial trivial trivial trivial rfl (by omega) w)).mono ?_
 rintro e w' ⟨rfl,J,M,N,O,Q,S,Y,a8,a9,A,C,D,F,h⟩
 refine⟨_,fun b c=>fz b c\/(w.heap.size<b/\∃u,w'.cell? ⟨b,c,none⟩=some u),rfl,h.below,fun _ _ h=>.inl h,fun b c h hb=>h.elim id (fun h=>absurd hb (by omega)),fun b c G=>?_,?_,rfl⟩
 ·rcases G with G|⟨_,G⟩
  ·obtain⟨u,hu⟩:=z b c G;exact⟨u,(h.below.cell (p:=⟨b,c,none⟩) (cell_lt hu)).trans hu⟩
  ·exact G
 ·obtain⟨es,c,hb,he⟩:=h.map;have I:(frmL J M N O Q S Y a8 a9 A C D F).flatMap (fun p=>[Value.int .i64 p.1,p.2])=es.toList.flatMap (fun e=>[e.key,e.val]):=by
   have h1:(es.toList.map fun x=>(x.key,x.val)).flatMap (fun q:Value×Value=>[q.1,q.2])=es.toList.flatMap (fun e=>[e.key,e.val]):=by rw[List.flatMap_map]
   rw[<- h1,he,List.flatMap_map]
  refine .GU w.heap.size es c (us:=(frmL J M N O Q S Y a8 a9 A C D F).flatMap (fun p=>[Value.int .i64 p.1,p.2])) ?_ hb I .nil;exact JR (xs:=[]) (by decide) (.Eo .nil) rfl (JR (xs:=[]) (by decide) (.Eo .nil) rfl (JR (xs:=[]) (by decide) (.Eo .nil) rfl (JR (xs:=[]) (by decide) (.Eo .nil) rfl (JR (xs:=[8]) (by decide) (MI h fz [8] (by simp[LG]) (by decide) (by decide)) rfl (JR (xs:=[8]) (by decide) (MI h fz [8] (by simp[LG]) (by decide) (by decide)) rfl (JR (xs:=[1]) (by decide) (MI h fz [1] (by simp[LG]) (by decide) (by decide)) rfl (JR (xs:=[1]) (by decide) (MI h fz [1] (by simp[LG]) (by decide) (by decide)) rfl (JR (xs:=[1,2,2,2,2,2]) (by decide) (MI h fz [1,2,2,2,2,2] (by simp[LG]) (by decide) (by decide)) rfl (JR (xs:=[5,2]) (by decide) (MI h fz [5,2] (by simp[LG]) (by decide) (by decide)) rfl (JR (xs:=[1,2,2,2,2]) (by decide) (MI h fz [1,2,2,2,2] (by simp[LG]) (by decide) (by decide)) rfl (JR (xs:=[1]) (by decide) (MI h fz [1] (by simp[LG]) (by decide) (by decide)) rfl (JR (xs:=[8,8]) (by decide) (MI h fz [8,8] (by simp[LG]) (by decide) (by decide)) rfl (JR (xs:=[8]) (by decide) (MI h fz [8] (by simp[LG]) (by decide) (by decide)) rfl (JR (xs:=[1]) (by decide) (MI h fz [1] (by simp[LG]) (by decide) (by decide)) rfl (JR (xs:=[1]) (by decide) (MI h fz [1] (by simp[LG]) (by decide) (by decide)) rfl (JR (xs:=[1,1]) (by decide) (MI h fz [1,1] (by simp[LG]) (by decide) (by decide)) rfl (.nil)))))))))))))))))
end Go.Proofs.YtjodhcdmhobmoaaGreatDoor
namespace Go.Proofs.YtjodhcdmhobmoaaGreatDoor
open Tryz
open Go Go.Proofs.YtjodhcdmhobmoaaGreatDoor.Le
set_option maxRecDepth 100000
noncomputable section
inductive Z0W where
 | b0 (a:D5)
def ZnP:Z0W->Tr U (Ua⊕Z0W)
 | .b0 a=>.chk true (AB (⟨[(IntKind.wrap .u64 (a.EK)),(IntKind.wrap .u64 (a.Dx)),(IntKind.wrap .u64 (a.D9)),(IntKind.wrap .u64 (a.Dh)),(IntKind.wrap .u64 (a.ER))]⟩:Ua))
def pY (a:D5):Option Ua:=AU ZnP (.b0 a)
def Z8s:Shape:=⟨[.agg [.v 24 5 true]],[]⟩
def Zlm:Shape:=⟨[.one (.own 25 0)],[.row 25 true]⟩
noncomputable def ZnU:HMod U:=⟨[k17],[],Z8s,Zlm,true,1379,fun(y:Ua)=>(((),()),(y.q0,())),fun x=>pY x.1.1.1,okS rfl⟩
def ZmN:Z0W->BC U
 | .b0 a=>Dz f293 Z8s (((a,()),()),())
theorem Z8x:DK Tryz.prog B0 293 ZnU:=okR Ae Af AN [[.own 25 1]] [.row true] 0 ZmN func293 (fun p=>by cases p<;>kernel_rfl) (by kernel_rfl) fun x=>by kernel_rfl
def Z8D:S1 (AO×Unit) (List Int)
 | (b,_)=>.bind 1379 (pY b.BB) (fun(a:Ua)=>let c:=a.q0++[(IntKind.wrap .u64 (b.Ci))];.chk true (kl a.q0 (.chk (kA (a.q0.length+1) 8) (kl c (AB c)))))
def Z0M (a:AO):Option (List Int):=AU Z8D (a,())
theorem Zmw:AA1 292 [156] 254 (fun x=>Z0M x.1) rfl:=ok1 Ae (hc [] Z8x Af) func292 (fun _=>by kernel_rfl) (by kernel_rfl)
inductive Z0Y where
 | b0 (a:List GV)
 | b1 (a:List GV) (b c:Int)
 | b2 (a:List GV) (b c:Int)
def aQ:Z0Y->Tr U (Bool⊕Z0Y)
 | .b0 a=>AP (.b1 a (↑a.length:Int) (0:Int))
 | .b1 c d a=>.br (decide (a<d)) (.chk (kI a c) (.bind 174 (c[(Int.toNat a)]?) (fun(b:GV)=>.br (decide (b.Vr<b.f_low)) (AB false) (.br (decide (b.Vr>b.yJ)) (AB false) (AP (.b2 c d a)))))) (AB true)
 | .b2 a b c=>AP (.b1 a b (AQ (c+1)))
def Z0V (a:List GV):Option Bool:=AU aQ (.b0 a)
def oH:Lay:=LT [5,6,7] [.v 240,.v 3,.v 3] []
def ZmP:Z0Y->BC U
 | .b0 a=>Bd f124 [240] (a,())
 | .b1 a b c=>AA3 f124 [1,0,1,0,0,0] oH (a,b,c,())
 | .b2 a b c=>AA3 f124 [1,0,1,0,0,1,1,1] oH (a,b,c,())
theorem ZmK:AA1 124 [240] 4 (fun x=>Z0V x.1) rfl:=Bh Ae Af (al [(2,oH),(6,oH)]) ZmP func124 (fun p=>by cases p<;>kernel_rfl) (by kernel_rfl) fun _=>rfl
def Z7f:S1 (D5×Unit) Int
 | (a,_)=>.chk true (.bind 4 (Z0V ([(⟨a.EK,1,8⟩:GV),(⟨a.Dx,0,3200⟩:GV),(⟨a.D9,6,3200⟩:GV),(⟨a.Dh,0,499⟩:GV),(⟨a.ER,10,3200⟩:GV)])) (fun(b:Bool)=>.br (!b) (AB (5:Int)) (.br (decide (a.EK>=a.D9)) (AB (11:Int)) (.br (decide (a.Dx>a.D9)) (AB (11:Int)) (.br (decide ((AQ (a.ER*10000))<=(AQ ((AQ ((AQ ((2:Int)*(AQ (a.Dh+1))))*a.D9))*1250)))) (AB (11:Int)) (AB (0:Int)))))))
def nS (a:D5):Option Int:=AU Z7f (a,())
theorem Z72:AA1 122 [24] 45 (fun x=>nS x.1) rfl:=ok1 (mc ZmK Ae) Af func122 (fun _=>by kernel_rfl) (by kernel_rfl)
def Z8K:S1 (AO×Unit) Int
 | (a,_)=>.bind 45 (nS a.BB) (fun(b:Int)=>AB b)
def Z0I (a:AO):Option Int:=AU Z8K (a,())
theorem Zm7:AA1 296 [156] 45 (fun x=>Z0I x.1) rfl:=ok1 (mc Z72 Ae) Af func296 (fun _=>by kernel_rfl) (by kernel_rfl)
def ZmF:S1 (AO×Unit) (List Int)
 | (a,_)=>.chk true (AB ([a.Map,(IntKind.wrap .u64 (a.Ci))]))
def Z0T (a:AO):Option (List Int):=AU ZmF (a,())
theorem ZlN:AA1 297 [156] 254 (fun x=>Z0T x.1) rfl:=ok1 Ae Af func297 (fun _=>by kernel_rfl) (by kernel_rfl)
def Z9q:S1 (Int×Unit) Int
 | (a,_)=>.br ((bits .andNot .u64 a (137438953471:Int)) != 0) (AB (5:Int)) (.bind 3 (Wn a) (fun(b:Int)=>.br (decide (b<2)) (AB (1:Int)) (AB (0:Int))))
def Z1f (a:Int):Option Int:=AU Z9q (a,())
theorem Znq:AA1 123 [26] 45 (fun x=>Z1f x.1) rfl:=ok1 (mc Z0Z Ae) Af func123 (fun _=>by kernel_rfl) (by kernel_rfl)
def Z8w:S1 (AO×Unit) Int
 | (a,_)=>.bind 45 (Z1f a.Map) (fun(b:Int)=>AB b)
def Z0L (a:AO):Option Int:=AU Z8w (a,())
theorem Zm2:AA1 299 [156] 45 (fun x=>Z0L x.1) rfl:=ok1 (mc Znq Ae) Af func299 (fun _=>by kernel_rfl) (by kernel_rfl)
def Z8B:S1 (AO×Unit) (List Int)
 | (b,_)=>.bind 1379 (pY b.BB) (fun(a:Ua)=>kl a.q0 (AB a.q0))
def Z0F (a:AO):Option (List Int):=AU Z8B (a,())
theorem Zma:AA1 300 [156] 254 (fun x=>Z0F x.1) rfl:=ok1 Ae (hc [] Z8x Af) func300 (fun _=>by kernel_rfl) (by kernel_rfl)
def Z8t:S1 (AO×Unit) Int
 | (a,_)=>.bind 45 (nS a.BB) (fun(b:Int)=>AB b)
def Z0K (a:AO):Option Int:=AU Z8t (a,())
theorem ZlS:AA1 302 [156] 45 (fun x=>Z0K x.1) rfl:=ok1 (mc Z72 Ae) Af func302 (fun _=>by kernel_rfl) (by kernel_rfl)
def Zm6:S1 (AO×Unit) (List Int)
 | (a,_)=>.chk true (AB ([(IntKind.wrap .u64 (a.Bl))]))
def Z0h (a:AO):Option (List Int):=AU Zm6 (a,())
theorem ZkP:AA1 303 [156] 254 (fun x=>Z0h x.1) rfl:=ok1 Ae Af func303 (fun _=>by kernel_rfl) (by kernel_rfl)
def Z8P:S1 (Int×Int×Int×Unit) Int
 | (a,b,c,_)=>.br (decide (a<b)) (AB (5:Int)) (.br (decide (a>c)) (AB (5:Int)) (AB (0:Int)))
def Rw (a b c:Int):Option Int:=AU Z8P (a,b,c,())
theorem aN:AA1 306 [3,3,3] 45 (fun x=>Rw x.1 x.2.1 x.2.2.1) rfl:=ok1 Ae Af func306 (fun _=>by kernel_rfl) (by kernel_rfl)
def Z8d:S1 (AO×Unit) Int
 | (a,_)=>.bind 45 (Rw a.Bl (0:Int) (255:Int)) (fun(b:Int)=>AB b)
def Z0i (a:AO):Option Int:=AU Z8d (a,())
theorem ZkT:AA1 305 [156] 45 (fun x=>Z0i x.1) rfl:=ok1 (mc aN Ae) Af func305 (fun _=>by kernel_rfl) (by kernel_rfl)
def ZlL:S1 (AO×Unit) (List Int)
 | (a,_)=>.chk true (AB ([a.Bj,a.Mark]))
def Z0B (a:AO):Option (List Int):=AU ZlL (a,())
theorem Zlg:AA1 307 [156] 254 (fun x=>Z0B x.1) rfl:=ok1 Ae Af func307 (fun _=>by kernel_rfl) (by kernel_rfl)
def Z9S:S1 (AO×Unit) Int
 | (a,_)=>AB (0:Int)
def Oz (a:AO):Option Int:=AU Z9S (a,())
theorem Zon:AA1 309 [156] 45 (fun x=>Oz x.1) rfl:=ok1 Ae Af func309 (fun _=>by kernel_rfl) (by kernel_rfl)
def Zmc:S1 (AO×Unit) (List Int)
 | (a,_)=>.chk true (AB ([a.Bj]))
def Z0v (a:AO):Option (List Int):=AU Zmc (a,())
theorem Zl3:AA1 310 [156] 254 (fun x=>Z0v x.1) rfl:=ok1 Ae Af func310 (fun _=>by kernel_rfl) (by kernel_rfl)
def Zly:S1 (AO×Unit) (List Int)
 | (a,_)=>.chk true (AB ([(IntKind.wrap .u64 (a.DL))]))
def Z0g (a:AO):Option (List Int):=AU Zly (a,())
theorem ZkQ:AA1 312 [156] 254 (fun x=>Z0g x.1) rfl:=ok1 Ae Af func312 (fun _=>by kernel_rfl) (by kernel_rfl)
def Z8f:S1 (AO×Unit) Int
 | (a,_)=>.bind 45 (Rw a.DL (0:Int) (255:Int)) (fun(b:Int)=>AB b)
def Z0C (a:AO):Option Int:=AU Z8f (a,())
theorem Zl6:AA1 314 [156] 45 (fun x=>Z0C x.1) rfl:=ok1 (mc aN Ae) Af func314 (fun _=>by kernel_rfl) (by kernel_rfl)
def Zlt:S1 (AO×Unit) (List Int)
 | (a,_)=>.chk true (AB ([(IntKind.wrap .u64 (a.Version))]))
def Z0l (a:AO):Option (List Int):=AU Zlt (a,())
theorem ZkM:AA1 315 [156] 254 (fun x=>Z0l x.1) rfl:=ok1 Ae Af func315 (fun _=>by kernel_rfl) (by kernel_rfl)
def Z8g:S1 (AO×Unit) Int
 | (a,_)=>.bind 45 (Rw a.Version (0:Int) (255:Int)) (fun(b:Int)=>AB b)
def Z0w (a:AO):Option Int:=AU Z8g (a,())
theorem Zle:AA1 317 [156] 45 (fun x=>Z0w x.1) rfl:=ok1 (mc aN Ae) Af func317 (fun _=>by kernel_rfl) (by kernel_rfl)
def ZlI:S1 (AO×Unit) (List Int)
 | (a,_)=>.chk true (AB ([(IntKind.wrap .u64 (a.Bl)),(IntKind.wrap .u64 (a.DL))]))
def Z0q (a:AO):Option (List Int):=AU ZlI (a,())
theorem ZkR:AA1 318 [156] 254 (fun x=>Z0q x.1) rfl:=ok1 Ae Af func318 (fun _=>by kernel_rfl) (by kernel_rfl)
def Z8n:S1 (AO×Unit) Int
 | (a,_)=>.bind 45 (Rw a.Bl (0:Int) (255:Int)) (fun(b:Int)=>.bind 45 (Rw a.DL (0:Int) (255:Int)) (fun(c:Int)=>AB (if c>b then c else b)))
def Z0z (a:AO):Option Int:=AU Z8n (a,())
theorem Zll:AA1 320 [156] 45 (fun x=>Z0z x.1) rfl:=ok1 (mc aN Ae) Af func320 (fun _=>by kernel_rfl) (by kernel_rfl)
def Zng:S1 (AO×Unit) (List Int)
 | (a,_)=>.chk true (AB ([]:List Int))
def Wi (a:AO):Option (List Int):=AU Zng (a,())
theorem Zmh:AA1 348 [156] 254 (fun x=>Wi x.1) rfl:=ok1 Ae Af func348 (fun _=>by kernel_rfl) (by kernel_rfl)
def Zks:S1 (AO×Unit) (List Int)
 | (a,_)=>.chk true (AB ([a.Bv]))
def nU (a:AO):Option (List Int):=AU Zks (a,())
theorem ZjY:AA1 350 [156] 254 (fun x=>nU x.1) rfl:=ok1 Ae Af func350 (fun _=>by kernel_rfl) (by kernel_rfl)
def ZmE:S1 (AO×Unit) (List Int)
 | (a,_)=>.chk true (AB ([(IntKind.wrap .u64 (a.Length))]))
def o8 (a:AO):Option (List Int):=AU ZmE (a,())
theorem Zl2:AA1 352 [156] 254 (fun x=>o8 x.1) rfl:=ok1 Ae Af func352 (fun _=>by kernel_rfl) (by kernel_rfl)
def Z8l:S1 (AO×Unit) Int
 | (a,_)=>.bind 45 (Rw a.Length (27:Int) (251:Int)) (fun(b:Int)=>AB b)
def oP (a:AO):Option Int:=AU Z8l (a,())
theorem Zl0:AA1 354 [156] 45 (fun x=>oP x.1) rfl:=ok1 (mc aN Ae) Af func354 (fun _=>by kernel_rfl) (by kernel_rfl)
def Z8A:S1 ((List Int)×Unit) D5
 | (a,_)=>.chk (kI (0:Int) a) (.bind 25 (a[(Int.toNat 0)]?) (fun(b:Int)=>.chk (kI (1:Int) a) (.bind 25 (a[(Int.toNat 1)]?) (fun(c:Int)=>.chk (kI (2:Int) a) (.bind 25 (a[(Int.toNat 2)]?) (fun(d:Int)=>.chk (kI (3:Int) a) (.bind 25 (a[(Int.toNat 3)]?) (fun(e:Int)=>.chk (kI (4:Int) a) (.bind 25 (a[(Int.toNat 4)]?) (fun(f:Int)=>AB (⟨(AQ (b)),(AQ (c)),(AQ (d)),(AQ (e)),(AQ (f))⟩:D5)))))))))))
def pJ (a:List Int):Option D5:=AU Z8A (a,())
theorem Z8p:AA1 295 [254] 24 (fun x=>pJ x.1) rfl:=ok1 Ae Af func295 (fun _=>by kernel_rfl) (by kernel_rfl)
inductive Z0U where
 | b0 (a:List Int) (b:AO)
def Z8u:Z0U->Tr U (U3⊕Z0U)
 | .b0 a b=>.bind 24 (pJ a) (fun(c:D5)=>.chk (kI (5:Int) a) (.bind 25 (a[(Int.toNat 5)]?) (fun(d:Int)=>AB (⟨({ b with BB:=c,Ci:=(IntKind.wrap .u16 (d)) }:AO)⟩:U3))))
def U6 (a:List Int) (b:AO):Option U3:=AU Z8u (.b0 a b)
def Z7O:Shape:=⟨[PQ 0,OV 254],[VA 156 15]⟩
def Zko:Shape:=⟨[],[VA 156 15]⟩
noncomputable def Zn9:HMod U:=⟨[KP,[.s 25 1]],[.var k0],Z7O,Zko,false,1370,fun(y:U3)=>((),((y.q0,()),())),fun x=>U6 x.1.2.1.1 x.2.1.1,okS rfl⟩
def Zmd:Z0U->BC U
 | .b0 a b=>Dz f294 Z7O (((),((a,()),())),((b,()),()))
theorem Z8e:DK Tryz.prog B0 294 Zn9:=okR (mc Z8p Ae) Af AN [] [.var k0] 1 Zmd func294 (fun p=>by cases p<;>kernel_rfl) (by kernel_rfl) fun x=>by kernel_rfl
inductive Z0P where
 | b0 (a:List Int) (b:AO)
def ZmL:Z0P->Tr U (U7⊕Z0P)
 | .b0 a b=>.chk (kI (0:Int) a) (.bind 25 (a[(Int.toNat 0)]?) (fun(c:Int)=>.chk (kI (1:Int) a) (.bind 25 (a[(Int.toNat 1)]?) (fun(d:Int)=>AB (⟨({ b with Map:=c,Ci:=(IntKind.wrap .u16 (d)) }:AO)⟩:U7)))))
def U5 (a:List Int) (b:AO):Option U7:=AU ZmL (.b0 a b)
def Z7X:Shape:=⟨[PQ 0,OV 254],[VA 156 15]⟩
def Zkz:Shape:=⟨[],[VA 156 15]⟩
noncomputable def Zn8:HMod U:=⟨[KP,[.s 25 1]],[.var k0],Z7X,Zkz,false,1371,fun(y:U7)=>((),((y.q0,()),())),fun x=>U5 x.1.2.1.1 x.2.1.1,okS rfl⟩
def ZmC:Z0P->BC U
 | .b0 a b=>Dz f298 Z7X (((),((a,()),())),((b,()),()))
theorem Z8j:DK Tryz.prog B0 298 Zn8:=okR Ae Af AN [] [.var k0] 1 ZmC func298 (fun p=>by cases p<;>kernel_rfl) (by kernel_rfl) fun x=>by kernel_rfl
inductive Z0S where
 | b0 (a:List Int) (b:AO)
def Z8G:Z0S->Tr U (U2⊕Z0S)
 | .b0 a b=>.bind 24 (pJ a) (fun(c:D5)=>AB (⟨({ b with BB:=c }:AO)⟩:U2))
def U4 (a:List Int) (b:AO):Option U2:=AU Z8G (.b0 a b)
def Z7R:Shape:=⟨[PQ 0,OV 254],[VA 156 15]⟩
def Zkk:Shape:=⟨[],[VA 156 15]⟩
noncomputable def Zn0:HMod U:=⟨[KP,[.s 25 1]],[.var k0],Z7R,Zkk,false,1372,fun(y:U2)=>((),((y.q0,()),())),fun x=>U4 x.1.2.1.1 x.2.1.1,okS rfl⟩
def Zmf:Z0S->BC U
 | .b0 a b=>Dz f301 Z7R (((),((a,()),())),((b,()),()))
theorem Z8r:DK Tryz.prog B0 301 Zn0:=okR (mc Z8p Ae) Af AN [] [.var k0] 1 Zmf func301 (fun p=>by cases p<;>kernel_rfl) (by kernel_rfl) fun x=>by kernel_rfl
inductive Z0u where
 | b0 (a:List Int) (b:AO)
def ZlV:Z0u->Tr U (UO⊕Z0u)
 | .b0 a b=>.chk (kI (0:Int) a) (.bind 25 (a[(Int.toNat 0)]?) (fun(c:Int)=>AB (⟨({ b with Bl:=(AQ (c)) }:AO)⟩:UO)))
def UW (a:List Int) (b:AO):Option UO:=AU ZlV (.b0 a b)
def Z7H:Shape:=⟨[PQ 0,OV 254],[VA 156 15]⟩
def Zk1:Shape:=⟨[],[VA 156 15]⟩
noncomputable def Zmp:HMod U:=⟨[KP,[.s 25 1]],[.var k0],Z7H,Zk1,false,1373,fun(y:UO)=>((),((y.q0,()),())),fun x=>UW x.1.2.1.1 x.2.1.1,okS rfl⟩
def ZkN:Z0u->BC U
 | .b0 a b=>Dz f304 Z7H (((),((a,()),())),((b,()),()))
theorem Z7Z:DK Tryz.prog B0 304 Zmp:=okR Ae Af AN [] [.var k0] 1 ZkN func304 (fun p=>by cases p<;>kernel_rfl) (by kernel_rfl) fun x=>by kernel_rfl
inductive Z0A where
 | b0 (a:List Int) (b:AO)
def ZlP:Z0A->Tr U (UM⊕Z0A)
 | .b0 a b=>.chk (kI (0:Int) a) (.bind 25 (a[(Int.toNat 0)]?) (fun(c:Int)=>.chk (kI (1:Int) a) (.bind 25 (a[(Int.toNat 1)]?) (fun(d:Int)=>AB (⟨({ b with Bj:=c,Mark:=d }:AO)⟩:UM)))))
def UX (a:List Int) (b:AO):Option UM:=AU ZlP (.b0 a b)
def Z7z:Shape:=⟨[PQ 0,OV 254],[VA 156 15]⟩
def ZjT:Shape:=⟨[],[VA 156 15]⟩
noncomputable def Zmo:HMod U:=⟨[KP,[.s 25 1]],[.var k0],Z7z,ZjT,false,1374,fun(y:UM)=>((),((y.q0,()),())),fun x=>UX x.1.2.1.1 x.2.1.1,okS rfl⟩
def Zl5:Z0A->BC U
 | .b0 a b=>Dz f308 Z7z (((),((a,()),())),((b,()),()))
theorem Z85:DK Tryz.prog B0 308 Zmo:=okR Ae Af AN [] [.var k0] 1 Zl5 func308 (fun p=>by cases p<;>kernel_rfl) (by kernel_rfl) fun x=>by kernel_rfl
inductive Z0p where
 | b0 (a:List Int) (b:AO)
def Zlr:Z0p->Tr U (UT⊕Z0p)
 | .b0 a b=>.chk (kI (0:Int) a) (.bind 25 (a[(Int.toNat 0)]?) (fun(c:Int)=>AB (⟨({ b with Bj:=c }:AO)⟩:UT)))
def UU (a:List Int) (b:AO):Option UT:=AU Zlr (.b0 a b)
def Z7G:Shape:=⟨[PQ 0,OV 254],[VA 156 15]⟩
def Zk3:Shape:=⟨[],[VA 156 15]⟩
noncomputable def Zlv:HMod U:=⟨[KP,[.s 25 1]],[.var k0],Z7G,Zk3,false,1375,fun(y:UT)=>((),((y.q0,()),())),fun x=>UU x.1.2.1.1 x.2.1.1,okS rfl⟩
def ZkO:Z0p->BC U
 | .b0 a b=>Dz f311 Z7G (((),((a,()),())),((b,()),()))
theorem Z83:DK Tryz.prog B0 311 Zlv:=okR Ae Af AN [] [.var k0] 1 ZkO func311 (fun p=>by cases p<;>kernel_rfl) (by kernel_rfl) fun x=>by kernel_rfl
inductive Z0d where
 | b0 (a:List Int) (b:AO)
def Zmt:Z0d->Tr U (UL⊕Z0d)
 | .b0 a b=>.chk (kI (0:Int) a) (.bind 25 (a[(Int.toNat 0)]?) (fun(c:Int)=>AB (⟨({ b with DL:=(AQ (c)) }:AO)⟩:UL)))
def UR (a:List Int) (b:AO):Option UL:=AU Zmt (.b0 a b)
def Z7F:Shape:=⟨[PQ 0,OV 254],[VA 156 15]⟩
def ZjV:Shape:=⟨[],[VA 156 15]⟩
noncomputable def Zmr:HMod U:=⟨[KP,[.s 25 1]],[.var k0],Z7F,ZjV,false,1376,fun(y:UL)=>((),((y.q0,()),())),fun x=>UR x.1.2.1.1 x.2.1.1,okS rfl⟩
def Zlb:Z0d->BC U
 | .b0 a b=>Dz f313 Z7F (((),((a,()),())),((b,()),()))
theorem Z7W:DK Tryz.prog B0 313 Zmr:=okR Ae Af AN [] [.var k0] 1 Zlb func313 (fun p=>by cases p<;>kernel_rfl) (by kernel_rfl) fun x=>by kernel_rfl
inductive Z0j where
 | b0 (a:List Int) (b:AO)
def Zmj:Z0j->Tr U (UN⊕Z0j)
 | .b0 a b=>.chk (kI (0:Int) a) (.bind 25 (a[(Int.toNat 0)]?) (fun(c:Int)=>AB (⟨({ b with Version:=(AQ (c)) }:AO)⟩:UN)))
def UK (a:List Int) (b:AO):Option UN:=AU Zmj (.b0 a b)
def Z7I:Shape:=⟨[PQ 0,OV 254],[VA 156 15]⟩
def ZjS:Shape:=⟨[],[VA 156 15]⟩
noncomputable def ZlU:HMod U:=⟨[KP,[.s 25 1]],[.var k0],Z7I,ZjS,false,1377,fun(y:UN)=>((),((y.q0,()),())),fun x=>UK x.1.2.1.1 x.2.1.1,okS rfl⟩
def Zlf:Z0j->BC U
 | .b0 a b=>Dz f316 Z7I (((),((a,()),())),((b,()),()))
theorem Z84:DK Tryz.prog B0 316 ZlU:=okR Ae Af AN [] [.var k0] 1 Zlf func316 (fun p=>by cases p<;>kernel_rfl) (by kernel_rfl) fun x=>by kernel_rfl
inductive Z0f where
 | b0 (a:List Int) (b:AO)
def Zml:Z0f->Tr U (UQ⊕Z0f)
 | .b0 a b=>.chk (kI (0:Int) a) (.bind 25 (a[(Int.toNat 0)]?) (fun(c:Int)=>.chk (kI (1:Int) a) (.bind 25 (a[(Int.toNat 1)]?) (fun(d:Int)=>AB (⟨({ b with Bl:=(AQ (c)),DL:=(AQ (d)) }:AO)⟩:UQ)))))
def UY (a:List Int) (b:AO):Option UQ:=AU Zml (.b0 a b)
def Z7E:Shape:=⟨[PQ 0,OV 254],[VA 156 15]⟩
def ZjZ:Shape:=⟨[],[VA 156 15]⟩
noncomputable def Zmx:HMod U:=⟨[KP,[.s 25 1]],[.var k0],Z7E,ZjZ,false,1378,fun(y:UQ)=>((),((y.q0,()),())),fun x=>UY x.1.2.1.1 x.2.1.1,okS rfl⟩
def ZkF:Z0f->BC U
 | .b0 a b=>Dz f319 Z7E (((),((a,()),())),((b,()),()))
theorem Z81:DK Tryz.prog B0 319 Zmx:=okR Ae Af AN [] [.var k0] 1 ZkF func319 (fun p=>by cases p<;>kernel_rfl) (by kernel_rfl) fun x=>by kernel_rfl
inductive Z0H where
 | b0 (a:List Int) (b:AO)
def Znk:Z0H->Tr U (LU⊕Z0H)
 | .b0 b a=>AB (⟨a⟩:LU)
def Jd (a:List Int) (b:AO):Option LU:=AU Znk (.b0 a b)
def Z7L:Shape:=⟨[PQ 0,OV 254],[VA 156 15]⟩
def Zkt:Shape:=⟨[],[VA 156 15]⟩
noncomputable def Znd:HMod U:=⟨[KP,[.s 25 1]],[.var k0],Z7L,Zkt,false,1367,fun(y:LU)=>((),((y.q0,()),())),fun x=>Jd x.1.2.1.1 x.2.1.1,okS rfl⟩
def ZlY:Z0H->BC U
 | .b0 a b=>Dz f349 Z7L (((),((a,()),())),((b,()),()))
theorem Z8q:DK Tryz.prog B0 349 Znd:=okR Ae Af AN [] [.var k0] 1 ZlY func349 (fun p=>by cases p<;>kernel_rfl) (by kernel_rfl) fun x=>by kernel_rfl
inductive ZY where
 | b0 (a:List Int) (b:AO)
def Zkn:ZY->Tr U (QQ⊕ZY)
 | .b0 a b=>.chk (kI (0:Int) a) (.bind 25 (a[(Int.toNat 0)]?) (fun(c:Int)=>AB (⟨({ b with Bv:=c }:AO)⟩:QQ)))
def Ov (a:List Int) (b:AO):Option QQ:=AU Zkn (.b0 a b)
def Z78:Shape:=⟨[PQ 0,OV 254],[VA 156 15]⟩
def Zju:Shape:=⟨[],[VA 156 15]⟩
noncomputable def Zkp:HMod U:=⟨[KP,[.s 25 1]],[.var k0],Z78,Zju,false,1368,fun(y:QQ)=>((),((y.q0,()),())),fun x=>Ov x.1.2.1.1 x.2.1.1,okS rfl⟩
def Zkd:ZY->BC U
 | .b0 a b=>Dz f351 Z78 (((),((a,()),())),((b,()),()))
theorem Z7h:DK Tryz.prog B0 351 Zkp:=okR Ae Af AN [] [.var k0] 1 Zkd func351 (fun p=>by cases p<;>kernel_rfl) (by kernel_rfl) fun x=>by kernel_rfl
inductive Z0s where
 | b0 (a:List Int) (b:AO)
def Zlx:Z0s->Tr U (QS⊕Z0s)
 | .b0 a b=>.chk (kI (0:Int) a) (.bind 25 (a[(Int.toNat 0)]?) (fun(c:Int)=>AB (⟨({ b with Length:=(AQ (c)) }:AO)⟩:QS)))
def Oy (a:List Int) (b:AO):Option QS:=AU Zlx (.b0 a b)
def Z7u:Shape:=⟨[PQ 0,OV 254],[VA 156 15]⟩
def Zk0:Shape:=⟨[],[VA 156 15]⟩
noncomputable def Zlo:HMod U:=⟨[KP,[.s 25 1]],[.var k0],Z7u,Zk0,false,1369,fun(y:QS)=>((),((y.q0,()),())),fun x=>Oy x.1.2.1.1 x.2.1.1,okS rfl⟩
def Zl1:Z0s->BC U
 | .b0 a b=>Dz f353 Z7u (((),((a,()),())),((b,()),()))
theorem Z7Q:DK Tryz.prog B0 353 Zlo:=okR Ae Af AN [] [.var k0] 1 Zl1 func353 (fun p=>by cases p<;>kernel_rfl) (by kernel_rfl) fun x=>by kernel_rfl
def FT (z:AO) (g:AO->Option (List Int)) (ky:Nat) (f:List Int->AO->Option (U.Ty ky)) (q:U.Ty ky->AO) (h:AO->Option Int):Tr U (Int⊕(AO×Unit)):=
 .br (!true) (AB (12:Int)) (.bind 254 (g z) (fun(A:List Int)=>.bind ky (f A (⟨z.Kind,Be,0,0,0,0,0,0,0,0,0⟩:AO)) (fun D=>.br (!(Vm (q D) z)) (AB (1:Int)) (.bind 45 (h z) (fun(C:Int)=>AB C)))))
def JM:S1 (AO×Unit) Int
 | (a,_)=>let e:=FT a o8 1369 Oy QS.q0 oP;let d:=FT a nU 1368 Ov QQ.q0 Oz;let c:=FT a Wi 1367 Jd LU.q0 Oz;.bind 249 (QT) (fun(b:Unit)=>.br (a.Kind==5) c (.br (a.Kind==6) c (.br (a.Kind==18) c (.br (a.Kind==19) c (.br (a.Kind==8) d (.br (a.Kind==9) d (.br (a.Kind==20) e (.br (a.Kind==21) e (.br (a.Kind==0) (FT a Z0M 1370 U6 U3.q0 Z0I) (.br (a.Kind==1) (FT a Z0T 1371 U5 U7.q0 Z0L) (.br (a.Kind==15) (FT a Z0F 1372 U4 U2.q0 Z0K) (.br (a.Kind==2) (FT a Z0h 1373 UW UO.q0 Z0i) (.br (a.Kind==3) (FT a Z0B 1374 UX UM.q0 Oz) (.br (a.Kind==4) (FT a Z0v 1375 UU UT.q0 Oz) (.br (a.Kind==7) (FT a Z0g 1376 UR UL.q0 Z0C) (.br (a.Kind==12) (FT a Z0l 1377 UK UN.q0 Z0w) (.br (a.Kind==13) (FT a Z0q 1378 UY UQ.q0 Z0z) (.br (!false) (AB (12:Int)) (.fail)))))))))))))))))))
def O1 (a:AO):Option Int:=AU JM (a,())
theorem ZnX:AA1 228 [156] 45 (fun x=>O1 x.1) rfl:=ok1 (mc Z8S (mc Zmw (mc Zm7 (mc ZlN (mc Zm2 (mc Zma (mc ZlS (mc ZkP (mc ZkT (mc Zlg (mc Zon (mc Zl3 (mc ZkQ (mc Zl6 (mc ZkM (mc Zle (mc ZkR (mc Zll (mc Zmh (mc ZjY (mc Zl2 (mc Zl0 Ae)))))))))))))))))))))) (hc [] Z8e (hc [] Z8j (hc [] Z8r (hc [] Z7Z (hc [] Z85 (hc [] Z83 (hc [] Z7W (hc [] Z84 (hc [] Z81 (hc [] Z8q (hc [] Z7h (hc [] Z7Q Af)))))))))))) func228 (fun _=>by kernel_rfl) (by kernel_rfl)
end
noncomputable section
inductive Z1Q where
 | b0 (a b:List Int)
 | b1 (a b:List Int) (c:Int) (d:List Int) (e f:Int)
 | b2 (a b c:List Int) (d e:Int)
 | b3 (a b:List Int) (c d:Int) (e:List Int) (f g h i:Int)
def LX:Z1Q->Tr U (((List Int)×(List Int)×Int)⊕Z1Q)
 | .b0 b a=>AP (.b1 b a (0:Int) a (↑a.length:Int) (0:Int))
 | .b1 b c e d f a=>let i:=([]:List Int);.br (decide (a<f)) (.chk (kI a d) (.bind 3 (d[(Int.toNat a)]?) (fun(g:Int)=>.bind 4 (qL g) (fun(h:Bool)=>.br (!h) (.chk true (.chk true (AB (i,i,(5:Int))))) (AP (.b1 b c (AQ (e+g)) d f (AQ (a+1)))))))) (.br (decide ((↑b.length:Int)<e)) (.chk true (.chk true (AB (i,i,(3:Int))))) (.chk true (AP (.b2 b i c (↑c.length:Int) (0:Int)))))
 | .b2 d a c e b=>.br (decide (b<e)) (.chk (kI b c) (.bind 3 (c[(Int.toNat b)]?) (fun(f:Int)=>kl a (AP (.b3 d a f (0:Int) c e b f (0:Int)))))) (.chk true (.bind 62 (Ue ([d])) (fun(g:List Int)=>kl a (AB (a,g,(0:Int))))))
 | .b3 a b d e f g h i c=>let l:=Int.toNat d;let k:=AQ ((8:Int)*c);.br (decide (c<i)) (.chk (kI c a) (.bind 5 (a[(Int.toNat c)]?) (fun(j:Int)=>.chk (decide (0<=k)) (kl b (AP (.b3 a b d (bits .or .u64 e (IntKind.wrap .u64 ((IntKind.wrap .u64 (j))*2 ^ (min (Int.toNat k) (IntKind.bits .u64))))) f g h i (AQ (c+1)))))))) (.chk true (kl b (.chk (kA (b.length+1) 8) (.chk (decide (0<=d/\d<=(↑a.length:Int))) (kl (b++[e]) (AP (.b2 ((a.drop l).take (a.length - l)) (b++[e]) f g (AQ (h+1)))))))))
def bP (a b:List Int):Option ((List Int)×(List Int)×Int):=AU LX (.b0 a b)
def Z9r:Lay:=LT [0,1,7,15,16,17] [.v 62,.v 226,.v 3,.v 226,.v 3,.v 3] []
def Z9n:Lay:=LT [0,10,32,33,34] [.v 62,.o 25 1 0,.v 226,.v 3,.v 3] [.r 25]
def Z9b:Lay:=LT [0,10,12,13,32,33,34,38,39] [.v 62,.o 25 1 0,.v 3,.v 25,.v 226,.v 3,.v 3,.v 3,.v 3] [.r 25]
def Zp0:Z1Q->BC U
 | .b0 a b=>Bd f276 [62,226] (a,b,())
 | .b1 a b c d e f=>AA3 f276 [1,1,0,1,0,0,0] Z9r (a,b,c,d,e,f,())
 | .b2 a b c d e=>AA3 f276 [1,1,1,1,1,0,1,0,0,0] Z9n (a,c,d,e,b,())
 | .b3 a b c d e f g h i=>AA3 f276 [1,1,1,1,1,0,1,0,0,1,1,0,0,1,1,0,1,0,0,0] Z9b (a,c,d,e,f,g,h,i,b,())
theorem ZpF:AA1 276 [62,226] 279 (fun x=>bP x.1 x.2.1) rfl:=Bh (mc bD (mc Z9j Ae)) Af (al [(3,Z9r),(13,Z9n),(17,Z9b)]) Zp0 func276 (fun p=>by cases p<;>kernel_rfl) (by kernel_rfl) fun _=>rfl
def JL (z sz:List Int) (ky:Nat) (f:List Int->AO->Option (U.Ty ky)) (q:U.Ty ky->AO):Tr U ((AO×Int)⊕((List Int)×Unit)):=
 .br (!true) (AB (EO,12)) (.chk (decide (0<=(1:Int)/\(1:Int)<=(↑z.length:Int))) (.bind 279 (bP ((z.drop (Int.toNat 1)).take (z.length - (Int.toNat 1))) sz) (fun(A:(List Int)×(List Int)×Int)=>.br (A.2.2 != 0) (AB (EO,A.2.2)) (.br (decide ((↑A.2.1.length:Int)>0)) (AB (EO,2)) (.chk (kI (0:Int) z) (.bind 5 (z[(Int.toNat 0)]?) (fun(F:Int)=>.bind ky (f A.1 (⟨(AQ (F)),Be,0,0,0,0,0,0,0,0,0⟩:AO)) (fun D=>.bind 45 (O1 (q D)) (fun(C:Int)=>.br (C != 0) (AB (EO,C)) (AB (q D,0)))))))))))
def Z93:S1 ((List Int)×Unit) (AO×Int)
 | (a,_)=>let m:=Int.toNat 1;let l:=(kI (0:Int) a);let k:=(↑a.length:Int);let j:=a[(Int.toNat 0)]?;let i:=JL a [1] 1369 Oy QS.q0;let h:=JL a [8] 1368 Ov QQ.q0;let g:=JL a [] 1367 Jd LU.q0;.br (k==0) (AB (EO,3)) (.bind 249 (QT) (fun(e:Unit)=>.chk l (.bind 5 j (fun(b:Int)=>let f:=AQ (b);.br (f==5) g (.br (f==6) g (.br (f==18) g (.br (f==19) g (.br (f==8) h (.br (f==9) h (.br (f==20) i (.br (f==21) i (.br (f==0) (JL a [1,2,2,2,2,2] 1370 U6 U3.q0) (.br (f==1) (JL a [5,2] 1371 U5 U7.q0) (.br (f==15) (JL a [1,2,2,2,2] 1372 U4 U2.q0) (.br (f==2) (JL a [1] 1373 UW UO.q0) (.br (f==3) (JL a [8,8] 1374 UX UM.q0) (.br (f==4) (JL a [8] 1375 UU UT.q0) (.br (f==7) (JL a [1] 1376 UR UL.q0) (.br (f==12) (JL a [1] 1377 UK UN.q0) (.br (f==13) (JL a [1,1] 1378 UY UQ.q0) (.br (!false) (AB (EO,12)) (.chk (decide (0<=(1:Int)/\(1:Int)<=k)) (.bind 279 (bP ((a.drop m).take (a.length - m)) ([])) (fun(c:(List Int)×(List Int)×Int)=>.br (c.2.2 != 0) (AB (EO,c.2.2)) (.br (decide ((↑c.2.1.length:Int)>0)) (AB (EO,2)) (.chk l (.bind 5 j (fun(d:Int)=>.fail))))))))))))))))))))))))))))
def LV (a:List Int):Option (AO×Int):=AU Z93 (a,())
theorem Z8J:AA1 207 [62] 231 (fun x=>LV x.1) rfl:=ok1 (mc ZnX (mc Z8S (mc ZpF Ae))) (hc [] Z8e (hc [] Z8j (hc [] Z8r (hc [] Z7Z (hc [] Z85 (hc [] Z83 (hc [] Z7W (hc [] Z84 (hc [] Z81 (hc [] Z8q (hc [] Z7h (hc [] Z7Q Af)))))))))))) func207 (fun _=>by kernel_rfl) (by kernel_rfl)
def Z7P:S1 (Int×Unit) Bool
 | (a,_)=>.br (a==0) (AB true) (AB (a==1))
def Yw (a:Int):Option Bool:=AU Z7P (a,())
theorem Z02:AA1 182 [3] 4 (fun x=>Yw x.1) rfl:=ok1 Ae Af func182 (fun _=>by kernel_rfl) (by kernel_rfl)
inductive Z1u where
 | b0 (a:A7) (b c:Int)
def Z9x:Z1u->Tr U (Ud⊕Z1u)
 | .b0 a d e=>.bind 1345 (UF a.Ah) (fun(b:Rk)=>.bind 1346 (Ro a.Ak) (fun(c:Rl)=>.chk (kL b.q0&&(kL c.q0&&(true&&true))) (AB (⟨(⟨({ a with Ah:=b.q0,Ak:=c.q0 }:A7),d,e,([]:List AO),([]:List Am)⟩:BV)⟩:Ud))))
def aZ (a:A7) (b c:Int):Option Ud:=AU Z9x (.b0 a b c)
def Z8R:Shape:=⟨[.agg [.v 39 20 true],OV 30,OV 3],[]⟩
def ZmV:Shape:=⟨[PQ 0],[.var 211 24 (Ej 1),.row 156 true,.row 138 true,.row 156 true,.row 148 true]⟩
noncomputable def ZpE:HMod U:=⟨[k1,KP,KP],[],Z8R,ZmV,true,1380,fun(y:Ud)=>(((),()),(FN y.q0)),fun x=>aZ x.1.1.1 x.1.2.1.1 x.1.2.2.1.1,okS rfl⟩
def ZoL:Z1u->BC U
 | .b0 a b c=>Dz f177 Z8R (((a,()),((b,()),((c,()),()))),())
theorem Z9p:DK Tryz.prog B0 177 ZpE:=okR Ae (hc [] Z6Y (hc [] ZN Af)) AN [KP] [.var k5,.row true,.row true,.row true,.row true] 0 ZoL func177 (fun p=>by cases p<;>kernel_rfl) (by kernel_rfl) fun x=>by kernel_rfl
inductive Z0X where
 | b0 (a:A7) (b:AO)
 | b1 (a:AO) (b:A7) (c:BV)
 | b2 (a:AO) (b:A7) (c:BV)
 | b3 (a:A7) (b:BV)
 | b4 (a:A7) (b:BV)
def OZ:Z0X->Tr U ((A7×(List Am))⊕Z0X)
 | .b0 c b=>.bind 1380 (aZ c (0:Int) (0:Int)) (fun(a:Ud)=>let e:=kL a.q0.AA.Ah&&(kL a.q0.AA.Ak&&(kL a.q0.f_out&&kL a.q0.Bg));let d:=Tr.chk e (AP (Z0X.b2 b EP a.q0));.br (a.q0.AA.Bz==0) (.br (a.q0.AA.Own==2) (.br (b.Kind==2) (.chk e (AP (.b1 b EP a.q0))) d) d) d)
 | .b1 b c a=>.chk (kL a.AA.Ah&&(kL a.AA.Ak&&(kL a.f_out&&kL a.Bg))) (AP (.b2 b c ({ a with AA:=({ a.AA with Bz:=22 }:A7) }:BV)))
 | .b2 c b a=>let e:=kL a.AA.Ah&&(kL a.AA.Ak&&(kL a.f_out&&kL a.Bg));let f:=Tr.chk e (AP (Z0X.b4 b a));.bind 4 (Yw c.Kind) (fun(d:Bool)=>.br d (.br (a.AA.Own==c.Kind) (.chk e (AP (.b3 b a))) f) f)
 | .b3 b a=>.chk (kL a.AA.Ah&&(kL a.AA.Ak&&(kL a.f_out&&kL a.Bg))) (AP (.b4 b ({ a with AA:=({ a.AA with Told:=true }:A7) }:BV)))
 | .b4 b a=>kl a.AA.Ah (kl a.AA.Ak (.chk true (AB (a.AA,([]:List Am)))))
def Z10 (a:A7) (b:AO):Option (A7×(List Am)):=AU OZ (.b0 a b)
def oL:Lay:=⟨[3,4,6],[KP,KP,KP],[.var k0,.var k1,.var k5,.row true,.row true,.row true,.row true],⟨[PQ 0,PQ 1,PQ 2],[VA 156 15,VA 39 20,.var 211 24 (Ej 3),.row 156 true,.row 138 true,.row 156 true,.row 148 true]⟩⟩
def oM:Lay:=⟨[4,6],[KP,KP],[.var k1,.var k5,.row true,.row true,.row true,.row true],⟨[PQ 0,PQ 1],[VA 39 20,.var 211 24 (Ej 2),.row 156 true,.row 138 true,.row 156 true,.row 148 true]⟩⟩
def ZmG:Z0X->BC U
 | .b0 a b=>Bd f208 [39,156] (a,b,())
 | .b1 a b c=>Ad f208 [1,1,0,1,0] oL (((),((),((),()))),((a,()),((b,()),(FN c))))
 | .b2 a b c=>Ad f208 [1,1,1,0,0] oL (((),((),((),()))),((a,()),((b,()),(FN c))))
 | .b3 a b=>Ad f208 [1,1,1,0,1,0] oM (((),((),())),((a,()),(FN b)))
 | .b4 a b=>Ad f208 [1,1,1,1,0] oM (((),((),())),((a,()),(FN b)))
theorem Zno:AA1 208 [39,156] 233 (fun x=>Z10 x.1 x.2.1) rfl:=Bh (mc Z02 Ae) (hc [] Z9p Af) (al [(3,oL),(4,oL),(5,oM),(6,oM)]) ZmG func208 (fun p=>by cases p<;>kernel_rfl) (by kernel_rfl) fun _=>rfl
def Zp8:S1 (Bc×Bool×Bool×Unit) Bc
 | (a,b,c,_)=>AB ({ a with Gf:=b,Eg:=c }:Bc)
def qM (a:Bc) (b c:Bool):Option Bc:=AU Zp8 (a,b,c,())
theorem Z9i:AA1 209 [41,4,4] 41 (fun x=>qM x.1 x.2.1 x.2.2.1) rfl:=ok1 Ae Af func209 (fun _=>by kernel_rfl) (by kernel_rfl)
inductive Z01 where
 | b0 (a:Int) (b:List Am) (c:CO)
 | b1 (a:Int) (b:List Am) (c d:Int) (e:CO)
def WV:Z01->Tr U (UH⊕Z01)
 | .b0 c b a=>.chk (kL a.Link.Ag&&(kL a.Ba&&kL a.Link.Ag)) (AP (.b1 c b (↑b.length:Int) (0:Int) a))
 | .b1 c f g d a=>.br (decide (d<g)) (.chk (kI d f) (.bind 148 (f[(Int.toNat d)]?) (fun(b:Am)=>.bind 1344 (KT b.Ap.Payload) (fun(e:OX)=>let h:=a.Ba++[({ b with Event:=c,Ap:=(⟨b.Ap.BP,e.q0⟩:Aq) }:Am)];kl e.q0 (.chk true (kl a.Ba (.chk (kA (a.Ba.length+1) 160) (.chk (kL a.Link.Ag&&((h.length==h.length)&&kL a.Link.Ag)) (AP (.b1 c f g (AQ (d+1)) (⟨a.Link,h⟩:CO))))))))))) (.chk (kL a.Link.Ag&&(kL a.Ba&&kL a.Link.Ag)) (AB (⟨a⟩:UH)))
def nT (a:Int) (b:List Am) (c:CO):Option UH:=AU WV (.b0 a b c)
def Z76:Shape:=⟨[PQ 0,OV 30,OV 77],[.var 118 67 (Jy 1),.row 156 false,.row 148 true]⟩
def ZjE:Shape:=⟨[],[.var 118 67 (Jy 1),.row 156 false,.row 148 true]⟩
noncomputable def Zky:HMod U:=⟨[KP,KP,[.s 148 18]],[.var k9,.row false,.row true],Z76,ZjE,false,1359,fun(y:UH)=>((),(WA y.q0)),fun x=>nT x.1.2.1.1 x.1.2.2.1.1 (match x with|⟨_,⟨Y,v2,v4,v5,v6,v7,v8,v9,q,z,A,C,D,F,G,I,J,M,N,O,Q,S,_⟩,v1,v3,_⟩=>(⟨(⟨Y,v2,v4,v5,v6,v7,v8,v9,q,z,A,C,D,F,G,I,J,M,N,O,v1,Q,S⟩:Ac),v3⟩:CO)),okS rfl⟩
def Z74:Lay:=⟨[0,1,8,9,10],[KP,KP,[.s 148 18],KP,KP],[.var k9,.row false,.row true],⟨[PQ 0,OV 30,OV 77,OV 3,OV 3],[.var 118 67 (Jy 1),.row 156 false,.row 148 true]⟩⟩
def Zkc:Z01->BC U
 | .b0 a b c=>Dz f181 Z76 (((),((a,()),((b,()),()))),(WA c))
 | .b1 a b c d e=>Ad f181 [1,0,0,0] Z74 (((),((a,()),((b,()),((c,()),((d,()),()))))),(WA e))
theorem Z7d:DK Tryz.prog B0 181 Zky:=okR Ae (hc [] UI Af) (al [(1,Z74)]) [] [.var k9,.row false,.row true] 3 Zkc func181 (fun p=>by cases p<;>kernel_rfl) (by kernel_rfl) fun x=>by kernel_rfl
inductive ZW where
 | b0 (a:Aq) (b:Bool) (c:CO)
 | b1 (a:CO) (b:Aq)
def WO:ZW->Tr U (OU⊕ZW)
 | .b0 b c a=>let f:=(⟨({ a.Link with Di:=true }:Ac),a.Ba⟩:CO);let e:=kL a.Link.Ag&&(kL a.Ba&&(kL a.Link.AA.Ah&&(kL a.Link.AA.Ak&&kL a.Link.Ag)));let g:=kL a.Link.AA.Ah&&(kL a.Link.AA.Ak&&e);.br c (kl a.Link.AA.Ah (kl a.Link.AA.Ak (.chk e (AB (⟨f,a.Link.AA.Ah,a.Link.AA.Ak⟩:OU))))) (.br a.Link.Bq.Gf (.bind 41 (qQ a.Link.Bq true false) (fun(d:Bc)=>.chk g (AP (.b1 (⟨({ a.Link with Di:=true,Bq:=d }:Ac),a.Ba⟩:CO) b)))) (.chk g (AP (.b1 f b))))
 | .b1 a d=>let g:=kl a.Link.AA.Ah (kl a.Link.AA.Ak (.chk (kL a.Link.Ag&&(kL a.Ba&&(kL a.Link.AA.Ah&&(kL a.Link.AA.Ak&&kL a.Link.Ag)))) (AB (⟨a,a.Link.AA.Ah,a.Link.AA.Ak⟩:OU))));.br (d.BP != 3) g (.bind 231 (LV d.Payload) (fun(c:AO×Int)=>.br (c.2 != 0) g (kl a.Link.AA.Ah (kl a.Link.AA.Ak (.bind 233 (Z10 a.Link.AA c.1) (fun(e:A7×(List Am))=>.chk (kL a.Link.Ag&&(kL a.Ba&&kL a.Link.Ag)) (.bind 1359 (nT a.Link.Event e.2 (⟨({ a.Link with AA:=e.1 }:Ac),a.Ba⟩:CO)) (fun(b:UH)=>let h:=kL b.q0.Link.Ag&&(kL b.q0.Ba&&(kL a.Link.AA.Ah&&(kL a.Link.AA.Ak&&kL b.q0.Link.Ag)));.br (c.1.Kind==5) (.bind 41 (qM b.q0.Link.Bq true b.q0.Link.Bq.Eg) (fun(f:Bc)=>.chk h (AB (⟨(⟨({ b.q0.Link with Bq:=f }:Ac),b.q0.Ba⟩:CO),a.Link.AA.Ah,a.Link.AA.Ak⟩:OU)))) (.chk h (AB (⟨b.q0,a.Link.AA.Ah,a.Link.AA.Ak⟩:OU)))))))))))
def nR (a:Aq) (b:Bool) (c:CO):Option OU:=AU WO (.b0 a b c)
def Z6V:Shape:=⟨[PQ 0,.agg [.v 68 2 true],OV 4],[.var 118 67 (ag7 1),.row 156 false,.row 138 false,.row 156 false,.row 148 true]⟩
def Zjn:Shape:=⟨[],[.var 118 67 (Jy 3),.row 156 false,.row 138 false,.row 156 false,.row 148 true]⟩
noncomputable def Zk7:HMod U:=⟨[KP,[.keep,.s 5 1],KP],[.var k18,.row false,.row false,.row false,.row true],Z6V,Zjn,false,1358,fun(y:OU)=>((),((RP y.q0),(y.q1,(y.q2,(y.q0.Link.Ag,(y.q0.Ba,())))))),fun x=>nR x.1.2.1.1 x.1.2.2.1.1 (match x with|⟨_,⟨v0,v2,v4,v6,v8,v9,q,z,A,C,D,F,G,I,J,M,N,O,Q,S,Y,v25,v26,v27,v28,v29,v30,v31,v32,v33,v34,v35,v36,v37,v38,v39,v40,v41,v42,_⟩,v1,v3,v5,v7,_⟩=>(⟨(⟨v0,v2,v4,v6,v8,v9,q,z,A,C,D,F,G,I,J,M,(⟨N,O,Q,v1,S,Y,v3,v25,v26,v27,v28,v29,v30,v31,v32,v33,v34,v35,v36,v37⟩:A7),v38,v39,v40,v5,v41,v42⟩:Ac),v7⟩:CO)),okS rfl⟩
def Z70:Lay:=⟨[0,4],[KP,KP],[.var k18,.row false,.row false,.row false,.row true,.var [.keep,.s 5 1]],⟨[PQ 0,PQ 5],[.var 118 67 (ag7 1),.row 156 false,.row 138 false,.row 156 false,.row 148 true,VA 68 2]⟩⟩
def ZjM:ZW->BC U
 | .b0 b c a=>Dz f111 Z6V (((),((b,()),((c,()),()))),((a.Link.BK,(a.Link.DR,(a.Link.Clock,(a.Link.Event,(a.Link.Last,(a.Link.Fp,(a.Link.Size,(a.Link.Sync,(a.Link.IB,(a.Link.Hq,(a.Link.FO,(a.Link.Good,(a.Link.Di,(a.Link.More,(a.Link.Ar,(a.Link.Gj,(a.Link.AA.BK,(a.Link.AA.Own,(a.Link.AA.Since,(a.Link.AA.Other,(a.Link.AA.Ez,(a.Link.AA.Told,(a.Link.AA.Bv,(a.Link.AA.Hl,(a.Link.AA.FI,(a.Link.AA.FY,(a.Link.AA.Version,(a.Link.AA.Length,(a.Link.AA.Limit,(a.Link.AA.Bj,(a.Link.AA.F5,(a.Link.AA.Mark,(a.Link.AA.CP,(a.Link.AA.Bz,(a.Link.Bq,(a.Link.Key,(a.Link.CX,(a.Link.Bl,(a.Link.IC,()))))))))))))))))))))))))))))))))))))))),(a.Link.AA.Ah,(a.Link.AA.Ak,(a.Link.Ag,(a.Ba,()))))))
 | .b1 a b=>AA3 f111 [1,1,1,1,0,0] Z70 (a.Link.BK,a.Link.DR,a.Link.Clock,a.Link.Event,a.Link.Last,a.Link.Fp,a.Link.Size,a.Link.Sync,a.Link.IB,a.Link.Hq,a.Link.FO,a.Link.Good,a.Link.Di,a.Link.More,a.Link.Ar,a.Link.Gj,a.Link.AA.BK,a.Link.AA.Own,a.Link.AA.Since,a.Link.AA.Other,a.Link.AA.Ez,a.Link.AA.Told,a.Link.AA.Bv,a.Link.AA.Hl,a.Link.AA.FI,a.Link.AA.FY,a.Link.AA.Version,a.Link.AA.Length,a.Link.AA.Limit,a.Link.AA.Bj,a.Link.AA.F5,a.Link.AA.Mark,a.Link.AA.CP,a.Link.AA.Bz,a.Link.Bq,a.Link.Key,a.Link.CX,a.Link.Bl,a.Link.IC,a.Link.AA.Ah,a.Link.AA.Ak,a.Link.Ag,a.Ba,b,())
theorem ZjK:DK Tryz.prog B0 111 Zk7:=okR (mc Z9h (mc Z8J (mc Zno (mc Z9i Ae)))) (hc [] Z7d Af) (al [(5,Z70)]) [] [.var k9,.row false,.row false,.row false,.row true] 5 ZjM func111 (fun p=>by cases p<;>kernel_rfl) (by kernel_rfl) fun x=>by kernel_rfl
end
noncomputable section
inductive Z03 where
 | b0 (a:Int) (b:List Am) (c:CO)
 | b1 (a:Int) (b:List Am) (c d:Int) (e:CO)
def WQ:Z03->Tr U (WT⊕Z03)
 | .b0 c a b=>kl a (.chk (kL a&&(kL b.Link.Ag&&(kL b.Ba&&kL b.Link.Ag))) (AP (.b1 c a (↑a.length:Int) (0:Int) b)))
 | .b1 d b g e a=>.br (decide (e<g)) (kl b (.chk (kI e b) (kl b (.bind 148 (b[(Int.toNat e)]?) (fun(c:Am)=>.bind 1344 (KT c.Ap.Payload) (fun(f:OX)=>let h:=a.Ba++[({ c with Event:=d,Ap:=(⟨c.Ap.BP,f.q0⟩:Aq) }:Am)];kl f.q0 (.chk true (kl a.Ba (.chk (kA (a.Ba.length+1) 160) (.chk (kL b&&(kL a.Link.Ag&&((h.length==h.length)&&kL a.Link.Ag))) (AP (.b1 d b g (AQ (e+1)) (⟨a.Link,h⟩:CO))))))))))))) (.chk (kL a.Link.Ag&&(kL a.Ba&&kL a.Link.Ag)) (AB (⟨a,b⟩:WT)))
def Z00 (a:Int) (b:List Am) (c:CO):Option WT:=AU WQ (.b0 a b c)
def Z7b:Shape:=⟨[PQ 0,OV 30,.one (.own 148 1)],[.var 118 67 (Jy 2),.row 148 true,.row 156 false,.row 148 true]⟩
def Zjy:Shape:=⟨[],[.var 118 67 (Jy 2),.row 148 true,.row 156 false,.row 148 true]⟩
noncomputable def Zkr:HMod U:=⟨[KP,KP,[.own 148 18]],[.var k9,.row true,.row false,.row true],Z7b,Zjy,false,1361,fun(y:WT)=>((),((RP y.q0),(y.q1,(y.q0.Link.Ag,(y.q0.Ba,()))))),fun x=>Z00 x.1.2.1.1 x.2.2.1 (match x with|⟨_,⟨Y,v1,v3,v5,v6,v7,v8,v9,q,z,A,C,D,F,G,I,J,M,N,O,Q,S,_⟩,_,v2,v4,_⟩=>(⟨(⟨Y,v1,v3,v5,v6,v7,v8,v9,q,z,A,C,D,F,G,I,J,M,N,O,v2,Q,S⟩:Ac),v4⟩:CO)),okS rfl⟩
def Z79:Lay:=⟨[0,1,8,9,10],[KP,KP,[.own 148 18],KP,KP],[.var k9,.row true,.row false,.row true],⟨[PQ 0,OV 30,.one (.own 148 1),OV 3,OV 3],[.var 118 67 (Jy 2),.row 148 true,.row 156 false,.row 148 true]⟩⟩
def Zkf:Z03->BC U
 | .b0 b c a=>Dz f181 Z7b (((),((b,()),((),()))),((RP a),(c,(a.Link.Ag,(a.Ba,())))))
 | .b1 b c d e a=>Ad f181 [1,0,0,0] Z79 (((),((b,()),((),((d,()),((e,()),()))))),((RP a),(c,(a.Link.Ag,(a.Ba,())))))
theorem Zk6:DK Tryz.prog B0 181 Zkr:=okR Ae (hc [] UI Af) (al [(1,Z79)]) [] [.var k9,.row true,.row false,.row true] 4 Zkf func181 (fun p=>by cases p<;>kernel_rfl) (by kernel_rfl) fun x=>by kernel_rfl
def Zbv:S1 (Int×ByteArray×(List Int)×Unit) Int
 | (b,a,c,_)=>.chk (YZ U 5 a) (.bind 62 (Um c) (fun(d:List Int)=>kl (Ko U 5 a) (.chk true (.chk true (.bind 62 (Ue ([(Ko U 5 a),[(0:Int)],d])) (fun(e:List Int)=>.bind 25 (iO b e) (fun(f:Int)=>AB f)))))))
def Z24 (a:Int) (b:ByteArray) (c:List Int):Option Int:=AU Zbv (a,b,c,())
theorem Zr1:AA1 338 [29,9,254] 29 (fun x=>Z24 x.1 x.2.1 x.2.2.1) rfl:=ok1 (mc bD (mc Z2h (mc Zea Ae))) Af func338 (fun _=>by kernel_rfl) (by kernel_rfl)
inductive Z1P where
 | b0 (a b c d:Int)
 | b1 (a b c d:Int) (e:Bc)
def qZ:Z1P->Tr U (Bc⊕Z1P)
 | .b0 a b c d=>.br (a != 1) (AP (.b1 (0:Int) b c d NF)) (AP (.b1 a b c d NF))
 | .b1 c d a b f=>.chk true (.bind 29 (Z24 d (⟨#[115,101,115,115,105,111,110]⟩:ByteArray) ([a,b])) (fun(e:Int)=>AB (⟨c,e,(bits .xor .u64 a b),false,false,0,0⟩:Bc)))
def Z1L (a b c d:Int):Option Bc:=AU qZ (.b0 a b c d)
def Z9f:Lay:=LT [0,1,2,3,8] [.v 3,.v 29,.v 25,.v 25,.p 0] [.s 41]
def Zp7:Z1P->BC U
 | .b0 a b c d=>Bd f265 [3,29,25,25] (a,b,c,d,())
 | .b1 a b c d e=>AA3 f265 [1,1,0] Z9f (a,b,c,d,e,())
theorem ZoW:AA1 265 [3,29,25,25] 41 (fun x=>Z1L x.1 x.2.1 x.2.2.1 x.2.2.2.1) rfl:=Bh (mc Zr1 Ae) Af (al [(3,Z9f)]) Zp7 func265 (fun p=>by cases p<;>kernel_rfl) (by kernel_rfl) fun _=>rfl
inductive ZM where
 | b0 (a:AO) (b:BV)
def Z75:ZM->Tr U (LQ⊕ZM)
 | .b0 b a=>let c:=a.f_out++[b];.chk true (kl a.f_out (.chk (kA (a.f_out.length+1) 120) (.chk (kL a.AA.Ah&&(kL a.AA.Ak&&(kL c&&kL a.Bg))) (AB (⟨({ a with f_out:=c }:BV)⟩:LQ)))))
def Ou (a:AO) (b:BV):Option LQ:=AU Z75 (.b0 a b)
def Z6O:Shape:=⟨[PQ 0,.agg [.v 156 15 true]],[.var 211 24 (Ej 1),.row 156 true,.row 138 true,.row 156 true,.row 148 true]⟩
def Zj0:Shape:=⟨[],[.var 211 24 (Ej 1),.row 156 true,.row 138 true,.row 156 true,.row 148 true]⟩
noncomputable def ZjN:HMod U:=⟨[KP,k0],[.var k5,.row true,.row true,.row true,.row true],Z6O,Zj0,false,1387,fun(y:LQ)=>((),(FN y.q0)),fun x=>Ou x.1.2.1.1 (match x with|⟨_,⟨Y,v2,v4,v6,v8,v9,q,z,A,C,D,F,G,I,J,M,N,O,Q,S,_⟩,v1,v3,v5,v7,_⟩=>(⟨(⟨Y,v2,v4,v1,v6,v8,v3,v9,q,z,A,C,D,F,G,I,J,M,N,O⟩:A7),Q,S,v5,v7⟩:BV)),okS rfl⟩
def Zjv:ZM->BC U
 | .b0 a b=>Dz f256 Z6O (((),((a,()),())),(FN b))
theorem Rf:DK Tryz.prog B0 256 ZjN:=okR Ae Af AN [] [.var k5,.row true,.row true,.row true,.row true] 5 Zjv func256 (fun p=>by cases p<;>kernel_rfl) (by kernel_rfl) fun x=>by kernel_rfl
def Zje:S1 (Ub×Unit) Bool
 | (a,_)=>AB (a.AA.BK != 1)
def RX (a:Ub):Option Bool:=AU Zje (a,())
theorem WG:AA1 179 [206] 4 (fun x=>RX x.1) rfl:=ok1 Ae Af func179 (fun _=>by kernel_rfl) (by kernel_rfl)
def Zai:S1 (Int×Int×Unit) Int
 | (a,b,_)=>AB (AQ ((IntKind.wrap .i16 ((IntKind.wrap .u16 (b - a))))))
def qY (a b:Int):Option Int:=AU Zai (a,b,())
theorem ZoY:AA1 331 [30,30] 3 (fun x=>qY x.1 x.2.1) rfl:=ok1 Ae Af func331 (fun _=>by kernel_rfl) (by kernel_rfl)
def Z1m:S1 (Int×Int×Unit) Bool
 | (a,b,_)=>.bind 3 (qY b a) (fun(c:Int)=>AB (decide (c>=0)))
def qJ (a b:Int):Option Bool:=AU Z1m (a,b,())
theorem Znx:AA1 252 [30,30] 4 (fun x=>qJ x.1 x.2.1) rfl:=ok1 (mc ZoY Ae) Af func252 (fun _=>by kernel_rfl) (by kernel_rfl)
inductive Z1j where
 | b0 (a:Int) (b:BG)
 | b1 (a:Int) (b:BG)
def Uc:Z1j->Tr U (Int⊕Z1j)
 | .b0 b a=>let c:=AP (Z1j.b1 b a);.br (a.Kind != 0) (.br (a.Kind != 1) (AB (12:Int)) c) c
 | .b1 a b=>.bind 4 (qJ a b.Ci) (fun(c:Bool)=>.br c (AB (18:Int)) (AB (0:Int)))
def qI (a:Int) (b:BG):Option Int:=AU Uc (.b0 a b)
def Z8z:Lay:=LT [0,3] [.v 30,.p 0] [.s 138]
def ZnJ:Z1j->BC U
 | .b0 a b=>Bd f332 [30,138] (a,b,())
 | .b1 a b=>AA3 f332 [1,1,0,0] Z8z (a,b,())
theorem ZnE:AA1 332 [30,138] 45 (fun x=>qI x.1 x.2.1) rfl:=Bh (mc Znx Ae) Af (al [(3,Z8z)]) ZnJ func332 (fun p=>by cases p<;>kernel_rfl) (by kernel_rfl) fun _=>rfl
def Z1J:S1 ((List BG)×Int×BG×Unit) ((List BG)×Int)
 | (a,f,b,_)=>.bind 45 (qI f b) (fun(c:Int)=>.br (c != 0) (.bind 1346 (Ro a) (fun(d:Rl)=>kl d.q0 (AB (d.q0,c)))) (.br (decide ((↑a.length:Int)>0)) (.bind 1346 (Ro a) (fun(e:Rl)=>kl e.q0 (AB (e.q0,20)))) (.chk true (AB ([b],(0:Int))))))
def qU (a:List BG) (b:Int) (c:BG):Option ((List BG)×Int):=AU Z1J (a,b,c,())
theorem ZoX:AA1 254 [37,30,138] 269 (fun x=>qU x.1 x.2.1 x.2.2.1) rfl:=ok1 (mc ZnE Ae) (hc [] ZN Af) func254 (fun _=>by kernel_rfl) (by kernel_rfl)
def Zlq:S1 (AO×Unit) BG
 | (a,_)=>AB (⟨a.Kind,a.Ci,a.BB,a.Map⟩:BG)
def Z0y (a:AO):Option BG:=AU Zlq (a,())
theorem Zl9:AA1 255 [156] 138 (fun x=>Z0y x.1) rfl:=ok1 Ae Af func255 (fun _=>by kernel_rfl) (by kernel_rfl)
inductive ZA where
 | b0 (a:AO) (b:BV)
 | b1 (a:BV) (b:List BG)
def Z6K:ZA->Tr U (Me⊕ZA)
 | .b0 b a=>let f:=kL a.AA.Ah&&(kL a.f_out&&(kL a.Bg&&kL a.AA.Ak));.bind 4 (RX (U9 a)) (fun(d:Bool)=>.br d (kl a.AA.Ak (.chk f (AB (⟨a,a.AA.Ak⟩:Me)))) (.bind 138 (Z0y b) (fun(e:BG)=>kl a.AA.Ak (.bind 269 (qU a.AA.Ak a.PZ e) (fun(c:(List BG)×Int)=>let g:=({ a with AA:=({ a.AA with Other:=b.Kind,Ez:=a.LD,Ak:=c.1 }:A7) }:BV);let h:=Tr.chk f (AB (⟨g,a.AA.Ak⟩:Me));.br (c.2==0) (.br (b.Kind==0) (.br (a.AA.Own==15) (.chk f (AP (.b1 g a.AA.Ak))) h) h) (.br (c.2==18) (kl a.AA.Ak (.chk f (AB (⟨({ a with AA:=({ a.AA with Bz:=40 }:A7) }:BV),a.AA.Ak⟩:Me)))) (kl a.AA.Ak (.chk f (AB (⟨({ a with AA:=({ a.AA with Bz:=42 }:A7) }:BV),a.AA.Ak⟩:Me))))))))))
 | .b1 a b=>.chk (kL a.AA.Ah&&(kL a.f_out&&(kL a.Bg&&kL b))) (AB (⟨({ a with AA:=({ a.AA with Own:=-1 }:A7) }:BV),b⟩:Me))
def nJ (a:AO) (b:BV):Option Me:=AU Z6K (.b0 a b)
def Z6v:Shape:=⟨[PQ 0,.agg [.v 156 15 true]],[.var 211 24 (Ej 1),.row 156 true,.row 138 true,.row 156 true,.row 148 true]⟩
def ZiL:Shape:=⟨[],[.var 211 24 (ag8 1 3 4),.row 156 true,.row 138 false,.row 156 true,.row 148 true]⟩
noncomputable def Zji:HMod U:=⟨[KP,k0],[.var k5,.row true,.row true,.row true,.row true],Z6v,ZiL,false,1381,fun(y:Me)=>((),((y.q0.AA.BK,(y.q0.AA.Own,(y.q0.AA.Since,(y.q0.AA.Other,(y.q0.AA.Ez,(y.q0.AA.Ak,(y.q0.AA.Told,(y.q0.AA.Bv,(y.q0.AA.Hl,(y.q0.AA.FI,(y.q0.AA.FY,(y.q0.AA.Version,(y.q0.AA.Length,(y.q0.AA.Limit,(y.q0.AA.Bj,(y.q0.AA.F5,(y.q0.AA.Mark,(y.q0.AA.CP,(y.q0.AA.Bz,(y.q0.PZ,(y.q0.LD,()))))))))))))))))))))),(y.q0.AA.Ah,(y.q1,(y.q0.f_out,(y.q0.Bg,())))))),fun x=>nJ x.1.2.1.1 (match x with|⟨_,⟨Y,v2,v4,v6,v8,v9,q,z,A,C,D,F,G,I,J,M,N,O,Q,S,_⟩,v1,v3,v5,v7,_⟩=>(⟨(⟨Y,v2,v4,v1,v6,v8,v3,v9,q,z,A,C,D,F,G,I,J,M,N,O⟩:A7),Q,S,v5,v7⟩:BV)),okS rfl⟩
def Z6w:Lay:=⟨[0],[KP],[.var k16,.row true,.row false,.row true,.row true],⟨[PQ 0],[.var 211 24 (ag8 1 3 4),.row 156 true,.row 138 false,.row 156 true,.row 148 true]⟩⟩
def Zj7:ZA->BC U
 | .b0 a b=>Dz f366 Z6v (((),((a,()),())),(FN b))
 | .b1 a b=>AA3 f366 [1,1,1,1,1,1,0] Z6w (a.AA.BK,a.AA.Own,a.AA.Since,a.AA.Other,a.AA.Ez,a.AA.Ak,a.AA.Told,a.AA.Bv,a.AA.Hl,a.AA.FI,a.AA.FY,a.AA.Version,a.AA.Length,a.AA.Limit,a.AA.Bj,a.AA.F5,a.AA.Mark,a.AA.CP,a.AA.Bz,a.PZ,a.LD,a.AA.Ah,b,a.f_out,a.Bg,())
theorem Zj5:DK Tryz.prog B0 366 Zji:=okR (mc WG (mc ZoX (mc Zl9 Ae))) Af (al [(10,Z6w)]) [] [.var k16,.row true,.row false,.row true,.row true] 5 Zj7 func366 (fun p=>by cases p<;>kernel_rfl) (by kernel_rfl) fun x=>by kernel_rfl
inductive Zr where
 | b0 (a:AO) (b:BV)
def Z6r:Zr->Tr U (UD⊕Zr)
 | .b0 b a=>let c:=kL a.AA.Ah&&(kL a.AA.Ak&&(kL a.f_out&&kL a.Bg));.br (b.Bl==0) (.chk c (AB (⟨({ a with AA:=({ a.AA with Bz:=19 }:A7) }:BV)⟩:UD))) (.chk c (AB (⟨({ a with AA:=({ a.AA with Bz:=b.Bl }:A7) }:BV)⟩:UD)))
def Zt (a:AO) (b:BV):Option UD:=AU Z6r (.b0 a b)
def Z6l:Shape:=⟨[PQ 0,.agg [.v 156 15 true]],[.var 211 24 (Ej 1),.row 156 true,.row 138 true,.row 156 true,.row 148 true]⟩
def ZiF:Shape:=⟨[],[.var 211 24 (Ej 1),.row 156 true,.row 138 true,.row 156 true,.row 148 true]⟩
noncomputable def ZiN:HMod U:=⟨[KP,k0],[.var k5,.row true,.row true,.row true,.row true],Z6l,ZiF,false,1382,fun(y:UD)=>((),(FN y.q0)),fun x=>Zt x.1.2.1.1 (match x with|⟨_,⟨Y,v2,v4,v6,v8,v9,q,z,A,C,D,F,G,I,J,M,N,O,Q,S,_⟩,v1,v3,v5,v7,_⟩=>(⟨(⟨Y,v2,v4,v1,v6,v8,v3,v9,q,z,A,C,D,F,G,I,J,M,N,O⟩:A7),Q,S,v5,v7⟩:BV)),okS rfl⟩
def ZiJ:Zr->BC U
 | .b0 a b=>Dz f367 Z6l (((),((a,()),())),(FN b))
theorem ZiG:DK Tryz.prog B0 367 ZiN:=okR Ae Af AN [] [.var k5,.row true,.row true,.row true,.row true] 5 ZiJ func367 (fun p=>by cases p<;>kernel_rfl) (by kernel_rfl) fun x=>by kernel_rfl
inductive ZU where
 | b0 (a b:Int) (c:BV)
def Z7l:ZU->Tr U (NC⊕ZU)
 | .b0 b c a=>let d:=a.Bg++[(⟨b,0,(⟨0,[]⟩:Aq),I7,c,Be⟩:Am)];.chk true (kl a.Bg (.chk (kA (a.Bg.length+1) 160) (.chk (kL a.AA.Ah&&(kL a.AA.Ak&&(kL a.f_out&&(d.length==d.length)))) (AB (⟨({ a with Bg:=d }:BV)⟩:NC)))))
def QP (a b:Int) (c:BV):Option NC:=AU Z7l (.b0 a b c)
def Z6X:Shape:=⟨[PQ 0,OV 3,OV 25],[.var 211 24 (Ej 1),.row 156 true,.row 138 true,.row 156 true,.row 148 true]⟩
def Zjd:Shape:=⟨[],[.var 211 24 (Ej 1),.row 156 true,.row 138 true,.row 156 true,.row 148 true]⟩
noncomputable def Zkb:HMod U:=⟨[KP,KP,KP],[.var k5,.row true,.row true,.row true,.row true],Z6X,Zjd,false,1384,fun(y:NC)=>((),(FN y.q0)),fun x=>QP x.1.2.1.1 x.1.2.2.1.1 (match x with|⟨_,⟨Y,v2,v4,v6,v8,v9,q,z,A,C,D,F,G,I,J,M,N,O,Q,S,_⟩,v1,v3,v5,v7,_⟩=>(⟨(⟨Y,v2,v4,v1,v6,v8,v3,v9,q,z,A,C,D,F,G,I,J,M,N,O⟩:A7),Q,S,v5,v7⟩:BV)),okS rfl⟩
def ZjH:ZU->BC U
 | .b0 a b c=>Dz f386 Z6X (((),((a,()),((b,()),()))),(FN c))
theorem UG:DK Tryz.prog B0 386 Zkb:=okR Ae Af AN [] [.var k5,.row true,.row true,.row true,.row true] 5 ZjH func386 (fun p=>by cases p<;>kernel_rfl) (by kernel_rfl) fun x=>by kernel_rfl
inductive ZP where
 | b0 (a:AO) (b:BV)
 | b1 (a:BV) (b:AO)
def Z77:ZP->Tr U (Rj⊕ZP)
 | .b0 b a=>let d:=kL a.AA.Ah&&(kL a.AA.Ak&&(kL a.f_out&&kL a.Bg));let e:=Tr.chk d (AB (⟨a⟩:Rj));.bind 4 (RX (U9 a)) (fun(c:Bool)=>.br c e (.br (a.AA.CP != 0) e (.chk d (AP (.b1 a b)))))
 | .b1 a c=>.chk (kL a.AA.Ah&&(kL a.AA.Ak&&(kL a.f_out&&kL a.Bg))) (.bind 1384 (QP (8:Int) c.Mark ({ a with AA:=({ a.AA with Other:=3,Ez:=a.LD,F5:=c.Bj,Mark:=c.Mark,CP:=1 }:A7) }:BV)) (fun(b:NC)=>.chk (kL b.q0.AA.Ah&&(kL b.q0.AA.Ak&&(kL b.q0.f_out&&kL b.q0.Bg))) (AB (⟨b.q0⟩:Rj))))
def ZO (a:AO) (b:BV):Option Rj:=AU Z77 (.b0 a b)
def Z6L:Shape:=⟨[PQ 0,.agg [.v 156 15 true]],[.var 211 24 (Ej 1),.row 156 true,.row 138 true,.row 156 true,.row 148 true]⟩
def Zj2:Shape:=⟨[],[.var 211 24 (Ej 1),.row 156 true,.row 138 true,.row 156 true,.row 148 true]⟩
noncomputable def ZjJ:HMod U:=⟨[KP,k0],[.var k5,.row true,.row true,.row true,.row true],Z6L,Zj2,false,1383,fun(y:Rj)=>((),(FN y.q0)),fun x=>ZO x.1.2.1.1 (match x with|⟨_,⟨Y,v2,v4,v6,v8,v9,q,z,A,C,D,F,G,I,J,M,N,O,Q,S,_⟩,v1,v3,v5,v7,_⟩=>(⟨(⟨Y,v2,v4,v1,v6,v8,v3,v9,q,z,A,C,D,F,G,I,J,M,N,O⟩:A7),Q,S,v5,v7⟩:BV)),okS rfl⟩
def Z6I:Lay:=⟨[0,3],[KP,KP],[.var k5,.row true,.row true,.row true,.row true,.var k0],⟨[PQ 0,PQ 5],[.var 211 24 (Ej 1),.row 156 true,.row 138 true,.row 156 true,.row 148 true,VA 156 15]⟩⟩
def Zjw:ZP->BC U
 | .b0 a b=>Dz f368 Z6L (((),((a,()),())),(FN b))
 | .b1 a b=>Ad f368 [1,1,0] Z6I (((),((),())),((Yi a),(a.AA.Ah,(a.AA.Ak,(a.f_out,(a.Bg,((b,()),())))))))
theorem ZjC:DK Tryz.prog B0 368 ZjJ:=okR (mc WG Ae) (hc [] UG Af) (al [(2,Z6I)]) [] [.var k5,.row true,.row true,.row true,.row true] 5 Zjw func368 (fun p=>by cases p<;>kernel_rfl) (by kernel_rfl) fun x=>by kernel_rfl
inductive ZE where
 | b0 (a:AO) (b:BV)
 | b1 (a:BV) (b:AO)
def Z6W:ZE->Tr U (Ri⊕ZE)
 | .b0 b a=>let d:=kL a.AA.Ah&&(kL a.AA.Ak&&(kL a.f_out&&kL a.Bg));let e:=Tr.chk d (AB (⟨a⟩:Ri));.bind 4 (RX (U9 a)) (fun(c:Bool)=>.br c (.br (a.AA.CP==1) (.chk d (AP (.b1 a b))) e) e)
 | .b1 a b=>.chk (kL a.AA.Ah&&(kL a.AA.Ak&&(kL a.f_out&&kL a.Bg))) (AB (⟨({ a with AA:=({ a.AA with F5:=b.Bj,CP:=2 }:A7) }:BV)⟩:Ri))
def ZF (a:AO) (b:BV):Option Ri:=AU Z6W (.b0 a b)
def Z6E:Shape:=⟨[PQ 0,.agg [.v 156 15 true]],[.var 211 24 (Ej 1),.row 156 true,.row 138 true,.row 156 true,.row 148 true]⟩
def ZiV:Shape:=⟨[],[.var 211 24 (Ej 1),.row 156 true,.row 138 true,.row 156 true,.row 148 true]⟩
noncomputable def ZjD:HMod U:=⟨[KP,k0],[.var k5,.row true,.row true,.row true,.row true],Z6E,ZiV,false,1385,fun(y:Ri)=>((),(FN y.q0)),fun x=>ZF x.1.2.1.1 (match x with|⟨_,⟨Y,v2,v4,v6,v8,v9,q,z,A,C,D,F,G,I,J,M,N,O,Q,S,_⟩,v1,v3,v5,v7,_⟩=>(⟨(⟨Y,v2,v4,v1,v6,v8,v3,v9,q,z,A,C,D,F,G,I,J,M,N,O⟩:A7),Q,S,v5,v7⟩:BV)),okS rfl⟩
def Z6F:Lay:=⟨[0,3],[KP,KP],[.var k5,.row true,.row true,.row true,.row true,.var k0],⟨[PQ 0,PQ 5],[.var 211 24 (Ej 1),.row 156 true,.row 138 true,.row 156 true,.row 148 true,VA 156 15]⟩⟩
def Zjq:ZE->BC U
 | .b0 a b=>Dz f369 Z6E (((),((a,()),())),(FN b))
 | .b1 a b=>Ad f369 [1,1,0] Z6F (((),((),())),((Yi a),(a.AA.Ah,(a.AA.Ak,(a.f_out,(a.Bg,((b,()),())))))))
theorem Zjh:DK Tryz.prog B0 369 ZjD:=okR (mc WG Ae) Af (al [(2,Z6F)]) [] [.var k5,.row true,.row true,.row true,.row true] 5 Zjq func369 (fun p=>by cases p<;>kernel_rfl) (by kernel_rfl) fun x=>by kernel_rfl
inductive ZB where
 | b0 (a:AO) (b:BV)
 | b1 (a:BV)
def Z6N:ZB->Tr U (RZ⊕ZB)
 | .b0 c a=>let d:=kL a.AA.Ah&&(kL a.AA.Ak&&(kL a.f_out&&kL a.Bg));let e:=Tr.chk d (AB (⟨a⟩:RZ));.bind 4 (RX (U9 a)) (fun(b:Bool)=>.br b (.br (a.AA.CP==2) (.chk d (AP (.b1 a))) e) e)
 | .b1 a=>.chk (kL a.AA.Ah&&(kL a.AA.Ak&&(kL a.f_out&&kL a.Bg))) (.bind 1387 (Ou (⟨6,Be,0,0,0,0,0,0,0,0,0⟩:AO) ({ a with AA:=({ a.AA with CP:=3 }:A7) }:BV)) (fun(b:LQ)=>.chk (kL b.q0.AA.Ah&&(kL b.q0.AA.Ak&&(kL b.q0.f_out&&kL b.q0.Bg))) (AB (⟨b.q0⟩:RZ))))
def Zx (a:AO) (b:BV):Option RZ:=AU Z6N (.b0 a b)
def Z6u:Shape:=⟨[PQ 0,.agg [.v 156 15 true]],[.var 211 24 (Ej 1),.row 156 true,.row 138 true,.row 156 true,.row 148 true]⟩
def ZiK:Shape:=⟨[],[.var 211 24 (Ej 1),.row 156 true,.row 138 true,.row 156 true,.row 148 true]⟩
noncomputable def Zjb:HMod U:=⟨[KP,k0],[.var k5,.row true,.row true,.row true,.row true],Z6u,ZiK,false,1386,fun(y:RZ)=>((),(FN y.q0)),fun x=>Zx x.1.2.1.1 (match x with|⟨_,⟨Y,v2,v4,v6,v8,v9,q,z,A,C,D,F,G,I,J,M,N,O,Q,S,_⟩,v1,v3,v5,v7,_⟩=>(⟨(⟨Y,v2,v4,v1,v6,v8,v3,v9,q,z,A,C,D,F,G,I,J,M,N,O⟩:A7),Q,S,v5,v7⟩:BV)),okS rfl⟩
def Z6s:Lay:=⟨[0],[KP],[.var k5,.row true,.row true,.row true,.row true],⟨[PQ 0],[.var 211 24 (Ej 1),.row 156 true,.row 138 true,.row 156 true,.row 148 true]⟩⟩
def Zj8:ZB->BC U
 | .b0 a b=>Dz f370 Z6u (((),((a,()),())),(FN b))
 | .b1 a=>AA3 f370 [1,1,0,0] Z6s (a.AA.BK,a.AA.Own,a.AA.Since,a.AA.Other,a.AA.Ez,a.AA.Told,a.AA.Bv,a.AA.Hl,a.AA.FI,a.AA.FY,a.AA.Version,a.AA.Length,a.AA.Limit,a.AA.Bj,a.AA.F5,a.AA.Mark,a.AA.CP,a.AA.Bz,a.PZ,a.LD,a.AA.Ah,a.AA.Ak,a.f_out,a.Bg,())
theorem ZiZ:DK Tryz.prog B0 370 Zjb:=okR (mc WG Ae) (hc [] Rf Af) (al [(2,Z6s)]) [] [.var k5,.row true,.row true,.row true,.row true] 5 Zj8 func370 (fun p=>by cases p<;>kernel_rfl) (by kernel_rfl) fun x=>by kernel_rfl
inductive Z07 where
 | b0 (a:AO) (b:BV)
def Z7U:Z07->Tr U (Rq⊕Z07)
 | .b0 e a=>let g:=kL a.AA.Ah&&(kL a.AA.Ak&&(kL a.f_out&&kL a.Bg));.br (a.AA.CP != 3) (.chk g (AB (⟨a⟩:Rq))) (.chk g (.bind 1384 (QP (3:Int) (0:Int) ({ a with AA:=({ a.AA with CP:=4 }:A7) }:BV)) (fun(b:NC)=>let f:=kL b.q0.AA.Ah&&(kL b.q0.AA.Ak&&(kL b.q0.f_out&&kL b.q0.Bg));.bind 4 (RX (U9 b.q0)) (fun(d:Bool)=>.br d (.chk f (AB (⟨({ b.q0 with AA:=({ b.q0.AA with Own:=-1 }:A7) }:BV)⟩:Rq))) (.chk f (.bind 1387 (Ou (⟨6,Be,0,0,0,0,0,0,0,0,0⟩:AO) b.q0) (fun(c:LQ)=>.chk (kL c.q0.AA.Ah&&(kL c.q0.AA.Ak&&(kL c.q0.f_out&&kL c.q0.Bg))) (AB (⟨({ c.q0 with AA:=({ c.q0.AA with Other:=-1 }:A7) }:BV)⟩:Rq)))))))))
def Z08 (a:AO) (b:BV):Option Rq:=AU Z7U (.b0 a b)
def Z7g:Shape:=⟨[PQ 0,.agg [.v 156 15 true]],[.var 211 24 (Ej 1),.row 156 true,.row 138 true,.row 156 true,.row 148 true]⟩
def ZjI:Shape:=⟨[],[.var 211 24 (Ej 1),.row 156 true,.row 138 true,.row 156 true,.row 148 true]⟩
noncomputable def Zla:HMod U:=⟨[KP,k0],[.var k5,.row true,.row true,.row true,.row true],Z7g,ZjI,false,1388,fun(y:Rq)=>((),(FN y.q0)),fun x=>Z08 x.1.2.1.1 (match x with|⟨_,⟨Y,v2,v4,v6,v8,v9,q,z,A,C,D,F,G,I,J,M,N,O,Q,S,_⟩,v1,v3,v5,v7,_⟩=>(⟨(⟨Y,v2,v4,v1,v6,v8,v3,v9,q,z,A,C,D,F,G,I,J,M,N,O⟩:A7),Q,S,v5,v7⟩:BV)),okS rfl⟩
def ZkC:Z07->BC U
 | .b0 a b=>Dz f371 Z7g (((),((a,()),())),(FN b))
theorem Zkv:DK Tryz.prog B0 371 Zla:=okR (mc WG Ae) (hc [] Rf (hc [] UG Af)) AN [] [.var k5,.row true,.row true,.row true,.row true] 5 ZkC func371 (fun p=>by cases p<;>kernel_rfl) (by kernel_rfl) fun x=>by kernel_rfl
inductive Zu where
 | b0 (a:AO) (b:BV)
 | b1 (a:BV) (b:AO)
 | b2 (a:BV) (b:AO)
def Z6z:Zu->Tr U (OT⊕Zu)
 | .b0 b a=>let e:=kL a.AA.Ah&&(kL a.AA.Ak&&(kL a.f_out&&kL a.Bg));let d:=Tr.chk e (AB (⟨a⟩:OT));.br (a.AA.Own != b.DL) d (.bind 4 (Yw a.AA.Own) (fun(c:Bool)=>.br c d (.br (a.AA.Own==2) d (.br (a.AA.Own == -1) d (.chk e (AP (.b1 a b)))))))
 | .b1 a b=>let c:=kL a.AA.Ah&&(kL a.AA.Ak&&(kL a.f_out&&kL a.Bg));.br (a.AA.Own==3) (.chk c (AP (.b2 ({ a with AA:=({ a.AA with CP:=0 }:A7) }:BV) b))) (.chk c (AP (.b2 a b)))
 | .b2 a c=>.chk (kL a.AA.Ah&&(kL a.AA.Ak&&(kL a.f_out&&kL a.Bg))) (.bind 1384 (QP (9:Int) (IntKind.wrap .u64 (c.DL)) ({ a with AA:=({ a.AA with Own:=-1 }:A7) }:BV)) (fun(b:NC)=>.chk (kL b.q0.AA.Ah&&(kL b.q0.AA.Ak&&(kL b.q0.f_out&&kL b.q0.Bg))) (AB (⟨b.q0⟩:OT))))
def nH (a:AO) (b:BV):Option OT:=AU Z6z (.b0 a b)
def Z6q:Shape:=⟨[PQ 0,.agg [.v 156 15 true]],[.var 211 24 (Ej 1),.row 156 true,.row 138 true,.row 156 true,.row 148 true]⟩
def ZiI:Shape:=⟨[],[.var 211 24 (Ej 1),.row 156 true,.row 138 true,.row 156 true,.row 148 true]⟩
noncomputable def Zj1:HMod U:=⟨[KP,k0],[.var k5,.row true,.row true,.row true,.row true],Z6q,ZiI,false,1389,fun(y:OT)=>((),(FN y.q0)),fun x=>nH x.1.2.1.1 (match x with|⟨_,⟨Y,v2,v4,v6,v8,v9,q,z,A,C,D,F,G,I,J,M,N,O,Q,S,_⟩,v1,v3,v5,v7,_⟩=>(⟨(⟨Y,v2,v4,v1,v6,v8,v3,v9,q,z,A,C,D,F,G,I,J,M,N,O⟩:A7),Q,S,v5,v7⟩:BV)),okS rfl⟩
def nG:Lay:=⟨[0,3],[KP,KP],[.var k5,.row true,.row true,.row true,.row true,.var k0],⟨[PQ 0,PQ 5],[.var 211 24 (Ej 1),.row 156 true,.row 138 true,.row 156 true,.row 148 true,VA 156 15]⟩⟩
def ZiU:Zu->BC U
 | .b0 a b=>Dz f372 Z6q (((),((a,()),())),(FN b))
 | .b1 a b=>Ad f372 [1,1,0,0] nG (((),((),())),((Yi a),(a.AA.Ah,(a.AA.Ak,(a.f_out,(a.Bg,((b,()),())))))))
 | .b2 a b=>Ad f372 [1,1,1,0] nG (((),((),())),((Yi a),(a.AA.Ah,(a.AA.Ak,(a.f_out,(a.Bg,((b,()),())))))))
theorem ZiP:DK Tryz.prog B0 372 Zj1:=okR (mc Z02 Ae) (hc [] UG Af) (al [(2,nG),(4,nG)]) [] [.var k5,.row true,.row true,.row true,.row true] 5 ZiU func372 (fun p=>by cases p<;>kernel_rfl) (by kernel_rfl) fun x=>by kernel_rfl
end
noncomputable section
inductive Zv where
 | b0 (a:AO) (b:BV)
 | b1 (a:Bool) (b:BV) (c:AO)
def Z6y:Zv->Tr U (QN⊕Zv)
 | .b0 b a=>let e:=b.Kind==9;let c:=kL a.AA.Ah&&(kL a.AA.Ak&&(kL a.f_out&&kL a.Bg));let d:=Tr.chk c (AP (Zv.b1 e a b));.br e (.br (a.AA.Own != 8) (.chk c (AB (⟨a⟩:QN))) d) d
 | .b1 e b d=>let g:=bits .and .u64 b.AA.Bv d.Bv;.chk (kL b.AA.Ah&&(kL b.AA.Ak&&(kL b.f_out&&kL b.Bg))) (.bind 1384 (QP (5:Int) g ({ b with AA:=({ b.AA with Hl:=g,FI:=true }:A7) }:BV)) (fun(a:NC)=>let f:=kL a.q0.AA.Ah&&(kL a.q0.AA.Ak&&(kL a.q0.f_out&&kL a.q0.Bg));.br e (.chk f (AB (⟨({ a.q0 with AA:=({ a.q0.AA with Own:=-1 }:A7) }:BV)⟩:QN))) (.chk f (.bind 1387 (Ou (⟨9,Be,0,0,0,0,0,0,a.q0.AA.Bv,0,0⟩:AO) a.q0) (fun(c:LQ)=>.chk (kL c.q0.AA.Ah&&(kL c.q0.AA.Ak&&(kL c.q0.f_out&&kL c.q0.Bg))) (AB (⟨c.q0⟩:QN)))))))
def nI (a:AO) (b:BV):Option QN:=AU Z6y (.b0 a b)
def Z6m:Shape:=⟨[PQ 0,.agg [.v 156 15 true]],[.var 211 24 (Ej 1),.row 156 true,.row 138 true,.row 156 true,.row 148 true]⟩
def ZiH:Shape:=⟨[],[.var 211 24 (Ej 1),.row 156 true,.row 138 true,.row 156 true,.row 148 true]⟩
noncomputable def Zj9:HMod U:=⟨[KP,k0],[.var k5,.row true,.row true,.row true,.row true],Z6m,ZiH,false,1390,fun(y:QN)=>((),(FN y.q0)),fun x=>nI x.1.2.1.1 (match x with|⟨_,⟨Y,v2,v4,v6,v8,v9,q,z,A,C,D,F,G,I,J,M,N,O,Q,S,_⟩,v1,v3,v5,v7,_⟩=>(⟨(⟨Y,v2,v4,v1,v6,v8,v3,v9,q,z,A,C,D,F,G,I,J,M,N,O⟩:A7),Q,S,v5,v7⟩:BV)),okS rfl⟩
def Z6o:Lay:=⟨[0,3,4],[KP,KP,KP],[.var k5,.row true,.row true,.row true,.row true,.var k0],⟨[PQ 0,PQ 5,OV 4],[.var 211 24 (Ej 1),.row 156 true,.row 138 true,.row 156 true,.row 148 true,VA 156 15]⟩⟩
def ZiO:Zv->BC U
 | .b0 a b=>Dz f373 Z6m (((),((a,()),())),(FN b))
 | .b1 b a c=>Ad f373 [1,1,1,0] Z6o (((),((),((b,()),()))),((Yi a),(a.AA.Ah,(a.AA.Ak,(a.f_out,(a.Bg,((c,()),())))))))
theorem ZiS:DK Tryz.prog B0 373 Zj9:=okR Ae (hc [] Rf (hc [] UG Af)) (al [(3,Z6o)]) [] [.var k5,.row true,.row true,.row true,.row true] 5 ZiO func373 (fun p=>by cases p<;>kernel_rfl) (by kernel_rfl) fun x=>by kernel_rfl
inductive Zy where
 | b0 (a:AO) (b:BV)
def Z6M:Zy->Tr U (RV⊕Zy)
 | .b0 d b=>.chk (kL b.AA.Ah&&(kL b.AA.Ak&&(kL b.f_out&&kL b.Bg))) (.bind 1384 (QP (6:Int) (IntKind.wrap .u64 (d.Version)) ({ b with AA:=({ b.AA with Version:=d.Version }:A7) }:BV)) (fun(a:NC)=>let e:=kL a.q0.AA.Ah&&(kL a.q0.AA.Ak&&(kL a.q0.f_out&&kL a.q0.Bg));.br (a.q0.AA.Own==12) (.chk e (AB (⟨({ a.q0 with AA:=({ a.q0.AA with Own:=-1 }:A7) }:BV)⟩:RV))) (.br (!a.q0.AA.FY) (.chk e (.bind 1387 (Ou (⟨12,Be,0,0,0,0,0,0,0,11,0⟩:AO) ({ a.q0 with AA:=({ a.q0.AA with FY:=true }:A7) }:BV)) (fun(c:LQ)=>.chk (kL c.q0.AA.Ah&&(kL c.q0.AA.Ak&&(kL c.q0.f_out&&kL c.q0.Bg))) (AB (⟨c.q0⟩:RV))))) (.chk e (AB (⟨a.q0⟩:RV))))))
def ZC (a:AO) (b:BV):Option RV:=AU Z6M (.b0 a b)
def Z6t:Shape:=⟨[PQ 0,.agg [.v 156 15 true]],[.var 211 24 (Ej 1),.row 156 true,.row 138 true,.row 156 true,.row 148 true]⟩
def ZiM:Shape:=⟨[],[.var 211 24 (Ej 1),.row 156 true,.row 138 true,.row 156 true,.row 148 true]⟩
noncomputable def Zjc:HMod U:=⟨[KP,k0],[.var k5,.row true,.row true,.row true,.row true],Z6t,ZiM,false,1391,fun(y:RV)=>((),(FN y.q0)),fun x=>ZC x.1.2.1.1 (match x with|⟨_,⟨Y,v2,v4,v6,v8,v9,q,z,A,C,D,F,G,I,J,M,N,O,Q,S,_⟩,v1,v3,v5,v7,_⟩=>(⟨(⟨Y,v2,v4,v1,v6,v8,v3,v9,q,z,A,C,D,F,G,I,J,M,N,O⟩:A7),Q,S,v5,v7⟩:BV)),okS rfl⟩
def Zj3:Zy->BC U
 | .b0 a b=>Dz f374 Z6t (((),((a,()),())),(FN b))
theorem Zj4:DK Tryz.prog B0 374 Zjc:=okR Ae (hc [] Rf (hc [] UG Af)) AN [] [.var k5,.row true,.row true,.row true,.row true] 5 Zj3 func374 (fun p=>by cases p<;>kernel_rfl) (by kernel_rfl) fun x=>by kernel_rfl
inductive ZK where
 | b0 (a:AO) (b:BV)
def Z71:ZK->Tr U (Rh⊕ZK)
 | .b0 c a=>let g:=kL a.AA.Ah&&(kL a.AA.Ak&&(kL a.f_out&&kL a.Bg));let f:=a.Bg++[(⟨12,0,(⟨0,[]⟩:Aq),I7,0,c.BB⟩:Am)];.bind 4 (RX (U9 a)) (fun(d:Bool)=>.br (!d) (.chk g (AB (⟨a⟩:Rh))) (.bind 4 (Yw a.AA.Own) (fun(e:Bool)=>.br e (.chk g (.bind 1387 (Ou (⟨13,Be,0,0,42,15,0,0,0,0,0⟩:AO) a) (fun(b:LQ)=>.chk (kL b.q0.AA.Ah&&(kL b.q0.AA.Ak&&(kL b.q0.f_out&&kL b.q0.Bg))) (AB (⟨b.q0⟩:Rh))))) (.chk true (kl a.Bg (.chk (kA (a.Bg.length+1) 160) (.chk (kL a.AA.Ah&&(kL a.AA.Ak&&(kL a.f_out&&(f.length==f.length)))) (AB (⟨({ a with AA:=({ a.AA with Other:=15,Ez:=a.LD }:A7),Bg:=f }:BV)⟩:Rh)))))))))
def ZH (a:AO) (b:BV):Option Rh:=AU Z71 (.b0 a b)
def Z6C:Shape:=⟨[PQ 0,.agg [.v 156 15 true]],[.var 211 24 (Ej 1),.row 156 true,.row 138 true,.row 156 true,.row 148 true]⟩
def ZiQ:Shape:=⟨[],[.var 211 24 (Ej 1),.row 156 true,.row 138 true,.row 156 true,.row 148 true]⟩
noncomputable def ZjB:HMod U:=⟨[KP,k0],[.var k5,.row true,.row true,.row true,.row true],Z6C,ZiQ,false,1392,fun(y:Rh)=>((),(FN y.q0)),fun x=>ZH x.1.2.1.1 (match x with|⟨_,⟨Y,v2,v4,v6,v8,v9,q,z,A,C,D,F,G,I,J,M,N,O,Q,S,_⟩,v1,v3,v5,v7,_⟩=>(⟨(⟨Y,v2,v4,v1,v6,v8,v3,v9,q,z,A,C,D,F,G,I,J,M,N,O⟩:A7),Q,S,v5,v7⟩:BV)),okS rfl⟩
def Zja:ZK->BC U
 | .b0 a b=>Dz f375 Z6C (((),((a,()),())),(FN b))
theorem Zjl:DK Tryz.prog B0 375 ZjB:=okR (mc WG (mc Z02 Ae)) (hc [] Rf Af) AN [] [.var k5,.row true,.row true,.row true,.row true] 5 Zja func375 (fun p=>by cases p<;>kernel_rfl) (by kernel_rfl) fun x=>by kernel_rfl
inductive ZT where
 | b0 (a:AO) (b:BV)
def Z7k:ZT->Tr U (WM⊕ZT)
 | .b0 c a=>.chk (kL a.AA.Ah&&(kL a.AA.Ak&&(kL a.f_out&&kL a.Bg))) (.bind 1387 (Ou (⟨19,Be,0,0,0,0,0,0,0,0,0⟩:AO) a) (fun(b:LQ)=>.chk (kL b.q0.AA.Ah&&(kL b.q0.AA.Ak&&(kL b.q0.f_out&&kL b.q0.Bg))) (AB (⟨b.q0⟩:WM))))
def ZR (a:AO) (b:BV):Option WM:=AU Z7k (.b0 a b)
def Z6S:Shape:=⟨[PQ 0,.agg [.v 156 15 true]],[.var 211 24 (Ej 1),.row 156 true,.row 138 true,.row 156 true,.row 148 true]⟩
def Zjo:Shape:=⟨[],[.var 211 24 (Ej 1),.row 156 true,.row 138 true,.row 156 true,.row 148 true]⟩
noncomputable def Zka:HMod U:=⟨[KP,k0],[.var k5,.row true,.row true,.row true,.row true],Z6S,Zjo,false,1393,fun(y:WM)=>((),(FN y.q0)),fun x=>ZR x.1.2.1.1 (match x with|⟨_,⟨Y,v2,v4,v6,v8,v9,q,z,A,C,D,F,G,I,J,M,N,O,Q,S,_⟩,v1,v3,v5,v7,_⟩=>(⟨(⟨Y,v2,v4,v1,v6,v8,v3,v9,q,z,A,C,D,F,G,I,J,M,N,O⟩:A7),Q,S,v5,v7⟩:BV)),okS rfl⟩
def ZjG:ZT->BC U
 | .b0 a b=>Dz f376 Z6S (((),((a,()),())),(FN b))
theorem ZjR:DK Tryz.prog B0 376 Zka:=okR Ae (hc [] Rf Af) AN [] [.var k5,.row true,.row true,.row true,.row true] 5 ZjG func376 (fun p=>by cases p<;>kernel_rfl) (by kernel_rfl) fun x=>by kernel_rfl
inductive ZJ where
 | b0 (a:AO) (b:BV)
def Z6T:ZJ->Tr U (UE⊕ZJ)
 | .b0 c a=>let d:=kL a.AA.Ah&&(kL a.AA.Ak&&(kL a.f_out&&kL a.Bg));.br (a.AA.Own==18) (.chk d (.bind 1384 (QP (7:Int) (0:Int) ({ a with AA:=({ a.AA with Own:=-1 }:A7) }:BV)) (fun(b:NC)=>.chk (kL b.q0.AA.Ah&&(kL b.q0.AA.Ak&&(kL b.q0.f_out&&kL b.q0.Bg))) (AB (⟨b.q0⟩:UE))))) (.chk d (AB (⟨a⟩:UE)))
def ZG (a:AO) (b:BV):Option UE:=AU Z6T (.b0 a b)
def Z6G:Shape:=⟨[PQ 0,.agg [.v 156 15 true]],[.var 211 24 (Ej 1),.row 156 true,.row 138 true,.row 156 true,.row 148 true]⟩
def ZiT:Shape:=⟨[],[.var 211 24 (Ej 1),.row 156 true,.row 138 true,.row 156 true,.row 148 true]⟩
noncomputable def ZjF:HMod U:=⟨[KP,k0],[.var k5,.row true,.row true,.row true,.row true],Z6G,ZiT,false,1394,fun(y:UE)=>((),(FN y.q0)),fun x=>ZG x.1.2.1.1 (match x with|⟨_,⟨Y,v2,v4,v6,v8,v9,q,z,A,C,D,F,G,I,J,M,N,O,Q,S,_⟩,v1,v3,v5,v7,_⟩=>(⟨(⟨Y,v2,v4,v1,v6,v8,v3,v9,q,z,A,C,D,F,G,I,J,M,N,O⟩:A7),Q,S,v5,v7⟩:BV)),okS rfl⟩
def Zjj:ZJ->BC U
 | .b0 a b=>Dz f377 Z6G (((),((a,()),())),(FN b))
theorem Zjk:DK Tryz.prog B0 377 ZjF:=okR Ae (hc [] UG Af) AN [] [.var k5,.row true,.row true,.row true,.row true] 5 Zjj func377 (fun p=>by cases p<;>kernel_rfl) (by kernel_rfl) fun x=>by kernel_rfl
inductive ZI where
 | b0 (a:AO) (b:BV)
 | b1 (a:Bool) (b:BV) (c:AO)
def Z6Z:ZI->Tr U (QO⊕ZI)
 | .b0 b a=>let e:=b.Kind==21;let c:=kL a.AA.Ah&&(kL a.AA.Ak&&(kL a.f_out&&kL a.Bg));let d:=Tr.chk c (AP (ZI.b1 e a b));.br e (.br (a.AA.Own != 20) (.chk c (AB (⟨a⟩:QO))) d) d
 | .b1 e b d=>let g:=if b.AA.Limit<d.Length then b.AA.Limit else d.Length;.chk (kL b.AA.Ah&&(kL b.AA.Ak&&(kL b.f_out&&kL b.Bg))) (.bind 1384 (QP (11:Int) (IntKind.wrap .u64 (g)) ({ b with AA:=({ b.AA with Length:=g }:A7) }:BV)) (fun(a:NC)=>let f:=kL a.q0.AA.Ah&&(kL a.q0.AA.Ak&&(kL a.q0.f_out&&kL a.q0.Bg));.br e (.chk f (AB (⟨({ a.q0 with AA:=({ a.q0.AA with Own:=-1 }:A7) }:BV)⟩:QO))) (.chk f (.bind 1387 (Ou (⟨21,Be,0,0,0,0,0,0,0,0,a.q0.AA.Limit⟩:AO) a.q0) (fun(c:LQ)=>.chk (kL c.q0.AA.Ah&&(kL c.q0.AA.Ak&&(kL c.q0.f_out&&kL c.q0.Bg))) (AB (⟨c.q0⟩:QO)))))))
def nM (a:AO) (b:BV):Option QO:=AU Z6Z (.b0 a b)
def Z6D:Shape:=⟨[PQ 0,.agg [.v 156 15 true]],[.var 211 24 (Ej 1),.row 156 true,.row 138 true,.row 156 true,.row 148 true]⟩
def ZiX:Shape:=⟨[],[.var 211 24 (Ej 1),.row 156 true,.row 138 true,.row 156 true,.row 148 true]⟩
noncomputable def Zjt:HMod U:=⟨[KP,k0],[.var k5,.row true,.row true,.row true,.row true],Z6D,ZiX,false,1395,fun(y:QO)=>((),(FN y.q0)),fun x=>nM x.1.2.1.1 (match x with|⟨_,⟨Y,v2,v4,v6,v8,v9,q,z,A,C,D,F,G,I,J,M,N,O,Q,S,_⟩,v1,v3,v5,v7,_⟩=>(⟨(⟨Y,v2,v4,v1,v6,v8,v3,v9,q,z,A,C,D,F,G,I,J,M,N,O⟩:A7),Q,S,v5,v7⟩:BV)),okS rfl⟩
def Z6B:Lay:=⟨[0,3,4],[KP,KP,KP],[.var k5,.row true,.row true,.row true,.row true,.var k0],⟨[PQ 0,PQ 5,OV 4],[.var 211 24 (Ej 1),.row 156 true,.row 138 true,.row 156 true,.row 148 true,VA 156 15]⟩⟩
def Zjf:ZI->BC U
 | .b0 a b=>Dz f378 Z6D (((),((a,()),())),(FN b))
 | .b1 b a c=>Ad f378 [1,1,1,0] Z6B (((),((),((b,()),()))),((Yi a),(a.AA.Ah,(a.AA.Ak,(a.f_out,(a.Bg,((c,()),())))))))
theorem Zjr:DK Tryz.prog B0 378 Zjt:=okR Ae (hc [] Rf (hc [] UG Af)) (al [(3,Z6B)]) [] [.var k5,.row true,.row true,.row true,.row true] 5 Zjf func378 (fun p=>by cases p<;>kernel_rfl) (by kernel_rfl) fun x=>by kernel_rfl
inductive oJ where
 | b0 (a:A7) (b:AO) (c d:Int)
 | b1 (a:A7) (b:BV)
def hdB (A:AO) (y:BV) (ky:Nat) (f:AO->BV->Option (U.Ty ky)) (q:U.Ty ky->BV):Tr U ((A7×(List AO)×(List Am))⊕oJ):=
 .chk (kL y.AA.Ah&&(kL y.AA.Ak&&(kL y.f_out&&kL y.Bg))) (.bind ky (f A y) (fun z=>kl (q z).AA.Ak (.chk (kL (q z).AA.Ah&&(kL (q z).f_out&&kL (q z).Bg)) (AP (.b1 EP (q z))))))
def IJ:oJ->Tr U ((A7×(List AO)×(List Am))⊕oJ)
 | .b0 f a g h=>let j:=(if (255:Int)<a.Kind then (255:Int) else a.Kind);.bind 1380 (aZ f g h) (fun(b:Ud)=>let n:=nJ a b.q0;let m:=hdB a b.q0 1395 nM QO.q0;let l:=hdB a b.q0 1390 nI QN.q0;let k:=hdB a b.q0 1389 nH OT.q0;let i:=kL b.q0.AA.Ah&&(kL b.q0.AA.Ak&&(kL b.q0.f_out&&kL b.q0.Bg));.br (b.q0.AA.Bz != 0) (kl b.q0.AA.Ah (kl b.q0.AA.Ak (.chk true (.chk true (AB (b.q0.AA,([]:List AO),([]:List Am))))))) (.br (a.Kind==0) (.chk i (.bind 1381 n (fun(d:Me)=>.chk (kL d.q0.AA.Ah&&(kL d.q0.f_out&&kL d.q0.Bg)) (AP (.b1 EP d.q0))))) (.br (a.Kind==1) (.chk i (.bind 1381 n (fun(e:Me)=>.chk (kL e.q0.AA.Ah&&(kL e.q0.f_out&&kL e.q0.Bg)) (AP (.b1 EP e.q0))))) (.br (a.Kind==2) (hdB a b.q0 1382 Zt UD.q0) (.br (a.Kind==3) (hdB a b.q0 1383 ZO Rj.q0) (.br (a.Kind==4) (hdB a b.q0 1385 ZF Ri.q0) (.br (a.Kind==5) (hdB a b.q0 1386 Zx RZ.q0) (.br (a.Kind==6) (hdB a b.q0 1388 Z08 Rq.q0) (.br (a.Kind==7) k (.br (a.Kind==13) k (.br (a.Kind==8) l (.br (a.Kind==9) l (.br (a.Kind==12) (hdB a b.q0 1391 ZC RV.q0) (.br (a.Kind==15) (hdB a b.q0 1392 ZH Rh.q0) (.br (a.Kind==18) (hdB a b.q0 1393 ZR WM.q0) (.br (a.Kind==19) (hdB a b.q0 1394 ZG UE.q0) (.br (a.Kind==20) m (.br (a.Kind==21) m (.chk i (.bind 1387 (Ou (⟨7,Be,0,0,0,(if j>0 then j else (0:Int)),0,0,0,0,0⟩:AO) b.q0) (fun(c:LQ)=>kl c.q0.AA.Ak (.chk (kL c.q0.AA.Ah&&(kL c.q0.f_out&&kL c.q0.Bg)) (AP (.b1 EP c.q0))))))))))))))))))))))))
 | .b1 b a=>kl a.AA.Ah (kl a.f_out (kl a.Bg (AB (a.AA,a.f_out,a.Bg))))
def Gz (a:A7) (b:AO) (c d:Int):Option (A7×(List AO)×(List Am)):=AU IJ (.b0 a b c d)
def Z7t:Lay:=⟨[8,11],[KP,KP],[.var k1,.var k16,.row true,.row true,.row true],⟨[PQ 0,PQ 1],[VA 39 20,.var 211 24 (.agg [VC 3 1,VC 3 1,VC 3 1,.own 156 2,VC 3 1,VC 3 1,VC 37 1,VC 4 1,VC 25 1,VC 25 1,VC 4 1,VC 4 1,VC 3 1,VC 3 1,VC 3 1,VC 25 1,VC 25 1,VC 25 1,VC 3 1,VC 3 1,VC 30 1,VC 3 1,.own 156 3,.own 148 4]),.row 156 true,.row 156 true,.row 148 true]⟩⟩
def Zl4:oJ->BC U
 | .b0 a b c d=>Bd f277 [39,156,30,3] (a,b,c,d,())
 | .b1 b a=>AA3 f277 [1,1,1,1,0] Z7t (b,a.AA.BK,a.AA.Own,a.AA.Since,a.AA.Other,a.AA.Ez,a.AA.Ak,a.AA.Told,a.AA.Bv,a.AA.Hl,a.AA.FI,a.AA.FY,a.AA.Version,a.AA.Length,a.AA.Limit,a.AA.Bj,a.AA.F5,a.AA.Mark,a.AA.CP,a.AA.Bz,a.PZ,a.LD,a.AA.Ah,a.f_out,a.Bg,())
theorem ZkL:AA1 277 [39,156,30,3] 237 (fun x=>Gz x.1 x.2.1 x.2.2.1 x.2.2.2.1) rfl:=Bh Ae (hc [] Z9p (hc [] Rf (hc [] Zj5 (hc [] ZiG (hc [] ZjC (hc [] Zjh (hc [] ZiZ (hc [] Zkv (hc [] ZiP (hc [] ZiS (hc [] Zj4 (hc [] Zjl (hc [] ZjR (hc [] Zjk (hc [] Zjr Af))))))))))))))) (al [(8,Z7t)]) Zl4 func277 (fun p=>by cases p<;>kernel_rfl) (by kernel_rfl) fun _=>rfl
inductive Z0c where
 | b0 (a:AO) (b:Int) (c:CO)
 | b1 (a:CO) (b:A7)
def o7:Z0c->Tr U (QR⊕Z0c)
 | .b0 d e b=>.bind 237 (Gz b.Link.AA d b.Link.Event e) (fun(c:A7×(List AO)×(List Am))=>let h:=b.Link.Ag++c.2.1;kl b.Link.Ag (.chk (kA (b.Link.Ag.length+c.2.1.length) 120) (.chk (kL h&&(kL b.Ba&&kL h)) (.bind 1359 (nT b.Link.Event c.2.2 (⟨({ b.Link with AA:=c.1,Ag:=h }:Ac),b.Ba⟩:CO)) (fun(a:UH)=>let g:=kL a.q0.Link.Ag&&(kL a.q0.Ba&&kL a.q0.Link.Ag);let f:=Tr.chk g (AB (⟨a.q0⟩:QR));.br (a.q0.Link.BK==0) (.br (d.Kind==5) (.br (c.1.CP==3) (.chk g (AP (.b1 a.q0 c.1))) f) f) f)))))
 | .b1 a b=>.bind 41 (Z1L a.Link.BK a.Link.Key b.Bj b.F5) (fun(c:Bc)=>.bind 41 (qM c true true) (fun(d:Bc)=>.chk (kL a.Link.Ag&&(kL a.Ba&&kL a.Link.Ag)) (AB (⟨(⟨({ a.Link with Bq:=d }:Ac),a.Ba⟩:CO)⟩:QR))))
def Z0n (a:AO) (b:Int) (c:CO):Option QR:=AU o7 (.b0 a b c)
def Z7C:Shape:=⟨[PQ 0,.agg [.v 156 15 true],OV 3],[.var 118 67 (Jy 1),.row 156 false,.row 148 true]⟩
def Zk9:Shape:=⟨[],[.var 118 67 (Jy 1),.row 156 false,.row 148 true]⟩
noncomputable def ZlB:HMod U:=⟨[KP,k0,KP],[.var k9,.row false,.row true],Z7C,Zk9,false,1362,fun(y:QR)=>((),(WA y.q0)),fun x=>Z0n x.1.2.1.1 x.1.2.2.1.1 (match x with|⟨_,⟨Y,v2,v4,v5,v6,v7,v8,v9,q,z,A,C,D,F,G,I,J,M,N,O,Q,S,_⟩,v1,v3,_⟩=>(⟨(⟨Y,v2,v4,v5,v6,v7,v8,v9,q,z,A,C,D,F,G,I,J,M,N,O,v1,Q,S⟩:Ac),v3⟩:CO)),okS rfl⟩
def Z7x:Lay:=⟨[0,6],[KP,KP],[.var k9,.row false,.row true,.var k1],⟨[PQ 0,PQ 3],[.var 118 67 (Jy 1),.row 156 false,.row 148 true,VA 39 20]⟩⟩
def Zl8:Z0c->BC U
 | .b0 a b c=>Dz f210 Z7C (((),((a,()),((b,()),()))),(WA c))
 | .b1 a b=>Ad f210 [1,1,1,1,1,1,0] Z7x (((),((),())),((RP a),(a.Link.Ag,(a.Ba,((b,()),())))))
theorem Zli:DK Tryz.prog B0 210 ZlB:=okR (mc Z9i (mc ZoW (mc ZkL Ae))) (hc [] Z7d Af) (al [(6,Z7x)]) [] [.var k9,.row false,.row true] 3 Zl8 func210 (fun p=>by cases p<;>kernel_rfl) (by kernel_rfl) fun x=>by kernel_rfl
inductive Z05 where
 | b0 (a:Aq) (b:Int) (c:CO)
 | b1 (a:CO) (b:Aq)
def UJ:Z05->Tr U (Ox⊕Z05)
 | .b0 b f a=>let g:=kL a.Link.Ag&&(kL a.Ba&&kL a.Link.Ag);let h:=Tr.chk g (AB (⟨a⟩:Ox));.br (b.BP != 3) (.chk (true&&g) (.bind 1361 (Z00 a.Link.Event ([(⟨1,0,b,I7,0,Be⟩:Am)]) a) (fun(c:WT)=>.chk (kL c.q0.Link.Ag&&(kL c.q0.Ba&&kL c.q0.Link.Ag)) (AB (⟨c.q0⟩:Ox))))) (.bind 231 (LV b.Payload) (fun(e:AO×Int)=>.br (e.2==0) (.chk g (.bind 1362 (Z0n e.1 f a) (fun(d:QR)=>.chk (kL d.q0.Link.Ag&&(kL d.q0.Ba&&kL d.q0.Link.Ag)) (AB (⟨d.q0⟩:Ox))))) (.br (e.2==12) (.br (decide ((↑b.Payload.length:Int)>0)) (.chk g (AP (.b1 a b))) h) h)))
 | .b1 a c=>.chk (kI (0:Int) c.Payload) (.bind 5 (c.Payload[(Int.toNat 0)]?) (fun(b:Int)=>let d:=a.Link.Ag++[(⟨7,Be,0,0,0,(AQ (b)),0,0,0,0,0⟩:AO)];let e:=d.length==d.length;.chk true (kl a.Link.Ag (.chk (kA (a.Link.Ag.length+1) 120) (.chk (e&&(kL a.Ba&&e)) (AB (⟨(⟨({ a.Link with Ag:=d }:Ac),a.Ba⟩:CO)⟩:Ox)))))))
def Z06 (a:Aq) (b:Int) (c:CO):Option Ox:=AU UJ (.b0 a b c)
def Z7c:Shape:=⟨[PQ 0,.agg [.v 68 2 true],OV 3],[.var 118 67 (Jy 1),.row 156 false,.row 148 true]⟩
def ZjQ:Shape:=⟨[],[.var 118 67 (Jy 1),.row 156 false,.row 148 true]⟩
noncomputable def ZkV:HMod U:=⟨[KP,[.keep,.s 5 1],KP],[.var k9,.row false,.row true],Z7c,ZjQ,false,1360,fun(y:Ox)=>((),(WA y.q0)),fun x=>Z06 x.1.2.1.1 x.1.2.2.1.1 (match x with|⟨_,⟨Y,v2,v4,v5,v6,v7,v8,v9,q,z,A,C,D,F,G,I,J,M,N,O,Q,S,_⟩,v1,v3,_⟩=>(⟨(⟨Y,v2,v4,v5,v6,v7,v8,v9,q,z,A,C,D,F,G,I,J,M,N,O,v1,Q,S⟩:Ac),v3⟩:CO)),okS rfl⟩
def Z7m:Lay:=⟨[0,4],[KP,KP],[.var k9,.row false,.row true,.var [.keep,.s 5 1]],⟨[PQ 0,PQ 3],[.var 118 67 (Jy 1),.row 156 false,.row 148 true,VA 68 2]⟩⟩
def ZkA:Z05->BC U
 | .b0 a b c=>Dz f113 Z7c (((),((a,()),((b,()),()))),(WA c))
 | .b1 a b=>Ad f113 [1,1,1,0,1,1,1,0] Z7m (((),((),())),((RP a),(a.Link.Ag,(a.Ba,((b,()),())))))
theorem Zkm:DK Tryz.prog B0 113 ZkV:=okR (mc Z8J Ae) (hc [] Zk6 (hc [] Zli Af)) (al [(7,Z7m)]) [] [.var k9,.row false,.row true] 3 ZkA func113 (fun p=>by cases p<;>kernel_rfl) (by kernel_rfl) fun x=>by kernel_rfl
inductive Z1s where
 | b0 (a:Ac) (b:List Int) (c:Bool) (d:Int)
 | b1 (a:List Int) (b:Int) (c:Ac) (d:CO)
 | b2 (a:List Int) (b:Int) (c:Ac) (d:CO)
 | b3 (a:Int) (b:Bool) (c:Ac) (d:CO) (e:BI)
 | b4 (a:Int) (b:Bool) (c:Ac) (d:CO) (e:BI)
 | b5 (a:Int) (b c:Bool) (d:Ac) (e:CO) (f:BI) (g:Aq)
 | b6 (a:Int) (b c:Bool) (d:Ac) (e:CO) (f:BI) (g:Aq)
 | b7 (a:Int) (b c:Bool) (d:Ac) (e:CO) (f:BI) (g:Aq)
 | b8 (a:Int) (b:Ac) (c:CO) (d:BI) (e:Aq)
 | b9 (a:Ac) (b:CO) (c:BI)
def EG:Z1s->Tr U ((Ac×(List Am)×Bool)⊕Z1s)
 | .b0 d b e c=>.bind 1353 (Z2L d) (fun(a:XW)=>let h:=(⟨({ a.q0.Link with FO:=true }:Ac),a.q0.Ba⟩:CO);let g:=kL a.q0.Link.Ar.Az&&(kL a.q0.Link.AA.Ah&&(kL a.q0.Link.AA.Ak&&(kL a.q0.Link.CX&&(kL a.q0.Link.Ag&&kL a.q0.Ba))));let i:=Tr.chk g (AP (Z1s.b2 b c D8 h));.bind 4 (oK (Zc7 a.q0)) (fun(f:Bool)=>.br (!f) (kl a.q0.Link.Ar.Az (kl a.q0.Link.AA.Ah (kl a.q0.Link.AA.Ak (kl a.q0.Link.CX (kl a.q0.Link.Ag (.chk true (AB (a.q0.Link,([]:List Am),false)))))))) (.br e (.br (a.q0.Link.BK==1) (.chk g (AP (.b1 b c D8 h))) i) i)))
 | .b1 c b d a=>.chk (kL a.Link.Ar.Az&&(kL a.Link.AA.Ah&&(kL a.Link.AA.Ak&&(kL a.Link.CX&&(kL a.Link.Ag&&kL a.Ba))))) (AP (.b2 c b d (⟨({ a.Link with Fp:=b,Size:=0,Sync:=b }:Ac),a.Ba⟩:CO)))
 | .b2 e c d b=>.chk (kL b.Link.Ar.Az&&(kL b.Link.AA.Ah&&(kL b.Link.AA.Ak&&(kL b.Link.CX&&(kL b.Link.Ag&&kL b.Ba))))) (.bind 1354 (aB e c b) (fun(a:Rt)=>let g:=kL a.q2.Link.Ar.Az&&(kL a.q2.Link.AA.Ah&&(kL a.q2.Link.AA.Ak&&(kL a.q2.Link.Ag&&(kL a.q2.Ba&&(kL a.q2.Link.Ar.Az&&(kL a.q2.Link.AA.Ah&&(kL a.q2.Link.AA.Ak&&kL a.q2.Link.Ag)))))));let h:=Tr.chk g (AP (Z1s.b4 c a.q2.Link.Bq.Eg d a.q2 a.q0));.br (!a.q1) (kl a.q2.Link.Ar.Az (kl a.q2.Link.AA.Ah (kl a.q2.Link.AA.Ak (kl a.q2.Link.Ag (.chk true (AB (a.q2.Link,([]:List Am),false))))))) (.br (a.q0.SN==a.q2.Link.Ar.DX) (.bind 4 (Wq a.q0.Ap) (fun(f:Bool)=>.br (!f) (.br a.q2.Link.Bq.Eg (.chk g (AP (.b3 c a.q2.Link.Bq.Eg d a.q2 a.q0))) h) h)) h)))
 | .b3 d e f a g=>let h:=kL a.Link.Ar.Az&&(kL a.Link.AA.Ah&&(kL a.Link.AA.Ak&&(kL a.Link.Ag&&(kL a.Ba&&(kL a.Link.Ar.Az&&(kL a.Link.AA.Ah&&(kL a.Link.AA.Ak&&kL a.Link.Ag)))))));.bind 71 (Z1v a.Link.Bq g) (fun(c:BI×Int)=>.br (c.2 != 0) (.chk h (.bind 1356 (Z1a a.Link.Event (61:Int) a) (fun(b:Wl)=>kl b.q0.Link.Ar.Az (kl b.q0.Link.AA.Ah (kl b.q0.Link.AA.Ak (kl b.q0.Link.Ag (kl b.q0.Ba (AB (b.q0.Link,b.q0.Ba,false))))))))) (.chk h (AP (.b4 d e f a c.1))))
 | .b4 b c d a e=>let g:=(⟨0,([]:List Int)⟩:Aq);let f:=kL a.Link.Ar.Az&&(kL a.Link.AA.Ah&&(kL a.Link.AA.Ak&&(kL a.Link.Ag&&(kL a.Ba&&(kL a.Link.Ar.Az&&(kL a.Link.AA.Ah&&(kL a.Link.AA.Ak&&kL a.Link.Ag)))))));.br a.Link.Ar.Empty (.chk f (AP (.b5 b c true d a e g))) (kl a.Link.Ar.Az (.chk f (AP (.b5 b c ((↑a.Link.Ar.Az.length:Int)==0) d a e g))))
 | .b5 c d b e a f g=>let i:=kL a.Link.Ar.Az&&(kL a.Link.AA.Ah&&(kL a.Link.AA.Ak&&(kL a.Link.Ag&&(kL a.Ba&&(kL a.Link.Ar.Az&&(kL a.Link.AA.Ah&&(kL a.Link.AA.Ak&&kL a.Link.Ag)))))));.br (!b) (kl a.Link.Ar.Az (.chk (kI (0:Int) a.Link.Ar.Az) (kl a.Link.Ar.Az (.bind 68 (a.Link.Ar.Az[(Int.toNat 0)]?) (fun(h:Aq)=>.chk i (AP (.b6 c d b e a f h))))))) (.chk i (AP (.b6 c d b e a f g)))
 | .b6 e f h g a d i=>kl a.Link.Ar.Az (.bind 163 (Z3d a.Link.Ar d) (fun(b:BQ×Aq×Bool×Bool)=>let j:=(⟨({ a.Link with Ar:=b.1 }:Ac),a.Ba⟩:CO);.br b.2.2.2 (.chk (kL a.Link.AA.Ah&&(kL a.Link.AA.Ak&&(kL a.Link.Ag&&(kL a.Ba&&(kL a.Link.AA.Ah&&(kL a.Link.AA.Ak&&kL a.Link.Ag)))))) (.bind 1358 (nR i h j) (fun(c:OU)=>.chk (kL c.q0.Link.Ag&&(kL c.q0.Ba&&kL c.q0.Link.Ag)) (AP (.b7 e f b.2.2.1 g c.q0 d b.2.1))))) (kl a.Link.AA.Ah (kl a.Link.AA.Ak (.chk (kL a.Link.Ag&&(kL a.Ba&&kL a.Link.Ag)) (AP (.b7 e f b.2.2.1 g j d b.2.1)))))))
 | .b7 d f g b a c e=>let i:=kL a.Link.Ag&&(kL a.Ba&&kL a.Link.Ag);.br g (.br f (.bind 41 (qQ a.Link.Bq false true) (fun(h:Bc)=>.chk i (AP (.b8 d b (⟨({ a.Link with Bq:=h }:Ac),a.Ba⟩:CO) c e)))) (.chk i (AP (.b8 d b a c e)))) (.chk i (AP (.b9 b a c)))
 | .b8 c d a e f=>.chk (kL a.Link.Ag&&(kL a.Ba&&kL a.Link.Ag)) (.bind 1360 (Z06 f c a) (fun(b:Ox)=>.chk (kL b.q0.Link.Ag&&(kL b.q0.Ba&&kL b.q0.Link.Ag)) (AP (.b9 d b.q0 e))))
 | .b9 c a b=>.br (b.MD==1) (kl a.Link.Ag (kl a.Ba (AB (a.Link,a.Ba,true)))) (kl a.Link.Ag (kl a.Ba (AB (a.Link,a.Ba,a.Link.More))))
def bC (a:Ac) (b:List Int) (c:Bool) (d:Int):Option (Ac×(List Am)×Bool):=AU EG (.b0 a b c d)
def pU:Lay:=⟨[1,3,8,11],[[.s 5 1],KP,KP,KP],[.var k2,.var k12,.row true,.row true,.row true,.row true,.row true,.row true],⟨[OV 62,OV 3,PQ 0,PQ 1],[VA 44 66,.var 118 67 (Zm 2),.row 68 true,.row 156 true,.row 138 true,.row 99 true,.row 156 true,.row 148 true]⟩⟩
def pO:Lay:=⟨[3,8,11,12,14],[KP,KP,KP,KP,KP],[.var k2,.var k10,.var k3,.row false,.row false,.row false,.row false,.row true],⟨[OV 3,PQ 0,PQ 1,PQ 2,OV 4],[VA 44 66,.var 118 67 (Vw 3),VA 70 5,.row 68 false,.row 156 false,.row 138 false,.row 156 false,.row 148 true]⟩⟩
def pX:Lay:=⟨[3,8,11,12,14,17,18],[KP,KP,KP,KP,KP,KP,KP],[.var k2,.var k10,.var k3,.var [.keep,.s 5 1],.row false,.row false,.row false,.row false,.row true],⟨[OV 3,PQ 0,PQ 1,PQ 2,OV 4,PQ 3,OV 4],[VA 44 66,.var 118 67 (Vw 4),VA 70 5,VA 68 2,.row 68 false,.row 156 false,.row 138 false,.row 156 false,.row 148 true]⟩⟩
def Z90:Lay:=⟨[3,8,11,12,14,20,21],[KP,KP,KP,KP,KP,KP,KP],[.var k2,.var k9,.var k3,.var [.keep,.s 5 1],.row false,.row true],⟨[OV 3,PQ 0,PQ 1,PQ 2,OV 4,PQ 3,OV 4],[VA 44 66,.var 118 67 (Jy 4),VA 70 5,VA 68 2,.row 156 false,.row 148 true]⟩⟩
def Z8W:Lay:=⟨[3,8,11,12,20],[KP,KP,KP,KP,KP],[.var k2,.var k9,.var k3,.var [.keep,.s 5 1],.row false,.row true],⟨[OV 3,PQ 0,PQ 1,PQ 2,PQ 3],[VA 44 66,.var 118 67 (Jy 4),VA 70 5,VA 68 2,.row 156 false,.row 148 true]⟩⟩
def Z8O:Lay:=⟨[8,11,12],[KP,KP,KP],[.var k2,.var k9,.var k3,.row false,.row true],⟨[PQ 0,PQ 1,PQ 2],[VA 44 66,.var 118 67 (Jy 3),VA 70 5,.row 156 false,.row 148 true]⟩⟩
def Zow:Z1s->BC U
 | .b0 a b c d=>Bd f34 [44,62,4,3] (a,b,c,d,())
 | .b1 a b c d=>Ad f34 [1,1,1,1,0,1,0] pU (((a,()),((b,()),((),((),())))),((c,()),(nD d)))
 | .b2 a b c d=>Ad f34 [1,1,1,1,1,0] pU (((a,()),((b,()),((),((),())))),((c,()),(nD d)))
 | .b3 b c d a e=>Ad f34 [1,1,1,1,1,1,1,1,0,1,0,0] pO (((b,()),((),((),((),((c,()),()))))),((d,()),((QJ a),((e,()),(Tv a)))))
 | .b4 b c d a e=>Ad f34 [1,1,1,1,1,1,1,1,1,0] pO (((b,()),((),((),((),((c,()),()))))),((d,()),((QJ a),((e,()),(Tv a)))))
 | .b5 b c d e a f g=>Ad f34 [1,1,1,1,1,1,1,1,1,1,1,0,0] pX (((b,()),((),((),((),((c,()),((),((d,()),()))))))),((e,()),((QJ a),((f,()),((g,()),(Tv a))))))
 | .b6 b c d e a f g=>Ad f34 [1,1,1,1,1,1,1,1,1,1,1,1,0] pX (((b,()),((),((),((),((c,()),((),((d,()),()))))))),((e,()),((QJ a),((f,()),((g,()),(Tv a))))))
 | .b7 b c d e a f g=>Ad f34 [1,1,1,1,1,1,1,1,1,1,1,1,1,1,1,0,0] Z90 (((b,()),((),((),((),((c,()),((),((d,()),()))))))),((e,()),((RP a),((f,()),((g,()),(a.Link.Ag,(a.Ba,())))))))
 | .b8 b c a d e=>Ad f34 [1,1,1,1,1,1,1,1,1,1,1,1,1,1,1,0,1,0,1] Z8W (((b,()),((),((),((),((),()))))),((c,()),((RP a),((d,()),((e,()),(a.Link.Ag,(a.Ba,())))))))
 | .b9 b a c=>Ad f34 [1,1,1,1,1,1,1,1,1,1,1,1,1,1,1,1,0] Z8O (((),((),((),()))),((b,()),((RP a),((c,()),(a.Link.Ag,(a.Ba,()))))))
theorem ZoA:AA1 34 [44,62,4,3] 86 (fun x=>bC x.1 x.2.1 x.2.2.1 x.2.2.2.1) rfl:=Bh (mc Z13 (mc ZkJ (mc Zou (mc Zvt (mc Z9h Ae))))) (hc [] ZrI (hc [] ZnF (hc [] ZkE (hc [] ZjK (hc [] Zkm Af))))) (al [(6,pU),(7,pU),(12,pO),(17,pO),(19,pX),(21,pX),(25,Z90),(28,Z8W),(29,Z8O)]) Zow func34 (fun p=>by cases p<;>kernel_rfl) (by kernel_rfl) fun _=>rfl
end
noncomputable section
inductive Yt where
 | b0 (a:Jc) (b:List Int) (c:Bool) (d:Int)
 | b1 (a:List Int) (b:Bool) (c d:Int) (e:Ac)
def ZZ:Yt->Tr U (Bool⊕Yt)
 | .b0 d c e a=>let g:=AB true;.bind 4 (ZaA) (fun(f:Bool)=>.br (!f) (AB false) (.bind 60 (Z11 d) (fun(b:Ac×Int×Bool)=>.br (!b.2.2) g (.br (decide ((↑c.length:Int)>4096)) g (.br (decide (a<0)) g (.br (decide (a>1073741824)) g (AP (.b1 c e a b.2.1 b.1))))))))
 | .b1 a d e f g=>let k:=([]:List Int)++a;.bind 44 (Z32 g) (fun(h:Ac)=>.chk true (.chk (kA (0+a.length) 1) (kl k (.bind 86 (bC h k d (AQ (f+e))) (fun(b:Ac×(List Am)×Bool)=>.bind 86 (SC g a d (AQ (f+e))) (fun(c:Ac×(List Am)×Bool)=>.br (b.2.2==c.2.2) (.bind 4 (ZV b.2.1 c.2.1) (fun(i:Bool)=>.br i (.bind 4 (Z35 b.1 c.1) (fun(j:Bool)=>AB j)) (AB false))) (AB false)))))))
def Z7s (a:Jc) (b:List Int) (c:Bool) (d:Int):Option Bool:=AU ZZ (.b0 a b c d)
def Yv:Aj U:=⟨[59,62,4,3],4,fun x=>Z7s x.1 x.2.1 x.2.2.1 x.2.2.2.1,by decide⟩
def Z73:Lay:=LT [1,2,3,9,10] [.v 62,.v 4,.v 3,.p 0,.v 3] [.s 44]
def ZjX:Yt->BC U
 | .b0 a b c d=>Bd f8 [59,62,4,3] (a,b,c,d,())
 | .b1 a b c d e=>AA3 f8 [1,1,1,1,0] Z73 (a,b,c,d,e,())
theorem Zk8:AA0 8 Yv:=Bh (mc ZtW (mc Zp9 (mc ZmI (mc ZvB (mc ZjL (mc ZoA (mc Z9N Ae))))))) Af (al [(6,Z73)]) ZjX func8 (fun p=>by cases p<;>kernel_rfl) (by kernel_rfl) fun _=>rfl
end
end Go.Proofs.YtjodhcdmhobmoaaGreatDoor
