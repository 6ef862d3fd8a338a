/- A part of it. -/
import Derived.Test.YteinepnbndegdaaGreatProg
import Derived.Test.YteinepnbndegdaaGreatL1
import Derived.WalkKit
import Derived.OwnWalk
import Derived.OwnWalkIn
import Derived.Maps.Own
import Derived.MapKept
import Derived.KernelRfl
set_option linter.unusedVariables false
set_option linter.unusedSimpArgs false
namespace Go.Proofs.YteinepnbndegdaaGreat
open Go Go.RowKit Go.Maps Go.MapKept Go.ChangeMaps
set_option maxRecDepth 100000
structure HV where
 fr:Int
 to:Int
 FW:Value
def HV.cells (now:Int) (x:HV):List Value:=[.int .i64 x.fr,.int .i64 x.to,.int .i64 now,x.FW]
def HV.val (now:Int) (x:HV):Value:=.agg (x.cells now).toArray
theorem TK:Tryz.prog.underlying 161=some (.map 3 30):=by kernel_rfl
theorem u3:Tryz.prog.underlying 3=some (.int .i64):=by kernel_rfl
theorem z30 (w:World):(zeroValue 30).run Tryz.prog w = .ok (.slice none 0 0) w:=by kernel_rfl
theorem K3:Keyed Tryz.prog 3:=int_keyed u3
def ES (w:World) (M:Nat) (now:Int) (e:Option Value):Prop:=∃z c,w.heap[M]? = some (.map (match e with|none=>#[]|some v=>#[⟨.int .i64 now,v,z⟩]) c)
theorem ES.same {w w' : World} {M:Nat} {now:Int} {e:Option Value} (h:ES w M now e) (hb:w'.heap[M]? = w.heap[M]?):ES w' M now e:=by
 obtain⟨z,c,h⟩:=h;exact⟨z,c,hb.trans h⟩
theorem ES.lt {w:World} {M:Nat} {now:Int} {e:Option Value} (h:ES w M now e):M<w.heap.size:=by
 obtain⟨z,c,h⟩:=h;exact(Array.getElem?_eq_some_iff.1 h).1
theorem ES.look {w:World} {M:Nat} {now:Int} {e:Option Value} (h:ES w M now e) (S:(Lit.int .i64 now).wf=true) :
  (Instr.lookup 161 (.map (some M)) (.int .i64 now) false).run Tryz.prog w = .ok (e.getD (.slice none 0 0)) w:=by
 obtain⟨I,c,h⟩:=h;have z:=keyOf_int_mk u3 S;cases e with
 | none=>
  simp only at h;rcases K3.find w z [] (fun x G=>by cases G) with ⟨D,C⟩|⟨j,J,D,C,Q⟩
  ·simp[Instr.lookup,run_underlying TK,MapKept.run_getObj_map h,K3.check w _ z,D,z30,Result.andThen]
  ·simp at C
 | some v=>
  simp only at h;rcases K3.find w z [⟨.int .i64 now,v,I⟩] (fun x G=>by rw[List.mem_singleton.1 G];exact⟨_,z⟩) with ⟨D,C⟩|⟨j,J,D,C,Q⟩
  ·exact absurd rfl (C _ List.mem_cons_self)
  ·have R:j=0:=by
    have:=(List.getElem?_eq_some_iff.1 C).1;simpa using this
   subst R;cases C;simp[Instr.lookup,run_underlying TK,MapKept.run_getObj_map h,K3.check w _ z,D,Result.andThen]
def V9 (w:World) (M:Nat):Value:=match w.heap[M]? with|some (.map es _)=>(es[0]?.map (·.val)).getD (.slice none 0 0)|_=>.slice none 0 0
theorem ES.val {w:World} {M:Nat} {now:Int} {e:Option Value} (h:ES w M now e):V9 w M=e.getD (.slice none 0 0):=by
 obtain⟨z,c,h⟩:=h;unfold V9;rw[h];cases e<;>rfl
theorem ES.Jq {w:World} {M:Nat} {now:Int} {e:Option Value} (h:ES w M now e) (z:(Lit.int .i64 now).wf=true) :
  (Instr.lookup 161 (.map (some M)) (.int .i64 now) false).run Tryz.prog w = .ok (V9 w M) w:=by rw[h.look z,h.val]
theorem ES.Zn4 {w:World} {M:Nat} {now:Int} (h:ES w M now none) {k:Int} (G:(Lit.int .i64 k).wf=true) :
  (Instr.lookup 161 (.map (some M)) (.int .i64 k) true).run Tryz.prog w = .ok (.tuple #[.slice none 0 0,.bool false]) w:=by
 obtain⟨J,c,h⟩:=h;have z:=keyOf_int_mk u3 G;simp only at h;rcases K3.find w z [] (fun x I=>by cases I) with ⟨C,D⟩|⟨j,Q,C,D,R⟩
 ·simp[Instr.lookup,run_underlying TK,MapKept.run_getObj_map h,K3.check w _ z,C,z30,Result.andThen]
 ·simp at D
theorem ES.store {w:World} {M:Nat} {now:Int} {e:Option Value} (h:ES w M now e) (hk:(Lit.int .i64 now).wf=true) (v:Value) :
  ∃w',(Instr.mapUpdate 161 (.map (some M)) (.int .i64 now) v).run Tryz.prog w = .ok () w' /\ ES w' M now (some v)/\w.grownBy w' (some M):=by
 obtain⟨G,c,h⟩:=h;have z:=keyOf_int_mk u3 hk;have J:∀es:Array MapEntry,∀c',w.heap[M]? = some (.map es c')->∀o:Obj,w.grownBy (setBlock w M o) (some M):=fun es c' hb o=>⟨rfl,rfl,rfl,by simp[setBlock],fun i _ hi=>heap_setBlock_other hb _ (fun e=>hi (by rw[e]))⟩;cases e with
 | none=>
  simp only at h;rcases K3.find w z [] (fun x I=>by cases I) with ⟨D,C⟩|⟨j,S,D,C,Y⟩
  ·exact⟨setBlock w M (.map (#[].push ⟨.int .i64 now,v,c⟩) (c+1)),by simp[Instr.mapUpdate,run_underlying TK,MapKept.run_getObj_map h,K3.check w false z,D,MapKept.run_setObj_map _ h,Result.andThen,setBlock],⟨c,c+1,heap_setBlock_same h _⟩,J _ _ h _⟩
  ·simp at C
 | some Q=>
  simp only at h;rcases K3.find w z [⟨.int .i64 now,Q,G⟩] (fun x I=>by rw[List.mem_singleton.1 I];exact⟨_,z⟩) with ⟨D,C⟩|⟨j,S,D,C,Y⟩
  ·exact absurd rfl (C _ List.mem_cons_self)
  ·have hj:j=0:=by
    have:=(List.getElem?_eq_some_iff.1 C).1;simpa using this
   subst hj;cases C;refine⟨setBlock w M (.map ((#[⟨.int .i64 now,Q,G⟩]:Array MapEntry).modify 0 fun R =>{ R with key:=.int .i64 now,val:=v }) c),?_,⟨G,c,heap_setBlock_same h _⟩,J _ _ h _⟩;simp[Instr.mapUpdate,run_underlying TK,MapKept.run_getObj_map h,K3.check w false z,D,K3.stays w z,MapKept.run_setObj_map _ h,Result.andThen,setBlock]
theorem ES.del {w:World} {M:Nat} {now:Int} {e:Option Value} (h:ES w M now e) (Y:(Lit.int .i64 now).wf=true) (ty:TypeId) :
  ∃w',(Builtin.delete_ #[161,3] ty #[.map (some M),.int .i64 now]).run Tryz.prog w = .ok (.tuple #[]) w' /\ ES w' M now none/\w.grownBy w' (some M):=by
 obtain⟨G,c,h⟩:=h;have z:=keyOf_int_mk u3 Y;have J:∀es:Array MapEntry,∀c',w.heap[M]? = some (.map es c')->∀o:Obj,w.grownBy (setBlock w M o) (some M):=fun es c' hb o=>⟨rfl,rfl,rfl,by simp[setBlock],fun i _ hi=>heap_setBlock_other hb _ (fun e=>hi (by rw[e]))⟩;cases e with
 | none=>
  simp only at h;rcases K3.find w z [] (fun x I=>by cases I) with ⟨D,C⟩|⟨j,Q,D,C,R⟩
  ·exact⟨setBlock w M (.map #[] c),by simp[Builtin.delete_,run_underlying TK,MapKept.run_getObj_map h,K3.check w _ z,D,MapKept.run_setObj_map _ h,Result.andThen,setBlock],⟨G,c,heap_setBlock_same h _⟩,J _ _ h _⟩
  ·simp at C
 | some v0=>
  simp only at h;rcases K3.find w z [⟨.int .i64 now,v0,G⟩] (fun x I=>by rw[List.mem_singleton.1 I];exact⟨_,z⟩) with ⟨D,C⟩|⟨j,Q,D,C,R⟩
  ·exact absurd rfl (C _ List.mem_cons_self)
  ·have S:j=0:=by
    have:=(List.getElem?_eq_some_iff.1 C).1;simpa using this
   subst S;cases C;refine⟨setBlock w M (.map #[] c),?_,⟨G,c,heap_setBlock_same h _⟩,J _ _ h _⟩;simp[Builtin.delete_,run_underlying TK,MapKept.run_getObj_map h,K3.check w _ z,D,MapKept.run_setObj_map _ h,Result.andThen,setBlock]
end Go.Proofs.YteinepnbndegdaaGreat
