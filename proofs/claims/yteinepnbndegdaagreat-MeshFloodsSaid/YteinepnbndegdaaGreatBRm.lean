/- A part of it. -/
import Derived.Maps.Own
set_option linter.unusedVariables false
set_option linter.unusedSimpArgs false
namespace Go.Proofs.YteinepnbndegdaaGreat
open Go Go.Maps Go.MapKept Go.ChangeMaps Go.RowKit
def FB (P:Program) (k:TypeId) (w:World) (b n:Nat) (S:Value->Prop):Prop:=
 ∃es z,w.heap[b]? = some (.map es z)/\Stamped es z/\es.size<=n/\(∀x∈es.toList,(∃l,keyOf P k x.key=some l)/\x.val = .bool true)/\∀v,S v↔∃x∈es.toList,x.key=v
variable {P:Program} {k:TypeId} {w:World} {b n:Nat} {S:Value->Prop}
theorem FB.made (w:World) (P:Program) (k:TypeId):FB P k (w.alloc (.map #[] 0)) w.heap.size 0 (fun _=>False):=
 ⟨#[],0,(MapKept.heap_alloc w _).1,stamped_empty 0,Nat.le_refl _,by simp,by simp⟩
theorem FB.lt (h:FB P k w b n S):b<w.heap.size:=by
 obtain⟨es,z,hb,_⟩:=h;exact(Array.getElem?_eq_some_iff.1 hb).1
theorem FB.same {w' : World} (h:FB P k w b n S) (C : w'.heap[b]? = w.heap[b]?):FB P k w' b n S:=by
 obtain⟨es,z,hb,h⟩:=h;exact⟨es,z,C.trans hb,h⟩
theorem FB.congr {S' : Value->Prop} (h:FB P k w b n S) (J:∀v,S' v↔S v):FB P k w b n S' :=by
 obtain⟨es,z,hb,C,D,G,I⟩:=h;exact⟨es,z,hb,C,D,G,fun v=>(J v).trans (I v)⟩
theorem FB.mono (h:FB P k w b n S) {C : Nat} (J:n<=C):FB P k w b C S:=by
 obtain⟨es,z,hb,D,G,I⟩:=h;exact⟨es,z,hb,D,Nat.le_trans G J,I⟩
theorem FB.alloc (h:FB P k w b n S) (o:Obj):FB P k (w.alloc o) b n S:=h.same (heap_alloc_old w o b h.lt)
theorem FB.lookup {t e:TypeId} (h:FB P k w b n S) (K:Keyed P k) (R:P.underlying t=some (.map k e)) (hz:(zeroValue e).run P w = .ok (.bool false) w) {key:Value} {kl:Lit} (z:keyOf P k key=some kl) :
  ∃x:Bool,(Instr.lookup t (.map (some b)) key false).run P w = .ok (.bool x) w/\(x=true↔S key):=by
 obtain⟨es,C,hb,h1,h2,M,Q⟩:=h;rcases K.find w z es.toList (fun x I=>(M x I).1) with ⟨D,G⟩|⟨j,J,D,G,Y⟩
 ·refine⟨false,by simp[Instr.lookup,run_underlying R,MapKept.run_getObj_map hb,K.check w _ z,D,hz,Result.andThen],?_⟩;constructor
  ·intro hf;cases hf
  ·intro hs;obtain⟨x,I,hk⟩:=(Q key).1 hs;exact absurd hk (G x I)
 ·have hm:=List.mem_of_getElem? G;have hv:=(M J hm).2;refine⟨true,by simp[Instr.lookup,run_underlying R,MapKept.run_getObj_map hb,K.check w _ z,D,hv,Result.andThen],?_⟩;exact⟨fun _=>(Q key).2 ⟨J,hm,Y⟩,fun _=>rfl⟩
theorem FB.store {t e:TypeId} (h:FB P k w b n S) (K:Keyed P k) (ht:P.underlying t=some (.map k e)) (hn:n<maxLen) {key:Value} {kl:Lit} (z:keyOf P k key=some kl) :
  ∃w',(Instr.mapUpdate t (.map (some b)) key (.bool true)).run P w = .ok () w' /\ FB P k w' b (n+1) (fun v=>v=key\/S v)/\w.grownBy w' (some b):=by
 obtain⟨es,C,hb,h1,h2,Y,h4⟩:=h;have hg:∀o:Obj,w.grownBy (setBlock w b o) (some b):=fun o=>⟨rfl,rfl,rfl,by simp[setBlock],fun i _ hi=>heap_setBlock_other hb _ (fun e=>hi (by rw[e]))⟩;rcases K.find w z es.toList (fun x D=>(Y x D).1) with ⟨g1,M⟩|⟨j,e0,g1,M,R⟩
 ·refine⟨setBlock w b (.map (es.push ⟨key,.bool true,C⟩) (C+1)),?_,⟨_,_,heap_setBlock_same hb _,stamped_push h1 M,by simp;omega,?_,?_⟩,hg _⟩
  ·simp[Instr.mapUpdate,run_underlying ht,MapKept.run_getObj_map hb,K.check w false z,g1,MapKept.run_setObj_map _ hb,Result.andThen,setBlock]
  ·intro x D;simp only[Array.toList_push,List.mem_append,List.mem_singleton]at D;rcases D with D|rfl
   ·exact Y x D
   ·exact⟨⟨_,z⟩,rfl⟩
  ·intro v;simp only[Array.toList_push,List.mem_append,List.mem_singleton];constructor
   ·rintro (rfl|hs)
    ·exact⟨_,.inr rfl,rfl⟩
    ·obtain⟨x,D,hk⟩:=(h4 v).1 hs;exact⟨x,.inl D,hk⟩
   ·rintro ⟨x,D|rfl,hk⟩
    ·exact .inr ((h4 v).2 ⟨x,D,hk⟩)
    ·exact .inl hk.symm
 ·have hj:es[j]? = some e0:=by simpa using M
  have hm:=List.mem_of_getElem? M;have hv:=(Y e0 hm).2;have Q:∀I,es[j]? = some I -> ({ I with key:=key,val:=.bool true }:MapEntry).key=I.key:=fun I J =>by rw[hj]at J;cases J;exact R.symm
  have G:(es.modify j (fun I =>{ I with key:=key,val:=.bool true })).toList=es.toList:=by
   rw[Array.toList_modify,modify_eq_set _ _ _ _ M];have e0e:({ e0 with key:=key,val:=.bool true }:MapEntry)=e0:=by cases e0;simp only at R hv;subst R;subst hv;rfl
   rw[e0e];refine List.ext_getElem? fun i=>?_;rw[List.getElem?_set];split
   ·rename_i hi;subst hi;rw[if_pos (List.getElem?_eq_some_iff.1 M).1,M]
   ·rfl
  refine⟨setBlock w b (.map (es.modify j (fun I =>{ I with key:=key,val:=.bool true })) C),?_,⟨_,_,heap_setBlock_same hb _,stamped_modify h1 _ _ (fun _ _=>rfl) (fun I _ J =>Q I J),?_,?_,?_⟩,hg _⟩
  ·simp[Instr.mapUpdate,run_underlying ht,MapKept.run_getObj_map hb,K.check w false z,g1,hj,R,K.stays w z,MapKept.run_setObj_map _ hb,Result.andThen,setBlock]
  ·simp;omega
  ·intro x D;rw[G]at D;exact Y x D
  ·intro v;rw[G];constructor
   ·rintro (rfl|hs)
    ·exact⟨e0,hm,R⟩
    ·exact(h4 v).1 hs
   ·intro D;exact .inr ((h4 v).2 D)
end Go.Proofs.YteinepnbndegdaaGreat
