/- A part of it. -/
import Derived.Test.YteinepnbndegdaaGreatProg
import Derived.Test.YteinepnbndegdaaGreatBRm
import Derived.Test.YteinepnbndegdaaGreatBAv
import Derived.ArgAppend
set_option linter.unusedVariables false
set_option linter.unusedSimpArgs false
namespace Go.Proofs.YteinepnbndegdaaGreat
open Go Go.RowKit Go.Maps Go.MapKept Go.ChangeMaps
set_option maxRecDepth 100000
def FV (D l:List Int):List Int:=l.foldl (fun D x=>if x∈D then D else D++[x]) D
def Jn (z:Int->Bool) (nb:Int->List Int) (fr:Int) (D:List Int) (x:Int):List Int:=if x≠fr/\z x=false then D else FV D (nb x)
def IJ (z:Int->Bool) (nb:Int->List Int) (fr:Int):Nat->Nat->List Int->List Int
 | 0,_,D=>D
 | f+1,k,D=>match D[k]? with|none=>D|some x=>IJ z nb fr f (k+1) (Jn z nb fr D x)
theorem Z9E (D:List Int):FV D []=D:=rfl
theorem Zpe (D l:List Int) (j:Nat) (h:j<l.length):FV D (l.take (j+1))=if l[j]∈FV D (l.take j) then FV D (l.take j) else FV D (l.take j)++[l[j]]:=by
 unfold FV;rw[List.take_add_one,List.getElem?_eq_getElem h,List.foldl_append];rfl
theorem Z0d:∀(l D:List Int),D <+: FV D l
 | [],D=>List.prefix_refl _
 | x::l,D=>by
  show D <+: FV (if x∈D then D else D++[x]) l;refine List.IsPrefix.trans ?_ (Z0d l _);split
  ·exact List.prefix_refl _
  ·exact List.prefix_append _ _
theorem iC:∀(l D:List Int),D.Nodup->(FV D l).Nodup
 | [],D,h=>h
 | x::l,D,h=>by
  show (FV (if x∈D then D else D++[x]) l).Nodup;refine iC l _ ?_;split
  ·exact h
  ·rename_i C;rw[List.nodup_append];exact⟨h,by simp,fun a z b hb=>by rw[List.mem_singleton.1 hb];exact fun e=>C (e▸z)⟩
theorem Xu:∀(l D:List Int) (x:Int),x∈FV D l↔x∈D\/x∈l
 | [],D,x=>by simp[FV]
 | y::l,D,x=>by
  show x∈FV (if y∈D then D else D++[y]) l↔_;rw[Xu l];split
  ·rename_i h;rw[List.mem_cons]
   grind
  ·rw[List.mem_append,List.mem_singleton,List.mem_cons,or_assoc]
theorem Z0W:Tryz.prog.underlying 45=some (.slice 3):=by kernel_rfl
theorem info3:(Tryz.prog.info? 3).map (fun i=>(i.zero,i.size,i.bytes))=some (some (.int .i64 0),1,8):=by kernel_rfl
def H7 (w:World) (base:Nat) (v:Value) (q:List Int):Prop:=
 ∃g o cap cur,v = .slice (some ⟨g,o,none⟩) q.length cap/\base<=g/\w.heap[g]? = some (.cells cur 3)/\q.length<=cap/\o+cap<=cur.size/\cap<=maxLen/\∀j (h:j<q.length),cur[o+j]? = some (.int .i64 q[j])
theorem H7.kept {w w' : World} {base:Nat} {v:Value} {q:List Int} {row:Option Nat} (h:H7 w base v q) (I:w.grownBy w' row) (z:v.ownBlock≠row):H7 w' base v q:=by
 obtain⟨g,o,cap,cur,rfl,D,C,G⟩:=h;exact⟨g,o,cap,cur,rfl,D,(I.block g (Array.getElem?_eq_some_iff.1 C).1 (fun e=>z e)).trans C,G⟩
theorem H7.lt {w:World} {base:Nat} {v:Value} {q:List Int} (h:H7 w base v q) {g:Nat} (D:v.ownBlock=some g):base<=g/\g<w.heap.size:=by
 obtain⟨G,o,cap,cur,rfl,z,C,_⟩:=h;cases D;exact⟨z,(Array.getElem?_eq_some_iff.1 C).1⟩
theorem H7.ZsD {w:World} {base:Nat} {v:Value} {q:List Int} (h:w.ownsRow base 3 1 v q.length (q.map fun x=>Value.int .i64 x)) (R:0<q.length):H7 w base v q:=by
 rcases h.2 with ⟨_,M⟩|⟨g,cap,cur,rfl,z,C,D,G,Q,I⟩
 ·omega
 ·refine⟨g,0,cap,cur,rfl,z,C,D,by omega,G,fun j J=>?_⟩;have:(cur.toList.take (q.length*1))[j]? = some (.int .i64 q[j]):=by
   rw[I,List.getElem?_map,List.getElem?_eq_getElem J];rfl
  rw[List.getElem?_take]at this;split at this
  ·rw[Nat.zero_add];simpa using this
  ·cases this
theorem H7.append {w:World} {base:Nat} {v:Value} {q:List Int} (h:H7 w base v q) (hb:base<=w.heap.size) (x:Int) (ad:Addr) (I:∀j u,[Value.int .i64 x][j]? = some u->w.cell? (ad.add j)=some u) (ty:TypeId) (hq:q.length<=1000) :
  ∃v' w',(Builtin.append_ #[45,45] ty #[v,.slice (some ad) 1 1]).run Tryz.prog w = .ok v' w' /\ H7 w' base v' (q++[x])/\w.grownBy w' v.ownBlock/\(∀Q,v'.ownBlock=some Q -> v.ownBlock=some Q \/ w.heap.size<=Q):=by
 obtain⟨i0,hi,hz0,D,hz2⟩:=info_parts info3;obtain⟨g,o,cap,cur,rfl,h1,S,h3,h4,h5,h6⟩:=h;have hgl:=(Array.getElem?_eq_some_iff.1 S).1
 by_cases C:q.length+1<=cap
 ·have z:=run_append_room_cells (P:=Tryz.prog) w 45 ty 3 i0 Z0W hi g o q.length cap ad 1 1 [.int .i64 x] (by rw[D];rfl) I (fun u hu=>by rw[List.mem_singleton.1 hu];rfl) C
   (fun j R=>by
    have:j=0:=by simpa using R
    subst this;rw[D];simp only[World.cell?,S];rw[Array.getElem?_eq_getElem (by omega)];rfl)
   (fun j R=>by simp[World.frozen?,S])
  rw[D,Nat.mul_one]at z;obtain⟨G,k1,k2,k3⟩:=Le.wX w g cur 3 (0,0) (o+q.length) (.int .i64 x) S (by omega);refine⟨_,_,z,⟨g,o,cap,G,by rw[List.length_append];rfl,h1,k1,by simpa using C,by omega,h5,fun j R=>?_⟩,⟨rfl,rfl,rfl,by simp[World.setCells],fun k hk hne=>?_⟩,fun Q h=>.inl h⟩
  ·have hc:G[o+j]? = (cur.toList.set (o+q.length) (.int .i64 x))[o+j]?:=by rw[<- k3];simp
   rw[hc,List.getElem?_set]
   by_cases hj2:j=q.length
   ·subst hj2;rw[if_pos rfl,if_pos (by simp;omega)];simp
   ·rw[if_neg (by omega)];have hjq:j<q.length:=by simp at R;omega
    rw[List.getElem_append_left hjq];simpa using h6 j hjq
  ·exact Le.Wy _ _ _ _ _ (fun e=>hne (by rw[e];rfl))
 ·obtain⟨v',w',z,J,Y⟩:=run_append_arg_grows (P:=Tryz.prog) w 45 ty 3 i0 (.int .i64 0) 1 8 Z0W hi hz0 D hz2 rfl (by decide) ⟨g,o,none⟩ q.length cap (q.map fun y=>Value.int .i64 y) (by simp)
   (fun j u hu=>by
    rw[List.getElem?_map]at hu;obtain⟨y,hy,rfl⟩:=Option.map_eq_some_iff.1 hu;have R:=(List.getElem?_eq_some_iff.1 hy).1;have:=h6 j R;rw[Addr.add_lit];simp only[World.cell?,S];rw[this,(List.getElem?_eq_some_iff.1 hy).2];rfl) ad 1 1 [.int .i64 x] rfl I (by omega) (by unfold maxLen;omega) (by omega)
  have M : w'.ownsRow base 3 1 v' (q++[x]).length ((q++[x]).map fun y=>Value.int .i64 y):=by
   have:w'.ownsRow w.heap.size 3 1 v' (q++[x]).length ((q++[x]).map fun y=>Value.int .i64 y):=by simpa using J
   exact⟨this.1,this.2.imp id fun⟨g,cap,cur,a,b,c⟩=>⟨g,cap,cur,a,Nat.le_trans hb b,c⟩⟩
  have hlt:=J.lt;refine⟨v',w',z,H7.ZsD M (by simp),⟨Y.os,Y.tape,Y.output,Y.size,fun k hk _=>Y.block k hk (by simp)⟩,fun Q h=>.inr (hlt Q h).1⟩
theorem Z5V {l:List MapEntry} {j:Nat} {D:MapEntry} (J:(l.map (·.key)).Nodup) (I:l[j]? = some D) (x:MapEntry):x∈l.eraseIdx j↔x∈l/\x.key≠D.key:=by
 obtain⟨C,rfl⟩:=List.getElem?_eq_some_iff.1 I;rw[List.mem_eraseIdx_iff_getElem];have G:=List.pairwise_iff_getElem.1 J;constructor
 ·rintro ⟨i,hi,z,rfl⟩
  refine⟨List.getElem_mem _,fun h=>?_⟩;rcases Nat.lt_or_gt_of_ne z with hlt|hlt
  ·exact G i j (by simpa using hi) (by simpa using C) hlt (by simpa using h)
  ·exact G j i (by simpa using C) (by simpa using hi) hlt (by simpa using h.symm)
 ·rintro ⟨M,z⟩
  obtain⟨i,hi,rfl⟩:=List.getElem_of_mem M;exact⟨i,hi,fun h=>z (by subst h;rfl),rfl⟩
theorem FB.del {P:Program} {k:TypeId} {w:World} {b n:Nat} {S:Value->Prop} {t e:TypeId} (h:FB P k w b n S) (K:Keyed P k) (ht:P.underlying t=some (.map k e)) {key:Value} {kl:Lit} (C:keyOf P k key=some kl) (ty:TypeId) :
  ∃w',(Builtin.delete_ #[t,k] ty #[.map (some b),key]).run P w = .ok (.tuple #[]) w' /\ FB P k w' b n (fun v=>v≠key/\S v)/\w.grownBy w' (some b):=by
 obtain⟨es,z,hb,M,Y,R,h4⟩:=h;have hg:∀o:Obj,w.grownBy (setBlock w b o) (some b):=fun o=>⟨rfl,rfl,rfl,by simp[setBlock],fun i _ hi=>heap_setBlock_other hb _ (fun e=>hi (by rw[e]))⟩;rcases K.find w C es.toList (fun x D=>(R x D).1) with ⟨Q,J⟩|⟨j,e0,Q,J,g3⟩
 ·refine⟨setBlock w b (.map es z),by simp[Builtin.delete_,run_underlying ht,MapKept.run_getObj_map hb,K.check w _ C,Q,MapKept.run_setObj_map _ hb,Result.andThen,setBlock],⟨es,z,heap_setBlock_same hb _,M,Y,R,fun v=>?_⟩,hg _⟩;show v≠key/\S v↔_;rw[h4 v];constructor
  ·exact fun h=>h.2
  ·rintro ⟨x,D,rfl⟩
   exact⟨J x D,x,D,rfl⟩
 ·have G:(es.eraseIdxIfInBounds j).toList=es.toList.eraseIdx j:=by
   have hj:=(List.getElem?_eq_some_iff.1 J).1;rw[Array.length_toList]at hj;unfold Array.eraseIdxIfInBounds;rw[dif_pos hj,Array.toList_eraseIdx]
  refine⟨setBlock w b (.map (es.eraseIdxIfInBounds j) z),by simp[Builtin.delete_,run_underlying ht,MapKept.run_getObj_map hb,K.check w _ C,Q,MapKept.run_setObj_map _ hb,Result.andThen,setBlock],⟨_,z,heap_setBlock_same hb _,stamped_erase M j,?_,fun x D=>?_,fun v=>?_⟩,hg _⟩
  ·rw[<- Array.length_toList,G];exact Nat.le_trans (List.eraseIdx_sublist _ _).length_le (by simpa using Y)
  ·rw[G]at D;exact R x ((Z5V M.2.2 J x).1 D).1
  ·rw[G];simp only[Z5V M.2.2 J,h4 v,g3];constructor
   ·rintro ⟨I,x,D,rfl⟩
    exact⟨x,⟨D,I⟩,rfl⟩
   ·rintro ⟨x,⟨D,I⟩,rfl⟩
    exact⟨I,x,D,rfl⟩
end Go.Proofs.YteinepnbndegdaaGreat
