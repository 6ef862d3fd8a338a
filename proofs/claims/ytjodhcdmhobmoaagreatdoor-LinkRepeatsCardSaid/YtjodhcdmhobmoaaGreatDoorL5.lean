/- A part of it. -/
import Derived.Test.YtjodhcdmhobmoaaGreatDoorL4
set_option linter.unusedVariables false
set_option linter.unusedSimpArgs false
namespace Go.Proofs.YtjodhcdmhobmoaaGreatDoor.Le
section
variable {U:CY}
mutual
def Gs:SV U.Ty->List Nat
 | .all id _=>[id]
 | .Bc id _ _ _=>[id]
 | .ptr id _ _ _=>[id]
 | .agg cs=>PW cs
 | .BH cs=>PW cs
 | .Ot cs=>PW cs
 | .fn _ a b=>PW a++PW b
 | .raw v=>EO v
 | _=>[]
def PW:List (SV U.Ty)->List Nat
 | []=>[]
 | x::xs=>Gs x++PW xs
end
mutual
def FY (q:Nat->Nat):SV U.Ty->SV U.Ty
 | .all id n=>.all (q id) n
 | .Bc id off len tot=>.Bc (q id) off len tot
 | .ptr id i off tot=>.ptr (q id) i off tot
 | .agg cs=>.agg (NT q cs)
 | .BH cs=>.BH (NT q cs)
 | .Ot cs=>.Ot (NT q cs)
 | .fn f a b=>.fn f (NT q a) (NT q b)
 | .raw v=>.raw (FU q v)
 | v=>v
def NT (q:Nat->Nat):List (SV U.Ty)->List (SV U.Ty)
 | []=>[]
 | x::xs=>FY q x::NT q xs
end
mutual
theorem ZcF:∀x:SV U.Ty,EO (AU U x)=Gs x
 | .all _ _=>by simp only[AU,EO,Gs]
 | .Bc _ _ _ _=>by simp only[AU,EO,Gs]
 | .ptr _ _ _ _=>by simp only[AU,EO,Gs]
 | .agg cs=>by simp only[AU,EO,Gs];exact Ry cs
 | .BH cs=>by simp only[AU,EO,Gs];exact Ry cs
 | .Ot cs=>by simp only[AU,EO,Gs];exact Ry cs
 | .fn _ a b=>by simp only[AU,EO,Gs];rw[Ry a,Ry b]
 | .raw v=>by simp only[AU,Gs]
 | .lit _=>by simp only[AU,EO,Gs]
 | .si _ _=>by simp only[AU,EO,Gs]
 | .sb _=>by simp only[AU,EO,Gs]
 | .ss _=>by simp only[AU,EO,Gs]
 | .nil _=>by simp only[AU,EO,Gs]
 | .sl _ _=>by simp only[AU,EO,Gs]
 | .Ce _ _=>by simp only[AU,EO,Gs]
 | .CE _ _ _ _=>by simp only[AU,EO,Gs]
 | .TV _ _ _=>by simp only[AU,EO,Gs]
 | .no=>by simp only[AU,EO,Gs]
 | .und=>by simp only[AU,EO,Gs]
theorem Ry:∀xs:List (SV U.Ty),D7 (Aq U xs)=PW xs
 | []=>rfl
 | x::xs=>by simp only[Aq,D7,PW];rw[ZcF x,Ry xs]
end
mutual
theorem rG (q:Nat->Nat):∀x:SV U.Ty,AU U (FY q x)=FU q (AU U x)
 | .all _ _=>by simp only[AU,FU,FY]
 | .Bc _ _ _ _=>by simp only[AU,FU,FY]
 | .ptr _ _ _ _=>by simp only[AU,FU,FY]
 | .agg cs=>by simp only[AU,FU,FY];rw[PI q cs]
 | .BH cs=>by simp only[AU,FU,FY];rw[PI q cs]
 | .Ot cs=>by simp only[AU,FU,FY];rw[PI q cs]
 | .fn _ a b=>by simp only[AU,FU,FY];rw[PI q a,PI q b]
 | .raw v=>by simp only[AU,FY]
 | .lit _=>by simp only[AU,FU,FY]
 | .si _ _=>by simp only[AU,FU,FY]
 | .sb _=>by simp only[AU,FU,FY]
 | .ss _=>by simp only[AU,FU,FY]
 | .nil _=>by simp only[AU,FU,FY]
 | .sl _ _=>by simp only[AU,FU,FY]
 | .Ce _ _=>by simp only[AU,FU,FY]
 | .CE _ _ _ _=>by simp only[AU,FU,FY]
 | .TV _ _ _=>by simp only[AU,FU,FY]
 | .no=>by simp only[AU,FU,FY]
 | .und=>by simp only[AU,FU,FY]
theorem PI (q:Nat->Nat):∀xs:List (SV U.Ty),Aq U (NT q xs)=Gl q (Aq U xs)
 | []=>rfl
 | x::xs=>by simp only[Aq,Gl,NT];rw[rG q x,PI q xs]
end
def retS (e sz:Nat) (H:BF U):SV U.Ty->Tr U (SV U.Ty×BF U)
 | .nil _=>.when (U.Ap e=sz) (.leaf (.sl e [],H))
 | y=>.leaf (y,H)
def Sm:Fk->BF U->SV U.Ty->Tr U (SV U.Ty×BF U)
 | .s e sz,H,x=>(NV H x).andThen fun y=>retS e sz (Pv H (O8 x)) y
 | .own e sz,H,x=>(match x with
  | .nil _=>.when (U.Ap e=sz) (.leaf (.all H.length 0,H++[.row e [] none]))
  | .all id n=>.leaf (.all id n,H)
  | _=>.fail)
 | .keep,H,x=>.leaf (x,H)
 | .drop,H,_=>.leaf (.und,H)
def Sz:List Fk->BF U->List (SV U.Ty)->Tr U (List (SV U.Ty)×BF U)
 | [],H,[]=>.leaf ([],H)
 | f::fs,H,x::xs=>(Sm f H x).andThen fun r=>(Sz fs r.2 xs).andThen fun q=>.leaf (r.1::q.1,q.2)
 | _,_,_=>.fail
def sW (fl:List Fk) (H:BF U) (x:SV U.Ty):Tr U (SV U.Ty×BF U):=
 match x with
 | .agg cs=>(Sz fl H cs).andThen fun r=>.leaf (.agg r.1,r.2)
 | .raw _=>.fail
 | x=>match fl with
  | [f]=>Sm f H x
  | _=>.fail
def Sl:List (List Fk)->BF U->List (SV U.Ty)->Tr U (List (SV U.Ty)×BF U)
 | [],H,[]=>.leaf ([],H)
 | f::fs,H,x::xs=>(sW f H x).andThen fun r=>(Sl fs r.2 xs).andThen fun q=>.leaf (r.1::q.1,q.2)
 | _,_,_=>.fail
def P8:Nat->List Bf->BF U->List Nat->List Nat->Tr U (BF U×List Nat)
 | 0,_,_,_,_=>.fail
 | _+1,_,H,[],seen=>.leaf (H,seen)
 | n+1,fb,H,id::q,seen=>
  if seen.contains id then P8 n fb H q seen else
  match H[id]?,fb with
  | some (.row _ _ none),.row true::z =>P8 n z H q (seen++[id])
  | some (.row _ _ _),.row false::z =>P8 n z (Pv H [id]) q (seen++[id])
  | some (.var _ _ x),.var fl::z =>(sW fl H x).andThen fun r=>(match r.2[id]? with
    | some (.var e m _)=>.when (okS r.1=true) (P8 n z (r.2.set id (.var e m r.1)) (q++Gs r.1) (seen++[id]))
    | _=>.fail)
  | _,_=>.fail
def sD (q:Nat->Nat):Md U.Ty->Md U.Ty
 | .var e n x=>.var e n (FY q x)
 | .fvar e n x=>.fvar e n (FY q x)
 | b=>b
def V5 (H:BF U) (ids:List Nat):BF U:=ids.map fun id=>sD (ids.idxOf ·) ((H[id]?).getD .dead)
def Vb (fa:List (List Fk)) (fb:List Bf) (k:Nat) (args:List (SV U.Ty)) (H:BF U):Tr U (List Nat×List (SV U.Ty)×BF U):=
 (Sl fa H args).andThen fun r=>(P8 1000 fb r.2 (List.range k++PW r.1) []).andThen fun q=>.leaf (q.2,r.1,q.1)
def gX:BF U->List Nat->BF U->BF U
 | H,[],q=>H++q
 | H,id::ids,b::q=>gX (H.set id b) ids q
 | H,_::_,[]=>H
def fF (H:BF U) (ids:List Nat) (q:BF U):BF U:=gX H ids (q.map (sD (JZ ids H.length)))
theorem ZBN {e sz:Nat} {H:BF U} {y:SV U.Ty} {r:SV U.Ty×BF U} (h:(retS e sz H y).AY r) (C:∀v,y≠.raw v):AU U r.1=GL sz (AU U y)/\r.2=H:=by
 unfold retS at h;split at h
 ·simp only[E8,Tr.AY]at h;obtain⟨A,rfl⟩:=h;simp[AU,GL,A]
 ·simp only[Tr.AY]at h;subst h;refine⟨?_,rfl⟩;cases y with
  | nil z =>rename_i q;exact absurd rfl (q z)
  | raw v=>exact absurd rfl (C v)
  | _=>simp[AU,GL]
theorem ZyS {H:BF U} {x y:SV U.Ty} (h:(NV H x).AY y):∀v,y≠.raw v:=by
 intro v D;subst D;unfold NV at h;split at h<;>(try (simp[Tr.AY]at h;done))
 ·obtain⟨t,xs,fl,z,A,q,C⟩:=He h;simp[Tr.AY]at q
 ·obtain⟨t,xs,fl,z,A,q,C⟩:=He h;simp[Tr.AY]at q
theorem ZcS {f:Fk} {H:BF U} {x:SV U.Ty} {r:SV U.Ty×BF U} (h:(Sm f H x).AY r):IA f (BM U H) (AU U x)=some (AU U r.1,BM U r.2):=by
 cases f with
 | s e sz=>
  simp only[Sm,EI]at h;obtain⟨y,q,C⟩:=h;obtain⟨z,A⟩:=ZBN C (ZyS q);simp only[IA,Z3l q,Option.map_some,z,A];rw[ZdG,VJ H _ (Z2a q)]
 | own e sz=>
  simp only[Sm]at h;split at h
  ·simp only[E8,Tr.AY]at h;obtain⟨D,rfl⟩:=h;simp[IA,iE,AU,BM,CX,Bg,D]
  ·simp only[Tr.AY]at h;subst h;simp[IA,iE,AU]
  ·simp[Tr.AY]at h
 | keep=>
  simp only[Sm,Tr.AY]at h;subst h;rfl
 | drop=>
  simp only[Sm,Tr.AY]at h;subst h;rfl
theorem Zzt:∀{fl:List Fk} {H:BF U} {xs:List (SV U.Ty)} {r:List (SV U.Ty)×BF U},(Sz fl H xs).AY r->Hz fl (BM U H) (Aq U xs)=some (Aq U r.1,BM U r.2):=by
 intro fl;induction fl with
 | nil=>
  intro H xs r h;cases xs with
  | nil=>simp only[Sz,Tr.AY]at h;subst h;rfl
  | cons=>simp[Sz,Tr.AY]at h
 | cons f fl C=>
  intro H xs r h;cases xs with
  | nil=>simp[Sz,Tr.AY]at h
  | cons x xs=>
   simp only[Sz,EI,Tr.AY]at h;obtain⟨p,z,q,A,rfl⟩:=h;simp only[Aq,Hz,ZcS z,C A]
theorem ZcQ {fl:List Fk} {H:BF U} {x:SV U.Ty} {r:SV U.Ty×BF U} (h:(sW fl H x).AY r):Js fl (BM U H) (AU U x)=some (AU U r.1,BM U r.2):=by
 unfold sW at h;split at h
 ·rename_i cs;simp only[EI,Tr.AY]at h;obtain⟨p,q,rfl⟩:=h;simp only[AU,Js,Zzt q,Option.map_some]
 ·simp[Tr.AY]at h
 ·rename_i A C;split at h
  ·rename_i f;have q:=ZcS h;unfold Js;split
   ·rename_i cs z;exfalso;cases x<;>simp_all [AU]
   ·exact q
  ·simp[Tr.AY]at h
theorem ZzM:∀{fl:List (List Fk)} {H:BF U} {xs:List (SV U.Ty)} {r:List (SV U.Ty)×BF U},(Sl fl H xs).AY r->IM fl (BM U H) (Aq U xs)=some (Aq U r.1,BM U r.2):=by
 intro fl;induction fl with
 | nil=>
  intro H xs r h;cases xs with
  | nil=>simp only[Sl,Tr.AY]at h;subst h;rfl
  | cons=>simp[Sl,Tr.AY]at h
 | cons f fl C=>
  intro H xs r h;cases xs with
  | nil=>simp[Sl,Tr.AY]at h
  | cons x xs=>
   simp only[Sl,EI,Tr.AY]at h;obtain⟨p,z,q,A,rfl⟩:=h;simp only[Aq,IM,ZcQ z,C A]
theorem ZxX:∀{n:Nat} {fb:List Bf} {H:BF U} {q seen:List Nat} {r:BF U×List Nat},(P8 n fb H q seen).AY r->Ju n fb (BM U H) q seen=some (BM U r.1,r.2):=by
 intro n;induction n with
 | zero=>intro fb H q seen r h;simp[P8,Tr.AY]at h
 | succ n D=>
  intro fb H q seen r h;cases q with
  | nil=>simp only[P8,Tr.AY]at h;subst h;rfl
  | cons id q=>
   unfold P8 at h;unfold Ju
   by_cases C:seen.contains id=true
   ·rw[if_pos C]at h ⊢;exact D h
   ·rw[if_neg C]at h ⊢;rw[MF];split at h
    ·rename_i t xs A hb;rw[hb];simp only[Option.map_some,CX,Bool.and_self,if_true];exact D h
    ·rename_i t xs fl A hb;rw[hb];simp only[Option.map_some,CX,Bool.and_self,if_true,Bool.false_eq_true,if_false];rw[<- VJ H [id] (fun i I=>by simp at I;subst I;exact⟨t,xs,fl,hb⟩)];exact D h
    ·rename_i e m x fl A hb;rw[hb];simp only[EI]at h;obtain⟨p,J,z⟩:=h;simp only[Option.map_some,CX,Bg,Bool.not_false,Bool.and_self,if_true,ZcQ J,MF];split at z
     ·rename_i M N O F;simp only[E8]at z;obtain⟨G,z⟩:=z;rw[F];simp only[Option.map_some,CX,Bg,PV G,if_true];have:=D z;rw[P6]at this;simp only[CX,Bg]at this;rw[ZcF];exact this
     ·simp[Tr.AY]at z
    ·simp[Tr.AY]at h
theorem rC {fa:List (List Fk)} {fb:List Bf} {k:Nat} {args:List (SV U.Ty)} {H:BF U} {r:List Nat×List (SV U.Ty)×BF U} (h:(Vb fa fb k args H).AY r):pack fa fb k (Aq U args) (BM U H)=some (r.1,Aq U r.2.1,BM U r.2.2):=by
 simp only[Vb,EI,Tr.AY]at h;obtain⟨p,z,q,A,rfl⟩:=h;simp only[pack,ZzM z,Ry,ZxX A]
theorem Z7U (q:Nat->Nat) (b:Md U.Ty):CX U (sD q b)=Fj q (CX U b):=by
 cases b<;>simp[sD,CX,Fj,Bg,Qe,Gl,rG]
theorem qV (H:BF U) (ids:List Nat):BM U (V5 H ids)=Iq (BM U H) ids:=by
 simp only[BM,V5,Iq,List.map_map];apply List.map_congr_left;intro id _;simp only[Function.comp,Z7U];congr 1;rw[List.getElem?_map];cases H[id]?<;>rfl
theorem ZxO:∀(H:BF U) (ids:List Nat) (q:BF U),BM U (gX H ids q)=Pz (BM U H) ids (BM U q):=by
 intro H ids;induction ids generalizing H with
 | nil=>intro q;simp[gX,Pz,BM]
 | cons id ids z=>
  intro q;cases q with
  | nil=>rfl
  | cons b q=>
   simp only[gX,z,P6];rfl
theorem ZoO (H:BF U) (ids:List Nat) (q:BF U):BM U (fF H ids q)=OQ (BM U H) ids (BM U q):=by
 simp only[fF,OQ,ZxO];congr 1;simp only[BM,List.map_map];apply List.map_congr_left;intro b _;simp[Function.comp,Z7U]
def VQ:List (SV U.Ty)->List FuncId
 | []=>[]
 | .fn f _ _::vs=>f::VQ vs
 | .raw v::vs=>MM [v]++VQ vs
 | _::vs=>VQ vs
theorem Zuz (v:V) (vs:List V):MM (v::vs)=MM [v]++MM vs:=by
 cases v<;>simp[MM]
theorem Zx1:∀(vs:List (SV U.Ty)),MM (Aq U vs)=VQ vs:=by
 intro vs;induction vs with
 | nil=>rfl
 | cons v vs q=>
  simp only[Aq];rw[Zuz,q];cases v<;>simp[AU,MM,VQ]
end
end Go.Proofs.YtjodhcdmhobmoaaGreatDoor.Le
namespace Go.Proofs.YtjodhcdmhobmoaaGreatDoor.Le
open Go.RowKit (Below)
structure Zfj (k:Nat) (ids:List Nat) (st st' : St):Prop where
 nodup:ids.Nodup
 pre:ids.take k=List.range k
 len:st'.H.length=ids.length
 heap:∀(j id:Nat),ids[j]? = some id->∃b b',st.H[id]? = some b/\b.live=true/\st'.H[j]? = some b' /\ b'.live=true/\b'.row=b.row/\(b'.EZ=true->b.EZ=true)/\b'.elem=b.elem/\b'.Ap=b.Ap /\
  (b.floor<=b'.floor\/b'.floor=b'.xs.length)/\b'.floor<=b'.xs.length/\(b.row=true->b'.xs=b.xs)/\(b.row=false->b'.xs=Gl (ids.idxOf ·) b.xs/\∀r∈D7 b.xs,r∈ids)
 slen:st'.s.length=st.s.length
 slots:∀(i:Nat) (v' : V),st'.s[i]? = some v' -> v' = .und\/∃v,st.s[i]? = some v/\v' = FU (ids.idxOf ·) v/\∀r∈EO v,r∈ids
theorem Zbc {σ:Sg} {w:World}:∀{xs:List V} {vs:List Value},xs.length=vs.length->(∀(i:Nat) (x:V) (v:Value),xs[i]? = some x->vs[i]? = some v->AQ σ w [x] [v])->AQ σ w xs vs:=by
 intro xs;induction xs with
 | nil=>intro vs q _;cases vs with|nil=>exact .nil|cons=>simp at q
 | cons x xs C=>
  intro vs q h;cases vs with
  | nil=>simp at q
  | cons v vs=>exact AQ.FD.2 ⟨h 0 x v rfl rfl,C (by simpa using q) (fun i y u z A=>h (i+1) y u (by simpa using z) (by simpa using A))⟩
theorem ZDv {E:Env} {B:Nat} {w0:Start} {σ:Sg} {st st' : St} {a:Act} {w:World} {k:Nat} {ids:List Nat} (N:Zfj k ids st st') (h:Eu E B w0 σ st a w):Eu E B w0 (σ.ren ids) st' a w:=by
 have z:∀{j:Nat} {L:Loc},(σ.ren ids).box j=some L->∃id,ids[j]? = some id/\σ.box id=some L:=by
  intro j L I;simp only[Sg.ren]at I;cases hj:ids[j]? with
  | none=>simp[hj]at I
  | some id=>simp only[hj,Option.bind_some]at I;exact⟨id,rfl,I⟩
 have M:∀{j:Nat} {J : Box},st'.H[j]? = some J -> ∃id,ids[j]? = some id:=by
  intro j J hb;have hlt:=(List.getElem?_eq_some_iff.1 hb).1;rw[N.len]at hlt;exact⟨ids[j],List.getElem?_eq_getElem hlt⟩
 refine⟨⟨h.inv.below,h.inv.size,?_,?_,?_,h.inv.cells,?_,?_,h.inv.old,fun b hb=>?_⟩,h.Ee.bare (fun b c hh=>⟨hh,rfl⟩) (EP.refl _),?_,h.calm⟩
 ·intro j L I;obtain⟨id,h1,h2⟩:=z I;obtain⟨b,J,_,_,q1,q2,_⟩:=N.heap j id h1;exact⟨J,q1,q2⟩
 ·intro j J hb hl;obtain⟨id,C⟩:=M hb;obtain⟨b,b2,p1,p2,Q,p4,p5,p6,p7,p8,p9,p10,D,F⟩:=N.heap j id C;rw[hb]at Q;cases Q;obtain⟨L,I,A⟩:=h.inv.boxes id b p1 p2;obtain⟨us,r1,r2,r3,r4⟩:=A.Dc;refine⟨L,by simp[Sg.ren,C,I],?_⟩;have G:J.xs.length=b.xs.length:=by
   cases q:b.row with
   | true=>rw[D q]
   | false=>rw[(F q).1,Z0z]
  have Y:AQ (σ.ren ids) w J.xs us:=by
   cases q:b.row with
   | true=>rw[D q];exact r1.bare (fun b c hh=>⟨hh,rfl⟩) (EP.refl _) ((KO _).2 (A.Hu q))
   | false=>rw[(F q).1];exact fD r1 (F q).2
  refine⟨by rw[G];exact A.tot,⟨us,Y,r2,r3,by rw[p7,G];exact r4⟩,fun hn=>A.EZ (p6 hn),by rw[p8];exact A.Ap,?_,?_⟩
  ·intro x O;cases q:b.row with
   | true=>rw[D q]at O;exact A.oks x O
   | false=>
    rw[(F q).1,Z2G]at O;obtain⟨y,hy,rfl⟩:=List.mem_map.1 O;rw[Ze5];exact A.oks y hy
  ·intro q x O;rw[p5]at q;rw[D q]at O;exact A.Hu q x O
 ·intro j j' b1 b2 L1 L2 g h1 h2 l1 l2 s1 s2 g1 g2;obtain⟨i1,e1,t1⟩:=z s1;obtain⟨i2,e2,t2⟩:=z s2;obtain⟨c1,_,p1,p2,_⟩:=N.heap j i1 e1;obtain⟨c2,_,q1,q2,_⟩:=N.heap j' i2 e2;have:=h.inv.apart i1 i2 c1 c2 L1 L2 g p1 q1 p2 q2 t1 t2 g1 g2;subst this;exact Z2j N.nodup e1 e2
 ·intro b c hc j J L hb hl I hg;obtain⟨id,C,S⟩:=z I;obtain⟨b0,b2,p1,p2,Q,p4,p5,p6,p7,p8,p9,p10,D,F⟩:=N.heap j id C;rw[hb]at Q;cases Q;have:=h.inv.floor b c hc id b0 L p1 p2 S hg;have G:J.xs.length=b0.xs.length:=by
   cases q:b0.row with
   | true=>rw[D q]
   | false=>rw[(F q).1,Z0z]
  have hle:b0.floor<=J.floor:=by
   rcases p9 with p9|p9
   ·exact p9
   ·rw[p9,G];exact h.inv.low id b0 p1 p2
  exact Nat.lt_of_lt_of_le this (Nat.mul_le_mul_right _ hle)
 ·intro j J hb hl;obtain⟨id,C⟩:=M hb;obtain⟨b0,b2,p1,p2,Q,p4,p5,p6,p7,p8,p9,p10,D,F⟩:=N.heap j id C;rw[hb]at Q;cases Q;exact p10
 ·obtain⟨k1,k2,k3,k4⟩:=h.inv.kept b hb;refine⟨k1,k2,fun j L I hg=>?_,k4⟩;obtain⟨id,C,S⟩:=z I;exact k3 id L S hg
 ·refine Zbc (by rw[N.slen];exact h.slots.length) (fun i x v O hv=>?_);rcases N.slots i x O with rfl|⟨y,hy,rfl,hc⟩
  ·exact .und _ .nil
  ·obtain⟨u,hu,q⟩:=h.slots.get hy;rw[hv]at hu;cases hu;exact fD q (by simpa[D7]using hc)
def spread {α:Type} (u:α) (n:Nat):List Nat->List α->List α
 | k::ks,v::vs=>(spread u n ks vs).set k v
 | _,_=>List.replicate n u
theorem ZmF {α:Type} (u:α) (n:Nat):∀(ks:List Nat) (vs:List α),(spread u n ks vs).length=n:=by
 intro ks;induction ks with
 | nil=>intro vs;simp[spread]
 | cons k ks q=>intro vs;cases vs<;>simp[spread,q]
theorem ZwL {α:Type} (u:α) (n:Nat):∀(ks:List Nat) (vs:List α) (i:Nat) (x:α),(spread u n ks vs)[i]? = some x->x=u\/∃j:Nat,ks[j]? = some i/\vs[j]? = some x:=by
 intro ks;induction ks with
 | nil=>
  intro vs i x h;simp only[spread,List.getElem?_replicate]at h;split at h
  ·exact .inl (Option.some.inj h).symm
  ·cases h
 | cons k ks C=>
  intro vs i x h;cases vs with
  | nil=>
   simp only[spread,List.getElem?_replicate]at h;split at h
   ·exact .inl (Option.some.inj h).symm
   ·cases h
  | cons v vs=>
   simp only[spread,List.getElem?_set]at h;split at h
   ·rename_i A;subst A;split at h
    ·exact .inr ⟨0,rfl,h⟩
    ·cases h
   ·rcases C vs i x h with h|⟨j,q,z⟩
    ·exact .inl h
    ·exact .inr ⟨j+1,q,z⟩
theorem Zww {α z:Type} (g:α->z) (u:α) (n:Nat):∀(ks:List Nat) (vs:List α),(spread u n ks vs).map g=spread (g u) n ks (vs.map g):=by
 intro ks;induction ks with
 | nil=>intro vs;simp[spread]
 | cons k ks q=>intro vs;cases vs<;>simp[spread,List.map_set,q]
theorem ZxC {σ:Sg} {w:World} {xs:List V} {vs:List Value} (h:AQ σ w xs vs):∀keep:List Nat,AQ σ w (keep.map fun i=>xs.getD i .und) (keep.map fun i=>vs.getD i undef):=by
 intro keep;induction keep with
 | nil=>exact .nil
 | cons i keep C=>
  simp only[List.map_cons];refine AQ.FD.2 ⟨?_,C⟩;cases q:xs[i]? with
  | none=>simp only[List.getD,q,Option.getD_none];exact .und _ .nil
  | some x=>
   obtain⟨v,A,z⟩:=h.get q;simp only[List.getD,q,A,Option.getD_some];exact z
theorem ZBb {E:Env} {B:Nat} {w0:Start} {σ:Sg} {st:St} {a:Act} {w:World} {k:Nat} {fa:List (List Fk)} {fb:List Bf} {keep ids:List Nat} {as:List V} {F:Heap} (O:pack fa fb k (keep.map fun i=>st.s.getD i .und) st.H=some (ids,as,F))
  (h:Eu E B w0 σ st a w):∃z,Ext σ w z w/\Eu E B w0 (z.ren ids) ⟨spread .und st.s.length keep (Gl (ids.idxOf ·) as),Iq F ids⟩ a w:=by
 obtain⟨S,hm,_,z,q,A,D⟩:=Z3x h.inv (ZxC h.slots keep) O;have C:=Z4c q S w0 q.below q.old (fun b hb=>by
  obtain⟨k1,k2,k3,k4⟩:=q.kept b hb;exact⟨k1,k2,fun id _ L M=>k3 id L M,k4⟩)
 refine⟨z,A,C,(h.Ee.ext A).bare (fun b c N=>⟨N,rfl⟩) (EP.refl _),?_,h.calm⟩;refine Zbc (by rw[ZmF];exact h.slots.length) (fun i x v hx Y=>?_);rcases ZwL _ _ _ _ i x hx with rfl|⟨j,I,J⟩
 ·exact .und _ .nil
 ·obtain⟨u,G,Q⟩:=(fD D hm).get J;simp only[List.getElem?_map,I,Option.map_some,List.getD,Y,Option.getD_some,Option.some.injEq]at G;subst G;exact Q
inductive WA where
 | run (c:Code)|nxt|exit (id:Nat)|ret
inductive Fr where
 | seq (c:Code)|blk (id:Nat)|loop (b:Code)
def OI:List (List Nat)->List V->List V
 | es::rs,v::vs=>Du es v::OI rs vs
 | [],vs=>vs
 | _,[]=>[]
def Qg (rs:List (List Nat)):V->V
 | .BH vs=>.BH (OI rs vs)
 | v=>Du (rs.headD []) v
inductive DV (call:Dn) (E:Env) (f:FuncId) (fn:Func) (k:Nat) (Z:St->V×Heap->Prop):WA->List Fr->St->V×Heap->Prop where
 | skip {K st r}:DV call E f fn k Z .nxt K st r->DV call E f fn k Z (.run .skip) K st r
 | region {id ops K st st' r}:MW call E ops (List.range ops.size) st=some st' -> DV call E f fn k Z .nxt K st' r->DV call E f fn k Z (.run (.region id ops false)) K st r
 | draw {id ops K st st' r}:E.calm f id=true->TJ call E ops st=some st' -> DV call E f fn k Z .nxt K st' r->DV call E f fn k Z (.run (.region id ops true)) K st r
 | seq {a b K st r}:DV call E f fn k Z (.run a) (.seq b::K) st r->DV call E f fn k Z (.run (.seq a b)) K st r
 | cond {c a b t K st r}:ev E st.s c = .lit (.bool t)->DV call E f fn k Z (.run (if t then a else b)) K st r->DV call E f fn k Z (.run (.cond c a b)) K st r
 | block {id b K st r}:DV call E f fn k Z (.run b) (.blk id::K) st r->DV call E f fn k Z (.run (.block id b)) K st r
 | loop {b K st r}:DV call E f fn k Z (.run b) (.loop b::K) st r->DV call E f fn k Z (.run (.loop b)) K st r
 | scope {b K st r}:DV call E f fn k Z (.run b) K st r->DV call E f fn k Z (.run (.scope b)) K st r
 | label {l K st r}:DV call E f fn k Z .nxt K st r->DV call E f fn k Z (.run (.label l)) K st r
 | exit {id K st r}:DV call E f fn k Z (.exit id) K st r->DV call E f fn k Z (.run (.exit id)) K st r
 | ret {K st r}:DV call E f fn k Z .ret K st r->DV call E f fn k Z (.run .ret) K st r
 | nseq {c K st r}:DV call E f fn k Z (.run c) K st r->DV call E f fn k Z .nxt (.seq c::K) st r
 | nblk {id K st r}:DV call E f fn k Z .nxt K st r->DV call E f fn k Z .nxt (.blk id::K) st r
 | Zfl {b K st r}:DV call E f fn k Z (.run b) (.loop b::K) st r->DV call E f fn k Z .nxt (.loop b::K) st r
 | eseq {id c K st r}:DV call E f fn k Z (.exit id) K st r->DV call E f fn k Z (.exit id) (.seq c::K) st r
 | Zfm {id b K st r}:DV call E f fn k Z (.exit id) K st r->DV call E f fn k Z (.exit id) (.loop b::K) st r
 | eblk {id K st r}:DV call E f fn k Z .nxt K st r->DV call E f fn k Z (.exit id) (.blk id::K) st r
 | ZfA {id i K st r}:id≠i->DV call E f fn k Z (.exit id) K st r->DV call E f fn k Z (.exit id) (.blk i::K) st r
 | rany {x K st r}:DV call E f fn k Z .ret K st r->DV call E f fn k Z .ret (x::K) st r
 | finN {st r}:Z st r->DV call E f fn k Z .nxt [] st r
 | finR {st r}:Z st r->DV call E f fn k Z .ret [] st r
 | tidy {ctl K ids st st' r}:Zfj k ids st st' -> DV call E f fn k Z ctl K st' r->DV call E f fn k Z ctl K st r
 | Zfs {ctl K fa fb keep ids as H2 st r}:pack fa fb k (keep.map fun i=>st.s.getD i .und) st.H=some (ids,as,H2)->ids.take k=List.range k->DV call E f fn k Z ctl K ⟨spread .und st.s.length keep (Gl (ids.idxOf ·) as),Iq H2 ids⟩ r->DV call E f fn k Z ctl K st r
def LoopIn (P:Program) (b:Code) (Q:Exit->Act->World->Prop) (a:Act) (w:World):Prop:=
 ∀z k cs,∃e q w',Q e q w' /\ Arrives P (lone (z.at a (.code b :: .inLoop b::k)) cs w) z k cs e q w'
theorem LoopIn.of {P:Program} {b:Code} {Q:Exit->Act->World->Prop} {a:Act} {w:World} (h:b.wp P (Exit.then (LoopIn P b Q) Q) a w):LoopIn P b Q a w:=by
 intro M k cs;obtain⟨e,z,A,F,q⟩:=h M (.inLoop b::k) cs;cases e with
 | normal=>
  obtain⟨I,G,J,D,C⟩:=F M k cs;exact⟨I,G,J,D,.of_steps (Steps.trans q (.one step_inLoop)) C⟩
 | exit id=>exact⟨_,z,A,F,.pass (x:=.inLoop b) rfl (fun _ _=>.inl (by simp)) q⟩
 | goto l=>exact⟨_,z,A,F,.pass (x:=.inLoop b) rfl (fun _ _=>.inl (by simp)) q⟩
 | ret=>exact⟨_,z,A,F,.pass (x:=.inLoop b) rfl (fun _ _=>.inl (by simp)) q⟩
 | panic N=>exact⟨_,z,A,F,.pass (x:=.inLoop b) rfl (fun _ _=>.inl (by simp)) q⟩
 | outgrown=>exact⟨_,z,A,F,.pass (x:=.inLoop b) rfl (fun _ _=>.inl (by simp)) q⟩
theorem LoopIn.wp {P:Program} {b:Code} {Q:Exit->Act->World->Prop} {a:Act} {w:World} (h:LoopIn P b Q a w):(Code.loop b).wp P Q a w:=by
 intro A k cs;obtain⟨e,z,w',C,q⟩:=h A k cs;exact⟨e,z,w',C,.of_steps (.one step_loop) q⟩
def QK (P:Program) (Z:Act->World->Prop):List Fr->Exit->Act->World->Prop
 | [],.normal,a,w=>Z a w
 | [],.ret,a,w=>Z a w
 | [],_,_,_=>False
 | .seq c::K,e,a,w=>Exit.then (c.wp P (QK P Z K)) (QK P Z K) e a w
 | .blk id::K,e,a,w=>Exit.inBlock id (QK P Z K) e a w
 | .loop b::K,e,a,w=>Exit.then (LoopIn P b (QK P Z K)) (QK P Z K) e a w
theorem sF {P:Program} {Z:Act->World->Prop} {l:Nat} {a:Act} {w:World}:∀K:List Fr,QK P Z K (.goto l) a w->False
 | [],h=>h
 | .seq _::K,h=>sF K h
 | .blk _::K,h=>sF K h
 | .loop _::K,h=>sF K h
def Z4o (P:Program) (Z:Act->World->Prop) (K:List Fr) (a:Act) (w:World):WA->Prop
 | .run c=>c.wp P (QK P Z K) a w
 | .nxt=>QK P Z K .normal a w
 | .exit id=>QK P Z K (.exit id) a w
 | .ret=>QK P Z K .ret a w
def fH (E:Env) (f:FuncId):WA->Bool
 | .run c=>Ed E f c
 | _=>true
def MR (E:Env) (f:FuncId):List Fr->Bool
 | []=>true
 | .seq c::K=>Ed E f c&&MR E f K
 | .loop c::K=>Ed E f c&&MR E f K
 | .blk _::K=>MR E f K
theorem Znr {σ w}:∀(rs:List (List Nat)) {xs:List V} {vs:List Value},AQ σ w xs vs->AQ σ w (OI rs xs) vs:=by
 intro rs;induction rs with
 | nil=>intro xs vs h;simpa[OI]using h
 | cons r rs A=>
  intro xs vs h;cases xs with
  | nil=>simpa[OI]using h
  | cons x xs=>
   obtain⟨v,C,rfl,q,z⟩:=h.Dq;exact AQ.FD.2 ⟨Rl _ q,A z⟩
theorem ZpK {σ w x v} (rs:List (List Nat)) (h:AQ σ w [x] [v]):AQ σ w [Qg rs x] [v]:=by
 unfold Qg;split
 ·cases h with
  | BH q _=>exact .BH (Znr rs q) .nil
 ·exact Rl _ h
theorem ZlL:∀(rs:List (List Nat)) (xs:List V),CJ (OI rs xs)=CJ xs:=by
 intro rs;induction rs with
 | nil=>intro xs;simp[OI]
 | cons r rs q=>intro xs;cases xs<;>simp[OI,CJ,Rk,q]
theorem Z8x (rs:List (List Nat)) (x:V) (h:CS x=true):CS (Qg rs x)=true:=by
 unfold Qg;split
 ·simpa[CS,ZlL]using h
 ·rw[Rk];exact h
def Zp (E:Env) (fn:Func) (st:St) (r:V×Heap):Prop:=∃q z,KY E st.H st.s fn.results.toList=some q/\J8 st.H q=some z/\r=(Qg (fn.resultTypes.toList.map E.rows) z,[])
def Zh (E:Env) (fn:Func) (fa:List (List Fk)) (fb:List Bf) (k:Nat) (st:St) (r:V×Heap):Prop:=∃q,KY E st.H st.s fn.results.toList=some q/\uY fa fb k q st.H=some r
def Fin (P:Program) (fn:Func) (B:Nat) (w0:Start) (r:V×Heap) (a:Act) (w:World):Prop:=
 a.defers=[]/\∃u q,(results fn a.tmps).run P w = .ok u w/\Below B w0.w w/\(∀b c,w0.fz b c->q b c)/\(∀b c,q b c->b<B->w0.fz b c)/\(∀b c,q b c->∃u,w.cell? ⟨b,c,none⟩=some u)/\AQ (bare q) w [r.1] [u]/\CS r.1=true
def FinH (P:Program) (fn:Func) (B:Nat) (w0:Start) (σ0:Sg) (ws:World) (r:V×Heap) (a:Act) (w:World):Prop:=
 a.defers=[]/\∃u σ',(results fn a.tmps).run P w = .ok u w/\Inv B w0 σ' r.2 w/\Ext σ0 ws σ' w/\AQ σ' w [r.1] [u]
structure Ol (k:Nat) (σ:Sg) (w:World) (σ' : Sg) (w' : World):Prop where
 box:∀id L,id<k->σ.box id=some L->∃L',σ'.box id=some L' /\ L'.Ap=L.Ap/\(L' = L\/L.tot<L'.tot)
 fz:∀b c,σ.fz b c->σ'.fz b c/\w'.cell? ⟨b,c,none⟩=w.cell? ⟨b,c,none⟩
 mp:EP w w'
theorem Ext.k {k:Nat} {σ w σ' w'} (h:Ext σ w σ' w'):Ol k σ w σ' w' :=⟨fun id L _ q=>h.box id L q,h.fz,h.mp⟩
theorem Ol.trans {k:Nat} {σ w σ' w' σ'' w''} (h:Ol k σ w σ' w') (g:Ext σ' w' σ'' w''):Ol k σ w σ'' w'' :=by
 refine⟨fun id L I G=>?_,fun b c hc=>?_,h.mp.trans g.mp⟩
 ·obtain⟨z,D,F,h3⟩:=h.box id L I G;obtain⟨q,k1,k2,k3⟩:=g.box id z D;refine⟨q,k1,k2.trans F,?_⟩;rcases h3 with rfl|h3
  ·exact k3
  ·rcases k3 with rfl|k3
   ·exact .inr h3
   ·exact .inr (Nat.lt_trans h3 k3)
 ·obtain⟨A,C⟩:=h.fz b c hc;obtain⟨b1,b2⟩:=g.fz b c A;exact⟨b1,b2.trans C⟩
theorem Zvw {ids:List Nat} {k j:Nat} (h:ids.take k=List.range k) (q:j<k):ids[j]? = some j:=by
 have:(ids.take k)[j]? = some j:=by rw[h];simp[q]
 rw[List.getElem?_take]at this;simpa[q]using this
theorem Ol.ren {k:Nat} {σ w σ' w'} {ids:List Nat} (h:Ol k σ w σ' w') (F:ids.take k=List.range k):Ol k σ w (σ'.ren ids) w' :=by
 refine⟨fun id L q D=>?_,h.fz,h.mp⟩;obtain⟨z,A,C⟩:=h.box id L q D;exact⟨z,by simp only[Sg.ren,Zvw F q,Option.bind_some];exact A,C⟩
section
variable {P:Program} {E:Env} {B:Nat} {w0:Start} {call:Dn} {f:FuncId} {fn:Func}
theorem ZDV (N:Ci E) (O:E.P=P) {σ:Sg} {st:St} {a:Act} {w:World} {r:V×Heap} (h:Eu E B w0 σ st a w) (D:∀b c,w0.fz b c->σ.fz b c) (hz:Zp E fn st r):Fin P fn B w0 r a w:=by
 obtain⟨I,r1,S,J,rfl⟩:=hz;obtain⟨u,Y,z⟩:=pF (P:=P) N O h.inv h.slots S;obtain⟨C,A⟩:=h.inv.freeze (Oj I);have G:=Z2l h.inv z J (Oj I) (fun i Q=>Q);have M:=Z1O h.inv z J;refine⟨h.calm,u,(σ.freeze st.H (Oj I)).fz,Y,C.below,fun b c q=>(A.fz b c (D b c q)).1,fun b c q F=>C.old b c q F,C.cells,?_,Z8x _ _ M⟩;exact AQ.bare (ZpK _ G) (fun b c q=>⟨q,rfl⟩) (EP.refl _) (by simp[CJ,Z8x _ _ M])
theorem ZDf (hE:Ci E) (hP:E.P=P) {fa:List (List Fk)} {fb:List Bf} {k:Nat} {σ0:Sg} {ws:World} (h0:∀id L,σ0.box id=some L->id<k) {σ:Sg} {st:St} {a:Act} {w:World} {r:V×Heap} (h:Eu E B w0 σ st a w) (hx:Ol k σ0 ws σ w)
  (hz:Zh E fn fa fb k st r):FinH P fn B w0 σ0 ws r a w:=by
 obtain⟨r0,hr,q⟩:=hz;obtain⟨u,Y,G⟩:=pF (P:=P) hE hP h.inv h.slots hr;have key:∀{args as:List V} {vs:List Value} {ids:List Nat} {A:Heap},AQ σ w args vs->pack fa fb k args st.H=some (ids,as,A)->ids.take k=List.range k ->
   ∃σ',Inv B w0 σ' (Iq A ids) w/\Ext σ0 ws σ' w/\AQ σ' w (Gl (ids.idxOf ·) as) vs:=by
  intro args as vs ids A N D C;obtain⟨hs,hm,_,σ1,z,J,M⟩:=Z3x h.inv N D;have F:=Z4c z hs w0 z.below z.old (fun b hb=>by
   obtain⟨k1,k2,k3,k4⟩:=z.kept b hb;exact⟨k1,k2,fun id _ L I=>k3 id L I,k4⟩)
  refine⟨_,F,?_,fD M hm⟩;have:=(hx.trans J).ren C;exact⟨fun id L I=>this.box id L (h0 id L I) I,this.fz,this.mp⟩
 refine⟨h.calm,u,?_⟩;unfold uY at q;split at q
 ·rename_i vs;split at q
  ·rename_i ids as A D;split at q
   ·rename_i C;simp only[Option.some.injEq]at q;subst q;cases G with
    | BH h1 _=>
     obtain⟨σ',O,Q,S⟩:=key h1 D C;exact⟨σ',Y,O,Q,.BH S .nil⟩
   ·cases q
  ·cases q
 ·split at q
  ·rename_i ids x A D;split at q
   ·rename_i C;simp only[Option.some.injEq]at q;subst q;obtain⟨σ',O,Q,S⟩:=key G D C;exact⟨σ',Y,O,Q,S⟩
   ·cases q
  ·cases q
theorem Zer (hE:Ci E) (hP:E.P=P) (D:JW P E B w0 call) (J:OL E call) {k:Nat} {Z:St->V×Heap->Prop} {F:V×Heap->Act->World->Prop} {σ0:Sg} {ws:World}
  (hZ:∀st r σ a w,Z st r->Eu E B w0 σ st a w->Ol k σ0 ws σ w->F r a w) {ctl:WA} {K:List Fr} {st:St} {r:V×Heap} (h:DV call E f fn k Z ctl K st r) :
  fH E f ctl=true->MR E f K=true->∀(σ:Sg) (a:Act) (w:World),Eu E B w0 σ st a w->Ol k σ0 ws σ w->Z4o P (F r) K a w ctl:=by
 induction h with
 | skip h C=>intro hc q σ a w z A;exact wp_skip (C rfl q σ a w z A)
 | region hs h C=>
  intro hc q σ a w z A;exact wp_region (ZeA hE hP D _ _ σ a w z hs (fun Q w' σ' M I =>C rfl q σ' Q w' M (A.trans I)))
 | draw G hs h C=>
  intro hc q σ a w z A;refine Zeb hE hP (by rw[<- hP];exact hE.mix) D J ?_ z hs (fun Q w' σ' M I =>C rfl q σ' Q w' M (A.trans I));simpa[fH,Ed,G]using hc
 | seq h C=>
  intro hc q σ a w z A;simp only[fH,Ed,Bool.and_eq_true]at hc;exact wp_seq (C hc.1 (by simp[MR,hc.2,q]) σ a w z A)
 | cond S h C=>
  rename_i c x y t K st r;intro hc q σ a w z A;simp only[fH,Ed,Bool.and_eq_true]at hc;have hv:=EX (a:=a) z.Ee z.slots c;rw[S]at hv;have hb:a.eval c = .bool t:=by generalize a.eval c=v at hv;cases hv;rfl
  refine wp_cond hb ?_;refine C ?_ q σ a w z A;cases t
  ·exact hc.2
  ·exact hc.1
 | block h C=>
  intro hc q σ a w z A;exact wp_block (C hc q σ a w z A)
 | loop h C=>
  intro hc q σ a w z A;simp only[fH,Ed]at hc;exact(LoopIn.of (C hc (by simp[MR,hc,q]) σ a w z A)).wp
 | scope h C=>
  intro hc q σ a w z A;have Y:=C hc q σ a w z A;refine wp_scope_straight (wp_mono Y fun e Q w' hq=>?_);cases e with
  | goto l=>exact(sF _ hq).elim
  | _=>exact hq
 | label h C=>intro hc q σ a w z A;exact wp_label (C rfl q σ a w z A)
 | exit h C=>intro hc q σ a w z A;exact wp_exit (C rfl q σ a w z A)
 | ret h C=>intro hc q σ a w z A;exact wp_ret (C rfl q σ a w z A)
 | nseq h C=>
  intro hc q σ a w z A;simp only[MR,Bool.and_eq_true]at q;exact C q.1 q.2 σ a w z A
 | nblk h C=>intro hc q σ a w z A;exact C rfl q σ a w z A
 | Zfl h C=>
  intro hc q σ a w z A;have N :=q;simp only[MR,Bool.and_eq_true]at N;exact LoopIn.of (C N.1 q σ a w z A)
 | eseq h C=>
  intro hc q σ a w z A;simp only[MR,Bool.and_eq_true]at q;exact C rfl q.2 σ a w z A
 | Zfm h C=>
  intro hc q σ a w z A;simp only[MR,Bool.and_eq_true]at q;exact C rfl q.2 σ a w z A
 | eblk h C=>
  intro hc q σ a w z A;have:=C rfl q σ a w z A;simp only[Z4o,QK,Exit.inBlock,if_true];exact this
 | ZfA hne h C=>
  intro hc q σ a w z A;have:=C rfl q σ a w z A;simp only[Z4o,QK,Exit.inBlock,hne,if_false];exact this
 | rany h C=>
  rename_i x K st r;intro hc q σ a w z A;have:MR E f K=true:=by cases x<;>simp_all [MR]
  have:=C rfl this σ a w z A;cases x<;>exact this
 | finN hz=>intro hc q σ a w z A;exact hZ _ _ σ a w hz z A
 | finR hz=>intro hc q σ a w z A;exact hZ _ _ σ a w hz z A
 | tidy S h C=>intro hc q σ a w z A;exact C hc q _ a w (ZDv S z) (A.ren S.pre)
 | Zfs hp O h C=>
  intro hc q σ a w z A;obtain⟨σ1,Y,h2⟩:=ZBb hp z;exact C hc q _ a w h2 ((A.trans Y).ren O)
end
end Go.Proofs.YtjodhcdmhobmoaaGreatDoor.Le
namespace Go.Proofs.YtjodhcdmhobmoaaGreatDoor.Le
open Go.RowKit (Below)
section
variable {U:CY}
def VV:List Bool->Bool
 | []=>true
 | [b]=>b
 | b::q=>b&&VV q
theorem Zbz:∀{l:List Bool},VV l=true->∀b∈l,b=true:=by
 intro l;induction l with
 | nil=>intro _ b hb;simp at hb
 | cons x xs q=>
  intro h b hb;cases xs with
  | nil=>simp only[VV]at h;simp only[List.mem_singleton]at hb;rw[hb];exact h
  | cons y ys=>
   simp only[VV,Bool.and_eq_true]at h;rcases List.mem_cons.1 hb with hb|hb
   ·rw[hb];exact h.1
   ·exact q h.2 b hb
def resT (E:Env) (H:BF U) (s:List (SV U.Ty)):ResultVar->Tr U (SV U.Ty)
 | .tmp t=>.leaf (s.getD t .und)
 | .cell a t=>loadT E H t (s.getD a .und)
def VZ (E:Env) (H:BF U) (s:List (SV U.Ty)):List ResultVar->Tr U (List (SV U.Ty))
 | []=>.leaf []
 | r::rs=>(resT E H s r).andThen fun v=>(VZ E H s rs).andThen fun vs=>.leaf (v::vs)
def TC:List Nat->List (SV U.Ty)->Option (List (SV U.Ty))
 | [],[]=>some []
 | t::ts,w::ws=>match U.Gw t w,TC ts ws with|some a,some r=>some (U.encS t a::r)|_,_=>none
 | _,_=>none
def Z4m (E:Env) (fn:Func) (st:D9 U):Tr U (SV U.Ty):=
 (VZ E st.H st.s fn.results.toList).andThen fun vs=>
  match vs,fn.resultTypes.toList with
  | [v],[t]=>(RH st.H v).andThen fun w=>(match U.Gw t w with|some a=>.leaf (U.encS t a)|none=>.fail)
  | vs,ts=>.when (vs.length≠1) ((PY st.H vs).andThen fun ws=>(match TC ts ws with|some es=>.leaf (.BH es)|none=>.fail))
theorem ZdK {E:Env} (A:D6 U E) {st:D9 U}:∀{rs:List ResultVar} {vs:List (SV U.Ty)},(VZ E st.H st.s rs).AY vs->rs.mapM (resD E (CZ U st).H (CZ U st).s)=some (Aq U vs):=by
 intro rs;induction rs with
 | nil=>intro vs h;simp only[VZ,Tr.AY]at h;subst h;rfl
 | cons r rs D=>
  intro vs h;simp only[VZ,EI,Tr.AY]at h;obtain⟨v,q,ws,z,rfl⟩:=h;have C:resD E (CZ U st).H (CZ U st).s r=some (AU U v):=by
   cases r with
   | tmp t=>
    simp only[resT,Tr.AY]at q;subst q;exact congrArg some (Uo st.s t)
   | cell a t=>
    simp only[resD];rw[show (CZ U st).s.getD a .und=AU U (st.s.getD a .und) from Uo st.s a];exact ZdE A q
  rw[List.mapM_cons,C,D z];rfl
theorem ZxP {E:Env} (q:D6 U E):∀{ts:List Nat} {ws es:List (SV U.Ty)},TC ts ws=some es->OI (ts.map E.rows) (Aq U ws)=Aq U es:=by
 intro ts;induction ts with
 | nil=>
  intro ws es h;cases ws with
  | nil=>simp only[TC,Option.some.injEq]at h;subst h;rfl
  | cons=>simp[TC]at h
 | cons t ts C=>
  intro ws es h;cases ws with
  | nil=>simp[TC]at h
  | cons w ws=>
   simp only[TC]at h;split at h
   ·rename_i a r z A;simp only[Option.some.injEq]at h;subst h;simp only[List.map_cons,Aq,OI,q.dec _ _ _ z,q.encS,C A]
   ·cases h
theorem ZDg {H:Heap} {x y:V} (h:IG H x=some y):∀vs,y≠.BH vs:=by
 intro vs z;subst z;unfold IG at h;split at h
 ·rename_i cs;cases q:JQ H cs<;>simp[q]at h
 ·unfold IE at h;split at h<;>(try (cases h;done))<;>(try (split at h<;>(try (split at h))<;>cases h))
theorem ZAm {E:Env} (A:D6 U E) {fn:Func} {st:D9 U} {v:SV U.Ty} (h:(Z4m E fn st).AY v) :
  ∃J M,KY E (CZ U st).H (CZ U st).s fn.results.toList=some J/\J8 (CZ U st).H J=some M/\Qg (fn.resultTypes.toList.map E.rows) M=AU U v:=by
 unfold Z4m at h;simp only[EI]at h;obtain⟨vs,O,h⟩:=h;have hm:=ZdK A O;split at h
 ·rename_i N t G;simp only[EI]at h;obtain⟨w,D,h⟩:=h;split at h
  ·rename_i a Q;simp only[Tr.AY]at h;subst h;have C:IG (CZ U st).H (AU U N)=some (AU U w):=rX D;refine⟨AU U N,AU U w,by simp only[KY,hm,Aq],?_,?_⟩
   ·unfold J8;split
    ·rename_i us q;rw[q]at C;simp[IG,IE]at C
    ·exact C
   ·rw[G];unfold Qg;split
    ·rename_i us q;exact absurd q (ZDg C us)
    ·simp only[List.map_cons,List.headD_cons,A.dec _ _ _ Q,A.encS]
  ·simp[Tr.AY]at h
 ·rename_i Y vs ts I;simp only[E8,EI]at h;obtain⟨S,ws,D,h⟩:=h;split at h
  ·rename_i es F;simp only[Tr.AY]at h;subst h;refine⟨.BH (Aq U Y),.BH (Aq U ws),?_,?_,?_⟩
   ·simp only[KY,hm];split
    ·rename_i x z;simp only[Option.some.injEq]at z;exfalso;apply S;have:=congrArg List.length z;rw[IZ]at this;simpa using this
    ·rename_i z;simp only[Option.some.injEq]at z;rw[<- z]
    ·rename_i z;cases z
   ·simp only[J8,CZ,Z1R D,Option.map_some]
   ·simp only[Qg,ZxP A F,AU]
  ·simp[Tr.AY]at h
def iJ (E:Env) (fn:Func) (st:D9 U):Tr U (SV U.Ty×BF U):=(Z4m E fn st).andThen fun v=>.leaf (v,[])
def Z4j (E:Env) (fn:Func) (fa:List (List Fk)) (fb:List Bf) (k:Nat) (st:D9 U):Tr U (SV U.Ty×BF U):=
 (VZ E st.H st.s fn.results.toList).andThen fun vs=>
  match vs with
  | [.BH _]=>.fail
  | [.raw _]=>.fail
  | [v]=>(Vb fa fb k [v] st.H).andThen fun r=>(match r.2.1 with
   | [a]=>.when (r.1.take k=List.range k) (.leaf (FY (r.1.idxOf ·) a,V5 r.2.2 r.1))
   | _=>.fail)
  | vs=>.when (vs.length≠1) ((Vb fa fb k vs st.H).andThen fun r=>.when (r.1.take k=List.range k) (.leaf (.BH (NT (r.1.idxOf ·) r.2.1),V5 r.2.2 r.1)))
theorem ZAu {E:Env} (D:D6 U E) {fn:Func} {st:D9 U} {r:SV U.Ty×BF U} (h:(iJ E fn st).AY r):Zp E fn (CZ U st) (AU U r.1,BM U r.2):=by
 simp only[iJ,EI,Tr.AY]at h;obtain⟨v,C,rfl⟩:=h;obtain⟨F,G,q,z,A⟩:=ZAm D C;exact⟨F,G,q,z,by rw[A];rfl⟩
theorem ZBl {E:Env} (N:D6 U E) {fn:Func} {fa:List (List Fk)} {fb:List Bf} {k:Nat} {st:D9 U} {r:SV U.Ty×BF U} (h:(Z4j E fn fa fb k st).AY r):Zh E fn fa fb k (CZ U st) (AU U r.1,BM U r.2):=by
 simp only[Z4j,EI]at h;obtain⟨vs,M,h⟩:=h;have hm:=ZdK N M;split at h
 ·simp[Tr.AY]at h
 ·simp[Tr.AY]at h
 ·rename_i v D F;simp only[EI]at h;obtain⟨p,I,h⟩:=h;split at h
  ·rename_i a O;simp only[E8,Tr.AY]at h;obtain⟨C,rfl⟩:=h;have q :=rC I;rw[O]at q;refine⟨AU U v,by simp only[KY,hm,Aq],?_⟩;have G:∀cs,AU U v≠.BH cs:=by
    intro cs z;cases v with
    | BH vs=>exact D vs rfl
    | raw x=>exact F x rfl
    | _=>simp[AU]at z
   unfold uY;split
   ·rename_i cs z;exact absurd z (G cs)
   ·simp only[Aq]at q;simp only[CZ,q];rw[if_pos C,rG,qV]
  ·simp[Tr.AY]at h
 ·rename_i J;simp only[E8,EI,Tr.AY]at h;obtain⟨Q,p,I,C,rfl⟩:=h;have q :=rC I;refine⟨.BH (Aq U vs),?_,?_⟩
  ·simp only[KY,hm];split
   ·rename_i x A;simp only[Option.some.injEq]at A;exfalso;apply Q;have:=congrArg List.length A;rw[IZ]at this;simpa using this
   ·rename_i A;simp only[Option.some.injEq]at A;rw[<- A]
   ·rename_i A;cases A
  ·simp only[uY,CZ,q];rw[if_pos C,qV];simp only[AU,PI]
inductive Vm (U:CY) where
 | done (v:SV U.Ty×BF U)
 | jump (c:Code) (K:List Fr) (st:D9 U)
def ZzV (call:Dn) (E:Env) (f:FuncId) (fn:Func) (q:Nat) (Z:St->V×Heap->Prop):Vm U->V×Heap->Prop
 | .done s,v=>v=(AU U s.1,BM U s.2)
 | .jump c K st,v=>DV call E f fn q Z (.run c) K (CZ U st) v
end
end Go.Proofs.YtjodhcdmhobmoaaGreatDoor.Le
namespace Go.Proofs.YtjodhcdmhobmoaaGreatDoor.Le
inductive Pc where
 | v (t n:Nat) (agg:Bool)
 | own (e j:Nat)
 | ptr (j:Nat)
 | fn (f:FuncId) (a b:List Nat)
 | no
 | und
 | jA (ptr:Bool)
inductive Sp where
 | one (c:Pc)
 | agg (cs:List Pc)
inductive Pb where
 | var (e m:Nat) (p:Sp)
 | row (t:Nat) (fresh:Bool)
structure Shape where
 args:List Sp
 boxes:List Pb
abbrev Sp.cells:Sp->List Pc
 | .one c=>[c]
 | .agg cs=>cs
section
variable (U:CY)
@[reducible] def PX:List Pc->Type
 | []=>Unit
 | .v t _ _::ps=>U.Ty t×PX ps
 | _::ps=>PX ps
@[reducible] def AX:List Sp->Type
 | []=>Unit
 | p::ps=>PX U p.cells×AX ps
@[reducible] def BX:List Pb->Type
 | []=>Unit
 | .var _ _ p::q=>PX U p.cells×BX q
 | .row t _::q=>List (U.Ty t)×BX q
@[reducible] def Shape.X (s:Shape):Type:=AX U s.args×BX U s.boxes
variable {U}
def JM:(q:List Pb)->BX U q->List Nat
 | [],_=>[]
 | .var _ _ _::q,x=>1::JM q x.2
 | .row _ _::q,x=>x.1.length::JM q x.2
def iR (j:Nat):SV U.Ty:=.ptr j 0 0 1
def nulS:Bool->SV U.Ty
 | true=>.lit (.pointer none)
 | false=>.lit .nilFunc
def Z4z:Bool->SV U.Ty->Bool
 | true,.lit (.pointer none)=>true
 | false,.lit .nilFunc=>true
 | _,_=>false
theorem ZAa {b:Bool} {c:SV U.Ty} (h:Z4z b c=true):c=nulS b:=by
 unfold Z4z at h;split at h<;>first|rfl|cases h
def DD (ls:List Nat):(ps:List Pc)->PX U ps->List (SV U.Ty)
 | [],_=>[]
 | .v t _ _::ps,x=>cellsS (U.encS t x.1)++DD ls ps x.2
 | .own _ j::ps,x=>.all j (ls.getD j 0)::DD ls ps x
 | .ptr j::ps,x=>iR j::DD ls ps x
 | .fn f a b::ps,x=>.fn f (a.map iR) (b.map iR)::DD ls ps x
 | .no::ps,x=>.no::DD ls ps x
 | .und::ps,x=>.und::DD ls ps x
 | .jA b::ps,x=>nulS b::DD ls ps x
def I8 (ls:List Nat):(p:Sp)->PX U p.cells->SV U.Ty
 | .one c,x=>(DD ls [c] x).headD .und
 | .agg cs,x=>.agg (DD ls cs x)
def Ja (ls:List Nat):(ps:List Sp)->AX U ps->List (SV U.Ty)
 | [],_=>[]
 | p::ps,x=>I8 ls p x.1::Ja ls ps x.2
def Eg (ls:List Nat):(q:List Pb)->BX U q->BF U
 | [],_=>[]
 | .var e m p::q,x=>.var e m (I8 ls p x.1)::Eg ls q x.2
 | .row t fresh::q,x=>.row t x.1 (if fresh then none else some x.1.length)::Eg ls q x.2
def Shape.enc (s:Shape) (x:s.X U):List (SV U.Ty)×BF U:=(Ja (JM s.boxes x.2) s.args x.1,Eg (JM s.boxes x.2) s.boxes x.2)
def Pe:SV U.Ty->Bool
 | .nil _ | .raw _ | .agg _ | .BH _ | .Ot _ | .TV ..=>false
 | _=>true
def Sv:List Nat->List (SV U.Ty)->Bool
 | [],[]=>true
 | j::q,.ptr i a b c::xs=>decide (i=j/\a=0/\b=0/\c=1)&&Sv q xs
 | _,_=>false
def V9 (H:BF U):List Nat:=H.map fun b=>match b with | .row _ xs _=>xs.length|_=>1
def F5 (ls:List Nat):(ps:List Pc)->List (SV U.Ty)->Option (PX U ps×List Bool)
 | [],cs=>if cs.isEmpty then some ((),[]) else none
 | .v t n true::ps,cs=>if (cs.take n).length=n/\(cs.take n).all Pe=true then
   (match U.Gw t (.agg (cs.take n)),F5 ls ps (cs.drop n) with
    | some a,some r=>some ((a,r.1),r.2)
    | _,_=>none) else none
 | .v t _ false::ps,c::cs=>if Pe c then
   (match U.Gw t c,F5 ls ps cs with
    | some a,some r=>some ((a,r.1),r.2)
    | _,_=>none) else none
 | .own _ j::ps,.all i n::cs=>if i=j then (F5 ls ps cs).map fun r=>(r.1,(ls.getD j 0==n)::r.2) else none
 | .ptr j::ps,.ptr i a b c::cs=>if i=j/\a=0/\b=0/\c=1 then F5 ls ps cs else none
 | .fn f a b::ps,.fn g q z :: cs=>if g=f/\Sv a q = true/\Sv b z = true then F5 ls ps cs else none
 | .no::ps,.no::cs=>F5 ls ps cs
 | .und::ps,.und::cs=>F5 ls ps cs
 | .jA b::ps,c::cs=>if Z4z b c=true then F5 ls ps cs else none
 | _::_,_=>none
def vG (ls:List Nat):(p:Sp)->SV U.Ty->Option (PX U p.cells×List Bool)
 | .one c,x=>F5 ls [c] [x]
 | .agg cs,.agg xs=>F5 ls cs xs
 | _,_=>none
def Vk (ls:List Nat):(ps:List Sp)->List (SV U.Ty)->Option (AX U ps×List Bool)
 | [],[]=>some ((),[])
 | p::ps,x::xs=>(match vG ls p x,Vk ls ps xs with
  | some a,some r=>some ((a.1,r.1),a.2++r.2)
  | _,_=>none)
 | _,_=>none
def RI (ls:List Nat):(q:List Pb)->BF U->Option (BX U q×List Bool)
 | [],[]=>some ((),[])
 | .var e m p::q,.var z A x::H=>if z = e/\A = m then
   (match vG ls p x,RI ls q H with
    | some a,some r=>some ((a.1,r.1),a.2++r.2)
    | _,_=>none) else none
 | .row t fresh::q,.row C xs fl::H=>if h:C = t then
   (match fresh,fl,RI ls q H with
    | true,none,some r=>some ((h▸xs,r.1),r.2)
    | false,some n,some r=>some ((h▸xs,r.1),(n==xs.length)::r.2)
    | _,_,_=>none) else none
 | _,_=>none
def Shape.dec (s:Shape) (as:List (SV U.Ty)) (H:BF U):Option (s.X U×List Bool):=
 match Vk (V9 H) s.args as,RI (V9 H) s.boxes H with
 | some a,some b=>some ((a.1,b.1),a.2++b.2)
 | _,_=>none
theorem Z8N {x:SV U.Ty} (h:Pe x=true) (e:Nat):GL e (AU U x)=AU U x:=by
 cases x<;>simp_all [Pe,AU,GL]
theorem ZoQ {x:SV U.Ty} (h:Pe x=true):(AU U x).cells=[AU U x]:=by
 cases x<;>first|rfl|(simp[Pe]at h)
theorem Zv1 {x:SV U.Ty} (h:Pe x=true):∀cs,AU U x≠.agg cs:=by
 intro cs hc;cases x<;>first|(cases hc;done)|(simp[Pe]at h)
theorem Zow:∀{xs:List (SV U.Ty)},xs.all Pe=true->∀es,Fa es (Aq U xs)=Aq U xs:=by
 intro xs;induction xs with
 | nil=>intro _ es;cases es<;>rfl
 | cons x xs q=>
  intro h es;simp only[List.all_cons,Bool.and_eq_true]at h;cases es with
  | nil=>rfl
  | cons e es=>simp only[Aq,Fa,Z8N h.1,q h.2]
theorem QX (xs ys:List (SV U.Ty)):Aq U (xs++ys)=Aq U xs++Aq U ys:=by simp[Ep]
theorem ZcP:∀{q:List Nat} {xs:List (SV U.Ty)},Sv q xs=true->xs=q.map iR:=by
 intro q;induction q with
 | nil=>intro xs h;cases xs with
  | nil=>rfl
  | cons=>simp[Sv]at h
 | cons j q A=>
  intro xs h;cases xs with
  | nil=>simp[Sv]at h
  | cons x xs=>
   cases x<;>simp[Sv]at h;obtain⟨⟨rfl,rfl,rfl,rfl⟩,z⟩:=h;rw[A z];rfl
theorem Zew {E:Env} (F:D6 U E) (ls:List Nat):∀(ps:List Pc) {cs:List (SV U.Ty)} {r:PX U ps×List Bool},F5 ls ps cs=some r->(∀b∈r.2,b=true)->Aq U cs=Aq U (DD ls ps r.1):=by
 intro ps;induction ps with
 | nil=>
  intro cs r h _;simp only[F5]at h;split at h
  ·rename_i hc;cases cs with
   | nil=>rfl
   | cons=>simp at hc
  ·cases h
 | cons p ps z=>
  intro cs r h hb;cases p with
  | v t n N=>
   cases N with
   | true=>
    simp only[F5]at h;split at h
    ·rename_i hc;split at h
     ·rename_i a M D C;simp only[Option.some.injEq]at h;subst h;have e:=F.dec t _ a D;simp only[AU,Du]at e;rw[Zow hc.2]at e;have A:=F.cells t a;rw[<- e]at A;simp only[V.cells]at A;simp only[DD,QX,<- A,<- z C hb];rw[<- QX,List.take_append_drop]
     ·cases h
    ·cases h
   | false=>
    cases cs with
    | nil=>simp[F5]at h
    | cons c cs=>
     simp only[F5]at h;split at h
     ·rename_i hc;split at h
      ·rename_i a M D C;simp only[Option.some.injEq]at h;subst h;have e:=F.dec t _ a D;have Q:∀es,Du es (AU U c)=AU U c:=by
        intro es;unfold Du;split
        ·rename_i I J;exact absurd J (Zv1 hc I)
        ·exact Z8N hc _
       rw[Q]at e;have A:=F.cells t a;rw[<- e]at A;rw[ZoQ hc]at A;simp only[DD,QX,<- A,<- z C hb];rfl
      ·cases h
     ·cases h
  | own e j=>
   cases cs with
   | nil=>simp[F5]at h
   | cons c cs=>
    cases c<;>simp only[F5]at h<;>try (cases h;done)
    split at h
    ·rename_i q;subst q;simp only[Option.map_eq_some_iff]at h;obtain⟨M,C,rfl⟩:=h;have G:=hb _ (List.mem_cons_self ..);simp only[beq_iff_eq]at G;simp only[DD,Aq,AU,G,z C (fun b O=>hb b (by simp[O]))]
    ·cases h
  | ptr j=>
   cases cs with
   | nil=>simp[F5]at h
   | cons c cs=>
    cases c<;>simp only[F5]at h<;>try (cases h;done)
    split at h
    ·rename_i q;obtain⟨rfl,rfl,rfl,rfl⟩:=q;simp only[DD,Aq,iR,z h hb]
    ·cases h
  | fn f a b=>
   cases cs with
   | nil=>simp[F5]at h
   | cons c cs=>
    cases c<;>simp only[F5]at h<;>try (cases h;done)
    split at h
    ·rename_i q;obtain⟨rfl,D,C⟩:=q;rw[ZcP D,ZcP C];simp only[DD,Aq,z h hb]
    ·cases h
  | no=>
   cases cs with
   | nil=>simp[F5]at h
   | cons c cs=>
    cases c<;>simp only[F5]at h<;>try (cases h;done)
    simp only[DD,Aq,z h hb]
  | und=>
   cases cs with
   | nil=>simp[F5]at h
   | cons c cs=>
    cases c<;>simp only[F5]at h<;>try (cases h;done)
    simp only[DD,Aq,z h hb]
  | jA b=>
   cases cs with
   | nil=>simp[F5]at h
   | cons c cs=>
    simp only[F5]at h;split at h
    ·rename_i G;rw[ZAa G];simp only[DD,Aq,z h hb]
    ·cases h
theorem ZdC {E:Env} (z:D6 U E) (ls:List Nat) {p:Sp} {x:SV U.Ty} {r:PX U p.cells×List Bool} (h:vG ls p x=some r) (hb:∀b∈r.2,b=true):AU U x=AU U (I8 ls p r.1):=by
 cases p with
 | one c=>
  have:=Zew z ls [c] h hb;simp only[Aq]at this;cases q:DD ls [c] r.1 with
  | nil=>rw[q]at this;cases this
  | cons y ys=>
   rw[q]at this;simp only[Aq,List.cons.injEq]at this;simp only[I8];rw[q];exact this.1
 | agg cs=>
  cases x<;>simp only[vG]at h<;>try (cases h;done)
  have:=Zew z ls cs h hb;simp only[I8,AU,this]
theorem ZC2 {E:Env} (C:D6 U E) (ls:List Nat):∀(ps:List Sp) {cs:List (SV U.Ty)} {r:AX U ps×List Bool},Vk ls ps cs=some r->(∀b∈r.2,b=true)->Aq U cs=Aq U (Ja ls ps r.1):=by
 intro ps;induction ps with
 | nil=>
  intro cs r h _;cases cs with
  | nil=>rfl
  | cons=>simp[Vk]at h
 | cons p ps D=>
  intro cs r h hb;cases cs with
  | nil=>simp[Vk]at h
  | cons c cs=>
   simp only[Vk]at h;split at h
   ·rename_i a F z A;simp only[Option.some.injEq]at h;subst h;simp only[Ja,Aq,ZdC C ls z (fun b q=>hb b (by simp[q])),D A (fun b q=>hb b (by simp[q]))]
   ·cases h
theorem ZBK {E:Env} (N:D6 U E) (ls:List Nat):∀(q:List Pb) {H:BF U} {r:BX U q×List Bool},RI ls q H=some r->(∀b∈r.2,b=true)->BM U H=BM U (Eg ls q r.1)/\JM q r.1=V9 H:=by
 intro q;induction q with
 | nil=>
  intro H r h _;cases H with
  | nil=>exact⟨rfl,rfl⟩
  | cons=>simp[RI]at h
 | cons b q F=>
  intro H r h hb;cases H with
  | nil=>cases b<;>simp[RI]at h
  | cons x H=>
   cases b with
   | var e m p=>
    cases x<;>simp only[RI]at h<;>try (cases h;done)
    split at h
    ·rename_i O;obtain⟨rfl,rfl⟩:=O;split at h
     ·rename_i a I M C;simp only[Option.some.injEq]at h;subst h;obtain⟨z,A⟩:=F C (fun b D=>hb b (by simp[D]));have J:=ZdC N ls M (fun b D=>hb b (by simp[D]));refine⟨?_,?_⟩
      ·simp only[BM,Eg,List.map_cons,CX,J];exact congrArg _ z
      ·simp only[JM,V9,List.map_cons,A]
     ·cases h
    ·cases h
   | row t fresh=>
    cases x<;>simp only[RI]at h<;>try (cases h;done)
    rename_i S xs fl;split at h
    ·rename_i Q;subst Q;split at h
     ·rename_i I C;simp only[Option.some.injEq]at h;subst h;obtain⟨z,A⟩:=F C hb;refine⟨?_,?_⟩
      ·simp only[BM,Eg,List.map_cons,if_true];exact congrArg _ z
      ·simp only[JM,V9,List.map_cons,A]
     ·rename_i n I C;simp only[Option.some.injEq]at h;subst h;obtain⟨z,A⟩:=F C (fun b D=>hb b (by simp[D]));have G:=hb _ (List.mem_cons_self ..);simp only[beq_iff_eq]at G;refine⟨?_,?_⟩
      ·simp only[BM,Eg,List.map_cons,Bool.false_eq_true,if_false,CX,G];exact congrArg _ z
      ·simp only[JM,V9,List.map_cons,A]
     ·cases h
    ·cases h
theorem Shape.uD {E:Env} (z:D6 U E) {s:Shape} {as:List (SV U.Ty)} {H:BF U} {r:s.X U×List Bool} (h:s.dec as H=some r) (hb:∀b∈r.2,b=true):Aq U as=Aq U (s.enc r.1).1/\BM U H=BM U (s.enc r.1).2:=by
 unfold Shape.dec at h;split at h
 ·rename_i a b F G;simp only[Option.some.injEq]at h;subst h;obtain⟨A,C⟩:=ZBK z _ _ G (fun b q=>hb b (by simp[q]));have D:=ZC2 z _ _ F (fun b q=>hb b (by simp[q]));simp only[Shape.enc,C];exact⟨D,A⟩
 ·cases h
variable (U)
def vW:Pc->Prop
 | .v t n true=>t∈U.keys/\∀a,∃cs,U.encS t a = .agg cs/\cs.length=n
 | .v t n false=>t∈U.keys/\∀a,cellsS (U.encS t a)=[U.encS t a]
 | _=>True
def vP:List Pc->Prop
 | []=>True
 | p::ps=>vW U p/\vP ps
def vN:Sp->Prop
 | .one (.v _ _ true)=>False
 | .one c=>vW U c
 | .agg cs=>vP U cs
def wB:List Sp->Prop
 | []=>True
 | p::ps=>vN U p/\wB ps
def iU:List Pb->Prop
 | []=>True
 | .var _ _ p::q=>vN U p/\iU q
 | .row t _::q=>t∈U.keys/\iU q
def Shape.OK (s:Shape):Prop:=wB U s.args/\iU U s.boxes
variable {U}
def WH (k1:List Nat) (q:List (Nat×Nat)):Pc->Bool
 | .v t n true=>q.contains (t,n)
 | .v t _ false=>k1.contains t
 | _=>true
def wF (k1:List Nat) (q:List (Nat×Nat)):Sp->Bool
 | .one (.v _ _ true)=>false
 | .one c=>WH k1 q c
 | .agg cs=>cs.all (WH k1 q)
def pbB (U:CY) (k1:List Nat) (q:List (Nat×Nat)):Pb->Bool
 | .var _ _ p=>wF k1 q p
 | .row t _=>U.keys.contains t
def shB (U:CY) (k1:List Nat) (q:List (Nat×Nat)) (s:Shape):Bool:=s.args.all (wF k1 q)&&s.boxes.all (pbB U k1 q)
theorem Shape.ok_of {k1:List Nat} {z:List (Nat×Nat)} (M:∀t∈k1,t∈U.keys/\∀a,cellsS (U.encS t a)=[U.encS t a]) (N:∀p∈z,p.1∈U.keys/\∀a,∃cs,U.encS p.1 a = .agg cs/\cs.length=p.2) {s:Shape} (h:shB U k1 z s=true):s.OK U:=by
 have J:∀c,WH k1 z c=true->vW U c:=by
  intro c hc;cases c with
  | v t n D=>cases D with
   | true=>exact N (t,n) (by simpa[WH]using hc)
   | false=>exact M t (by simpa[WH]using hc)
  | _=>trivial
 have I:∀cs:List Pc,cs.all (WH k1 z)=true->vP U cs:=by
  intro cs;induction cs with
  | nil=>intro _;trivial
  | cons c cs A=>intro h;simp only[List.all_cons,Bool.and_eq_true]at h;exact⟨J c h.1,A h.2⟩
 have C:∀p,wF k1 z p=true->vN U p:=by
  intro p G;cases p with
  | agg cs=>exact I cs G
  | one c=>cases c with
   | v t n D=>cases D with
    | true=>cases G
    | false=>exact J (.v t n false) G
   | _=>trivial
 have has:∀l:List Sp,l.all (wF k1 z)=true->wB U l:=by
  intro l;induction l with
  | nil=>intro _;trivial
  | cons p l A=>intro h;simp only[List.all_cons,Bool.and_eq_true]at h;exact⟨C p h.1,A h.2⟩
 have F:∀l:List Pb,l.all (pbB U k1 z)=true->iU U l:=by
  intro l;induction l with
  | nil=>intro _;trivial
  | cons p l A=>
   intro h;simp only[List.all_cons,Bool.and_eq_true]at h;cases p with
   | var e m q=>exact⟨C q h.1,A h.2⟩
   | row t O=>exact⟨by simpa[pbB]using h.1,A h.2⟩
 unfold shB at h;rw[Bool.and_eq_true]at h;exact⟨has _ h.1,F _ h.2⟩
theorem Z3f {E:Env} (D:D6 U E) {ls ls' : List Nat}:∀{ps:List Pc} {x y:PX U ps},vP U ps->Aq U (DD ls ps x)=Aq U (DD ls' ps y)->x=y:=by
 intro ps;induction ps with
 | nil=>intro x y _ _;rfl
 | cons p ps C=>
  intro x y q h;obtain⟨I,q⟩:=q;cases p with
  | v t n J=>
   obtain⟨a,S⟩:=x;obtain⟨b,Y⟩:=y;simp only[DD,QX]at h;have key:Aq U (cellsS (U.encS t a))=Aq U (cellsS (U.encS t b))/\Aq U (DD ls ps S)=Aq U (DD ls' ps Y)/\U.enc t a=U.enc t b/\t∈U.keys:=by
    cases J with
    | true=>
     obtain⟨hm,A⟩:=I;obtain⟨ca,F,Q⟩:=A a;obtain⟨cb,G,lb⟩:=A b;have:=List.append_inj h (by rw[IZ,IZ,F,G];simp only[cellsS,Q,lb]);refine⟨this.1,this.2,?_,hm⟩;rw[<- D.encS,<- D.encS,F,G];have z:=this.1;rw[F,G]at z;simp only[cellsS]at z;simp only[AU,z]
    | false=>
     obtain⟨hm,A⟩:=I;have:=List.append_inj h (by rw[IZ,IZ,A a,A b];rfl);refine⟨this.1,this.2,?_,hm⟩;have z:=this.1;rw[A a,A b]at z;simp only[Aq,List.cons.injEq,and_true,D.encS]at z;exact z
   obtain⟨_,M,N,hm⟩:=key;have O:=D.inj t hm a b N;subst O;rw[C q M]
  | own e j=>
   simp only[DD,Aq,List.cons.injEq]at h;exact C q h.2
  | ptr j=>
   simp only[DD,Aq,List.cons.injEq]at h;exact C q h.2
  | fn f a b=>
   simp only[DD,Aq,List.cons.injEq]at h;exact C q h.2
  | no=>
   simp only[DD,Aq,List.cons.injEq]at h;exact C q h.2
  | und=>
   simp only[DD,Aq,List.cons.injEq]at h;exact C q h.2
  | jA b=>
   simp only[DD,Aq,List.cons.injEq]at h;exact C q h.2
theorem Zd8 {E:Env} (z:D6 U E) {ls ls' : List Nat} {p:Sp} {x y:PX U p.cells} (A:vN U p) (h:AU U (I8 ls p x)=AU U (I8 ls' p y)):x=y:=by
 cases p with
 | one c=>
  cases c with
  | v t n C=>
   cases C with
   | true=>exact A.elim
   | false=>
    obtain⟨a,D⟩:=x;obtain⟨b,F⟩:=y;have q : vW U (.v t n false):=A;refine Z3f z (ps:=[.v t n false]) ⟨q,trivial⟩ (ls:=ls) (ls' :=ls') ?_;simp only[I8,DD,q.2,List.append_nil,List.headD_cons]at h;simp only[DD,q.2,List.append_nil,Aq,h]
  | own e j=>exact Z3f z (ps:=[.own e j]) ⟨trivial,trivial⟩ (ls:=ls) (ls' :=ls') (by simp only[I8,DD,List.headD_cons]at h;simp only[DD,Aq,h])
  | ptr j=>rfl
  | fn f a b=>rfl
  | no=>rfl
  | und=>rfl
  | jA b=>rfl
 | agg cs=>
  simp only[I8,AU,V.agg.injEq]at h;exact Z3f z A h
theorem ZA2 {E:Env} (z:D6 U E) {ls ls' : List Nat}:∀{ps:List Sp} {x y:AX U ps},wB U ps->Aq U (Ja ls ps x)=Aq U (Ja ls' ps y)->x=y:=by
 intro ps;induction ps with
 | nil=>intro x y _ _;rfl
 | cons p ps A=>
  intro x y q h;obtain⟨a,C⟩:=x;obtain⟨b,D⟩:=y;simp only[Ja,Aq,List.cons.injEq]at h;rw[Zd8 z q.1 h.1,A q.2 h.2]
theorem Zta {E:Env} (q:D6 U E) {t:Nat} (z:t∈U.keys):∀{xs ys:List (U.Ty t)},xs.map (U.enc t)=ys.map (U.enc t)->xs=ys:=by
 intro xs;induction xs with
 | nil=>intro ys h;cases ys with
  | nil=>rfl
  | cons=>cases h
 | cons x xs A=>
  intro ys h;cases ys with
  | nil=>cases h
  | cons y ys=>
   simp only[List.map_cons,List.cons.injEq]at h;rw[q.inj t z x y h.1,A h.2]
theorem ZA6 {E:Env} (A:D6 U E) {ls ls' : List Nat}:∀{q:List Pb} {x y:BX U q},iU U q->BM U (Eg ls q x)=BM U (Eg ls' q y)->x=y:=by
 intro q;induction q with
 | nil=>intro x y _ _;rfl
 | cons b q C=>
  intro x y z h;cases b with
  | var e m p=>
   obtain⟨a,D⟩:=x;obtain⟨b,F⟩:=y;simp only[Eg,BM,List.map_cons,List.cons.injEq,CX,Bg,Box.mk.injEq,true_and,and_true]at h;rw[Zd8 A z.1 h.1,C z.2 h.2]
  | row t fresh=>
   obtain⟨a,D⟩:=x;obtain⟨b,F⟩:=y;simp only[Eg,BM,List.map_cons,List.cons.injEq,CX,Box.mk.injEq,true_and]at h;rw[Zta A z.1 h.1.1,C z.2 h.2]
theorem Shape.ZeB {E:Env} (A:D6 U E) {s:Shape} (C:s.OK U) {x y:s.X U} (D:Aq U (s.enc x).1=Aq U (s.enc y).1) (F:BM U (s.enc x).2=BM U (s.enc y).2):x=y:=by
 obtain⟨a,b⟩:=x;obtain⟨G,I⟩:=y;have z:=ZA6 A C.2 F;simp only at z;subst z;have q:=ZA2 A C.1 D;simp only at q;rw[q]
variable (U)
structure HMod where
 fa:List (List Fk)
 fb:List Bf
 D5:Shape
 Jb:Shape
 one:Bool
 ky:Nat
 Nj:U.Ty ky->Jb.X U
 fn:D5.X U->Option (U.Ty ky)
 ok:D5.OK U
variable {U}
def HMod.out (m:HMod U) (y:U.Ty m.ky):SV U.Ty×BF U:=((if m.one then (m.Jb.enc (m.Nj y)).1.headD .und else .BH (m.Jb.enc (m.Nj y)).1),(m.Jb.enc (m.Nj y)).2)
open Classical in
noncomputable def HMod.spec (m:HMod U):V7 where
 fa:=m.fa
 fb:=m.fb
 run:=fun as q=>if h:∃x:m.D5.X U,Aq U (m.D5.enc x).1=as/\BM U (m.D5.enc x).2=q then (m.fn (Classical.choose h)).map fun y=>(AU U (m.out y).1,BM U (m.out y).2) else none
theorem HMod.ZBn {E:Env} (q:D6 U E) (m:HMod U) (x:m.D5.X U):m.spec.run (Aq U (m.D5.enc x).1) (BM U (m.D5.enc x).2)=(m.fn x).map fun y=>(AU U (m.out y).1,BM U (m.out y).2):=by
 have h:∃y:m.D5.X U,Aq U (m.D5.enc y).1=Aq U (m.D5.enc x).1/\BM U (m.D5.enc y).2=BM U (m.D5.enc x).2:=⟨x,rfl,rfl⟩;simp only[HMod.spec,dif_pos h];rw[Shape.ZeB q m.ok (Classical.choose_spec h).1 (Classical.choose_spec h).2]
def Z45 (m:HMod U) (as:List (SV U.Ty)) (H:BF U):Tr U (SV U.Ty×BF U):=
 (Vb m.fa m.fb 0 as H).andThen fun r=>match m.D5.dec (NT (r.1.idxOf ·) r.2.1) (V5 r.2.2 r.1) with
  | some x=>(match x.2 with
   | []=>.bind m.ky (m.fn x.1) fun y=>.when (r.1.length<=(m.out y).2.length) (.leaf (FY (JZ r.1 r.2.2.length) (m.out y).1,fF r.2.2 r.1 (m.out y).2))
   | c::cs=>.chk (VV (c::cs)) (.bind m.ky (m.fn x.1) fun y=>.when (r.1.length<=(m.out y).2.length) (.leaf (FY (JZ r.1 r.2.2.length) (m.out y).1,fF r.2.2 r.1 (m.out y).2))))
  | none=>.fail
theorem Zxq {E:Env} (J:D6 U E) {m:HMod U} {as:List (SV U.Ty)} {H:BF U} {r:SV U.Ty×BF U} (h:(Z45 m as H).AY r):Oe m.spec (Aq U as) (BM U H)=some (AU U r.1,BM U r.2):=by
 simp only[Z45,EI]at h;obtain⟨p,M,h⟩:=h;have F :=rC M;split at h
 ·rename_i x N;have key:(∀b∈x.2,b=true)/\∃y,m.fn x.1=some y/\p.1.length<=(m.out y).2.length/\r=(FY (JZ p.1 p.2.2.length) (m.out y).1,fF p.2.2 p.1 (m.out y).2):=by
   split at h
   ·rename_i A;simp only[Tr.AY,E8]at h;obtain⟨y,q,z,C⟩:=h;exact⟨by rw[A];intro b hb;simp at hb,y,q,z,C.symm⟩
   ·rename_i c cs D;simp only[Tr.AY,E8]at h;obtain⟨hc,y,q,z,C⟩:=h;exact⟨by rw[D];exact Zbz hc,y,q,z,C.symm⟩
  obtain⟨hb,y,q,z,rfl⟩:=key;obtain⟨G,I⟩:=Shape.uD J N hb;rw[PI]at G;rw[qV]at I;unfold Oe;simp only[show m.spec.fa=m.fa from rfl,show m.spec.fb=m.fb from rfl,F,G,I,HMod.ZBn J,q,Option.map_some,Rw];rw[if_pos z,rG,ZoO]
 ·simp[Tr.AY]at h
end
end Go.Proofs.YtjodhcdmhobmoaaGreatDoor.Le
namespace Go.Proofs.YtjodhcdmhobmoaaGreatDoor.Le
open Go.RowKit (Below)
section
variable {U:CY}
def F8 (U:CY):List Nat->Type
 | []=>Unit
 | t::ts=>U.Ty t×F8 U ts
def Gj:(ts:List Nat)->F8 U ts->List V
 | [],_=>[]
 | t::ts,x=>U.enc t x.1::Gj ts x.2
def S9:(ts:List Nat)->List (SV U.Ty)->Option (F8 U ts)
 | [],[]=>some ()
 | t::ts,v::vs=>match U.Gw t v,S9 ts vs with|some a,some as=>some (a,as)|_,_=>none
 | _,_=>none
structure Af (U:CY) where
 ts:List Nat
 rt:Nat
 fn:F8 U ts->Option (U.Ty rt)
 ok:∀t∈ts,t∈U.keys
def fP:SV U.Ty->Bool
 | .ptr _ _ _ _=>true
 | .raw v=>Sj v
 | _=>false
def Z4b (H:BF U):SV U.Ty->Tr U (SV U.Ty)
 | .ptr id i off tot=>if i=0/\off=0/\tot=1 then (match H[id]? with
   | some (.var _ n (.agg cs))=>.leaf (.raw (.CE n [.agg ((Aq U cs).map Vf)] 0 0))
   | some (.var _ n x)=>(match Vo x with|some z=>.leaf (.raw (.CE n [.lit z] 0 0))|none=>.fail)
   | _=>.fail) else .fail
 | .raw _=>.fail
 | v=>RH H v
def fE (H:BF U):List (SV U.Ty)->Tr U (List (SV U.Ty))
 | []=>.leaf []
 | v::vs=>(Z4b H v).andThen fun w=>(fE H vs).andThen fun ws=>.leaf (w::ws)
def uH:SV U.Ty->Bool
 | .lit _ | .si _ _ | .sb _ | .ss _=>true
 | _=>false
def VM:SV U.Ty->Bool
 | .lit _ | .si _ _ | .sb _ | .ss _=>true
 | .agg cs=>cs.all uH
 | _=>false
def Z4p:SV U.Ty->Bool
 | .BH vs=>vs.all VM
 | v=>VM v
theorem ZyP (x:SV U.Ty):Sj (AU U x)=fP x:=by
 cases x<;>simp[fP,Sj,AU]
theorem Zc4 (xs:List (SV U.Ty)):(Aq U xs).any Sj=xs.any fP:=by
 induction xs with
 | nil=>rfl
 | cons x xs q=>simp only[Aq,List.any_cons,q,ZyP]
theorem Zzj (x:SV U.Ty) (h:uH x=true):Io (AU U x)=true:=by
 cases x<;>simp_all [uH,Io,AU]
theorem ZbH (xs:List (SV U.Ty)) (h:xs.all uH=true):(Aq U xs).all Io=true:=by
 induction xs with
 | nil=>rfl
 | cons x xs q=>
  simp only[List.all_cons,Bool.and_eq_true]at h;simp only[Aq,List.all_cons,Bool.and_eq_true];exact⟨Zzj x h.1,q h.2⟩
theorem Zzq (x:SV U.Ty) (h:VM x=true):Jt (AU U x)=true:=by
 cases x<;>first|(simp[VM]at h;done)|(simp[Jt,AU];done)|skip
 rename_i cs;simp only[AU,Jt];exact ZbH cs h
theorem ZuX (xs:List (SV U.Ty)) (h:xs.all VM=true):(Aq U xs).all Jt=true:=by
 induction xs with
 | nil=>rfl
 | cons x xs q=>
  simp only[List.all_cons,Bool.and_eq_true]at h;simp only[Aq,List.all_cons,Bool.and_eq_true];exact⟨Zzq x h.1,q h.2⟩
theorem ZAr (x:SV U.Ty) (h:Z4p x=true):O4 (AU U x)=true:=by
 cases x<;>first|(simp[Z4p,VM]at h;done)|(simp[O4,Jt,AU];done)|skip
 ·rename_i cs;simp only[AU,O4,Jt];exact ZbH cs h
 ·rename_i vs;simp only[AU,O4];exact ZuX vs h
theorem Zxw {H:BF U} {x y:SV U.Ty} (h:(Z4b H x).AY y):O7 (BM U H) (AU U x)=some (AU U y):=by
 unfold Z4b at h;split at h
 ·rename_i id i off tot;split at h
  ·rename_i D;obtain⟨rfl,rfl,rfl⟩:=D;split at h
   ·rename_i e n cs hb;simp only[Tr.AY]at h;subst h;simp only[AU,O7,and_self,if_true,DX,MF,hb,Option.map_some,CX,Bg];simp
   ·rename_i e n x hb C;split at h
    ·rename_i z D;simp only[Tr.AY]at h;subst h;have G:AU U x = .lit z:=by cases x<;>simp_all [Vo,AU]
     simp only[AU,O7,and_self,if_true,DX,MF,C,Option.map_some,CX,Bg,G];simp
    ·simp[Tr.AY]at h
   ·simp[Tr.AY]at h
  ·simp[Tr.AY]at h
 ·simp[Tr.AY]at h
 ·rename_i q A;unfold O7;split
  ·rename_i id i off tot F;exfalso;cases x<;>simp[AU]at F
   ·exact q _ _ _ _ rfl
   ·exact A _ rfl
  ·exact rX h
theorem Zsd {H:BF U}:∀{xs ys:List (SV U.Ty)},(fE H xs).AY ys->Ko (BM U H) (Aq U xs)=some (Aq U ys):=by
 intro xs;induction xs with
 | nil=>intro ys h;simp only[fE,Tr.AY]at h;subst h;rfl
 | cons x xs A=>
  intro ys h;simp only[fE,EI,Tr.AY]at h;obtain⟨w,q,ws,z,rfl⟩:=h;simp only[Aq,Ko,Zxw q,A z]
def Z4x (hmods:FuncId->List FuncId->Option (HMod U)) (g:FuncId):Bool:=match hmods g [] with|some m=>m.fb.isEmpty|none=>false
def Qv (mods:FuncId->Option (Af U)) (hmods:FuncId->List FuncId->Option (HMod U)):IU U:=fun g as H=>
 match mods g with
 | some m=>if as.any fP then (fE H as).andThen fun q =>(match S9 m.ts q with
   | some x=>.bind m.rt (m.fn x) fun r=>.when (Z4p (U.encS m.rt r)=true/\(as.flatMap NZ).isEmpty=true) (.leaf (U.encS m.rt r,H))
   | none=>.fail)
  else (PY H as).andThen fun q =>(match S9 m.ts q with
  | some x=>.bind m.rt (m.fn x) fun r=>.leaf (U.encS m.rt r,Pv H (as.flatMap NZ))
  | none=>.fail)
 | none=>match hmods g (if Z4x hmods g then [] else VQ as) with
  | some m=>Z45 m as H
  | none=>.fail
noncomputable def Vl (hmods:FuncId->List FuncId->Option (HMod U)):FuncId->List FuncId->Option V7:=fun g k=>(hmods g k).map HMod.spec
open Classical in
noncomputable def Oc (mods:FuncId->Option (Af U)):FuncId->Option (List V->Option V):=fun g=>
 match mods g with
 | some m=>some fun as=>if h:∃x:F8 U m.ts,Gj m.ts x=as then (m.fn (Classical.choose h)).map (U.enc m.rt) else none
 | none=>none
theorem Zbr {E:Env} (A:D6 U E):∀{ts:List Nat} {vs:List (SV U.Ty)} {x:F8 U ts},S9 ts vs=some x->GK E.rows ts (Aq U vs)=Gj ts x:=by
 intro ts;induction ts with
 | nil=>
  intro vs x h;cases vs with
  | nil=>rfl
  | cons=>simp[S9]at h
 | cons t ts C=>
  intro vs x h;cases vs with
  | nil=>simp[S9]at h
  | cons v vs=>
   simp only[S9]at h;split at h
   ·rename_i a as q z;cases h;simp only[Aq,GK,Gj,A.dec _ _ _ q,C z]
   ·cases h
theorem Zry {E:Env} (A:D6 U E):∀{ts:List Nat} {x y:F8 U ts},(∀t∈ts,t∈U.keys)->Gj ts x=Gj ts y->x=y:=by
 intro ts;induction ts with
 | nil=>intro x y _ _;rfl
 | cons t ts C=>
  intro x y z h;obtain⟨x1,F⟩:=x;obtain⟨G,I⟩:=y;simp only[Gj,List.cons.injEq]at h;rw[A.inj t (z t (by simp)) _ _ h.1,C (fun D q =>z D (by simp[q])) h.2]
theorem Z35 {E:Env} (z:D6 U E) {mods:FuncId->Option (Af U)} {g:FuncId} {m:Af U} (hm:mods g=some m) {F:List V->Option V} (q:Oc mods g=some F) (x:F8 U m.ts):F (Gj m.ts x)=(m.fn x).map (U.enc m.rt):=by
 unfold Oc at q;simp only[hm,Option.some.injEq]at q;subst q;have h:∃y:F8 U m.ts,Gj m.ts y=Gj m.ts x:=⟨x,rfl⟩;simp only[dif_pos h];rw[Zry z m.ok (Classical.choose_spec h)]
theorem ZA7 {E:Env} (A:D6 U E) {mods:FuncId->Option (Af U)} {hmods:FuncId->List FuncId->Option (HMod U)} (q:E.env=Oc mods) (M:E.hm=Vl hmods) (Q:∀g,E.pure g=false) (G:∀g m,mods g=some m->E.par g=m.ts)
  (D:∀g,E.own g=none) (n:Nat):NY U (Qv mods hmods) (En E (n+1)):=by
 intro g as H v H' h;unfold Qv at h;cases hm:mods g with
 | none=>
  simp only[hm]at h;have O:E.env g=none:=by rw[q];unfold Oc;simp[hm]
  split at h
  ·rename_i m hmm;have:=Zxq A h;unfold En;simp only[O,Q g,Bool.false_eq_true,if_false];have hfr:Px E g=Z4x hmods g:=by
    unfold Px Z4x;rw[O,Q g,M];simp only[Vl];cases hmods g []<;>rfl
   have hk:E.hm g (if Px E g then [] else MM (Aq U as))=some m.spec:=by rw[hfr,M,Zx1];simp only[Vl,hmm,Option.map_some]
   simp only[hk,this]
  ·simp[Tr.AY]at h
 | some m=>
  simp only[hm]at h
  by_cases Y:as.any fP=true
  ·rw[if_pos Y]at h;simp only[EI]at h;obtain⟨as',S,h⟩:=h;split at h
   ·rename_i x hx;simp only[Tr.AY,E8,Prod.mk.injEq]at h;obtain⟨r,hr,⟨hfl,N⟩,rfl,rfl⟩:=h;have z:∃F,E.env g=some F:=by rw[q];unfold Oc;simp[hm]
    obtain⟨F,z⟩:=z;have I:=Z35 A hm (by rw[<- q];exact z) x;have C :=ZAr _ hfl;rw[A.encS]at C;have J : (Aq U as).flatMap Dh=[]:=by rw[Z2W];simpa using N
    unfold En;simp only[z];rw[if_pos (by rw[Zc4];exact Y),Zsd S];simp only[D g,G g m hm,Zbr A hx,I,hr,Option.map_some];rw[if_pos C,J,A.encS];rfl
   ·simp[Tr.AY]at h
  rw[if_neg Y]at h;simp only[EI]at h;obtain⟨as',S,h⟩:=h;split at h
  ·rename_i x hx;simp only[Tr.AY,Prod.mk.injEq]at h;obtain⟨r,hr,rfl,rfl⟩:=h;have z:∃F,E.env g=some F:=by rw[q];unfold Oc;simp[hm]
   obtain⟨F,z⟩:=z;have I:=Z35 A hm (by rw[<- q];exact z) x;unfold En;simp only[z];rw[if_neg (by rw[Zc4];exact Y)];simp only[Z1R S,D g,G g m hm,Zbr A hx,I,hr,Option.map_some,Z2W,VJ H _ (Z9p S),A.encS]
  ·simp[Tr.AY]at h
structure Ae (P:Program) (E:Env) (g:FuncId) (m:Af U):Prop where
 entered:OO P g
 pure:∀x a,m.fn x=some a->OX P E g (Gj m.ts x) (U.enc m.rt a)
theorem Ae.Ee {P:Program} {E q : Env} (h:q.Ee=E.Ee) {g:FuncId} {m:Af U} (z:Ae P E g m):Ae P q g m:=by
 refine⟨z.entered,fun x a F fz w vs hc A D=>z.pure x a F fz w vs hc ?_ D⟩;intro g r C;exact A g r (by rw[h];exact C)
structure Dy (P:Program) (E:Env) (g:FuncId) (m:HMod U):Prop where
 entered:OO P g
 heap:∀x y,m.fn x=some y->uJ P E g (Aq U (m.D5.enc x).1) (BM U (m.D5.enc x).2) (AU U (m.out y).1) (BM U (m.out y).2)
theorem Dy.Ee {P:Program} {E q : Env} (h:q.Ee=E.Ee) {g:FuncId} {m:HMod U} (z:Dy P E g m):Dy P q g m:=by
 refine⟨z.entered,fun x y G B w0 σ w vs D A F=>z.heap x y G B w0 σ w vs D ?_ F⟩;intro g r C;exact A g r (by rw[h];exact C)
theorem Zd5 {P:Program} {E:Env} (hU:D6 U E) {mods:FuncId->Option (Af U)} {hmods:FuncId->List FuncId->Option (HMod U)} (z:E.env=Oc mods) (O:E.hm=Vl hmods) (J:∀g,E.own g=none) (h:∀g m,mods g=some m->Ae P E g m)
  (h' : ∀g k m,hmods g k=some m->Dy P E g m):Qm P E:=by
 refine⟨?_,fun g k hs N=>?_⟩
 rotate_left
 ·rw[O]at N;simp only[Vl,Option.map_eq_some_iff]at N;obtain⟨m,hm,rfl⟩:=N;refine⟨(h' g k m hm).entered,fun as H0 r H1 q=>?_⟩;simp only[HMod.spec]at q;split at q
  ·rename_i Q;obtain⟨x,rfl,rfl⟩:=Q;simp only[Option.map_eq_some_iff]at q;obtain⟨y,hy,he⟩:=q;simp only[Prod.mk.injEq]at he;obtain⟨rfl,rfl⟩:=he;generalize hch:(⟨x,rfl,rfl⟩:∃y:m.D5.X U,Aq U (m.D5.enc y).1=Aq U (m.D5.enc x).1/\BM U (m.D5.enc y).2=BM U (m.D5.enc x).2)=I at hy;have Y:=Shape.ZeB hU m.ok (Classical.choose_spec I).1 (Classical.choose_spec I).2;rw[Y]at hy;exact(h' g k m hm).heap x y hy
  ·cases q
 intro g F A;have hm:∃m,mods g=some m:=by
  rw[z]at A;unfold Oc at A;cases hm:mods g with
  | none=>simp[hm]at A
  | some m=>exact⟨m,rfl⟩
 obtain⟨m,hm⟩:=hm;refine⟨(h g m hm).entered,fun as r _ M=>?_⟩;rw[J g];have G :=A;rw[z]at A;unfold Oc at A;simp only[hm,Option.some.injEq]at A;subst A;simp only at M;split at M
 ·rename_i Q;obtain⟨x,S⟩:=Q;subst S;have:=Z35 hU hm (by rw[z]at G;exact G) x;have D : (m.fn x).map (U.enc m.rt)=some r:=by
   rw[<- this];simp only[dif_pos (⟨x,rfl⟩:∃y:F8 U m.ts,Gj m.ts y=Gj m.ts x)];exact M
  cases C:m.fn x with
  | none=>simp[C]at D
  | some a=>
   simp only[C,Option.map_some,Option.some.injEq]at D;subst D;exact(h g m hm).pure x a C
 ·cases M
theorem Zpk {P:Program} {E:Env} (I:Ci E) (O:E.P=P) (hF:Qm P E) {n:Nat} {f:FuncId} {fn:Func} (M:E.func f=some fn) {c:Code} (hb:fn.body=some c) {as:List V} {r:V} {H1:Heap}
  (h:DV (En E n) E f fn 0 (Zp E fn) (.run c) [] ⟨as++List.replicate (fn.ntmps - as.length) EH,[]⟩ (r,H1)):OO P f/\OX P E f as r:=by
 obtain⟨C,hf2⟩:=I.func f fn M;rw[O]at C;refine⟨⟨fn,C,by simp[hb],hf2⟩,?_⟩;intro fz w vs q hg Q;have hI:Inv w.heap.size (Start.of w fz) (bare fz) [] w:=⟨Below.refl _ w,Nat.le_refl _,fun id L hL=>(by cases hL),fun id bx hb=>by simp at hb,fun i j b1 b2 L1 L2 g G=>by simp at G,q,
  fun b c hc id bx L hb=>by simp at hb,fun id bx hb=>by simp at hb,fun b c hc _=>hc,fun b hb=>hb.elim⟩
 have z:AQ (bare fz) w (as++List.replicate (fn.ntmps - as.length) EH) (vs.toArray++Array.replicate (fn.ntmps - vs.toArray.size) undef).toList:=by
  simp only[Array.toList_append,Array.toList_replicate,List.size_toArray];rw[<- Q.length];exact Q.append (AQ.replicate _ (.no .nil))
 have N:Eu E w.heap.size (Start.of w fz) (bare fz) ⟨as++List.replicate (fn.ntmps - as.length) EH,[]⟩ { tmps:=vs.toArray++Array.replicate (fn.ntmps - vs.toArray.size) undef,defers:=[] } w:=⟨hI,hg,z,rfl⟩;have hwp:=Zer I O (Z38 I O hF n w.heap.size (Start.of w fz)) (Ua n) (F:=Fin P fn w.heap.size (Start.of w fz)) (σ0:=bare fz) (ws:=w)
  (fun st r σ a w' hz Q hx=>ZDV I O Q (fun b c hh=>(hx.fz b c hh).1) hz) h (I.calm f fn c M hb) rfl _ _ _ N (Ext.refl _ _).k
 refine calls_of_wp C hb ?_;intro fr k cs;obtain⟨e,a',w',D,J⟩:=hwp fr k cs;refine⟨e,a',w',?_,J⟩;cases e with
 | normal=>
  obtain⟨S,u,A,G,Y,h3,h4,h5,h6,h7⟩:=D;exact⟨S,u,G,u,A,rfl,Y,h3,h4,h5,h6,h7⟩
 | ret=>
  obtain⟨S,u,A,G,Y,h3,h4,h5,h6,h7⟩:=D;exact⟨S,u,G,u,A,rfl,Y,h3,h4,h5,h6,h7⟩
 | exit id=>exact D.elim
 | goto l=>exact D.elim
 | panic c=>exact D.elim
 | outgrown=>exact D.elim
theorem ZqE {P:Program} {E:Env} (C:Ci E) (M:E.P=P) (hF:Qm P E) {n:Nat} {f:FuncId} {fn:Func} (G:E.func f=some fn) {c:Code} (hb:fn.body=some c) {as:List V} {J:Heap} {r:V} {H1:Heap} {fa:List (List Fk)} {fb:List Bf} {k:Nat} (hk:J.length=k)
  (h:DV (En E n) E f fn k (Zh E fn fa fb k) (.run c) [] ⟨as++List.replicate (fn.ntmps - as.length) EH,J⟩ (r,H1)):OO P f/\uJ P E f as J r H1:=by
 obtain⟨z,hf2⟩:=C.func f fn G;rw[M]at z;refine⟨⟨fn,z,by simp[hb],hf2⟩,?_⟩;intro B w0 σ w vs hI hg N;have q:AQ σ w (as++List.replicate (fn.ntmps - as.length) EH) (vs.toArray++Array.replicate (fn.ntmps - vs.toArray.size) undef).toList:=by
  simp only[Array.toList_append,Array.toList_replicate,List.size_toArray];rw[<- N.length];exact N.append (AQ.replicate _ (.no .nil))
 have I:Eu E B w0 σ ⟨as++List.replicate (fn.ntmps - as.length) EH,J⟩ { tmps:=vs.toArray++Array.replicate (fn.ntmps - vs.toArray.size) undef,defers:=[] } w:=⟨hI,hg,q,rfl⟩;have hwp:=Zer C M (Z38 C M hF n B w0) (Ua n) (F:=FinH P fn B w0 σ w) (σ0:=σ) (ws:=w)
  (fun st r σ' a w' hz N hx=>ZDf C M (fun id L hL=>by rw[<- hk];exact hI.Z4f hL) N hx hz) h (C.calm f fn c G hb) rfl _ _ _ I (Ext.refl _ _).k
 refine calls_of_wp z hb ?_;intro fr k cs;obtain⟨e,a',w',A,D⟩:=hwp fr k cs;refine⟨e,a',w',?_,D⟩;cases e with
 | normal=>
  obtain⟨O,u,σ',Q,S,Y,h4⟩:=A;exact⟨O,u,Q,u,σ',rfl,S,Y,h4⟩
 | ret=>
  obtain⟨O,u,σ',Q,S,Y,h4⟩:=A;exact⟨O,u,Q,u,σ',rfl,S,Y,h4⟩
 | exit id=>exact A.elim
 | goto l=>exact A.elim
 | panic c=>exact A.elim
 | outgrown=>exact A.elim
theorem ZdU {L R:Type} {J:L->Option R}:∀{T:Tr U L} {r:R},T.den J=some r->∃l,T.AY l/\J l=some r:=by
 intro T;induction T with
 | leaf l=>intro r h;exact⟨l,rfl,h⟩
 | br c a b C D=>
  intro r h;cases c with
  | true=>obtain⟨l,q,z⟩:=C h;exact⟨l,.inl ⟨rfl,q⟩,z⟩
  | false=>obtain⟨l,q,z⟩:=D h;exact⟨l,.inr ⟨rfl,q⟩,z⟩
 | bind t o k A=>
  intro r h;cases o with
  | none=>cases h
  | some a=>obtain⟨l,q,z⟩:=A a h;exact⟨l,⟨a,rfl,q⟩,z⟩
 | chk c a A=>
  intro r h;cases c with
  | true=>obtain⟨l,q,z⟩:=A h;exact⟨l,⟨rfl,q⟩,z⟩
  | false=>cases h
 | fail=>intro r h;cases h
theorem ZAV {L M:Type} {g:L->M}:∀{T:Tr U L} {l:L},T.AY l->(T.map g).AY (g l):=by
 intro T;induction T with
 | leaf l=>intro l h;simp only[Tr.AY]at h;subst h;rfl
 | br c a b z A=>
  intro l h;rcases h with ⟨hc,h⟩|⟨hc,h⟩
  ·exact .inl ⟨hc,z h⟩
  ·exact .inr ⟨hc,A h⟩
 | bind t o k q=>rintro l ⟨a,C,h⟩;exact⟨a,C,q a h⟩
 | chk c a q=>rintro l ⟨hc,h⟩;exact⟨hc,q h⟩
 | fail=>intro l h;exact h
def QD:Code->List Nat->List Fr->Code×List Fr
 | .seq a b,0::p,K=>QD a p (.seq b::K)
 | .seq a b,_::p,K=>QD b p K
 | .cond _ a b,0::p,K=>QD a p K
 | .cond _ a b,_::p,K=>QD b p K
 | .block id b,_::p,K=>QD b p (.blk id::K)
 | .loop b,_::p,K=>QD b p (.loop b::K)
 | .scope b,_::p,K=>QD b p K
 | c,_,K=>(c,K)
def JY (fn:Func):Code:=match fn.body with|some c=>c|none=>.skip
open Classical in
noncomputable def iO {α:Type} (g:Nat->Option α):Option α:=if h:∃n a,g n=some a then g (Classical.choose h) else none
theorem Z2w {α:Type} {g:Nat->Option α} {a:α} (h:iO g=some a):∃n,g n=some a:=by
 unfold iO at h;split at h
 ·exact⟨_,h⟩
 ·cases h
def Mono {α:Type} (g:Nat->Option α):Prop:=∀n a,g n=some a->g (n+1)=some a
theorem Mono.le {α:Type} {g:Nat->Option α} (z:Mono g) {n m:Nat} {a:α} (h:g n=some a) (q:n<=m):g m=some a:=by
 induction q with
 | refl=>exact h
 | step _ A=>exact z _ _ A
theorem ZDk {α:Type} {g:Nat->Option α} (A:Mono g) {n:Nat} {a:α} (h:g n=some a):iO g=some a:=by
 unfold iO;have q:∃n a,g n=some a:=⟨n,a,h⟩;rw[dif_pos q];obtain⟨b,hb⟩:=Classical.choose_spec q;have C:=A.le h (Nat.le_max_left n (Classical.choose q));have z:=A.le hb (Nat.le_max_right n (Classical.choose q));rw[hb];rw[C]at z;exact z.symm
end
abbrev AP (x:Int):Int:=IntKind.wrap .i64 x
end Go.Proofs.YtjodhcdmhobmoaaGreatDoor.Le
namespace Go.Proofs.YtjodhcdmhobmoaaGreatDoor.Le
structure AB (Ty:Nat->Type) (T:Type) where
 Au:T->List V
 encS:T->List (SV Ty)
 dec:List (SV Ty)->Option (T×List (SV Ty))
section
variable {Ty:Nat->Type}
def AB.int (k:IntKind):AB Ty Int where
 Au:=fun a=>[.lit (.int k a)]
 encS:=fun a=>[.si k a]
 dec:=fun cs=>match cs with
  | .si j a::r=>if j=k then some (a,r) else none
  | .lit (.int j a)::r=>if j=k then some (a,r) else none
  | _=>none
def AB.bool:AB Ty Bool where
 Au:=fun b=>[.lit (.bool b)]
 encS:=fun b=>[.sb b]
 dec:=fun cs=>match cs with
  | .sb b::r=>some (b,r)
  | .lit (.bool b)::r=>some (b,r)
  | _=>none
def AB.str:AB Ty ByteArray where
 Au:=fun b=>[.lit (.string b)]
 encS:=fun b=>[.ss b]
 dec:=fun cs=>match cs with
  | .ss b::r=>some (b,r)
  | .lit (.string b)::r=>some (b,r)
  | _=>none
def AB.list (t n:Nat) (e:Ty t->V):AB Ty (List (Ty t)) where
 Au:=fun xs=>[.sl false n (xs.map e)]
 encS:=fun xs=>[.sl t xs]
 dec:=fun cs=>match cs with
  | .sl q xs::r=>if h:q = t then some (h▸xs,r) else none
  | .nil _::r=>some ([],r)
  | _=>none
def AB.unit:AB Ty Unit where
 Au:=fun _=>[]
 encS:=fun _=>[]
 dec:=fun cs=>some ((),cs)
def AB.pair {A B:Type} (a:AB Ty A) (b:AB Ty B):AB Ty (A×B) where
 Au:=fun x=>a.Au x.1++b.Au x.2
 encS:=fun x=>a.encS x.1++b.encS x.2
 dec:=fun cs=>match a.dec cs with
  | some (x,r)=>match b.dec r with|some (y,q)=>some ((x,y),q)|none=>none
  | none=>none
def AB.C9 {A B:Type} (f:A->B) (g:B->A) (b:AB Ty B):AB Ty A where
 Au:=fun x=>b.Au (f x)
 encS:=fun x=>b.encS (f x)
 dec:=fun cs=>match b.dec cs with|some (y,r)=>some (g y,r)|none=>none
def AB.agg {T:Type} (c:AB Ty T) (v:SV Ty):Option T:=match v with
 | .agg cs=>match c.dec cs with|some (a,[])=>some a|_=>none
 | _=>none
def AB.one {T:Type} (c:AB Ty T) (v:SV Ty):Option T:=match c.dec [v] with|some (a,[])=>some a|_=>none
def AB.BU {T:Type} (c:AB Ty T) (a:T):V:=(c.Au a).headD .no
def AB.DR {T:Type} (c:AB Ty T) (a:T):SV Ty:=(c.encS a).headD .no
end
structure A7 (U:CY) {T:Type} (c:AB U.Ty T) (rs:List Nat):Prop where
 enc:∀a,Aq U (c.encS a)=c.Au a
 len:∀a,(c.Au a).length=rs.length
 dec:∀cs a rest,c.dec cs=some (a,rest)->∃pre,cs=pre++rest/\pre.length=rs.length/\Fa rs (Aq U pre)=c.Au a
 nr:∀a,CJ (c.Au a)=true
 inj:∀a b,c.Au a=c.Au b->a=b
section
variable {U:CY}
theorem A7.int (k:IntKind):A7 U (AB.int k:AB U.Ty Int) [0]:=by
 refine⟨fun a=>rfl,fun a=>rfl,?_,fun a=>rfl,fun a b h=>by simpa[AB.int]using h⟩;intro cs a z h;simp only[AB.int]at h;split at h
 ·rename_i j x r;split at h
  ·rename_i q;simp only[Option.some.injEq,Prod.mk.injEq]at h;obtain⟨rfl,rfl⟩:=h;subst q;exact⟨[_],rfl,rfl,rfl⟩
  ·cases h
 ·rename_i j x r;split at h
  ·rename_i q;simp only[Option.some.injEq,Prod.mk.injEq]at h;obtain⟨rfl,rfl⟩:=h;subst q;exact⟨[_],rfl,rfl,rfl⟩
  ·cases h
 ·cases h
theorem A7.bool:A7 U (AB.bool:AB U.Ty Bool) [0]:=by
 refine⟨fun a=>rfl,fun a=>rfl,?_,fun a=>rfl,fun a b h=>by simpa[AB.bool]using h⟩;intro cs a q h;simp only[AB.bool]at h;split at h<;>cases h<;>exact⟨[_],rfl,rfl,rfl⟩
theorem A7.str:A7 U (AB.str:AB U.Ty ByteArray) [0]:=by
 refine⟨fun a=>rfl,fun a=>rfl,?_,fun a=>rfl,fun a b h=>by simpa[AB.str]using h⟩;intro cs a q h;simp only[AB.str]at h;split at h<;>cases h<;>exact⟨[_],rfl,rfl,rfl⟩
theorem ZD2 {α A:Type} {f:α->A} (q:∀a b,f a=f b->a=b):∀{xs ys:List α},xs.map f=ys.map f->xs=ys:=by
 intro xs;induction xs with
 | nil=>intro ys h;cases ys with
  | nil=>rfl
  | cons=>simp at h
 | cons x xs z=>intro ys h;cases ys with
  | nil=>simp at h
  | cons y ys=>
   simp only[List.map_cons,List.cons.injEq]at h;rw[q _ _ h.1,z h.2]
theorem A7.list {t n:Nat} {e:U.Ty t->V} (F:∀a,U.enc t a=e a) (C:U.Ap t=n) (A:∀a,CS (e a)=true) (z:∀a b,e a=e b->a=b):A7 U (AB.list t n e:AB U.Ty (List (U.Ty t))) [n]:=by
 have q:∀xs:List (U.Ty t),xs.map (U.enc t)=xs.map e:=fun xs=>List.map_congr_left fun a _=>F a;refine⟨fun a=>?_,fun a=>rfl,?_,fun a=>?_,fun a b h=>?_⟩
 ·simp[AB.list,Aq,AU,C,q]
 ·intro cs a D h;simp only[AB.list]at h;split at h
  ·rename_i J xs r;split at h
   ·rename_i G;subst G;simp only[Option.some.injEq,Prod.mk.injEq]at h;obtain⟨rfl,rfl⟩:=h;exact⟨[_],rfl,rfl,by simp[Aq,AU,Fa,GL,AB.list,C,q]⟩
   ·cases h
  ·cases h;exact⟨[_],rfl,rfl,by simp[Aq,AU,Fa,GL,AB.list]⟩
  ·cases h
 ·simp only[AB.list,CJ,CS,Bool.and_true];rw[KO];intro x I;obtain⟨y,_,rfl⟩:=List.mem_map.1 I;exact A y
 ·simp only[AB.list,List.cons.injEq,V.sl.injEq,true_and,and_true]at h;exact ZD2 z h
theorem A7.unit:A7 U (AB.unit:AB U.Ty Unit) []:=
 ⟨fun a=>rfl,fun a=>rfl,fun cs a q h=>by cases h;exact⟨[],rfl,rfl,rfl⟩,fun a=>rfl,fun a b _=>rfl⟩
theorem Zmg:∀(q z:List Nat) (x y:List V),x.length=q.length->Fa (q++z) (x++y)=Fa q x++Fa z y:=by
 intro q;induction q with
 | nil=>intro z x y h;cases x with
  | nil=>simp[Fa]
  | cons=>simp at h
 | cons r q A=>intro z x y h;cases x with
  | nil=>simp at h
  | cons v x=>simp[Fa,A z x y (by simpa using h)]
theorem Zn7 (x y:List V):CJ (x++y)=(CJ x&&CJ y):=by
 induction x with
 | nil=>simp[CJ]
 | cons a x q=>simp[CJ,q,Bool.and_assoc]
theorem A7.pair {A B:Type} {a:AB U.Ty A} {b:AB U.Ty B} {D F:List Nat} (z:A7 U a D) (hb:A7 U b F):A7 U (AB.pair a b) (D++F):=by
 refine⟨fun x=>?_,fun x=>?_,?_,fun x=>?_,fun x y h=>?_⟩
 ·simp only[AB.pair,QX,z.enc,hb.enc]
 ·simp only[AB.pair,List.length_append,z.len,hb.len]
 ·intro cs x G h;simp only[AB.pair]at h;split at h
  ·rename_i p r O;split at h
   ·rename_i q r' Q;cases h;obtain⟨p1,I,C,Y⟩:=z.dec _ _ _ O;obtain⟨p2,J,S,t2⟩:=hb.dec _ _ _ Q;refine⟨p1++p2,by rw[I,J,List.append_assoc],by simp[C,S],?_⟩;rw[QX,Zmg _ _ _ _ (by rw[IZ];exact C),Y,t2];rfl
   ·cases h
  ·cases h
 ·simp only[AB.pair,Zn7,z.nr,hb.nr,Bool.and_self]
 ·simp only[AB.pair]at h;obtain⟨M,N⟩:=List.append_inj h (by rw[z.len,z.len]);obtain⟨x1,x2⟩:=x;obtain⟨y1,y2⟩:=y;exact Prod.ext (z.inj _ _ M) (hb.inj _ _ N)
theorem A7.C9 {A B:Type} {f:A->B} {g:B->A} {b:AB U.Ty B} {r:List Nat} (hb:A7 U b r) (z:∀y,f (g y)=y) (q:∀x,g (f x)=x):A7 U (AB.C9 f g b) r:=by
 refine⟨fun x=>hb.enc _,fun x=>hb.len _,?_,fun x=>hb.nr _,fun x y h=>?_⟩
 ·intro cs x C h;simp only[AB.C9]at h;split at h
  ·rename_i y F D;cases h;obtain⟨p,e,l,t⟩:=hb.dec _ _ _ D;exact⟨p,e,l,by simp only[AB.C9,z];exact t⟩
  ·cases h
 ·have:=hb.inj _ _ h;rw[<- q x,this,q]
theorem A7.agg {T:Type} {c:AB U.Ty T} {r:List Nat} (h:A7 U c r) {v:SV U.Ty} {a:T} (q:c.agg v=some a):Du r (AU U v) = .agg (c.Au a):=by
 unfold AB.agg at q;split at q
 ·split at q
  ·rename_i cs _ z;cases q;obtain⟨p,e,l,t⟩:=h.dec _ _ _ z;simp only[List.append_nil]at e;subst e;simp only[AU,Du,t]
  ·cases q
 ·cases q
theorem A7.one {T:Type} {c:AB U.Ty T} {n:Nat} (h:A7 U c [n]) {v:SV U.Ty} {a:T} (z:c.one v=some a) (C:∀cs,AU U v≠.agg cs):Du [n] (AU U v)=c.BU a:=by
 unfold AB.one at z;split at z
 ·rename_i A;cases z;obtain⟨p,e,l,t⟩:=h.dec _ _ _ A;simp only[List.append_nil]at e;subst e;simp only[Aq,Fa]at t;unfold AB.BU;rw[<- t];unfold Du;split
  ·rename_i cs q;exact absurd q (C cs)
  ·rfl
 ·cases z
theorem Qo {k:IntKind} {v:SV U.Ty} {a:Int} (h:(AB.int k:AB U.Ty Int).one v=some a):∀cs,AU U v≠.agg cs:=by
 rintro cs hc
 cases v<;>simp_all [AU,AB.one,AB.int]
theorem ZCr {v:SV U.Ty} {a:Bool} (h:(AB.bool:AB U.Ty Bool).one v=some a):∀cs,AU U v≠.agg cs:=by
 rintro cs hc
 cases v<;>simp_all [AU,AB.one,AB.bool]
theorem ZFV {v:SV U.Ty} {a:ByteArray} (h:(AB.str:AB U.Ty ByteArray).one v=some a):∀cs,AU U v≠.agg cs:=by
 rintro cs hc
 cases v<;>simp_all [AU,AB.one,AB.str]
theorem NR {t n:Nat} {e:U.Ty t->V} {v:SV U.Ty} {a:List (U.Ty t)} (h:(AB.list t n e:AB U.Ty (List (U.Ty t))).one v=some a):∀cs,AU U v≠.agg cs:=by
 rintro cs hc
 cases v<;>simp_all [AU,AB.one,AB.list]
theorem A7.ZeN {T:Type} {c:AB U.Ty T} {n:Nat} (h:A7 U c [n]) (a:T):AU U (c.DR a)=c.BU a:=by
 unfold AB.DR AB.BU;rw[<- h.enc a];have q:=h.len a;rw[<- h.enc a,IZ]at q;cases z:c.encS a with
 | nil=>rw[z]at q;simp at q
 | cons x xs=>rfl
theorem A7.Ql {T:Type} {c:AB U.Ty T} {n:Nat} (h:A7 U c [n]) {a b:T} (A:c.BU a=c.BU b):a=b:=by
 refine h.inj a b ?_;have q:=h.len a;have z:=h.len b;unfold AB.BU at A;cases C:c.Au a with
 | nil=>rw[C]at q;simp at q
 | cons x xs=>
  cases hb:c.Au b with
  | nil=>rw[hb]at z;simp at z
  | cons y ys=>
   rw[C,hb]at A;rw[C]at q;rw[hb]at z;simp only[List.headD_cons]at A;have D:xs=[]:=by simpa using q
   have F:ys=[]:=by simpa using z
   rw[A,D,F]
theorem A7.Qr {T:Type} {c:AB U.Ty T} {n:Nat} (h:A7 U c [n]) (a:T):CS (c.BU a)=true:=by
 have:=h.nr a;unfold AB.BU;cases q:c.Au a with
 | nil=>rfl
 | cons x xs=>rw[q]at this;simp[CJ]at this;exact this.1
end
def AB.skip {Ty:Nat->Type}:AB Ty Unit where
 Au:=fun _=>[.und]
 encS:=fun _=>[.und]
 dec:=fun cs=>match cs with
  | .und::r=>some ((),r)
  | _=>none
theorem A7.skip {U:CY}:A7 U (AB.skip:AB U.Ty Unit) [0]:=by
 refine⟨fun a=>rfl,fun a=>rfl,?_,fun a=>rfl,fun a b _=>rfl⟩;intro cs a q h;simp only[AB.skip]at h;split at h<;>cases h;exact⟨[_],rfl,rfl,rfl⟩
def rawS {Ty:Nat->Type}:V->SV Ty
 | .lit v=>.lit v
 | .und=>.und
 | _=>.no
def iD:V->Bool
 | .lit _=>true
 | .und=>true
 | _=>false
def AB.N8 {Ty:Nat->Type} {T:Type} (c:AB Ty T) (n:Nat) (a:T):V:=.CE n [.agg (c.Au a)] 0 0
def AB.vX {Ty:Nat->Type} {T:Type} (c:AB Ty T) (n:Nat) (v:SV Ty):Option T:=match v with
 | .raw (.CE m [.agg cs] 0 0)=>if m=n/\cs.all iD=true then c.agg (.agg (cs.map rawS)) else none
 | _=>none
def AB.NU {Ty:Nat->Type} {T:Type} (c:AB Ty T) (n:Nat) (a:T):V:=.CE n (c.Au a) 0 0
def AB.uT {Ty:Nat->Type} {T:Type} (c:AB Ty T) (n:Nat) (v:SV Ty):Option T:=match v with
 | .raw (.CE m [.lit z] 0 0)=>if m=n then (match c.dec [.lit z] with|some (a,[])=>some a|_=>none) else none
 | _=>none
theorem A7.ZdP {U:CY} {T:Type} {c:AB U.Ty T} {r:List Nat} (h:A7 U c r) {n:Nat} {v:SV U.Ty} {a:T} (q:c.uT n v=some a) (rs:List Nat):Du rs (AU U v)=c.NU n a:=by
 unfold AB.uT at q;split at q
 ·rename_i m z;split at q
  ·rename_i hc;subst hc;split at q
   ·rename_i F D;cases q;obtain⟨pre,A,G,C⟩:=h.dec _ _ _ D;rw[List.append_nil]at A;subst A;have:c.Au a=[V.lit z]:=by
     rw[<- C];cases r with
     | nil=>simp[Aq,AU,Fa]
     | cons a b=>cases b<;>simp[Aq,AU,Fa,GL]
    simp only[AU,Du,GL,AB.NU,this]
   ·cases q
  ·cases q
 ·cases q
theorem A7.Ze3 {U:CY} {T:Type} {c:AB U.Ty T} {r:List Nat} (h:A7 U c r) (n:Nat) (a:T):CS (c.NU n a)=true:=by
 simp[AB.NU,CS,h.nr]
theorem A7.Zdt {U:CY} {T:Type} {c:AB U.Ty T} {r:List Nat} (h:A7 U c r) {n:Nat} {a b:T} (q:c.NU n a=c.NU n b):a=b:=by
 simp only[AB.NU,V.CE.injEq,and_true,true_and]at q;exact h.inj _ _ q
theorem ZAB {U:CY}:∀{cs:List V},cs.all iD=true->Aq U (cs.map rawS)=cs:=by
 intro cs;induction cs with
 | nil=>intro _;rfl
 | cons c cs q=>
  intro h;simp only[List.all_cons,Bool.and_eq_true]at h;simp only[List.map_cons,Aq,q h.2];cases c<;>simp_all [iD,rawS,AU]
theorem ZwN:∀{cs:List V},cs.all iD=true->∀rs,Fa rs cs=cs:=by
 intro cs;induction cs with
 | nil=>intro _ rs;cases rs<;>rfl
 | cons c cs q=>
  intro h rs;simp only[List.all_cons,Bool.and_eq_true]at h;cases rs with
  | nil=>rfl
  | cons r rs=>
   simp only[Fa,q h.2];cases c<;>simp_all [iD,GL]
theorem A7.Zen {U:CY} {T:Type} {c:AB U.Ty T} {r:List Nat} (h:A7 U c r) {n:Nat} {v:SV U.Ty} {a:T} (z:c.vX n v=some a) (rs:List Nat):Du rs (AU U v)=c.N8 n a:=by
 unfold AB.vX at z;split at z
 ·rename_i m cs;split at z
  ·rename_i hc;obtain⟨rfl,q⟩:=hc;have:=h.agg z;simp only[AU,Du,ZAB q,V.agg.injEq]at this;rw[ZwN q]at this;simp only[AU,Du,GL,AB.N8,this]
  ·cases z
 ·cases z
theorem A7.ZeM {U:CY} {T:Type} {c:AB U.Ty T} {r:List Nat} (h:A7 U c r) (n:Nat) (a:T):CS (c.N8 n a)=true:=by
 simp[AB.N8,CS,CJ,h.nr]
theorem A7.Zek {U:CY} {T:Type} {c:AB U.Ty T} {r:List Nat} (h:A7 U c r) {n:Nat} {a b:T} (q:c.N8 n a=c.N8 n b):a=b:=by
 simp only[AB.N8,V.CE.injEq,List.cons.injEq,V.agg.injEq,and_true,true_and]at q;exact h.inj _ _ q
noncomputable def Nl {U:CY} (P:Program) (gl:Nat->Option (List V)) (f:FuncId) (mods:FuncId->Option (Af U)) (hmods:FuncId->List FuncId->Option (HMod U)):Env:=
 { OE P (fun _=>false) (Oc mods) with
  func:=fun g=>if g=f then P.funcs[g]? else none
  Ee:=gl
  hm:=Vl hmods
  par:=fun g=>match mods g with|some m=>m.ts|none=>[] }
def ZDl (E:Env) (P:Program) (f:FuncId):Bool:=match (P.funcs[f]?).bind (·.body) with|some c=>!Ed E f c|none=>false
noncomputable def EV {U:CY} (P:Program) (gl:Nat->Option (List V)) (f:FuncId) (mods:FuncId->Option (Af U)) (hmods:FuncId->List FuncId->Option (HMod U)):Env:=
 { Nl P gl f mods hmods with quiet:=ZDl (Nl P gl f mods hmods) P f }
section
variable {U:CY} {P:Program} {gl:Nat->Option (List V)} {f:FuncId} {mods:FuncId->Option (Af U)} {hmods:FuncId->List FuncId->Option (HMod U)}
theorem Zfu (F:P.follows .mixedOrders=true) {fn:Func} {c:Code} (A:P.funcs[f]? = some fn) (C:(fn.name == "runtime.NumGoroutine")=false) (hb:fn.body=some c) (q:Ed (EV P gl f mods hmods) f c=true):Ci (EV P gl f mods hmods):=by
 refine⟨fun t i h=>h,?_,F,?_,?_,?_,?_,fun t ks h=>h,?_⟩
 ·intro g G h;simp only[EV,Nl]at h;split at h
  ·rename_i I;subst I;rw[A]at h;cases h;exact⟨A,C⟩
  ·cases h
 ·intro g G M h D;simp only[EV,Nl]at h;split at h
  ·rename_i I;subst I;rw[A]at h;cases h;rw[hb]at D;cases D;exact q
  ·cases h
 ·intro t k h;simp only[EV,Nl,OE]at h;split at h
  ·rename_i d z;simp only[Option.some.injEq]at h;subst h;exact z
  ·cases h
 ·intro t h;simp only[EV,Nl,OE]at h;split at h
  ·rename_i z;exact z
  ·cases h
 ·intro t h;simp only[EV,Nl,OE]at h;split at h
  ·rename_i z;exact z
  ·cases h
 ·intro t h;simp only[EV,Nl,OE]at h;split at h
  ·rename_i e J;split at h
   ·rename_i z;exact⟨e,J,z⟩
   ·cases h
  ·cases h
def rM:(ts:List Nat)->F8 U ts->List (SV U.Ty)
 | [],_=>[]
 | t::ts,x=>U.encS t x.1::rM ts x.2
def gG (ts:List Nat) (x:F8 U ts) (n:Nat):D9 U:=⟨rM ts x++List.replicate (n - ts.length) .no,[]⟩
theorem Zpa {E:Env} (q:D6 U E):∀{ts:List Nat} (x:F8 U ts),Aq U (rM ts x)=Gj ts x:=by
 intro ts;induction ts with
 | nil=>intro x;rfl
 | cons t ts z=>intro x;simp only[rM,Aq,Gj,q.encS,z]
theorem Z7q:∀{ts:List Nat} (x:F8 U ts),(Gj ts x).length=ts.length:=by
 intro ts;induction ts with
 | nil=>intro x;rfl
 | cons t ts q=>intro x;simp[Gj,q]
theorem Zvz {E:Env} (q:D6 U E) {ts:List Nat} (x:F8 U ts) (n:Nat):CZ U (gG ts x n)=⟨Gj ts x++List.replicate (n - (Gj ts x).length) EH,[]⟩:=by
 simp only[CZ,gG,QX,Zpa q,Z7q];congr 1;congr 1;rw[Ep,List.map_replicate];rfl
theorem fn_ok {E0:Env} (z:E0.Ee=gl) (M:D6 U (EV P gl f mods hmods)) (G:P.follows .mixedOrders=true) {fn:Func} {c:Code} (I:∀g m,mods g=some m->Ae P E0 g m) (F:∀g k m,hmods g k=some m->Dy P E0 g m) (C:P.funcs[f]? = some fn) (q:(fn.name == "runtime.NumGoroutine")=false)
  (hb:fn.body=some c) (A:Ed (EV P gl f mods hmods) f c=true) (m:Af U)
  (h:∀x a,m.fn x=some a->DV (En (EV P gl f mods hmods) 1) (EV P gl f mods hmods) f fn 0 (Zp (EV P gl f mods hmods) fn) (.run c) [] (CZ U (gG m.ts x fn.ntmps)) (U.enc m.rt a,[])):Ae P E0 f m:=by
 have N:=Zfu (gl:=gl) (mods:=mods) G C q hb A;have O:Qm P (EV P gl f mods hmods):=Zd5 M rfl rfl (fun _=>rfl) (fun g m hm=>(I g m hm).Ee (by rw[z];rfl)) (fun g k m hm=>(F g k m hm).Ee (by rw[z];rfl));have D : (EV P gl f mods hmods).func f=some fn:=by simp only[EV,Nl,if_true];exact C
 have key:∀x a,m.fn x=some a->OO P f/\OX P (EV P gl f mods hmods) f (Gj m.ts x) (U.enc m.rt a):=by
  intro x a J;have:=h x a J;rw[Zvz M]at this;exact Zpk N rfl O D hb this
 refine⟨⟨fn,C,by simp[hb],q⟩,fun x a J fz w vs hc Q Y=>(key x a J).2 fz w vs hc ?_ Y⟩;intro g r S;exact Q g r (by rw[z];exact S)
def fZ (e:List (SV U.Ty)×BF U) (n:Nat):D9 U:=⟨e.1++List.replicate (n - e.1.length) .no,e.2⟩
theorem Zvf (e:List (SV U.Ty)×BF U) (n:Nat):CZ U (fZ e n)=⟨Aq U e.1++List.replicate (n - (Aq U e.1).length) EH,BM U e.2⟩:=by
 simp only[CZ,fZ,QX,IZ];congr 1;congr 1;rw[Ep,List.map_replicate];rfl
theorem ZFc {E0:Env} (z:E0.Ee=gl) (O:D6 U (EV P gl f mods hmods)) (G:P.follows .mixedOrders=true) {fn:Func} {c:Code} (I:∀g m,mods g=some m->Ae P E0 g m) (F:∀g k m,hmods g k=some m->Dy P E0 g m) (C:P.funcs[f]? = some fn) (q:(fn.name == "runtime.NumGoroutine")=false)
  (hb:fn.body=some c) (A:Ed (EV P gl f mods hmods) f c=true) (m:HMod U) {fa:List (List Fk)} {fb:List Bf} {k:Nat} (hk:∀x:m.D5.X U,(m.D5.enc x).2.length=k)
  (h:∀(x:m.D5.X U) (y:U.Ty m.ky),m.fn x=some y->DV (En (EV P gl f mods hmods) 1) (EV P gl f mods hmods) f fn k (Zh (EV P gl f mods hmods) fn fa fb k) (.run c) [] (CZ U (fZ (m.D5.enc x) fn.ntmps)) (AU U (m.out y).1,BM U (m.out y).2)):Dy P E0 f m:=by
 have M:=Zfu (gl:=gl) (mods:=mods) (hmods:=hmods) G C q hb A;have N:Qm P (EV P gl f mods hmods):=Zd5 O rfl rfl (fun _=>rfl) (fun g m hm=>(I g m hm).Ee (by rw[z];rfl)) (fun g k m hm=>(F g k m hm).Ee (by rw[z];rfl));have D : (EV P gl f mods hmods).func f=some fn:=by simp only[EV,Nl,if_true];exact C
 refine⟨⟨fn,C,by simp[hb],q⟩,fun x y hx B w0 σ w vs Y Q hr=>?_⟩;have J:=h x y hx;rw[Zvf]at J;exact(ZqE M rfl N D hb (by rw[Rw];exact hk x) J).2 B w0 σ w vs Y (fun g r S=>Q g r (by rw[z];exact S)) hr
theorem Zff (q:D6 U (EV P gl f mods hmods)):NY U (Qv mods hmods) (En (EV P gl f mods hmods) 1):=
 ZA7 q rfl rfl (fun _=>rfl) (fun g m h=>by simp only[EV,Nl,h]) (fun _=>rfl) 0
end
structure Bv (U:CY) (E:Env) (t:Nat):Prop where
 encS:∀a,AU U (U.encS t a)=U.enc t a
 dec:∀v a,U.Gw t v=some a->Du (E.rows t) (AU U v)=U.enc t a
 cells:∀a,(U.enc t a).cells=Aq U (cellsS (U.encS t a))
 nr:∀a,CS (U.enc t a)=true
 inj:∀a b,U.enc t a=U.enc t b->a=b
def fV (U:CY) (E:Env) {α:Type}:List ((i:Nat)×(α->U.Ty i))->Prop
 | []=>True
 | c::cs=>Bv U E c.1/\fV U E cs
def Z3O (U:CY) {α:Type} (x y:α):List ((i:Nat)×(α->U.Ty i))->Prop
 | []=>True
 | c::cs=>c.2 x=c.2 y/\Z3O U x y cs
theorem Zdg {U:CY} {E:Env} {α:Type} (x:α):∀{cs:List ((i:Nat)×(α->U.Ty i))},fV U E cs->Aq U (cs.map fun c=>U.encS c.1 (c.2 x))=cs.map fun c=>U.enc c.1 (c.2 x):=by
 intro cs;induction cs with
 | nil=>intro _;rfl
 | cons c cs q=>intro h;simp only[List.map_cons,Aq,h.1.encS,q h.2]
theorem ZBW {U:CY} {E:Env} {α:Type} (x:α):∀{cs:List ((i:Nat)×(α->U.Ty i))},fV U E cs->CJ (cs.map fun c=>U.enc c.1 (c.2 x))=true:=by
 intro cs;induction cs with
 | nil=>intro _;rfl
 | cons c cs q=>intro h;simp only[List.map_cons,CJ,h.1.nr,q h.2,Bool.and_self]
theorem ZBe {U:CY} {E:Env} {α:Type} (x y:α):∀{cs:List ((i:Nat)×(α->U.Ty i))},fV U E cs->(cs.map fun c=>U.enc c.1 (c.2 x))=(cs.map fun c=>U.enc c.1 (c.2 y))->Z3O U x y cs:=by
 intro cs;induction cs with
 | nil=>intro _ _;trivial
 | cons c cs q=>intro h e;simp only[List.map_cons,List.cons.injEq]at e;exact⟨h.1.inj _ _ e.1,q h.2 e.2⟩
theorem Bv.BH {U:CY} {E:Env} {t:Nat} (cs:List ((i:Nat)×(U.Ty t->U.Ty i))) (h:fV U E cs) (q:∀x,U.enc t x = .BH (cs.map fun c=>U.enc c.1 (c.2 x))) (z:∀x,U.encS t x = .BH (cs.map fun c=>U.encS c.1 (c.2 x))) (A:∀v,U.Gw t v=none)
  (C:∀x y,Z3O U x y cs->x=y):Bv U E t:=by
 refine⟨fun a=>?_,fun v a e=>?_,fun a=>?_,fun a=>?_,fun a b e=>?_⟩
 ·rw[q,z,AU,Zdg a h]
 ·rw[A]at e;cases e
 ·rw[q,z];show [V.BH _]=[V.BH _];rw[Zdg a h]
 ·rw[q];exact ZBW a h
 ·rw[q,q]at e;exact C a b (ZBe a b h (V.BH.inj e))
theorem Bv.Gt {U:CY} {E:Env} {t:Nat} {c:AB U.Ty (U.Ty t)} {rs:List Nat} (hc:A7 U c rs) (C:E.rows t=rs) (q:∀a,U.enc t a = .agg (c.Au a)) (z:∀a,U.encS t a = .agg (c.encS a)) (A:∀v,U.Gw t v=c.agg v):Bv U E t:=by
 refine⟨fun a=>?_,fun v a h=>?_,fun a=>?_,fun a=>?_,fun a b h=>?_⟩
 ·rw[q,z,AU,hc.enc]
 ·rw[C,q];exact hc.agg (by rw[<- A];exact h)
 ·rw[q,z];exact(hc.enc a).symm
 ·rw[q];exact hc.nr a
 ·rw[q,q]at h;exact hc.inj _ _ (V.agg.inj h)
theorem Bv.Hq {U:CY} {E:Env} {t n:Nat} {c:AB U.Ty (U.Ty t)} (hc:A7 U c [n]) (F:E.rows t=[n]) (G:∀{v:SV U.Ty} {a:U.Ty t},c.one v=some a->∀cs,AU U v≠.agg cs) (q:∀a,U.enc t a=c.BU a) (z:∀a,U.encS t a=c.DR a) (A:∀v,U.Gw t v=c.one v)
  (C:∀a,(c.BU a).cells=[c.BU a]) (D:∀a,cellsS (c.DR a)=[c.DR a]):Bv U E t:=by
 refine⟨fun a=>?_,fun v a h=>?_,fun a=>?_,fun a=>?_,fun a b h=>?_⟩
 ·rw[q,z];exact hc.ZeN a
 ·rw[A]at h;rw[F,q];exact hc.one h (G h)
 ·rw[q,z,C,D,Aq,Aq,hc.ZeN]
 ·rw[q];exact hc.Qr a
 ·rw[q,q]at h;exact hc.Ql h
def iM (p:Nat->Prop):List Nat->Prop
 | []=>True
 | t::ts=>p t/\iM p ts
theorem iM.at {p:Nat->Prop} {t:Nat}:∀{l:List Nat},iM p l->t∈l->p t:=by
 intro l;induction l with
 | nil=>intro _ m;cases m
 | cons x l q=>
  intro h m;rcases List.mem_cons.1 m with rfl|m
  ·exact h.1
  ·exact q h.2 m
section
variable {U:CY} {R P:Type}
def Hl {R P:Type} (g:P->Option R):R⊕P->Option R
 | .inl r=>some r
 | .inr q=>g q
def Qz (T:P->Tr U (R⊕P)):Nat->P->Option R
 | 0,_=>none
 | n+1,p=>(T p).den (Hl (Qz T n))
noncomputable def AV (T:P->Tr U (R⊕P)) (p:P):Option R:=iO fun n=>Qz T n p
theorem Zfc {L:Type} {J K:L->Option R} (h:∀l r,J l=some r->K l=some r):∀{T:Tr U L} {r:R},T.den J=some r->T.den K=some r:=by
 intro T;induction T with
 | leaf l=>intro r q;exact h l r q
 | br c a b A C=>intro r q;cases c with
  | true=>exact A q
  | false=>exact C q
 | bind t o k z=>intro r q;cases o with
  | none=>cases q
  | some a=>exact z a q
 | chk c a z=>intro r q;cases c with
  | true=>exact z q
  | false=>cases q
 | fail=>intro r q;cases q
theorem Zx7 (T:P->Tr U (R⊕P)):∀n p r,Qz T n p=some r->Qz T (n+1) p=some r:=by
 intro n;induction n with
 | zero=>intro p r h;cases h
 | succ n A=>
  intro p r h;refine Zfc ?_ h;intro l r z;cases l with
  | inl a=>exact z
  | inr q=>exact A q r z
theorem Ze4 (T:P->Tr U (R⊕P)) {n:Nat} {p:P} {r:R} (h:Qz T n p=some r):AV T p=some r:=
 ZDk (fun n a h=>Zx7 T n p a h) h
theorem AZ (T:P->Tr U (R⊕P)) (p:P):AV T p=(T p).den (Hl (AV T)):=by
 have M:∀r,AV T p=some r->(T p).den (Hl (AV T))=some r:=by
  intro r h;obtain⟨n,A⟩:=Z2w h;cases n with
  | zero=>cases A
  | succ n=>
   refine Zfc ?_ A;intro l r C;cases l with
   | inl a=>exact C
   | inr q=>exact Ze4 T C
 have N:∀r,(T p).den (Hl (AV T))=some r->AV T p=some r:=by
  intro r h;obtain⟨l,C,J⟩:=ZdU h;have key:∃n,(T p).den (Hl (Qz T n))=some r:=by
   have A:∃n,Hl (Qz T n) l=some r:=by
    cases l with
    | inl a=>exact⟨0,J⟩
    | inr q=>obtain⟨n,A⟩:=Z2w J;exact⟨n,A⟩
   obtain⟨n,A⟩:=A;refine⟨n,?_⟩;have:∀(X:Tr U (R⊕P)),X.AY l->X.den (Hl (Qz T n))=some r:=by
    intro X;induction X with
    | leaf x=>intro z;simp only[Tr.AY]at z;subst z;exact A
    | br c a b G I=>
     rintro (⟨rfl,z⟩|⟨rfl,z⟩)
     ·exact G z
     ·exact I z
    | bind t o k F=>rintro ⟨a,rfl,z⟩;exact F a z
    | chk c a F=>rintro ⟨rfl,z⟩;exact F z
    | fail=>intro z;exact z.elim
   exact this _ C
  obtain⟨n,A⟩:=key;exact Ze4 T (n:=n+1) A
 cases D:AV T p with
 | some r=>exact(M r D).symm
 | none=>
  cases hb:(T p).den (Hl (AV T)) with
  | none=>rfl
  | some r=>rw[N r hb]at D;cases D
structure Ac (U:CY) where
 c:Code
 K:List Fr
 st:D9 U
 sk:Bool
def TA {R:Type} (out:R->SV U.Ty×BF U) (z:P->Ac U):R⊕P->Vm U
 | .inl r=>.done (out r)
 | .inr q=>.jump (z q).c (z q).K (z q).st
end
def vO {U:CY} (rt:Nat) (r:U.Ty rt):SV U.Ty×BF U:=(U.encS rt r,[])
structure Lay where
 keep:List Nat
 fa:List (List Fk)
 fb:List Bf
 sh:Shape
section
variable {U:CY}
def tH {L:Type} (q:List Bool) (t:Tr U L):Tr U L:=match q with
 | []=>t
 | c::cs=>.chk (VV (c::cs)) t
theorem Z1x {L:Type} {q:List Bool} {t:Tr U L} {l:L} (h:(tH q t).AY l):(∀b∈q,b=true)/\t.AY l:=by
 cases q with
 | nil=>exact⟨by intro b hb;simp at hb,h⟩
 | cons c cs=>exact⟨Zbz h.1,h.2⟩
def layT (q:Nat) (l:Lay) (st:D9 U):Tr U (D9 U):=
 (Vb l.fa l.fb q (l.keep.map fun i=>st.s.getD i .und) st.H).andThen fun r=>
  .when (r.1.take q=List.range q) (match l.sh.dec (NT (r.1.idxOf ·) r.2.1) (V5 r.2.2 r.1) with
   | some x=>tH x.2 (.leaf ⟨spread .und st.s.length l.keep (l.sh.enc x.1).1,(l.sh.enc x.1).2⟩)
   | none=>.fail)
theorem ZyW (s:List (SV U.Ty)) (keep:List Nat):Aq U (keep.map fun i=>s.getD i .und)=keep.map fun i=>(Aq U s).getD i .und:=by
 induction keep with
 | nil=>rfl
 | cons i keep q=>simp only[List.map_cons,Aq,q,<- Uo]
theorem ZCB {E:Env} (F:D6 U E) {z:Nat} {l:Lay} {st st' : D9 U} (h:(layT z l st).AY st'):∃ids as A,pack l.fa l.fb z (l.keep.map fun i=>(CZ U st).s.getD i .und) (CZ U st).H=some (ids,as,A)/\ids.take z=List.range z /\
  CZ U st' = ⟨spread .und (CZ U st).s.length l.keep (Gl (ids.idxOf ·) as),Iq A ids⟩:=by
 simp only[layT,EI,E8]at h;obtain⟨p,I,G,h⟩:=h;have q :=rC I;rw[ZyW]at q;split at h
 ·rename_i x J;obtain⟨hb,h⟩:=Z1x h;simp only[Tr.AY]at h;subst h;obtain⟨C,D⟩:=Shape.uD F J hb;refine⟨_,_,_,q,G,?_⟩;rw[PI]at C;rw[qV]at D;simp only[CZ];rw[C,D,IZ];congr 1;rw[Ep,Zww,<- Ep];rfl
 ·simp[Tr.AY]at h
def uO (E:Env) (fn:Func) (fa:List (List Fk)) (fb:List Bf) (k:Nat) (sh:Shape) (one:Bool) (st:D9 U):Tr U (SV U.Ty×BF U):=
 (Z4j E fn fa fb k st).andThen fun r=>match one,r.1 with
  | true,.BH _=>.fail
  | true,v=>(match sh.dec [v] r.2 with
   | some x=>tH x.2 (.leaf ((sh.enc x.1).1.headD .und,(sh.enc x.1).2))
   | none=>.fail)
  | false,.BH vs=>(match sh.dec vs r.2 with
   | some x=>tH x.2 (.leaf (.BH (sh.enc x.1).1,(sh.enc x.1).2))
   | none=>.fail)
  | false,_=>.fail
theorem ZBu {E:Env} (C:D6 U E) {fn:Func} {fa:List (List Fk)} {fb:List Bf} {k:Nat} {sh:Shape} {one:Bool} {st:D9 U} {r:SV U.Ty×BF U} (h:(uO E fn fa fb k sh one st).AY r):Zh E fn fa fb k (CZ U st) (AU U r.1,BM U r.2):=by
 simp only[uO,EI]at h;obtain⟨q,I,h⟩:=h;have J:=ZBl C I;have key:AU U q.1=AU U r.1/\BM U q.2=BM U r.2:=by
  split at h
  ·simp[Tr.AY]at h
  ·split at h
   ·rename_i x F;obtain⟨hb,h⟩:=Z1x h;simp only[Tr.AY]at h;subst h;obtain⟨z,A⟩:=Shape.uD C F hb;refine⟨?_,A⟩;cases G:(sh.enc x.1).1 with
    | nil=>rw[G]at z;cases z
    | cons y ys=>
     rw[G]at z;simp only[Aq,List.cons.injEq]at z;exact z.1
   ·simp[Tr.AY]at h
  ·rename_i vs D;split at h
   ·rename_i x F;obtain⟨hb,h⟩:=Z1x h;simp only[Tr.AY]at h;subst h;obtain⟨z,A⟩:=Shape.uD C F hb;refine⟨?_,A⟩;rw[D];simp only[AU,z]
   ·simp[Tr.AY]at h
  ·simp[Tr.AY]at h
 rw[<- key.1,<- key.2];exact J
def EU (E:Env) (M:IU U) (A:Nat->Option Lay) (f:FuncId) (fn:Func) (q:Nat) (D:D9 U->Tr U (SV U.Ty×BF U)):Nat->WA->List Fr->D9 U->Bool->Tr U (Vm U)
 | 0,_,_,_,_=>.fail
 | n+1,.run c,K,st,sk=>
  match c with
  | .skip=>EU E M A f fn q D n .nxt K st sk
  | .region id ops draw=>
   let z:Tr U (Vm U):=if draw then (if E.calm f id then (uU E M ops st).andThen fun st' =>EU E M A f fn q D n .nxt K st' false else .fail)
    else (opsT E M ops (List.range ops.size) st).andThen fun st' =>EU E M A f fn q D n .nxt K st' false
   match sk with
   | true=>z
   | false=>match A id with
    | none=>z
    | some l=>(layT q l st).andThen fun st' =>.leaf (.jump (.region id ops draw) K st')
  | .seq a b=>EU E M A f fn q D n (.run a) (.seq b::K) st sk
  | .cond c a b=>match Cm E st.s c with
   | .lit (.bool true)=>EU E M A f fn q D n (.run a) K st sk
   | .lit (.bool false)=>EU E M A f fn q D n (.run b) K st sk
   | .sb t=>.br t (EU E M A f fn q D n (.run a) K st sk) (EU E M A f fn q D n (.run b) K st sk)
   | _=>.fail
  | .block id b=>EU E M A f fn q D n (.run b) (.blk id::K) st sk
  | .loop b=>EU E M A f fn q D n (.run b) (.loop b::K) st sk
  | .scope b=>EU E M A f fn q D n (.run b) K st sk
  | .label _=>EU E M A f fn q D n .nxt K st sk
  | .exit id=>EU E M A f fn q D n (.exit id) K st sk
  | .ret=>EU E M A f fn q D n .ret K st sk
  | _=>.fail
 | n+1,.nxt,[],st,_=>(D st).andThen fun v=>.leaf (.done v)
 | n+1,.nxt,.seq c::K,st,sk=>EU E M A f fn q D n (.run c) K st sk
 | n+1,.nxt,.blk _::K,st,sk=>EU E M A f fn q D n .nxt K st sk
 | n+1,.nxt,.loop b::K,st,sk=>EU E M A f fn q D n (.run b) (.loop b::K) st sk
 | n+1,.exit id,.blk i::K,st,sk=>if id=i then EU E M A f fn q D n .nxt K st sk else EU E M A f fn q D n (.exit id) K st sk
 | n+1,.exit id,_::K,st,sk=>EU E M A f fn q D n (.exit id) K st sk
 | n+1,.exit _,[],_,_=>.fail
 | n+1,.ret,[],st,_=>(D st).andThen fun v=>.leaf (.done v)
 | n+1,.ret,_::K,st,sk=>EU E M A f fn q D n .ret K st sk
theorem ZBV {E:Env} {M:IU U} {A:Nat->Option Lay} {call:Dn} (S:D6 U E) (hM:NY U M call) {f:FuncId} {fn:Func} {J:Nat} {D:D9 U->Tr U (SV U.Ty×BF U)} {Z:St->V×Heap->Prop} (hD:∀st s,(D st).AY s->Z (CZ U st) (AU U s.1,BM U s.2)) {r:V×Heap}:∀(n:Nat) (F:WA) (K:List Fr) (st:D9 U) (sk:Bool) (l:Vm U),
  (EU E M A f fn J D n F K st sk).AY l->ZzV call E f fn J Z l r->DV call E f fn J Z F K (CZ U st) r:=by
 intro n;induction n with
 | zero=>intro F K st sk l h;simp[EU,Tr.AY]at h
 | succ n z=>
  intro F K st sk l h q;cases F with
  | run c=>
   cases c with
   | skip=>exact .skip (z _ _ _ _ _ h q)
   | region id ops draw=>
    simp only[EU]at h;have go:(if draw=true then (if E.calm f id=true then (uU E M ops st).andThen fun st' =>EU E M A f fn J D n .nxt K st' false else .fail)
      else (opsT E M ops (List.range ops.size) st).andThen fun st' =>EU E M A f fn J D n .nxt K st' false:Tr U (Vm U)).AY l->DV call E f fn J Z (.run (.region id ops draw)) K (CZ U st) r:=by
     intro I;cases draw with
     | true=>
      simp only[if_true]at I
      by_cases hc:E.calm f id=true
      ·rw[if_pos hc,EI]at I;obtain⟨N,G,O⟩:=I;exact .draw hc (ZAW S hM G) (z _ _ _ _ _ O q)
      ·rw[if_neg hc]at I;simp[Tr.AY]at I
     | false=>
      simp only[Bool.false_eq_true,if_false]at I;rw[EI]at I;obtain⟨N,G,O⟩:=I;exact .region (ZC4 S hM G) (z _ _ _ _ _ O q)
    cases sk with
    | true=>exact go h
    | false=>
     simp only at h;split at h
     ·exact go h
     ·rename_i l' hA;simp only[EI,Tr.AY]at h;obtain⟨N,ht,rfl⟩:=h;obtain⟨ids,as,H2,G,O,h3⟩:=ZCB S ht;have Q : DV call E f fn J Z (.run (.region id ops draw)) K (CZ U N) r:=q;rw[h3]at Q;exact .Zfs G O Q
   | seq a b=>exact .seq (z _ _ _ _ _ h q)
   | cond c a b=>
    simp only[EU]at h;have C:ev E (CZ U st).s c=AU U (Cm E st.s c):=Fb E st.s c;split at h
    ·rename_i hc;rw[hc]at C;exact .cond (t:=true) C (z _ _ _ _ _ h q)
    ·rename_i hc;rw[hc]at C;exact .cond (t:=false) C (z _ _ _ _ _ h q)
    ·rename_i t hc;rw[hc]at C;simp only[Tr.AY]at h;rcases h with ⟨rfl,h⟩|⟨rfl,h⟩
     ·exact .cond (t:=true) C (z _ _ _ _ _ h q)
     ·exact .cond (t:=false) C (z _ _ _ _ _ h q)
    ·simp[Tr.AY]at h
   | block id b=>exact .block (z _ _ _ _ _ h q)
   | loop b=>exact .loop (z _ _ _ _ _ h q)
   | scope b=>exact .scope (z _ _ _ _ _ h q)
   | label l=>exact .label (z _ _ _ _ _ h q)
   | exit id=>exact .exit (z _ _ _ _ _ h q)
   | ret=>exact .ret (z _ _ _ _ _ h q)
   | _=>simp[EU,Tr.AY]at h
  | nxt=>
   cases K with
   | nil=>
    simp only[EU,EI,Tr.AY]at h;obtain⟨v,G,rfl⟩:=h;have:r=(AU U v.1,BM U v.2):=q;rw[this];exact .finN (hD _ _ G)
   | cons x K=>
    cases x with
    | seq c=>exact .nseq (z _ _ _ _ _ h q)
    | blk i=>exact .nblk (z _ _ _ _ _ h q)
    | loop b=>exact .Zfl (z _ _ _ _ _ h q)
  | exit id=>
   cases K with
   | nil=>simp[EU,Tr.AY]at h
   | cons x K=>
    cases x with
    | seq c=>exact .eseq (z _ _ _ _ _ h q)
    | blk i=>
     simp only[EU]at h;split at h
     ·rename_i Y;subst Y;exact .eblk (z _ _ _ _ _ h q)
     ·rename_i Y;exact .ZfA Y (z _ _ _ _ _ h q)
    | loop b=>exact .Zfm (z _ _ _ _ _ h q)
  | ret=>
   cases K with
   | nil=>
    simp only[EU,EI,Tr.AY]at h;obtain⟨v,G,rfl⟩:=h;have:r=(AU U v.1,BM U v.2):=q;rw[this];exact .finR (hD _ _ G)
   | cons x K=>exact .rany (z _ _ _ _ _ h q)
theorem ZbQ {R P:Type} {E:Env} {M:IU U} {A:Nat->Option Lay} {call:Dn} (Y:D6 U E) (S:NY U M call) {f:FuncId} {fn:Func} {J:Nat} {D:D9 U->Tr U (SV U.Ty×BF U)} {Z:St->V×Heap->Prop} (Q:∀st s,(D st).AY s->Z (CZ U st) (AU U s.1,BM U s.2))
  {out:R->SV U.Ty×BF U} {N:Nat} (T:P->Tr U (R⊕P)) (z:P->Ac U)
  (h:∀p,EU E M A f fn J D N (.run (z p).c) (z p).K (z p).st (z p).sk=(T p).map (TA out z)) {p:P} {r:R} (I:AV T p=some r) :
  DV call E f fn J Z (.run (z p).c) (z p).K (CZ U (z p).st) (AU U (out r).1,BM U (out r).2):=by
 obtain⟨n,G⟩:=Z2w I;clear I;induction n generalizing p r with
 | zero=>cases G
 | succ n ih=>
  obtain⟨l,O,C⟩:=ZdU G;have F:=ZAV (g:=TA out z) O;rw[<- h p]at F;refine ZBV Y S Q N _ _ _ _ _ F ?_;cases l with
  | inl a=>
   simp only[Hl,Option.some.injEq]at C;subst C;rfl
  | inr q=>exact ih C
end
def spot {U:CY} (c:Code) (p:List Nat) (n:Nat) (keep:List Nat) (e:List (SV U.Ty)×BF U):Ac U:=⟨(QD c p []).1,(QD c p []).2,⟨spread .und n keep e.1,e.2⟩,true⟩
theorem Zdw {U:CY} {P:Program} {gl:Nat->Option (List V)} {f:FuncId} {mods:FuncId->Option (Af U)} {hmods:FuncId->List FuncId->Option (HMod U)} {E0:Env} (J:E0.Ee=gl) (D:D6 U (EV P gl f mods hmods)) (G:P.follows .mixedOrders=true) {fn:Func} {c:Code}
  (O:∀g m,mods g=some m->Ae P E0 g m) (F:∀g k m,hmods g k=some m->Dy P E0 g m) (M:P.funcs[f]? = some fn) (z:(fn.name == "runtime.NumGoroutine")=false) (hb:fn.body=some c) (q:Ed (EV P gl f mods hmods) f c=true) (m:Af U)
  {I:Type} {A:Nat->Option Lay} {N:Nat} (T:I->Tr U (U.Ty m.rt⊕I)) (C:I->Ac U)
  (h:∀p,EU (EV P gl f mods hmods) (Qv mods hmods) A f fn 0 (iJ (EV P gl f mods hmods) fn) N (.run (C p).c) (C p).K (C p).st (C p).sk=(T p).map (TA (vO m.rt) C))
  (b0:F8 U m.ts->I) (hm:∀x,m.fn x=AV T (b0 x)) (Q:∀x,C (b0 x)=⟨c,[],gG m.ts x fn.ntmps,false⟩):Ae P E0 f m:=by
 refine fn_ok J D G O F M z hb q m fun x a S=>?_;rw[hm]at S;have:=ZbQ D (Zff D) (fun st s Y=>ZAu D Y) T C h S;rw[Q]at this;simp only[vO,D.encS]at this;exact this
theorem ZyE {U:CY} {P:Program} {gl:Nat->Option (List V)} {f:FuncId} {mods:FuncId->Option (Af U)} {hmods:FuncId->List FuncId->Option (HMod U)} {E0:Env} (J:E0.Ee=gl) (I:D6 U (EV P gl f mods hmods)) (F:P.follows .mixedOrders=true) {fn:Func} {c:Code}
  (O:∀g m,mods g=some m->Ae P E0 g m) (D:∀g k m,hmods g k=some m->Dy P E0 g m) (M:P.funcs[f]? = some fn) (z:(fn.name == "runtime.NumGoroutine")=false) (hb:fn.body=some c) (q:Ed (EV P gl f mods hmods) f c=true) (m:HMod U)
  {fa:List (List Fk)} {fb:List Bf} {k:Nat} (Y:∀x:m.D5.X U,(m.D5.enc x).2.length=k) {G:Type} {A:Nat->Option Lay} {N:Nat} (T:G->Tr U (U.Ty m.ky⊕G)) (C:G->Ac U)
  (h:∀p,EU (EV P gl f mods hmods) (Qv mods hmods) A f fn k (uO (EV P gl f mods hmods) fn fa fb k m.Jb m.one) N (.run (C p).c) (C p).K (C p).st (C p).sk=(T p).map (TA m.out C))
  (b0:m.D5.X U->G) (hm:∀x:m.D5.X U,m.fn x=AV T (b0 x)) (Q:∀x:m.D5.X U,C (b0 x)=⟨c,[],fZ (m.D5.enc x) fn.ntmps,false⟩):Dy P E0 f m:=by
 refine ZFc J I F O D M z hb q m Y (fa:=fa) (fb:=fb) fun x y S=>?_;rw[hm]at S;have:=ZbQ I (Zff I) (fun st s hs=>ZBu I hs) T C h S;rw[Q]at this;exact this
end Go.Proofs.YtjodhcdmhobmoaaGreatDoor.Le
