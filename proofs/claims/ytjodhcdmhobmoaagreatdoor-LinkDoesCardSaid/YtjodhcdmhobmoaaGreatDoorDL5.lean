/- A part of it. -/
import Derived.Test.YtjodhcdmhobmoaaGreatDoorDL4
set_option linter.unusedVariables false
set_option linter.unusedSimpArgs false
namespace Go.Proofs.YtjodhcdmhobmoaaGreatDoor.Le
section
variable {U:Cc}
mutual
def Gn:SV U.Ty->List Nat
 | .all id _=>[id]
 | .Bc id _ _ _=>[id]
 | .ptr id _ _ _=>[id]
 | .agg cs=>PL cs
 | .BL cs=>PL cs
 | .Og cs=>PL cs
 | .fn _ a b=>PL a++PL b
 | .raw v=>EO v
 | _=>[]
def PL:List (SV U.Ty)->List Nat
 | []=>[]
 | x::xs=>Gn x++PL xs
end
mutual
def F5 (q:Nat->Nat):SV U.Ty->SV U.Ty
 | .all id n=>.all (q id) n
 | .Bc id off len tot=>.Bc (q id) off len tot
 | .ptr id i off tot=>.ptr (q id) i off tot
 | .agg cs=>.agg (NM q cs)
 | .BL cs=>.BL (NM q cs)
 | .Og cs=>.Og (NM q cs)
 | .fn f a b=>.fn f (NM q a) (NM q b)
 | .raw v=>.raw (FT q v)
 | v=>v
def NM (q:Nat->Nat):List (SV U.Ty)->List (SV U.Ty)
 | []=>[]
 | x::xs=>F5 q x::NM q xs
end
mutual
theorem Zcc:∀x:SV U.Ty,EO (AU U x)=Gn x
 | .all _ _=>by simp only[AU,EO,Gn]
 | .Bc _ _ _ _=>by simp only[AU,EO,Gn]
 | .ptr _ _ _ _=>by simp only[AU,EO,Gn]
 | .agg cs=>by simp only[AU,EO,Gn];exact Rz cs
 | .BL cs=>by simp only[AU,EO,Gn];exact Rz cs
 | .Og cs=>by simp only[AU,EO,Gn];exact Rz cs
 | .fn _ a b=>by simp only[AU,EO,Gn];rw[Rz a,Rz b]
 | .raw v=>by simp only[AU,Gn]
 | .lit _=>by simp only[AU,EO,Gn]
 | .si _ _=>by simp only[AU,EO,Gn]
 | .sb _=>by simp only[AU,EO,Gn]
 | .ss _=>by simp only[AU,EO,Gn]
 | .nil _=>by simp only[AU,EO,Gn]
 | .sl _ _=>by simp only[AU,EO,Gn]
 | .Ce _ _=>by simp only[AU,EO,Gn]
 | .CG _ _ _ _=>by simp only[AU,EO,Gn]
 | .Td _ _ _=>by simp only[AU,EO,Gn]
 | .no=>by simp only[AU,EO,Gn]
 | .und=>by simp only[AU,EO,Gn]
theorem Rz:∀xs:List (SV U.Ty),Dc (Au U xs)=PL xs
 | []=>rfl
 | x::xs=>by simp only[Au,Dc,PL];rw[Zcc x,Rz xs]
end
mutual
theorem qW (q:Nat->Nat):∀x:SV U.Ty,AU U (F5 q x)=FT q (AU U x)
 | .all _ _=>by simp only[AU,FT,F5]
 | .Bc _ _ _ _=>by simp only[AU,FT,F5]
 | .ptr _ _ _ _=>by simp only[AU,FT,F5]
 | .agg cs=>by simp only[AU,FT,F5];rw[Oy q cs]
 | .BL cs=>by simp only[AU,FT,F5];rw[Oy q cs]
 | .Og cs=>by simp only[AU,FT,F5];rw[Oy q cs]
 | .fn _ a b=>by simp only[AU,FT,F5];rw[Oy q a,Oy q b]
 | .raw v=>by simp only[AU,F5]
 | .lit _=>by simp only[AU,FT,F5]
 | .si _ _=>by simp only[AU,FT,F5]
 | .sb _=>by simp only[AU,FT,F5]
 | .ss _=>by simp only[AU,FT,F5]
 | .nil _=>by simp only[AU,FT,F5]
 | .sl _ _=>by simp only[AU,FT,F5]
 | .Ce _ _=>by simp only[AU,FT,F5]
 | .CG _ _ _ _=>by simp only[AU,FT,F5]
 | .Td _ _ _=>by simp only[AU,FT,F5]
 | .no=>by simp only[AU,FT,F5]
 | .und=>by simp only[AU,FT,F5]
theorem Oy (q:Nat->Nat):∀xs:List (SV U.Ty),Au U (NM q xs)=Gg q (Au U xs)
 | []=>rfl
 | x::xs=>by simp only[Au,Gg,NM];rw[qW q x,Oy q xs]
end
def retS (e sz:Nat) (H:BH U):SV U.Ty->Tr U (SV U.Ty×BH U)
 | .nil _=>.when (U.Ar e=sz) (.leaf (.sl e [],H))
 | y=>.leaf (y,H)
def Su:Fk->BH U->SV U.Ty->Tr U (SV U.Ty×BH U)
 | .s e sz,H,x=>(NQ H x).andThen fun y=>retS e sz (Pj H (OZ x)) y
 | .own e sz,H,x=>(match x with
  | .nil _=>.when (U.Ar e=sz) (.leaf (.all H.length 0,H++[.row e [] none]))
  | .all id n=>.leaf (.all id n,H)
  | _=>.fail)
 | .keep,H,x=>.leaf (x,H)
 | .drop,H,_=>.leaf (.und,H)
def Sz:List Fk->BH U->List (SV U.Ty)->Tr U (List (SV U.Ty)×BH U)
 | [],H,[]=>.leaf ([],H)
 | f::fs,H,x::xs=>(Su f H x).andThen fun r=>(Sz fs r.2 xs).andThen fun q=>.leaf (r.1::q.1,q.2)
 | _,_,_=>.fail
def sV (fl:List Fk) (H:BH U) (x:SV U.Ty):Tr U (SV U.Ty×BH U):=
 match x with
 | .agg cs=>(Sz fl H cs).andThen fun r=>.leaf (.agg r.1,r.2)
 | .raw _=>.fail
 | x=>match fl with
  | [f]=>Su f H x
  | _=>.fail
def TF:List (List Fk)->BH U->List (SV U.Ty)->Tr U (List (SV U.Ty)×BH U)
 | [],H,[]=>.leaf ([],H)
 | f::fs,H,x::xs=>(sV f H x).andThen fun r=>(TF fs r.2 xs).andThen fun q=>.leaf (r.1::q.1,q.2)
 | _,_,_=>.fail
def PY:Nat->List Bf->BH U->List Nat->List Nat->Tr U (BH U×List Nat)
 | 0,_,_,_,_=>.fail
 | _+1,_,H,[],seen=>.leaf (H,seen)
 | n+1,fb,H,id::q,seen=>
  if seen.contains id then PY n fb H q seen else
  match H[id]?,fb with
  | some (.row _ _ none),.row true::z =>PY n z H q (seen++[id])
  | some (.row _ _ _),.row false::z =>PY n z (Pj H [id]) q (seen++[id])
  | some (.var _ _ x),.var fl::z =>(sV fl H x).andThen fun r=>(match r.2[id]? with
    | some (.var e m _)=>.when (okS r.1=true) (PY n z (r.2.set id (.var e m r.1)) (q++Gn r.1) (seen++[id]))
    | _=>.fail)
  | _,_=>.fail
def rM (q:Nat->Nat):MP U.Ty->MP U.Ty
 | .var e n x=>.var e n (F5 q x)
 | .fvar e n x=>.fvar e n (F5 q x)
 | b=>b
def V6 (H:BH U) (ids:List Nat):BH U:=ids.map fun id=>rM (ids.idxOf ·) ((H[id]?).getD .dead)
def Vb (fa:List (List Fk)) (fb:List Bf) (k:Nat) (args:List (SV U.Ty)) (H:BH U):Tr U (List Nat×List (SV U.Ty)×BH U):=
 (TF fa H args).andThen fun r=>(PY 1000 fb r.2 (List.range k++PL r.1) []).andThen fun q=>.leaf (q.2,r.1,q.1)
def fM:BH U->List Nat->BH U->BH U
 | H,[],q=>H++q
 | H,id::ids,b::q=>fM (H.set id b) ids q
 | H,_::_,[]=>H
def dP (H:BH U) (ids:List Nat) (q:BH U):BH U:=fM H ids (q.map (rM (JK ids H.length)))
theorem ZAZ {e sz:Nat} {H:BH U} {y:SV U.Ty} {r:SV U.Ty×BH U} (h:(retS e sz H y).AZ r) (C:∀v,y≠.raw v):AU U r.1=Gm sz (AU U y)/\r.2=H:=by
 unfold retS at h;split at h
 ·simp only[E8,Tr.AZ]at h;obtain⟨A,rfl⟩:=h;simp[AU,Gm,A]
 ·simp only[Tr.AZ]at h;subst h;refine⟨?_,rfl⟩;cases y with
  | nil z =>rename_i q;exact absurd rfl (q z)
  | raw v=>exact absurd rfl (C v)
  | _=>simp[AU,Gm]
theorem ZwZ {H:BH U} {x y:SV U.Ty} (h:(NQ H x).AZ y):∀v,y≠.raw v:=by
 intro v D;subst D;unfold NQ at h;split at h<;>(try (simp[Tr.AZ]at h;done))
 ·obtain⟨t,xs,fl,z,A,q,C⟩:=Gy h;simp[Tr.AZ]at q
 ·obtain⟨t,xs,fl,z,A,q,C⟩:=Gy h;simp[Tr.AZ]at q
theorem ZbZ {f:Fk} {H:BH U} {x:SV U.Ty} {r:SV U.Ty×BH U} (h:(Su f H x).AZ r):Hq f (BO U H) (AU U x)=some (AU U r.1,BO U r.2):=by
 cases f with
 | s e sz=>
  simp only[Su,EL]at h;obtain⟨y,q,C⟩:=h;obtain⟨z,A⟩:=ZAZ C (ZwZ q);simp only[Hq,Z3e q,Option.map_some,z,A];rw[ZcO,VI H _ (Z2g q)]
 | own e sz=>
  simp only[Su]at h;split at h
  ·simp only[E8,Tr.AZ]at h;obtain⟨D,rfl⟩:=h;simp[Hq,fJ,AU,BO,CU,Bg,D]
  ·simp only[Tr.AZ]at h;subst h;simp[Hq,fJ,AU]
  ·simp[Tr.AZ]at h
 | keep=>
  simp only[Su,Tr.AZ]at h;subst h;rfl
 | drop=>
  simp only[Su,Tr.AZ]at h;subst h;rfl
theorem Zyg:∀{fl:List Fk} {H:BH U} {xs:List (SV U.Ty)} {r:List (SV U.Ty)×BH U},(Sz fl H xs).AZ r->Hr fl (BO U H) (Au U xs)=some (Au U r.1,BO U r.2):=by
 intro fl;induction fl with
 | nil=>
  intro H xs r h;cases xs with
  | nil=>simp only[Sz,Tr.AZ]at h;subst h;rfl
  | cons=>simp[Sz,Tr.AZ]at h
 | cons f fl C=>
  intro H xs r h;cases xs with
  | nil=>simp[Sz,Tr.AZ]at h
  | cons x xs=>
   simp only[Sz,EL,Tr.AZ]at h;obtain⟨p,z,q,A,rfl⟩:=h;simp only[Au,Hr,ZbZ z,C A]
theorem ZbY {fl:List Fk} {H:BH U} {x:SV U.Ty} {r:SV U.Ty×BH U} (h:(sV fl H x).AZ r):Jh fl (BO U H) (AU U x)=some (AU U r.1,BO U r.2):=by
 unfold sV at h;split at h
 ·rename_i cs;simp only[EL,Tr.AZ]at h;obtain⟨p,q,rfl⟩:=h;simp only[AU,Jh,Zyg q,Option.map_some]
 ·simp[Tr.AZ]at h
 ·rename_i A C;split at h
  ·rename_i f;have q:=ZbZ h;unfold Jh;split
   ·rename_i cs z;exfalso;cases x<;>simp_all [AU]
   ·exact q
  ·simp[Tr.AZ]at h
theorem ZxR:∀{fl:List (List Fk)} {H:BH U} {xs:List (SV U.Ty)} {r:List (SV U.Ty)×BH U},(TF fl H xs).AZ r->IG fl (BO U H) (Au U xs)=some (Au U r.1,BO U r.2):=by
 intro fl;induction fl with
 | nil=>
  intro H xs r h;cases xs with
  | nil=>simp only[TF,Tr.AZ]at h;subst h;rfl
  | cons=>simp[TF,Tr.AZ]at h
 | cons f fl C=>
  intro H xs r h;cases xs with
  | nil=>simp[TF,Tr.AZ]at h
  | cons x xs=>
   simp only[TF,EL,Tr.AZ]at h;obtain⟨p,z,q,A,rfl⟩:=h;simp only[Au,IG,ZbY z,C A]
theorem ZwK:∀{n:Nat} {fb:List Bf} {H:BH U} {q seen:List Nat} {r:BH U×List Nat},(PY n fb H q seen).AZ r->Jf n fb (BO U H) q seen=some (BO U r.1,r.2):=by
 intro n;induction n with
 | zero=>intro fb H q seen r h;simp[PY,Tr.AZ]at h
 | succ n D=>
  intro fb H q seen r h;cases q with
  | nil=>simp only[PY,Tr.AZ]at h;subst h;rfl
  | cons id q=>
   unfold PY at h;unfold Jf
   by_cases C:seen.contains id=true
   ·rw[if_pos C]at h ⊢;exact D h
   ·rw[if_neg C]at h ⊢;rw[Lr];split at h
    ·rename_i t xs A hb;rw[hb];simp only[Option.map_some,CU,Bool.and_self,if_true];exact D h
    ·rename_i t xs fl A hb;rw[hb];simp only[Option.map_some,CU,Bool.and_self,if_true,Bool.false_eq_true,if_false];rw[<- VI H [id] (fun i I=>by simp at I;subst I;exact⟨t,xs,fl,hb⟩)];exact D h
    ·rename_i e m x fl A hb;rw[hb];simp only[EL]at h;obtain⟨p,J,z⟩:=h;simp only[Option.map_some,CU,Bg,Bool.not_false,Bool.and_self,if_true,ZbY J,Lr];split at z
     ·rename_i M N O F;simp only[E8]at z;obtain⟨G,z⟩:=z;rw[F];simp only[Option.map_some,CU,Bg,PS G,if_true];have:=D z;rw[PR]at this;simp only[CU,Bg]at this;rw[Zcc];exact this
     ·simp[Tr.AZ]at z
    ·simp[Tr.AZ]at h
theorem rG {fa:List (List Fk)} {fb:List Bf} {k:Nat} {args:List (SV U.Ty)} {H:BH U} {r:List Nat×List (SV U.Ty)×BH U} (h:(Vb fa fb k args H).AZ r):pack fa fb k (Au U args) (BO U H)=some (r.1,Au U r.2.1,BO U r.2.2):=by
 simp only[Vb,EL,Tr.AZ]at h;obtain⟨p,z,q,A,rfl⟩:=h;simp only[pack,ZxR z,Rz,ZwK A]
theorem Z7U (q:Nat->Nat) (b:MP U.Ty):CU U (rM q b)=Fv q (CU U b):=by
 cases b<;>simp[rM,CU,Fv,Bg,Q9,Gg,qW]
theorem pR (H:BH U) (ids:List Nat):BO U (V6 H ids)=Ii (BO U H) ids:=by
 simp only[BO,V6,Ii,List.map_map];apply List.map_congr_left;intro id _;simp only[Function.comp,Z7U];congr 1;rw[List.getElem?_map];cases H[id]?<;>rfl
theorem Zyc:∀(H:BH U) (ids:List Nat) (q:BH U),BO U (fM H ids q)=Pq (BO U H) ids (BO U q):=by
 intro H ids;induction ids generalizing H with
 | nil=>intro q;simp[fM,Pq,BO]
 | cons id ids z=>
  intro q;cases q with
  | nil=>rfl
  | cons b q=>
   simp only[fM,z,PR];rfl
theorem Zpp (H:BH U) (ids:List Nat) (q:BH U):BO U (dP H ids q)=OH (BO U H) ids (BO U q):=by
 simp only[dP,OH,Zyc];congr 1;simp only[BO,List.map_map];apply List.map_congr_left;intro b _;simp[Function.comp,Z7U]
def VX:List (SV U.Ty)->List FuncId
 | []=>[]
 | .fn f _ _::vs=>f::VX vs
 | .raw v::vs=>MF [v]++VX vs
 | _::vs=>VX vs
theorem Zwm (v:V) (vs:List V):MF (v::vs)=MF [v]++MF vs:=by
 cases v<;>simp[MF]
theorem Zvj:∀(vs:List (SV U.Ty)),MF (Au U vs)=VX vs:=by
 intro vs;induction vs with
 | nil=>rfl
 | cons v vs q=>
  simp only[Au];rw[Zwm,q];cases v<;>simp[AU,MF,VX]
end
end Go.Proofs.YtjodhcdmhobmoaaGreatDoor.Le
namespace Go.Proofs.YtjodhcdmhobmoaaGreatDoor.Le
open Go.RowKit (Below)
structure Zex (k:Nat) (ids:List Nat) (st st' : St):Prop where
 nodup:ids.Nodup
 pre:ids.take k=List.range k
 len:st'.H.length=ids.length
 heap:∀(j id:Nat),ids[j]? = some id->∃b b',st.H[id]? = some b/\b.live=true/\st'.H[j]? = some b' /\ b'.live=true/\b'.row=b.row/\(b'.EZ=true->b.EZ=true)/\b'.elem=b.elem/\b'.Ar=b.Ar /\
  (b.floor<=b'.floor\/b'.floor=b'.xs.length)/\b'.floor<=b'.xs.length/\(b.row=true->b'.xs=b.xs)/\(b.row=false->b'.xs=Gg (ids.idxOf ·) b.xs/\∀r∈Dc b.xs,r∈ids)
 slen:st'.s.length=st.s.length
 slots:∀(i:Nat) (v' : V),st'.s[i]? = some v' -> v' = .und\/∃v,st.s[i]? = some v/\v' = FT (ids.idxOf ·) v/\∀r∈EO v,r∈ids
theorem Zau {σ:Sg} {w:World}:∀{xs:List V} {vs:List Value},xs.length=vs.length->(∀(i:Nat) (x:V) (v:Value),xs[i]? = some x->vs[i]? = some v->AQ σ w [x] [v])->AQ σ w xs vs:=by
 intro xs;induction xs with
 | nil=>intro vs q _;cases vs with|nil=>exact .nil|cons=>simp at q
 | cons x xs C=>
  intro vs q h;cases vs with
  | nil=>simp at q
  | cons v vs=>exact AQ.FC.2 ⟨h 0 x v rfl rfl,C (by simpa using q) (fun i y u z A=>h (i+1) y u (by simpa using z) (by simpa using A))⟩
theorem ZB7 {E:Env} {B:Nat} {w0:Start} {σ:Sg} {st st' : St} {a:Act} {w:World} {k:Nat} {ids:List Nat} (N:Zex k ids st st') (h:Ew E B w0 σ st a w):Ew E B w0 (σ.ren ids) st' a w:=by
 have z:∀{j:Nat} {L:Loc},(σ.ren ids).box j=some L->∃id,ids[j]? = some id/\σ.box id=some L:=by
  intro j L I;simp only[Sg.ren]at I;cases hj:ids[j]? with
  | none=>simp[hj]at I
  | some id=>simp only[hj,Option.bind_some]at I;exact⟨id,rfl,I⟩
 have M:∀{j:Nat} {J : Box},st'.H[j]? = some J -> ∃id,ids[j]? = some id:=by
  intro j J hb;have hlt:=(List.getElem?_eq_some_iff.1 hb).1;rw[N.len]at hlt;exact⟨ids[j],List.getElem?_eq_getElem hlt⟩
 refine⟨⟨h.inv.below,h.inv.size,?_,?_,?_,h.inv.cells,?_,?_,h.inv.old,fun b hb=>?_⟩,h.Ef.bare (fun b c hh=>⟨hh,rfl⟩) (EP.refl _),?_,h.calm⟩
 ·intro j L I;obtain⟨id,h1,h2⟩:=z I;obtain⟨b,J,_,_,q1,q2,_⟩:=N.heap j id h1;exact⟨J,q1,q2⟩
 ·intro j J hb hl;obtain⟨id,C⟩:=M hb;obtain⟨b,b2,p1,p2,Q,p4,p5,p6,p7,p8,p9,p10,D,F⟩:=N.heap j id C;rw[hb]at Q;cases Q;obtain⟨L,I,A⟩:=h.inv.boxes id b p1 p2;obtain⟨us,r1,r2,r3,r4⟩:=A.Dh;refine⟨L,by simp[Sg.ren,C,I],?_⟩;have G:J.xs.length=b.xs.length:=by
   cases q:b.row with
   | true=>rw[D q]
   | false=>rw[(F q).1,Z0Q]
  have Y:AQ (σ.ren ids) w J.xs us:=by
   cases q:b.row with
   | true=>rw[D q];exact r1.bare (fun b c hh=>⟨hh,rfl⟩) (EP.refl _) ((J6 _).2 (A.Hl q))
   | false=>rw[(F q).1];exact dO r1 (F q).2
  refine⟨by rw[G];exact A.tot,⟨us,Y,r2,r3,by rw[p7,G];exact r4⟩,fun hn=>A.EZ (p6 hn),by rw[p8];exact A.Ar,?_,?_⟩
  ·intro x O;cases q:b.row with
   | true=>rw[D q]at O;exact A.oks x O
   | false=>
    rw[(F q).1,Z2p]at O;obtain⟨y,hy,rfl⟩:=List.mem_map.1 O;rw[Zdq];exact A.oks y hy
  ·intro q x O;rw[p5]at q;rw[D q]at O;exact A.Hl q x O
 ·intro j j' b1 b2 L1 L2 g h1 h2 l1 l2 s1 s2 g1 g2;obtain⟨i1,e1,t1⟩:=z s1;obtain⟨i2,e2,t2⟩:=z s2;obtain⟨c1,_,p1,p2,_⟩:=N.heap j i1 e1;obtain⟨c2,_,q1,q2,_⟩:=N.heap j' i2 e2;have:=h.inv.apart i1 i2 c1 c2 L1 L2 g p1 q1 p2 q2 t1 t2 g1 g2;subst this;exact Z2B N.nodup e1 e2
 ·intro b c hc j J L hb hl I hg;obtain⟨id,C,S⟩:=z I;obtain⟨b0,b2,p1,p2,Q,p4,p5,p6,p7,p8,p9,p10,D,F⟩:=N.heap j id C;rw[hb]at Q;cases Q;have:=h.inv.floor b c hc id b0 L p1 p2 S hg;have G:J.xs.length=b0.xs.length:=by
   cases q:b0.row with
   | true=>rw[D q]
   | false=>rw[(F q).1,Z0Q]
  have hle:b0.floor<=J.floor:=by
   rcases p9 with p9|p9
   ·exact p9
   ·rw[p9,G];exact h.inv.low id b0 p1 p2
  exact Nat.lt_of_lt_of_le this (Nat.mul_le_mul_right _ hle)
 ·intro j J hb hl;obtain⟨id,C⟩:=M hb;obtain⟨b0,b2,p1,p2,Q,p4,p5,p6,p7,p8,p9,p10,D,F⟩:=N.heap j id C;rw[hb]at Q;cases Q;exact p10
 ·obtain⟨k1,k2,k3,k4⟩:=h.inv.kept b hb;refine⟨k1,k2,fun j L I hg=>?_,k4⟩;obtain⟨id,C,S⟩:=z I;exact k3 id L S hg
 ·refine Zau (by rw[N.slen];exact h.slots.length) (fun i x v O hv=>?_);rcases N.slots i x O with rfl|⟨y,hy,rfl,hc⟩
  ·exact .und _ .nil
  ·obtain⟨u,hu,q⟩:=h.slots.get hy;rw[hv]at hu;cases hu;exact dO q (by simpa[Dc]using hc)
def spread {α:Type} (u:α) (n:Nat):List Nat->List α->List α
 | k::ks,v::vs=>(spread u n ks vs).set k v
 | _,_=>List.replicate n u
theorem Zn9 {α:Type} (u:α) (n:Nat):∀(ks:List Nat) (vs:List α),(spread u n ks vs).length=n:=by
 intro ks;induction ks with
 | nil=>intro vs;simp[spread]
 | cons k ks q=>intro vs;cases vs<;>simp[spread,q]
theorem ZvC {α:Type} (u:α) (n:Nat):∀(ks:List Nat) (vs:List α) (i:Nat) (x:α),(spread u n ks vs)[i]? = some x->x=u\/∃j:Nat,ks[j]? = some i/\vs[j]? = some x:=by
 intro ks;induction ks with
 | nil=>
  intro vs i x h;simp only[spread,List.getElem?_replicate]at h;split at h
  ·exact .inl (Option.some.inj h).symm
  ·cases h
 | cons k ks C=>
  intro vs i x h;cases vs with
  | nil=>
   simp only[spread,List.getElem?_replicate]at h;split at h
   ·exact .inl (Option.some.inj h).symm
   ·cases h
  | cons v vs=>
   simp only[spread,List.getElem?_set]at h;split at h
   ·rename_i A;subst A;split at h
    ·exact .inr ⟨0,rfl,h⟩
    ·cases h
   ·rcases C vs i x h with h|⟨j,q,z⟩
    ·exact .inl h
    ·exact .inr ⟨j+1,q,z⟩
theorem Zuh {α z:Type} (g:α->z) (u:α) (n:Nat):∀(ks:List Nat) (vs:List α),(spread u n ks vs).map g=spread (g u) n ks (vs.map g):=by
 intro ks;induction ks with
 | nil=>intro vs;simp[spread]
 | cons k ks q=>intro vs;cases vs<;>simp[spread,List.map_set,q]
theorem Zys {σ:Sg} {w:World} {xs:List V} {vs:List Value} (h:AQ σ w xs vs):∀keep:List Nat,AQ σ w (keep.map fun i=>xs.getD i .und) (keep.map fun i=>vs.getD i undef):=by
 intro keep;induction keep with
 | nil=>exact .nil
 | cons i keep C=>
  simp only[List.map_cons];refine AQ.FC.2 ⟨?_,C⟩;cases q:xs[i]? with
  | none=>simp only[List.getD,q,Option.getD_none];exact .und _ .nil
  | some x=>
   obtain⟨v,A,z⟩:=h.get q;simp only[List.getD,q,A,Option.getD_some];exact z
theorem Zzk {E:Env} {B:Nat} {w0:Start} {σ:Sg} {st:St} {a:Act} {w:World} {k:Nat} {fa:List (List Fk)} {fb:List Bf} {keep ids:List Nat} {as:List V} {F:Heap} (O:pack fa fb k (keep.map fun i=>st.s.getD i .und) st.H=some (ids,as,F))
  (h:Ew E B w0 σ st a w):∃z,Ext σ w z w/\Ew E B w0 (z.ren ids) ⟨spread .und st.s.length keep (Gg (ids.idxOf ·) as),Ii F ids⟩ a w:=by
 obtain⟨S,hm,_,z,q,A,D⟩:=Z3i h.inv (Zys h.slots keep) O;have C:=Z40 q S w0 q.below q.old (fun b hb=>by
  obtain⟨k1,k2,k3,k4⟩:=q.kept b hb;exact⟨k1,k2,fun id _ L M=>k3 id L M,k4⟩)
 refine⟨z,A,C,(h.Ef.ext A).bare (fun b c N=>⟨N,rfl⟩) (EP.refl _),?_,h.calm⟩;refine Zau (by rw[Zn9];exact h.slots.length) (fun i x v hx Y=>?_);rcases ZvC _ _ _ _ i x hx with rfl|⟨j,I,J⟩
 ·exact .und _ .nil
 ·obtain⟨u,G,Q⟩:=(dO D hm).get J;simp only[List.getElem?_map,I,Option.map_some,List.getD,Y,Option.getD_some,Option.some.injEq]at G;subst G;exact Q
inductive Vw where
 | run (c:Code)|nxt|exit (id:Nat)|ret
inductive Fr where
 | seq (c:Code)|blk (id:Nat)|loop (b:Code)
def Ny:List (List Nat)->List V->List V
 | es::rs,v::vs=>Dz es v::Ny rs vs
 | [],vs=>vs
 | _,[]=>[]
def Q7 (rs:List (List Nat)):V->V
 | .BL vs=>.BL (Ny rs vs)
 | v=>Dz (rs.headD []) v
inductive DY (call:Dn) (E:Env) (f:FuncId) (fn:Func) (k:Nat) (Z:St->V×Heap->Prop):Vw->List Fr->St->V×Heap->Prop where
 | skip {K st r}:DY call E f fn k Z .nxt K st r->DY call E f fn k Z (.run .skip) K st r
 | region {id ops K st st' r}:MN call E ops (List.range ops.size) st=some st' -> DY call E f fn k Z .nxt K st' r->DY call E f fn k Z (.run (.region id ops false)) K st r
 | draw {id ops K st st' r}:E.calm f id=true->TL call E ops st=some st' -> DY call E f fn k Z .nxt K st' r->DY call E f fn k Z (.run (.region id ops true)) K st r
 | seq {a b K st r}:DY call E f fn k Z (.run a) (.seq b::K) st r->DY call E f fn k Z (.run (.seq a b)) K st r
 | cond {c a b t K st r}:ev E st.s c = .lit (.bool t)->DY call E f fn k Z (.run (if t then a else b)) K st r->DY call E f fn k Z (.run (.cond c a b)) K st r
 | block {id b K st r}:DY call E f fn k Z (.run b) (.blk id::K) st r->DY call E f fn k Z (.run (.block id b)) K st r
 | loop {b K st r}:DY call E f fn k Z (.run b) (.loop b::K) st r->DY call E f fn k Z (.run (.loop b)) K st r
 | scope {b K st r}:DY call E f fn k Z (.run b) K st r->DY call E f fn k Z (.run (.scope b)) K st r
 | label {l K st r}:DY call E f fn k Z .nxt K st r->DY call E f fn k Z (.run (.label l)) K st r
 | exit {id K st r}:DY call E f fn k Z (.exit id) K st r->DY call E f fn k Z (.run (.exit id)) K st r
 | ret {K st r}:DY call E f fn k Z .ret K st r->DY call E f fn k Z (.run .ret) K st r
 | nseq {c K st r}:DY call E f fn k Z (.run c) K st r->DY call E f fn k Z .nxt (.seq c::K) st r
 | nblk {id K st r}:DY call E f fn k Z .nxt K st r->DY call E f fn k Z .nxt (.blk id::K) st r
 | Zez {b K st r}:DY call E f fn k Z (.run b) (.loop b::K) st r->DY call E f fn k Z .nxt (.loop b::K) st r
 | eseq {id c K st r}:DY call E f fn k Z (.exit id) K st r->DY call E f fn k Z (.exit id) (.seq c::K) st r
 | Zes {id b K st r}:DY call E f fn k Z (.exit id) K st r->DY call E f fn k Z (.exit id) (.loop b::K) st r
 | eblk {id K st r}:DY call E f fn k Z .nxt K st r->DY call E f fn k Z (.exit id) (.blk id::K) st r
 | Zep {id i K st r}:id≠i->DY call E f fn k Z (.exit id) K st r->DY call E f fn k Z (.exit id) (.blk i::K) st r
 | rany {x K st r}:DY call E f fn k Z .ret K st r->DY call E f fn k Z .ret (x::K) st r
 | finN {st r}:Z st r->DY call E f fn k Z .nxt [] st r
 | finR {st r}:Z st r->DY call E f fn k Z .ret [] st r
 | tidy {ctl K ids st st' r}:Zex k ids st st' -> DY call E f fn k Z ctl K st' r->DY call E f fn k Z ctl K st r
 | Zey {ctl K fa fb keep ids as H2 st r}:pack fa fb k (keep.map fun i=>st.s.getD i .und) st.H=some (ids,as,H2)->ids.take k=List.range k->DY call E f fn k Z ctl K ⟨spread .und st.s.length keep (Gg (ids.idxOf ·) as),Ii H2 ids⟩ r->DY call E f fn k Z ctl K st r
def LoopIn (P:Program) (b:Code) (Q:Exit->Act->World->Prop) (a:Act) (w:World):Prop:=
 ∀z k cs,∃e q w',Q e q w' /\ Arrives P (lone (z.at a (.code b :: .inLoop b::k)) cs w) z k cs e q w'
theorem LoopIn.of {P:Program} {b:Code} {Q:Exit->Act->World->Prop} {a:Act} {w:World} (h:b.wp P (Exit.then (LoopIn P b Q) Q) a w):LoopIn P b Q a w:=by
 intro M k cs;obtain⟨e,z,A,F,q⟩:=h M (.inLoop b::k) cs;cases e with
 | normal=>
  obtain⟨I,G,J,D,C⟩:=F M k cs;exact⟨I,G,J,D,.of_steps (Steps.trans q (.one step_inLoop)) C⟩
 | exit id=>exact⟨_,z,A,F,.pass (x:=.inLoop b) rfl (fun _ _=>.inl (by simp)) q⟩
 | goto l=>exact⟨_,z,A,F,.pass (x:=.inLoop b) rfl (fun _ _=>.inl (by simp)) q⟩
 | ret=>exact⟨_,z,A,F,.pass (x:=.inLoop b) rfl (fun _ _=>.inl (by simp)) q⟩
 | panic N=>exact⟨_,z,A,F,.pass (x:=.inLoop b) rfl (fun _ _=>.inl (by simp)) q⟩
 | outgrown=>exact⟨_,z,A,F,.pass (x:=.inLoop b) rfl (fun _ _=>.inl (by simp)) q⟩
theorem LoopIn.wp {P:Program} {b:Code} {Q:Exit->Act->World->Prop} {a:Act} {w:World} (h:LoopIn P b Q a w):(Code.loop b).wp P Q a w:=by
 intro A k cs;obtain⟨e,z,w',C,q⟩:=h A k cs;exact⟨e,z,w',C,.of_steps (.one step_loop) q⟩
def QK (P:Program) (Z:Act->World->Prop):List Fr->Exit->Act->World->Prop
 | [],.normal,a,w=>Z a w
 | [],.ret,a,w=>Z a w
 | [],_,_,_=>False
 | .seq c::K,e,a,w=>Exit.then (c.wp P (QK P Z K)) (QK P Z K) e a w
 | .blk id::K,e,a,w=>Exit.inBlock id (QK P Z K) e a w
 | .loop b::K,e,a,w=>Exit.then (LoopIn P b (QK P Z K)) (QK P Z K) e a w
theorem rW {P:Program} {Z:Act->World->Prop} {l:Nat} {a:Act} {w:World}:∀K:List Fr,QK P Z K (.goto l) a w->False
 | [],h=>h
 | .seq _::K,h=>rW K h
 | .blk _::K,h=>rW K h
 | .loop _::K,h=>rW K h
def Z4b (P:Program) (Z:Act->World->Prop) (K:List Fr) (a:Act) (w:World):Vw->Prop
 | .run c=>c.wp P (QK P Z K) a w
 | .nxt=>QK P Z K .normal a w
 | .exit id=>QK P Z K (.exit id) a w
 | .ret=>QK P Z K .ret a w
def eG (E:Env) (f:FuncId):Vw->Bool
 | .run c=>Ed E f c
 | _=>true
def MK (E:Env) (f:FuncId):List Fr->Bool
 | []=>true
 | .seq c::K=>Ed E f c&&MK E f K
 | .loop c::K=>Ed E f c&&MK E f K
 | .blk _::K=>MK E f K
theorem Zo6 {σ w}:∀(rs:List (List Nat)) {xs:List V} {vs:List Value},AQ σ w xs vs->AQ σ w (Ny rs xs) vs:=by
 intro rs;induction rs with
 | nil=>intro xs vs h;simpa[Ny]using h
 | cons r rs A=>
  intro xs vs h;cases xs with
  | nil=>simpa[Ny]using h
  | cons x xs=>
   obtain⟨v,C,rfl,q,z⟩:=h.Dw;exact AQ.FC.2 ⟨Rw _ q,A z⟩
theorem ZoX {σ w x v} (rs:List (List Nat)) (h:AQ σ w [x] [v]):AQ σ w [Q7 rs x] [v]:=by
 unfold Q7;split
 ·cases h with
  | BL q _=>exact .BL (Zo6 rs q) .nil
 ·exact Rw _ h
theorem ZlV:∀(rs:List (List Nat)) (xs:List V),Bz (Ny rs xs)=Bz xs:=by
 intro rs;induction rs with
 | nil=>intro xs;simp[Ny]
 | cons r rs q=>intro xs;cases xs<;>simp[Ny,Bz,Ro,q]
theorem Z8g (rs:List (List Nat)) (x:V) (h:CW x=true):CW (Q7 rs x)=true:=by
 unfold Q7;split
 ·simpa[CW,ZlV]using h
 ·rw[Ro];exact h
def Zp (E:Env) (fn:Func) (st:St) (r:V×Heap):Prop:=∃q z,KU E st.H st.s fn.results.toList=some q/\JL st.H q=some z/\r=(Q7 (fn.resultTypes.toList.map E.rows) z,[])
def Zh (E:Env) (fn:Func) (fa:List (List Fk)) (fb:List Bf) (k:Nat) (st:St) (r:V×Heap):Prop:=∃q,KU E st.H st.s fn.results.toList=some q/\uT fa fb k q st.H=some r
def Fin (P:Program) (fn:Func) (B:Nat) (w0:Start) (r:V×Heap) (a:Act) (w:World):Prop:=
 a.defers=[]/\∃u q,(results fn a.tmps).run P w = .ok u w/\Below B w0.w w/\(∀b c,w0.fz b c->q b c)/\(∀b c,q b c->b<B->w0.fz b c)/\(∀b c,q b c->∃u,w.cell? ⟨b,c,none⟩=some u)/\AQ (bare q) w [r.1] [u]/\CW r.1=true
def FinH (P:Program) (fn:Func) (B:Nat) (w0:Start) (σ0:Sg) (ws:World) (r:V×Heap) (a:Act) (w:World):Prop:=
 a.defers=[]/\∃u σ',(results fn a.tmps).run P w = .ok u w/\Inv B w0 σ' r.2 w/\Ext σ0 ws σ' w/\AQ σ' w [r.1] [u]
structure Ob (k:Nat) (σ:Sg) (w:World) (σ' : Sg) (w' : World):Prop where
 box:∀id L,id<k->σ.box id=some L->∃L',σ'.box id=some L' /\ L'.Ar=L.Ar/\(L' = L\/L.tot<L'.tot)
 fz:∀b c,σ.fz b c->σ'.fz b c/\w'.cell? ⟨b,c,none⟩=w.cell? ⟨b,c,none⟩
 mp:EP w w'
theorem Ext.k {k:Nat} {σ w σ' w'} (h:Ext σ w σ' w'):Ob k σ w σ' w' :=⟨fun id L _ q=>h.box id L q,h.fz,h.mp⟩
theorem Ob.trans {k:Nat} {σ w σ' w' σ'' w''} (h:Ob k σ w σ' w') (g:Ext σ' w' σ'' w''):Ob k σ w σ'' w'' :=by
 refine⟨fun id L I G=>?_,fun b c hc=>?_,h.mp.trans g.mp⟩
 ·obtain⟨z,D,F,h3⟩:=h.box id L I G;obtain⟨q,k1,k2,k3⟩:=g.box id z D;refine⟨q,k1,k2.trans F,?_⟩;rcases h3 with rfl|h3
  ·exact k3
  ·rcases k3 with rfl|k3
   ·exact .inr h3
   ·exact .inr (Nat.lt_trans h3 k3)
 ·obtain⟨A,C⟩:=h.fz b c hc;obtain⟨b1,b2⟩:=g.fz b c A;exact⟨b1,b2.trans C⟩
theorem ZtV {ids:List Nat} {k j:Nat} (h:ids.take k=List.range k) (q:j<k):ids[j]? = some j:=by
 have:(ids.take k)[j]? = some j:=by rw[h];simp[q]
 rw[List.getElem?_take]at this;simpa[q]using this
theorem Ob.ren {k:Nat} {σ w σ' w'} {ids:List Nat} (h:Ob k σ w σ' w') (F:ids.take k=List.range k):Ob k σ w (σ'.ren ids) w' :=by
 refine⟨fun id L q D=>?_,h.fz,h.mp⟩;obtain⟨z,A,C⟩:=h.box id L q D;exact⟨z,by simp only[Sg.ren,ZtV F q,Option.bind_some];exact A,C⟩
section
variable {P:Program} {E:Env} {B:Nat} {w0:Start} {call:Dn} {f:FuncId} {fn:Func}
theorem ZEt (N:Cf E) (O:E.P=P) {σ:Sg} {st:St} {a:Act} {w:World} {r:V×Heap} (h:Ew E B w0 σ st a w) (D:∀b c,w0.fz b c->σ.fz b c) (hz:Zp E fn st r):Fin P fn B w0 r a w:=by
 obtain⟨I,r1,S,J,rfl⟩:=hz;obtain⟨u,Y,z⟩:=pI (P:=P) N O h.inv h.slots S;obtain⟨C,A⟩:=h.inv.freeze (O9 I);have G:=Z2H h.inv z J (O9 I) (fun i Q=>Q);have M:=Z27 h.inv z J;refine⟨h.calm,u,(σ.freeze st.H (O9 I)).fz,Y,C.below,fun b c q=>(A.fz b c (D b c q)).1,fun b c q F=>C.old b c q F,C.cells,?_,Z8g _ _ M⟩;exact AQ.bare (ZoX _ G) (fun b c q=>⟨q,rfl⟩) (EP.refl _) (by simp[Bz,Z8g _ _ M])
theorem ZBc (hE:Cf E) (hP:E.P=P) {fa:List (List Fk)} {fb:List Bf} {k:Nat} {σ0:Sg} {ws:World} (h0:∀id L,σ0.box id=some L->id<k) {σ:Sg} {st:St} {a:Act} {w:World} {r:V×Heap} (h:Ew E B w0 σ st a w) (hx:Ob k σ0 ws σ w)
  (hz:Zh E fn fa fb k st r):FinH P fn B w0 σ0 ws r a w:=by
 obtain⟨r0,hr,q⟩:=hz;obtain⟨u,Y,G⟩:=pI (P:=P) hE hP h.inv h.slots hr;have key:∀{args as:List V} {vs:List Value} {ids:List Nat} {A:Heap},AQ σ w args vs->pack fa fb k args st.H=some (ids,as,A)->ids.take k=List.range k ->
   ∃σ',Inv B w0 σ' (Ii A ids) w/\Ext σ0 ws σ' w/\AQ σ' w (Gg (ids.idxOf ·) as) vs:=by
  intro args as vs ids A N D C;obtain⟨hs,hm,_,σ1,z,J,M⟩:=Z3i h.inv N D;have F:=Z40 z hs w0 z.below z.old (fun b hb=>by
   obtain⟨k1,k2,k3,k4⟩:=z.kept b hb;exact⟨k1,k2,fun id _ L I=>k3 id L I,k4⟩)
  refine⟨_,F,?_,dO M hm⟩;have:=(hx.trans J).ren C;exact⟨fun id L I=>this.box id L (h0 id L I) I,this.fz,this.mp⟩
 refine⟨h.calm,u,?_⟩;unfold uT at q;split at q
 ·rename_i vs;split at q
  ·rename_i ids as A D;split at q
   ·rename_i C;simp only[Option.some.injEq]at q;subst q;cases G with
    | BL h1 _=>
     obtain⟨σ',O,Q,S⟩:=key h1 D C;exact⟨σ',Y,O,Q,.BL S .nil⟩
   ·cases q
  ·cases q
 ·split at q
  ·rename_i ids x A D;split at q
   ·rename_i C;simp only[Option.some.injEq]at q;subst q;obtain⟨σ',O,Q,S⟩:=key G D C;exact⟨σ',Y,O,Q,S⟩
   ·cases q
  ·cases q
theorem Zdy (hE:Cf E) (hP:E.P=P) (D:JH P E B w0 call) (J:OC E call) {k:Nat} {Z:St->V×Heap->Prop} {F:V×Heap->Act->World->Prop} {σ0:Sg} {ws:World}
  (hZ:∀st r σ a w,Z st r->Ew E B w0 σ st a w->Ob k σ0 ws σ w->F r a w) {ctl:Vw} {K:List Fr} {st:St} {r:V×Heap} (h:DY call E f fn k Z ctl K st r) :
  eG E f ctl=true->MK E f K=true->∀(σ:Sg) (a:Act) (w:World),Ew E B w0 σ st a w->Ob k σ0 ws σ w->Z4b P (F r) K a w ctl:=by
 induction h with
 | skip h C=>intro hc q σ a w z A;exact wp_skip (C rfl q σ a w z A)
 | region hs h C=>
  intro hc q σ a w z A;exact wp_region (ZdP hE hP D _ _ σ a w z hs (fun Q w' σ' M I =>C rfl q σ' Q w' M (A.trans I)))
 | draw G hs h C=>
  intro hc q σ a w z A;refine Zdv hE hP (by rw[<- hP];exact hE.mix) D J ?_ z hs (fun Q w' σ' M I =>C rfl q σ' Q w' M (A.trans I));simpa[eG,Ed,G]using hc
 | seq h C=>
  intro hc q σ a w z A;simp only[eG,Ed,Bool.and_eq_true]at hc;exact wp_seq (C hc.1 (by simp[MK,hc.2,q]) σ a w z A)
 | cond S h C=>
  rename_i c x y t K st r;intro hc q σ a w z A;simp only[eG,Ed,Bool.and_eq_true]at hc;have hv:=EY (a:=a) z.Ef z.slots c;rw[S]at hv;have hb:a.eval c = .bool t:=by generalize a.eval c=v at hv;cases hv;rfl
  refine wp_cond hb ?_;refine C ?_ q σ a w z A;cases t
  ·exact hc.2
  ·exact hc.1
 | block h C=>
  intro hc q σ a w z A;exact wp_block (C hc q σ a w z A)
 | loop h C=>
  intro hc q σ a w z A;simp only[eG,Ed]at hc;exact(LoopIn.of (C hc (by simp[MK,hc,q]) σ a w z A)).wp
 | scope h C=>
  intro hc q σ a w z A;have Y:=C hc q σ a w z A;refine wp_scope_straight (wp_mono Y fun e Q w' hq=>?_);cases e with
  | goto l=>exact(rW _ hq).elim
  | _=>exact hq
 | label h C=>intro hc q σ a w z A;exact wp_label (C rfl q σ a w z A)
 | exit h C=>intro hc q σ a w z A;exact wp_exit (C rfl q σ a w z A)
 | ret h C=>intro hc q σ a w z A;exact wp_ret (C rfl q σ a w z A)
 | nseq h C=>
  intro hc q σ a w z A;simp only[MK,Bool.and_eq_true]at q;exact C q.1 q.2 σ a w z A
 | nblk h C=>intro hc q σ a w z A;exact C rfl q σ a w z A
 | Zez h C=>
  intro hc q σ a w z A;have N :=q;simp only[MK,Bool.and_eq_true]at N;exact LoopIn.of (C N.1 q σ a w z A)
 | eseq h C=>
  intro hc q σ a w z A;simp only[MK,Bool.and_eq_true]at q;exact C rfl q.2 σ a w z A
 | Zes h C=>
  intro hc q σ a w z A;simp only[MK,Bool.and_eq_true]at q;exact C rfl q.2 σ a w z A
 | eblk h C=>
  intro hc q σ a w z A;have:=C rfl q σ a w z A;simp only[Z4b,QK,Exit.inBlock,if_true];exact this
 | Zep hne h C=>
  intro hc q σ a w z A;have:=C rfl q σ a w z A;simp only[Z4b,QK,Exit.inBlock,hne,if_false];exact this
 | rany h C=>
  rename_i x K st r;intro hc q σ a w z A;have:MK E f K=true:=by cases x<;>simp_all [MK]
  have:=C rfl this σ a w z A;cases x<;>exact this
 | finN hz=>intro hc q σ a w z A;exact hZ _ _ σ a w hz z A
 | finR hz=>intro hc q σ a w z A;exact hZ _ _ σ a w hz z A
 | tidy S h C=>intro hc q σ a w z A;exact C hc q _ a w (ZB7 S z) (A.ren S.pre)
 | Zey hp O h C=>
  intro hc q σ a w z A;obtain⟨σ1,Y,h2⟩:=Zzk hp z;exact C hc q _ a w h2 ((A.trans Y).ren O)
end
end Go.Proofs.YtjodhcdmhobmoaaGreatDoor.Le
namespace Go.Proofs.YtjodhcdmhobmoaaGreatDoor.Le
open Go.RowKit (Below)
section
variable {U:Cc}
def VS:List Bool->Bool
 | []=>true
 | [b]=>b
 | b::q=>b&&VS q
theorem Zbp:∀{l:List Bool},VS l=true->∀b∈l,b=true:=by
 intro l;induction l with
 | nil=>intro _ b hb;simp at hb
 | cons x xs q=>
  intro h b hb;cases xs with
  | nil=>simp only[VS]at h;simp only[List.mem_singleton]at hb;rw[hb];exact h
  | cons y ys=>
   simp only[VS,Bool.and_eq_true]at h;rcases List.mem_cons.1 hb with hb|hb
   ·rw[hb];exact h.1
   ·exact q h.2 b hb
def resT (E:Env) (H:BH U) (s:List (SV U.Ty)):ResultVar->Tr U (SV U.Ty)
 | .tmp t=>.leaf (s.getD t .und)
 | .cell a t=>loadT E H t (s.getD a .und)
def Vd (E:Env) (H:BH U) (s:List (SV U.Ty)):List ResultVar->Tr U (List (SV U.Ty))
 | []=>.leaf []
 | r::rs=>(resT E H s r).andThen fun v=>(Vd E H s rs).andThen fun vs=>.leaf (v::vs)
def TC:List Nat->List (SV U.Ty)->Option (List (SV U.Ty))
 | [],[]=>some []
 | t::ts,w::ws=>match U.Gv t w,TC ts ws with|some a,some r=>some (U.encS t a::r)|_,_=>none
 | _,_=>none
def Z4e (E:Env) (fn:Func) (st:Df U):Tr U (SV U.Ty):=
 (Vd E st.H st.s fn.results.toList).andThen fun vs=>
  match vs,fn.resultTypes.toList with
  | [v],[t]=>(Qx st.H v).andThen fun w=>(match U.Gv t w with|some a=>.leaf (U.encS t a)|none=>.fail)
  | vs,ts=>.when (vs.length≠1) ((PM st.H vs).andThen fun ws=>(match TC ts ws with|some es=>.leaf (.BL es)|none=>.fail))
theorem Zd7 {E:Env} (A:D9 U E) {st:Df U}:∀{rs:List ResultVar} {vs:List (SV U.Ty)},(Vd E st.H st.s rs).AZ vs->rs.mapM (resD E (CX U st).H (CX U st).s)=some (Au U vs):=by
 intro rs;induction rs with
 | nil=>intro vs h;simp only[Vd,Tr.AZ]at h;subst h;rfl
 | cons r rs D=>
  intro vs h;simp only[Vd,EL,Tr.AZ]at h;obtain⟨v,q,ws,z,rfl⟩:=h;have C:resD E (CX U st).H (CX U st).s r=some (AU U v):=by
   cases r with
   | tmp t=>
    simp only[resT,Tr.AZ]at q;subst q;exact congrArg some (VD st.s t)
   | cell a t=>
    simp only[resD];rw[show (CX U st).s.getD a .und=AU U (st.s.getD a .und) from VD st.s a];exact ZcY A q
  rw[List.mapM_cons,C,D z];rfl
theorem Zx7 {E:Env} (q:D9 U E):∀{ts:List Nat} {ws es:List (SV U.Ty)},TC ts ws=some es->Ny (ts.map E.rows) (Au U ws)=Au U es:=by
 intro ts;induction ts with
 | nil=>
  intro ws es h;cases ws with
  | nil=>simp only[TC,Option.some.injEq]at h;subst h;rfl
  | cons=>simp[TC]at h
 | cons t ts C=>
  intro ws es h;cases ws with
  | nil=>simp[TC]at h
  | cons w ws=>
   simp only[TC]at h;split at h
   ·rename_i a r z A;simp only[Option.some.injEq]at h;subst h;simp only[List.map_cons,Au,Ny,q.dec _ _ _ z,q.encS,C A]
   ·cases h
theorem ZBg {H:Heap} {x y:V} (h:Hz H x=some y):∀vs,y≠.BL vs:=by
 intro vs z;subst z;unfold Hz at h;split at h
 ·rename_i cs;cases q:JB H cs<;>simp[q]at h
 ·unfold Hu at h;split at h<;>(try (cases h;done))<;>(try (split at h<;>(try (split at h))<;>cases h))
theorem Zzj {E:Env} (A:D9 U E) {fn:Func} {st:Df U} {v:SV U.Ty} (h:(Z4e E fn st).AZ v) :
  ∃J M,KU E (CX U st).H (CX U st).s fn.results.toList=some J/\JL (CX U st).H J=some M/\Q7 (fn.resultTypes.toList.map E.rows) M=AU U v:=by
 unfold Z4e at h;simp only[EL]at h;obtain⟨vs,O,h⟩:=h;have hm:=Zd7 A O;split at h
 ·rename_i N t G;simp only[EL]at h;obtain⟨w,D,h⟩:=h;split at h
  ·rename_i a Q;simp only[Tr.AZ]at h;subst h;have C:Hz (CX U st).H (AU U N)=some (AU U w):=rV D;refine⟨AU U N,AU U w,by simp only[KU,hm,Au],?_,?_⟩
   ·unfold JL;split
    ·rename_i us q;rw[q]at C;simp[Hz,Hu]at C
    ·exact C
   ·rw[G];unfold Q7;split
    ·rename_i us q;exact absurd q (ZBg C us)
    ·simp only[List.map_cons,List.headD_cons,A.dec _ _ _ Q,A.encS]
  ·simp[Tr.AZ]at h
 ·rename_i Y vs ts I;simp only[E8,EL]at h;obtain⟨S,ws,D,h⟩:=h;split at h
  ·rename_i es F;simp only[Tr.AZ]at h;subst h;refine⟨.BL (Au U Y),.BL (Au U ws),?_,?_,?_⟩
   ·simp only[KU,hm];split
    ·rename_i x z;simp only[Option.some.injEq]at z;exfalso;apply S;have:=congrArg List.length z;rw[IV]at this;simpa using this
    ·rename_i z;simp only[Option.some.injEq]at z;rw[<- z]
    ·rename_i z;cases z
   ·simp only[JL,CX,Z26 D,Option.map_some]
   ·simp only[Q7,Zx7 A F,AU]
  ·simp[Tr.AZ]at h
def fG (E:Env) (fn:Func) (st:Df U):Tr U (SV U.Ty×BH U):=(Z4e E fn st).andThen fun v=>.leaf (v,[])
def Z4l (E:Env) (fn:Func) (fa:List (List Fk)) (fb:List Bf) (k:Nat) (st:Df U):Tr U (SV U.Ty×BH U):=
 (Vd E st.H st.s fn.results.toList).andThen fun vs=>
  match vs with
  | [.BL _]=>.fail
  | [.raw _]=>.fail
  | [v]=>(Vb fa fb k [v] st.H).andThen fun r=>(match r.2.1 with
   | [a]=>.when (r.1.take k=List.range k) (.leaf (F5 (r.1.idxOf ·) a,V6 r.2.2 r.1))
   | _=>.fail)
  | vs=>.when (vs.length≠1) ((Vb fa fb k vs st.H).andThen fun r=>.when (r.1.take k=List.range k) (.leaf (.BL (NM (r.1.idxOf ·) r.2.1),V6 r.2.2 r.1)))
theorem ZA3 {E:Env} (D:D9 U E) {fn:Func} {st:Df U} {r:SV U.Ty×BH U} (h:(fG E fn st).AZ r):Zp E fn (CX U st) (AU U r.1,BO U r.2):=by
 simp only[fG,EL,Tr.AZ]at h;obtain⟨v,C,rfl⟩:=h;obtain⟨F,G,q,z,A⟩:=Zzj D C;exact⟨F,G,q,z,by rw[A];rfl⟩
theorem ZzB {E:Env} (N:D9 U E) {fn:Func} {fa:List (List Fk)} {fb:List Bf} {k:Nat} {st:Df U} {r:SV U.Ty×BH U} (h:(Z4l E fn fa fb k st).AZ r):Zh E fn fa fb k (CX U st) (AU U r.1,BO U r.2):=by
 simp only[Z4l,EL]at h;obtain⟨vs,M,h⟩:=h;have hm:=Zd7 N M;split at h
 ·simp[Tr.AZ]at h
 ·simp[Tr.AZ]at h
 ·rename_i v D F;simp only[EL]at h;obtain⟨p,I,h⟩:=h;split at h
  ·rename_i a O;simp only[E8,Tr.AZ]at h;obtain⟨C,rfl⟩:=h;have q :=rG I;rw[O]at q;refine⟨AU U v,by simp only[KU,hm,Au],?_⟩;have G:∀cs,AU U v≠.BL cs:=by
    intro cs z;cases v with
    | BL vs=>exact D vs rfl
    | raw x=>exact F x rfl
    | _=>simp[AU]at z
   unfold uT;split
   ·rename_i cs z;exact absurd z (G cs)
   ·simp only[Au]at q;simp only[CX,q];rw[if_pos C,qW,pR]
  ·simp[Tr.AZ]at h
 ·rename_i J;simp only[E8,EL,Tr.AZ]at h;obtain⟨Q,p,I,C,rfl⟩:=h;have q :=rG I;refine⟨.BL (Au U vs),?_,?_⟩
  ·simp only[KU,hm];split
   ·rename_i x A;simp only[Option.some.injEq]at A;exfalso;apply Q;have:=congrArg List.length A;rw[IV]at this;simpa using this
   ·rename_i A;simp only[Option.some.injEq]at A;rw[<- A]
   ·rename_i A;cases A
  ·simp only[uT,CX,q];rw[if_pos C,pR];simp only[AU,Oy]
inductive Vr (U:Cc) where
 | done (v:SV U.Ty×BH U)
 | jump (c:Code) (K:List Fr) (st:Df U)
def ZzI (call:Dn) (E:Env) (f:FuncId) (fn:Func) (q:Nat) (Z:St->V×Heap->Prop):Vr U->V×Heap->Prop
 | .done s,v=>v=(AU U s.1,BO U s.2)
 | .jump c K st,v=>DY call E f fn q Z (.run c) K (CX U st) v
end
end Go.Proofs.YtjodhcdmhobmoaaGreatDoor.Le
namespace Go.Proofs.YtjodhcdmhobmoaaGreatDoor.Le
inductive Pc where
 | v (t n:Nat) (agg:Bool)
 | own (e j:Nat)
 | ptr (j:Nat)
 | fn (f:FuncId) (a b:List Nat)
 | no
 | und
 | iD (ptr:Bool)
inductive Sp where
 | one (c:Pc)
 | agg (cs:List Pc)
inductive Pb where
 | var (e m:Nat) (p:Sp)
 | row (t:Nat) (fresh:Bool)
structure Shape where
 args:List Sp
 boxes:List Pb
abbrev Sp.cells:Sp->List Pc
 | .one c=>[c]
 | .agg cs=>cs
section
variable (U:Cc)
@[reducible] def PX:List Pc->Type
 | []=>Unit
 | .v t _ _::ps=>U.Ty t×PX ps
 | _::ps=>PX ps
@[reducible] def AX:List Sp->Type
 | []=>Unit
 | p::ps=>PX U p.cells×AX ps
@[reducible] def BX:List Pb->Type
 | []=>Unit
 | .var _ _ p::q=>PX U p.cells×BX q
 | .row t _::q=>List (U.Ty t)×BX q
@[reducible] def Shape.X (s:Shape):Type:=AX U s.args×BX U s.boxes
variable {U}
def Iu:(q:List Pb)->BX U q->List Nat
 | [],_=>[]
 | .var _ _ _::q,x=>1::Iu q x.2
 | .row _ _::q,x=>x.1.length::Iu q x.2
def gW (j:Nat):SV U.Ty:=.ptr j 0 0 1
def nulS:Bool->SV U.Ty
 | true=>.lit (.pointer none)
 | false=>.lit .nilFunc
def Z4j:Bool->SV U.Ty->Bool
 | true,.lit (.pointer none)=>true
 | false,.lit .nilFunc=>true
 | _,_=>false
theorem ZAm {b:Bool} {c:SV U.Ty} (h:Z4j b c=true):c=nulS b:=by
 unfold Z4j at h;split at h<;>first|rfl|cases h
def EK (ls:List Nat):(ps:List Pc)->PX U ps->List (SV U.Ty)
 | [],_=>[]
 | .v t _ _::ps,x=>cellsS (U.encS t x.1)++EK ls ps x.2
 | .own _ j::ps,x=>.all j (ls.getD j 0)::EK ls ps x
 | .ptr j::ps,x=>gW j::EK ls ps x
 | .fn f a b::ps,x=>.fn f (a.map gW) (b.map gW)::EK ls ps x
 | .no::ps,x=>.no::EK ls ps x
 | .und::ps,x=>.und::EK ls ps x
 | .iD b::ps,x=>nulS b::EK ls ps x
def I4 (ls:List Nat):(p:Sp)->PX U p.cells->SV U.Ty
 | .one c,x=>(EK ls [c] x).headD .und
 | .agg cs,x=>.agg (EK ls cs x)
def JM (ls:List Nat):(ps:List Sp)->AX U ps->List (SV U.Ty)
 | [],_=>[]
 | p::ps,x=>I4 ls p x.1::JM ls ps x.2
def Hw (ls:List Nat):(q:List Pb)->BX U q->BH U
 | [],_=>[]
 | .var e m p::q,x=>.var e m (I4 ls p x.1)::Hw ls q x.2
 | .row t fresh::q,x=>.row t x.1 (if fresh then none else some x.1.length)::Hw ls q x.2
def Shape.enc (s:Shape) (x:s.X U):List (SV U.Ty)×BH U:=(JM (Iu s.boxes x.2) s.args x.1,Hw (Iu s.boxes x.2) s.boxes x.2)
def PW:SV U.Ty->Bool
 | .nil _ | .raw _ | .agg _ | .BL _ | .Og _ | .Td ..=>false
 | _=>true
def TB:List Nat->List (SV U.Ty)->Bool
 | [],[]=>true
 | j::q,.ptr i a b c::xs=>decide (i=j/\a=0/\b=0/\c=1)&&TB q xs
 | _,_=>false
def V8 (H:BH U):List Nat:=H.map fun b=>match b with | .row _ xs _=>xs.length|_=>1
def F8 (ls:List Nat):(ps:List Pc)->List (SV U.Ty)->Option (PX U ps×List Bool)
 | [],cs=>if cs.isEmpty then some ((),[]) else none
 | .v t n true::ps,cs=>if (cs.take n).length=n/\(cs.take n).all PW=true then
   (match U.Gv t (.agg (cs.take n)),F8 ls ps (cs.drop n) with
    | some a,some r=>some ((a,r.1),r.2)
    | _,_=>none) else none
 | .v t _ false::ps,c::cs=>if PW c then
   (match U.Gv t c,F8 ls ps cs with
    | some a,some r=>some ((a,r.1),r.2)
    | _,_=>none) else none
 | .own _ j::ps,.all i n::cs=>if i=j then (F8 ls ps cs).map fun r=>(r.1,(ls.getD j 0==n)::r.2) else none
 | .ptr j::ps,.ptr i a b c::cs=>if i=j/\a=0/\b=0/\c=1 then F8 ls ps cs else none
 | .fn f a b::ps,.fn g q z :: cs=>if g=f/\TB a q = true/\TB b z = true then F8 ls ps cs else none
 | .no::ps,.no::cs=>F8 ls ps cs
 | .und::ps,.und::cs=>F8 ls ps cs
 | .iD b::ps,c::cs=>if Z4j b c=true then F8 ls ps cs else none
 | _::_,_=>none
def uJ (ls:List Nat):(p:Sp)->SV U.Ty->Option (PX U p.cells×List Bool)
 | .one c,x=>F8 ls [c] [x]
 | .agg cs,.agg xs=>F8 ls cs xs
 | _,_=>none
def Vk (ls:List Nat):(ps:List Sp)->List (SV U.Ty)->Option (AX U ps×List Bool)
 | [],[]=>some ((),[])
 | p::ps,x::xs=>(match uJ ls p x,Vk ls ps xs with
  | some a,some r=>some ((a.1,r.1),a.2++r.2)
  | _,_=>none)
 | _,_=>none
def RD (ls:List Nat):(q:List Pb)->BH U->Option (BX U q×List Bool)
 | [],[]=>some ((),[])
 | .var e m p::q,.var z A x::H=>if z = e/\A = m then
   (match uJ ls p x,RD ls q H with
    | some a,some r=>some ((a.1,r.1),a.2++r.2)
    | _,_=>none) else none
 | .row t fresh::q,.row C xs fl::H=>if h:C = t then
   (match fresh,fl,RD ls q H with
    | true,none,some r=>some ((h▸xs,r.1),r.2)
    | false,some n,some r=>some ((h▸xs,r.1),(n==xs.length)::r.2)
    | _,_,_=>none) else none
 | _,_=>none
def Shape.dec (s:Shape) (as:List (SV U.Ty)) (H:BH U):Option (s.X U×List Bool):=
 match Vk (V8 H) s.args as,RD (V8 H) s.boxes H with
 | some a,some b=>some ((a.1,b.1),a.2++b.2)
 | _,_=>none
theorem Z8k {x:SV U.Ty} (h:PW x=true) (e:Nat):Gm e (AU U x)=AU U x:=by
 cases x<;>simp_all [PW,AU,Gm]
theorem Zqc {x:SV U.Ty} (h:PW x=true):(AU U x).cells=[AU U x]:=by
 cases x<;>first|rfl|(simp[PW]at h)
theorem Zu1 {x:SV U.Ty} (h:PW x=true):∀cs,AU U x≠.agg cs:=by
 intro cs hc;cases x<;>first|(cases hc;done)|(simp[PW]at h)
theorem Zq0:∀{xs:List (SV U.Ty)},xs.all PW=true->∀es,GR es (Au U xs)=Au U xs:=by
 intro xs;induction xs with
 | nil=>intro _ es;cases es<;>rfl
 | cons x xs q=>
  intro h es;simp only[List.all_cons,Bool.and_eq_true]at h;cases es with
  | nil=>rfl
  | cons e es=>simp only[Au,GR,Z8k h.1,q h.2]
theorem QU (xs ys:List (SV U.Ty)):Au U (xs++ys)=Au U xs++Au U ys:=by simp[Es]
theorem ZbI:∀{q:List Nat} {xs:List (SV U.Ty)},TB q xs=true->xs=q.map gW:=by
 intro q;induction q with
 | nil=>intro xs h;cases xs with
  | nil=>rfl
  | cons=>simp[TB]at h
 | cons j q A=>
  intro xs h;cases xs with
  | nil=>simp[TB]at h
  | cons x xs=>
   cases x<;>simp[TB]at h;obtain⟨⟨rfl,rfl,rfl,rfl⟩,z⟩:=h;rw[A z];rfl
theorem ZdM {E:Env} (F:D9 U E) (ls:List Nat):∀(ps:List Pc) {cs:List (SV U.Ty)} {r:PX U ps×List Bool},F8 ls ps cs=some r->(∀b∈r.2,b=true)->Au U cs=Au U (EK ls ps r.1):=by
 intro ps;induction ps with
 | nil=>
  intro cs r h _;simp only[F8]at h;split at h
  ·rename_i hc;cases cs with
   | nil=>rfl
   | cons=>simp at hc
  ·cases h
 | cons p ps z=>
  intro cs r h hb;cases p with
  | v t n N=>
   cases N with
   | true=>
    simp only[F8]at h;split at h
    ·rename_i hc;split at h
     ·rename_i a M D C;simp only[Option.some.injEq]at h;subst h;have e:=F.dec t _ a D;simp only[AU,Dz]at e;rw[Zq0 hc.2]at e;have A:=F.cells t a;rw[<- e]at A;simp only[V.cells]at A;simp only[EK,QU,<- A,<- z C hb];rw[<- QU,List.take_append_drop]
     ·cases h
    ·cases h
   | false=>
    cases cs with
    | nil=>simp[F8]at h
    | cons c cs=>
     simp only[F8]at h;split at h
     ·rename_i hc;split at h
      ·rename_i a M D C;simp only[Option.some.injEq]at h;subst h;have e:=F.dec t _ a D;have Q:∀es,Dz es (AU U c)=AU U c:=by
        intro es;unfold Dz;split
        ·rename_i I J;exact absurd J (Zu1 hc I)
        ·exact Z8k hc _
       rw[Q]at e;have A:=F.cells t a;rw[<- e]at A;rw[Zqc hc]at A;simp only[EK,QU,<- A,<- z C hb];rfl
      ·cases h
     ·cases h
  | own e j=>
   cases cs with
   | nil=>simp[F8]at h
   | cons c cs=>
    cases c<;>simp only[F8]at h<;>try (cases h;done)
    split at h
    ·rename_i q;subst q;simp only[Option.map_eq_some_iff]at h;obtain⟨M,C,rfl⟩:=h;have G:=hb _ (List.mem_cons_self ..);simp only[beq_iff_eq]at G;simp only[EK,Au,AU,G,z C (fun b O=>hb b (by simp[O]))]
    ·cases h
  | ptr j=>
   cases cs with
   | nil=>simp[F8]at h
   | cons c cs=>
    cases c<;>simp only[F8]at h<;>try (cases h;done)
    split at h
    ·rename_i q;obtain⟨rfl,rfl,rfl,rfl⟩:=q;simp only[EK,Au,gW,z h hb]
    ·cases h
  | fn f a b=>
   cases cs with
   | nil=>simp[F8]at h
   | cons c cs=>
    cases c<;>simp only[F8]at h<;>try (cases h;done)
    split at h
    ·rename_i q;obtain⟨rfl,D,C⟩:=q;rw[ZbI D,ZbI C];simp only[EK,Au,z h hb]
    ·cases h
  | no=>
   cases cs with
   | nil=>simp[F8]at h
   | cons c cs=>
    cases c<;>simp only[F8]at h<;>try (cases h;done)
    simp only[EK,Au,z h hb]
  | und=>
   cases cs with
   | nil=>simp[F8]at h
   | cons c cs=>
    cases c<;>simp only[F8]at h<;>try (cases h;done)
    simp only[EK,Au,z h hb]
  | iD b=>
   cases cs with
   | nil=>simp[F8]at h
   | cons c cs=>
    simp only[F8]at h;split at h
    ·rename_i G;rw[ZAm G];simp only[EK,Au,z h hb]
    ·cases h
theorem ZcW {E:Env} (z:D9 U E) (ls:List Nat) {p:Sp} {x:SV U.Ty} {r:PX U p.cells×List Bool} (h:uJ ls p x=some r) (hb:∀b∈r.2,b=true):AU U x=AU U (I4 ls p r.1):=by
 cases p with
 | one c=>
  have:=ZdM z ls [c] h hb;simp only[Au]at this;cases q:EK ls [c] r.1 with
  | nil=>rw[q]at this;cases this
  | cons y ys=>
   rw[q]at this;simp only[Au,List.cons.injEq]at this;simp only[I4];rw[q];exact this.1
 | agg cs=>
  cases x<;>simp only[uJ]at h<;>try (cases h;done)
  have:=ZdM z ls cs h hb;simp only[I4,AU,this]
theorem ZBP {E:Env} (C:D9 U E) (ls:List Nat):∀(ps:List Sp) {cs:List (SV U.Ty)} {r:AX U ps×List Bool},Vk ls ps cs=some r->(∀b∈r.2,b=true)->Au U cs=Au U (JM ls ps r.1):=by
 intro ps;induction ps with
 | nil=>
  intro cs r h _;cases cs with
  | nil=>rfl
  | cons=>simp[Vk]at h
 | cons p ps D=>
  intro cs r h hb;cases cs with
  | nil=>simp[Vk]at h
  | cons c cs=>
   simp only[Vk]at h;split at h
   ·rename_i a F z A;simp only[Option.some.injEq]at h;subst h;simp only[JM,Au,ZcW C ls z (fun b q=>hb b (by simp[q])),D A (fun b q=>hb b (by simp[q]))]
   ·cases h
theorem ZBi {E:Env} (N:D9 U E) (ls:List Nat):∀(q:List Pb) {H:BH U} {r:BX U q×List Bool},RD ls q H=some r->(∀b∈r.2,b=true)->BO U H=BO U (Hw ls q r.1)/\Iu q r.1=V8 H:=by
 intro q;induction q with
 | nil=>
  intro H r h _;cases H with
  | nil=>exact⟨rfl,rfl⟩
  | cons=>simp[RD]at h
 | cons b q F=>
  intro H r h hb;cases H with
  | nil=>cases b<;>simp[RD]at h
  | cons x H=>
   cases b with
   | var e m p=>
    cases x<;>simp only[RD]at h<;>try (cases h;done)
    split at h
    ·rename_i O;obtain⟨rfl,rfl⟩:=O;split at h
     ·rename_i a I M C;simp only[Option.some.injEq]at h;subst h;obtain⟨z,A⟩:=F C (fun b D=>hb b (by simp[D]));have J:=ZcW N ls M (fun b D=>hb b (by simp[D]));refine⟨?_,?_⟩
      ·simp only[BO,Hw,List.map_cons,CU,J];exact congrArg _ z
      ·simp only[Iu,V8,List.map_cons,A]
     ·cases h
    ·cases h
   | row t fresh=>
    cases x<;>simp only[RD]at h<;>try (cases h;done)
    rename_i S xs fl;split at h
    ·rename_i Q;subst Q;split at h
     ·rename_i I C;simp only[Option.some.injEq]at h;subst h;obtain⟨z,A⟩:=F C hb;refine⟨?_,?_⟩
      ·simp only[BO,Hw,List.map_cons,if_true];exact congrArg _ z
      ·simp only[Iu,V8,List.map_cons,A]
     ·rename_i n I C;simp only[Option.some.injEq]at h;subst h;obtain⟨z,A⟩:=F C (fun b D=>hb b (by simp[D]));have G:=hb _ (List.mem_cons_self ..);simp only[beq_iff_eq]at G;refine⟨?_,?_⟩
      ·simp only[BO,Hw,List.map_cons,Bool.false_eq_true,if_false,CU,G];exact congrArg _ z
      ·simp only[Iu,V8,List.map_cons,A]
     ·cases h
    ·cases h
theorem Shape.sW {E:Env} (z:D9 U E) {s:Shape} {as:List (SV U.Ty)} {H:BH U} {r:s.X U×List Bool} (h:s.dec as H=some r) (hb:∀b∈r.2,b=true):Au U as=Au U (s.enc r.1).1/\BO U H=BO U (s.enc r.1).2:=by
 unfold Shape.dec at h;split at h
 ·rename_i a b F G;simp only[Option.some.injEq]at h;subst h;obtain⟨A,C⟩:=ZBi z _ _ G (fun b q=>hb b (by simp[q]));have D:=ZBP z _ _ F (fun b q=>hb b (by simp[q]));simp only[Shape.enc,C];exact⟨D,A⟩
 ·cases h
variable (U)
def vC:Pc->Prop
 | .v t n true=>t∈U.keys/\∀a,∃cs,U.encS t a = .agg cs/\cs.length=n
 | .v t n false=>t∈U.keys/\∀a,cellsS (U.encS t a)=[U.encS t a]
 | _=>True
def uY:List Pc->Prop
 | []=>True
 | p::ps=>vC U p/\uY ps
def vK:Sp->Prop
 | .one (.v _ _ true)=>False
 | .one c=>vC U c
 | .agg cs=>uY U cs
def vM:List Sp->Prop
 | []=>True
 | p::ps=>vK U p/\vM ps
def gJ:List Pb->Prop
 | []=>True
 | .var _ _ p::q=>vK U p/\gJ q
 | .row t _::q=>t∈U.keys/\gJ q
def Shape.OK (s:Shape):Prop:=vM U s.args/\gJ U s.boxes
variable {U}
def WA (k1:List Nat) (q:List (Nat×Nat)):Pc->Bool
 | .v t n true=>q.contains (t,n)
 | .v t _ false=>k1.contains t
 | _=>true
def vV (k1:List Nat) (q:List (Nat×Nat)):Sp->Bool
 | .one (.v _ _ true)=>false
 | .one c=>WA k1 q c
 | .agg cs=>cs.all (WA k1 q)
def pbB (U:Cc) (k1:List Nat) (q:List (Nat×Nat)):Pb->Bool
 | .var _ _ p=>vV k1 q p
 | .row t _=>U.keys.contains t
def shB (U:Cc) (k1:List Nat) (q:List (Nat×Nat)) (s:Shape):Bool:=s.args.all (vV k1 q)&&s.boxes.all (pbB U k1 q)
theorem Shape.ok_of {k1:List Nat} {z:List (Nat×Nat)} (M:∀t∈k1,t∈U.keys/\∀a,cellsS (U.encS t a)=[U.encS t a]) (N:∀p∈z,p.1∈U.keys/\∀a,∃cs,U.encS p.1 a = .agg cs/\cs.length=p.2) {s:Shape} (h:shB U k1 z s=true):s.OK U:=by
 have J:∀c,WA k1 z c=true->vC U c:=by
  intro c hc;cases c with
  | v t n D=>cases D with
   | true=>exact N (t,n) (by simpa[WA]using hc)
   | false=>exact M t (by simpa[WA]using hc)
  | _=>trivial
 have I:∀cs:List Pc,cs.all (WA k1 z)=true->uY U cs:=by
  intro cs;induction cs with
  | nil=>intro _;trivial
  | cons c cs A=>intro h;simp only[List.all_cons,Bool.and_eq_true]at h;exact⟨J c h.1,A h.2⟩
 have C:∀p,vV k1 z p=true->vK U p:=by
  intro p G;cases p with
  | agg cs=>exact I cs G
  | one c=>cases c with
   | v t n D=>cases D with
    | true=>cases G
    | false=>exact J (.v t n false) G
   | _=>trivial
 have has:∀l:List Sp,l.all (vV k1 z)=true->vM U l:=by
  intro l;induction l with
  | nil=>intro _;trivial
  | cons p l A=>intro h;simp only[List.all_cons,Bool.and_eq_true]at h;exact⟨C p h.1,A h.2⟩
 have F:∀l:List Pb,l.all (pbB U k1 z)=true->gJ U l:=by
  intro l;induction l with
  | nil=>intro _;trivial
  | cons p l A=>
   intro h;simp only[List.all_cons,Bool.and_eq_true]at h;cases p with
   | var e m q=>exact⟨C q h.1,A h.2⟩
   | row t O=>exact⟨by simpa[pbB]using h.1,A h.2⟩
 unfold shB at h;rw[Bool.and_eq_true]at h;exact⟨has _ h.1,F _ h.2⟩
theorem Z39 {E:Env} (D:D9 U E) {ls ls' : List Nat}:∀{ps:List Pc} {x y:PX U ps},uY U ps->Au U (EK ls ps x)=Au U (EK ls' ps y)->x=y:=by
 intro ps;induction ps with
 | nil=>intro x y _ _;rfl
 | cons p ps C=>
  intro x y q h;obtain⟨I,q⟩:=q;cases p with
  | v t n J=>
   obtain⟨a,S⟩:=x;obtain⟨b,Y⟩:=y;simp only[EK,QU]at h;have key:Au U (cellsS (U.encS t a))=Au U (cellsS (U.encS t b))/\Au U (EK ls ps S)=Au U (EK ls' ps Y)/\U.enc t a=U.enc t b/\t∈U.keys:=by
    cases J with
    | true=>
     obtain⟨hm,A⟩:=I;obtain⟨ca,F,Q⟩:=A a;obtain⟨cb,G,lb⟩:=A b;have:=List.append_inj h (by rw[IV,IV,F,G];simp only[cellsS,Q,lb]);refine⟨this.1,this.2,?_,hm⟩;rw[<- D.encS,<- D.encS,F,G];have z:=this.1;rw[F,G]at z;simp only[cellsS]at z;simp only[AU,z]
    | false=>
     obtain⟨hm,A⟩:=I;have:=List.append_inj h (by rw[IV,IV,A a,A b];rfl);refine⟨this.1,this.2,?_,hm⟩;have z:=this.1;rw[A a,A b]at z;simp only[Au,List.cons.injEq,and_true,D.encS]at z;exact z
   obtain⟨_,M,N,hm⟩:=key;have O:=D.inj t hm a b N;subst O;rw[C q M]
  | own e j=>
   simp only[EK,Au,List.cons.injEq]at h;exact C q h.2
  | ptr j=>
   simp only[EK,Au,List.cons.injEq]at h;exact C q h.2
  | fn f a b=>
   simp only[EK,Au,List.cons.injEq]at h;exact C q h.2
  | no=>
   simp only[EK,Au,List.cons.injEq]at h;exact C q h.2
  | und=>
   simp only[EK,Au,List.cons.injEq]at h;exact C q h.2
  | iD b=>
   simp only[EK,Au,List.cons.injEq]at h;exact C q h.2
theorem Zc8 {E:Env} (z:D9 U E) {ls ls' : List Nat} {p:Sp} {x y:PX U p.cells} (A:vK U p) (h:AU U (I4 ls p x)=AU U (I4 ls' p y)):x=y:=by
 cases p with
 | one c=>
  cases c with
  | v t n C=>
   cases C with
   | true=>exact A.elim
   | false=>
    obtain⟨a,D⟩:=x;obtain⟨b,F⟩:=y;have q : vC U (.v t n false):=A;refine Z39 z (ps:=[.v t n false]) ⟨q,trivial⟩ (ls:=ls) (ls' :=ls') ?_;simp only[I4,EK,q.2,List.append_nil,List.headD_cons]at h;simp only[EK,q.2,List.append_nil,Au,h]
  | own e j=>exact Z39 z (ps:=[.own e j]) ⟨trivial,trivial⟩ (ls:=ls) (ls' :=ls') (by simp only[I4,EK,List.headD_cons]at h;simp only[EK,Au,h])
  | ptr j=>rfl
  | fn f a b=>rfl
  | no=>rfl
  | und=>rfl
  | iD b=>rfl
 | agg cs=>
  simp only[I4,AU,V.agg.injEq]at h;exact Z39 z A h
theorem ZzW {E:Env} (z:D9 U E) {ls ls' : List Nat}:∀{ps:List Sp} {x y:AX U ps},vM U ps->Au U (JM ls ps x)=Au U (JM ls' ps y)->x=y:=by
 intro ps;induction ps with
 | nil=>intro x y _ _;rfl
 | cons p ps A=>
  intro x y q h;obtain⟨a,C⟩:=x;obtain⟨b,D⟩:=y;simp only[JM,Au,List.cons.injEq]at h;rw[Zc8 z q.1 h.1,A q.2 h.2]
theorem Ztg {E:Env} (q:D9 U E) {t:Nat} (z:t∈U.keys):∀{xs ys:List (U.Ty t)},xs.map (U.enc t)=ys.map (U.enc t)->xs=ys:=by
 intro xs;induction xs with
 | nil=>intro ys h;cases ys with
  | nil=>rfl
  | cons=>cases h
 | cons x xs A=>
  intro ys h;cases ys with
  | nil=>cases h
  | cons y ys=>
   simp only[List.map_cons,List.cons.injEq]at h;rw[q.inj t z x y h.1,A h.2]
theorem Zzh {E:Env} (A:D9 U E) {ls ls' : List Nat}:∀{q:List Pb} {x y:BX U q},gJ U q->BO U (Hw ls q x)=BO U (Hw ls' q y)->x=y:=by
 intro q;induction q with
 | nil=>intro x y _ _;rfl
 | cons b q C=>
  intro x y z h;cases b with
  | var e m p=>
   obtain⟨a,D⟩:=x;obtain⟨b,F⟩:=y;simp only[Hw,BO,List.map_cons,List.cons.injEq,CU,Bg,Box.mk.injEq,true_and,and_true]at h;rw[Zc8 A z.1 h.1,C z.2 h.2]
  | row t fresh=>
   obtain⟨a,D⟩:=x;obtain⟨b,F⟩:=y;simp only[Hw,BO,List.map_cons,List.cons.injEq,CU,Box.mk.injEq,true_and]at h;rw[Ztg A z.1 h.1.1,C z.2 h.2]
theorem Shape.ZdE {E:Env} (A:D9 U E) {s:Shape} (C:s.OK U) {x y:s.X U} (D:Au U (s.enc x).1=Au U (s.enc y).1) (F:BO U (s.enc x).2=BO U (s.enc y).2):x=y:=by
 obtain⟨a,b⟩:=x;obtain⟨G,I⟩:=y;have z:=Zzh A C.2 F;simp only at z;subst z;have q:=ZzW A C.1 D;simp only at q;rw[q]
variable (U)
structure HMod where
 fa:List (List Fk)
 fb:List Bf
 D7:Shape
 JP:Shape
 one:Bool
 ky:Nat
 NZ:U.Ty ky->JP.X U
 fn:D7.X U->Option (U.Ty ky)
 ok:D7.OK U
variable {U}
def HMod.out (m:HMod U) (y:U.Ty m.ky):SV U.Ty×BH U:=((if m.one then (m.JP.enc (m.NZ y)).1.headD .und else .BL (m.JP.enc (m.NZ y)).1),(m.JP.enc (m.NZ y)).2)
open Classical in
noncomputable def HMod.spec (m:HMod U):V5 where
 fa:=m.fa
 fb:=m.fb
 run:=fun as q=>if h:∃x:m.D7.X U,Au U (m.D7.enc x).1=as/\BO U (m.D7.enc x).2=q then (m.fn (Classical.choose h)).map fun y=>(AU U (m.out y).1,BO U (m.out y).2) else none
theorem HMod.ZAv {E:Env} (q:D9 U E) (m:HMod U) (x:m.D7.X U):m.spec.run (Au U (m.D7.enc x).1) (BO U (m.D7.enc x).2)=(m.fn x).map fun y=>(AU U (m.out y).1,BO U (m.out y).2):=by
 have h:∃y:m.D7.X U,Au U (m.D7.enc y).1=Au U (m.D7.enc x).1/\BO U (m.D7.enc y).2=BO U (m.D7.enc x).2:=⟨x,rfl,rfl⟩;simp only[HMod.spec,dif_pos h];rw[Shape.ZdE q m.ok (Classical.choose_spec h).1 (Classical.choose_spec h).2]
def Z3V (m:HMod U) (as:List (SV U.Ty)) (H:BH U):Tr U (SV U.Ty×BH U):=
 (Vb m.fa m.fb 0 as H).andThen fun r=>match m.D7.dec (NM (r.1.idxOf ·) r.2.1) (V6 r.2.2 r.1) with
  | some x=>(match x.2 with
   | []=>.bind m.ky (m.fn x.1) fun y=>.when (r.1.length<=(m.out y).2.length) (.leaf (F5 (JK r.1 r.2.2.length) (m.out y).1,dP r.2.2 r.1 (m.out y).2))
   | c::cs=>.chk (VS (c::cs)) (.bind m.ky (m.fn x.1) fun y=>.when (r.1.length<=(m.out y).2.length) (.leaf (F5 (JK r.1 r.2.2.length) (m.out y).1,dP r.2.2 r.1 (m.out y).2))))
  | none=>.fail
theorem ZwS {E:Env} (J:D9 U E) {m:HMod U} {as:List (SV U.Ty)} {H:BH U} {r:SV U.Ty×BH U} (h:(Z3V m as H).AZ r):O4 m.spec (Au U as) (BO U H)=some (AU U r.1,BO U r.2):=by
 simp only[Z3V,EL]at h;obtain⟨p,M,h⟩:=h;have F :=rG M;split at h
 ·rename_i x N;have key:(∀b∈x.2,b=true)/\∃y,m.fn x.1=some y/\p.1.length<=(m.out y).2.length/\r=(F5 (JK p.1 p.2.2.length) (m.out y).1,dP p.2.2 p.1 (m.out y).2):=by
   split at h
   ·rename_i A;simp only[Tr.AZ,E8]at h;obtain⟨y,q,z,C⟩:=h;exact⟨by rw[A];intro b hb;simp at hb,y,q,z,C.symm⟩
   ·rename_i c cs D;simp only[Tr.AZ,E8]at h;obtain⟨hc,y,q,z,C⟩:=h;exact⟨by rw[D];exact Zbp hc,y,q,z,C.symm⟩
  obtain⟨hb,y,q,z,rfl⟩:=key;obtain⟨G,I⟩:=Shape.sW J N hb;rw[Oy]at G;rw[pR]at I;unfold O4;simp only[show m.spec.fa=m.fa from rfl,show m.spec.fb=m.fb from rfl,F,G,I,HMod.ZAv J,q,Option.map_some,SC];rw[if_pos z,qW,Zpp]
 ·simp[Tr.AZ]at h
end
end Go.Proofs.YtjodhcdmhobmoaaGreatDoor.Le
namespace Go.Proofs.YtjodhcdmhobmoaaGreatDoor.Le
open Go.RowKit (Below)
section
variable {U:Cc}
def F9 (U:Cc):List Nat->Type
 | []=>Unit
 | t::ts=>U.Ty t×F9 U ts
def Gf:(ts:List Nat)->F9 U ts->List V
 | [],_=>[]
 | t::ts,x=>U.enc t x.1::Gf ts x.2
def Sm:(ts:List Nat)->List (SV U.Ty)->Option (F9 U ts)
 | [],[]=>some ()
 | t::ts,v::vs=>match U.Gv t v,Sm ts vs with|some a,some as=>some (a,as)|_,_=>none
 | _,_=>none
structure Aj (U:Cc) where
 ts:List Nat
 rt:Nat
 fn:F9 U ts->Option (U.Ty rt)
 ok:∀t∈ts,t∈U.keys
def fE:SV U.Ty->Bool
 | .ptr _ _ _ _=>true
 | .raw v=>TG v
 | _=>false
def Z3X (H:BH U):SV U.Ty->Tr U (SV U.Ty)
 | .ptr id i off tot=>if i=0/\off=0/\tot=1 then (match H[id]? with
   | some (.var _ n (.agg cs))=>.leaf (.raw (.CG n [.agg ((Au U cs).map V9)] 0 0))
   | some (.var _ n x)=>(match Vj x with|some z=>.leaf (.raw (.CG n [.lit z] 0 0))|none=>.fail)
   | _=>.fail) else .fail
 | .raw _=>.fail
 | v=>Qx H v
def dR (H:BH U):List (SV U.Ty)->Tr U (List (SV U.Ty))
 | []=>.leaf []
 | v::vs=>(Z3X H v).andThen fun w=>(dR H vs).andThen fun ws=>.leaf (w::ws)
def uF:SV U.Ty->Bool
 | .lit _ | .si _ _ | .sb _ | .ss _=>true
 | _=>false
def VV:SV U.Ty->Bool
 | .lit _ | .si _ _ | .sb _ | .ss _=>true
 | .agg cs=>cs.all uF
 | _=>false
def Z4n:SV U.Ty->Bool
 | .BL vs=>vs.all VV
 | v=>VV v
theorem Zyd (x:SV U.Ty):TG (AU U x)=fE x:=by
 cases x<;>simp[fE,TG,AU]
theorem Zby (xs:List (SV U.Ty)):(Au U xs).any TG=xs.any fE:=by
 induction xs with
 | nil=>rfl
 | cons x xs q=>simp only[Au,List.any_cons,q,Zyd]
theorem Zx9 (x:SV U.Ty) (h:uF x=true):Ig (AU U x)=true:=by
 cases x<;>simp_all [uF,Ig,AU]
theorem Zba (xs:List (SV U.Ty)) (h:xs.all uF=true):(Au U xs).all Ig=true:=by
 induction xs with
 | nil=>rfl
 | cons x xs q=>
  simp only[List.all_cons,Bool.and_eq_true]at h;simp only[Au,List.all_cons,Bool.and_eq_true];exact⟨Zx9 x h.1,q h.2⟩
theorem Zxy (x:SV U.Ty) (h:VV x=true):Ji (AU U x)=true:=by
 cases x<;>first|(simp[VV]at h;done)|(simp[Ji,AU];done)|skip
 rename_i cs;simp only[AU,Ji];exact Zba cs h
theorem ZvD (xs:List (SV U.Ty)) (h:xs.all VV=true):(Au U xs).all Ji=true:=by
 induction xs with
 | nil=>rfl
 | cons x xs q=>
  simp only[List.all_cons,Bool.and_eq_true]at h;simp only[Au,List.all_cons,Bool.and_eq_true];exact⟨Zxy x h.1,q h.2⟩
theorem ZzC (x:SV U.Ty) (h:Z4n x=true):O7 (AU U x)=true:=by
 cases x<;>first|(simp[Z4n,VV]at h;done)|(simp[O7,Ji,AU];done)|skip
 ·rename_i cs;simp only[AU,O7,Ji];exact Zba cs h
 ·rename_i vs;simp only[AU,O7];exact ZvD vs h
theorem Zy8 {H:BH U} {x y:SV U.Ty} (h:(Z3X H x).AZ y):O6 (BO U H) (AU U x)=some (AU U y):=by
 unfold Z3X at h;split at h
 ·rename_i id i off tot;split at h
  ·rename_i D;obtain⟨rfl,rfl,rfl⟩:=D;split at h
   ·rename_i e n cs hb;simp only[Tr.AZ]at h;subst h;simp only[AU,O6,and_self,if_true,DZ,Lr,hb,Option.map_some,CU,Bg];simp
   ·rename_i e n x hb C;split at h
    ·rename_i z D;simp only[Tr.AZ]at h;subst h;have G:AU U x = .lit z:=by cases x<;>simp_all [Vj,AU]
     simp only[AU,O6,and_self,if_true,DZ,Lr,C,Option.map_some,CU,Bg,G];simp
    ·simp[Tr.AZ]at h
   ·simp[Tr.AZ]at h
  ·simp[Tr.AZ]at h
 ·simp[Tr.AZ]at h
 ·rename_i q A;unfold O6;split
  ·rename_i id i off tot F;exfalso;cases x<;>simp[AU]at F
   ·exact q _ _ _ _ rfl
   ·exact A _ rfl
  ·exact rV h
theorem ZqL {H:BH U}:∀{xs ys:List (SV U.Ty)},(dR H xs).AZ ys->KY (BO U H) (Au U xs)=some (Au U ys):=by
 intro xs;induction xs with
 | nil=>intro ys h;simp only[dR,Tr.AZ]at h;subst h;rfl
 | cons x xs A=>
  intro ys h;simp only[dR,EL,Tr.AZ]at h;obtain⟨w,q,ws,z,rfl⟩:=h;simp only[Au,KY,Zy8 q,A z]
def Z46 (hmods:FuncId->List FuncId->Option (HMod U)) (g:FuncId):Bool:=match hmods g [] with|some m=>m.fb.isEmpty|none=>false
def Qs (mods:FuncId->Option (Aj U)) (hmods:FuncId->List FuncId->Option (HMod U)):IK U:=fun g as H=>
 match mods g with
 | some m=>if as.any fE then (dR H as).andThen fun q =>(match Sm m.ts q with
   | some x=>.bind m.rt (m.fn x) fun r=>.when (Z4n (U.encS m.rt r)=true/\(as.flatMap NS).isEmpty=true) (.leaf (U.encS m.rt r,H))
   | none=>.fail)
  else (PM H as).andThen fun q =>(match Sm m.ts q with
  | some x=>.bind m.rt (m.fn x) fun r=>.leaf (U.encS m.rt r,Pj H (as.flatMap NS))
  | none=>.fail)
 | none=>match hmods g (if Z46 hmods g then [] else VX as) with
  | some m=>Z3V m as H
  | none=>.fail
noncomputable def Vt (hmods:FuncId->List FuncId->Option (HMod U)):FuncId->List FuncId->Option V5:=fun g k=>(hmods g k).map HMod.spec
open Classical in
noncomputable def O1 (mods:FuncId->Option (Aj U)):FuncId->Option (List V->Option V):=fun g=>
 match mods g with
 | some m=>some fun as=>if h:∃x:F9 U m.ts,Gf m.ts x=as then (m.fn (Classical.choose h)).map (U.enc m.rt) else none
 | none=>none
theorem ZbA {E:Env} (A:D9 U E):∀{ts:List Nat} {vs:List (SV U.Ty)} {x:F9 U ts},Sm ts vs=some x->GM E.rows ts (Au U vs)=Gf ts x:=by
 intro ts;induction ts with
 | nil=>
  intro vs x h;cases vs with
  | nil=>rfl
  | cons=>simp[Sm]at h
 | cons t ts C=>
  intro vs x h;cases vs with
  | nil=>simp[Sm]at h
  | cons v vs=>
   simp only[Sm]at h;split at h
   ·rename_i a as q z;cases h;simp only[Au,GM,Gf,A.dec _ _ _ q,C z]
   ·cases h
theorem Zr1 {E:Env} (A:D9 U E):∀{ts:List Nat} {x y:F9 U ts},(∀t∈ts,t∈U.keys)->Gf ts x=Gf ts y->x=y:=by
 intro ts;induction ts with
 | nil=>intro x y _ _;rfl
 | cons t ts C=>
  intro x y z h;obtain⟨x1,F⟩:=x;obtain⟨G,I⟩:=y;simp only[Gf,List.cons.injEq]at h;rw[A.inj t (z t (by simp)) _ _ h.1,C (fun D q =>z D (by simp[q])) h.2]
theorem Z3b {E:Env} (z:D9 U E) {mods:FuncId->Option (Aj U)} {g:FuncId} {m:Aj U} (hm:mods g=some m) {F:List V->Option V} (q:O1 mods g=some F) (x:F9 U m.ts):F (Gf m.ts x)=(m.fn x).map (U.enc m.rt):=by
 unfold O1 at q;simp only[hm,Option.some.injEq]at q;subst q;have h:∃y:F9 U m.ts,Gf m.ts y=Gf m.ts x:=⟨x,rfl⟩;simp only[dif_pos h];rw[Zr1 z m.ok (Classical.choose_spec h)]
theorem ZAo {E:Env} (A:D9 U E) {mods:FuncId->Option (Aj U)} {hmods:FuncId->List FuncId->Option (HMod U)} (q:E.env=O1 mods) (M:E.hm=Vt hmods) (Q:∀g,E.pure g=false) (G:∀g m,mods g=some m->E.par g=m.ts)
  (D:∀g,E.own g=none) (n:Nat):NR U (Qs mods hmods) (En E (n+1)):=by
 intro g as H v H' h;unfold Qs at h;cases hm:mods g with
 | none=>
  simp only[hm]at h;have O:E.env g=none:=by rw[q];unfold O1;simp[hm]
  split at h
  ·rename_i m hmm;have:=ZwS A h;unfold En;simp only[O,Q g,Bool.false_eq_true,if_false];have hfr:Pe E g=Z46 hmods g:=by
    unfold Pe Z46;rw[O,Q g,M];simp only[Vt];cases hmods g []<;>rfl
   have hk:E.hm g (if Pe E g then [] else MF (Au U as))=some m.spec:=by rw[hfr,M,Zvj];simp only[Vt,hmm,Option.map_some]
   simp only[hk,this]
  ·simp[Tr.AZ]at h
 | some m=>
  simp only[hm]at h
  by_cases Y:as.any fE=true
  ·rw[if_pos Y]at h;simp only[EL]at h;obtain⟨as',S,h⟩:=h;split at h
   ·rename_i x hx;simp only[Tr.AZ,E8,Prod.mk.injEq]at h;obtain⟨r,hr,⟨hfl,N⟩,rfl,rfl⟩:=h;have z:∃F,E.env g=some F:=by rw[q];unfold O1;simp[hm]
    obtain⟨F,z⟩:=z;have I:=Z3b A hm (by rw[<- q];exact z) x;have C :=ZzC _ hfl;rw[A.encS]at C;have J : (Au U as).flatMap Dj=[]:=by rw[Z2s];simpa using N
    unfold En;simp only[z];rw[if_pos (by rw[Zby];exact Y),ZqL S];simp only[D g,G g m hm,ZbA A hx,I,hr,Option.map_some];rw[if_pos C,J,A.encS];rfl
   ·simp[Tr.AZ]at h
  rw[if_neg Y]at h;simp only[EL]at h;obtain⟨as',S,h⟩:=h;split at h
  ·rename_i x hx;simp only[Tr.AZ,Prod.mk.injEq]at h;obtain⟨r,hr,rfl,rfl⟩:=h;have z:∃F,E.env g=some F:=by rw[q];unfold O1;simp[hm]
   obtain⟨F,z⟩:=z;have I:=Z3b A hm (by rw[<- q];exact z) x;unfold En;simp only[z];rw[if_neg (by rw[Zby];exact Y)];simp only[Z26 S,D g,G g m hm,ZbA A hx,I,hr,Option.map_some,Z2s,VI H _ (Z9k S),A.encS]
  ·simp[Tr.AZ]at h
structure Ai (P:Program) (E:Env) (g:FuncId) (m:Aj U):Prop where
 entered:OG P g
 pure:∀x a,m.fn x=some a->OT P E g (Gf m.ts x) (U.enc m.rt a)
theorem Ai.Ef {P:Program} {E q : Env} (h:q.Ef=E.Ef) {g:FuncId} {m:Aj U} (z:Ai P E g m):Ai P q g m:=by
 refine⟨z.entered,fun x a F fz w vs hc A D=>z.pure x a F fz w vs hc ?_ D⟩;intro g r C;exact A g r (by rw[h];exact C)
structure DU (P:Program) (E:Env) (g:FuncId) (m:HMod U):Prop where
 entered:OG P g
 heap:∀x y,m.fn x=some y->tJ P E g (Au U (m.D7.enc x).1) (BO U (m.D7.enc x).2) (AU U (m.out y).1) (BO U (m.out y).2)
theorem DU.Ef {P:Program} {E q : Env} (h:q.Ef=E.Ef) {g:FuncId} {m:HMod U} (z:DU P E g m):DU P q g m:=by
 refine⟨z.entered,fun x y G B w0 σ w vs D A F=>z.heap x y G B w0 σ w vs D ?_ F⟩;intro g r C;exact A g r (by rw[h];exact C)
theorem ZcC {P:Program} {E:Env} (hU:D9 U E) {mods:FuncId->Option (Aj U)} {hmods:FuncId->List FuncId->Option (HMod U)} (z:E.env=O1 mods) (O:E.hm=Vt hmods) (J:∀g,E.own g=none) (h:∀g m,mods g=some m->Ai P E g m)
  (h' : ∀g k m,hmods g k=some m->DU P E g m):Qg P E:=by
 refine⟨?_,fun g k hs N=>?_⟩
 rotate_left
 ·rw[O]at N;simp only[Vt,Option.map_eq_some_iff]at N;obtain⟨m,hm,rfl⟩:=N;refine⟨(h' g k m hm).entered,fun as H0 r H1 q=>?_⟩;simp only[HMod.spec]at q;split at q
  ·rename_i Q;obtain⟨x,rfl,rfl⟩:=Q;simp only[Option.map_eq_some_iff]at q;obtain⟨y,hy,he⟩:=q;simp only[Prod.mk.injEq]at he;obtain⟨rfl,rfl⟩:=he;generalize hch:(⟨x,rfl,rfl⟩:∃y:m.D7.X U,Au U (m.D7.enc y).1=Au U (m.D7.enc x).1/\BO U (m.D7.enc y).2=BO U (m.D7.enc x).2)=I at hy;have Y:=Shape.ZdE hU m.ok (Classical.choose_spec I).1 (Classical.choose_spec I).2;rw[Y]at hy;exact(h' g k m hm).heap x y hy
  ·cases q
 intro g F A;have hm:∃m,mods g=some m:=by
  rw[z]at A;unfold O1 at A;cases hm:mods g with
  | none=>simp[hm]at A
  | some m=>exact⟨m,rfl⟩
 obtain⟨m,hm⟩:=hm;refine⟨(h g m hm).entered,fun as r _ M=>?_⟩;rw[J g];have G :=A;rw[z]at A;unfold O1 at A;simp only[hm,Option.some.injEq]at A;subst A;simp only at M;split at M
 ·rename_i Q;obtain⟨x,S⟩:=Q;subst S;have:=Z3b hU hm (by rw[z]at G;exact G) x;have D : (m.fn x).map (U.enc m.rt)=some r:=by
   rw[<- this];simp only[dif_pos (⟨x,rfl⟩:∃y:F9 U m.ts,Gf m.ts y=Gf m.ts x)];exact M
  cases C:m.fn x with
  | none=>simp[C]at D
  | some a=>
   simp only[C,Option.map_some,Option.some.injEq]at D;subst D;exact(h g m hm).pure x a C
 ·cases M
theorem Zoy {P:Program} {E:Env} (I:Cf E) (O:E.P=P) (hF:Qg P E) {n:Nat} {f:FuncId} {fn:Func} (M:E.func f=some fn) {c:Code} (hb:fn.body=some c) {as:List V} {r:V} {H1:Heap}
  (h:DY (En E n) E f fn 0 (Zp E fn) (.run c) [] ⟨as++List.replicate (fn.ntmps - as.length) EH,[]⟩ (r,H1)):OG P f/\OT P E f as r:=by
 obtain⟨C,hf2⟩:=I.func f fn M;rw[O]at C;refine⟨⟨fn,C,by simp[hb],hf2⟩,?_⟩;intro fz w vs q hg Q;have hI:Inv w.heap.size (Start.of w fz) (bare fz) [] w:=⟨Below.refl _ w,Nat.le_refl _,fun id L hL=>(by cases hL),fun id bx hb=>by simp at hb,fun i j b1 b2 L1 L2 g G=>by simp at G,q,
  fun b c hc id bx L hb=>by simp at hb,fun id bx hb=>by simp at hb,fun b c hc _=>hc,fun b hb=>hb.elim⟩
 have z:AQ (bare fz) w (as++List.replicate (fn.ntmps - as.length) EH) (vs.toArray++Array.replicate (fn.ntmps - vs.toArray.size) undef).toList:=by
  simp only[Array.toList_append,Array.toList_replicate,List.size_toArray];rw[<- Q.length];exact Q.append (AQ.replicate _ (.no .nil))
 have N:Ew E w.heap.size (Start.of w fz) (bare fz) ⟨as++List.replicate (fn.ntmps - as.length) EH,[]⟩ { tmps:=vs.toArray++Array.replicate (fn.ntmps - vs.toArray.size) undef,defers:=[] } w:=⟨hI,hg,z,rfl⟩;have hwp:=Zdy I O (Z3a I O hF n w.heap.size (Start.of w fz)) (Uc n) (F:=Fin P fn w.heap.size (Start.of w fz)) (σ0:=bare fz) (ws:=w)
  (fun st r σ a w' hz Q hx=>ZEt I O Q (fun b c hh=>(hx.fz b c hh).1) hz) h (I.calm f fn c M hb) rfl _ _ _ N (Ext.refl _ _).k
 refine calls_of_wp C hb ?_;intro fr k cs;obtain⟨e,a',w',D,J⟩:=hwp fr k cs;refine⟨e,a',w',?_,J⟩;cases e with
 | normal=>
  obtain⟨S,u,A,G,Y,h3,h4,h5,h6,h7⟩:=D;exact⟨S,u,G,u,A,rfl,Y,h3,h4,h5,h6,h7⟩
 | ret=>
  obtain⟨S,u,A,G,Y,h3,h4,h5,h6,h7⟩:=D;exact⟨S,u,G,u,A,rfl,Y,h3,h4,h5,h6,h7⟩
 | exit id=>exact D.elim
 | goto l=>exact D.elim
 | panic c=>exact D.elim
 | outgrown=>exact D.elim
theorem Zp1 {P:Program} {E:Env} (C:Cf E) (M:E.P=P) (hF:Qg P E) {n:Nat} {f:FuncId} {fn:Func} (G:E.func f=some fn) {c:Code} (hb:fn.body=some c) {as:List V} {J:Heap} {r:V} {H1:Heap} {fa:List (List Fk)} {fb:List Bf} {k:Nat} (hk:J.length=k)
  (h:DY (En E n) E f fn k (Zh E fn fa fb k) (.run c) [] ⟨as++List.replicate (fn.ntmps - as.length) EH,J⟩ (r,H1)):OG P f/\tJ P E f as J r H1:=by
 obtain⟨z,hf2⟩:=C.func f fn G;rw[M]at z;refine⟨⟨fn,z,by simp[hb],hf2⟩,?_⟩;intro B w0 σ w vs hI hg N;have q:AQ σ w (as++List.replicate (fn.ntmps - as.length) EH) (vs.toArray++Array.replicate (fn.ntmps - vs.toArray.size) undef).toList:=by
  simp only[Array.toList_append,Array.toList_replicate,List.size_toArray];rw[<- N.length];exact N.append (AQ.replicate _ (.no .nil))
 have I:Ew E B w0 σ ⟨as++List.replicate (fn.ntmps - as.length) EH,J⟩ { tmps:=vs.toArray++Array.replicate (fn.ntmps - vs.toArray.size) undef,defers:=[] } w:=⟨hI,hg,q,rfl⟩;have hwp:=Zdy C M (Z3a C M hF n B w0) (Uc n) (F:=FinH P fn B w0 σ w) (σ0:=σ) (ws:=w)
  (fun st r σ' a w' hz N hx=>ZBc C M (fun id L hL=>by rw[<- hk];exact hI.Z3N hL) N hx hz) h (C.calm f fn c G hb) rfl _ _ _ I (Ext.refl _ _).k
 refine calls_of_wp z hb ?_;intro fr k cs;obtain⟨e,a',w',A,D⟩:=hwp fr k cs;refine⟨e,a',w',?_,D⟩;cases e with
 | normal=>
  obtain⟨O,u,σ',Q,S,Y,h4⟩:=A;exact⟨O,u,Q,u,σ',rfl,S,Y,h4⟩
 | ret=>
  obtain⟨O,u,σ',Q,S,Y,h4⟩:=A;exact⟨O,u,Q,u,σ',rfl,S,Y,h4⟩
 | exit id=>exact A.elim
 | goto l=>exact A.elim
 | panic c=>exact A.elim
 | outgrown=>exact A.elim
theorem ZcL {L R:Type} {J:L->Option R}:∀{T:Tr U L} {r:R},T.den J=some r->∃l,T.AZ l/\J l=some r:=by
 intro T;induction T with
 | leaf l=>intro r h;exact⟨l,rfl,h⟩
 | br c a b C D=>
  intro r h;cases c with
  | true=>obtain⟨l,q,z⟩:=C h;exact⟨l,.inl ⟨rfl,q⟩,z⟩
  | false=>obtain⟨l,q,z⟩:=D h;exact⟨l,.inr ⟨rfl,q⟩,z⟩
 | bind t o k A=>
  intro r h;cases o with
  | none=>cases h
  | some a=>obtain⟨l,q,z⟩:=A a h;exact⟨l,⟨a,rfl,q⟩,z⟩
 | chk c a A=>
  intro r h;cases c with
  | true=>obtain⟨l,q,z⟩:=A h;exact⟨l,⟨rfl,q⟩,z⟩
  | false=>cases h
 | fail=>intro r h;cases h
theorem ZA9 {L M:Type} {g:L->M}:∀{T:Tr U L} {l:L},T.AZ l->(T.map g).AZ (g l):=by
 intro T;induction T with
 | leaf l=>intro l h;simp only[Tr.AZ]at h;subst h;rfl
 | br c a b z A=>
  intro l h;rcases h with ⟨hc,h⟩|⟨hc,h⟩
  ·exact .inl ⟨hc,z h⟩
  ·exact .inr ⟨hc,A h⟩
 | bind t o k q=>rintro l ⟨a,C,h⟩;exact⟨a,C,q a h⟩
 | chk c a q=>rintro l ⟨hc,h⟩;exact⟨hc,q h⟩
 | fail=>intro l h;exact h
def Py:Code->List Nat->List Fr->Code×List Fr
 | .seq a b,0::p,K=>Py a p (.seq b::K)
 | .seq a b,_::p,K=>Py b p K
 | .cond _ a b,0::p,K=>Py a p K
 | .cond _ a b,_::p,K=>Py b p K
 | .block id b,_::p,K=>Py b p (.blk id::K)
 | .loop b,_::p,K=>Py b p (.loop b::K)
 | .scope b,_::p,K=>Py b p K
 | c,_,K=>(c,K)
def JI (fn:Func):Code:=match fn.body with|some c=>c|none=>.skip
open Classical in
noncomputable def gI {α:Type} (g:Nat->Option α):Option α:=if h:∃n a,g n=some a then g (Classical.choose h) else none
theorem Z2M {α:Type} {g:Nat->Option α} {a:α} (h:gI g=some a):∃n,g n=some a:=by
 unfold gI at h;split at h
 ·exact⟨_,h⟩
 ·cases h
def Mono {α:Type} (g:Nat->Option α):Prop:=∀n a,g n=some a->g (n+1)=some a
theorem Mono.le {α:Type} {g:Nat->Option α} (z:Mono g) {n m:Nat} {a:α} (h:g n=some a) (q:n<=m):g m=some a:=by
 induction q with
 | refl=>exact h
 | step _ A=>exact z _ _ A
theorem ZBd {α:Type} {g:Nat->Option α} (A:Mono g) {n:Nat} {a:α} (h:g n=some a):gI g=some a:=by
 unfold gI;have q:∃n a,g n=some a:=⟨n,a,h⟩;rw[dif_pos q];obtain⟨b,hb⟩:=Classical.choose_spec q;have C:=A.le h (Nat.le_max_left n (Classical.choose q));have z:=A.le hb (Nat.le_max_right n (Classical.choose q));rw[hb];rw[C]at z;exact z.symm
end
abbrev AV (x:Int):Int:=IntKind.wrap .i64 x
end Go.Proofs.YtjodhcdmhobmoaaGreatDoor.Le
namespace Go.Proofs.YtjodhcdmhobmoaaGreatDoor.Le
structure AO (Ty:Nat->Type) (T:Type) where
 BJ:T->List V
 encS:T->List (SV Ty)
 dec:List (SV Ty)->Option (T×List (SV Ty))
section
variable {Ty:Nat->Type}
def AO.int (k:IntKind):AO Ty Int where
 BJ:=fun a=>[.lit (.int k a)]
 encS:=fun a=>[.si k a]
 dec:=fun cs=>match cs with
  | .si j a::r=>if j=k then some (a,r) else none
  | .lit (.int j a)::r=>if j=k then some (a,r) else none
  | _=>none
def AO.bool:AO Ty Bool where
 BJ:=fun b=>[.lit (.bool b)]
 encS:=fun b=>[.sb b]
 dec:=fun cs=>match cs with
  | .sb b::r=>some (b,r)
  | .lit (.bool b)::r=>some (b,r)
  | _=>none
def AO.str:AO Ty ByteArray where
 BJ:=fun b=>[.lit (.string b)]
 encS:=fun b=>[.ss b]
 dec:=fun cs=>match cs with
  | .ss b::r=>some (b,r)
  | .lit (.string b)::r=>some (b,r)
  | _=>none
def AO.list (t n:Nat) (e:Ty t->V):AO Ty (List (Ty t)) where
 BJ:=fun xs=>[.sl false n (xs.map e)]
 encS:=fun xs=>[.sl t xs]
 dec:=fun cs=>match cs with
  | .sl q xs::r=>if h:q = t then some (h▸xs,r) else none
  | .nil _::r=>some ([],r)
  | _=>none
def AO.unit:AO Ty Unit where
 BJ:=fun _=>[]
 encS:=fun _=>[]
 dec:=fun cs=>some ((),cs)
def AO.pair {A B:Type} (a:AO Ty A) (b:AO Ty B):AO Ty (A×B) where
 BJ:=fun x=>a.BJ x.1++b.BJ x.2
 encS:=fun x=>a.encS x.1++b.encS x.2
 dec:=fun cs=>match a.dec cs with
  | some (x,r)=>match b.dec r with|some (y,q)=>some ((x,y),q)|none=>none
  | none=>none
def AO.CY {A B:Type} (f:A->B) (g:B->A) (b:AO Ty B):AO Ty A where
 BJ:=fun x=>b.BJ (f x)
 encS:=fun x=>b.encS (f x)
 dec:=fun cs=>match b.dec cs with|some (y,r)=>some (g y,r)|none=>none
def AO.agg {T:Type} (c:AO Ty T) (v:SV Ty):Option T:=match v with
 | .agg cs=>match c.dec cs with|some (a,[])=>some a|_=>none
 | _=>none
def AO.one {T:Type} (c:AO Ty T) (v:SV Ty):Option T:=match c.dec [v] with|some (a,[])=>some a|_=>none
def AO.BV {T:Type} (c:AO Ty T) (a:T):V:=(c.BJ a).headD .no
def AO.DV {T:Type} (c:AO Ty T) (a:T):SV Ty:=(c.encS a).headD .no
end
structure A8 (U:Cc) {T:Type} (c:AO U.Ty T) (rs:List Nat):Prop where
 enc:∀a,Au U (c.encS a)=c.BJ a
 len:∀a,(c.BJ a).length=rs.length
 dec:∀cs a rest,c.dec cs=some (a,rest)->∃pre,cs=pre++rest/\pre.length=rs.length/\GR rs (Au U pre)=c.BJ a
 nr:∀a,Bz (c.BJ a)=true
 inj:∀a b,c.BJ a=c.BJ b->a=b
section
variable {U:Cc}
theorem A8.int (k:IntKind):A8 U (AO.int k:AO U.Ty Int) [0]:=by
 refine⟨fun a=>rfl,fun a=>rfl,?_,fun a=>rfl,fun a b h=>by simpa[AO.int]using h⟩;intro cs a z h;simp only[AO.int]at h;split at h
 ·rename_i j x r;split at h
  ·rename_i q;simp only[Option.some.injEq,Prod.mk.injEq]at h;obtain⟨rfl,rfl⟩:=h;subst q;exact⟨[_],rfl,rfl,rfl⟩
  ·cases h
 ·rename_i j x r;split at h
  ·rename_i q;simp only[Option.some.injEq,Prod.mk.injEq]at h;obtain⟨rfl,rfl⟩:=h;subst q;exact⟨[_],rfl,rfl,rfl⟩
  ·cases h
 ·cases h
theorem A8.bool:A8 U (AO.bool:AO U.Ty Bool) [0]:=by
 refine⟨fun a=>rfl,fun a=>rfl,?_,fun a=>rfl,fun a b h=>by simpa[AO.bool]using h⟩;intro cs a q h;simp only[AO.bool]at h;split at h<;>cases h<;>exact⟨[_],rfl,rfl,rfl⟩
theorem A8.str:A8 U (AO.str:AO U.Ty ByteArray) [0]:=by
 refine⟨fun a=>rfl,fun a=>rfl,?_,fun a=>rfl,fun a b h=>by simpa[AO.str]using h⟩;intro cs a q h;simp only[AO.str]at h;split at h<;>cases h<;>exact⟨[_],rfl,rfl,rfl⟩
theorem ZAW {α A:Type} {f:α->A} (q:∀a b,f a=f b->a=b):∀{xs ys:List α},xs.map f=ys.map f->xs=ys:=by
 intro xs;induction xs with
 | nil=>intro ys h;cases ys with
  | nil=>rfl
  | cons=>simp at h
 | cons x xs z=>intro ys h;cases ys with
  | nil=>simp at h
  | cons y ys=>
   simp only[List.map_cons,List.cons.injEq]at h;rw[q _ _ h.1,z h.2]
theorem A8.list {t n:Nat} {e:U.Ty t->V} (F:∀a,U.enc t a=e a) (C:U.Ar t=n) (A:∀a,CW (e a)=true) (z:∀a b,e a=e b->a=b):A8 U (AO.list t n e:AO U.Ty (List (U.Ty t))) [n]:=by
 have q:∀xs:List (U.Ty t),xs.map (U.enc t)=xs.map e:=fun xs=>List.map_congr_left fun a _=>F a;refine⟨fun a=>?_,fun a=>rfl,?_,fun a=>?_,fun a b h=>?_⟩
 ·simp[AO.list,Au,AU,C,q]
 ·intro cs a D h;simp only[AO.list]at h;split at h
  ·rename_i J xs r;split at h
   ·rename_i G;subst G;simp only[Option.some.injEq,Prod.mk.injEq]at h;obtain⟨rfl,rfl⟩:=h;exact⟨[_],rfl,rfl,by simp[Au,AU,GR,Gm,AO.list,C,q]⟩
   ·cases h
  ·cases h;exact⟨[_],rfl,rfl,by simp[Au,AU,GR,Gm,AO.list]⟩
  ·cases h
 ·simp only[AO.list,Bz,CW,Bool.and_true];rw[J6];intro x I;obtain⟨y,_,rfl⟩:=List.mem_map.1 I;exact A y
 ·simp only[AO.list,List.cons.injEq,V.sl.injEq,true_and,and_true]at h;exact ZAW z h
theorem A8.unit:A8 U (AO.unit:AO U.Ty Unit) []:=
 ⟨fun a=>rfl,fun a=>rfl,fun cs a q h=>by cases h;exact⟨[],rfl,rfl,rfl⟩,fun a=>rfl,fun a b _=>rfl⟩
theorem Zmp:∀(q z:List Nat) (x y:List V),x.length=q.length->GR (q++z) (x++y)=GR q x++GR z y:=by
 intro q;induction q with
 | nil=>intro z x y h;cases x with
  | nil=>simp[GR]
  | cons=>simp at h
 | cons r q A=>intro z x y h;cases x with
  | nil=>simp at h
  | cons v x=>simp[GR,A z x y (by simpa using h)]
theorem ZmN (x y:List V):Bz (x++y)=(Bz x&&Bz y):=by
 induction x with
 | nil=>simp[Bz]
 | cons a x q=>simp[Bz,q,Bool.and_assoc]
theorem A8.pair {A B:Type} {a:AO U.Ty A} {b:AO U.Ty B} {D F:List Nat} (z:A8 U a D) (hb:A8 U b F):A8 U (AO.pair a b) (D++F):=by
 refine⟨fun x=>?_,fun x=>?_,?_,fun x=>?_,fun x y h=>?_⟩
 ·simp only[AO.pair,QU,z.enc,hb.enc]
 ·simp only[AO.pair,List.length_append,z.len,hb.len]
 ·intro cs x G h;simp only[AO.pair]at h;split at h
  ·rename_i p r O;split at h
   ·rename_i q r' Q;cases h;obtain⟨Y,I,C,t1⟩:=z.dec _ _ _ O;obtain⟨p2,J,S,t2⟩:=hb.dec _ _ _ Q;refine⟨Y++p2,by rw[I,J,List.append_assoc],by simp[C,S],?_⟩;rw[QU,Zmp _ _ _ _ (by rw[IV];exact C),t1,t2];rfl
   ·cases h
  ·cases h
 ·simp only[AO.pair,ZmN,z.nr,hb.nr,Bool.and_self]
 ·simp only[AO.pair]at h;obtain⟨M,N⟩:=List.append_inj h (by rw[z.len,z.len]);obtain⟨x1,x2⟩:=x;obtain⟨y1,y2⟩:=y;exact Prod.ext (z.inj _ _ M) (hb.inj _ _ N)
theorem A8.CY {A B:Type} {f:A->B} {g:B->A} {b:AO U.Ty B} {r:List Nat} (hb:A8 U b r) (z:∀y,f (g y)=y) (q:∀x,g (f x)=x):A8 U (AO.CY f g b) r:=by
 refine⟨fun x=>hb.enc _,fun x=>hb.len _,?_,fun x=>hb.nr _,fun x y h=>?_⟩
 ·intro cs x C h;simp only[AO.CY]at h;split at h
  ·rename_i y F D;cases h;obtain⟨p,e,l,t⟩:=hb.dec _ _ _ D;exact⟨p,e,l,by simp only[AO.CY,z];exact t⟩
  ·cases h
 ·have:=hb.inj _ _ h;rw[<- q x,this,q]
theorem A8.agg {T:Type} {c:AO U.Ty T} {r:List Nat} (h:A8 U c r) {v:SV U.Ty} {a:T} (q:c.agg v=some a):Dz r (AU U v) = .agg (c.BJ a):=by
 unfold AO.agg at q;split at q
 ·split at q
  ·rename_i cs _ z;cases q;obtain⟨p,e,l,t⟩:=h.dec _ _ _ z;simp only[List.append_nil]at e;subst e;simp only[AU,Dz,t]
  ·cases q
 ·cases q
theorem A8.one {T:Type} {c:AO U.Ty T} {n:Nat} (h:A8 U c [n]) {v:SV U.Ty} {a:T} (z:c.one v=some a) (C:∀cs,AU U v≠.agg cs):Dz [n] (AU U v)=c.BV a:=by
 unfold AO.one at z;split at z
 ·rename_i A;cases z;obtain⟨p,e,l,t⟩:=h.dec _ _ _ A;simp only[List.append_nil]at e;subst e;simp only[Au,GR]at t;unfold AO.BV;rw[<- t];unfold Dz;split
  ·rename_i cs q;exact absurd q (C cs)
  ·rfl
 ·cases z
theorem Qd {k:IntKind} {v:SV U.Ty} {a:Int} (h:(AO.int k:AO U.Ty Int).one v=some a):∀cs,AU U v≠.agg cs:=by
 rintro cs hc
 cases v<;>simp_all [AU,AO.one,AO.int]
theorem ZC8 {v:SV U.Ty} {a:Bool} (h:(AO.bool:AO U.Ty Bool).one v=some a):∀cs,AU U v≠.agg cs:=by
 rintro cs hc
 cases v<;>simp_all [AU,AO.one,AO.bool]
theorem ZDE {v:SV U.Ty} {a:ByteArray} (h:(AO.str:AO U.Ty ByteArray).one v=some a):∀cs,AU U v≠.agg cs:=by
 rintro cs hc
 cases v<;>simp_all [AU,AO.one,AO.str]
theorem NJ {t n:Nat} {e:U.Ty t->V} {v:SV U.Ty} {a:List (U.Ty t)} (h:(AO.list t n e:AO U.Ty (List (U.Ty t))).one v=some a):∀cs,AU U v≠.agg cs:=by
 rintro cs hc
 cases v<;>simp_all [AU,AO.one,AO.list]
theorem A8.ZdR {T:Type} {c:AO U.Ty T} {n:Nat} (h:A8 U c [n]) (a:T):AU U (c.DV a)=c.BV a:=by
 unfold AO.DV AO.BV;rw[<- h.enc a];have q:=h.len a;rw[<- h.enc a,IV]at q;cases z:c.encS a with
 | nil=>rw[z]at q;simp at q
 | cons x xs=>rfl
theorem A8.Qb {T:Type} {c:AO U.Ty T} {n:Nat} (h:A8 U c [n]) {a b:T} (A:c.BV a=c.BV b):a=b:=by
 refine h.inj a b ?_;have q:=h.len a;have z:=h.len b;unfold AO.BV at A;cases C:c.BJ a with
 | nil=>rw[C]at q;simp at q
 | cons x xs=>
  cases hb:c.BJ b with
  | nil=>rw[hb]at z;simp at z
  | cons y ys=>
   rw[C,hb]at A;rw[C]at q;rw[hb]at z;simp only[List.headD_cons]at A;have D:xs=[]:=by simpa using q
   have F:ys=[]:=by simpa using z
   rw[A,D,F]
theorem A8.Ql {T:Type} {c:AO U.Ty T} {n:Nat} (h:A8 U c [n]) (a:T):CW (c.BV a)=true:=by
 have:=h.nr a;unfold AO.BV;cases q:c.BJ a with
 | nil=>rfl
 | cons x xs=>rw[q]at this;simp[Bz]at this;exact this.1
end
def AO.skip {Ty:Nat->Type}:AO Ty Unit where
 BJ:=fun _=>[.und]
 encS:=fun _=>[.und]
 dec:=fun cs=>match cs with
  | .und::r=>some ((),r)
  | _=>none
theorem A8.skip {U:Cc}:A8 U (AO.skip:AO U.Ty Unit) [0]:=by
 refine⟨fun a=>rfl,fun a=>rfl,?_,fun a=>rfl,fun a b _=>rfl⟩;intro cs a q h;simp only[AO.skip]at h;split at h<;>cases h;exact⟨[_],rfl,rfl,rfl⟩
def rawS {Ty:Nat->Type}:V->SV Ty
 | .lit v=>.lit v
 | .und=>.und
 | _=>.no
def fO:V->Bool
 | .lit _=>true
 | .und=>true
 | _=>false
def AO.NW {Ty:Nat->Type} {T:Type} (c:AO Ty T) (n:Nat) (a:T):V:=.CG n [.agg (c.BJ a)] 0 0
def AO.uZ {Ty:Nat->Type} {T:Type} (c:AO Ty T) (n:Nat) (v:SV Ty):Option T:=match v with
 | .raw (.CG m [.agg cs] 0 0)=>if m=n/\cs.all fO=true then c.agg (.agg (cs.map rawS)) else none
 | _=>none
theorem ZAg {U:Cc}:∀{cs:List V},cs.all fO=true->Au U (cs.map rawS)=cs:=by
 intro cs;induction cs with
 | nil=>intro _;rfl
 | cons c cs q=>
  intro h;simp only[List.all_cons,Bool.and_eq_true]at h;simp only[List.map_cons,Au,q h.2];cases c<;>simp_all [fO,rawS,AU]
theorem Zv2:∀{cs:List V},cs.all fO=true->∀rs,GR rs cs=cs:=by
 intro cs;induction cs with
 | nil=>intro _ rs;cases rs<;>rfl
 | cons c cs q=>
  intro h rs;simp only[List.all_cons,Bool.and_eq_true]at h;cases rs with
  | nil=>rfl
  | cons r rs=>
   simp only[GR,q h.2];cases c<;>simp_all [fO,Gm]
theorem A8.Zdh {U:Cc} {T:Type} {c:AO U.Ty T} {r:List Nat} (h:A8 U c r) {n:Nat} {v:SV U.Ty} {a:T} (z:c.uZ n v=some a) (rs:List Nat):Dz rs (AU U v)=c.NW n a:=by
 unfold AO.uZ at z;split at z
 ·rename_i m cs;split at z
  ·rename_i hc;obtain⟨rfl,q⟩:=hc;have:=h.agg z;simp only[AU,Dz,ZAg q,V.agg.injEq]at this;rw[Zv2 q]at this;simp only[AU,Dz,Gm,AO.NW,this]
  ·cases z
 ·cases z
theorem A8.ZdX {U:Cc} {T:Type} {c:AO U.Ty T} {r:List Nat} (h:A8 U c r) (n:Nat) (a:T):CW (c.NW n a)=true:=by
 simp[AO.NW,CW,Bz,h.nr]
theorem A8.Zdx {U:Cc} {T:Type} {c:AO U.Ty T} {r:List Nat} (h:A8 U c r) {n:Nat} {a b:T} (q:c.NW n a=c.NW n b):a=b:=by
 simp only[AO.NW,V.CG.injEq,List.cons.injEq,V.agg.injEq,and_true,true_and]at q;exact h.inj _ _ q
noncomputable def NY {U:Cc} (P:Program) (gl:Nat->Option (List V)) (f:FuncId) (mods:FuncId->Option (Aj U)) (hmods:FuncId->List FuncId->Option (HMod U)):Env:=
 { OB P (fun _=>false) (O1 mods) with
  func:=fun g=>if g=f then P.funcs[g]? else none
  Ef:=gl
  hm:=Vt hmods
  par:=fun g=>match mods g with|some m=>m.ts|none=>[] }
def ZBo (E:Env) (P:Program) (f:FuncId):Bool:=match (P.funcs[f]?).bind (·.body) with|some c=>!Ed E f c|none=>false
noncomputable def EV {U:Cc} (P:Program) (gl:Nat->Option (List V)) (f:FuncId) (mods:FuncId->Option (Aj U)) (hmods:FuncId->List FuncId->Option (HMod U)):Env:=
 { NY P gl f mods hmods with quiet:=ZBo (NY P gl f mods hmods) P f }
section
variable {U:Cc} {P:Program} {gl:Nat->Option (List V)} {f:FuncId} {mods:FuncId->Option (Aj U)} {hmods:FuncId->List FuncId->Option (HMod U)}
theorem Zev (F:P.follows .mixedOrders=true) {fn:Func} {c:Code} (A:P.funcs[f]? = some fn) (C:(fn.name == "runtime.NumGoroutine")=false) (hb:fn.body=some c) (q:Ed (EV P gl f mods hmods) f c=true):Cf (EV P gl f mods hmods):=by
 refine⟨fun t i h=>h,?_,F,?_,?_,?_,?_,fun t ks h=>h,?_⟩
 ·intro g G h;simp only[EV,NY]at h;split at h
  ·rename_i I;subst I;rw[A]at h;cases h;exact⟨A,C⟩
  ·cases h
 ·intro g G M h D;simp only[EV,NY]at h;split at h
  ·rename_i I;subst I;rw[A]at h;cases h;rw[hb]at D;cases D;exact q
  ·cases h
 ·intro t k h;simp only[EV,NY,OB]at h;split at h
  ·rename_i d z;simp only[Option.some.injEq]at h;subst h;exact z
  ·cases h
 ·intro t h;simp only[EV,NY,OB]at h;split at h
  ·rename_i z;exact z
  ·cases h
 ·intro t h;simp only[EV,NY,OB]at h;split at h
  ·rename_i z;exact z
  ·cases h
 ·intro t h;simp only[EV,NY,OB]at h;split at h
  ·rename_i e J;split at h
   ·rename_i z;exact⟨e,J,z⟩
   ·cases h
  ·cases h
def rH:(ts:List Nat)->F9 U ts->List (SV U.Ty)
 | [],_=>[]
 | t::ts,x=>U.encS t x.1::rH ts x.2
def eU (ts:List Nat) (x:F9 U ts) (n:Nat):Df U:=⟨rH ts x++List.replicate (n - ts.length) .no,[]⟩
theorem ZoE {E:Env} (q:D9 U E):∀{ts:List Nat} (x:F9 U ts),Au U (rH ts x)=Gf ts x:=by
 intro ts;induction ts with
 | nil=>intro x;rfl
 | cons t ts z=>intro x;simp only[rH,Au,Gf,q.encS,z]
theorem Z7t:∀{ts:List Nat} (x:F9 U ts),(Gf ts x).length=ts.length:=by
 intro ts;induction ts with
 | nil=>intro x;rfl
 | cons t ts q=>intro x;simp[Gf,q]
theorem ZvG {E:Env} (q:D9 U E) {ts:List Nat} (x:F9 U ts) (n:Nat):CX U (eU ts x n)=⟨Gf ts x++List.replicate (n - (Gf ts x).length) EH,[]⟩:=by
 simp only[CX,eU,QU,ZoE q,Z7t];congr 1;congr 1;rw[Es,List.map_replicate];rfl
theorem fn_ok {E0:Env} (z:E0.Ef=gl) (M:D9 U (EV P gl f mods hmods)) (G:P.follows .mixedOrders=true) {fn:Func} {c:Code} (I:∀g m,mods g=some m->Ai P E0 g m) (F:∀g k m,hmods g k=some m->DU P E0 g m) (C:P.funcs[f]? = some fn) (q:(fn.name == "runtime.NumGoroutine")=false)
  (hb:fn.body=some c) (A:Ed (EV P gl f mods hmods) f c=true) (m:Aj U)
  (h:∀x a,m.fn x=some a->DY (En (EV P gl f mods hmods) 1) (EV P gl f mods hmods) f fn 0 (Zp (EV P gl f mods hmods) fn) (.run c) [] (CX U (eU m.ts x fn.ntmps)) (U.enc m.rt a,[])):Ai P E0 f m:=by
 have N:=Zev (gl:=gl) (mods:=mods) G C q hb A;have O:Qg P (EV P gl f mods hmods):=ZcC M rfl rfl (fun _=>rfl) (fun g m hm=>(I g m hm).Ef (by rw[z];rfl)) (fun g k m hm=>(F g k m hm).Ef (by rw[z];rfl));have D : (EV P gl f mods hmods).func f=some fn:=by simp only[EV,NY,if_true];exact C
 have key:∀x a,m.fn x=some a->OG P f/\OT P (EV P gl f mods hmods) f (Gf m.ts x) (U.enc m.rt a):=by
  intro x a J;have:=h x a J;rw[ZvG M]at this;exact Zoy N rfl O D hb this
 refine⟨⟨fn,C,by simp[hb],q⟩,fun x a J fz w vs hc Q Y=>(key x a J).2 fz w vs hc ?_ Y⟩;intro g r S;exact Q g r (by rw[z];exact S)
def fD (e:List (SV U.Ty)×BH U) (n:Nat):Df U:=⟨e.1++List.replicate (n - e.1.length) .no,e.2⟩
theorem Zv3 (e:List (SV U.Ty)×BH U) (n:Nat):CX U (fD e n)=⟨Au U e.1++List.replicate (n - (Au U e.1).length) EH,BO U e.2⟩:=by
 simp only[CX,fD,QU,IV];congr 1;congr 1;rw[Es,List.map_replicate];rfl
theorem ZCI {E0:Env} (z:E0.Ef=gl) (O:D9 U (EV P gl f mods hmods)) (G:P.follows .mixedOrders=true) {fn:Func} {c:Code} (I:∀g m,mods g=some m->Ai P E0 g m) (F:∀g k m,hmods g k=some m->DU P E0 g m) (C:P.funcs[f]? = some fn) (q:(fn.name == "runtime.NumGoroutine")=false)
  (hb:fn.body=some c) (A:Ed (EV P gl f mods hmods) f c=true) (m:HMod U) {fa:List (List Fk)} {fb:List Bf} {k:Nat} (hk:∀x:m.D7.X U,(m.D7.enc x).2.length=k)
  (h:∀(x:m.D7.X U) (y:U.Ty m.ky),m.fn x=some y->DY (En (EV P gl f mods hmods) 1) (EV P gl f mods hmods) f fn k (Zh (EV P gl f mods hmods) fn fa fb k) (.run c) [] (CX U (fD (m.D7.enc x) fn.ntmps)) (AU U (m.out y).1,BO U (m.out y).2)):DU P E0 f m:=by
 have M:=Zev (gl:=gl) (mods:=mods) (hmods:=hmods) G C q hb A;have N:Qg P (EV P gl f mods hmods):=ZcC O rfl rfl (fun _=>rfl) (fun g m hm=>(I g m hm).Ef (by rw[z];rfl)) (fun g k m hm=>(F g k m hm).Ef (by rw[z];rfl));have D : (EV P gl f mods hmods).func f=some fn:=by simp only[EV,NY,if_true];exact C
 refine⟨⟨fn,C,by simp[hb],q⟩,fun x y hx B w0 σ w vs Y Q hr=>?_⟩;have J:=h x y hx;rw[Zv3]at J;exact(Zp1 M rfl N D hb (by rw[SC];exact hk x) J).2 B w0 σ w vs Y (fun g r S=>Q g r (by rw[z];exact S)) hr
theorem ZdW (q:D9 U (EV P gl f mods hmods)):NR U (Qs mods hmods) (En (EV P gl f mods hmods) 1):=
 ZAo q rfl rfl (fun _=>rfl) (fun g m h=>by simp only[EV,NY,h]) (fun _=>rfl) 0
end
structure CB (U:Cc) (E:Env) (t:Nat):Prop where
 encS:∀a,AU U (U.encS t a)=U.enc t a
 dec:∀v a,U.Gv t v=some a->Dz (E.rows t) (AU U v)=U.enc t a
 cells:∀a,(U.enc t a).cells=Au U (cellsS (U.encS t a))
 nr:∀a,CW (U.enc t a)=true
 inj:∀a b,U.enc t a=U.enc t b->a=b
def eX (U:Cc) (E:Env) {α:Type}:List ((i:Nat)×(α->U.Ty i))->Prop
 | []=>True
 | c::cs=>CB U E c.1/\eX U E cs
def Z3I (U:Cc) {α:Type} (x y:α):List ((i:Nat)×(α->U.Ty i))->Prop
 | []=>True
 | c::cs=>c.2 x=c.2 y/\Z3I U x y cs
theorem Zcs {U:Cc} {E:Env} {α:Type} (x:α):∀{cs:List ((i:Nat)×(α->U.Ty i))},eX U E cs->Au U (cs.map fun c=>U.encS c.1 (c.2 x))=cs.map fun c=>U.enc c.1 (c.2 x):=by
 intro cs;induction cs with
 | nil=>intro _;rfl
 | cons c cs q=>intro h;simp only[List.map_cons,Au,h.1.encS,q h.2]
theorem ZAH {U:Cc} {E:Env} {α:Type} (x:α):∀{cs:List ((i:Nat)×(α->U.Ty i))},eX U E cs->Bz (cs.map fun c=>U.enc c.1 (c.2 x))=true:=by
 intro cs;induction cs with
 | nil=>intro _;rfl
 | cons c cs q=>intro h;simp only[List.map_cons,Bz,h.1.nr,q h.2,Bool.and_self]
theorem ZzY {U:Cc} {E:Env} {α:Type} (x y:α):∀{cs:List ((i:Nat)×(α->U.Ty i))},eX U E cs->(cs.map fun c=>U.enc c.1 (c.2 x))=(cs.map fun c=>U.enc c.1 (c.2 y))->Z3I U x y cs:=by
 intro cs;induction cs with
 | nil=>intro _ _;trivial
 | cons c cs q=>intro h e;simp only[List.map_cons,List.cons.injEq]at e;exact⟨h.1.inj _ _ e.1,q h.2 e.2⟩
theorem CB.BL {U:Cc} {E:Env} {t:Nat} (cs:List ((i:Nat)×(U.Ty t->U.Ty i))) (h:eX U E cs) (q:∀x,U.enc t x = .BL (cs.map fun c=>U.enc c.1 (c.2 x))) (z:∀x,U.encS t x = .BL (cs.map fun c=>U.encS c.1 (c.2 x))) (A:∀v,U.Gv t v=none)
  (C:∀x y,Z3I U x y cs->x=y):CB U E t:=by
 refine⟨fun a=>?_,fun v a e=>?_,fun a=>?_,fun a=>?_,fun a b e=>?_⟩
 ·rw[q,z,AU,Zcs a h]
 ·rw[A]at e;cases e
 ·rw[q,z];show [V.BL _]=[V.BL _];rw[Zcs a h]
 ·rw[q];exact ZAH a h
 ·rw[q,q]at e;exact C a b (ZzY a b h (V.BL.inj e))
theorem CB.Gp {U:Cc} {E:Env} {t:Nat} {c:AO U.Ty (U.Ty t)} {rs:List Nat} (hc:A8 U c rs) (C:E.rows t=rs) (q:∀a,U.enc t a = .agg (c.BJ a)) (z:∀a,U.encS t a = .agg (c.encS a)) (A:∀v,U.Gv t v=c.agg v):CB U E t:=by
 refine⟨fun a=>?_,fun v a h=>?_,fun a=>?_,fun a=>?_,fun a b h=>?_⟩
 ·rw[q,z,AU,hc.enc]
 ·rw[C,q];exact hc.agg (by rw[<- A];exact h)
 ·rw[q,z];exact(hc.enc a).symm
 ·rw[q];exact hc.nr a
 ·rw[q,q]at h;exact hc.inj _ _ (V.agg.inj h)
theorem CB.He {U:Cc} {E:Env} {t n:Nat} {c:AO U.Ty (U.Ty t)} (hc:A8 U c [n]) (F:E.rows t=[n]) (G:∀{v:SV U.Ty} {a:U.Ty t},c.one v=some a->∀cs,AU U v≠.agg cs) (q:∀a,U.enc t a=c.BV a) (z:∀a,U.encS t a=c.DV a) (A:∀v,U.Gv t v=c.one v)
  (C:∀a,(c.BV a).cells=[c.BV a]) (D:∀a,cellsS (c.DV a)=[c.DV a]):CB U E t:=by
 refine⟨fun a=>?_,fun v a h=>?_,fun a=>?_,fun a=>?_,fun a b h=>?_⟩
 ·rw[q,z];exact hc.ZdR a
 ·rw[A]at h;rw[F,q];exact hc.one h (G h)
 ·rw[q,z,C,D,Au,Au,hc.ZdR]
 ·rw[q];exact hc.Ql a
 ·rw[q,q]at h;exact hc.Qb h
def gK (p:Nat->Prop):List Nat->Prop
 | []=>True
 | t::ts=>p t/\gK p ts
theorem gK.at {p:Nat->Prop} {t:Nat}:∀{l:List Nat},gK p l->t∈l->p t:=by
 intro l;induction l with
 | nil=>intro _ m;cases m
 | cons x l q=>
  intro h m;rcases List.mem_cons.1 m with rfl|m
  ·exact h.1
  ·exact q h.2 m
section
variable {U:Cc} {R P:Type}
def Gs {R P:Type} (g:P->Option R):R⊕P->Option R
 | .inl r=>some r
 | .inr q=>g q
def Qq (T:P->Tr U (R⊕P)):Nat->P->Option R
 | 0,_=>none
 | n+1,p=>(T p).den (Gs (Qq T n))
noncomputable def AY (T:P->Tr U (R⊕P)) (p:P):Option R:=gI fun n=>Qq T n p
theorem ZdT {L:Type} {J K:L->Option R} (h:∀l r,J l=some r->K l=some r):∀{T:Tr U L} {r:R},T.den J=some r->T.den K=some r:=by
 intro T;induction T with
 | leaf l=>intro r q;exact h l r q
 | br c a b A C=>intro r q;cases c with
  | true=>exact A q
  | false=>exact C q
 | bind t o k z=>intro r q;cases o with
  | none=>cases q
  | some a=>exact z a q
 | chk c a z=>intro r q;cases c with
  | true=>exact z q
  | false=>cases q
 | fail=>intro r q;cases q
theorem Zvy (T:P->Tr U (R⊕P)):∀n p r,Qq T n p=some r->Qq T (n+1) p=some r:=by
 intro n;induction n with
 | zero=>intro p r h;cases h
 | succ n A=>
  intro p r h;refine ZdT ?_ h;intro l r z;cases l with
  | inl a=>exact z
  | inr q=>exact A q r z
theorem Zdk (T:P->Tr U (R⊕P)) {n:Nat} {p:P} {r:R} (h:Qq T n p=some r):AY T p=some r:=
 ZBd (fun n a h=>Zvy T n p a h) h
theorem BA (T:P->Tr U (R⊕P)) (p:P):AY T p=(T p).den (Gs (AY T)):=by
 have M:∀r,AY T p=some r->(T p).den (Gs (AY T))=some r:=by
  intro r h;obtain⟨n,A⟩:=Z2M h;cases n with
  | zero=>cases A
  | succ n=>
   refine ZdT ?_ A;intro l r C;cases l with
   | inl a=>exact C
   | inr q=>exact Zdk T C
 have N:∀r,(T p).den (Gs (AY T))=some r->AY T p=some r:=by
  intro r h;obtain⟨l,C,J⟩:=ZcL h;have key:∃n,(T p).den (Gs (Qq T n))=some r:=by
   have A:∃n,Gs (Qq T n) l=some r:=by
    cases l with
    | inl a=>exact⟨0,J⟩
    | inr q=>obtain⟨n,A⟩:=Z2M J;exact⟨n,A⟩
   obtain⟨n,A⟩:=A;refine⟨n,?_⟩;have:∀(X:Tr U (R⊕P)),X.AZ l->X.den (Gs (Qq T n))=some r:=by
    intro X;induction X with
    | leaf x=>intro z;simp only[Tr.AZ]at z;subst z;exact A
    | br c a b G I=>
     rintro (⟨rfl,z⟩|⟨rfl,z⟩)
     ·exact G z
     ·exact I z
    | bind t o k F=>rintro ⟨a,rfl,z⟩;exact F a z
    | chk c a F=>rintro ⟨rfl,z⟩;exact F z
    | fail=>intro z;exact z.elim
   exact this _ C
  obtain⟨n,A⟩:=key;exact Zdk T (n:=n+1) A
 cases D:AY T p with
 | some r=>exact(M r D).symm
 | none=>
  cases hb:(T p).den (Gs (AY T)) with
  | none=>rfl
  | some r=>rw[N r hb]at D;cases D
structure Ae (U:Cc) where
 c:Code
 K:List Fr
 st:Df U
 sk:Bool
def TE {R:Type} (out:R->SV U.Ty×BH U) (z:P->Ae U):R⊕P->Vr U
 | .inl r=>.done (out r)
 | .inr q=>.jump (z q).c (z q).K (z q).st
end
def vI {U:Cc} (rt:Nat) (r:U.Ty rt):SV U.Ty×BH U:=(U.encS rt r,[])
structure Lay where
 keep:List Nat
 fa:List (List Fk)
 fb:List Bf
 sh:Shape
section
variable {U:Cc}
def sN {L:Type} (q:List Bool) (t:Tr U L):Tr U L:=match q with
 | []=>t
 | c::cs=>.chk (VS (c::cs)) t
theorem Z1j {L:Type} {q:List Bool} {t:Tr U L} {l:L} (h:(sN q t).AZ l):(∀b∈q,b=true)/\t.AZ l:=by
 cases q with
 | nil=>exact⟨by intro b hb;simp at hb,h⟩
 | cons c cs=>exact⟨Zbp h.1,h.2⟩
def layT (q:Nat) (l:Lay) (st:Df U):Tr U (Df U):=
 (Vb l.fa l.fb q (l.keep.map fun i=>st.s.getD i .und) st.H).andThen fun r=>
  .when (r.1.take q=List.range q) (match l.sh.dec (NM (r.1.idxOf ·) r.2.1) (V6 r.2.2 r.1) with
   | some x=>sN x.2 (.leaf ⟨spread .und st.s.length l.keep (l.sh.enc x.1).1,(l.sh.enc x.1).2⟩)
   | none=>.fail)
theorem Zxx (s:List (SV U.Ty)) (keep:List Nat):Au U (keep.map fun i=>s.getD i .und)=keep.map fun i=>(Au U s).getD i .und:=by
 induction keep with
 | nil=>rfl
 | cons i keep q=>simp only[List.map_cons,Au,q,<- VD]
theorem ZAU {E:Env} (F:D9 U E) {z:Nat} {l:Lay} {st st' : Df U} (h:(layT z l st).AZ st'):∃ids as A,pack l.fa l.fb z (l.keep.map fun i=>(CX U st).s.getD i .und) (CX U st).H=some (ids,as,A)/\ids.take z=List.range z /\
  CX U st' = ⟨spread .und (CX U st).s.length l.keep (Gg (ids.idxOf ·) as),Ii A ids⟩:=by
 simp only[layT,EL,E8]at h;obtain⟨p,I,G,h⟩:=h;have q :=rG I;rw[Zxx]at q;split at h
 ·rename_i x J;obtain⟨hb,h⟩:=Z1j h;simp only[Tr.AZ]at h;subst h;obtain⟨C,D⟩:=Shape.sW F J hb;refine⟨_,_,_,q,G,?_⟩;rw[Oy]at C;rw[pR]at D;simp only[CX];rw[C,D,IV];congr 1;rw[Es,Zuh,<- Es];rfl
 ·simp[Tr.AZ]at h
def uG (E:Env) (fn:Func) (fa:List (List Fk)) (fb:List Bf) (k:Nat) (sh:Shape) (one:Bool) (st:Df U):Tr U (SV U.Ty×BH U):=
 (Z4l E fn fa fb k st).andThen fun r=>match one,r.1 with
  | true,.BL _=>.fail
  | true,v=>(match sh.dec [v] r.2 with
   | some x=>sN x.2 (.leaf ((sh.enc x.1).1.headD .und,(sh.enc x.1).2))
   | none=>.fail)
  | false,.BL vs=>(match sh.dec vs r.2 with
   | some x=>sN x.2 (.leaf (.BL (sh.enc x.1).1,(sh.enc x.1).2))
   | none=>.fail)
  | false,_=>.fail
theorem ZA7 {E:Env} (C:D9 U E) {fn:Func} {fa:List (List Fk)} {fb:List Bf} {k:Nat} {sh:Shape} {one:Bool} {st:Df U} {r:SV U.Ty×BH U} (h:(uG E fn fa fb k sh one st).AZ r):Zh E fn fa fb k (CX U st) (AU U r.1,BO U r.2):=by
 simp only[uG,EL]at h;obtain⟨q,I,h⟩:=h;have J:=ZzB C I;have key:AU U q.1=AU U r.1/\BO U q.2=BO U r.2:=by
  split at h
  ·simp[Tr.AZ]at h
  ·split at h
   ·rename_i x F;obtain⟨hb,h⟩:=Z1j h;simp only[Tr.AZ]at h;subst h;obtain⟨z,A⟩:=Shape.sW C F hb;refine⟨?_,A⟩;cases G:(sh.enc x.1).1 with
    | nil=>rw[G]at z;cases z
    | cons y ys=>
     rw[G]at z;simp only[Au,List.cons.injEq]at z;exact z.1
   ·simp[Tr.AZ]at h
  ·rename_i vs D;split at h
   ·rename_i x F;obtain⟨hb,h⟩:=Z1j h;simp only[Tr.AZ]at h;subst h;obtain⟨z,A⟩:=Shape.sW C F hb;refine⟨?_,A⟩;rw[D];simp only[AU,z]
   ·simp[Tr.AZ]at h
  ·simp[Tr.AZ]at h
 rw[<- key.1,<- key.2];exact J
def EU (E:Env) (M:IK U) (A:Nat->Option Lay) (f:FuncId) (fn:Func) (q:Nat) (D:Df U->Tr U (SV U.Ty×BH U)):Nat->Vw->List Fr->Df U->Bool->Tr U (Vr U)
 | 0,_,_,_,_=>.fail
 | n+1,.run c,K,st,sk=>
  match c with
  | .skip=>EU E M A f fn q D n .nxt K st sk
  | .region id ops draw=>
   let z:Tr U (Vr U):=if draw then (if E.calm f id then (uK E M ops st).andThen fun st' =>EU E M A f fn q D n .nxt K st' false else .fail)
    else (opsT E M ops (List.range ops.size) st).andThen fun st' =>EU E M A f fn q D n .nxt K st' false
   match sk with
   | true=>z
   | false=>match A id with
    | none=>z
    | some l=>(layT q l st).andThen fun st' =>.leaf (.jump (.region id ops draw) K st')
  | .seq a b=>EU E M A f fn q D n (.run a) (.seq b::K) st sk
  | .cond c a b=>match DD E st.s c with
   | .lit (.bool true)=>EU E M A f fn q D n (.run a) K st sk
   | .lit (.bool false)=>EU E M A f fn q D n (.run b) K st sk
   | .sb t=>.br t (EU E M A f fn q D n (.run a) K st sk) (EU E M A f fn q D n (.run b) K st sk)
   | _=>.fail
  | .block id b=>EU E M A f fn q D n (.run b) (.blk id::K) st sk
  | .loop b=>EU E M A f fn q D n (.run b) (.loop b::K) st sk
  | .scope b=>EU E M A f fn q D n (.run b) K st sk
  | .label _=>EU E M A f fn q D n .nxt K st sk
  | .exit id=>EU E M A f fn q D n (.exit id) K st sk
  | .ret=>EU E M A f fn q D n .ret K st sk
  | _=>.fail
 | n+1,.nxt,[],st,_=>(D st).andThen fun v=>.leaf (.done v)
 | n+1,.nxt,.seq c::K,st,sk=>EU E M A f fn q D n (.run c) K st sk
 | n+1,.nxt,.blk _::K,st,sk=>EU E M A f fn q D n .nxt K st sk
 | n+1,.nxt,.loop b::K,st,sk=>EU E M A f fn q D n (.run b) (.loop b::K) st sk
 | n+1,.exit id,.blk i::K,st,sk=>if id=i then EU E M A f fn q D n .nxt K st sk else EU E M A f fn q D n (.exit id) K st sk
 | n+1,.exit id,_::K,st,sk=>EU E M A f fn q D n (.exit id) K st sk
 | n+1,.exit _,[],_,_=>.fail
 | n+1,.ret,[],st,_=>(D st).andThen fun v=>.leaf (.done v)
 | n+1,.ret,_::K,st,sk=>EU E M A f fn q D n .ret K st sk
theorem ZBa {E:Env} {M:IK U} {A:Nat->Option Lay} {call:Dn} (S:D9 U E) (hM:NR U M call) {f:FuncId} {fn:Func} {J:Nat} {D:Df U->Tr U (SV U.Ty×BH U)} {Z:St->V×Heap->Prop} (hD:∀st s,(D st).AZ s->Z (CX U st) (AU U s.1,BO U s.2)) {r:V×Heap}:∀(n:Nat) (F:Vw) (K:List Fr) (st:Df U) (sk:Bool) (l:Vr U),
  (EU E M A f fn J D n F K st sk).AZ l->ZzI call E f fn J Z l r->DY call E f fn J Z F K (CX U st) r:=by
 intro n;induction n with
 | zero=>intro F K st sk l h;simp[EU,Tr.AZ]at h
 | succ n z=>
  intro F K st sk l h q;cases F with
  | run c=>
   cases c with
   | skip=>exact .skip (z _ _ _ _ _ h q)
   | region id ops draw=>
    simp only[EU]at h;have go:(if draw=true then (if E.calm f id=true then (uK E M ops st).andThen fun st' =>EU E M A f fn J D n .nxt K st' false else .fail)
      else (opsT E M ops (List.range ops.size) st).andThen fun st' =>EU E M A f fn J D n .nxt K st' false:Tr U (Vr U)).AZ l->DY call E f fn J Z (.run (.region id ops draw)) K (CX U st) r:=by
     intro I;cases draw with
     | true=>
      simp only[if_true]at I
      by_cases hc:E.calm f id=true
      ·rw[if_pos hc,EL]at I;obtain⟨N,G,O⟩:=I;exact .draw hc (Zzc S hM G) (z _ _ _ _ _ O q)
      ·rw[if_neg hc]at I;simp[Tr.AZ]at I
     | false=>
      simp only[Bool.false_eq_true,if_false]at I;rw[EL]at I;obtain⟨N,G,O⟩:=I;exact .region (ZCB S hM G) (z _ _ _ _ _ O q)
    cases sk with
    | true=>exact go h
    | false=>
     simp only at h;split at h
     ·exact go h
     ·rename_i l' hA;simp only[EL,Tr.AZ]at h;obtain⟨N,ht,rfl⟩:=h;obtain⟨ids,as,H2,G,O,h3⟩:=ZAU S ht;have Q : DY call E f fn J Z (.run (.region id ops draw)) K (CX U N) r:=q;rw[h3]at Q;exact .Zey G O Q
   | seq a b=>exact .seq (z _ _ _ _ _ h q)
   | cond c a b=>
    simp only[EU]at h;have C:ev E (CX U st).s c=AU U (DD E st.s c):=Fe E st.s c;split at h
    ·rename_i hc;rw[hc]at C;exact .cond (t:=true) C (z _ _ _ _ _ h q)
    ·rename_i hc;rw[hc]at C;exact .cond (t:=false) C (z _ _ _ _ _ h q)
    ·rename_i t hc;rw[hc]at C;simp only[Tr.AZ]at h;rcases h with ⟨rfl,h⟩|⟨rfl,h⟩
     ·exact .cond (t:=true) C (z _ _ _ _ _ h q)
     ·exact .cond (t:=false) C (z _ _ _ _ _ h q)
    ·simp[Tr.AZ]at h
   | block id b=>exact .block (z _ _ _ _ _ h q)
   | loop b=>exact .loop (z _ _ _ _ _ h q)
   | scope b=>exact .scope (z _ _ _ _ _ h q)
   | label l=>exact .label (z _ _ _ _ _ h q)
   | exit id=>exact .exit (z _ _ _ _ _ h q)
   | ret=>exact .ret (z _ _ _ _ _ h q)
   | _=>simp[EU,Tr.AZ]at h
  | nxt=>
   cases K with
   | nil=>
    simp only[EU,EL,Tr.AZ]at h;obtain⟨v,G,rfl⟩:=h;have:r=(AU U v.1,BO U v.2):=q;rw[this];exact .finN (hD _ _ G)
   | cons x K=>
    cases x with
    | seq c=>exact .nseq (z _ _ _ _ _ h q)
    | blk i=>exact .nblk (z _ _ _ _ _ h q)
    | loop b=>exact .Zez (z _ _ _ _ _ h q)
  | exit id=>
   cases K with
   | nil=>simp[EU,Tr.AZ]at h
   | cons x K=>
    cases x with
    | seq c=>exact .eseq (z _ _ _ _ _ h q)
    | blk i=>
     simp only[EU]at h;split at h
     ·rename_i Y;subst Y;exact .eblk (z _ _ _ _ _ h q)
     ·rename_i Y;exact .Zep Y (z _ _ _ _ _ h q)
    | loop b=>exact .Zes (z _ _ _ _ _ h q)
  | ret=>
   cases K with
   | nil=>
    simp only[EU,EL,Tr.AZ]at h;obtain⟨v,G,rfl⟩:=h;have:r=(AU U v.1,BO U v.2):=q;rw[this];exact .finR (hD _ _ G)
   | cons x K=>exact .rany (z _ _ _ _ _ h q)
theorem ZaR {R P:Type} {E:Env} {M:IK U} {A:Nat->Option Lay} {call:Dn} (Y:D9 U E) (S:NR U M call) {f:FuncId} {fn:Func} {J:Nat} {D:Df U->Tr U (SV U.Ty×BH U)} {Z:St->V×Heap->Prop} (Q:∀st s,(D st).AZ s->Z (CX U st) (AU U s.1,BO U s.2))
  {out:R->SV U.Ty×BH U} {N:Nat} (T:P->Tr U (R⊕P)) (z:P->Ae U)
  (h:∀p,EU E M A f fn J D N (.run (z p).c) (z p).K (z p).st (z p).sk=(T p).map (TE out z)) {p:P} {r:R} (I:AY T p=some r) :
  DY call E f fn J Z (.run (z p).c) (z p).K (CX U (z p).st) (AU U (out r).1,BO U (out r).2):=by
 obtain⟨n,G⟩:=Z2M I;clear I;induction n generalizing p r with
 | zero=>cases G
 | succ n ih=>
  obtain⟨l,O,C⟩:=ZcL G;have F:=ZA9 (g:=TE out z) O;rw[<- h p]at F;refine ZBa Y S Q N _ _ _ _ _ F ?_;cases l with
  | inl a=>
   simp only[Gs,Option.some.injEq]at C;subst C;rfl
  | inr q=>exact ih C
end
def spot {U:Cc} (c:Code) (p:List Nat) (n:Nat) (keep:List Nat) (e:List (SV U.Ty)×BH U):Ae U:=⟨(Py c p []).1,(Py c p []).2,⟨spread .und n keep e.1,e.2⟩,true⟩
theorem Zd4 {U:Cc} {P:Program} {gl:Nat->Option (List V)} {f:FuncId} {mods:FuncId->Option (Aj U)} {hmods:FuncId->List FuncId->Option (HMod U)} {E0:Env} (J:E0.Ef=gl) (D:D9 U (EV P gl f mods hmods)) (G:P.follows .mixedOrders=true) {fn:Func} {c:Code}
  (O:∀g m,mods g=some m->Ai P E0 g m) (F:∀g k m,hmods g k=some m->DU P E0 g m) (M:P.funcs[f]? = some fn) (z:(fn.name == "runtime.NumGoroutine")=false) (hb:fn.body=some c) (q:Ed (EV P gl f mods hmods) f c=true) (m:Aj U)
  {I:Type} {A:Nat->Option Lay} {N:Nat} (T:I->Tr U (U.Ty m.rt⊕I)) (C:I->Ae U)
  (h:∀p,EU (EV P gl f mods hmods) (Qs mods hmods) A f fn 0 (fG (EV P gl f mods hmods) fn) N (.run (C p).c) (C p).K (C p).st (C p).sk=(T p).map (TE (vI m.rt) C))
  (b0:F9 U m.ts->I) (hm:∀x,m.fn x=AY T (b0 x)) (Q:∀x,C (b0 x)=⟨c,[],eU m.ts x fn.ntmps,false⟩):Ai P E0 f m:=by
 refine fn_ok J D G O F M z hb q m fun x a S=>?_;rw[hm]at S;have:=ZaR D (ZdW D) (fun st s Y=>ZA3 D Y) T C h S;rw[Q]at this;simp only[vI,D.encS]at this;exact this
theorem ZyR {U:Cc} {P:Program} {gl:Nat->Option (List V)} {f:FuncId} {mods:FuncId->Option (Aj U)} {hmods:FuncId->List FuncId->Option (HMod U)} {E0:Env} (J:E0.Ef=gl) (I:D9 U (EV P gl f mods hmods)) (F:P.follows .mixedOrders=true) {fn:Func} {c:Code}
  (O:∀g m,mods g=some m->Ai P E0 g m) (D:∀g k m,hmods g k=some m->DU P E0 g m) (M:P.funcs[f]? = some fn) (z:(fn.name == "runtime.NumGoroutine")=false) (hb:fn.body=some c) (q:Ed (EV P gl f mods hmods) f c=true) (m:HMod U)
  {fa:List (List Fk)} {fb:List Bf} {k:Nat} (Y:∀x:m.D7.X U,(m.D7.enc x).2.length=k) {G:Type} {A:Nat->Option Lay} {N:Nat} (T:G->Tr U (U.Ty m.ky⊕G)) (C:G->Ae U)
  (h:∀p,EU (EV P gl f mods hmods) (Qs mods hmods) A f fn k (uG (EV P gl f mods hmods) fn fa fb k m.JP m.one) N (.run (C p).c) (C p).K (C p).st (C p).sk=(T p).map (TE m.out C))
  (b0:m.D7.X U->G) (hm:∀x:m.D7.X U,m.fn x=AY T (b0 x)) (Q:∀x:m.D7.X U,C (b0 x)=⟨c,[],fD (m.D7.enc x) fn.ntmps,false⟩):DU P E0 f m:=by
 refine ZCI J I F O D M z hb q m Y (fa:=fa) (fb:=fb) fun x y S=>?_;rw[hm]at S;have:=ZaR I (ZdW I) (fun st s hs=>ZA7 I hs) T C h S;rw[Q]at this;exact this
end Go.Proofs.YtjodhcdmhobmoaaGreatDoor.Le
