/- A part of it. -/
import Derived.Test.YtlabamnhpgoekaaGreatDoorL4
set_option linter.unusedVariables false
set_option linter.unusedSimpArgs false
namespace Go.Proofs.YtlabamnhpgoekaaGreatDoor.Le
section
variable {U:CE}
mutual
def FT:SV U.Ty->List Nat
 | .all id _=>[id]
 | .Az id _ _ _=>[id]
 | .ptr id _ _ _=>[id]
 | .agg cs=>NM cs
 | .Aw cs=>NM cs
 | .MO cs=>NM cs
 | .fn _ a b=>NM a++NM b
 | .raw v=>DU v
 | _=>[]
def NM:List (SV U.Ty)->List Nat
 | []=>[]
 | x::xs=>FT x++NM xs
end
mutual
def ES (ρ:Nat->Nat):SV U.Ty->SV U.Ty
 | .all id n=>.all (ρ id) n
 | .Az id off len tot=>.Az (ρ id) off len tot
 | .ptr id i off tot=>.ptr (ρ id) i off tot
 | .agg cs=>.agg (KW ρ cs)
 | .Aw cs=>.Aw (KW ρ cs)
 | .MO cs=>.MO (KW ρ cs)
 | .fn f a b=>.fn f (KW ρ a) (KW ρ b)
 | .raw v=>.raw (Du ρ v)
 | v=>v
def KW (ρ:Nat->Nat):List (SV U.Ty)->List (SV U.Ty)
 | []=>[]
 | x::xs=>ES ρ x::KW ρ xs
end
mutual
theorem Z1F:∀x:SV U.Ty,DU (AO U x)=FT x
 | .all _ _=>by simp only [AO,DU,FT]
 | .Az _ _ _ _=>by simp only [AO,DU,FT]
 | .ptr _ _ _ _=>by simp only [AO,DU,FT]
 | .agg cs=>by simp only [AO,DU,FT];exact Oo cs
 | .Aw cs=>by simp only [AO,DU,FT];exact Oo cs
 | .MO cs=>by simp only [AO,DU,FT];exact Oo cs
 | .fn _ a b=>by simp only [AO,DU,FT];rw [Oo a,Oo b]
 | .raw v=>by simp only [AO,FT]
 | .lit _=>by simp only [AO,DU,FT]
 | .si _ _=>by simp only [AO,DU,FT]
 | .sb _=>by simp only [AO,DU,FT]
 | .ss _=>by simp only [AO,DU,FT]
 | .nil _=>by simp only [AO,DU,FT]
 | .sl _ _=>by simp only [AO,DU,FT]
 | .BR _ _=>by simp only [AO,DU,FT]
 | .BK _ _ _ _=>by simp only [AO,DU,FT]
 | .QM _ _ _=>by simp only [AO,DU,FT]
 | .no=>by simp only [AO,DU,FT]
 | .und=>by simp only [AO,DU,FT]
theorem Oo:∀xs:List (SV U.Ty),CJ (A7 U xs)=NM xs
 | []=>rfl
 | x::xs=>by simp only [A7,CJ,NM];rw [Z1F x,Oo xs]
end
mutual
theorem UJ (ρ:Nat->Nat):∀x:SV U.Ty,AO U (ES ρ x)=Du ρ (AO U x)
 | .all _ _=>by simp only [AO,Du,ES]
 | .Az _ _ _ _=>by simp only [AO,Du,ES]
 | .ptr _ _ _ _=>by simp only [AO,Du,ES]
 | .agg cs=>by simp only [AO,Du,ES];rw [NG ρ cs]
 | .Aw cs=>by simp only [AO,Du,ES];rw [NG ρ cs]
 | .MO cs=>by simp only [AO,Du,ES];rw [NG ρ cs]
 | .fn _ a b=>by simp only [AO,Du,ES];rw [NG ρ a,NG ρ b]
 | .raw v=>by simp only [AO,ES]
 | .lit _=>by simp only [AO,Du,ES]
 | .si _ _=>by simp only [AO,Du,ES]
 | .sb _=>by simp only [AO,Du,ES]
 | .ss _=>by simp only [AO,Du,ES]
 | .nil _=>by simp only [AO,Du,ES]
 | .sl _ _=>by simp only [AO,Du,ES]
 | .BR _ _=>by simp only [AO,Du,ES]
 | .BK _ _ _ _=>by simp only [AO,Du,ES]
 | .QM _ _ _=>by simp only [AO,Du,ES]
 | .no=>by simp only [AO,Du,ES]
 | .und=>by simp only [AO,Du,ES]
theorem NG (ρ:Nat->Nat):∀xs:List (SV U.Ty),A7 U (KW ρ xs)=Eh ρ (A7 U xs)
 | []=>rfl
 | x::xs=>by simp only [A7,Eh,KW];rw [UJ ρ x,NG ρ xs]
end
def tN (e sz:Nat) (H:Ad U):SV U.Ty->Tr U (SV U.Ty×Ad U)
 | .nil _=>.when (U.AZ e=sz) (.leaf (.sl e [],H))
 | y=>.leaf (y,H)
def P7:Fk->Ad U->SV U.Ty->Tr U (SV U.Ty×Ad U)
 | .s e sz,H,x=>(Ku H x).andThen fun y=>tN e sz (Nh H (Lt x)) y
 | .own e sz,H,x=>(match x with
  | .nil _=>.when (U.AZ e=sz) (.leaf (.all H.length 0,H++[.row e [] none]))
  | .all id n=>.leaf (.all id n,H)
  | _=>.fail)
 | .keep,H,x=>.leaf (x,H)
 | .drop,H,_=>.leaf (.und,H)
def P6:List Fk->Ad U->List (SV U.Ty)->Tr U (List (SV U.Ty)×Ad U)
 | [],H,[]=>.leaf ([],H)
 | f::fs,H,x::xs=>(P7 f H x).andThen fun r=>(P6 fs r.2 xs).andThen fun q=>.leaf (r.1::q.1,q.2)
 | _,_,_=>.fail
def YP (fl:List Fk) (H:Ad U) (x:SV U.Ty):Tr U (SV U.Ty×Ad U):=
 match x with
 | .agg cs=>(P6 fl H cs).andThen fun r=>.leaf (.agg r.1,r.2)
 | .raw _=>.fail
 | x=>match fl with
  | [f]=>P7 f H x
  | _=>.fail
def PT:List (List Fk)->Ad U->List (SV U.Ty)->Tr U (List (SV U.Ty)×Ad U)
 | [],H,[]=>.leaf ([],H)
 | f::fs,H,x::xs=>(YP f H x).andThen fun r=>(PT fs r.2 xs).andThen fun q=>.leaf (r.1::q.1,q.2)
 | _,_,_=>.fail
def NZ:Nat->List Bf->Ad U->List Nat->List Nat->Tr U (Ad U×List Nat)
 | 0,_,_,_,_=>.fail
 | _+1,_,H,[],seen=>.leaf (H,seen)
 | n+1,fb,H,id::todo,seen=>
  if seen.contains id then NZ n fb H todo seen else
  match H[id]?,fb with
  | some (.row _ _ none),.row true::fb' =>NZ n fb' H todo (seen++[id])
  | some (.row _ _ _),.row false::fb' =>NZ n fb' (Nh H [id]) todo (seen++[id])
  | some (.var _ _ x),.var fl::fb' =>(YP fl H x).andThen fun r=>(match r.2[id]? with
    | some (.var e m _)=>.when (okS r.1=true) (NZ n fb' (r.2.set id (.var e m r.1)) (todo++FT r.1) (seen++[id]))
    | _=>.fail)
  | _,_=>.fail
def U6 (ρ:Nat->Nat):JS U.Ty->JS U.Ty
 | .var e n x=>.var e n (ES ρ x)
 | .fvar e n x=>.fvar e n (ES ρ x)
 | b=>b
def Ru (H:Ad U) (ids:List Nat):Ad U:=ids.map fun id=>U6 (ids.idxOf ·) ((H[id]?).getD .dead)
def Rk (fa:List (List Fk)) (fb:List Bf) (k:Nat) (args:List (SV U.Ty)) (H:Ad U):Tr U (List Nat×List (SV U.Ty)×Ad U):=
 (PT fa H args).andThen fun r=>(NZ 1000 fb r.2 (List.range k++NM r.1) []).andThen fun q=>.leaf (q.2,r.1,q.1)
def Ur:Ad U->List Nat->Ad U->Ad U
 | H,[],bs=>H++bs
 | H,id::ids,b::bs=>Ur (H.set id b) ids bs
 | H,_::_,[]=>H
def UO (H:Ad U) (ids:List Nat) (H3:Ad U):Ad U:=Ur H ids (H3.map (U6 (Hw ids H.length)))
theorem ZhQ {e sz:Nat} {H:Ad U} {y:SV U.Ty} {r:SV U.Ty×Ad U} (h:(tN e sz H y).AP r) (hy:∀v,y≠.raw v):AO U r.1=Fb sz (AO U y)/\r.2=H:=by
 unfold tN at h
 split at h
 ·simp only [D6,Tr.AP] at h
  obtain⟨he,rfl⟩:=h
  simp [AO,Fb,he]
 ·simp only [Tr.AP] at h
  subst h
  refine⟨?_,rfl⟩
  cases y with
  | nil e' =>simp_all
  | raw v=>exact absurd rfl (hy v)
  | _=>simp [AO,Fb]
theorem Zel {H:Ad U} {x y:SV U.Ty} (h:(Ku H x).AP y):∀v,y≠.raw v:=by
 intro v hv
 subst hv
 unfold Ku at h
 split at h<;>(try (simp [Tr.AP] at h;done))
 ·obtain⟨t,xs,fl,h1,h2,h3,h4⟩:=FX h;simp [Tr.AP] at h3
 ·obtain⟨t,xs,fl,h1,h2,h3,h4⟩:=FX h;simp [Tr.AP] at h3
theorem Z2i {f:Fk} {H:Ad U} {x:SV U.Ty} {r:SV U.Ty×Ad U} (h:(P7 f H x).AP r):EW f (Aj U H) (AO U x)=some (AO U r.1,Aj U r.2):=by
 cases f with
 | s e sz=>
  simp only [P7,DC] at h
  obtain⟨y,h1,h2⟩:=h
  obtain⟨e1,e2⟩:=ZhQ h2 (Zel h1)
  simp only [EW,oI h1,Option.map_some,e1,e2]
  rw [Z2K,Qs H _ (lF h1)]
 | own e sz=>
  simp only [P7] at h
  split at h
  ·simp only [D6,Tr.AP] at h
   obtain⟨he,rfl⟩:=h
   simp [EW,Rt,AO,Aj,BM,BH,he]
  ·simp only [Tr.AP] at h
   subst h
   simp [EW,Rt,AO]
  ·simp [Tr.AP] at h
 | keep=>
  simp only [P7,Tr.AP] at h
  subst h
  rfl
 | drop=>
  simp only [P7,Tr.AP] at h
  subst h
  rfl
theorem ZeS:∀{fl:List Fk} {H:Ad U} {xs:List (SV U.Ty)} {r:List (SV U.Ty)×Ad U},(P6 fl H xs).AP r->ER fl (Aj U H) (A7 U xs)=some (A7 U r.1,Aj U r.2):=by
 intro fl
 induction fl with
 | nil=>
  intro H xs r h
  cases xs with
  | nil=>simp only [P6,Tr.AP] at h;subst h;rfl
  | cons=>simp [P6,Tr.AP] at h
 | cons f fl ih=>
  intro H xs r h
  cases xs with
  | nil=>simp [P6,Tr.AP] at h
  | cons x xs=>
   simp only [P6,DC,Tr.AP] at h
   obtain⟨p,h1,q,h2,rfl⟩:=h
   simp only [A7,ER,Z2i h1,ih h2]
theorem Z1X {fl:List Fk} {H:Ad U} {x:SV U.Ty} {r:SV U.Ty×Ad U} (h:(YP fl H x).AP r):Gg fl (Aj U H) (AO U x)=some (AO U r.1,Aj U r.2):=by
 unfold YP at h
 split at h
 ·rename_i cs
  simp only [DC,Tr.AP] at h
  obtain⟨p,h1,rfl⟩:=h
  simp only [AO,Gg,ZeS h1,Option.map_some]
 ·simp [Tr.AP] at h
 ·rename_i hn1 hn2
  split at h
  ·rename_i f
   have h1:=Z2i h
   unfold Gg
   split
   ·rename_i cs hcs
    exfalso
    cases x<;>simp_all [AO]
   ·exact h1
  ·simp [Tr.AP] at h
theorem Zew:∀{fl:List (List Fk)} {H:Ad U} {xs:List (SV U.Ty)} {r:List (SV U.Ty)×Ad U},(PT fl H xs).AP r->EU fl (Aj U H) (A7 U xs)=some (A7 U r.1,Aj U r.2):=by
 intro fl
 induction fl with
 | nil=>
  intro H xs r h
  cases xs with
  | nil=>simp only [PT,Tr.AP] at h;subst h;rfl
  | cons=>simp [PT,Tr.AP] at h
 | cons f fl ih=>
  intro H xs r h
  cases xs with
  | nil=>simp [PT,Tr.AP] at h
  | cons x xs=>
   simp only [PT,DC,Tr.AP] at h
   obtain⟨p,h1,q,h2,rfl⟩:=h
   simp only [A7,EU,Z1X h1,ih h2]
theorem Zfv:∀{n:Nat} {fb:List Bf} {H:Ad U} {todo seen:List Nat} {r:Ad U×List Nat},(NZ n fb H todo seen).AP r->GK n fb (Aj U H) todo seen=some (Aj U r.1,r.2):=by
 intro n
 induction n with
 | zero=>intro fb H todo seen r h;simp [NZ,Tr.AP] at h
 | succ n ih=>
  intro fb H todo seen r h
  cases todo with
  | nil=>simp only [NZ,Tr.AP] at h;subst h;rfl
  | cons id todo=>
   unfold NZ at h
   unfold GK
   by_cases hin:seen.contains id=true
   ·grind
   ·rw [if_neg hin] at h ⊢
    rw [JF]
    split at h
    ·rename_i t xs fb' hb
     rw [hb]
     simp only [Option.map_some,BM,Bool.and_self,if_true]
     exact ih h
    ·rename_i t xs fl fb' hb
     rw [hb]
     simp only [Option.map_some,BM,Bool.and_self,if_true,Bool.false_eq_true,if_false]
     rw [<- Qs H [id] (fun i hi=>by simp at hi;subst hi;exact⟨t,xs,fl,hb⟩)]
     exact ih h
    ·rename_i e m x fl fb' hb
     rw [hb]
     simp only [DC] at h
     obtain⟨p,h1,h2⟩:=h
     simp only [Option.map_some,BM,BH,Bool.not_false,Bool.and_self,if_true,Z1X h1,JF]
     split at h2
     ·rename_i e' m' x' hb'
      simp only [D6] at h2
      obtain⟨hok,h2⟩:=h2
      rw [hb']
      simp only [Option.map_some,BM,BH,NJ hok,if_true]
      have:=ih h2
      rw [NS] at this
      simp only [BM,BH] at this
      rw [Z1F]
      exact this
     ·simp [Tr.AP] at h2
    ·simp [Tr.AP] at h
theorem X9 {fa:List (List Fk)} {fb:List Bf} {k:Nat} {args:List (SV U.Ty)} {H:Ad U} {r:List Nat×List (SV U.Ty)×Ad U} (h:(Rk fa fb k args H).AP r):pack fa fb k (A7 U args) (Aj U H)=some (r.1,A7 U r.2.1,Aj U r.2.2):=by
 simp only [Rk,DC,Tr.AP] at h
 obtain⟨p,h1,q,h2,rfl⟩:=h
 simp only [pack,Zew h1,Oo,Zfv h2]
theorem fV (ρ:Nat->Nat) (b:JS U.Ty):BM U (U6 ρ b)=EF ρ (BM U b):=by
 cases b<;>simp [U6,BM,EF,BH,NQ,Qz,Eh,UJ]
theorem XV (H:Ad U) (ids:List Nat):Aj U (Ru H ids)=FW (Aj U H) ids:=by
 simp only [Aj,Ru,FW,List.map_map]
 apply List.map_congr_left
 intro id _
 simp only [Function.comp,fV]
 congr 1
 rw [List.getElem?_map]
 cases H[id]?<;>rfl
theorem Zes:∀(H:Ad U) (ids:List Nat) (bs:Ad U),Aj U (Ur H ids bs)=Iq (Aj U H) ids (Aj U bs):=by
 intro H ids
 induction ids generalizing H with
 | nil=>intro bs;simp [Ur,Iq,Aj]
 | cons id ids ih=>
  intro bs
  cases bs with
  | nil=>rfl
  | cons b bs=>
   simp only [Ur,ih,NS]
   rfl
theorem Z9X (H:Ad U) (ids:List Nat) (H3:Ad U):Aj U (UO H ids H3)=KT (Aj U H) ids (Aj U H3):=by
 simp only [UO,KT,Zes]
 congr 1
 simp only [Aj,List.map_map]
 apply List.map_congr_left
 intro b _
 simp [Function.comp,fV]
def RU:List (SV U.Ty)->List FuncId
 | []=>[]
 | .fn f _ _::vs=>f::RU vs
 | .raw v::vs=>Jl [v]++RU vs
 | _::vs=>RU vs
theorem ZdR (v:V) (vs:List V):Jl (v::vs)=Jl [v]++Jl vs:=by
 cases v<;>simp [Jl]
theorem Zcm:∀(vs:List (SV U.Ty)),Jl (A7 U vs)=RU vs:=by
 intro vs
 induction vs with
 | nil=>rfl
 | cons v vs ih=>
  simp only [A7]
  rw [ZdR,ih]
  cases v<;>simp [AO,Jl,RU]
end
end Go.Proofs.YtlabamnhpgoekaaGreatDoor.Le
namespace Go.Proofs.YtlabamnhpgoekaaGreatDoor.Le
open Go.RowKit (Below)
structure Z4B (k:Nat) (ids:List Nat) (st st' : St):Prop where
 nodup:ids.Nodup
 pre:ids.take k=List.range k
 len:st'.H.length=ids.length
 heap:∀(j id:Nat),ids[j]? = some id->∃b b',st.H[id]? = some b/\b.live=true/\st'.H[j]? = some b' /\ b'.live=true/\b'.row=b.row/\(b'.DZ=true->b.DZ=true)/\b'.elem=b.elem/\b'.AZ=b.AZ /\
  (b.floor<=b'.floor\/b'.floor=b'.xs.length)/\b'.floor<=b'.xs.length/\(b.row=true->b'.xs=b.xs)/\(b.row=false->b'.xs=Eh (ids.idxOf ·) b.xs/\∀r∈CJ b.xs,r∈ids)
 slen:st'.s.length=st.s.length
 slots:∀(i:Nat) (v' : V),st'.s[i]? = some v' -> v' = .und\/∃v,st.s[i]? = some v/\v' = Du (ids.idxOf ·) v/\∀r∈DU v,r∈ids
theorem Z1e {σ:Sg} {w:World}:∀{xs:List V} {vs:List Value},xs.length=vs.length->(∀(i:Nat) (x:V) (v:Value),xs[i]? = some x->vs[i]? = some v->AL σ w [x] [v])->AL σ w xs vs:=by
 intro xs
 induction xs with
 | nil=>intro vs hl _;cases vs with|nil=>exact .nil|cons=>simp at hl
 | cons x xs ih=>
  intro vs hl h
  cases vs with
  | nil=>simp at hl
  | cons v vs=>exact AL.ED.2 ⟨h 0 x v rfl rfl,ih (by simpa using hl) (fun i y u h1 h2=>h (i+1) y u (by simpa using h1) (by simpa using h2))⟩
theorem ZiU {E:Env} {B:Nat} {w0:Start} {σ:Sg} {st st' : St} {a:Act} {w:World} {k:Nat} {ids:List Nat} (ht:Z4B k ids st st') (h:Dk E B w0 σ st a w):Dk E B w0 (σ.ren ids) st' a w:=by
 have hbox:∀{j:Nat} {L:Loc},(σ.ren ids).box j=some L->∃id,ids[j]? = some id/\σ.box id=some L:=by
  intro j L hL
  simp only [Sg.ren] at hL
  cases hj:ids[j]? with
  | none=>simp [hj] at hL
  | some id=>simp_all
 have hsome:∀{j:Nat} {b' : Box},st'.H[j]? = some b' -> ∃id,ids[j]? = some id:=by
  intro j b' hb
  have hlt:=(List.getElem?_eq_some_iff.1 hb).1
  rw [ht.len] at hlt
  exact⟨ids[j],List.getElem?_eq_getElem hlt⟩
 refine⟨⟨h.inv.below,h.inv.size,?_,?_,?_,h.inv.cells,?_,?_,h.inv.old,fun b hb=>?_⟩,h.Ci.bare (fun b c hh=>⟨hh,rfl⟩) (DF.refl _),?_,h.calm⟩
 ·intro j L hL
  obtain⟨id,h1,h2⟩:=hbox hL
  obtain⟨b,b',_,_,q1,q2,_⟩:=ht.heap j id h1
  exact⟨b',q1,.inl q2⟩
 ·intro j b' hb hl
  obtain⟨id,hid⟩:=hsome hb
  obtain⟨b,b2,p1,p2,p3,p4,p5,p6,p7,p8,p9,p10,p11,p12⟩:=ht.heap j id hid
  rw [hb] at p3
  cases p3
  obtain⟨L,hL,hok⟩:=h.inv.boxes id b p1 p2
  obtain⟨us,r1,r2,r3,r4⟩:=hok.CU
  refine⟨L,by simp [Sg.ren,hid,hL],?_⟩
  have hlen:b'.xs.length=b.xs.length:=by
   cases hr:b.row with
   | true=>rw [p11 hr]
   | false=>rw [(p12 hr).1,iV]
  have hreps:AL (σ.ren ids) w b'.xs us:=by
   cases hr:b.row with
   | true=>rw [p11 hr];exact r1.bare (fun b c hh=>⟨hh,rfl⟩) (DF.refl _) ((JA _).2 (hok.F7 hr))
   | false=>rw [(p12 hr).1];exact Qx r1 (p12 hr).2
  refine⟨by rw [hlen];exact hok.tot,⟨us,hreps,r2,r3,by rw [p7,hlen];exact r4⟩,fun hn=>hok.DZ (p6 hn),by rw [p8];exact hok.AZ,?_,?_⟩
  ·intro x hx
   cases hr:b.row with
   | true=>rw [p11 hr] at hx;exact hok.oks x hx
   | false=>
    rw [(p12 hr).1,mG] at hx
    obtain⟨y,hy,rfl⟩:=List.mem_map.1 hx
    rw [Z3D]
    exact hok.oks y hy
  ·intro hr x hx
   rw [p5] at hr
   rw [p11 hr] at hx
   exact hok.F7 hr x hx
 ·intro j j' b1 b2 L1 L2 g h1 h2 l1 l2 s1 s2 g1 g2
  obtain⟨i1,e1,t1⟩:=hbox s1
  obtain⟨i2,e2,t2⟩:=hbox s2
  obtain⟨c1,_,p1,p2,_⟩:=ht.heap j i1 e1
  obtain⟨c2,_,q1,q2,_⟩:=ht.heap j' i2 e2
  have:=h.inv.apart i1 i2 c1 c2 L1 L2 g p1 q1 p2 q2 t1 t2 g1 g2
  subst this
  exact Z1S ht.nodup e1 e2
 ·intro b c hc j b' L hb hl hL hg
  obtain⟨id,hid,hL'⟩:=hbox hL
  obtain⟨b0,b2,p1,p2,p3,p4,p5,p6,p7,p8,p9,p10,p11,p12⟩:=ht.heap j id hid
  rw [hb] at p3
  cases p3
  have:=h.inv.floor b c hc id b0 L p1 p2 hL' hg
  have hlen:b'.xs.length=b0.xs.length:=by
   cases hr:b0.row with
   | true=>rw [p11 hr]
   | false=>rw [(p12 hr).1,iV]
  have hle:b0.floor<=b'.floor:=by
   rcases p9 with p9|p9
   ·exact p9
   ·rw [p9,hlen];exact h.inv.low id b0 p1 p2
  exact Nat.lt_of_lt_of_le this (Nat.mul_le_mul_right _ hle)
 ·intro j b' hb hl
  obtain⟨id,hid⟩:=hsome hb
  obtain⟨b0,b2,p1,p2,p3,p4,p5,p6,p7,p8,p9,p10,p11,p12⟩:=ht.heap j id hid
  simp_all
 ·obtain⟨k1,k2,k3,k4⟩:=h.inv.kept b hb
  refine⟨k1,k2,fun j L hL hg=>?_,k4⟩
  grind
 ·refine Z1e (by rw [ht.slen];exact h.slots.length) (fun i x v hx hv=>?_)
  rcases ht.slots i x hx with rfl|⟨y,hy,rfl,hc⟩
  ·exact .und _ .nil
  ·obtain⟨u,hu,hr⟩:=h.slots.get hy
   rw [hv] at hu
   cases hu
   exact Qx hr (by simpa [CJ] using hc)
def spread {α:Type} (u:α) (n:Nat):List Nat->List α->List α
 | k::ks,v::vs=>(spread u n ks vs).set k v
 | _,_=>List.replicate n u
theorem Z9a {α:Type} (u:α) (n:Nat):∀(ks:List Nat) (vs:List α),(spread u n ks vs).length=n:=by
 intro ks
 induction ks with
 | nil=>intro vs;simp [spread]
 | cons k ks ih=>intro vs;cases vs<;>simp [spread,ih]
theorem ZcB {α:Type} (u:α) (n:Nat):∀(ks:List Nat) (vs:List α) (i:Nat) (x:α),(spread u n ks vs)[i]? = some x->x=u\/∃j:Nat,ks[j]? = some i/\vs[j]? = some x:=by
 intro ks
 induction ks with
 | nil=>
  intro vs i x h
  simp only [spread,List.getElem?_replicate] at h
  simp_all
 | cons k ks ih=>
  intro vs i x h
  cases vs with
  | nil=>
   simp only [spread,List.getElem?_replicate] at h
   simp_all
  | cons v vs=>
   simp only [spread,List.getElem?_set] at h
   split at h
   ·rename_i hk
    subst hk
    split at h
    ·exact .inr ⟨0,rfl,h⟩
    ·cases h
   ·rcases ih vs i x h with h|⟨j,h1,h2⟩
    ·exact .inl h
    ·exact .inr ⟨j+1,h1,h2⟩
theorem Zdw {α β:Type} (g:α->β) (u:α) (n:Nat):∀(ks:List Nat) (vs:List α),(spread u n ks vs).map g=spread (g u) n ks (vs.map g):=by
 intro ks
 induction ks with
 | nil=>intro vs;simp [spread]
 | cons k ks ih=>intro vs;cases vs<;>simp [spread,List.map_set,ih]
theorem Ze1 {σ:Sg} {w:World} {xs:List V} {vs:List Value} (h:AL σ w xs vs):∀keep:List Nat,AL σ w (keep.map fun i=>xs.getD i .und) (keep.map fun i=>vs.getD i undef):=by
 intro keep
 induction keep with
 | nil=>exact .nil
 | cons i keep ih=>
  simp only [List.map_cons]
  refine AL.ED.2 ⟨?_,ih⟩
  cases hx:xs[i]? with
  | none=>simp only [List.getD,hx,Option.getD_none];exact .und _ .nil
  | some x=>
   obtain⟨v,hv,hr⟩:=h.get hx
   simp_all
theorem ZfA {E:Env} {B:Nat} {w0:Start} {σ:Sg} {st:St} {a:Act} {w:World} {k:Nat} {fa:List (List Fk)} {fb:List Bf} {keep ids:List Nat} {as:List V} {H2:Heap} (hp:pack fa fb k (keep.map fun i=>st.s.getD i .und) st.H=some (ids,as,H2))
  (h:Dk E B w0 σ st a w):∃σ1,Ext σ w σ1 w/\Dk E B w0 (σ1.ren ids) ⟨spread .und st.s.length keep (Eh (ids.idxOf ·) as),FW H2 ids⟩ a w:=by
 obtain⟨hs,hm,_,σ1,hI1,hE1,hr1⟩:=Xr h.inv (Ze1 h.slots keep) hp
 have hsub:=YI hI1 hs w0 hI1.below hI1.old (fun b hb=>by
  obtain⟨k1,k2,k3,k4⟩:=hI1.kept b hb
  grind)
 refine⟨σ1,hE1,hsub,(h.Ci.ext hE1).bare (fun b c hh=>⟨hh,rfl⟩) (DF.refl _),?_,h.calm⟩
 refine Z1e (by rw [Z9a];exact h.slots.length) (fun i x v hx hv=>?_)
 rcases ZcB _ _ _ _ i x hx with rfl|⟨j,h1,h2⟩
 ·exact .und _ .nil
 ·obtain⟨u,hu,hr⟩:=(Qx hr1 hm).get h2
  simp_all
inductive Sj where
 | run (c:Code)|nxt|exit (id:Nat)|ret
inductive Fr where
 | seq (c:Code)|blk (id:Nat)|loop (b:Code)
def L8:List (List Nat)->List V->List V
 | es::rs,v::vs=>DJ es v::L8 rs vs
 | [],vs=>vs
 | _,[]=>[]
def OL (rs:List (List Nat)):V->V
 | .Aw vs=>.Aw (L8 rs vs)
 | v=>DJ (rs.headD []) v
inductive Bz (call:CS) (E:Env) (f:FuncId) (fn:Func) (k:Nat) (Z:St->V×Heap->Prop):Sj->List Fr->St->V×Heap->Prop where
 | skip {K st r}:Bz call E f fn k Z .nxt K st r->Bz call E f fn k Z (.run .skip) K st r
 | region {id ops K st st' r}:Js call E ops (List.range ops.size) st=some st' -> Bz call E f fn k Z .nxt K st' r->Bz call E f fn k Z (.run (.region id ops false)) K st r
 | draw {id ops K st st' r}:E.calm f id=true->Po call E ops st=some st' -> Bz call E f fn k Z .nxt K st' r->Bz call E f fn k Z (.run (.region id ops true)) K st r
 | seq {a b K st r}:Bz call E f fn k Z (.run a) (.seq b::K) st r->Bz call E f fn k Z (.run (.seq a b)) K st r
 | cond {c a b t K st r}:ev E st.s c = .lit (.bool t)->Bz call E f fn k Z (.run (if t then a else b)) K st r->Bz call E f fn k Z (.run (.cond c a b)) K st r
 | block {id b K st r}:Bz call E f fn k Z (.run b) (.blk id::K) st r->Bz call E f fn k Z (.run (.block id b)) K st r
 | loop {b K st r}:Bz call E f fn k Z (.run b) (.loop b::K) st r->Bz call E f fn k Z (.run (.loop b)) K st r
 | scope {b K st r}:Bz call E f fn k Z (.run b) K st r->Bz call E f fn k Z (.run (.scope b)) K st r
 | label {l K st r}:Bz call E f fn k Z .nxt K st r->Bz call E f fn k Z (.run (.label l)) K st r
 | exit {id K st r}:Bz call E f fn k Z (.exit id) K st r->Bz call E f fn k Z (.run (.exit id)) K st r
 | ret {K st r}:Bz call E f fn k Z .ret K st r->Bz call E f fn k Z (.run .ret) K st r
 | nseq {c K st r}:Bz call E f fn k Z (.run c) K st r->Bz call E f fn k Z .nxt (.seq c::K) st r
 | nblk {id K st r}:Bz call E f fn k Z .nxt K st r->Bz call E f fn k Z .nxt (.blk id::K) st r
 | Z4q {b K st r}:Bz call E f fn k Z (.run b) (.loop b::K) st r->Bz call E f fn k Z .nxt (.loop b::K) st r
 | eseq {id c K st r}:Bz call E f fn k Z (.exit id) K st r->Bz call E f fn k Z (.exit id) (.seq c::K) st r
 | Z4h {id b K st r}:Bz call E f fn k Z (.exit id) K st r->Bz call E f fn k Z (.exit id) (.loop b::K) st r
 | eblk {id K st r}:Bz call E f fn k Z .nxt K st r->Bz call E f fn k Z (.exit id) (.blk id::K) st r
 | Z4K {id i K st r}:id≠i->Bz call E f fn k Z (.exit id) K st r->Bz call E f fn k Z (.exit id) (.blk i::K) st r
 | rany {x K st r}:Bz call E f fn k Z .ret K st r->Bz call E f fn k Z .ret (x::K) st r
 | finN {st r}:Z st r->Bz call E f fn k Z .nxt [] st r
 | finR {st r}:Z st r->Bz call E f fn k Z .ret [] st r
 | tidy {ctl K ids st st' r}:Z4B k ids st st' -> Bz call E f fn k Z ctl K st' r->Bz call E f fn k Z ctl K st r
 | Z4p {ctl K fa fb keep ids as H2 st r}:pack fa fb k (keep.map fun i=>st.s.getD i .und) st.H=some (ids,as,H2)->ids.take k=List.range k->Bz call E f fn k Z ctl K ⟨spread .und st.s.length keep (Eh (ids.idxOf ·) as),FW H2 ids⟩ r->Bz call E f fn k Z ctl K st r
def LoopIn (P:Program) (b:Code) (Q:Exit->Act->World->Prop) (a:Act) (w:World):Prop:=
 ∀fr k cs,∃e a' w',Q e a' w' /\ Arrives P (lone (fr.at a (.code b :: .inLoop b::k)) cs w) fr k cs e a' w'
theorem LoopIn.of {P:Program} {b:Code} {Q:Exit->Act->World->Prop} {a:Act} {w:World} (h:b.wp P (Exit.then (LoopIn P b Q) Q) a w):LoopIn P b Q a w:=by
 intro fr k cs
 obtain⟨e,a₁,w₁,hq,harr⟩:=h fr (.inLoop b::k) cs
 cases e with
 | normal=>
  obtain⟨e₂,a₂,w₂,hq₂,harr₂⟩:=hq fr k cs
  exact⟨e₂,a₂,w₂,hq₂,.of_steps (Steps.trans harr (.one step_inLoop)) harr₂⟩
 | exit id=>exact⟨_,a₁,w₁,hq,.pass (x:=.inLoop b) rfl (fun _ _=>.inl (by simp)) harr⟩
 | goto l=>exact⟨_,a₁,w₁,hq,.pass (x:=.inLoop b) rfl (fun _ _=>.inl (by simp)) harr⟩
 | ret=>exact⟨_,a₁,w₁,hq,.pass (x:=.inLoop b) rfl (fun _ _=>.inl (by simp)) harr⟩
 | panic ch=>exact⟨_,a₁,w₁,hq,.pass (x:=.inLoop b) rfl (fun _ _=>.inl (by simp)) harr⟩
 | outgrown=>exact⟨_,a₁,w₁,hq,.pass (x:=.inLoop b) rfl (fun _ _=>.inl (by simp)) harr⟩
theorem LoopIn.wp {P:Program} {b:Code} {Q:Exit->Act->World->Prop} {a:Act} {w:World} (h:LoopIn P b Q a w):(Code.loop b).wp P Q a w:=by
 intro fr k cs
 obtain⟨e,a',w',hq,harr⟩:=h fr k cs
 exact⟨e,a',w',hq,.of_steps (.one step_loop) harr⟩
def QK (P:Program) (Z:Act->World->Prop):List Fr->Exit->Act->World->Prop
 | [],.normal,a,w=>Z a w
 | [],.ret,a,w=>Z a w
 | [],_,_,_=>False
 | .seq c::K,e,a,w=>Exit.then (c.wp P (QK P Z K)) (QK P Z K) e a w
 | .blk id::K,e,a,w=>Exit.inBlock id (QK P Z K) e a w
 | .loop b::K,e,a,w=>Exit.then (LoopIn P b (QK P Z K)) (QK P Z K) e a w
theorem Xq {P:Program} {Z:Act->World->Prop} {l:Nat} {a:Act} {w:World}:∀K:List Fr,QK P Z K (.goto l) a w->False
 | [],h=>h
 | .seq _::K,h=>Xq K h
 | .blk _::K,h=>Xq K h
 | .loop _::K,h=>Xq K h
def rW (P:Program) (Z:Act->World->Prop) (K:List Fr) (a:Act) (w:World):Sj->Prop
 | .run c=>c.wp P (QK P Z K) a w
 | .nxt=>QK P Z K .normal a w
 | .exit id=>QK P Z K (.exit id) a w
 | .ret=>QK P Z K .ret a w
def U4 (E:Env) (f:FuncId):Sj->Bool
 | .run c=>DD E f c
 | _=>true
def J6 (E:Env) (f:FuncId):List Fr->Bool
 | []=>true
 | .seq c::K=>DD E f c&&J6 E f K
 | .loop c::K=>DD E f c&&J6 E f K
 | .blk _::K=>J6 E f K
theorem Z9d {σ w}:∀(rs:List (List Nat)) {xs:List V} {vs:List Value},AL σ w xs vs->AL σ w (L8 rs xs) vs:=by
 intro rs
 induction rs with
 | nil=>intro xs vs h;simpa [L8] using h
 | cons r rs ih=>
  intro xs vs h
  cases xs with
  | nil=>simpa [L8] using h
  | cons x xs=>
   obtain⟨v,vs',rfl,h1,h2⟩:=h.Cf
   exact AL.ED.2 ⟨Ol _ h1,ih h2⟩
theorem ZaM {σ w x v} (rs:List (List Nat)) (h:AL σ w [x] [v]):AL σ w [OL rs x] [v]:=by
 unfold OL
 split
 ·cases h with
  | Aw h1 _=>exact .Aw (Z9d rs h1) .nil
 ·exact Ol _ h
theorem Z8X:∀(rs:List (List Nat)) (xs:List V),BJ (L8 rs xs)=BJ xs:=by
 intro rs
 induction rs with
 | nil=>intro xs;simp [L8]
 | cons r rs ih=>intro xs;cases xs<;>simp [L8,BJ,Oi,ih]
theorem Zn (rs:List (List Nat)) (x:V) (h:BQ x=true):BQ (OL rs x)=true:=by
 unfold OL
 split
 ·simpa [BQ,Z8X] using h
 ·rw [Oi];exact h
def Zp (E:Env) (fn:Func) (st:St) (r:V×Heap):Prop:=∃r0 r1,JD E st.H st.s fn.results.toList=some r0/\IB st.H r0=some r1/\r=(OL (fn.resultTypes.toList.map E.rows) r1,[])
def Zh (E:Env) (fn:Func) (fa:List (List Fk)) (fb:List Bf) (k:Nat) (st:St) (r:V×Heap):Prop:=∃r0,JD E st.H st.s fn.results.toList=some r0/\VB fa fb k r0 st.H=some r
def Fin (P:Program) (fn:Func) (B:Nat) (w0:Start) (r:V×Heap) (a:Act) (w:World):Prop:=
 a.defers=[]/\∃u fz',(results fn a.tmps).run P w = .ok u w/\Below B w0.w w/\(∀b c,w0.fz b c->fz' b c)/\(∀b c,fz' b c->b<B->w0.fz b c)/\(∀b c,fz' b c->∃u,w.cell? ⟨b,c,none⟩=some u)/\AL (bare fz') w [r.1] [u]/\BQ r.1=true
def FinH (P:Program) (fn:Func) (B:Nat) (w0:Start) (σ0:Sg) (ws:World) (r:V×Heap) (a:Act) (w:World):Prop:=
 a.defers=[]/\∃u σ',(results fn a.tmps).run P w = .ok u w/\Inv B w0 σ' r.2 w/\Ext σ0 ws σ' w/\AL σ' w [r.1] [u]
structure I5 (k:Nat) (σ:Sg) (w:World) (σ' : Sg) (w' : World):Prop where
 box:∀id L,id<k->σ.box id=some L->∃L',σ'.box id=some L' /\ L'.AZ=L.AZ/\(L' = L\/L.tot<L'.tot)
 fz:∀b c,σ.fz b c->σ'.fz b c/\w'.cell? ⟨b,c,none⟩=w.cell? ⟨b,c,none⟩
 mp:DF w w'
theorem Ext.k {k:Nat} {σ w σ' w'} (h:Ext σ w σ' w'):I5 k σ w σ' w' :=⟨fun id L _ hL=>h.box id L hL,h.fz,h.mp⟩
theorem I5.trans {k:Nat} {σ w σ' w' σ'' w''} (h:I5 k σ w σ' w') (g:Ext σ' w' σ'' w''):I5 k σ w σ'' w'' :=by
 refine⟨fun id L hk hL=>?_,fun b c hc=>?_,h.mp.trans g.mp⟩
 ·obtain⟨L',h1,h2,h3⟩:=h.box id L hk hL
  obtain⟨L'',k1,k2,k3⟩:=g.box id L' h1
  grind
 ·obtain⟨a1,a2⟩:=h.fz b c hc
  obtain⟨b1,b2⟩:=g.fz b c a1
  simp_all
theorem Zco {ids:List Nat} {k j:Nat} (h:ids.take k=List.range k) (hj:j<k):ids[j]? = some j:=by
 have:(ids.take k)[j]? = some j:=by rw [h];simp [hj]
 grind
theorem I5.ren {k:Nat} {σ w σ' w'} {ids:List Nat} (h:I5 k σ w σ' w') (hp:ids.take k=List.range k):I5 k σ w (σ'.ren ids) w' :=by
 refine⟨fun id L hk hL=>?_,h.fz,h.mp⟩
 obtain⟨L',h1,h2⟩:=h.box id L hk hL
 exact⟨L',by simp only [Sg.ren,Zco hp hk,Option.bind_some];exact h1,h2⟩
section
variable {P:Program} {E:Env} {B:Nat} {w0:Start} {call:CS} {f:FuncId} {fn:Func}
theorem Zle (hE:BP E) (hP:E.P=P) {σ:Sg} {st:St} {a:Act} {w:World} {r:V×Heap} (h:Dk E B w0 σ st a w) (hfz:∀b c,w0.fz b c->σ.fz b c) (hz:Zp E fn st r):Fin P fn B w0 r a w:=by
 obtain⟨r0,r1,hr,hf,rfl⟩:=hz
 obtain⟨u,hu,hur⟩:=Tn (P:=P) hE hP h.inv h.slots hr
 obtain⟨hI,hEx⟩:=h.inv.freeze (MK r0)
 have hr2:=nI h.inv hur hf (MK r0) (fun i hi=>hi)
 have hn:=lC h.inv hur hf
 refine⟨h.calm,u,(σ.freeze st.H (MK r0)).fz,hu,hI.below,fun b c hh=>(hEx.fz b c (hfz b c hh)).1,fun b c hh hlt=>hI.old b c hh hlt,hI.cells,?_,Zn _ _ hn⟩
 exact AL.bare (ZaM _ hr2) (fun b c hh=>⟨hh,rfl⟩) (DF.refl _) (by simp [BJ,Zn _ _ hn])
theorem Zjl (hE:BP E) (hP:E.P=P) {fa:List (List Fk)} {fb:List Bf} {k:Nat} {σ0:Sg} {ws:World} (h0:∀id L,σ0.box id=some L->id<k) {σ:Sg} {st:St} {a:Act} {w:World} {r:V×Heap} (h:Dk E B w0 σ st a w) (hx:I5 k σ0 ws σ w)
  (hz:Zh E fn fa fb k st r):FinH P fn B w0 σ0 ws r a w:=by
 obtain⟨r0,hr,he⟩:=hz
 obtain⟨u,hu,hur⟩:=Tn (P:=P) hE hP h.inv h.slots hr
 have key:∀{args as:List V} {vs:List Value} {ids:List Nat} {H2:Heap},AL σ w args vs->pack fa fb k args st.H=some (ids,as,H2)->ids.take k=List.range k ->
   ∃σ',Inv B w0 σ' (FW H2 ids) w/\Ext σ0 ws σ' w/\AL σ' w (Eh (ids.idxOf ·) as) vs:=by
  intro args as vs ids H2 hra hp hk
  obtain⟨hs,hm,_,σ1,hI1,hE1,hr1⟩:=Xr h.inv hra hp
  have hsub:=YI hI1 hs w0 hI1.below hI1.old (fun b hb=>by
   obtain⟨k1,k2,k3,k4⟩:=hI1.kept b hb
   grind)
  refine⟨_,hsub,?_,Qx hr1 hm⟩
  have:=(hx.trans hE1).ren hk
  exact⟨fun id L hL=>this.box id L (h0 id L hL) hL,this.fz,this.mp⟩
 refine⟨h.calm,u,?_⟩
 unfold VB at he
 split at he
 ·rename_i vs
  split at he
  ·rename_i ids as H2 hp
   split at he
   ·rename_i hk
    simp only [Option.some.injEq] at he
    subst he
    cases hur with
    | Aw h1 _=>
     obtain⟨σ',i1,i2,i3⟩:=key h1 hp hk
     exact⟨σ',hu,i1,i2,.Aw i3 .nil⟩
   ·cases he
  ·cases he
 ·split at he
  ·rename_i ids x H2 hp
   split at he
   ·rename_i hk
    simp only [Option.some.injEq] at he
    subst he
    obtain⟨σ',i1,i2,i3⟩:=key hur hp hk
    exact⟨σ',hu,i1,i2,i3⟩
   ·cases he
  ·cases he
theorem qE (hE:BP E) (hP:E.P=P) (hcall:IV P E B w0 call) (hpure:La E call) {k:Nat} {Z:St->V×Heap->Prop} {F:V×Heap->Act->World->Prop} {σ0:Sg} {ws:World}
  (hZ:∀st r σ a w,Z st r->Dk E B w0 σ st a w->I5 k σ0 ws σ w->F r a w) {ctl:Sj} {K:List Fr} {st:St} {r:V×Heap} (h:Bz call E f fn k Z ctl K st r) :
  U4 E f ctl=true->J6 E f K=true->∀(σ:Sg) (a:Act) (w:World),Dk E B w0 σ st a w->I5 k σ0 ws σ w->rW P (F r) K a w ctl:=by
 induction h with
 | skip h ih=>intro hc hk σ a w hr hf;exact wp_skip (ih rfl hk σ a w hr hf)
 | region hs h ih=>
  intro hc hk σ a w hr hf
  exact wp_region (Z3y hE hP hcall _ _ σ a w hr hs (fun a' w' σ' hr' he' =>ih rfl hk σ' a' w' hr' (hf.trans he')))
 | draw hcalm hs h ih=>
  intro hc hk σ a w hr hf
  refine Z3A hE hP (by rw [<- hP];exact hE.mix) hcall hpure ?_ hr hs (fun a' w' σ' hr' he' =>ih rfl hk σ' a' w' hr' (hf.trans he'))
  simpa [U4,DD,hcalm] using hc
 | seq h ih=>
  intro hc hk σ a w hr hf
  simp only [U4,DD,Bool.and_eq_true] at hc
  exact wp_seq (ih hc.1 (by simp [J6,hc.2,hk]) σ a w hr hf)
 | cond ht h ih=>
  rename_i c x y t K st r
  intro hc hk σ a w hr hf
  simp only [U4,DD,Bool.and_eq_true] at hc
  have hv:=D8 (a:=a) hr.Ci hr.slots c
  rw [ht] at hv
  have hb:a.eval c = .bool t:=by generalize a.eval c=v at hv;cases hv;rfl
  refine wp_cond hb ?_
  refine ih ?_ hk σ a w hr hf
  cases t
  ·exact hc.2
  ·exact hc.1
 | block h ih=>
  intro hc hk σ a w hr hf
  exact wp_block (ih hc hk σ a w hr hf)
 | loop h ih=>
  intro hc hk σ a w hr hf
  simp only [U4,DD] at hc
  exact(LoopIn.of (ih hc (by simp [J6,hc,hk]) σ a w hr hf)).wp
 | scope h ih=>
  intro hc hk σ a w hr hf
  have h1:=ih hc hk σ a w hr hf
  refine wp_scope_straight (wp_mono h1 fun e a' w' hq=>?_)
  cases e with
  | goto l=>exact(Xq _ hq).elim
  | _=>exact hq
 | label h ih=>intro hc hk σ a w hr hf;exact wp_label (ih rfl hk σ a w hr hf)
 | exit h ih=>intro hc hk σ a w hr hf;exact wp_exit (ih rfl hk σ a w hr hf)
 | ret h ih=>intro hc hk σ a w hr hf;exact wp_ret (ih rfl hk σ a w hr hf)
 | nseq h ih=>
  intro hc hk σ a w hr hf
  simp only [J6,Bool.and_eq_true] at hk
  exact ih hk.1 hk.2 σ a w hr hf
 | nblk h ih=>intro hc hk σ a w hr hf;exact ih rfl hk σ a w hr hf
 | Z4q h ih=>
  intro hc hk σ a w hr hf
  have hk' :=hk
  simp only [J6,Bool.and_eq_true] at hk'
  exact LoopIn.of (ih hk'.1 hk σ a w hr hf)
 | eseq h ih=>
  intro hc hk σ a w hr hf
  simp only [J6,Bool.and_eq_true] at hk
  exact ih rfl hk.2 σ a w hr hf
 | Z4h h ih=>
  intro hc hk σ a w hr hf
  simp only [J6,Bool.and_eq_true] at hk
  exact ih rfl hk.2 σ a w hr hf
 | eblk h ih=>
  intro hc hk σ a w hr hf
  have:=ih rfl hk σ a w hr hf
  simp only [rW,QK,Exit.inBlock,if_true]
  exact this
 | Z4K hne h ih=>
  intro hc hk σ a w hr hf
  have:=ih rfl hk σ a w hr hf
  simp only [rW,QK,Exit.inBlock,hne,if_false]
  exact this
 | rany h ih=>
  rename_i x K st r
  intro hc hk σ a w hr hf
  have:J6 E f K=true:=by cases x<;>simp_all [J6]
  have:=ih rfl this σ a w hr hf
  cases x<;>exact this
 | finN hz=>intro hc hk σ a w hr hf;exact hZ _ _ σ a w hz hr hf
 | finR hz=>intro hc hk σ a w hr hf;exact hZ _ _ σ a w hz hr hf
 | tidy ht h ih=>intro hc hk σ a w hr hf;exact ih hc hk _ a w (ZiU ht hr) (hf.ren ht.pre)
 | Z4p hp hpre h ih=>
  intro hc hk σ a w hr hf
  obtain⟨σ1,h1,h2⟩:=ZfA hp hr
  exact ih hc hk _ a w h2 ((hf.trans h1).ren hpre)
end
end Go.Proofs.YtlabamnhpgoekaaGreatDoor.Le
namespace Go.Proofs.YtlabamnhpgoekaaGreatDoor.Le
open Go.RowKit (Below)
section
variable {U:CE}
def RX:List Bool->Bool
 | []=>true
 | [b]=>b
 | b::bs=>b&&RX bs
theorem Z0Y:∀{l:List Bool},RX l=true->∀b∈l,b=true:=by
 intro l
 induction l with
 | nil=>simp_all
 | cons x xs ih=>
  intro h b hb
  cases xs with
  | nil=>simp only [RX] at h;simp only [List.mem_singleton] at hb;rw [hb];exact h
  | cons y ys=>
   simp only [RX,Bool.and_eq_true] at h
   grind
def resT (E:Env) (H:Ad U) (s:List (SV U.Ty)):ResultVar->Tr U (SV U.Ty)
 | .tmp t=>.leaf (s.getD t .und)
 | .cell a t=>loadT E H t (s.getD a .und)
def Rq (E:Env) (H:Ad U) (s:List (SV U.Ty)):List ResultVar->Tr U (List (SV U.Ty))
 | []=>.leaf []
 | r::rs=>(resT E H s r).andThen fun v=>(Rq E H s rs).andThen fun vs=>.leaf (v::vs)
def PV:List Nat->List (SV U.Ty)->Option (List (SV U.Ty))
 | [],[]=>some []
 | t::ts,w::ws=>match U.FV t w,PV ts ws with|some a,some r=>some (U.encS t a::r)|_,_=>none
 | _,_=>none
def sO (E:Env) (fn:Func) (st:CP U):Tr U (SV U.Ty):=
 (Rq E st.H st.s fn.results.toList).andThen fun vs=>
  match vs,fn.resultTypes.toList with
  | [v],[t]=>(O9 st.H v).andThen fun w=>(match U.FV t w with|some a=>.leaf (U.encS t a)|none=>.fail)
  | vs,ts=>.when (vs.length≠1) ((NK st.H vs).andThen fun ws=>(match PV ts ws with|some es=>.leaf (.Aw es)|none=>.fail))
theorem Z2I {E:Env} (hU:CG U E) {st:CP U}:∀{rs:List ResultVar} {vs:List (SV U.Ty)},(Rq E st.H st.s rs).AP vs->rs.mapM (resD E (BN U st).H (BN U st).s)=some (A7 U vs):=by
 intro rs
 induction rs with
 | nil=>intro vs h;simp only [Rq,Tr.AP] at h;subst h;rfl
 | cons r rs ih=>
  intro vs h
  simp only [Rq,DC,Tr.AP] at h
  obtain⟨v,h1,ws,h2,rfl⟩:=h
  have hr:resD E (BN U st).H (BN U st).s r=some (AO U v):=by
   cases r with
   | tmp t=>
    simp only [resT,Tr.AP] at h1
    subst h1
    exact congrArg some (Qp st.s t)
   | cell a t=>
    simp only [resD]
    rw [show (BN U st).s.getD a .und=AO U (st.s.getD a .und) from Qp st.s a]
    exact Z2P hU h1
  rw [List.mapM_cons,hr,ih h2]
  rfl
theorem Zeh {E:Env} (hU:CG U E):∀{ts:List Nat} {ws es:List (SV U.Ty)},PV ts ws=some es->L8 (ts.map E.rows) (A7 U ws)=A7 U es:=by
 intro ts
 induction ts with
 | nil=>
  intro ws es h
  cases ws with
  | nil=>simp only [PV,Option.some.injEq] at h;subst h;rfl
  | cons=>simp [PV] at h
 | cons t ts ih=>
  intro ws es h
  cases ws with
  | nil=>simp [PV] at h
  | cons w ws=>
   simp only [PV] at h
   split at h
   ·rename_i a r h1 h2
    simp only [Option.some.injEq] at h
    subst h
    simp only [List.map_cons,A7,L8,hU.dec _ _ _ h1,hU.encS,ih h2]
   ·cases h
theorem Zjk {H:Heap} {x y:V} (h:Fp H x=some y):∀vs,y≠.Aw vs:=by
 intro vs hy
 subst hy
 unfold Fp at h
 split at h
 ·simp_all
 ·unfold Ee at h
  grind
theorem ZfD {E:Env} (hU:CG U E) {fn:Func} {st:CP U} {v:SV U.Ty} (h:(sO E fn st).AP v) :
  ∃r0 r1,JD E (BN U st).H (BN U st).s fn.results.toList=some r0/\IB (BN U st).H r0=some r1/\OL (fn.resultTypes.toList.map E.rows) r1=AO U v:=by
 unfold sO at h
 simp only [DC] at h
 obtain⟨vs,h1,h⟩:=h
 have hm:=Z2I hU h1
 split at h
 ·rename_i v0 t hts
  simp only [DC] at h
  obtain⟨w,h2,h⟩:=h
  split at h
  ·rename_i a ha
   simp only [Tr.AP] at h
   subst h
   have hf:Fp (BN U st).H (AO U v0)=some (AO U w):=Xg h2
   refine⟨AO U v0,AO U w,by simp only [JD,hm,A7],?_,?_⟩
   ·unfold IB
    split
    ·rename_i us hus
     rw [hus] at hf
     simp [Fp,Ee] at hf
    ·exact hf
   ·rw [hts]
    unfold OL
    split
    ·rename_i us hus
     exact absurd hus (Zjk hf us)
    ·simp only [List.map_cons,List.headD_cons,hU.dec _ _ _ ha,hU.encS]
  ·simp [Tr.AP] at h
 ·rename_i va vs ts hneg
  simp only [D6,DC] at h
  obtain⟨hl,ws,h2,h⟩:=h
  split at h
  ·rename_i es hes
   simp only [Tr.AP] at h
   subst h
   refine⟨.Aw (A7 U va),.Aw (A7 U ws),?_,?_,?_⟩
   ·simp only [JD,hm]
    split
    ·rename_i x hx
     simp only [Option.some.injEq] at hx
     exfalso
     apply hl
     have:=congrArg List.length hx
     rw [Hg] at this
     simpa using this
    ·simp_all
    simp_all
   ·simp only [IB,BN,lV h2,Option.map_some]
   ·simp only [OL,Zeh hU hes,AO]
  ·simp [Tr.AP] at h
def Uu (E:Env) (fn:Func) (st:CP U):Tr U (SV U.Ty×Ad U):=(sO E fn st).andThen fun v=>.leaf (v,[])
def sF (E:Env) (fn:Func) (fa:List (List Fk)) (fb:List Bf) (k:Nat) (st:CP U):Tr U (SV U.Ty×Ad U):=
 (Rq E st.H st.s fn.results.toList).andThen fun vs=>
  match vs with
  | [.Aw _]=>.fail
  | [.raw _]=>.fail
  | [v]=>(Rk fa fb k [v] st.H).andThen fun r=>(match r.2.1 with
   | [a]=>.when (r.1.take k=List.range k) (.leaf (ES (r.1.idxOf ·) a,Ru r.2.2 r.1))
   | _=>.fail)
  | vs=>.when (vs.length≠1) ((Rk fa fb k vs st.H).andThen fun r=>.when (r.1.take k=List.range k) (.leaf (.Aw (KW (r.1.idxOf ·) r.2.1),Ru r.2.2 r.1)))
theorem ZgB {E:Env} (hU:CG U E) {fn:Func} {st:CP U} {r:SV U.Ty×Ad U} (h:(Uu E fn st).AP r):Zp E fn (BN U st) (AO U r.1,Aj U r.2):=by
 simp only [Uu,DC,Tr.AP] at h
 obtain⟨v,h1,rfl⟩:=h
 obtain⟨r0,r1,e1,e2,e3⟩:=ZfD hU h1
 exact⟨r0,r1,e1,e2,by rw [e3];rfl⟩
theorem Zgf {E:Env} (hU:CG U E) {fn:Func} {fa:List (List Fk)} {fb:List Bf} {k:Nat} {st:CP U} {r:SV U.Ty×Ad U} (h:(sF E fn fa fb k st).AP r):Zh E fn fa fb k (BN U st) (AO U r.1,Aj U r.2):=by
 simp only [sF,DC] at h
 obtain⟨vs,h1,h⟩:=h
 have hm:=Z2I hU h1
 split at h
 ·simp [Tr.AP] at h
 ·simp [Tr.AP] at h
 ·rename_i v hn1 hn2
  simp only [DC] at h
  obtain⟨p,hp,h⟩:=h
  split at h
  ·rename_i a ha
   simp only [D6,Tr.AP] at h
   obtain⟨hk,rfl⟩:=h
   have hp' :=X9 hp
   rw [ha] at hp'
   refine⟨AO U v,by simp only [JD,hm,A7],?_⟩
   have hnt:∀cs,AO U v≠.Aw cs:=by
    intro cs hcs
    cases v with
    | Aw vs=>exact hn1 vs rfl
    | raw x=>exact hn2 x rfl
    | _=>simp [AO] at hcs
   unfold VB
   split
   ·rename_i cs hcs;exact absurd hcs (hnt cs)
   ·simp only [A7] at hp'
    simp only [BN,hp']
    rw [if_pos hk,UJ,XV]
  ·simp [Tr.AP] at h
 ·rename_i hneg
  simp only [D6,DC,Tr.AP] at h
  obtain⟨hl,p,hp,hk,rfl⟩:=h
  have hp' :=X9 hp
  refine⟨.Aw (A7 U vs),?_,?_⟩
  ·simp only [JD,hm]
   split
   ·rename_i x hx
    simp only [Option.some.injEq] at hx
    exfalso
    apply hl
    have:=congrArg List.length hx
    rw [Hg] at this
    simpa using this
   ·simp_all
   simp_all
  ·simp only [VB,BN,hp']
   rw [if_pos hk,XV]
   simp only [AO,NG]
inductive Si (U:CE) where
 | done (v:SV U.Ty×Ad U)
 | jump (c:Code) (K:List Fr) (st:CP U)
def ZgL (call:CS) (E:Env) (f:FuncId) (fn:Func) (kk:Nat) (Z:St->V×Heap->Prop):Si U->V×Heap->Prop
 | .done s,v=>v=(AO U s.1,Aj U s.2)
 | .jump c K st,v=>Bz call E f fn kk Z (.run c) K (BN U st) v
end
end Go.Proofs.YtlabamnhpgoekaaGreatDoor.Le
namespace Go.Proofs.YtlabamnhpgoekaaGreatDoor.Le
inductive Pc where
 | v (t n:Nat) (agg:Bool)
 | own (e j:Nat)
 | ptr (j:Nat)
 | fn (f:FuncId) (a b:List Nat)
 | no
 | und
 | V7 (ptr:Bool)
inductive Sp where
 | one (c:Pc)
 | agg (cs:List Pc)
inductive Pb where
 | var (e m:Nat) (p:Sp)
 | row (t:Nat) (fresh:Bool)
 | gone
structure Shape where
 args:List Sp
 boxes:List Pb
abbrev Sp.cells:Sp->List Pc
 | .one c=>[c]
 | .agg cs=>cs
section
variable (U:CE)
@[reducible] def PX:List Pc->Type
 | []=>Unit
 | .v t _ _::ps=>U.Ty t×PX ps
 | _::ps=>PX ps
@[reducible] def AX:List Sp->Type
 | []=>Unit
 | p::ps=>PX U p.cells×AX ps
@[reducible] def BX:List Pb->Type
 | []=>Unit
 | .var _ _ p::bs=>PX U p.cells×BX bs
 | .row t _::bs=>List (U.Ty t)×BX bs
 | .gone::bs=>BX bs
@[reducible] def Shape.X (s:Shape):Type:=AX U s.args×BX U s.boxes
variable {U}
def Hr:(bs:List Pb)->BX U bs->List Nat
 | [],_=>[]
 | .var _ _ _::bs,x=>1::Hr bs x.2
 | .row _ _::bs,x=>x.1.length::Hr bs x.2
 | .gone::bs,x=>1::Hr bs x
def VK (j:Nat):SV U.Ty:=.ptr j 0 0 1
def nulS:Bool->SV U.Ty
 | true=>.lit (.pointer none)
 | false=>.lit .nilFunc
def sW:Bool->SV U.Ty->Bool
 | true,.lit (.pointer none)=>true
 | false,.lit .nilFunc=>true
 | _,_=>false
theorem ZfN {b:Bool} {c:SV U.Ty} (h:sW b c=true):c=nulS b:=by
 unfold sW at h
 split at h<;>first|rfl|cases h
def D5 (ls:List Nat):(ps:List Pc)->PX U ps->List (SV U.Ty)
 | [],_=>[]
 | .v t _ _::ps,x=>cellsS (U.encS t x.1)++D5 ls ps x.2
 | .own _ j::ps,x=>.all j (ls.getD j 0)::D5 ls ps x
 | .ptr j::ps,x=>VK j::D5 ls ps x
 | .fn f a b::ps,x=>.fn f (a.map VK) (b.map VK)::D5 ls ps x
 | .no::ps,x=>.no::D5 ls ps x
 | .und::ps,x=>.und::D5 ls ps x
 | .V7 b::ps,x=>nulS b::D5 ls ps x
def IW (ls:List Nat):(p:Sp)->PX U p.cells->SV U.Ty
 | .one c,x=>(D5 ls [c] x).headD .und
 | .agg cs,x=>.agg (D5 ls cs x)
def JR (ls:List Nat):(ps:List Sp)->AX U ps->List (SV U.Ty)
 | [],_=>[]
 | p::ps,x=>IW ls p x.1::JR ls ps x.2
def Fg (ls:List Nat):(bs:List Pb)->BX U bs->Ad U
 | [],_=>[]
 | .var e m p::bs,x=>.var e m (IW ls p x.1)::Fg ls bs x.2
 | .row t fresh::bs,x=>.row t x.1 (if fresh then none else some x.1.length)::Fg ls bs x.2
 | .gone::bs,x=>.gone::Fg ls bs x
def Shape.enc (s:Shape) (x:s.X U):List (SV U.Ty)×Ad U:=(JR (Hr s.boxes x.2) s.args x.1,Fg (Hr s.boxes x.2) s.boxes x.2)
def N7:SV U.Ty->Bool
 | .nil _ | .raw _ | .agg _ | .Aw _ | .MO _ | .QM ..=>false
 | _=>true
def PW:List Nat->List (SV U.Ty)->Bool
 | [],[]=>true
 | j::js,.ptr i a b c::xs=>decide (i=j/\a=0/\b=0/\c=1)&&PW js xs
 | _,_=>false
def Pg (H:Ad U):List Nat:=H.map fun b=>match b with | .row _ xs _=>xs.length|_=>1
def EZ (ls:List Nat):(ps:List Pc)->List (SV U.Ty)->Option (PX U ps×List Bool)
 | [],cs=>if cs.isEmpty then some ((),[]) else none
 | .v t n true::ps,cs=>if (cs.take n).length=n/\(cs.take n).all N7=true then
   (match U.FV t (.agg (cs.take n)),EZ ls ps (cs.drop n) with
    | some a,some r=>some ((a,r.1),r.2)
    | _,_=>none) else none
 | .v t _ false::ps,c::cs=>if N7 c then
   (match U.FV t c,EZ ls ps cs with
    | some a,some r=>some ((a,r.1),r.2)
    | _,_=>none) else none
 | .own _ j::ps,.all i n::cs=>if i=j then (EZ ls ps cs).map fun r=>(r.1,(ls.getD j 0==n)::r.2) else none
 | .ptr j::ps,.ptr i a b c::cs=>if i=j/\a=0/\b=0/\c=1 then EZ ls ps cs else none
 | .fn f a b::ps,.fn g a' b' :: cs=>if g=f/\PW a a' = true/\PW b b' = true then EZ ls ps cs else none
 | .no::ps,.no::cs=>EZ ls ps cs
 | .und::ps,.und::cs=>EZ ls ps cs
 | .V7 b::ps,c::cs=>if sW b c=true then EZ ls ps cs else none
 | _::_,_=>none
def Y3 (ls:List Nat):(p:Sp)->SV U.Ty->Option (PX U p.cells×List Bool)
 | .one c,x=>EZ ls [c] [x]
 | .agg cs,.agg xs=>EZ ls cs xs
 | _,_=>none
def SX (ls:List Nat):(ps:List Sp)->List (SV U.Ty)->Option (AX U ps×List Bool)
 | [],[]=>some ((),[])
 | p::ps,x::xs=>(match Y3 ls p x,SX ls ps xs with
  | some a,some r=>some ((a.1,r.1),a.2++r.2)
  | _,_=>none)
 | _,_=>none
def MN (ls:List Nat):(bs:List Pb)->Ad U->Option (BX U bs×List Bool)
 | [],[]=>some ((),[])
 | .var e m p::bs,.var e' m' x::H=>if e' = e/\m' = m then
   (match Y3 ls p x,MN ls bs H with
    | some a,some r=>some ((a.1,r.1),a.2++r.2)
    | _,_=>none) else none
 | .row t fresh::bs,.row t' xs fl::H=>if h:t' = t then
   (match fresh,fl,MN ls bs H with
    | true,none,some r=>some ((h▸xs,r.1),r.2)
    | false,some n,some r=>some ((h▸xs,r.1),(n==xs.length)::r.2)
    | _,_,_=>none) else none
 | .gone::bs,.gone::H=>MN ls bs H
 | _,_=>none
def Shape.dec (s:Shape) (as:List (SV U.Ty)) (H:Ad U):Option (s.X U×List Bool):=
 match SX (Pg H) s.args as,MN (Pg H) s.boxes H with
 | some a,some b=>some ((a.1,b.1),a.2++b.2)
 | _,_=>none
theorem Zj {x:SV U.Ty} (h:N7 x=true) (e:Nat):Fb e (AO U x)=AO U x:=by
 cases x<;>simp_all [N7,AO,Fb]
theorem Zao {x:SV U.Ty} (h:N7 x=true):(AO U x).cells=[AO U x]:=by
 cases x<;>first|rfl|(simp [N7] at h)
theorem Zcb {x:SV U.Ty} (h:N7 x=true):∀cs,AO U x≠.agg cs:=by
 intro cs hc
 cases x<;>first|(cases hc;done)|(simp [N7] at h)
theorem Za4:∀{xs:List (SV U.Ty)},xs.all N7=true->∀es,FQ es (A7 U xs)=A7 U xs:=by
 intro xs
 induction xs with
 | nil=>intro _ es;cases es<;>rfl
 | cons x xs ih=>
  intro h es
  simp only [List.all_cons,Bool.and_eq_true] at h
  cases es with
  | nil=>rfl
  | cons e es=>simp only [A7,FQ,Zj h.1,ih h.2]
theorem Nz (xs ys:List (SV U.Ty)):A7 U (xs++ys)=A7 U xs++A7 U ys:=by simp [Dl]
theorem Z1Y:∀{js:List Nat} {xs:List (SV U.Ty)},PW js xs=true->xs=js.map VK:=by
 intro js
 induction js with
 | nil=>intro xs h;cases xs with
  | nil=>rfl
  | cons=>simp [PW] at h
 | cons j js ih=>
  intro xs h
  cases xs with
  | nil=>simp [PW] at h
  | cons x xs=>
   cases x<;>simp [PW] at h
   obtain⟨⟨rfl,rfl,rfl,rfl⟩,h2⟩:=h
   rw [ih h2]
   rfl
theorem Z38 {E:Env} (hU:CG U E) (ls:List Nat):∀(ps:List Pc) {cs:List (SV U.Ty)} {r:PX U ps×List Bool},EZ ls ps cs=some r->(∀b∈r.2,b=true)->A7 U cs=A7 U (D5 ls ps r.1):=by
 intro ps
 induction ps with
 | nil=>
  intro cs r h _
  simp only [EZ] at h
  split at h
  ·rename_i hc;cases cs with
   | nil=>rfl
   | cons=>simp at hc
  ·cases h
 | cons p ps ih=>
  intro cs r h hb
  cases p with
  | v t n ag=>
   cases ag with
   | true=>
    simp only [EZ] at h
    split at h
    ·rename_i hc
     split at h
     ·rename_i a r' h1 h2
      simp only [Option.some.injEq] at h
      subst h
      have e:=hU.dec t _ a h1
      simp only [AO,DJ] at e
      rw [Za4 hc.2] at e
      have ec:=hU.cells t a
      rw [<- e] at ec
      simp only [V.cells] at ec
      simp only [D5,Nz,<- ec,<- ih h2 hb]
      rw [<- Nz,List.take_append_drop]
     ·cases h
    ·cases h
   | false=>
    cases cs with
    | nil=>simp [EZ] at h
    | cons c cs=>
     simp only [EZ] at h
     split at h
     ·rename_i hc
      split at h
      ·rename_i a r' h1 h2
       simp only [Option.some.injEq] at h
       subst h
       have e:=hU.dec t _ a h1
       have hr:∀es,DJ es (AO U c)=AO U c:=by
        intro es
        unfold DJ
        split
        ·rename_i cs' hcs
         exact absurd hcs (Zcb hc cs')
        ·exact Zj hc _
       rw [hr] at e
       have ec:=hU.cells t a
       rw [<- e] at ec
       rw [Zao hc] at ec
       simp only [D5,Nz,<- ec,<- ih h2 hb]
       rfl
      ·cases h
     ·cases h
  | own e j=>
   cases cs with
   | nil=>simp [EZ] at h
   | cons c cs=>
    cases c<;>simp only [EZ] at h<;>try (cases h;done)
    split at h
    ·rename_i hij
     subst hij
     simp only [Option.map_eq_some_iff] at h
     obtain⟨r',h2,rfl⟩:=h
     have hn:=hb _ (List.mem_cons_self ..)
     simp only [beq_iff_eq] at hn
     simp only [D5,A7,AO,hn,ih h2 (fun b hh=>hb b (by simp [hh]))]
    ·cases h
  | ptr j=>
   cases cs with
   | nil=>simp [EZ] at h
   | cons c cs=>
    cases c<;>simp only [EZ] at h<;>try (cases h;done)
    split at h
    ·rename_i hij
     obtain⟨rfl,rfl,rfl,rfl⟩:=hij
     simp only [D5,A7,VK,ih h hb]
    ·cases h
  | fn f a b=>
   cases cs with
   | nil=>simp [EZ] at h
   | cons c cs=>
    cases c<;>simp only [EZ] at h<;>try (cases h;done)
    split at h
    ·rename_i hij
     obtain⟨rfl,h1,h2⟩:=hij
     rw [Z1Y h1,Z1Y h2]
     simp only [D5,A7,ih h hb]
    ·cases h
  | no=>
   cases cs with
   | nil=>simp [EZ] at h
   | cons c cs=>
    cases c<;>simp only [EZ] at h<;>try (cases h;done)
    simp only [D5,A7,ih h hb]
  | und=>
   cases cs with
   | nil=>simp [EZ] at h
   | cons c cs=>
    cases c<;>simp only [EZ] at h<;>try (cases h;done)
    simp only [D5,A7,ih h hb]
  | V7 b=>
   cases cs with
   | nil=>simp [EZ] at h
   | cons c cs=>
    simp only [EZ] at h
    split at h
    ·rename_i hn
     rw [ZfN hn]
     simp only [D5,A7,ih h hb]
    ·cases h
theorem Z33 {E:Env} (hU:CG U E) (ls:List Nat) {p:Sp} {x:SV U.Ty} {r:PX U p.cells×List Bool} (h:Y3 ls p x=some r) (hb:∀b∈r.2,b=true):AO U x=AO U (IW ls p r.1):=by
 cases p with
 | one c=>
  have:=Z38 hU ls [c] h hb
  simp only [A7] at this
  cases hp:D5 ls [c] r.1 with
  | nil=>rw [hp] at this;cases this
  | cons y ys=>
   rw [hp] at this
   simp only [A7,List.cons.injEq] at this
   simp only [IW]
   simp_all
 | agg cs=>
  cases x<;>simp only [Y3] at h<;>try (cases h;done)
  have:=Z38 hU ls cs h hb
  simp only [IW,AO,this]
theorem ZhZ {E:Env} (hU:CG U E) (ls:List Nat):∀(ps:List Sp) {cs:List (SV U.Ty)} {r:AX U ps×List Bool},SX ls ps cs=some r->(∀b∈r.2,b=true)->A7 U cs=A7 U (JR ls ps r.1):=by
 intro ps
 induction ps with
 | nil=>
  intro cs r h _
  cases cs with
  | nil=>rfl
  | cons=>simp [SX] at h
 | cons p ps ih=>
  intro cs r h hb
  cases cs with
  | nil=>simp [SX] at h
  | cons c cs=>
   simp only [SX] at h
   split at h
   ·rename_i a r' h1 h2
    simp only [Option.some.injEq] at h
    subst h
    simp only [JR,A7,Z33 hU ls h1 (fun b hh=>hb b (by simp [hh])),ih h2 (fun b hh=>hb b (by simp [hh]))]
   ·cases h
theorem ZiT {E:Env} (hU:CG U E) (ls:List Nat):∀(bs:List Pb) {H:Ad U} {r:BX U bs×List Bool},MN ls bs H=some r->(∀b∈r.2,b=true)->Aj U H=Aj U (Fg ls bs r.1)/\Hr bs r.1=Pg H:=by
 intro bs
 induction bs with
 | nil=>
  intro H r h _
  cases H with
  | nil=>exact⟨rfl,rfl⟩
  | cons=>simp [MN] at h
 | cons b bs ih=>
  intro H r h hb
  cases H with
  | nil=>cases b<;>simp [MN] at h
  | cons x H=>
   cases b with
   | var e m p=>
    cases x<;>simp only [MN] at h<;>try (cases h;done)
    split at h
    ·rename_i he
     obtain⟨rfl,rfl⟩:=he
     split at h
     ·rename_i a r' h1 h2
      simp only [Option.some.injEq] at h
      subst h
      obtain⟨e1,e2⟩:=ih h2 (fun b hh=>hb b (by simp [hh]))
      have e3:=Z33 hU ls h1 (fun b hh=>hb b (by simp [hh]))
      refine⟨?_,?_⟩
      ·simp only [Aj,Fg,List.map_cons,BM,e3]
       exact congrArg _ e1
      ·simp only [Hr,Pg,List.map_cons,e2]
     ·cases h
    ·cases h
   | row t fresh=>
    cases x<;>simp only [MN] at h<;>try (cases h;done)
    rename_i t' xs fl
    split at h
    ·rename_i ht
     subst ht
     split at h
     ·rename_i r' h2
      simp only [Option.some.injEq] at h
      subst h
      obtain⟨e1,e2⟩:=ih h2 hb
      refine⟨?_,?_⟩
      ·simp only [Aj,Fg,List.map_cons,if_true]
       exact congrArg _ e1
      ·simp only [Hr,Pg,List.map_cons,e2]
     ·rename_i n r' h2
      simp only [Option.some.injEq] at h
      subst h
      obtain⟨e1,e2⟩:=ih h2 (fun b hh=>hb b (by simp [hh]))
      have hn:=hb _ (List.mem_cons_self ..)
      simp only [beq_iff_eq] at hn
      refine⟨?_,?_⟩
      ·simp only [Aj,Fg,List.map_cons,Bool.false_eq_true,if_false,BM,hn]
       exact congrArg _ e1
      ·simp only [Hr,Pg,List.map_cons,e2]
     ·cases h
    ·cases h
   | gone=>
    cases x<;>simp only [MN] at h<;>try (cases h;done)
    obtain⟨e1,e2⟩:=ih h hb
    refine⟨?_,?_⟩
    ·simp only [Aj,Fg,List.map_cons]
     exact congrArg _ e1
    ·simp only [Hr,Pg,List.map_cons,e2]
theorem Shape.YL {E:Env} (hU:CG U E) {s:Shape} {as:List (SV U.Ty)} {H:Ad U} {r:s.X U×List Bool} (h:s.dec as H=some r) (hb:∀b∈r.2,b=true):A7 U as=A7 U (s.enc r.1).1/\Aj U H=Aj U (s.enc r.1).2:=by
 unfold Shape.dec at h
 split at h
 ·rename_i a b h1 h2
  simp only [Option.some.injEq] at h
  subst h
  obtain⟨e1,e2⟩:=ZiT hU _ _ h2 (fun b hh=>hb b (by simp [hh]))
  have e3:=ZhZ hU _ _ h1 (fun b hh=>hb b (by simp [hh]))
  simp only [Shape.enc,e2]
  exact⟨e3,e1⟩
 ·cases h
variable (U)
def Yo:Pc->Prop
 | .v t n true=>t∈U.keys/\∀a,∃cs,U.encS t a = .agg cs/\cs.length=n
 | .v t n false=>t∈U.keys/\∀a,cellsS (U.encS t a)=[U.encS t a]
 | _=>True
def Yg:List Pc->Prop
 | []=>True
 | p::ps=>Yo U p/\Yg ps
def Yj:Sp->Prop
 | .one (.v _ _ true)=>False
 | .one c=>Yo U c
 | .agg cs=>Yg U cs
def Yp:List Sp->Prop
 | []=>True
 | p::ps=>Yj U p/\Yp ps
def SG:List Pb->Prop
 | []=>True
 | .var _ _ p::bs=>Yj U p/\SG bs
 | .row t _::bs=>t∈U.keys/\SG bs
 | .gone::bs=>SG bs
def Shape.OK (s:Shape):Prop:=Yp U s.args/\SG U s.boxes
variable {U}
def Sr (k1:List Nat) (kN:List (Nat×Nat)):Pc->Bool
 | .v t n true=>kN.contains (t,n)
 | .v t _ false=>k1.contains t
 | _=>true
def Yz (k1:List Nat) (kN:List (Nat×Nat)):Sp->Bool
 | .one (.v _ _ true)=>false
 | .one c=>Sr k1 kN c
 | .agg cs=>cs.all (Sr k1 kN)
def pbB (U:CE) (k1:List Nat) (kN:List (Nat×Nat)):Pb->Bool
 | .var _ _ p=>Yz k1 kN p
 | .row t _=>U.keys.contains t
 | .gone=>true
def shB (U:CE) (k1:List Nat) (kN:List (Nat×Nat)) (s:Shape):Bool:=s.args.all (Yz k1 kN)&&s.boxes.all (pbB U k1 kN)
theorem Shape.ok_of {k1:List Nat} {kN:List (Nat×Nat)} (h1:∀t∈k1,t∈U.keys/\∀a,cellsS (U.encS t a)=[U.encS t a]) (hN:∀p∈kN,p.1∈U.keys/\∀a,∃cs,U.encS p.1 a = .agg cs/\cs.length=p.2) {s:Shape} (h:shB U k1 kN s=true):s.OK U:=by
 have hp:∀c,Sr k1 kN c=true->Yo U c:=by
  intro c hc
  cases c with
  | v t n ag=>cases ag with
   | true=>exact hN (t,n) (by simpa [Sr] using hc)
   | false=>exact h1 t (by simpa [Sr] using hc)
  | _=>trivial
 have hps:∀cs:List Pc,cs.all (Sr k1 kN)=true->Yg U cs:=by
  intro cs
  induction cs with
  | nil=>intro _;trivial
  | cons c cs ih=>intro h;simp only [List.all_cons,Bool.and_eq_true] at h;exact⟨hp c h.1,ih h.2⟩
 have hsp:∀p,Yz k1 kN p=true->Yj U p:=by
  intro p hh
  cases p with
  | agg cs=>exact hps cs hh
  | one c=>cases c with
   | v t n ag=>cases ag with
    | true=>cases hh
    | false=>exact hp (.v t n false) hh
   | _=>trivial
 have has:∀l:List Sp,l.all (Yz k1 kN)=true->Yp U l:=by
  intro l
  induction l with
  | nil=>intro _;trivial
  | cons p l ih=>intro h;simp only [List.all_cons,Bool.and_eq_true] at h;exact⟨hsp p h.1,ih h.2⟩
 have hbs:∀l:List Pb,l.all (pbB U k1 kN)=true->SG U l:=by
  intro l
  induction l with
  | nil=>intro _;trivial
  | cons p l ih=>
   intro h
   simp only [List.all_cons,Bool.and_eq_true] at h
   cases p with
   | var e m q=>exact⟨hsp q h.1,ih h.2⟩
   | row t fr=>exact⟨by simpa [pbB] using h.1,ih h.2⟩
   | gone=>exact ih h.2
 unfold shB at h
 rw [Bool.and_eq_true] at h
 exact⟨has _ h.1,hbs _ h.2⟩
theorem Z2v {E:Env} (hU:CG U E) {ls ls' : List Nat}:∀{ps:List Pc} {x y:PX U ps},Yg U ps->A7 U (D5 ls ps x)=A7 U (D5 ls' ps y)->x=y:=by
 intro ps
 induction ps with
 | nil=>intro x y _ _;rfl
 | cons p ps ih=>
  intro x y hk h
  obtain⟨hp,hk⟩:=hk
  cases p with
  | v t n ag=>
   obtain⟨a,x'⟩:=x
   obtain⟨b,y'⟩:=y
   simp only [D5,Nz] at h
   have key:A7 U (cellsS (U.encS t a))=A7 U (cellsS (U.encS t b))/\A7 U (D5 ls ps x')=A7 U (D5 ls' ps y')/\U.enc t a=U.enc t b/\t∈U.keys:=by
    cases ag with
    | true=>
     obtain⟨hm,hl⟩:=hp
     obtain⟨ca,ea,la⟩:=hl a
     obtain⟨cb,eb,lb⟩:=hl b
     have:=List.append_inj h (by rw [Hg,Hg,ea,eb];simp only [cellsS,la,lb])
     refine⟨this.1,this.2,?_,hm⟩
     rw [<- hU.encS,<- hU.encS,ea,eb]
     have h1:=this.1
     rw [ea,eb] at h1
     simp only [cellsS] at h1
     simp only [AO,h1]
    | false=>
     obtain⟨hm,hl⟩:=hp
     have:=List.append_inj h (by simp_all;rfl)
     refine⟨this.1,this.2,?_,hm⟩
     have h1:=this.1
     rw [hl a,hl b] at h1
     simp only [A7,List.cons.injEq,and_true,hU.encS] at h1
     exact h1
   obtain⟨_,h2,h3,hm⟩:=key
   have ha:=hU.inj t hm a b h3
   grind
  | own e j=>
   simp only [D5,A7,List.cons.injEq] at h
   exact ih hk h.2
  | ptr j=>
   simp only [D5,A7,List.cons.injEq] at h
   exact ih hk h.2
  | fn f a b=>
   simp only [D5,A7,List.cons.injEq] at h
   exact ih hk h.2
  | no=>
   simp only [D5,A7,List.cons.injEq] at h
   exact ih hk h.2
  | und=>
   simp only [D5,A7,List.cons.injEq] at h
   exact ih hk h.2
  | V7 b=>
   simp only [D5,A7,List.cons.injEq] at h
   exact ih hk h.2
theorem Z1W {E:Env} (hU:CG U E) {ls ls' : List Nat} {p:Sp} {x y:PX U p.cells} (hk:Yj U p) (h:AO U (IW ls p x)=AO U (IW ls' p y)):x=y:=by
 cases p with
 | one c=>
  cases c with
  | v t n ag=>
   cases ag with
   | true=>exact hk.elim
   | false=>
    obtain⟨a,x'⟩:=x
    obtain⟨b,y'⟩:=y
    have hk' : Yo U (.v t n false):=hk
    refine Z2v hU (ps:=[.v t n false]) ⟨hk',trivial⟩ (ls:=ls) (ls' :=ls') ?_
    simp only [IW,D5,hk'.2,List.append_nil,List.headD_cons] at h
    simp only [D5,hk'.2,List.append_nil,A7,h]
  | own e j=>simp_all
  | ptr j=>rfl
  | fn f a b=>rfl
  | no=>rfl
  | und=>rfl
  | V7 b=>rfl
 | agg cs=>
  simp only [IW,AO,V.agg.injEq] at h
  exact Z2v hU hk h
theorem Zfx {E:Env} (hU:CG U E) {ls ls' : List Nat}:∀{ps:List Sp} {x y:AX U ps},Yp U ps->A7 U (JR ls ps x)=A7 U (JR ls' ps y)->x=y:=by
 intro ps
 induction ps with
 | nil=>intro x y _ _;rfl
 | cons p ps ih=>
  intro x y hk h
  obtain⟨a,x'⟩:=x
  obtain⟨b,y'⟩:=y
  simp only [JR,A7,List.cons.injEq] at h
  rw [Z1W hU hk.1 h.1,ih hk.2 h.2]
theorem Zc3 {E:Env} (hU:CG U E) {t:Nat} (ht:t∈U.keys):∀{xs ys:List (U.Ty t)},xs.map (U.enc t)=ys.map (U.enc t)->xs=ys:=by
 intro xs
 induction xs with
 | nil=>intro ys h;cases ys with
  | nil=>rfl
  | cons=>cases h
 | cons x xs ih=>
  intro ys h
  cases ys with
  | nil=>cases h
  | cons y ys=>
   simp only [List.map_cons,List.cons.injEq] at h
   rw [hU.inj t ht x y h.1,ih h.2]
theorem ZgA {E:Env} (hU:CG U E) {ls ls' : List Nat}:∀{bs:List Pb} {x y:BX U bs},SG U bs->Aj U (Fg ls bs x)=Aj U (Fg ls' bs y)->x=y:=by
 intro bs
 induction bs with
 | nil=>intro x y _ _;rfl
 | cons b bs ih=>
  intro x y hk h
  cases b with
  | var e m p=>
   obtain⟨a,x'⟩:=x
   obtain⟨b,y'⟩:=y
   simp only [Fg,Aj,List.map_cons,List.cons.injEq,BM,BH,Box.mk.injEq,true_and,and_true] at h
   rw [Z1W hU hk.1 h.1,ih hk.2 h.2]
  | row t fresh=>
   obtain⟨a,x'⟩:=x
   obtain⟨b,y'⟩:=y
   simp only [Fg,Aj,List.map_cons,List.cons.injEq,BM,Box.mk.injEq,true_and] at h
   rw [Zc3 hU hk.1 h.1.1,ih hk.2 h.2]
  | gone=>
   simp only [Fg,Aj,List.map_cons,List.cons.injEq,true_and] at h
   exact ih hk h
theorem Shape.Z3u {E:Env} (hU:CG U E) {s:Shape} (hk:s.OK U) {x y:s.X U} (h1:A7 U (s.enc x).1=A7 U (s.enc y).1) (h2:Aj U (s.enc x).2=Aj U (s.enc y).2):x=y:=by
 obtain⟨a,b⟩:=x
 obtain⟨a',b'⟩:=y
 have e2:=ZgA hU hk.2 h2
 simp only at e2
 subst e2
 have e1:=Zfx hU hk.1 h1
 simp only at e1
 rw [e1]
variable (U)
structure HMod where
 fa:List (List Fk)
 fb:List Bf
 BU:Shape
 GV:Shape
 one:Bool
 ky:Nat
 Iz:U.Ty ky->GV.X U
 fn:BU.X U->Option (U.Ty ky)
 ok:BU.OK U
variable {U}
def HMod.out (m:HMod U) (y:U.Ty m.ky):SV U.Ty×Ad U:=((if m.one then (m.GV.enc (m.Iz y)).1.headD .und else .Aw (m.GV.enc (m.Iz y)).1),(m.GV.enc (m.Iz y)).2)
open Classical in
noncomputable def HMod.spec (m:HMod U):Ph where
 fa:=m.fa
 fb:=m.fb
 run:=fun as H0=>if h:∃x:m.BU.X U,A7 U (m.BU.enc x).1=as/\Aj U (m.BU.enc x).2=H0 then (m.fn (Classical.choose h)).map fun y=>(AO U (m.out y).1,Aj U (m.out y).2) else none
theorem HMod.Zgi {E:Env} (hU:CG U E) (m:HMod U) (x:m.BU.X U):m.spec.run (A7 U (m.BU.enc x).1) (Aj U (m.BU.enc x).2)=(m.fn x).map fun y=>(AO U (m.out y).1,Aj U (m.out y).2):=by
 have h:∃y:m.BU.X U,A7 U (m.BU.enc y).1=A7 U (m.BU.enc x).1/\Aj U (m.BU.enc y).2=Aj U (m.BU.enc x).2:=⟨x,rfl,rfl⟩
 simp only [HMod.spec,dif_pos h]
 rw [Shape.Z3u hU m.ok (Classical.choose_spec h).1 (Classical.choose_spec h).2]
def qR (m:HMod U) (as:List (SV U.Ty)) (H:Ad U):Tr U (SV U.Ty×Ad U):=
 (Rk m.fa m.fb 0 as H).andThen fun r=>match m.BU.dec (KW (r.1.idxOf ·) r.2.1) (Ru r.2.2 r.1) with
  | some x=>(match x.2 with
   | []=>.bind m.ky (m.fn x.1) fun y=>.when (r.1.length<=(m.out y).2.length) (.leaf (ES (Hw r.1 r.2.2.length) (m.out y).1,UO r.2.2 r.1 (m.out y).2))
   | c::cs=>.chk (RX (c::cs)) (.bind m.ky (m.fn x.1) fun y=>.when (r.1.length<=(m.out y).2.length) (.leaf (ES (Hw r.1 r.2.2.length) (m.out y).1,UO r.2.2 r.1 (m.out y).2))))
  | none=>.fail
theorem Zfp {E:Env} (hU:CG U E) {m:HMod U} {as:List (SV U.Ty)} {H:Ad U} {r:SV U.Ty×Ad U} (h:(qR m as H).AP r):Ij m.spec (A7 U as) (Aj U H)=some (AO U r.1,Aj U r.2):=by
 simp only [qR,DC] at h
 obtain⟨p,hp,h⟩:=h
 have hp' :=X9 hp
 split at h
 ·rename_i x hx
  have key:(∀b∈x.2,b=true)/\∃y,m.fn x.1=some y/\p.1.length<=(m.out y).2.length/\r=(ES (Hw p.1 p.2.2.length) (m.out y).1,UO p.2.2 p.1 (m.out y).2):=by
   split at h
   ·rename_i hnil
    simp only [Tr.AP,D6] at h
    obtain⟨y,h1,h2,h3⟩:=h
    exact⟨by rw [hnil];intro b hb;simp at hb,y,h1,h2,h3.symm⟩
   ·rename_i c cs hcs
    simp only [Tr.AP,D6] at h
    obtain⟨hc,y,h1,h2,h3⟩:=h
    exact⟨by rw [hcs];exact Z0Y hc,y,h1,h2,h3.symm⟩
  obtain⟨hb,y,h1,h2,rfl⟩:=key
  obtain⟨e1,e2⟩:=Shape.YL hU hx hb
  rw [NG] at e1
  rw [XV] at e2
  unfold Ij
  simp only [show m.spec.fa=m.fa from rfl,show m.spec.fb=m.fb from rfl,hp',e1,e2,HMod.Zgi hU,h1,Option.map_some,OA]
  rw [if_pos h2,UJ,Z9X]
 ·simp [Tr.AP] at h
end
end Go.Proofs.YtlabamnhpgoekaaGreatDoor.Le
namespace Go.Proofs.YtlabamnhpgoekaaGreatDoor.Le
open Go.RowKit (Below)
section
variable {U:CE}
def Dy (U:CE):List Nat->Type
 | []=>Unit
 | t::ts=>U.Ty t×Dy U ts
def Ep:(ts:List Nat)->Dy U ts->List V
 | [],_=>[]
 | t::ts,x=>U.enc t x.1::Ep ts x.2
def PD:(ts:List Nat)->List (SV U.Ty)->Option (Dy U ts)
 | [],[]=>some ()
 | t::ts,v::vs=>match U.FV t v,PD ts vs with|some a,some as=>some (a,as)|_,_=>none
 | _,_=>none
structure Ai (U:CE) where
 ts:List Nat
 rt:Nat
 fn:Dy U ts->Option (U.Ty rt)
 ok:∀t∈ts,t∈U.keys
def Ui:SV U.Ty->Bool
 | .ptr _ _ _ _=>true
 | .raw v=>P8 v
 | _=>false
def qU (H:Ad U):SV U.Ty->Tr U (SV U.Ty)
 | .ptr id i off tot=>if i=0/\off=0/\tot=1 then (match H[id]? with
   | some (.var _ n (.agg cs))=>.leaf (.raw (.BK n [.agg ((A7 U cs).map Pm)] 0 0))
   | some (.var _ n x)=>(match SH x with|some z=>.leaf (.raw (.BK n [.lit z] 0 0))|none=>.fail)
   | _=>.fail) else .fail
 | .raw _=>.fail
 | v=>O9 H v
def UN (H:Ad U):List (SV U.Ty)->Tr U (List (SV U.Ty))
 | []=>.leaf []
 | v::vs=>(qU H v).andThen fun w=>(UN H vs).andThen fun ws=>.leaf (w::ws)
def YQ:SV U.Ty->Bool
 | .lit _ | .si _ _ | .sb _ | .ss _=>true
 | _=>false
def RG:SV U.Ty->Bool
 | .lit _ | .si _ _ | .sb _ | .ss _=>true
 | .agg cs=>cs.all YQ
 | _=>false
def rQ:SV U.Ty->Bool
 | .Aw vs=>vs.all RG
 | v=>RG v
theorem Ze8 (x:SV U.Ty):P8 (AO U x)=Ui x:=by
 cases x<;>simp [Ui,P8,AO]
theorem Z1l (xs:List (SV U.Ty)):(A7 U xs).any P8=xs.any Ui:=by
 induction xs with
 | nil=>rfl
 | cons x xs ih=>simp only [A7,List.any_cons,ih,Ze8]
theorem Zeg (x:SV U.Ty) (h:YQ x=true):HY (AO U x)=true:=by
 cases x<;>simp_all [YQ,HY,AO]
theorem Z13 (xs:List (SV U.Ty)) (h:xs.all YQ=true):(A7 U xs).all HY=true:=by
 induction xs with
 | nil=>rfl
 | cons x xs ih=>
  simp only [List.all_cons,Bool.and_eq_true] at h
  simp only [A7,List.all_cons,Bool.and_eq_true]
  exact⟨Zeg x h.1,ih h.2⟩
theorem Zf3 (x:SV U.Ty) (h:RG x=true):Kw (AO U x)=true:=by
 cases x<;>first|(simp [RG] at h;done)|(simp [Kw,AO];done)|skip
 rename_i cs
 simp only [AO,Kw]
 exact Z13 cs h
theorem Zdj (xs:List (SV U.Ty)) (h:xs.all RG=true):(A7 U xs).all Kw=true:=by
 induction xs with
 | nil=>rfl
 | cons x xs ih=>
  simp only [List.all_cons,Bool.and_eq_true] at h
  simp only [A7,List.all_cons,Bool.and_eq_true]
  exact⟨Zf3 x h.1,ih h.2⟩
theorem ZfC (x:SV U.Ty) (h:rQ x=true):OU (AO U x)=true:=by
 cases x<;>first|(simp [rQ,RG] at h;done)|(simp [OU,Kw,AO];done)|skip
 ·rename_i cs
  simp only [AO,OU,Kw]
  exact Z13 cs h
 ·rename_i vs
  simp only [AO,OU]
  exact Zdj vs h
theorem Ze7 {H:Ad U} {x y:SV U.Ty} (h:(qU H x).AP y):MG (Aj U H) (AO U x)=some (AO U y):=by
 unfold qU at h
 split at h
 ·rename_i id i off tot
  split at h
  ·rename_i hz
   obtain⟨rfl,rfl,rfl⟩:=hz
   split at h
   ·rename_i e n cs hb
    simp only [Tr.AP] at h
    subst h
    simp only [AO,MG,and_self,if_true,CB,JF,hb,Option.map_some,BM,BH]
    simp
   ·rename_i e n x hb hna
    split at h
    ·rename_i z hz
     simp only [Tr.AP] at h
     subst h
     have hx:AO U x = .lit z:=by cases x<;>simp_all [SH,AO]
     simp only [AO,MG,and_self,if_true,CB,JF,hna,Option.map_some,BM,BH,hx]
     simp
    ·simp [Tr.AP] at h
   ·simp [Tr.AP] at h
  ·simp [Tr.AP] at h
 ·simp [Tr.AP] at h
 ·rename_i hn1 hn2
  unfold MG
  split
  ·rename_i id i off tot hv
   exfalso
   cases x<;>simp [AO] at hv
   ·exact hn1 _ _ _ _ rfl
   ·exact hn2 _ rfl
  ·exact Xg h
theorem Zbb {H:Ad U}:∀{xs ys:List (SV U.Ty)},(UN H xs).AP ys->JE (Aj U H) (A7 U xs)=some (A7 U ys):=by
 intro xs
 induction xs with
 | nil=>intro ys h;simp only [UN,Tr.AP] at h;subst h;rfl
 | cons x xs ih=>
  intro ys h
  simp only [UN,DC,Tr.AP] at h
  obtain⟨w,h1,ws,h2,rfl⟩:=h
  simp only [A7,JE,Ze7 h1,ih h2]
def uQ (hmods:FuncId->List FuncId->Option (HMod U)) (g:FuncId):Bool:=match hmods g [] with|some m=>m.fb.all Bf.isRow|none=>false
def Lu (mods:FuncId->Option (Ai U)) (hmods:FuncId->List FuncId->Option (HMod U)) (mk:FuncId->Option (List (Int×FuncId))):GY U:=fun g as H=>
 match mk g with
 | some l=>(match as with|[x]=>.when ((J8 x).isEmpty=true) (.leaf (.MO (l.flatMap fun q=>[.lit (.int .i64 q.1),.fn q.2 [x] []]),H))|_=>.fail)
 | none=>
 match mods g with
 | some m=>if as.any Ui then (UN H as).andThen fun as' =>(match PD m.ts as' with
   | some x=>.bind m.rt (m.fn x) fun r=>.when (rQ (U.encS m.rt r)=true/\(as.flatMap J8).isEmpty=true) (.leaf (U.encS m.rt r,H))
   | none=>.fail)
  else (NK H as).andThen fun as' =>(match PD m.ts as' with
  | some x=>.bind m.rt (m.fn x) fun r=>.leaf (U.encS m.rt r,Nh H (as.flatMap J8))
  | none=>.fail)
 | none=>match hmods g (if uQ hmods g then [] else RU as) with
  | some m=>qR m as H
  | none=>.fail
noncomputable def SA (hmods:FuncId->List FuncId->Option (HMod U)):FuncId->List FuncId->Option Ph:=fun g k=>(hmods g k).map HMod.spec
open Classical in
noncomputable def MH (mods:FuncId->Option (Ai U)):FuncId->Option (List V->Option V):=fun g=>
 match mods g with
 | some m=>some fun as=>if h:∃x:Dy U m.ts,Ep m.ts x=as then (m.fn (Classical.choose h)).map (U.enc m.rt) else none
 | none=>none
theorem Z19 {E:Env} (hU:CG U E):∀{ts:List Nat} {vs:List (SV U.Ty)} {x:Dy U ts},PD ts vs=some x->Eo E.rows ts (A7 U vs)=Ep ts x:=by
 intro ts
 induction ts with
 | nil=>
  intro vs x h
  cases vs with
  | nil=>rfl
  | cons=>simp [PD] at h
 | cons t ts ih=>
  intro vs x h
  cases vs with
  | nil=>simp [PD] at h
  | cons v vs=>
   simp only [PD] at h
   split at h
   ·rename_i a as h1 h2
    cases h
    simp only [A7,Eo,Ep,hU.dec _ _ _ h1,ih h2]
   ·cases h
theorem Zbj {E:Env} (hU:CG U E):∀{ts:List Nat} {x y:Dy U ts},(∀t∈ts,t∈U.keys)->Ep ts x=Ep ts y->x=y:=by
 intro ts
 induction ts with
 | nil=>intro x y _ _;rfl
 | cons t ts ih=>
  intro x y hk h
  obtain⟨x1,x2⟩:=x
  obtain⟨y1,y2⟩:=y
  simp only [Ep,List.cons.injEq] at h
  rw [hU.inj t (hk t (by simp)) _ _ h.1,ih (fun t' ht' =>hk t' (by simp [ht'])) h.2]
theorem oL {E:Env} (hU:CG U E) {mods:FuncId->Option (Ai U)} {g:FuncId} {m:Ai U} (hm:mods g=some m) {F:List V->Option V} (hF:MH mods g=some F) (x:Dy U m.ts):F (Ep m.ts x)=(m.fn x).map (U.enc m.rt):=by
 unfold MH at hF
 simp only [hm,Option.some.injEq] at hF
 subst hF
 have h:∃y:Dy U m.ts,Ep m.ts y=Ep m.ts x:=⟨x,rfl⟩
 simp only [dif_pos h]
 rw [Zbj hU m.ok (Classical.choose_spec h)]
theorem ZgQ {E:Env} (hU:CG U E) {mods:FuncId->Option (Ai U)} {hmods:FuncId->List FuncId->Option (HMod U)} (henv:E.env=MH mods) (hhm:E.hm=SA hmods) (hpu:∀g,E.pure g=false) (hpar:∀g m,mods g=some m->E.par g=m.ts)
  (hown:∀g,E.own g=none) (n:Nat):Kr U (Lu mods hmods E.maps) (Cm E (n+1)):=by
 intro g as H v H' h
 unfold Lu at h
 cases hmk:E.maps g with
 | some l=>
  simp only [hmk] at h
  split at h
  ·simp only [D6,Tr.AP,Prod.mk.injEq] at h
   obtain⟨hi,rfl,rfl⟩:=h
   unfold Cm
   simp only [hmk,A7,oO]
   rw [if_pos hi]
   simp only [AO,Dl,mkV,List.map_flatMap,List.map_cons,List.map_nil]
  ·cases h
 | none=>
 simp only [hmk] at h
 cases hm:mods g with
 | none=>
  simp only [hm] at h
  have hne:E.env g=none:=by rw [henv];unfold MH;simp [hm]
  split at h
  ·rename_i m hmm
   have:=Zfp hU h
   unfold Cm
   simp only [hmk,hne,hpu g,Bool.false_eq_true,if_false]
   have hfr:MJ E g=uQ hmods g:=by
    unfold MJ uQ
    rw [hmk,hne,hpu g,hhm]
    simp only [SA]
    cases hmods g []<;>rfl
   have hk:E.hm g (if MJ E g then [] else Jl (A7 U as))=some m.spec:=by rw [hfr,hhm,Zcm];simp only [SA,hmm,Option.map_some]
   simp only [hk,this]
  ·simp [Tr.AP] at h
 | some m=>
  simp only [hm] at h
  by_cases hq:as.any Ui=true
  ·rw [if_pos hq] at h
   simp only [DC] at h
   obtain⟨as',h1,h⟩:=h
   split at h
   ·rename_i x hx
    simp only [Tr.AP,D6,Prod.mk.injEq] at h
    obtain⟨r,hr,⟨hfl,hids⟩,rfl,rfl⟩:=h
    have hF:∃F,E.env g=some F:=by rw [henv];unfold MH;simp [hm]
    obtain⟨F,hF⟩:=hF
    have hat:=oL hU hm (by rw [<- henv];exact hF) x
    have hfl' :=ZfC _ hfl
    rw [hU.encS] at hfl'
    have hids' : (A7 U as).flatMap CV=[]:=by rw [mF];simpa using hids
    unfold Cm
    simp only [hmk,hF]
    rw [if_pos (by rw [Z1l];exact hq),Zbb h1]
    simp only [hown g,hpar g m hm,Z19 hU hx,hat,hr,Option.map_some]
    rw [if_pos hfl',hids',hU.encS]
    rfl
   ·simp [Tr.AP] at h
  rw [if_neg hq] at h
  simp only [DC] at h
  obtain⟨as',h1,h⟩:=h
  split at h
  ·rename_i x hx
   simp only [Tr.AP,Prod.mk.injEq] at h
   obtain⟨r,hr,rfl,rfl⟩:=h
   have hF:∃F,E.env g=some F:=by rw [henv];unfold MH;simp [hm]
   obtain⟨F,hF⟩:=hF
   have hat:=oL hU hm (by rw [<- henv];exact hF) x
   unfold Cm
   simp only [hmk,hF]
   rw [if_neg (by rw [Z1l];exact hq)]
   simp only [lV h1,hown g,hpar g m hm,Z19 hU hx,hat,hr,Option.map_some,mF,Qs H _ (Z0f h1),hU.encS]
  ·simp [Tr.AP] at h
structure Ag (P:Program) (E:Env) (g:FuncId) (m:Ai U):Prop where
 entered:JG P g
 pure:∀x a,m.fn x=some a->KU P E g (Ep m.ts x) (U.enc m.rt a)
theorem Ag.Ci {P:Program} {E E' : Env} (h:E'.Ci=E.Ci) {g:FuncId} {m:Ai U} (hf:Ag P E g m):Ag P E' g m:=by
 refine⟨hf.entered,fun x a hx fz w vs hc hg hr=>hf.pure x a hx fz w vs hc ?_ hr⟩
 intro g r hh
 exact hg g r (by rw [h];exact hh)
structure Dh (P:Program) (E:Env) (g:FuncId) (m:HMod U):Prop where
 entered:JG P g
 heap:∀x y,m.fn x=some y->PU P E g (A7 U (m.BU.enc x).1) (Aj U (m.BU.enc x).2) (AO U (m.out y).1) (Aj U (m.out y).2)
theorem Dh.Ci {P:Program} {E E' : Env} (h:E'.Ci=E.Ci) {g:FuncId} {m:HMod U} (hf:Dh P E g m):Dh P E' g m:=by
 refine⟨hf.entered,fun x y hx B w0 σ w vs hi hg hr=>hf.heap x y hx B w0 σ w vs hi ?_ hr⟩
 intro g r hh
 exact hg g r (by rw [h];exact hh)
theorem mY {P:Program} {E:Env} (hU:CG U E) {mods:FuncId->Option (Ai U)} {hmods:FuncId->List FuncId->Option (HMod U)} (henv:E.env=MH mods) (hhm:E.hm=SA hmods) (hown:∀g,E.own g=none) (h:∀g m,mods g=some m->Ag P E g m)
  (h' : ∀g k m,hmods g k=some m->Dh P E g m) (mk:Lj P) (hmk:E.maps=mk.tab):Ko P E:=by
 refine⟨?_,fun g k hs hh=>?_,fun g l hl=>(by
  obtain⟨a,b⟩:=mk.ok g l (by rw [<- hmk];exact hl)
  exact⟨a,b E⟩)⟩
 rotate_left
 ·rw [hhm] at hh
  simp only [SA,Option.map_eq_some_iff] at hh
  obtain⟨m,hm,rfl⟩:=hh
  refine⟨(h' g k m hm).entered,fun as H0 r H1 hrun=>?_⟩
  simp only [HMod.spec] at hrun
  split at hrun
  ·rename_i hx
   obtain⟨x,rfl,rfl⟩:=hx
   simp only [Option.map_eq_some_iff] at hrun
   obtain⟨y,hy,he⟩:=hrun
   simp only [Prod.mk.injEq] at he
   obtain⟨rfl,rfl⟩:=he
   generalize hch:(⟨x,rfl,rfl⟩:∃y:m.BU.X U,A7 U (m.BU.enc y).1=A7 U (m.BU.enc x).1/\Aj U (m.BU.enc y).2=Aj U (m.BU.enc x).2)=hex at hy
   have hxe:=Shape.Z3u hU m.ok (Classical.choose_spec hex).1 (Classical.choose_spec hex).2
   rw [hxe] at hy
   exact(h' g k m hm).heap x y hy
  ·cases hrun
 intro g F hF
 have hm:∃m,mods g=some m:=by
  rw [henv] at hF
  unfold MH at hF
  cases hm:mods g with
  | none=>simp [hm] at hF
  | some m=>exact⟨m,rfl⟩
 obtain⟨m,hm⟩:=hm
 refine⟨(h g m hm).entered,fun as r _ hr=>?_⟩
 rw [hown g]
 have hF' :=hF
 rw [henv] at hF
 unfold MH at hF
 simp only [hm,Option.some.injEq] at hF
 subst hF
 simp only at hr
 split at hr
 ·rename_i hx
  obtain⟨x,hx'⟩:=hx
  subst hx'
  have:=oL hU hm (by rw [henv] at hF';exact hF') x
  have hr' : (m.fn x).map (U.enc m.rt)=some r:=by
   rw [<- this]
   simp only [dif_pos (⟨x,rfl⟩:∃y:Dy U m.ts,Ep m.ts y=Ep m.ts x)]
   exact hr
  cases hfx:m.fn x with
  | none=>simp [hfx] at hr'
  | some a=>
   simp only [hfx,Option.map_some,Option.some.injEq] at hr'
   subst hr'
   exact(h g m hm).pure x a hfx
 ·cases hr
theorem Za0 {P:Program} {E:Env} (hE:BP E) (hP:E.P=P) (hF:Ko P E) {n:Nat} {f:FuncId} {fn:Func} (hfn:E.func f=some fn) {c:Code} (hb:fn.body=some c) {as:List V} {r:V} {H1:Heap}
  (h:Bz (Cm E n) E f fn 0 (Zp E fn) (.run c) [] ⟨as++List.replicate (fn.ntmps - as.length) Ce,[]⟩ (r,H1)):JG P f/\KU P E f as r:=by
 obtain⟨hf1,hf2⟩:=hE.func f fn hfn
 rw [hP] at hf1
 refine⟨⟨fn,hf1,by simp [hb],hf2⟩,?_⟩
 intro fz w vs hcells hg hr
 have hI:Inv w.heap.size (Start.of w fz) (bare fz) [] w:=⟨Below.refl _ w,Nat.le_refl _,fun id L hL=>(by cases hL),fun id bx hb=>by simp at hb,fun i j b1 b2 L1 L2 g h1=>by simp at h1,hcells,
  fun b c hc id bx L hb=>by simp at hb,fun id bx hb=>by simp at hb,fun b c hc _=>hc,fun b hb=>hb.elim⟩
 have hslots:AL (bare fz) w (as++List.replicate (fn.ntmps - as.length) Ce) (vs.toArray++Array.replicate (fn.ntmps - vs.toArray.size) undef).toList:=by
  simp only [Array.toList_append,Array.toList_replicate,List.size_toArray]
  rw [<- hr.length]
  exact hr.append (AL.replicate _ (.no .nil))
 have hrel:Dk E w.heap.size (Start.of w fz) (bare fz) ⟨as++List.replicate (fn.ntmps - as.length) Ce,[]⟩ { tmps:=vs.toArray++Array.replicate (fn.ntmps - vs.toArray.size) undef,defers:=[] } w:=⟨hI,hg,hslots,rfl⟩
 have hwp:=qE hE hP (UM hE hP hF n w.heap.size (Start.of w fz)) (Ny n) (F:=Fin P fn w.heap.size (Start.of w fz)) (σ0:=bare fz) (ws:=w)
  (fun st r σ a w' hz hr hx=>Zle hE hP hr (fun b c hh=>(hx.fz b c hh).1) hz) h (hE.calm f fn c hfn hb) rfl _ _ _ hrel (Ext.refl _ _).k
 refine calls_of_wp hf1 hb ?_
 intro fr k cs
 obtain⟨e,a',w',hq,harr⟩:=hwp fr k cs
 refine⟨e,a',w',?_,harr⟩
 cases e with
 | normal=>
  obtain⟨h0,u,fz',h1,h2,h3,h4,h5,h6,h7⟩:=hq
  exact⟨h0,u,h1,u,fz',rfl,h2,h3,h4,h5,h6,h7⟩
 | ret=>
  obtain⟨h0,u,fz',h1,h2,h3,h4,h5,h6,h7⟩:=hq
  exact⟨h0,u,h1,u,fz',rfl,h2,h3,h4,h5,h6,h7⟩
 | exit id=>exact hq.elim
 | goto l=>exact hq.elim
 | panic c=>exact hq.elim
 | outgrown=>exact hq.elim
theorem Zb0 {P:Program} {E:Env} (hE:BP E) (hP:E.P=P) (hF:Ko P E) {n:Nat} {f:FuncId} {fn:Func} (hfn:E.func f=some fn) {c:Code} (hb:fn.body=some c) {as:List V} {H0:Heap} {r:V} {H1:Heap} {fa:List (List Fk)} {fb:List Bf} {k:Nat} (hk:H0.length=k)
  (h:Bz (Cm E n) E f fn k (Zh E fn fa fb k) (.run c) [] ⟨as++List.replicate (fn.ntmps - as.length) Ce,H0⟩ (r,H1)):JG P f/\PU P E f as H0 r H1:=by
 obtain⟨hf1,hf2⟩:=hE.func f fn hfn
 rw [hP] at hf1
 refine⟨⟨fn,hf1,by simp [hb],hf2⟩,?_⟩
 intro B w0 σ w vs hI hg hr
 have hslots:AL σ w (as++List.replicate (fn.ntmps - as.length) Ce) (vs.toArray++Array.replicate (fn.ntmps - vs.toArray.size) undef).toList:=by
  simp only [Array.toList_append,Array.toList_replicate,List.size_toArray]
  rw [<- hr.length]
  exact hr.append (AL.replicate _ (.no .nil))
 have hrel:Dk E B w0 σ ⟨as++List.replicate (fn.ntmps - as.length) Ce,H0⟩ { tmps:=vs.toArray++Array.replicate (fn.ntmps - vs.toArray.size) undef,defers:=[] } w:=⟨hI,hg,hslots,rfl⟩
 have hwp:=qE hE hP (UM hE hP hF n B w0) (Ny n) (F:=FinH P fn B w0 σ w) (σ0:=σ) (ws:=w)
  (fun st r σ' a w' hz hr hx=>Zjl hE hP (fun id L hL=>by rw [<- hk];exact hI.Xy hL) hr hx hz) h (hE.calm f fn c hfn hb) rfl _ _ _ hrel (Ext.refl _ _).k
 refine calls_of_wp hf1 hb ?_
 intro fr k cs
 obtain⟨e,a',w',hq,harr⟩:=hwp fr k cs
 refine⟨e,a',w',?_,harr⟩
 cases e with
 | normal=>
  obtain⟨h0,u,σ',h1,h2,h3,h4⟩:=hq
  exact⟨h0,u,h1,u,σ',rfl,h2,h3,h4⟩
 | ret=>
  obtain⟨h0,u,σ',h1,h2,h3,h4⟩:=hq
  exact⟨h0,u,h1,u,σ',rfl,h2,h3,h4⟩
 | exit id=>exact hq.elim
 | goto l=>exact hq.elim
 | panic c=>exact hq.elim
 | outgrown=>exact hq.elim
theorem Z2t {L R:Type} {J:L->Option R}:∀{T:Tr U L} {r:R},T.den J=some r->∃l,T.AP l/\J l=some r:=by
 intro T
 induction T with
 | leaf l=>intro r h;exact⟨l,rfl,h⟩
 | br c a b iha ihb=>
  intro r h
  cases c with
  | true=>obtain⟨l,h1,h2⟩:=iha h;exact⟨l,.inl ⟨rfl,h1⟩,h2⟩
  | false=>obtain⟨l,h1,h2⟩:=ihb h;exact⟨l,.inr ⟨rfl,h1⟩,h2⟩
 | bind t o k ih=>
  intro r h
  cases o with
  | none=>cases h
  | some a=>obtain⟨l,h1,h2⟩:=ih a h;exact⟨l,⟨a,rfl,h1⟩,h2⟩
 | chk c a ih=>
  intro r h
  cases c with
  | true=>obtain⟨l,h1,h2⟩:=ih h;exact⟨l,⟨rfl,h1⟩,h2⟩
  | false=>cases h
 | fail=>intro r h;cases h
theorem ZgP {L M:Type} {g:L->M}:∀{T:Tr U L} {l:L},T.AP l->(T.map g).AP (g l):=by
 intro T
 induction T with
 | leaf l=>intro l h;simp only [Tr.AP] at h;subst h;rfl
 | br c a b iha ihb=>
  intro l h
  rcases h with ⟨hc,h⟩|⟨hc,h⟩
  ·exact .inl ⟨hc,iha h⟩
  ·exact .inr ⟨hc,ihb h⟩
 | bind t o k ih=>rintro l ⟨a,ha,h⟩;exact⟨a,ha,ih a h⟩
 | chk c a ih=>rintro l ⟨hc,h⟩;exact⟨hc,ih h⟩
 | fail=>intro l h;exact h
def Nl:Code->List Nat->List Fr->Code×List Fr
 | .seq a b,0::p,K=>Nl a p (.seq b::K)
 | .seq a b,_::p,K=>Nl b p K
 | .cond _ a b,0::p,K=>Nl a p K
 | .cond _ a b,_::p,K=>Nl b p K
 | .block id b,_::p,K=>Nl b p (.blk id::K)
 | .loop b,_::p,K=>Nl b p (.loop b::K)
 | .scope b,_::p,K=>Nl b p K
 | c,_,K=>(c,K)
def FZ (fn:Func):Code:=match fn.body with|some c=>c|none=>.skip
open Classical in
noncomputable def VV {α:Type} (g:Nat->Option α):Option α:=if h:∃n a,g n=some a then g (Classical.choose h) else none
theorem nC {α:Type} {g:Nat->Option α} {a:α} (h:VV g=some a):∃n,g n=some a:=by
 unfold VV at h
 split at h
 ·exact⟨_,h⟩
 ·cases h
def uB {α:Type} (g:Nat->Option α):Prop:=∀n a,g n=some a->g (n+1)=some a
theorem uB.le {α:Type} {g:Nat->Option α} (hg:uB g) {n m:Nat} {a:α} (h:g n=some a) (hle:n<=m):g m=some a:=by
 induction hle with
 | refl=>exact h
 | step _ ih=>exact hg _ _ ih
theorem Zi7 {α:Type} {g:Nat->Option α} (hg:uB g) {n:Nat} {a:α} (h:g n=some a):VV g=some a:=by
 unfold VV
 have hex:∃n a,g n=some a:=⟨n,a,h⟩
 rw [dif_pos hex]
 obtain⟨b,hb⟩:=Classical.choose_spec hex
 have h1:=hg.le h (Nat.le_max_left n (Classical.choose hex))
 have h2:=hg.le hb (Nat.le_max_right n (Classical.choose hex))
 rw [hb]
 rw [h1] at h2
 exact h2.symm
end
abbrev Af (x:Int):Int:=IntKind.wrap .i64 x
end Go.Proofs.YtlabamnhpgoekaaGreatDoor.Le
namespace Go.Proofs.YtlabamnhpgoekaaGreatDoor.Le
structure AA (Ty:Nat->Type) (T:Type) where
 AV:T->List V
 encS:T->List (SV Ty)
 dec:List (SV Ty)->Option (T×List (SV Ty))
section
variable {Ty:Nat->Type}
def AA.int (k:IntKind):AA Ty Int where
 AV:=fun a=>[.lit (.int k a)]
 encS:=fun a=>[.si k a]
 dec:=fun cs=>match cs with
  | .si j a::r=>if j=k then some (a,r) else none
  | .lit (.int j a)::r=>if j=k then some (a,r) else none
  | _=>none
def AA.bool:AA Ty Bool where
 AV:=fun b=>[.lit (.bool b)]
 encS:=fun b=>[.sb b]
 dec:=fun cs=>match cs with
  | .sb b::r=>some (b,r)
  | .lit (.bool b)::r=>some (b,r)
  | _=>none
def AA.str:AA Ty ByteArray where
 AV:=fun b=>[.lit (.string b)]
 encS:=fun b=>[.ss b]
 dec:=fun cs=>match cs with
  | .ss b::r=>some (b,r)
  | .lit (.string b)::r=>some (b,r)
  | _=>none
def AA.list (t n:Nat) (e:Ty t->V):AA Ty (List (Ty t)) where
 AV:=fun xs=>[.sl false n (xs.map e)]
 encS:=fun xs=>[.sl t xs]
 dec:=fun cs=>match cs with
  | .sl t' xs::r=>if h:t' = t then some (h▸xs,r) else none
  | .nil _::r=>some ([],r)
  | _=>none
def AA.unit:AA Ty Unit where
 AV:=fun _=>[]
 encS:=fun _=>[]
 dec:=fun cs=>some ((),cs)
def AA.pair {A B:Type} (a:AA Ty A) (b:AA Ty B):AA Ty (A×B) where
 AV:=fun x=>a.AV x.1++b.AV x.2
 encS:=fun x=>a.encS x.1++b.encS x.2
 dec:=fun cs=>match a.dec cs with
  | some (x,r)=>match b.dec r with|some (y,r')=>some ((x,y),r')|none=>none
  | none=>none
def AA.Aq {A B:Type} (f:A->B) (g:B->A) (b:AA Ty B):AA Ty A where
 AV:=fun x=>b.AV (f x)
 encS:=fun x=>b.encS (f x)
 dec:=fun cs=>match b.dec cs with|some (y,r)=>some (g y,r)|none=>none
def AA.agg {T:Type} (c:AA Ty T) (v:SV Ty):Option T:=match v with
 | .agg cs=>match c.dec cs with|some (a,[])=>some a|_=>none
 | _=>none
def AA.one {T:Type} (c:AA Ty T) (v:SV Ty):Option T:=match c.dec [v] with|some (a,[])=>some a|_=>none
def AA.Ah {T:Type} (c:AA Ty T) (a:T):V:=(c.AV a).headD .no
def AA.Bq {T:Type} (c:AA Ty T) (a:T):SV Ty:=(c.encS a).headD .no
end
structure AB (U:CE) {T:Type} (c:AA U.Ty T) (rs:List Nat):Prop where
 enc:∀a,A7 U (c.encS a)=c.AV a
 len:∀a,(c.AV a).length=rs.length
 dec:∀cs a rest,c.dec cs=some (a,rest)->∃pre,cs=pre++rest/\pre.length=rs.length/\FQ rs (A7 U pre)=c.AV a
 nr:∀a,BJ (c.AV a)=true
 inj:∀a b,c.AV a=c.AV b->a=b
section
variable {U:CE}
theorem AB.int (k:IntKind):AB U (AA.int k:AA U.Ty Int) [0]:=by
 refine⟨fun a=>rfl,fun a=>rfl,?_,fun a=>rfl,fun a b h=>by simpa [AA.int] using h⟩
 intro cs a rest h
 simp only [AA.int] at h
 split at h
 ·rename_i j x r
  split at h
  ·rename_i hj
   simp only [Option.some.injEq,Prod.mk.injEq] at h
   obtain⟨rfl,rfl⟩:=h
   subst hj
   exact⟨[_],rfl,rfl,rfl⟩
  ·cases h
 ·rename_i j x r
  split at h
  ·rename_i hj
   simp only [Option.some.injEq,Prod.mk.injEq] at h
   obtain⟨rfl,rfl⟩:=h
   subst hj
   exact⟨[_],rfl,rfl,rfl⟩
  ·cases h
 ·cases h
theorem AB.bool:AB U (AA.bool:AA U.Ty Bool) [0]:=by
 refine⟨fun a=>rfl,fun a=>rfl,?_,fun a=>rfl,fun a b h=>by simpa [AA.bool] using h⟩
 intro cs a rest h
 simp only [AA.bool] at h
 split at h<;>cases h<;>exact⟨[_],rfl,rfl,rfl⟩
theorem AB.str:AB U (AA.str:AA U.Ty ByteArray) [0]:=by
 refine⟨fun a=>rfl,fun a=>rfl,?_,fun a=>rfl,fun a b h=>by simpa [AA.str] using h⟩
 intro cs a rest h
 simp only [AA.str] at h
 split at h<;>cases h<;>exact⟨[_],rfl,rfl,rfl⟩
theorem ZhY {α β:Type} {f:α->β} (hf:∀a b,f a=f b->a=b):∀{xs ys:List α},xs.map f=ys.map f->xs=ys:=by
 intro xs
 induction xs with
 | nil=>simp_all
 | cons x xs ih=>intro ys h;cases ys with
  | nil=>simp at h
  | cons y ys=>
   grind
theorem AB.list {t n:Nat} {e:U.Ty t->V} (he:∀a,U.enc t a=e a) (hn:U.AZ t=n) (hnr:∀a,BQ (e a)=true) (hinj:∀a b,e a=e b->a=b):AB U (AA.list t n e:AA U.Ty (List (U.Ty t))) [n]:=by
 have hmap:∀xs:List (U.Ty t),xs.map (U.enc t)=xs.map e:=fun xs=>List.map_congr_left fun a _=>he a
 refine⟨fun a=>?_,fun a=>rfl,?_,fun a=>?_,fun a b h=>?_⟩
 ·simp [AA.list,A7,AO,hn,hmap]
 ·intro cs a rest h
  simp only [AA.list] at h
  split at h
  ·rename_i t' xs r
   split at h
   ·rename_i ht
    subst ht
    simp only [Option.some.injEq,Prod.mk.injEq] at h
    obtain⟨rfl,rfl⟩:=h
    exact⟨[_],rfl,rfl,by simp [A7,AO,FQ,Fb,AA.list,hn,hmap]⟩
   ·cases h
  ·cases h
   exact⟨[_],rfl,rfl,by simp [A7,AO,FQ,Fb,AA.list]⟩
  ·cases h
 ·simp only [AA.list,BJ,BQ,Bool.and_true]
  rw [JA]
  simp_all
 ·simp only [AA.list,List.cons.injEq,V.sl.injEq,true_and,and_true] at h
  exact ZhY hinj h
theorem AB.unit:AB U (AA.unit:AA U.Ty Unit) []:=
 ⟨fun a=>rfl,fun a=>rfl,fun cs a rest h=>by cases h;exact⟨[],rfl,rfl,rfl⟩,fun a=>rfl,fun a b _=>rfl⟩
theorem Z8J:∀(r1 r2:List Nat) (x y:List V),x.length=r1.length->FQ (r1++r2) (x++y)=FQ r1 x++FQ r2 y:=by
 intro r1
 induction r1 with
 | nil=>intro r2 x y h;cases x with
  | nil=>simp [FQ]
  | cons=>simp at h
 | cons r r1 ih=>intro r2 x y h;cases x with
  | nil=>simp at h
  | cons v x=>simp [FQ,ih r2 x y (by simpa using h)]
theorem Z9l (x y:List V):BJ (x++y)=(BJ x&&BJ y):=by
 induction x with
 | nil=>simp [BJ]
 | cons a x ih=>simp [BJ,ih,Bool.and_assoc]
theorem AB.pair {A B:Type} {a:AA U.Ty A} {b:AA U.Ty B} {r1 r2:List Nat} (ha:AB U a r1) (hb:AB U b r2):AB U (AA.pair a b) (r1++r2):=by
 refine⟨fun x=>?_,fun x=>?_,?_,fun x=>?_,fun x y h=>?_⟩
 ·simp only [AA.pair,Nz,ha.enc,hb.enc]
 ·simp only [AA.pair,List.length_append,ha.len,hb.len]
 ·intro cs x rest h
  simp only [AA.pair] at h
  split at h
  ·rename_i p r hp
   split at h
   ·rename_i q r' hq
    cases h
    obtain⟨p1,e1,l1,t1⟩:=ha.dec _ _ _ hp
    obtain⟨p2,e2,l2,t2⟩:=hb.dec _ _ _ hq
    refine⟨p1++p2,by simp_all,by simp [l1,l2],?_⟩
    rw [Nz,Z8J _ _ _ _ (by rw [Hg];exact l1),t1,t2]
    rfl
   ·cases h
  ·cases h
 ·simp only [AA.pair,Z9l,ha.nr,hb.nr,Bool.and_self]
 ·simp only [AA.pair] at h
  obtain⟨h1,h2⟩:=List.append_inj h (by rw [ha.len,ha.len])
  obtain⟨x1,x2⟩:=x
  obtain⟨y1,y2⟩:=y
  exact Prod.ext (ha.inj _ _ h1) (hb.inj _ _ h2)
theorem AB.Aq {A B:Type} {f:A->B} {g:B->A} {b:AA U.Ty B} {r:List Nat} (hb:AB U b r) (hfg:∀y,f (g y)=y) (hgf:∀x,g (f x)=x):AB U (AA.Aq f g b) r:=by
 refine⟨fun x=>hb.enc _,fun x=>hb.len _,?_,fun x=>hb.nr _,fun x y h=>?_⟩
 ·intro cs x rest h
  simp only [AA.Aq] at h
  split at h
  ·rename_i y r' hy
   cases h
   obtain⟨p,e,l,t⟩:=hb.dec _ _ _ hy
   exact⟨p,e,l,by simp only [AA.Aq,hfg];exact t⟩
  ·cases h
 ·have:=hb.inj _ _ h
  grind
theorem AB.agg {T:Type} {c:AA U.Ty T} {r:List Nat} (h:AB U c r) {v:SV U.Ty} {a:T} (hd:c.agg v=some a):DJ r (AO U v) = .agg (c.AV a):=by
 unfold AA.agg at hd
 split at hd
 ·split at hd
  ·rename_i cs _ hcs
   cases hd
   obtain⟨p,e,l,t⟩:=h.dec _ _ _ hcs
   simp only [List.append_nil] at e
   subst e
   simp only [AO,DJ,t]
  ·cases hd
 ·cases hd
theorem AB.one {T:Type} {c:AA U.Ty T} {n:Nat} (h:AB U c [n]) {v:SV U.Ty} {a:T} (hd:c.one v=some a) (hv:∀cs,AO U v≠.agg cs):DJ [n] (AO U v)=c.Ah a:=by
 unfold AA.one at hd
 split at hd
 ·rename_i hcs
  cases hd
  obtain⟨p,e,l,t⟩:=h.dec _ _ _ hcs
  simp only [List.append_nil] at e
  subst e
  simp only [A7,FQ] at t
  unfold AA.Ah
  rw [<- t]
  unfold DJ
  grind
 ·cases hd
theorem PR {k:IntKind} {v:SV U.Ty} {a:Int} (h:(AA.int k:AA U.Ty Int).one v=some a):∀cs,AO U v≠.agg cs:=by
 rintro cs hc
 cases v<;>simp_all [AO,AA.one,AA.int]
theorem Zjf {v:SV U.Ty} {a:Bool} (h:(AA.bool:AA U.Ty Bool).one v=some a):∀cs,AO U v≠.agg cs:=by
 rintro cs hc
 cases v<;>simp_all [AO,AA.one,AA.bool]
theorem Zll {v:SV U.Ty} {a:ByteArray} (h:(AA.str:AA U.Ty ByteArray).one v=some a):∀cs,AO U v≠.agg cs:=by
 rintro cs hc
 cases v<;>simp_all [AO,AA.one,AA.str]
theorem EO {t n:Nat} {e:U.Ty t->V} {v:SV U.Ty} {a:List (U.Ty t)} (h:(AA.list t n e:AA U.Ty (List (U.Ty t))).one v=some a):∀cs,AO U v≠.agg cs:=by
 rintro cs hc
 cases v<;>simp_all [AO,AA.one,AA.list]
theorem AB.Z4d {T:Type} {c:AA U.Ty T} {n:Nat} (h:AB U c [n]) (a:T):AO U (c.Bq a)=c.Ah a:=by
 unfold AA.Bq AA.Ah
 rw [<- h.enc a]
 have hl:=h.len a
 rw [<- h.enc a,Hg] at hl
 cases hs:c.encS a with
 | nil=>simp_all
 | cons x xs=>rfl
theorem AB.Eb {T:Type} {c:AA U.Ty T} {n:Nat} (h:AB U c [n]) {a b:T} (he:c.Ah a=c.Ah b):a=b:=by
 refine h.inj a b ?_
 have h1:=h.len a
 have h2:=h.len b
 unfold AA.Ah at he
 cases ha:c.AV a with
 | nil=>simp_all
 | cons x xs=>
  cases hb:c.AV b with
  | nil=>simp_all
  | cons y ys=>
   simp_all
theorem AB.Ed {T:Type} {c:AA U.Ty T} {n:Nat} (h:AB U c [n]) (a:T):BQ (c.Ah a)=true:=by
 have:=h.nr a
 unfold AA.Ah
 cases ha:c.AV a with
 | nil=>rfl
 | cons x xs=>rw [ha] at this;simp [BJ] at this;exact this.1
end
def AA.skip {Ty:Nat->Type}:AA Ty Unit where
 AV:=fun _=>[.und]
 encS:=fun _=>[.und]
 dec:=fun cs=>match cs with
  | .und::r=>some ((),r)
  | _=>none
theorem AB.skip {U:CE}:AB U (AA.skip:AA U.Ty Unit) [0]:=by
 refine⟨fun a=>rfl,fun a=>rfl,?_,fun a=>rfl,fun a b _=>rfl⟩
 intro cs a rest h
 simp only [AA.skip] at h
 split at h<;>cases h
 exact⟨[_],rfl,rfl,rfl⟩
noncomputable def KA {U:CE} (P:Program) (gl:Nat->Option (List V)) (f:FuncId) (mods:FuncId->Option (Ai U)) (hmods:FuncId->List FuncId->Option (HMod U)) (mk:Lj P):Env:=
 { IP P (fun _=>false) (MH mods) with
  func:=fun g=>if g=f then P.funcs[g]? else none
  Ci:=gl
  hm:=SA hmods
  maps:=mk.tab
  par:=fun g=>match mods g with|some m=>m.ts|none=>[] }
def ZiG (E:Env) (P:Program) (f:FuncId):Bool:=match (P.funcs[f]?).bind (·.body) with|some c=>!DD E f c|none=>false
noncomputable def EV {U:CE} (P:Program) (gl:Nat->Option (List V)) (f:FuncId) (mods:FuncId->Option (Ai U)) (hmods:FuncId->List FuncId->Option (HMod U)) (mk:Lj P):Env:=
 { KA P gl f mods hmods mk with quiet:=ZiG (KA P gl f mods hmods mk) P f }
section
variable {U:CE} {P:Program} {gl:Nat->Option (List V)} {f:FuncId} {mods:FuncId->Option (Ai U)} {hmods:FuncId->List FuncId->Option (HMod U)} {mk:Lj P}
theorem rP (hmix:P.follows .mixedOrders=true) {fn:Func} {c:Code} (hfn:P.funcs[f]? = some fn) (hname:(fn.name == "runtime.NumGoroutine")=false) (hb:fn.body=some c) (hcalm:DD (EV P gl f mods hmods mk) f c=true):BP (EV P gl f mods hmods mk):=by
 refine⟨fun t i h=>h,?_,hmix,?_,?_,?_,?_,fun t ks h=>h,?_⟩
 ·intro g fn' h
  simp only [EV,KA] at h
  split at h
  ·rename_i hg
   subst hg
   rw [hfn] at h
   cases h
   exact⟨hfn,hname⟩
  ·cases h
 ·intro g fn' c' h hb'
  simp only [EV,KA] at h
  simp_all
 ·intro t k h
  simp only [EV,KA,IP] at h
  split at h
  ·rename_i d hd
   simp only [Option.some.injEq] at h
   subst h
   exact hd
  ·cases h
 ·intro t h
  simp only [EV,KA,IP] at h
  split at h
  ·rename_i hd;exact hd
  ·cases h
 ·intro t h
  simp only [EV,KA,IP] at h
  split at h
  ·rename_i hd;exact hd
  ·cases h
 ·intro t h
  simp only [EV,KA,IP] at h
  split at h
  ·rename_i e he
   split at h
   ·rename_i hd;exact⟨e,he,hd⟩
   ·cases h
  ·cases h
def X7:(ts:List Nat)->Dy U ts->List (SV U.Ty)
 | [],_=>[]
 | t::ts,x=>U.encS t x.1::X7 ts x.2
def Um (ts:List Nat) (x:Dy U ts) (n:Nat):CP U:=⟨X7 ts x++List.replicate (n - ts.length) .no,[]⟩
theorem Zak {E:Env} (hU:CG U E):∀{ts:List Nat} (x:Dy U ts),A7 U (X7 ts x)=Ep ts x:=by
 intro ts
 induction ts with
 | nil=>intro x;rfl
 | cons t ts ih=>intro x;simp only [X7,A7,Ep,hU.encS,ih]
theorem zY:∀{ts:List Nat} (x:Dy U ts),(Ep ts x).length=ts.length:=by
 intro ts
 induction ts with
 | nil=>intro x;rfl
 | cons t ts ih=>intro x;simp [Ep,ih]
theorem Zdk {E:Env} (hU:CG U E) {ts:List Nat} (x:Dy U ts) (n:Nat):BN U (Um ts x n)=⟨Ep ts x++List.replicate (n - (Ep ts x).length) Ce,[]⟩:=by
 simp only [BN,Um,Nz,Zak hU,zY]
 congr 1
 congr 1
 rw [Dl,List.map_replicate]
 rfl
theorem fn_ok {E0:Env} (hE0:E0.Ci=gl) (hU:CG U (EV P gl f mods hmods mk)) (hmix:P.follows .mixedOrders=true) {fn:Func} {c:Code} (hok:∀g m,mods g=some m->Ag P E0 g m) (hhok:∀g k m,hmods g k=some m->Dh P E0 g m) (hfn:P.funcs[f]? = some fn) (hname:(fn.name == "runtime.NumGoroutine")=false)
  (hb:fn.body=some c) (hcalm:DD (EV P gl f mods hmods mk) f c=true) (m:Ai U)
  (h:∀x a,m.fn x=some a->Bz (Cm (EV P gl f mods hmods mk) 1) (EV P gl f mods hmods mk) f fn 0 (Zp (EV P gl f mods hmods mk) fn) (.run c) [] (BN U (Um m.ts x fn.ntmps)) (U.enc m.rt a,[])):Ag P E0 f m:=by
 have hE:=rP (gl:=gl) (mods:=mods) hmix hfn hname hb hcalm
 have hF:Ko P (EV P gl f mods hmods mk):=mY hU rfl rfl (fun _=>rfl) (fun g m hm=>(hok g m hm).Ci (by rw [hE0];rfl)) (fun g k m hm=>(hhok g k m hm).Ci (by rw [hE0];rfl)) mk rfl
 have hfn' : (EV P gl f mods hmods mk).func f=some fn:=by simp only [EV,KA,if_true];exact hfn
 have key:∀x a,m.fn x=some a->JG P f/\KU P (EV P gl f mods hmods mk) f (Ep m.ts x) (U.enc m.rt a):=by
  intro x a hx
  have:=h x a hx
  rw [Zdk hU] at this
  exact Za0 hE rfl hF hfn' hb this
 refine⟨⟨fn,hfn,by simp [hb],hname⟩,fun x a hx fz w vs hc hg hr=>(key x a hx).2 fz w vs hc ?_ hr⟩
 intro g r hh
 exact hg g r (by rw [hE0];exact hh)
def RI (e:List (SV U.Ty)×Ad U) (n:Nat):CP U:=⟨e.1++List.replicate (n - e.1.length) .no,e.2⟩
theorem Z1h (e:List (SV U.Ty)×Ad U) (n:Nat):BN U (RI e n)=⟨A7 U e.1++List.replicate (n - (A7 U e.1).length) Ce,Aj U e.2⟩:=by
 simp only [BN,RI,Nz,Hg]
 congr 1
 congr 1
 rw [Dl,List.map_replicate]
 rfl
theorem ZkZ {E0:Env} (hE0:E0.Ci=gl) (hU:CG U (EV P gl f mods hmods mk)) (hmix:P.follows .mixedOrders=true) {fn:Func} {c:Code} (hok:∀g m,mods g=some m->Ag P E0 g m) (hhok:∀g k m,hmods g k=some m->Dh P E0 g m) (hfn:P.funcs[f]? = some fn) (hname:(fn.name == "runtime.NumGoroutine")=false)
  (hb:fn.body=some c) (hcalm:DD (EV P gl f mods hmods mk) f c=true) (m:HMod U) {fa:List (List Fk)} {fb:List Bf} {k:Nat} (hk:∀x:m.BU.X U,(m.BU.enc x).2.length=k)
  (h:∀(x:m.BU.X U) (y:U.Ty m.ky),m.fn x=some y->Bz (Cm (EV P gl f mods hmods mk) 1) (EV P gl f mods hmods mk) f fn k (Zh (EV P gl f mods hmods mk) fn fa fb k) (.run c) [] (BN U (RI (m.BU.enc x) fn.ntmps)) (AO U (m.out y).1,Aj U (m.out y).2)):Dh P E0 f m:=by
 have hE:=rP (gl:=gl) (mods:=mods) (hmods:=hmods) hmix hfn hname hb hcalm
 have hF:Ko P (EV P gl f mods hmods mk):=mY hU rfl rfl (fun _=>rfl) (fun g m hm=>(hok g m hm).Ci (by rw [hE0];rfl)) (fun g k m hm=>(hhok g k m hm).Ci (by rw [hE0];rfl)) mk rfl
 have hfn' : (EV P gl f mods hmods mk).func f=some fn:=by simp only [EV,KA,if_true];exact hfn
 refine⟨⟨fn,hfn,by simp [hb],hname⟩,fun x y hx B w0 σ w vs hi hg hr=>?_⟩
 have h1:=h x y hx
 rw [Z1h] at h1
 exact(Zb0 hE rfl hF hfn' hb (by rw [OA];exact hk x) h1).2 B w0 σ w vs hi (fun g r hh=>hg g r (by rw [hE0];exact hh)) hr
theorem qZ (hU:CG U (EV P gl f mods hmods mk)):Kr U (Lu mods hmods mk.tab) (Cm (EV P gl f mods hmods mk) 1):=
 ZgQ hU rfl rfl (fun _=>rfl) (fun g m h=>by simp only [EV,KA,h]) (fun _=>rfl) 0
end
structure BD (U:CE) (E:Env) (t:Nat):Prop where
 encS:∀a,AO U (U.encS t a)=U.enc t a
 dec:∀v a,U.FV t v=some a->DJ (E.rows t) (AO U v)=U.enc t a
 cells:∀a,(U.enc t a).cells=A7 U (cellsS (U.encS t a))
 nr:∀a,BQ (U.enc t a)=true
 inj:∀a b,U.enc t a=U.enc t b->a=b
def Ud (U:CE) (E:Env) {α:Type}:List ((i:Nat)×(α->U.Ty i))->Prop
 | []=>True
 | c::cs=>BD U E c.1/\Ud U E cs
def qN (U:CE) {α:Type} (x y:α):List ((i:Nat)×(α->U.Ty i))->Prop
 | []=>True
 | c::cs=>c.2 x=c.2 y/\qN U x y cs
theorem Z1O {U:CE} {E:Env} {α:Type} (x:α):∀{cs:List ((i:Nat)×(α->U.Ty i))},Ud U E cs->A7 U (cs.map fun c=>U.encS c.1 (c.2 x))=cs.map fun c=>U.enc c.1 (c.2 x):=by
 intro cs
 induction cs with
 | nil=>intro _;rfl
 | cons c cs ih=>intro h;simp only [List.map_cons,A7,h.1.encS,ih h.2]
theorem ZhU {U:CE} {E:Env} {α:Type} (x:α):∀{cs:List ((i:Nat)×(α->U.Ty i))},Ud U E cs->BJ (cs.map fun c=>U.enc c.1 (c.2 x))=true:=by
 intro cs
 induction cs with
 | nil=>intro _;rfl
 | cons c cs ih=>intro h;simp only [List.map_cons,BJ,h.1.nr,ih h.2,Bool.and_self]
theorem Zgx {U:CE} {E:Env} {α:Type} (x y:α):∀{cs:List ((i:Nat)×(α->U.Ty i))},Ud U E cs->(cs.map fun c=>U.enc c.1 (c.2 x))=(cs.map fun c=>U.enc c.1 (c.2 y))->qN U x y cs:=by
 intro cs
 induction cs with
 | nil=>intro _ _;trivial
 | cons c cs ih=>intro h e;simp only [List.map_cons,List.cons.injEq] at e;exact⟨h.1.inj _ _ e.1,ih h.2 e.2⟩
theorem BD.Aw {U:CE} {E:Env} {t:Nat} (cs:List ((i:Nat)×(U.Ty t->U.Ty i))) (h:Ud U E cs) (h1:∀x,U.enc t x = .Aw (cs.map fun c=>U.enc c.1 (c.2 x))) (h2:∀x,U.encS t x = .Aw (cs.map fun c=>U.encS c.1 (c.2 x))) (h3:∀v,U.FV t v=none)
  (h4:∀x y,qN U x y cs->x=y):BD U E t:=by
 refine⟨fun a=>?_,fun v a e=>?_,fun a=>?_,fun a=>?_,fun a b e=>?_⟩
 ·rw [h1,h2,AO,Z1O a h]
 ·rw [h3] at e;cases e
 ·rw [h1,h2]
  show [V.Aw _]=[V.Aw _]
  rw [Z1O a h]
 ·rw [h1];exact ZhU a h
 ·rw [h1,h1] at e
  exact h4 a b (Zgx a b h (V.Aw.inj e))
theorem BD.DK {U:CE} {E:Env} {t:Nat} {c:AA U.Ty (U.Ty t)} {rs:List Nat} (hc:AB U c rs) (hr:E.rows t=rs) (h1:∀a,U.enc t a = .agg (c.AV a)) (h2:∀a,U.encS t a = .agg (c.encS a)) (h3:∀v,U.FV t v=c.agg v):BD U E t:=by
 refine⟨fun a=>?_,fun v a h=>?_,fun a=>?_,fun a=>?_,fun a b h=>?_⟩
 ·rw [h1,h2,AO,hc.enc]
 ·rw [hr,h1];exact hc.agg (by rw [<- h3];exact h)
 ·rw [h1,h2];exact(hc.enc a).symm
 ·rw [h1];exact hc.nr a
 ·rw [h1,h1] at h;exact hc.inj _ _ (V.agg.inj h)
theorem BD.D9 {U:CE} {E:Env} {t n:Nat} {c:AA U.Ty (U.Ty t)} (hc:AB U c [n]) (hr:E.rows t=[n]) (na:∀{v:SV U.Ty} {a:U.Ty t},c.one v=some a->∀cs,AO U v≠.agg cs) (h1:∀a,U.enc t a=c.Ah a) (h2:∀a,U.encS t a=c.Bq a) (h3:∀v,U.FV t v=c.one v)
  (h4:∀a,(c.Ah a).cells=[c.Ah a]) (h5:∀a,cellsS (c.Bq a)=[c.Bq a]):BD U E t:=by
 refine⟨fun a=>?_,fun v a h=>?_,fun a=>?_,fun a=>?_,fun a b h=>?_⟩
 ·rw [h1,h2];exact hc.Z4d a
 ·rw [h3] at h;rw [hr,h1];exact hc.one h (na h)
 ·rw [h1,h2,h4,h5,A7,A7,hc.Z4d]
 ·rw [h1];exact hc.Ed a
 ·rw [h1,h1] at h;exact hc.Eb h
def VO (p:Nat->Prop):List Nat->Prop
 | []=>True
 | t::ts=>p t/\VO p ts
theorem VO.at {p:Nat->Prop} {t:Nat}:∀{l:List Nat},VO p l->t∈l->p t:=by
 intro l
 induction l with
 | nil=>intro _ m;cases m
 | cons x l ih=>
  intro h m
  rcases List.mem_cons.1 m with rfl|m
  ·exact h.1
  ·exact ih h.2 m
section
variable {U:CE} {R P:Type}
def F5 {R P:Type} (g:P->Option R):R⊕P->Option R
 | .inl r=>some r
 | .inr q=>g q
def OX (T:P->Tr U (R⊕P)):Nat->P->Option R
 | 0,_=>none
 | n+1,p=>(T p).den (F5 (OX T n))
noncomputable def AY (T:P->Tr U (R⊕P)) (p:P):Option R:=VV fun n=>OX T n p
theorem Z3J {L:Type} {J K:L->Option R} (h:∀l r,J l=some r->K l=some r):∀{T:Tr U L} {r:R},T.den J=some r->T.den K=some r:=by
 intro T
 induction T with
 | leaf l=>intro r hr;exact h l r hr
 | br c a b iha ihb=>intro r hr;cases c with
  | true=>exact iha hr
  | false=>exact ihb hr
 | bind t o k ih=>intro r hr;cases o with
  | none=>cases hr
  | some a=>exact ih a hr
 | chk c a ih=>intro r hr;cases c with
  | true=>exact ih hr
  | false=>cases hr
 | fail=>intro r hr;cases hr
theorem Zdn (T:P->Tr U (R⊕P)):∀n p r,OX T n p=some r->OX T (n+1) p=some r:=by
 intro n
 induction n with
 | zero=>intro p r h;cases h
 | succ n ih=>
  intro p r h
  refine Z3J ?_ h
  intro l r hl
  cases l with
  | inl a=>exact hl
  | inr q=>exact ih q r hl
theorem Z3z (T:P->Tr U (R⊕P)) {n:Nat} {p:P} {r:R} (h:OX T n p=some r):AY T p=some r:=
 Zi7 (fun n a h=>Zdn T n p a h) h
theorem AU (T:P->Tr U (R⊕P)) (p:P):AY T p=(T p).den (F5 (AY T)):=by
 have h1:∀r,AY T p=some r->(T p).den (F5 (AY T))=some r:=by
  intro r h
  obtain⟨n,hn⟩:=nC h
  cases n with
  | zero=>cases hn
  | succ n=>
   refine Z3J ?_ hn
   intro l r hl
   cases l with
   | inl a=>exact hl
   | inr q=>exact Z3z T hl
 have h2:∀r,(T p).den (F5 (AY T))=some r->AY T p=some r:=by
  intro r h
  obtain⟨l,hl,hr⟩:=Z2t h
  have key:∃n,(T p).den (F5 (OX T n))=some r:=by
   have hn:∃n,F5 (OX T n) l=some r:=by
    cases l with
    | inl a=>exact⟨0,hr⟩
    | inr q=>obtain⟨n,hn⟩:=nC hr;exact⟨n,hn⟩
   obtain⟨n,hn⟩:=hn
   refine⟨n,?_⟩
   have:∀(X:Tr U (R⊕P)),X.AP l->X.den (F5 (OX T n))=some r:=by
    intro X
    induction X with
    | leaf x=>intro hx;simp only [Tr.AP] at hx;subst hx;exact hn
    | br c a b iha ihb=>
     rintro (⟨rfl,hx⟩|⟨rfl,hx⟩)
     ·exact iha hx
     ·exact ihb hx
    | bind t o k ih=>rintro ⟨a,rfl,hx⟩;exact ih a hx
    | chk c a ih=>rintro ⟨rfl,hx⟩;exact ih hx
    | fail=>intro hx;exact hx.elim
   exact this _ hl
  obtain⟨n,hn⟩:=key
  exact Z3z T (n:=n+1) hn
 cases ha:AY T p with
 | some r=>exact(h1 r ha).symm
 | none=>
  cases hb:(T p).den (F5 (AY T)) with
  | none=>rfl
  | some r=>simp_all
structure BI (U:CE) where
 c:Code
 K:List Fr
 st:CP U
 sk:Bool
def NW {R:Type} (out:R->SV U.Ty×Ad U) (sp:P->BI U):R⊕P->Si U
 | .inl r=>.done (out r)
 | .inr q=>.jump (sp q).c (sp q).K (sp q).st
end
def Yh {U:CE} (rt:Nat) (r:U.Ty rt):SV U.Ty×Ad U:=(U.encS rt r,[])
structure Lay where
 keep:List Nat
 fa:List (List Fk)
 fb:List Bf
 sh:Shape
section
variable {U:CE}
def YF {L:Type} (bs:List Bool) (t:Tr U L):Tr U L:=match bs with
 | []=>t
 | c::cs=>.chk (RX (c::cs)) t
theorem jZ {L:Type} {bs:List Bool} {t:Tr U L} {l:L} (h:(YF bs t).AP l):(∀b∈bs,b=true)/\t.AP l:=by
 cases bs with
 | nil=>exact⟨by intro b hb;simp at hb,h⟩
 | cons c cs=>exact⟨Z0Y h.1,h.2⟩
def tJ (kk:Nat) (l:Lay) (st:CP U):Tr U (CP U):=
 (Rk l.fa l.fb kk (l.keep.map fun i=>st.s.getD i .und) st.H).andThen fun r=>
  .when (r.1.take kk=List.range kk) (match l.sh.dec (KW (r.1.idxOf ·) r.2.1) (Ru r.2.2 r.1) with
   | some x=>YF x.2 (.leaf ⟨spread .und st.s.length l.keep (l.sh.enc x.1).1,(l.sh.enc x.1).2⟩)
   | none=>.fail)
theorem Zfq (s:List (SV U.Ty)) (keep:List Nat):A7 U (keep.map fun i=>s.getD i .und)=keep.map fun i=>(A7 U s).getD i .und:=by
 induction keep with
 | nil=>rfl
 | cons i keep ih=>simp only [List.map_cons,A7,ih,<- Qp]
theorem ZiO {E:Env} (hU:CG U E) {kk:Nat} {l:Lay} {st st' : CP U} (h:(tJ kk l st).AP st'):∃ids as H2,pack l.fa l.fb kk (l.keep.map fun i=>(BN U st).s.getD i .und) (BN U st).H=some (ids,as,H2)/\ids.take kk=List.range kk /\
  BN U st' = ⟨spread .und (BN U st).s.length l.keep (Eh (ids.idxOf ·) as),FW H2 ids⟩:=by
 simp only [tJ,DC,D6] at h
 obtain⟨p,hp,hk,h⟩:=h
 have hp' :=X9 hp
 rw [Zfq] at hp'
 split at h
 ·rename_i x hx
  obtain⟨hb,h⟩:=jZ h
  simp only [Tr.AP] at h
  subst h
  obtain⟨e1,e2⟩:=Shape.YL hU hx hb
  refine⟨_,_,_,hp',hk,?_⟩
  rw [NG] at e1
  rw [XV] at e2
  simp only [BN]
  rw [e1,e2,Hg]
  congr 1
  rw [Dl,Zdw,<- Dl]
  rfl
 ·simp [Tr.AP] at h
def Ri (E:Env) (fn:Func) (fa:List (List Fk)) (fb:List Bf) (k:Nat) (sh:Shape) (one:Bool) (st:CP U):Tr U (SV U.Ty×Ad U):=
 (sF E fn fa fb k st).andThen fun r=>match one,r.1 with
  | true,.Aw _=>.fail
  | true,v=>(match sh.dec [v] r.2 with
   | some x=>YF x.2 (.leaf ((sh.enc x.1).1.headD .und,(sh.enc x.1).2))
   | none=>.fail)
  | false,.Aw vs=>(match sh.dec vs r.2 with
   | some x=>YF x.2 (.leaf (.Aw (sh.enc x.1).1,(sh.enc x.1).2))
   | none=>.fail)
  | false,_=>.fail
theorem Z35 {E:Env} (hU:CG U E) {fn:Func} {fa:List (List Fk)} {fb:List Bf} {k:Nat} {sh:Shape} {one:Bool} {st:CP U} {r:SV U.Ty×Ad U} (h:(Ri E fn fa fb k sh one st).AP r):Zh E fn fa fb k (BN U st) (AO U r.1,Aj U r.2):=by
 simp only [Ri,DC] at h
 obtain⟨q,hq,h⟩:=h
 have hz:=Zgf hU hq
 have key:AO U q.1=AO U r.1/\Aj U q.2=Aj U r.2:=by
  split at h
  ·simp [Tr.AP] at h
  ·split at h
   ·rename_i x hx
    obtain⟨hb,h⟩:=jZ h
    simp only [Tr.AP] at h
    subst h
    obtain⟨e1,e2⟩:=Shape.YL hU hx hb
    refine⟨?_,e2⟩
    cases he:(sh.enc x.1).1 with
    | nil=>rw [he] at e1;cases e1
    | cons y ys=>
     rw [he] at e1
     simp only [A7,List.cons.injEq] at e1
     exact e1.1
   ·simp [Tr.AP] at h
  ·rename_i vs hvs
   split at h
   ·rename_i x hx
    obtain⟨hb,h⟩:=jZ h
    simp only [Tr.AP] at h
    subst h
    obtain⟨e1,e2⟩:=Shape.YL hU hx hb
    refine⟨?_,e2⟩
    rw [hvs]
    simp only [AO,e1]
   ·simp [Tr.AP] at h
  ·simp [Tr.AP] at h
 simp_all
def DR (E:Env) (M:GY U) (A:Nat->Option Lay) (f:FuncId) (fn:Func) (kk:Nat) (D:CP U->Tr U (SV U.Ty×Ad U)):Nat->Sj->List Fr->CP U->Bool->Tr U (Si U)
 | 0,_,_,_,_=>.fail
 | n+1,.run c,K,st,sk=>
  match c with
  | .skip=>DR E M A f fn kk D n .nxt K st sk
  | .region id ops draw=>
   let go:Tr U (Si U):=if draw then (if E.calm f id then (YZ E M ops st).andThen fun st' =>DR E M A f fn kk D n .nxt K st' false else .fail)
    else (opsT E M ops (List.range ops.size) st).andThen fun st' =>DR E M A f fn kk D n .nxt K st' false
   match sk with
   | true=>go
   | false=>match A id with
    | none=>go
    | some l=>(tJ kk l st).andThen fun st' =>.leaf (.jump (.region id ops draw) K st')
  | .seq a b=>DR E M A f fn kk D n (.run a) (.seq b::K) st sk
  | .cond c a b=>match Bd E st.s c with
   | .lit (.bool true)=>DR E M A f fn kk D n (.run a) K st sk
   | .lit (.bool false)=>DR E M A f fn kk D n (.run b) K st sk
   | .sb t=>.br t (DR E M A f fn kk D n (.run a) K st sk) (DR E M A f fn kk D n (.run b) K st sk)
   | _=>.fail
  | .block id b=>DR E M A f fn kk D n (.run b) (.blk id::K) st sk
  | .loop b=>DR E M A f fn kk D n (.run b) (.loop b::K) st sk
  | .scope b=>DR E M A f fn kk D n (.run b) K st sk
  | .label _=>DR E M A f fn kk D n .nxt K st sk
  | .exit id=>DR E M A f fn kk D n (.exit id) K st sk
  | .ret=>DR E M A f fn kk D n .ret K st sk
  | _=>.fail
 | n+1,.nxt,[],st,_=>(D st).andThen fun v=>.leaf (.done v)
 | n+1,.nxt,.seq c::K,st,sk=>DR E M A f fn kk D n (.run c) K st sk
 | n+1,.nxt,.blk _::K,st,sk=>DR E M A f fn kk D n .nxt K st sk
 | n+1,.nxt,.loop b::K,st,sk=>DR E M A f fn kk D n (.run b) (.loop b::K) st sk
 | n+1,.exit id,.blk i::K,st,sk=>if id=i then DR E M A f fn kk D n .nxt K st sk else DR E M A f fn kk D n (.exit id) K st sk
 | n+1,.exit id,_::K,st,sk=>DR E M A f fn kk D n (.exit id) K st sk
 | n+1,.exit _,[],_,_=>.fail
 | n+1,.ret,[],st,_=>(D st).andThen fun v=>.leaf (.done v)
 | n+1,.ret,_::K,st,sk=>DR E M A f fn kk D n .ret K st sk
theorem Zjd {E:Env} {M:GY U} {A:Nat->Option Lay} {call:CS} (hU:CG U E) (hM:Kr U M call) {f:FuncId} {fn:Func} {kk:Nat} {D:CP U->Tr U (SV U.Ty×Ad U)} {Z:St->V×Heap->Prop} (hD:∀st s,(D st).AP s->Z (BN U st) (AO U s.1,Aj U s.2)) {r:V×Heap}:∀(n:Nat) (ctl:Sj) (K:List Fr) (st:CP U) (sk:Bool) (l:Si U),
  (DR E M A f fn kk D n ctl K st sk).AP l->ZgL call E f fn kk Z l r->Bz call E f fn kk Z ctl K (BN U st) r:=by
 intro n
 induction n with
 | zero=>intro ctl K st sk l h;simp [DR,Tr.AP] at h
 | succ n ih=>
  intro ctl K st sk l h hl
  cases ctl with
  | run c=>
   cases c with
   | skip=>exact .skip (ih _ _ _ _ _ h hl)
   | region id ops draw=>
    simp only [DR] at h
    have go:(if draw=true then (if E.calm f id=true then (YZ E M ops st).andThen fun st' =>DR E M A f fn kk D n .nxt K st' false else .fail)
      else (opsT E M ops (List.range ops.size) st).andThen fun st' =>DR E M A f fn kk D n .nxt K st' false:Tr U (Si U)).AP l->Bz call E f fn kk Z (.run (.region id ops draw)) K (BN U st) r:=by
     intro hg
     cases draw with
     | true=>
      simp only [if_true] at hg
      by_cases hc:E.calm f id=true
      ·rw [if_pos hc,DC] at hg
       obtain⟨st1,h1,h2⟩:=hg
       exact .draw hc (ZfE hU hM h1) (ih _ _ _ _ _ h2 hl)
      ·rw [if_neg hc] at hg
       simp [Tr.AP] at hg
     | false=>
      simp only [Bool.false_eq_true,if_false] at hg
      rw [DC] at hg
      obtain⟨st1,h1,h2⟩:=hg
      exact .region (Zj8 hU hM h1) (ih _ _ _ _ _ h2 hl)
    cases sk with
    | true=>exact go h
    | false=>
     simp only at h
     split at h
     ·exact go h
     ·rename_i l' hA
      simp only [DC,Tr.AP] at h
      obtain⟨st1,ht,rfl⟩:=h
      obtain⟨ids,as,H2,h1,h2,h3⟩:=ZiO hU ht
      have hl' : Bz call E f fn kk Z (.run (.region id ops draw)) K (BN U st1) r:=hl
      rw [h3] at hl'
      exact .Z4p h1 h2 hl'
   | seq a b=>exact .seq (ih _ _ _ _ _ h hl)
   | cond c a b=>
    simp only [DR] at h
    have hev:ev E (BN U st).s c=AO U (Bd E st.s c):=ET E st.s c
    split at h
    ·rename_i hc
     rw [hc] at hev
     exact .cond (t:=true) hev (ih _ _ _ _ _ h hl)
    ·rename_i hc
     rw [hc] at hev
     exact .cond (t:=false) hev (ih _ _ _ _ _ h hl)
    ·rename_i t hc
     rw [hc] at hev
     simp only [Tr.AP] at h
     rcases h with ⟨rfl,h⟩|⟨rfl,h⟩
     ·exact .cond (t:=true) hev (ih _ _ _ _ _ h hl)
     ·exact .cond (t:=false) hev (ih _ _ _ _ _ h hl)
    ·simp [Tr.AP] at h
   | block id b=>exact .block (ih _ _ _ _ _ h hl)
   | loop b=>exact .loop (ih _ _ _ _ _ h hl)
   | scope b=>exact .scope (ih _ _ _ _ _ h hl)
   | label l=>exact .label (ih _ _ _ _ _ h hl)
   | exit id=>exact .exit (ih _ _ _ _ _ h hl)
   | ret=>exact .ret (ih _ _ _ _ _ h hl)
   | _=>simp [DR,Tr.AP] at h
  | nxt=>
   cases K with
   | nil=>
    simp only [DR,DC,Tr.AP] at h
    obtain⟨v,h1,rfl⟩:=h
    have:r=(AO U v.1,Aj U v.2):=hl
    rw [this]
    exact .finN (hD _ _ h1)
   | cons x K=>
    cases x with
    | seq c=>exact .nseq (ih _ _ _ _ _ h hl)
    | blk i=>exact .nblk (ih _ _ _ _ _ h hl)
    | loop b=>exact .Z4q (ih _ _ _ _ _ h hl)
  | exit id=>
   cases K with
   | nil=>simp [DR,Tr.AP] at h
   | cons x K=>
    cases x with
    | seq c=>exact .eseq (ih _ _ _ _ _ h hl)
    | blk i=>
     simp only [DR] at h
     split at h
     ·rename_i hi
      subst hi
      exact .eblk (ih _ _ _ _ _ h hl)
     ·rename_i hi
      exact .Z4K hi (ih _ _ _ _ _ h hl)
    | loop b=>exact .Z4h (ih _ _ _ _ _ h hl)
  | ret=>
   cases K with
   | nil=>
    simp only [DR,DC,Tr.AP] at h
    obtain⟨v,h1,rfl⟩:=h
    have:r=(AO U v.1,Aj U v.2):=hl
    rw [this]
    exact .finR (hD _ _ h1)
   | cons x K=>exact .rany (ih _ _ _ _ _ h hl)
theorem lI {R P:Type} {E:Env} {M:GY U} {A:Nat->Option Lay} {call:CS} (hU:CG U E) (hM:Kr U M call) {f:FuncId} {fn:Func} {kk:Nat} {D:CP U->Tr U (SV U.Ty×Ad U)} {Z:St->V×Heap->Prop} (hD:∀st s,(D st).AP s->Z (BN U st) (AO U s.1,Aj U s.2))
  {out:R->SV U.Ty×Ad U} {N:Nat} (T:P->Tr U (R⊕P)) (sp:P->BI U)
  (h:∀p,DR E M A f fn kk D N (.run (sp p).c) (sp p).K (sp p).st (sp p).sk=(T p).map (NW out sp)) {p:P} {r:R} (hr:AY T p=some r) :
  Bz call E f fn kk Z (.run (sp p).c) (sp p).K (BN U (sp p).st) (AO U (out r).1,Aj U (out r).2):=by
 obtain⟨n,hn⟩:=nC hr
 clear hr
 induction n generalizing p r with
 | zero=>cases hn
 | succ n ih=>
  obtain⟨l,h1,h2⟩:=Z2t hn
  have h3:=ZgP (g:=NW out sp) h1
  rw [<- h p] at h3
  refine Zjd hU hM hD N _ _ _ _ _ h3 ?_
  cases l with
  | inl a=>
   simp only [F5,Option.some.injEq] at h2
   subst h2
   rfl
  | inr q=>exact ih h2
end
def spot {U:CE} (c:Code) (p:List Nat) (n:Nat) (keep:List Nat) (e:List (SV U.Ty)×Ad U):BI U:=⟨(Nl c p []).1,(Nl c p []).2,⟨spread .und n keep e.1,e.2⟩,true⟩
theorem Z2Z {U:CE} {P:Program} {gl:Nat->Option (List V)} {f:FuncId} {mods:FuncId->Option (Ai U)} {hmods:FuncId->List FuncId->Option (HMod U)} {mk:Lj P} {E0:Env} (hE0:E0.Ci=gl) (hU:CG U (EV P gl f mods hmods mk)) (hmix:P.follows .mixedOrders=true) {fn:Func} {c:Code}
  (hok:∀g m,mods g=some m->Ag P E0 g m) (hhok:∀g k m,hmods g k=some m->Dh P E0 g m) (hfn:P.funcs[f]? = some fn) (hname:(fn.name == "runtime.NumGoroutine")=false) (hb:fn.body=some c) (hcalm:DD (EV P gl f mods hmods mk) f c=true) (m:Ai U)
  {Pt:Type} {A:Nat->Option Lay} {N:Nat} (T:Pt->Tr U (U.Ty m.rt⊕Pt)) (sp:Pt->BI U)
  (h:∀p,DR (EV P gl f mods hmods mk) (Lu mods hmods mk.tab) A f fn 0 (Uu (EV P gl f mods hmods mk) fn) N (.run (sp p).c) (sp p).K (sp p).st (sp p).sk=(T p).map (NW (Yh m.rt) sp))
  (b0:Dy U m.ts->Pt) (hm:∀x,m.fn x=AY T (b0 x)) (hsp:∀x,sp (b0 x)=⟨c,[],Um m.ts x fn.ntmps,false⟩):Ag P E0 f m:=by
 refine fn_ok hE0 hU hmix hok hhok hfn hname hb hcalm m fun x a hx=>?_
 rw [hm] at hx
 have:=lI hU (qZ hU) (fun st s hs=>ZgB hU hs) T sp h hx
 rw [hsp] at this
 simp only [Yh,hU.encS] at this
 exact this
theorem ZeK {U:CE} {P:Program} {gl:Nat->Option (List V)} {f:FuncId} {mods:FuncId->Option (Ai U)} {hmods:FuncId->List FuncId->Option (HMod U)} {mk:Lj P} {E0:Env} (hE0:E0.Ci=gl) (hU:CG U (EV P gl f mods hmods mk)) (hmix:P.follows .mixedOrders=true) {fn:Func} {c:Code}
  (hok:∀g m,mods g=some m->Ag P E0 g m) (hhok:∀g k m,hmods g k=some m->Dh P E0 g m) (hfn:P.funcs[f]? = some fn) (hname:(fn.name == "runtime.NumGoroutine")=false) (hb:fn.body=some c) (hcalm:DD (EV P gl f mods hmods mk) f c=true) (m:HMod U)
  {fa:List (List Fk)} {fb:List Bf} {k:Nat} (hk:∀x:m.BU.X U,(m.BU.enc x).2.length=k) {Pt:Type} {A:Nat->Option Lay} {N:Nat} (T:Pt->Tr U (U.Ty m.ky⊕Pt)) (sp:Pt->BI U)
  (h:∀p,DR (EV P gl f mods hmods mk) (Lu mods hmods mk.tab) A f fn k (Ri (EV P gl f mods hmods mk) fn fa fb k m.GV m.one) N (.run (sp p).c) (sp p).K (sp p).st (sp p).sk=(T p).map (NW m.out sp))
  (b0:m.BU.X U->Pt) (hm:∀x:m.BU.X U,m.fn x=AY T (b0 x)) (hsp:∀x:m.BU.X U,sp (b0 x)=⟨c,[],RI (m.BU.enc x) fn.ntmps,false⟩):Dh P E0 f m:=by
 refine ZkZ hE0 hU hmix hok hhok hfn hname hb hcalm m hk (fa:=fa) (fb:=fb) fun x y hx=>?_
 rw [hm] at hx
 have:=lI hU (qZ hU) (fun st s hs=>Z35 hU hs) T sp h hx
 rw [hsp] at this
 exact this
end Go.Proofs.YtlabamnhpgoekaaGreatDoor.Le
