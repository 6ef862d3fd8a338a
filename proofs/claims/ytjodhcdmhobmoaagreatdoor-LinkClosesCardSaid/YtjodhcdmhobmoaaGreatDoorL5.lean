/-
  A part of the proof.
-/
import Derived.Test.YtjodhcdmhobmoaaGreatDoorL4
import Derived.OpenShut
set_option linter.unusedVariables false
set_option linter.unusedSimpArgs false
namespace Go.Proofs.YtjodhcdmhobmoaaGreatDoor.Le
section
variable {U:Z5V}
mutual
def Z4z:SV U.Ty->List Nat
 | .all id _=>[id]
 | .lsl id _ _ _=>[id]
 | .ptr id _ _ _=>[id]
 | .agg cs=>Zcs cs
 | .tup cs=>Zcs cs
 | .mps cs=>Zcs cs
 | .fn _ a b=>Zcs a++Zcs b
 | .raw v=>Z3k v
 | _=>[]
def Zcs:List (SV U.Ty)->List Nat
 | []=>[]
 | x::xs=>Z4z x++Zcs xs
end
mutual
def Z7w (ρ:Nat->Nat):SV U.Ty->SV U.Ty
 | .all id n=>.all (ρ id) n
 | .lsl id off len tot=>.lsl (ρ id) off len tot
 | .ptr id i off tot=>.ptr (ρ id) i off tot
 | .agg cs=>.agg (Zem ρ cs)
 | .tup cs=>.tup (Zem ρ cs)
 | .mps cs=>.mps (Zem ρ cs)
 | .fn f a b=>.fn f (Zem ρ a) (Zem ρ b)
 | .raw v=>.raw (Zlc ρ v)
 | v=>v
def Zem (ρ:Nat->Nat):List (SV U.Ty)->List (SV U.Ty)
 | []=>[]
 | x::xs=>Z7w ρ x::Zem ρ xs
end
mutual
theorem Zzh:∀x:SV U.Ty,Z3k (toV U x)=Z4z x
 | .all _ _=>by simp only [toV,Z3k,Z4z]
 | .lsl _ _ _ _=>by simp only [toV,Z3k,Z4z]
 | .ptr _ _ _ _=>by simp only [toV,Z3k,Z4z]
 | .agg cs=>by simp only [toV,Z3k,Z4z];exact Z6A cs
 | .tup cs=>by simp only [toV,Z3k,Z4z];exact Z6A cs
 | .mps cs=>by simp only [toV,Z3k,Z4z];exact Z6A cs
 | .fn _ a b=>by simp only [toV,Z3k,Z4z];rw [Z6A a,Z6A b]
 | .raw v=>by simp only [toV,Z4z]
 | .lit _=>by simp only [toV,Z3k,Z4z]
 | .si _ _=>by simp only [toV,Z3k,Z4z]
 | .sb _=>by simp only [toV,Z3k,Z4z]
 | .ss _=>by simp only [toV,Z3k,Z4z]
 | .nil _=>by simp only [toV,Z3k,Z4z]
 | .sl _ _=>by simp only [toV,Z3k,Z4z]
 | .slt _ _=>by simp only [toV,Z3k,Z4z]
 | .ept _ _ _ _=>by simp only [toV,Z3k,Z4z]
 | .no=>by simp only [toV,Z3k,Z4z]
 | .und=>by simp only [toV,Z3k,Z4z]
theorem Z6A:∀xs:List (SV U.Ty),Z0G (Z02 U xs)=Zcs xs
 | []=>rfl
 | x::xs=>by simp only [Z02,Z0G,Zcs];rw [Zzh x,Z6A xs]
end
mutual
theorem Zop (ρ:Nat->Nat):∀x:SV U.Ty,toV U (Z7w ρ x)=Zlc ρ (toV U x)
 | .all _ _=>by simp only [toV,Zlc,Z7w]
 | .lsl _ _ _ _=>by simp only [toV,Zlc,Z7w]
 | .ptr _ _ _ _=>by simp only [toV,Zlc,Z7w]
 | .agg cs=>by simp only [toV,Zlc,Z7w];rw [Z5P ρ cs]
 | .tup cs=>by simp only [toV,Zlc,Z7w];rw [Z5P ρ cs]
 | .mps cs=>by simp only [toV,Zlc,Z7w];rw [Z5P ρ cs]
 | .fn _ a b=>by simp only [toV,Zlc,Z7w];rw [Z5P ρ a,Z5P ρ b]
 | .raw v=>by simp only [toV,Z7w]
 | .lit _=>by simp only [toV,Zlc,Z7w]
 | .si _ _=>by simp only [toV,Zlc,Z7w]
 | .sb _=>by simp only [toV,Zlc,Z7w]
 | .ss _=>by simp only [toV,Zlc,Z7w]
 | .nil _=>by simp only [toV,Zlc,Z7w]
 | .sl _ _=>by simp only [toV,Zlc,Z7w]
 | .slt _ _=>by simp only [toV,Zlc,Z7w]
 | .ept _ _ _ _=>by simp only [toV,Zlc,Z7w]
 | .no=>by simp only [toV,Zlc,Z7w]
 | .und=>by simp only [toV,Zlc,Z7w]
theorem Z5P (ρ:Nat->Nat):∀xs:List (SV U.Ty),Z02 U (Zem ρ xs)=Z9C ρ (Z02 U xs)
 | []=>rfl
 | x::xs=>by simp only [Z02,Z9C,Zem];rw [Zop ρ x,Z5P ρ xs]
end
def retS (e sz:Nat) (H:ZP U):SV U.Ty->Tr U (SV U.Ty×ZP U)
 | .nil _=>.when (U.esz e=sz) (.leaf (.sl e [],H))
 | y=>.leaf (y,H)
def ZtU:Fk->ZP U->SV U.Ty->Tr U (SV U.Ty×ZP U)
 | .s e sz,H,x=>(Zps H x).andThen fun y=>retS e sz (ZvN H (Zsc x)) y
 | .own e sz,H,x=>(match x with
  | .nil _=>.when (U.esz e=sz) (.leaf (.all H.length 0,H++[.row e [] none]))
  | .all id n=>.leaf (.all id n,H)
  | _=>.fail)
 | .keep,H,x=>.leaf (x,H)
def Zqp:List Fk->ZP U->List (SV U.Ty)->Tr U (List (SV U.Ty)×ZP U)
 | [],H,[]=>.leaf ([],H)
 | f::fs,H,x::xs=>(ZtU f H x).andThen fun r=>(Zqp fs r.2 xs).andThen fun q=>.leaf (r.1::q.1,q.2)
 | _,_,_=>.fail
def ZFb (fl:List Fk) (H:ZP U) (x:SV U.Ty):Tr U (SV U.Ty×ZP U):=
 match x with
 | .agg cs=>(Zqp fl H cs).andThen fun r=>.leaf (.agg r.1,r.2)
 | .raw _=>.fail
 | x=>match fl with
  | [f]=>ZtU f H x
  | _=>.fail
def Zqd:List (List Fk)->ZP U->List (SV U.Ty)->Tr U (List (SV U.Ty)×ZP U)
 | [],H,[]=>.leaf ([],H)
 | f::fs,H,x::xs=>(ZFb f H x).andThen fun r=>(Zqd fs r.2 xs).andThen fun q=>.leaf (r.1::q.1,q.2)
 | _,_,_=>.fail
def ZkQ:Nat->List Bf->ZP U->List Nat->List Nat->Tr U (ZP U×List Nat)
 | 0,_,_,_,_=>.fail
 | _+1,_,H,[],seen=>.leaf (H,seen)
 | n+1,fb,H,id::todo,seen=>
  if seen.contains id then ZkQ n fb H todo seen else
  match H[id]?,fb with
  | some (.row _ _ none),.row true::fb' =>ZkQ n fb' H todo (seen++[id])
  | some (.row _ _ _),.row false::fb' =>ZkQ n fb' (ZvN H [id]) todo (seen++[id])
  | some (.var _ _ x),.var fl::fb' =>(ZFb fl H x).andThen fun r=>(match r.2[id]? with
    | some (.var e m _)=>.when (okS r.1=true) (ZkQ n fb' (r.2.set id (.var e m r.1)) (todo++Z4z r.1) (seen++[id]))
    | _=>.fail)
  | _,_=>.fail
def ZvB (ρ:Nat->Nat):ZJ2 U.Ty->ZJ2 U.Ty
 | .var e n x=>.var e n (Z7w ρ x)
 | .fvar e n x=>.fvar e n (Z7w ρ x)
 | b=>b
def ZFS (H:ZP U) (ids:List Nat):ZP U:=ids.map fun id=>ZvB (ids.idxOf ·) ((H[id]?).getD .dead)
def ZIO (fa:List (List Fk)) (fb:List Bf) (k:Nat) (args:List (SV U.Ty)) (H:ZP U):Tr U (List Nat×List (SV U.Ty)×ZP U):=
 (Zqd fa H args).andThen fun r=>(ZkQ 1000 fb r.2 (List.range k++Zcs r.1) []).andThen fun q=>.leaf (q.2,r.1,q.1)
def ZM2:ZP U->List Nat->ZP U->ZP U
 | H,[],bs=>H++bs
 | H,id::ids,b::bs=>ZM2 (H.set id b) ids bs
 | H,_::_,[]=>H
def Zjz (H:ZP U) (ids:List Nat) (H3:ZP U):ZP U:=ZM2 H ids (H3.map (ZvB (ZiA ids H.length)))
theorem ZQ2 {e sz:Nat} {H:ZP U} {y:SV U.Ty} {r:SV U.Ty×ZP U} (h:(retS e sz H y).ZA r) (hy:∀v,y≠.raw v):toV U r.1=Z2d sz (toV U y)/\r.2=H:=by
 unfold retS at h
 split at h
 ·simp only [Z09,Tr.ZA] at h
  obtain⟨he,rfl⟩:=h
  simp [toV,Z2d,he]
 ·simp only [Tr.ZA] at h
  subst h
  refine⟨?_,rfl⟩
  cases y with
  | nil e' =>rename_i hne;exact absurd rfl (hne e')
  | raw v=>exact absurd rfl (hy v)
  | _=>simp [toV,Z2d]
theorem ZL8 {H:ZP U} {x y:SV U.Ty} (h:(Zps H x).ZA y):∀v,y≠.raw v:=by
 intro v hv
 subst hv
 unfold Zps at h
 split at h<;>(try (simp [Tr.ZA] at h;done))
 ·obtain⟨t,xs,fl,h1,h2,h3,h4⟩:=Z0J h;simp [Tr.ZA] at h3
 ·obtain⟨t,xs,fl,h1,h2,h3,h4⟩:=Z0J h;simp [Tr.ZA] at h3
theorem ZzK {f:Fk} {H:ZP U} {x:SV U.Ty} {r:SV U.Ty×ZP U} (h:(ZtU f H x).ZA r):ZdR f (toH U H) (toV U x)=some (toV U r.1,toH U r.2):=by
 cases f with
 | s e sz=>
  simp only [ZtU,ZB] at h
  obtain⟨y,h1,h2⟩:=h
  obtain⟨e1,e2⟩:=ZQ2 h2 (ZL8 h1)
  simp only [ZdR,Zur h1,Option.map_some,e1,e2]
  rw [ZFm,ZfM H _ (Zlt h1)]
 | own e sz=>
  simp only [ZtU] at h
  split at h
  ·simp only [Z09,Tr.ZA] at h
   obtain⟨he,rfl⟩:=h
   simp [ZdR,ZMr,toV,toH,Z0W,ZW,he]
  ·simp only [Tr.ZA] at h
   subst h
   simp [ZdR,ZMr,toV]
  ·simp [Tr.ZA] at h
 | keep=>
  simp only [ZtU,Tr.ZA] at h
  subst h
  rfl
theorem ZJX:∀{fl:List Fk} {H:ZP U} {xs:List (SV U.Ty)} {r:List (SV U.Ty)×ZP U},(Zqp fl H xs).ZA r->Zbu fl (toH U H) (Z02 U xs)=some (Z02 U r.1,toH U r.2):=by
 intro fl
 induction fl with
 | nil=>
  intro H xs r h
  cases xs with
  | nil=>simp only [Zqp,Tr.ZA] at h;subst h;rfl
  | cons=>simp [Zqp,Tr.ZA] at h
 | cons f fl ih=>
  intro H xs r h
  cases xs with
  | nil=>simp [Zqp,Tr.ZA] at h
  | cons x xs=>
   simp only [Zqp,ZB,Tr.ZA] at h
   obtain⟨p,h1,q,h2,rfl⟩:=h
   simp only [Z02,Zbu,ZzK h1,ih h2]
theorem ZAZ {fl:List Fk} {H:ZP U} {x:SV U.Ty} {r:SV U.Ty×ZP U} (h:(ZFb fl H x).ZA r):Zjb fl (toH U H) (toV U x)=some (toV U r.1,toH U r.2):=by
 unfold ZFb at h
 split at h
 ·rename_i cs
  simp only [ZB,Tr.ZA] at h
  obtain⟨p,h1,rfl⟩:=h
  simp only [toV,Zjb,ZJX h1,Option.map_some]
 ·simp [Tr.ZA] at h
 ·rename_i hn1 hn2
  split at h
  ·rename_i f
   have h1:=ZzK h
   unfold Zjb
   split
   ·rename_i cs hcs
    exfalso
    cases x<;>simp_all [toV]
   ·exact h1
  ·simp [Tr.ZA] at h
theorem ZL0:∀{fl:List (List Fk)} {H:ZP U} {xs:List (SV U.Ty)} {r:List (SV U.Ty)×ZP U},(Zqd fl H xs).ZA r->Zdj fl (toH U H) (Z02 U xs)=some (Z02 U r.1,toH U r.2):=by
 intro fl
 induction fl with
 | nil=>
  intro H xs r h
  cases xs with
  | nil=>simp only [Zqd,Tr.ZA] at h;subst h;rfl
  | cons=>simp [Zqd,Tr.ZA] at h
 | cons f fl ih=>
  intro H xs r h
  cases xs with
  | nil=>simp [Zqd,Tr.ZA] at h
  | cons x xs=>
   simp only [Zqd,ZB,Tr.ZA] at h
   obtain⟨p,h1,q,h2,rfl⟩:=h
   simp only [Z02,Zdj,ZAZ h1,ih h2]
theorem ZJv:∀{n:Nat} {fb:List Bf} {H:ZP U} {todo seen:List Nat} {r:ZP U×List Nat},(ZkQ n fb H todo seen).ZA r->Zl2 n fb (toH U H) todo seen=some (toH U r.1,r.2):=by
 intro n
 induction n with
 | zero=>intro fb H todo seen r h;simp [ZkQ,Tr.ZA] at h
 | succ n ih=>
  intro fb H todo seen r h
  cases todo with
  | nil=>simp only [ZkQ,Tr.ZA] at h;subst h;rfl
  | cons id todo=>
   unfold ZkQ at h
   unfold Zl2
   by_cases hin:seen.contains id=true
   ·rw [if_pos hin] at h ⊢
    exact ih h
   ·rw [if_neg hin] at h ⊢
    rw [Z9E]
    split at h
    ·rename_i t xs fb' hb
     rw [hb]
     simp only [Option.map_some,Z0W,Bool.and_self,if_true]
     exact ih h
    ·rename_i t xs fl fb' hb
     rw [hb]
     simp only [Option.map_some,Z0W,Bool.and_self,if_true,Bool.false_eq_true,if_false]
     rw [<- ZfM H [id] (fun i hi=>by simp at hi;subst hi;exact⟨t,xs,fl,hb⟩)]
     exact ih h
    ·rename_i e m x fl fb' hb
     rw [hb]
     simp only [ZB] at h
     obtain⟨p,h1,h2⟩:=h
     simp only [Option.map_some,Z0W,ZW,Bool.not_false,Bool.and_self,if_true,ZAZ h1,Z9E]
     split at h2
     ·rename_i e' m' x' hb'
      simp only [Z09] at h2
      obtain⟨hok,h2⟩:=h2
      rw [hb']
      simp only [Option.map_some,Z0W,ZW,Zd9 hok,if_true]
      have:=ih h2
      rw [Zdn] at this
      simp only [Z0W,ZW] at this
      rw [Zzh]
      exact this
     ·simp [Tr.ZA] at h2
    ·simp [Tr.ZA] at h
theorem Zoz {fa:List (List Fk)} {fb:List Bf} {k:Nat} {args:List (SV U.Ty)} {H:ZP U} {r:List Nat×List (SV U.Ty)×ZP U} (h:(ZIO fa fb k args H).ZA r):pack fa fb k (Z02 U args) (toH U H)=some (r.1,Z02 U r.2.1,toH U r.2.2):=by
 simp only [ZIO,ZB,Tr.ZA] at h
 obtain⟨p,h1,q,h2,rfl⟩:=h
 simp only [pack,ZL0 h1,Z6A,ZJv h2]
theorem Zjs (ρ:Nat->Nat) (b:ZJ2 U.Ty):Z0W U (ZvB ρ b)=Z3h ρ (Z0W U b):=by
 cases b<;>simp [ZvB,Z0W,Z3h,ZW,ZeX,Z9C,Zop]
theorem ZjR (H:ZP U) (ids:List Nat):toH U (ZFS H ids)=ZyL (toH U H) ids:=by
 simp only [toH,ZFS,ZyL,List.map_map]
 apply List.map_congr_left
 intro id _
 simp only [Function.comp,Zjs]
 congr 1
 rw [List.getElem?_map]
 cases H[id]?<;>rfl
theorem ZKa:∀(H:ZP U) (ids:List Nat) (bs:ZP U),toH U (ZM2 H ids bs)=ZO7 (toH U H) ids (toH U bs):=by
 intro H ids
 induction ids generalizing H with
 | nil=>intro bs;simp [ZM2,ZO7,toH]
 | cons id ids ih=>
  intro bs
  cases bs with
  | nil=>rfl
  | cons b bs=>
   simp only [ZM2,ih,Zdn]
   rfl
theorem ZAK (H:ZP U) (ids:List Nat) (H3:ZP U):toH U (Zjz H ids H3)=ZaP (toH U H) ids (toH U H3):=by
 simp only [Zjz,ZaP,ZKa]
 congr 1
 simp only [toH,List.map_map]
 apply List.map_congr_left
 intro b _
 simp [Function.comp,Zjs]
def ZsU:List (SV U.Ty)->List FuncId
 | []=>[]
 | .fn f _ _::vs=>f::ZsU vs
 | .raw v::vs=>Zok [v]++ZsU vs
 | _::vs=>ZsU vs
theorem ZIT (v:V) (vs:List V):Zok (v::vs)=Zok [v]++Zok vs:=by
 cases v<;>simp [Zok]
theorem ZGc:∀(vs:List (SV U.Ty)),Zok (Z02 U vs)=ZsU vs:=by
 intro vs
 induction vs with
 | nil=>rfl
 | cons v vs ih=>
  simp only [Z02]
  rw [ZIT,ih]
  cases v<;>simp [toV,Zok,ZsU]
end
open Go.RowKit (Below)
structure ZRV (k:Nat) (ids:List Nat) (st st' : St):Prop where
 nodup:ids.Nodup
 pre:ids.take k=List.range k
 len:st'.H.length=ids.length
 heap:∀(j id:Nat),ids[j]? = some id->∃b b',st.H[id]? = some b/\b.live=true/\st'.H[j]? = some b' /\ b'.live=true/\b'.row=b.row/\(b'.ZdP=true->b.ZdP=true)/\b'.elem=b.elem/\b'.esz=b.esz /\
  (b.floor<=b'.floor\/b'.floor=b'.xs.length)/\b'.floor<=b'.xs.length/\(b.row=true->b'.xs=b.xs)/\(b.row=false->b'.xs=Z9C (ids.idxOf ·) b.xs/\∀r∈Z0G b.xs,r∈ids)
 slen:st'.s.length=st.s.length
 slots:∀(i:Nat) (v' : V),st'.s[i]? = some v' -> v' = .und\/∃v,st.s[i]? = some v/\v' = Zlc (ids.idxOf ·) v/\∀r∈Z3k v,r∈ids
theorem ZsZ {σ:Sg} {w:World}:∀{xs:List V} {vs:List Value},xs.length=vs.length->(∀(i:Nat) (x:V) (v:Value),xs[i]? = some x->vs[i]? = some v->Zx σ w [x] [v])->Zx σ w xs vs:=by
 intro xs
 induction xs with
 | nil=>intro vs hl _;cases vs with|nil=>exact .nil|cons=>simp at hl
 | cons x xs ih=>
  intro vs hl h
  cases vs with
  | nil=>simp at hl
  | cons v vs=>exact Zx.Z0I.2 ⟨h 0 x v rfl rfl,ih (by simpa using hl) (fun i y u h1 h2=>h (i+1) y u (by simpa using h1) (by simpa using h2))⟩
theorem ZQv {E:Env} {B:Nat} {w0:Start} {σ:Sg} {st st' : St} {a:Act} {w:World} {k:Nat} {ids:List Nat} (ht:ZRV k ids st st') (h:Rel E B w0 σ st a w):Rel E B w0 (σ.ren ids) st' a w:=by
 have hbox:∀{j:Nat} {L:Loc},(σ.ren ids).box j=some L->∃id,ids[j]? = some id/\σ.box id=some L:=by
  intro j L hL
  simp only [Sg.ren] at hL
  cases hj:ids[j]? with
  | none=>simp [hj] at hL
  | some id=>simp only [hj,Option.bind_some] at hL;exact⟨id,rfl,hL⟩
 have hsome:∀{j:Nat} {b' : Box},st'.H[j]? = some b' -> ∃id,ids[j]? = some id:=by
  intro j b' hb
  have hlt:=(List.getElem?_eq_some_iff.1 hb).1
  rw [ht.len] at hlt
  exact⟨ids[j],List.getElem?_eq_getElem hlt⟩
 refine⟨⟨h.inv.below,h.inv.size,?_,?_,?_,h.inv.cells,?_,?_,h.inv.old,fun b hb=>?_⟩,h.ZdT.bare (fun b c hh=>⟨hh,rfl⟩) (Zcn.refl _),?_,h.calm⟩
 ·intro j L hL
  obtain⟨id,h1,h2⟩:=hbox hL
  obtain⟨b,b',_,_,q1,q2,_⟩:=ht.heap j id h1
  exact⟨b',q1,q2⟩
 ·intro j b' hb hl
  obtain⟨id,hid⟩:=hsome hb
  obtain⟨b,b2,p1,p2,p3,p4,p5,p6,p7,p8,p9,p10,p11,p12⟩:=ht.heap j id hid
  rw [hb] at p3
  cases p3
  obtain⟨L,hL,hok⟩:=h.inv.boxes id b p1 p2
  obtain⟨us,r1,r2,r3,r4⟩:=hok.Z8h
  refine⟨L,by simp [Sg.ren,hid,hL],?_⟩
  have hlen:b'.xs.length=b.xs.length:=by
   cases hr:b.row with
   | true=>rw [p11 hr]
   | false=>rw [(p12 hr).1,Zfk]
  have hreps:Zx (σ.ren ids) w b'.xs us:=by
   cases hr:b.row with
   | true=>rw [p11 hr];exact r1.bare (fun b c hh=>⟨hh,rfl⟩) (Zcn.refl _) ((Z1Z _).2 (hok.fzs hr))
   | false=>rw [(p12 hr).1];exact Zk2 r1 (p12 hr).2
  refine⟨by rw [hlen];exact hok.tot,⟨us,hreps,r2,r3,by rw [p7,hlen];exact r4⟩,fun hn=>hok.ZdP (p6 hn),by rw [p8];exact hok.esz,?_,?_⟩
  ·intro x hx
   cases hr:b.row with
   | true=>rw [p11 hr] at hx;exact hok.oks x hx
   | false=>
    rw [(p12 hr).1,Zr7] at hx
    obtain⟨y,hy,rfl⟩:=List.mem_map.1 hx
    rw [ZMp]
    exact hok.oks y hy
  ·intro hr x hx
   rw [p5] at hr
   rw [p11 hr] at hx
   exact hok.fzs hr x hx
 ·intro j j' b1 b2 L1 L2 g h1 h2 l1 l2 s1 s2 g1 g2
  obtain⟨i1,e1,t1⟩:=hbox s1
  obtain⟨i2,e2,t2⟩:=hbox s2
  obtain⟨c1,_,p1,p2,_⟩:=ht.heap j i1 e1
  obtain⟨c2,_,q1,q2,_⟩:=ht.heap j' i2 e2
  have:=h.inv.apart i1 i2 c1 c2 L1 L2 g p1 q1 p2 q2 t1 t2 g1 g2
  subst this
  exact Zro ht.nodup e1 e2
 ·intro b c hc j b' L hb hl hL hg
  obtain⟨id,hid,hL'⟩:=hbox hL
  obtain⟨b0,b2,p1,p2,p3,p4,p5,p6,p7,p8,p9,p10,p11,p12⟩:=ht.heap j id hid
  rw [hb] at p3
  cases p3
  have:=h.inv.floor b c hc id b0 L p1 p2 hL' hg
  have hlen:b'.xs.length=b0.xs.length:=by
   cases hr:b0.row with
   | true=>rw [p11 hr]
   | false=>rw [(p12 hr).1,Zfk]
  have hle:b0.floor<=b'.floor:=by
   rcases p9 with p9|p9
   ·exact p9
   ·rw [p9,hlen];exact h.inv.low id b0 p1 p2
  exact Nat.lt_of_lt_of_le this (Nat.mul_le_mul_right _ hle)
 ·intro j b' hb hl
  obtain⟨id,hid⟩:=hsome hb
  obtain⟨b0,b2,p1,p2,p3,p4,p5,p6,p7,p8,p9,p10,p11,p12⟩:=ht.heap j id hid
  rw [hb] at p3
  cases p3
  exact p10
 ·obtain⟨k1,k2,k3,k4⟩:=h.inv.kept b hb
  refine⟨k1,k2,fun j L hL hg=>?_,k4⟩
  obtain⟨id,hid,hL'⟩:=hbox hL
  exact k3 id L hL' hg
 ·refine ZsZ (by rw [ht.slen];exact h.slots.length) (fun i x v hx hv=>?_)
  rcases ht.slots i x hx with rfl|⟨y,hy,rfl,hc⟩
  ·exact .und _ .nil
  ·obtain⟨u,hu,hr⟩:=h.slots.get hy
   rw [hv] at hu
   cases hu
   exact Zk2 hr (by simpa [Z0G] using hc)
def spread {α:Type} (u:α) (n:Nat):List Nat->List α->List α
 | k::ks,v::vs=>(spread u n ks vs).set k v
 | _,_=>List.replicate n u
theorem Zue {α:Type} (u:α) (n:Nat):∀(ks:List Nat) (vs:List α),(spread u n ks vs).length=n:=by
 intro ks
 induction ks with
 | nil=>intro vs;simp [spread]
 | cons k ks ih=>intro vs;cases vs<;>simp [spread,ih]
theorem ZGS {α:Type} (u:α) (n:Nat):∀(ks:List Nat) (vs:List α) (i:Nat) (x:α),(spread u n ks vs)[i]? = some x->x=u\/∃j:Nat,ks[j]? = some i/\vs[j]? = some x:=by
 intro ks
 induction ks with
 | nil=>
  intro vs i x h
  simp only [spread,List.getElem?_replicate] at h
  split at h
  ·exact .inl (Option.some.inj h).symm
  ·cases h
 | cons k ks ih=>
  intro vs i x h
  cases vs with
  | nil=>
   simp only [spread,List.getElem?_replicate] at h
   split at h
   ·exact .inl (Option.some.inj h).symm
   ·cases h
  | cons v vs=>
   simp only [spread,List.getElem?_set] at h
   split at h
   ·rename_i hk
    subst hk
    split at h
    ·exact .inr ⟨0,rfl,h⟩
    ·cases h
   ·rcases ih vs i x h with h|⟨j,h1,h2⟩
    ·exact .inl h
    ·exact .inr ⟨j+1,h1,h2⟩
theorem ZGs {α β:Type} (g:α->β) (u:α) (n:Nat):∀(ks:List Nat) (vs:List α),(spread u n ks vs).map g=spread (g u) n ks (vs.map g):=by
 intro ks
 induction ks with
 | nil=>intro vs;simp [spread]
 | cons k ks ih=>intro vs;cases vs<;>simp [spread,List.map_set,ih]
theorem ZJ4 {σ:Sg} {w:World} {xs:List V} {vs:List Value} (h:Zx σ w xs vs):∀keep:List Nat,Zx σ w (keep.map fun i=>xs.getD i .und) (keep.map fun i=>vs.getD i undef):=by
 intro keep
 induction keep with
 | nil=>exact .nil
 | cons i keep ih=>
  simp only [List.map_cons]
  refine Zx.Z0I.2 ⟨?_,ih⟩
  cases hx:xs[i]? with
  | none=>simp only [List.getD,hx,Option.getD_none];exact .und _ .nil
  | some x=>
   obtain⟨v,hv,hr⟩:=h.get hx
   simp only [List.getD,hx,hv,Option.getD_some]
   exact hr
theorem ZNE {E:Env} {B:Nat} {w0:Start} {σ:Sg} {st:St} {a:Act} {w:World} {k:Nat} {fa:List (List Fk)} {fb:List Bf} {keep ids:List Nat} {as:List V} {H2:Heap} (hp:pack fa fb k (keep.map fun i=>st.s.getD i .und) st.H=some (ids,as,H2))
  (h:Rel E B w0 σ st a w):∃σ1,Ext σ w σ1 w/\Rel E B w0 (σ1.ren ids) ⟨spread .und st.s.length keep (Z9C (ids.idxOf ·) as),ZyL H2 ids⟩ a w:=by
 obtain⟨hs,hm,_,σ1,hI1,hE1,hr1⟩:=ZE7 h.inv (ZJ4 h.slots keep) hp
 have hsub:=ZK8 hI1 hs w0 hI1.below hI1.old (fun b hb=>by
  obtain⟨k1,k2,k3,k4⟩:=hI1.kept b hb
  exact⟨k1,k2,fun id _ L hL=>k3 id L hL,k4⟩)
 refine⟨σ1,hE1,hsub,(h.ZdT.ext hE1).bare (fun b c hh=>⟨hh,rfl⟩) (Zcn.refl _),?_,h.calm⟩
 refine ZsZ (by rw [Zue];exact h.slots.length) (fun i x v hx hv=>?_)
 rcases ZGS _ _ _ _ i x hx with rfl|⟨j,h1,h2⟩
 ·exact .und _ .nil
 ·obtain⟨u,hu,hr⟩:=(Zk2 hr1 hm).get h2
  simp only [List.getElem?_map,h1,Option.map_some,List.getD,hv,Option.getD_some,Option.some.injEq] at hu
  subst hu
  exact hr
inductive Ctl where
 | run (c:Code)|nxt|exit (id:Nat)|ret
inductive Fr where
 | seq (c:Code)|blk (id:Nat)|loop (b:Code)
def Z6R:List (List Nat)->List V->List V
 | es::rs,v::vs=>Z18 es v::Z6R rs vs
 | [],vs=>vs
 | _,[]=>[]
def ZdW (rs:List (List Nat)):V->V
 | .tup vs=>.tup (Z6R rs vs)
 | v=>Z18 (rs.headD []) v
inductive Z1y (call:Z24) (E:Env) (f:FuncId) (fn:Func) (k:Nat) (Z:St->V×Heap->Prop):Ctl->List Fr->St->V×Heap->Prop where
 | skip {K st r}:Z1y call E f fn k Z .nxt K st r->Z1y call E f fn k Z (.run .skip) K st r
 | region {id ops K st st' r}:ZIY call E ops (List.range ops.size) st=some st' -> Z1y call E f fn k Z .nxt K st' r->Z1y call E f fn k Z (.run (.region id ops false)) K st r
 | draw {id ops K st st' r}:E.calm f id=true->ZBB call E ops st=some st' -> Z1y call E f fn k Z .nxt K st' r->Z1y call E f fn k Z (.run (.region id ops true)) K st r
 | seq {a b K st r}:Z1y call E f fn k Z (.run a) (.seq b::K) st r->Z1y call E f fn k Z (.run (.seq a b)) K st r
 | cond {c a b t K st r}:ev E st.s c = .lit (.bool t)->Z1y call E f fn k Z (.run (if t then a else b)) K st r->Z1y call E f fn k Z (.run (.cond c a b)) K st r
 | block {id b K st r}:Z1y call E f fn k Z (.run b) (.blk id::K) st r->Z1y call E f fn k Z (.run (.block id b)) K st r
 | loop {b K st r}:Z1y call E f fn k Z (.run b) (.loop b::K) st r->Z1y call E f fn k Z (.run (.loop b)) K st r
 | scope {b K st r}:Z1y call E f fn k Z (.run b) K st r->Z1y call E f fn k Z (.run (.scope b)) K st r
 | label {l K st r}:Z1y call E f fn k Z .nxt K st r->Z1y call E f fn k Z (.run (.label l)) K st r
 | exit {id K st r}:Z1y call E f fn k Z (.exit id) K st r->Z1y call E f fn k Z (.run (.exit id)) K st r
 | ret {K st r}:Z1y call E f fn k Z .ret K st r->Z1y call E f fn k Z (.run .ret) K st r
 | nseq {c K st r}:Z1y call E f fn k Z (.run c) K st r->Z1y call E f fn k Z .nxt (.seq c::K) st r
 | nblk {id K st r}:Z1y call E f fn k Z .nxt K st r->Z1y call E f fn k Z .nxt (.blk id::K) st r
 | ZRI {b K st r}:Z1y call E f fn k Z (.run b) (.loop b::K) st r->Z1y call E f fn k Z .nxt (.loop b::K) st r
 | eseq {id c K st r}:Z1y call E f fn k Z (.exit id) K st r->Z1y call E f fn k Z (.exit id) (.seq c::K) st r
 | ZQR {id b K st r}:Z1y call E f fn k Z (.exit id) K st r->Z1y call E f fn k Z (.exit id) (.loop b::K) st r
 | eblk {id K st r}:Z1y call E f fn k Z .nxt K st r->Z1y call E f fn k Z (.exit id) (.blk id::K) st r
 | ZSd {id i K st r}:id≠i->Z1y call E f fn k Z (.exit id) K st r->Z1y call E f fn k Z (.exit id) (.blk i::K) st r
 | rany {x K st r}:Z1y call E f fn k Z .ret K st r->Z1y call E f fn k Z .ret (x::K) st r
 | finN {st r}:Z st r->Z1y call E f fn k Z .nxt [] st r
 | finR {st r}:Z st r->Z1y call E f fn k Z .ret [] st r
 | tidy {ctl K ids st st' r}:ZRV k ids st st' -> Z1y call E f fn k Z ctl K st' r->Z1y call E f fn k Z ctl K st r
 | ZS7 {ctl K fa fb keep ids as H2 st r}:pack fa fb k (keep.map fun i=>st.s.getD i .und) st.H=some (ids,as,H2)->ids.take k=List.range k->Z1y call E f fn k Z ctl K ⟨spread .und st.s.length keep (Z9C (ids.idxOf ·) as),ZyL H2 ids⟩ r->Z1y call E f fn k Z ctl K st r
def LoopIn (P:Program) (b:Code) (Q:Exit->Act->World->Prop) (a:Act) (w:World):Prop:=
 ∀fr k cs,∃e a' w',Q e a' w' /\ Arrives P (lone (fr.at a (.code b :: .inLoop b::k)) cs w) fr k cs e a' w'
theorem LoopIn.of {P:Program} {b:Code} {Q:Exit->Act->World->Prop} {a:Act} {w:World} (h:b.wp P (Exit.then (LoopIn P b Q) Q) a w):LoopIn P b Q a w:=by
 intro fr k cs
 obtain⟨e,a₁,w₁,hq,harr⟩:=h fr (.inLoop b::k) cs
 cases e with
 | normal=>
  obtain⟨e₂,a₂,w₂,hq₂,harr₂⟩:=hq fr k cs
  exact⟨e₂,a₂,w₂,hq₂,.of_steps (Steps.trans harr (.one step_inLoop)) harr₂⟩
 | exit id=>exact⟨_,a₁,w₁,hq,.pass (x:=.inLoop b) rfl (fun _ _=>.inl (by simp)) harr⟩
 | goto l=>exact⟨_,a₁,w₁,hq,.pass (x:=.inLoop b) rfl (fun _ _=>.inl (by simp)) harr⟩
 | ret=>exact⟨_,a₁,w₁,hq,.pass (x:=.inLoop b) rfl (fun _ _=>.inl (by simp)) harr⟩
 | panic ch=>exact⟨_,a₁,w₁,hq,.pass (x:=.inLoop b) rfl (fun _ _=>.inl (by simp)) harr⟩
 | outgrown=>exact⟨_,a₁,w₁,hq,.pass (x:=.inLoop b) rfl (fun _ _=>.inl (by simp)) harr⟩
theorem LoopIn.wp {P:Program} {b:Code} {Q:Exit->Act->World->Prop} {a:Act} {w:World} (h:LoopIn P b Q a w):(Code.loop b).wp P Q a w:=by
 intro fr k cs
 obtain⟨e,a',w',hq,harr⟩:=h fr k cs
 exact⟨e,a',w',hq,.of_steps (.one step_loop) harr⟩
def QK (P:Program) (Z:Act->World->Prop):List Fr->Exit->Act->World->Prop
 | [],.normal,a,w=>Z a w
 | [],.ret,a,w=>Z a w
 | [],_,_,_=>False
 | .seq c::K,e,a,w=>Exit.then (c.wp P (QK P Z K)) (QK P Z K) e a w
 | .blk id::K,e,a,w=>Exit.inBlock id (QK P Z K) e a w
 | .loop b::K,e,a,w=>Exit.then (LoopIn P b (QK P Z K)) (QK P Z K) e a w
theorem ZwB {P:Program} {Z:Act->World->Prop} {l:Nat} {a:Act} {w:World}:∀K:List Fr,QK P Z K (.goto l) a w->False
 | [],h=>h
 | .seq _::K,h=>ZwB K h
 | .blk _::K,h=>ZwB K h
 | .loop _::K,h=>ZwB K h
def ZQ7 (P:Program) (Z:Act->World->Prop) (K:List Fr) (a:Act) (w:World):Ctl->Prop
 | .run c=>c.wp P (QK P Z K) a w
 | .nxt=>QK P Z K .normal a w
 | .exit id=>QK P Z K (.exit id) a w
 | .ret=>QK P Z K .ret a w
def Zp5 (E:Env) (f:FuncId):Ctl->Bool
 | .run c=>Z4G E f c
 | _=>true
def Zo4 (E:Env) (f:FuncId):List Fr->Bool
 | []=>true
 | .seq c::K=>Z4G E f c&&Zo4 E f K
 | .loop c::K=>Z4G E f c&&Zo4 E f K
 | .blk _::K=>Zo4 E f K
theorem Zw9 {σ w}:∀(rs:List (List Nat)) {xs:List V} {vs:List Value},Zx σ w xs vs->Zx σ w (Z6R rs xs) vs:=by
 intro rs
 induction rs with
 | nil=>intro xs vs h;simpa [Z6R] using h
 | cons r rs ih=>
  intro xs vs h
  cases xs with
  | nil=>simpa [Z6R] using h
  | cons x xs=>
   obtain⟨v,vs',rfl,h1,h2⟩:=h.ZX
   exact Zx.Z0I.2 ⟨Z4N _ h1,ih h2⟩
theorem Zx2 {σ w x v} (rs:List (List Nat)) (h:Zx σ w [x] [v]):Zx σ w [ZdW rs x] [v]:=by
 unfold ZdW
 split
 ·cases h with
  | tup h1 _=>exact .tup (Zw9 rs h1) .nil
 ·exact Z4N _ h
theorem ZsN:∀(rs:List (List Nat)) (xs:List V),ZG (Z6R rs xs)=ZG xs:=by
 intro rs
 induction rs with
 | nil=>intro xs;simp [Z6R]
 | cons r rs ih=>intro xs;cases xs<;>simp [Z6R,ZG,Z3Z,ih]
theorem Zkf (rs:List (List Nat)) (x:V) (h:Z03 x=true):Z03 (ZdW rs x)=true:=by
 unfold ZdW
 split
 ·simpa [Z03,ZsN] using h
 ·rw [Z3Z];exact h
def Zp (E:Env) (fn:Func) (st:St) (r:V×Heap):Prop:=∃r0 r1,Z45 E st.H st.s fn.results.toList=some r0/\ZDF st.H r0=some r1/\r=(ZdW (fn.resultTypes.toList.map E.rows) r1,[])
def Zh (E:Env) (fn:Func) (fa:List (List Fk)) (fb:List Bf) (k:Nat) (st:St) (r:V×Heap):Prop:=∃r0,Z45 E st.H st.s fn.results.toList=some r0/\ZNo fa fb k r0 st.H=some r
def Fin (P:Program) (fn:Func) (B:Nat) (w0:Start) (r:V×Heap) (a:Act) (w:World):Prop:=
 a.defers=[]/\∃u fz',(results fn a.tmps).run P w = .ok u w/\Below B w0.w w/\(∀b c,w0.fz b c->fz' b c)/\(∀b c,fz' b c->b<B->w0.fz b c)/\(∀b c,fz' b c->∃u,w.cell? ⟨b,c,none⟩=some u)/\Zx (bare fz') w [r.1] [u]/\Z03 r.1=true
def FinH (P:Program) (fn:Func) (B:Nat) (w0:Start) (σ0:Sg) (ws:World) (r:V×Heap) (a:Act) (w:World):Prop:=
 a.defers=[]/\∃u σ',(results fn a.tmps).run P w = .ok u w/\Inv B w0 σ' r.2 w/\Ext σ0 ws σ' w/\Zx σ' w [r.1] [u]
structure ZMC (k:Nat) (σ:Sg) (w:World) (σ' : Sg) (w' : World):Prop where
 box:∀id L,id<k->σ.box id=some L->∃L',σ'.box id=some L' /\ L'.esz=L.esz/\(L' = L\/L.tot<L'.tot)
 fz:∀b c,σ.fz b c->σ'.fz b c/\w'.cell? ⟨b,c,none⟩=w.cell? ⟨b,c,none⟩
 mp:Zcn w w'
theorem Ext.k {k:Nat} {σ w σ' w'} (h:Ext σ w σ' w'):ZMC k σ w σ' w' :=⟨fun id L _ hL=>h.box id L hL,h.fz,h.mp⟩
theorem ZMC.trans {k:Nat} {σ w σ' w' σ'' w''} (h:ZMC k σ w σ' w') (g:Ext σ' w' σ'' w''):ZMC k σ w σ'' w'' :=by
 refine⟨fun id L hk hL=>?_,fun b c hc=>?_,h.mp.trans g.mp⟩
 ·obtain⟨L',h1,h2,h3⟩:=h.box id L hk hL
  obtain⟨L'',k1,k2,k3⟩:=g.box id L' h1
  refine⟨L'',k1,k2.trans h2,?_⟩
  rcases h3 with rfl|h3
  ·exact k3
  ·rcases k3 with rfl|k3
   ·exact .inr h3
   ·exact .inr (Nat.lt_trans h3 k3)
 ·obtain⟨a1,a2⟩:=h.fz b c hc
  obtain⟨b1,b2⟩:=g.fz b c a1
  exact⟨b1,b2.trans a2⟩
theorem ZGL {ids:List Nat} {k j:Nat} (h:ids.take k=List.range k) (hj:j<k):ids[j]? = some j:=by
 have:(ids.take k)[j]? = some j:=by rw [h];simp [hj]
 rw [List.getElem?_take] at this
 simpa [hj] using this
theorem ZMC.ren {k:Nat} {σ w σ' w'} {ids:List Nat} (h:ZMC k σ w σ' w') (hp:ids.take k=List.range k):ZMC k σ w (σ'.ren ids) w' :=by
 refine⟨fun id L hk hL=>?_,h.fz,h.mp⟩
 obtain⟨L',h1,h2⟩:=h.box id L hk hL
 exact⟨L',by simp only [Sg.ren,ZGL hp hk,Option.bind_some];exact h1,h2⟩
section
variable {P:Program} {E:Env} {B:Nat} {w0:Start} {call:Z24} {f:FuncId} {fn:Func}
theorem ZQN (hE:Z12 E) (hP:E.P=P) {σ:Sg} {st:St} {a:Act} {w:World} {r:V×Heap} (h:Rel E B w0 σ st a w) (hfz:∀b c,w0.fz b c->σ.fz b c) (hz:Zp E fn st r):Fin P fn B w0 r a w:=by
 obtain⟨r0,r1,hr,hf,rfl⟩:=hz
 obtain⟨u,hu,hur⟩:=ZfJ (P:=P) hE hP h.inv h.slots hr
 obtain⟨hI,hEx⟩:=h.inv.freeze (ZMD r0)
 have hr2:=Zpk h.inv hur hf (ZMD r0) (fun i hi=>hi)
 have hn:=ZmI h.inv hur hf
 refine⟨h.calm,u,(σ.freeze st.H (ZMD r0)).fz,hu,hI.below,fun b c hh=>(hEx.fz b c (hfz b c hh)).1,fun b c hh hlt=>hI.old b c hh hlt,hI.cells,?_,Zkf _ _ hn⟩
 exact Zx.bare (Zx2 _ hr2) (fun b c hh=>⟨hh,rfl⟩) (Zcn.refl _) (by simp [ZG,Zkf _ _ hn])
theorem ZQl (hE:Z12 E) (hP:E.P=P) {fa:List (List Fk)} {fb:List Bf} {k:Nat} {σ0:Sg} {ws:World} (h0:∀id L,σ0.box id=some L->id<k) {σ:Sg} {st:St} {a:Act} {w:World} {r:V×Heap} (h:Rel E B w0 σ st a w) (hx:ZMC k σ0 ws σ w)
  (hz:Zh E fn fa fb k st r):FinH P fn B w0 σ0 ws r a w:=by
 obtain⟨r0,hr,he⟩:=hz
 obtain⟨u,hu,hur⟩:=ZfJ (P:=P) hE hP h.inv h.slots hr
 have key:∀{args as:List V} {vs:List Value} {ids:List Nat} {H2:Heap},Zx σ w args vs->pack fa fb k args st.H=some (ids,as,H2)->ids.take k=List.range k ->
   ∃σ',Inv B w0 σ' (ZyL H2 ids) w/\Ext σ0 ws σ' w/\Zx σ' w (Z9C (ids.idxOf ·) as) vs:=by
  intro args as vs ids H2 hra hp hk
  obtain⟨hs,hm,_,σ1,hI1,hE1,hr1⟩:=ZE7 h.inv hra hp
  have hsub:=ZK8 hI1 hs w0 hI1.below hI1.old (fun b hb=>by
   obtain⟨k1,k2,k3,k4⟩:=hI1.kept b hb
   exact⟨k1,k2,fun id _ L hL=>k3 id L hL,k4⟩)
  refine⟨_,hsub,?_,Zk2 hr1 hm⟩
  have:=(hx.trans hE1).ren hk
  exact⟨fun id L hL=>this.box id L (h0 id L hL) hL,this.fz,this.mp⟩
 refine⟨h.calm,u,?_⟩
 unfold ZNo at he
 split at he
 ·rename_i vs
  split at he
  ·rename_i ids as H2 hp
   split at he
   ·rename_i hk
    simp only [Option.some.injEq] at he
    subst he
    cases hur with
    | tup h1 _=>
     obtain⟨σ',i1,i2,i3⟩:=key h1 hp hk
     exact⟨σ',hu,i1,i2,.tup i3 .nil⟩
   ·cases he
  ·cases he
 ·split at he
  ·rename_i ids x H2 hp
   split at he
   ·rename_i hk
    simp only [Option.some.injEq] at he
    subst he
    obtain⟨σ',i1,i2,i3⟩:=key hur hp hk
    exact⟨σ',hu,i1,i2,i3⟩
   ·cases he
  ·cases he
theorem ZJs (hE:Z12 E) (hP:E.P=P) (hcall:Z9R P E B w0 call) (hpure:ZaO E call) {k:Nat} {Z:St->V×Heap->Prop} {F:V×Heap->Act->World->Prop} {σ0:Sg} {ws:World}
  (hZ:∀st r σ a w,Z st r->Rel E B w0 σ st a w->ZMC k σ0 ws σ w->F r a w) {ctl:Ctl} {K:List Fr} {st:St} {r:V×Heap} (h:Z1y call E f fn k Z ctl K st r) :
  Zp5 E f ctl=true->Zo4 E f K=true->∀(σ:Sg) (a:Act) (w:World),Rel E B w0 σ st a w->ZMC k σ0 ws σ w->ZQ7 P (F r) K a w ctl:=by
 induction h with
 | skip h ih=>intro hc hk σ a w hr hf;exact wp_skip (ih rfl hk σ a w hr hf)
 | region hs h ih=>
  intro hc hk σ a w hr hf
  exact wp_region (ZJu hE hP hcall _ _ σ a w hr hs (fun a' w' σ' hr' he' =>ih rfl hk σ' a' w' hr' (hf.trans he')))
 | draw hcalm hs h ih=>
  intro hc hk σ a w hr hf
  refine ZLx hE hP (by rw [<- hP];exact hE.mix) hcall hpure ?_ hr hs (fun a' w' σ' hr' he' =>ih rfl hk σ' a' w' hr' (hf.trans he'))
  simpa [Zp5,Z4G,hcalm] using hc
 | seq h ih=>
  intro hc hk σ a w hr hf
  simp only [Zp5,Z4G,Bool.and_eq_true] at hc
  exact wp_seq (ih hc.1 (by simp [Zo4,hc.2,hk]) σ a w hr hf)
 | cond ht h ih=>
  rename_i c x y t K st r
  intro hc hk σ a w hr hf
  simp only [Zp5,Z4G,Bool.and_eq_true] at hc
  have hv:=Z0P (a:=a) hr.ZdT hr.slots c
  rw [ht] at hv
  have hb:a.eval c = .bool t:=by generalize a.eval c=v at hv;cases hv;rfl
  refine wp_cond hb ?_
  refine ih ?_ hk σ a w hr hf
  cases t
  ·exact hc.2
  ·exact hc.1
 | block h ih=>
  intro hc hk σ a w hr hf
  exact wp_block (ih hc hk σ a w hr hf)
 | loop h ih=>
  intro hc hk σ a w hr hf
  simp only [Zp5,Z4G] at hc
  exact(LoopIn.of (ih hc (by simp [Zo4,hc,hk]) σ a w hr hf)).wp
 | scope h ih=>
  intro hc hk σ a w hr hf
  have h1:=ih hc hk σ a w hr hf
  refine wp_scope_straight (wp_mono h1 fun e a' w' hq=>?_)
  cases e with
  | goto l=>exact(ZwB _ hq).elim
  | _=>exact hq
 | label h ih=>intro hc hk σ a w hr hf;exact wp_label (ih rfl hk σ a w hr hf)
 | exit h ih=>intro hc hk σ a w hr hf;exact wp_exit (ih rfl hk σ a w hr hf)
 | ret h ih=>intro hc hk σ a w hr hf;exact wp_ret (ih rfl hk σ a w hr hf)
 | nseq h ih=>
  intro hc hk σ a w hr hf
  simp only [Zo4,Bool.and_eq_true] at hk
  exact ih hk.1 hk.2 σ a w hr hf
 | nblk h ih=>intro hc hk σ a w hr hf;exact ih rfl hk σ a w hr hf
 | ZRI h ih=>
  intro hc hk σ a w hr hf
  have hk' :=hk
  simp only [Zo4,Bool.and_eq_true] at hk'
  exact LoopIn.of (ih hk'.1 hk σ a w hr hf)
 | eseq h ih=>
  intro hc hk σ a w hr hf
  simp only [Zo4,Bool.and_eq_true] at hk
  exact ih rfl hk.2 σ a w hr hf
 | ZQR h ih=>
  intro hc hk σ a w hr hf
  simp only [Zo4,Bool.and_eq_true] at hk
  exact ih rfl hk.2 σ a w hr hf
 | eblk h ih=>
  intro hc hk σ a w hr hf
  have:=ih rfl hk σ a w hr hf
  simp only [ZQ7,QK,Exit.inBlock,if_true]
  exact this
 | ZSd hne h ih=>
  intro hc hk σ a w hr hf
  have:=ih rfl hk σ a w hr hf
  simp only [ZQ7,QK,Exit.inBlock,hne,if_false]
  exact this
 | rany h ih=>
  rename_i x K st r
  intro hc hk σ a w hr hf
  have:Zo4 E f K=true:=by cases x<;>simp_all [Zo4]
  have:=ih rfl this σ a w hr hf
  cases x<;>exact this
 | finN hz=>intro hc hk σ a w hr hf;exact hZ _ _ σ a w hz hr hf
 | finR hz=>intro hc hk σ a w hr hf;exact hZ _ _ σ a w hz hr hf
 | tidy ht h ih=>intro hc hk σ a w hr hf;exact ih hc hk _ a w (ZQv ht hr) (hf.ren ht.pre)
 | ZS7 hp hpre h ih=>
  intro hc hk σ a w hr hf
  obtain⟨σ1,h1,h2⟩:=ZNE hp hr
  exact ih hc hk _ a w h2 ((hf.trans h1).ren hpre)
end
section
variable {U:Z5V}
def ZtH:List Bool->Bool
 | []=>true
 | [b]=>b
 | b::bs=>b&&ZtH bs
theorem ZtC:∀{l:List Bool},ZtH l=true->∀b∈l,b=true:=by
 intro l
 induction l with
 | nil=>intro _ b hb;simp at hb
 | cons x xs ih=>
  intro h b hb
  cases xs with
  | nil=>simp only [ZtH] at h;simp only [List.mem_singleton] at hb;rw [hb];exact h
  | cons y ys=>
   simp only [ZtH,Bool.and_eq_true] at h
   rcases List.mem_cons.1 hb with hb|hb
   ·rw [hb];exact h.1
   ·exact ih h.2 b hb
def resT (E:Env) (H:ZP U) (s:List (SV U.Ty)):ResultVar->Tr U (SV U.Ty)
 | .tmp t=>.leaf (s.getD t .und)
 | .cell a t=>loadT E H t (s.getD a .und)
def ZHK (E:Env) (H:ZP U) (s:List (SV U.Ty)):List ResultVar->Tr U (List (SV U.Ty))
 | []=>.leaf []
 | r::rs=>(resT E H s r).andThen fun v=>(ZHK E H s rs).andThen fun vs=>.leaf (v::vs)
def Zp6:List Nat->List (SV U.Ty)->Option (List (SV U.Ty))
 | [],[]=>some []
 | t::ts,w::ws=>match U.ZwQ t w,Zp6 ts ws with|some a,some r=>some (U.encS t a::r)|_,_=>none
 | _,_=>none
def ZPl (E:Env) (fn:Func) (st:SSt U):Tr U (SV U.Ty):=
 (ZHK E st.H st.s fn.results.toList).andThen fun vs=>
  match vs,fn.resultTypes.toList with
  | [v],[t]=>(ZP0 st.H v).andThen fun w=>(match U.ZwQ t w with|some a=>.leaf (U.encS t a)|none=>.fail)
  | vs,ts=>.when (vs.length≠1) ((Zcl st.H vs).andThen fun ws=>(match Zp6 ts ws with|some es=>.leaf (.tup es)|none=>.fail))
theorem ZFe {E:Env} (hU:Z0L U E) {st:SSt U}:∀{rs:List ResultVar} {vs:List (SV U.Ty)},(ZHK E st.H st.s rs).ZA vs->rs.mapM (resD E (Z44 U st).H (Z44 U st).s)=some (Z02 U vs):=by
 intro rs
 induction rs with
 | nil=>intro vs h;simp only [ZHK,Tr.ZA] at h;subst h;rfl
 | cons r rs ih=>
  intro vs h
  simp only [ZHK,ZB,Tr.ZA] at h
  obtain⟨v,h1,ws,h2,rfl⟩:=h
  have hr:resD E (Z44 U st).H (Z44 U st).s r=some (toV U v):=by
   cases r with
   | tmp t=>
    simp only [resT,Tr.ZA] at h1
    subst h1
    exact congrArg some (ZeD st.s t)
   | cell a t=>
    simp only [resD]
    rw [show (Z44 U st).s.getD a .und=toV U (st.s.getD a .und) from ZeD st.s a]
    exact ZFi hU h1
  rw [List.mapM_cons,hr,ih h2]
  rfl
theorem ZK1 {E:Env} (hU:Z0L U E):∀{ts:List Nat} {ws es:List (SV U.Ty)},Zp6 ts ws=some es->Z6R (ts.map E.rows) (Z02 U ws)=Z02 U es:=by
 intro ts
 induction ts with
 | nil=>
  intro ws es h
  cases ws with
  | nil=>simp only [Zp6,Option.some.injEq] at h;subst h;rfl
  | cons=>simp [Zp6] at h
 | cons t ts ih=>
  intro ws es h
  cases ws with
  | nil=>simp [Zp6] at h
  | cons w ws=>
   simp only [Zp6] at h
   split at h
   ·rename_i a r h1 h2
    simp only [Option.some.injEq] at h
    subst h
    simp only [List.map_cons,Z02,Z6R,hU.dec _ _ _ h1,hU.encS,ih h2]
   ·cases h
theorem ZQh {H:Heap} {x y:V} (h:frz H x=some y):∀vs,y≠.tup vs:=by
 intro vs hy
 subst hy
 unfold frz at h
 split at h
 ·rename_i cs
  cases hl:ZB7 H cs<;>simp [hl] at h
 ·unfold ZtK at h
  split at h<;>(try (cases h;done))<;>(try (split at h<;>(try (split at h))<;>cases h))
theorem ZNx {E:Env} (hU:Z0L U E) {fn:Func} {st:SSt U} {v:SV U.Ty} (h:(ZPl E fn st).ZA v) :
  ∃r0 r1,Z45 E (Z44 U st).H (Z44 U st).s fn.results.toList=some r0/\ZDF (Z44 U st).H r0=some r1/\ZdW (fn.resultTypes.toList.map E.rows) r1=toV U v:=by
 unfold ZPl at h
 simp only [ZB] at h
 obtain⟨vs,h1,h⟩:=h
 have hm:=ZFe hU h1
 split at h
 ·rename_i v0 t hts
  simp only [ZB] at h
  obtain⟨w,h2,h⟩:=h
  split at h
  ·rename_i a ha
   simp only [Tr.ZA] at h
   subst h
   have hf:frz (Z44 U st).H (toV U v0)=some (toV U w):=Zul h2
   refine⟨toV U v0,toV U w,by simp only [Z45,hm,Z02],?_,?_⟩
   ·unfold ZDF
    split
    ·rename_i us hus
     rw [hus] at hf
     simp [frz,ZtK] at hf
    ·exact hf
   ·rw [hts]
    unfold ZdW
    split
    ·rename_i us hus
     exact absurd hus (ZQh hf us)
    ·simp only [List.map_cons,List.headD_cons,hU.dec _ _ _ ha,hU.encS]
  ·simp [Tr.ZA] at h
 ·rename_i va vs ts hneg
  simp only [Z09,ZB] at h
  obtain⟨hl,ws,h2,h⟩:=h
  split at h
  ·rename_i es hes
   simp only [Tr.ZA] at h
   subst h
   refine⟨.tup (Z02 U va),.tup (Z02 U ws),?_,?_,?_⟩
   ·simp only [Z45,hm]
    split
    ·rename_i x hx
     simp only [Option.some.injEq] at hx
     exfalso
     apply hl
     have:=congrArg List.length hx
     rw [Z0M] at this
     simpa using this
    ·rename_i hx
     simp only [Option.some.injEq] at hx
     rw [<- hx]
    ·rename_i hx;cases hx
   ·simp only [ZDF,Z44,ZlT h2,Option.map_some]
   ·simp only [ZdW,ZK1 hU hes,toV]
  ·simp [Tr.ZA] at h
def ZJ6 (E:Env) (fn:Func) (st:SSt U):Tr U (SV U.Ty×ZP U):=(ZPl E fn st).andThen fun v=>.leaf (v,[])
def ZPt (E:Env) (fn:Func) (fa:List (List Fk)) (fb:List Bf) (k:Nat) (st:SSt U):Tr U (SV U.Ty×ZP U):=
 (ZHK E st.H st.s fn.results.toList).andThen fun vs=>
  match vs with
  | [.tup _]=>.fail
  | [.raw _]=>.fail
  | [v]=>(ZIO fa fb k [v] st.H).andThen fun r=>(match r.2.1 with
   | [a]=>.when (r.1.take k=List.range k) (.leaf (Z7w (r.1.idxOf ·) a,ZFS r.2.2 r.1))
   | _=>.fail)
  | vs=>.when (vs.length≠1) ((ZIO fa fb k vs st.H).andThen fun r=>.when (r.1.take k=List.range k) (.leaf (.tup (Zem (r.1.idxOf ·) r.2.1),ZFS r.2.2 r.1)))
theorem ZNG {E:Env} (hU:Z0L U E) {fn:Func} {st:SSt U} {r:SV U.Ty×ZP U} (h:(ZJ6 E fn st).ZA r):Zp E fn (Z44 U st) (toV U r.1,toH U r.2):=by
 simp only [ZJ6,ZB,Tr.ZA] at h
 obtain⟨v,h1,rfl⟩:=h
 obtain⟨r0,r1,e1,e2,e3⟩:=ZNx hU h1
 exact⟨r0,r1,e1,e2,by rw [e3];rfl⟩
theorem ZO4 {E:Env} (hU:Z0L U E) {fn:Func} {fa:List (List Fk)} {fb:List Bf} {k:Nat} {st:SSt U} {r:SV U.Ty×ZP U} (h:(ZPt E fn fa fb k st).ZA r):Zh E fn fa fb k (Z44 U st) (toV U r.1,toH U r.2):=by
 simp only [ZPt,ZB] at h
 obtain⟨vs,h1,h⟩:=h
 have hm:=ZFe hU h1
 split at h
 ·simp [Tr.ZA] at h
 ·simp [Tr.ZA] at h
 ·rename_i v hn1 hn2
  simp only [ZB] at h
  obtain⟨p,hp,h⟩:=h
  split at h
  ·rename_i a ha
   simp only [Z09,Tr.ZA] at h
   obtain⟨hk,rfl⟩:=h
   have hp' :=Zoz hp
   rw [ha] at hp'
   refine⟨toV U v,by simp only [Z45,hm,Z02],?_⟩
   have hnt:∀cs,toV U v≠.tup cs:=by
    intro cs hcs
    cases v with
    | tup vs=>exact hn1 vs rfl
    | raw x=>exact hn2 x rfl
    | _=>simp [toV] at hcs
   unfold ZNo
   split
   ·rename_i cs hcs;exact absurd hcs (hnt cs)
   ·simp only [Z02] at hp'
    simp only [Z44,hp']
    rw [if_pos hk,Zop,ZjR]
  ·simp [Tr.ZA] at h
 ·rename_i hneg
  simp only [Z09,ZB,Tr.ZA] at h
  obtain⟨hl,p,hp,hk,rfl⟩:=h
  have hp' :=Zoz hp
  refine⟨.tup (Z02 U vs),?_,?_⟩
  ·simp only [Z45,hm]
   split
   ·rename_i x hx
    simp only [Option.some.injEq] at hx
    exfalso
    apply hl
    have:=congrArg List.length hx
    rw [Z0M] at this
    simpa using this
   ·rename_i hx
    simp only [Option.some.injEq] at hx
    rw [<- hx]
   ·rename_i hx;cases hx
  ·simp only [ZNo,Z44,hp']
   rw [if_pos hk,ZjR]
   simp only [toV,Z5P]
inductive ZQC (U:Z5V) where
 | done (v:SV U.Ty×ZP U)
 | jump (c:Code) (K:List Fr) (st:SSt U)
def ZNB (call:Z24) (E:Env) (f:FuncId) (fn:Func) (kk:Nat) (Z:St->V×Heap->Prop):ZQC U->V×Heap->Prop
 | .done s,v=>v=(toV U s.1,toH U s.2)
 | .jump c K st,v=>Z1y call E f fn kk Z (.run c) K (Z44 U st) v
end
inductive Pc where
 | v (t n:Nat) (agg:Bool)
 | own (e j:Nat)
 | ptr (j:Nat)
 | fn (f:FuncId) (a b:List Nat)
 | no
 | nul (ptr:Bool)
inductive Sp where
 | one (c:Pc)
 | agg (cs:List Pc)
inductive Pb where
 | var (e m:Nat) (p:Sp)
 | row (t:Nat) (fresh:Bool)
structure Shape where
 args:List Sp
 boxes:List Pb
abbrev Sp.cells:Sp->List Pc
 | .one c=>[c]
 | .agg cs=>cs
section
variable (U:Z5V)
@[reducible] def PX:List Pc->Type
 | []=>Unit
 | .v t _ _::ps=>U.Ty t×PX ps
 | _::ps=>PX ps
@[reducible] def AX:List Sp->Type
 | []=>Unit
 | p::ps=>PX U p.cells×AX ps
@[reducible] def BX:List Pb->Type
 | []=>Unit
 | .var _ _ p::bs=>PX U p.cells×BX bs
 | .row t _::bs=>List (U.Ty t)×BX bs
@[reducible] def Shape.X (s:Shape):Type:=AX U s.args×BX U s.boxes
variable {U}
def Zgr:(bs:List Pb)->BX U bs->List Nat
 | [],_=>[]
 | .var _ _ _::bs,x=>1::Zgr bs x.2
 | .row _ _::bs,x=>x.1.length::Zgr bs x.2
def ZRr (j:Nat):SV U.Ty:=.ptr j 0 0 1
def nulS:Bool->SV U.Ty
 | true=>.lit (.pointer none)
 | false=>.lit .nilFunc
def ZQf:Bool->SV U.Ty->Bool
 | true,.lit (.pointer none)=>true
 | false,.lit .nilFunc=>true
 | _,_=>false
theorem ZMJ {b:Bool} {c:SV U.Ty} (h:ZQf b c=true):c=nulS b:=by
 unfold ZQf at h
 split at h<;>first|rfl|cases h
def ZcS (ls:List Nat):(ps:List Pc)->PX U ps->List (SV U.Ty)
 | [],_=>[]
 | .v t _ _::ps,x=>cellsS (U.encS t x.1)++ZcS ls ps x.2
 | .own _ j::ps,x=>.all j (ls.getD j 0)::ZcS ls ps x
 | .ptr j::ps,x=>ZRr j::ZcS ls ps x
 | .fn f a b::ps,x=>.fn f (a.map ZRr) (b.map ZRr)::ZcS ls ps x
 | .no::ps,x=>.no::ZcS ls ps x
 | .nul b::ps,x=>nulS b::ZcS ls ps x
def ZdH (ls:List Nat):(p:Sp)->PX U p.cells->SV U.Ty
 | .one c,x=>(ZcS ls [c] x).headD .und
 | .agg cs,x=>.agg (ZcS ls cs x)
def ZBY (ls:List Nat):(ps:List Sp)->AX U ps->List (SV U.Ty)
 | [],_=>[]
 | p::ps,x=>ZdH ls p x.1::ZBY ls ps x.2
def Zvq (ls:List Nat):(bs:List Pb)->BX U bs->ZP U
 | [],_=>[]
 | .var e m p::bs,x=>.var e m (ZdH ls p x.1)::Zvq ls bs x.2
 | .row t fresh::bs,x=>.row t x.1 (if fresh then none else some x.1.length)::Zvq ls bs x.2
def Shape.enc (s:Shape) (x:s.X U):List (SV U.Ty)×ZP U:=(ZBY (Zgr s.boxes x.2) s.args x.1,Zvq (Zgr s.boxes x.2) s.boxes x.2)
def ZkJ:SV U.Ty->Bool
 | .nil _ | .raw _ | .agg _ | .tup _ | .mps _=>false
 | _=>true
def Zr3:List Nat->List (SV U.Ty)->Bool
 | [],[]=>true
 | j::js,.ptr i a b c::xs=>decide (i=j/\a=0/\b=0/\c=1)&&Zr3 js xs
 | _,_=>false
def ZFU (H:ZP U):List Nat:=H.map fun b=>match b with | .row _ xs _=>xs.length|_=>1
def Zow (ls:List Nat):(ps:List Pc)->List (SV U.Ty)->Option (PX U ps×List Bool)
 | [],cs=>if cs.isEmpty then some ((),[]) else none
 | .v t n true::ps,cs=>if (cs.take n).length=n/\(cs.take n).all ZkJ=true then
   (match U.ZwQ t (.agg (cs.take n)),Zow ls ps (cs.drop n) with
    | some a,some r=>some ((a,r.1),r.2)
    | _,_=>none) else none
 | .v t _ false::ps,c::cs=>if ZkJ c then
   (match U.ZwQ t c,Zow ls ps cs with
    | some a,some r=>some ((a,r.1),r.2)
    | _,_=>none) else none
 | .own _ j::ps,.all i n::cs=>if i=j then (Zow ls ps cs).map fun r=>(r.1,(ls.getD j 0==n)::r.2) else none
 | .ptr j::ps,.ptr i a b c::cs=>if i=j/\a=0/\b=0/\c=1 then Zow ls ps cs else none
 | .fn f a b::ps,.fn g a' b' :: cs=>if g=f/\Zr3 a a' = true/\Zr3 b b' = true then Zow ls ps cs else none
 | .no::ps,.no::cs=>Zow ls ps cs
 | .nul b::ps,c::cs=>if ZQf b c=true then Zow ls ps cs else none
 | _::_,_=>none
def ZNf (ls:List Nat):(p:Sp)->SV U.Ty->Option (PX U p.cells×List Bool)
 | .one c,x=>Zow ls [c] [x]
 | .agg cs,.agg xs=>Zow ls cs xs
 | _,_=>none
def ZQI (ls:List Nat):(ps:List Sp)->List (SV U.Ty)->Option (AX U ps×List Bool)
 | [],[]=>some ((),[])
 | p::ps,x::xs=>(match ZNf ls p x,ZQI ls ps xs with
  | some a,some r=>some ((a.1,r.1),a.2++r.2)
  | _,_=>none)
 | _,_=>none
def ZOf (ls:List Nat):(bs:List Pb)->ZP U->Option (BX U bs×List Bool)
 | [],[]=>some ((),[])
 | .var e m p::bs,.var e' m' x::H=>if e' = e/\m' = m then
   (match ZNf ls p x,ZOf ls bs H with
    | some a,some r=>some ((a.1,r.1),a.2++r.2)
    | _,_=>none) else none
 | .row t fresh::bs,.row t' xs fl::H=>if h:t' = t then
   (match fresh,fl,ZOf ls bs H with
    | true,none,some r=>some ((h▸xs,r.1),r.2)
    | false,some n,some r=>some ((h▸xs,r.1),(n==xs.length)::r.2)
    | _,_,_=>none) else none
 | _,_=>none
def Shape.dec (s:Shape) (as:List (SV U.Ty)) (H:ZP U):Option (s.X U×List Bool):=
 match ZQI (ZFU H) s.args as,ZOf (ZFU H) s.boxes H with
 | some a,some b=>some ((a.1,b.1),a.2++b.2)
 | _,_=>none
theorem Zjl {x:SV U.Ty} (h:ZkJ x=true) (e:Nat):Z2d e (toV U x)=toV U x:=by
 cases x<;>simp_all [ZkJ,toV,Z2d]
theorem ZAk {x:SV U.Ty} (h:ZkJ x=true):(toV U x).cells=[toV U x]:=by
 cases x<;>first|rfl|(simp [ZkJ] at h)
theorem ZGe {x:SV U.Ty} (h:ZkJ x=true):∀cs,toV U x≠.agg cs:=by
 intro cs hc
 cases x<;>first|(cases hc;done)|(simp [ZkJ] at h)
theorem ZyG:∀{xs:List (SV U.Ty)},xs.all ZkJ=true->∀es,Z1S es (Z02 U xs)=Z02 U xs:=by
 intro xs
 induction xs with
 | nil=>intro _ es;cases es<;>rfl
 | cons x xs ih=>
  intro h es
  simp only [List.all_cons,Bool.and_eq_true] at h
  cases es with
  | nil=>rfl
  | cons e es=>simp only [Z02,Z1S,Zjl h.1,ih h.2]
theorem Z3P (xs ys:List (SV U.Ty)):Z02 U (xs++ys)=Z02 U xs++Z02 U ys:=by simp [Z0X]
theorem Zzo:∀{js:List Nat} {xs:List (SV U.Ty)},Zr3 js xs=true->xs=js.map ZRr:=by
 intro js
 induction js with
 | nil=>intro xs h;cases xs with
  | nil=>rfl
  | cons=>simp [Zr3] at h
 | cons j js ih=>
  intro xs h
  cases xs with
  | nil=>simp [Zr3] at h
  | cons x xs=>
   cases x<;>simp [Zr3] at h
   obtain⟨⟨rfl,rfl,rfl,rfl⟩,h2⟩:=h
   rw [ih h2]
   rfl
theorem ZKp {E:Env} (hU:Z0L U E) (ls:List Nat):∀(ps:List Pc) {cs:List (SV U.Ty)} {r:PX U ps×List Bool},Zow ls ps cs=some r->(∀b∈r.2,b=true)->Z02 U cs=Z02 U (ZcS ls ps r.1):=by
 intro ps
 induction ps with
 | nil=>
  intro cs r h _
  simp only [Zow] at h
  split at h
  ·rename_i hc;cases cs with
   | nil=>rfl
   | cons=>simp at hc
  ·cases h
 | cons p ps ih=>
  intro cs r h hb
  cases p with
  | v t n ag=>
   cases ag with
   | true=>
    simp only [Zow] at h
    split at h
    ·rename_i hc
     split at h
     ·rename_i a r' h1 h2
      simp only [Option.some.injEq] at h
      subst h
      have e:=hU.dec t _ a h1
      simp only [toV,Z18] at e
      rw [ZyG hc.2] at e
      have ec:=hU.cells t a
      rw [<- e] at ec
      simp only [V.cells] at ec
      simp only [ZcS,Z3P,<- ec,<- ih h2 hb]
      rw [<- Z3P,List.take_append_drop]
     ·cases h
    ·cases h
   | false=>
    cases cs with
    | nil=>simp [Zow] at h
    | cons c cs=>
     simp only [Zow] at h
     split at h
     ·rename_i hc
      split at h
      ·rename_i a r' h1 h2
       simp only [Option.some.injEq] at h
       subst h
       have e:=hU.dec t _ a h1
       have hr:∀es,Z18 es (toV U c)=toV U c:=by
        intro es
        unfold Z18
        split
        ·rename_i cs' hcs
         exact absurd hcs (ZGe hc cs')
        ·exact Zjl hc _
       rw [hr] at e
       have ec:=hU.cells t a
       rw [<- e] at ec
       rw [ZAk hc] at ec
       simp only [ZcS,Z3P,<- ec,<- ih h2 hb]
       rfl
      ·cases h
     ·cases h
  | own e j=>
   cases cs with
   | nil=>simp [Zow] at h
   | cons c cs=>
    cases c<;>simp only [Zow] at h<;>try (cases h;done)
    split at h
    ·rename_i hij
     subst hij
     simp only [Option.map_eq_some_iff] at h
     obtain⟨r',h2,rfl⟩:=h
     have hn:=hb _ (List.mem_cons_self ..)
     simp only [beq_iff_eq] at hn
     simp only [ZcS,Z02,toV,hn,ih h2 (fun b hh=>hb b (by simp [hh]))]
    ·cases h
  | ptr j=>
   cases cs with
   | nil=>simp [Zow] at h
   | cons c cs=>
    cases c<;>simp only [Zow] at h<;>try (cases h;done)
    split at h
    ·rename_i hij
     obtain⟨rfl,rfl,rfl,rfl⟩:=hij
     simp only [ZcS,Z02,ZRr,ih h hb]
    ·cases h
  | fn f a b=>
   cases cs with
   | nil=>simp [Zow] at h
   | cons c cs=>
    cases c<;>simp only [Zow] at h<;>try (cases h;done)
    split at h
    ·rename_i hij
     obtain⟨rfl,h1,h2⟩:=hij
     rw [Zzo h1,Zzo h2]
     simp only [ZcS,Z02,ih h hb]
    ·cases h
  | no=>
   cases cs with
   | nil=>simp [Zow] at h
   | cons c cs=>
    cases c<;>simp only [Zow] at h<;>try (cases h;done)
    simp only [ZcS,Z02,ih h hb]
  | nul b=>
   cases cs with
   | nil=>simp [Zow] at h
   | cons c cs=>
    simp only [Zow] at h
    split at h
    ·rename_i hn
     rw [ZMJ hn]
     simp only [ZcS,Z02,ih h hb]
    ·cases h
theorem ZFk {E:Env} (hU:Z0L U E) (ls:List Nat) {p:Sp} {x:SV U.Ty} {r:PX U p.cells×List Bool} (h:ZNf ls p x=some r) (hb:∀b∈r.2,b=true):toV U x=toV U (ZdH ls p r.1):=by
 cases p with
 | one c=>
  have:=ZKp hU ls [c] h hb
  simp only [Z02] at this
  cases hp:ZcS ls [c] r.1 with
  | nil=>rw [hp] at this;cases this
  | cons y ys=>
   rw [hp] at this
   simp only [Z02,List.cons.injEq] at this
   simp only [ZdH]
   rw [hp]
   exact this.1
 | agg cs=>
  cases x<;>simp only [ZNf] at h<;>try (cases h;done)
  have:=ZKp hU ls cs h hb
  simp only [ZdH,toV,this]
theorem ZPb {E:Env} (hU:Z0L U E) (ls:List Nat):∀(ps:List Sp) {cs:List (SV U.Ty)} {r:AX U ps×List Bool},ZQI ls ps cs=some r->(∀b∈r.2,b=true)->Z02 U cs=Z02 U (ZBY ls ps r.1):=by
 intro ps
 induction ps with
 | nil=>
  intro cs r h _
  cases cs with
  | nil=>rfl
  | cons=>simp [ZQI] at h
 | cons p ps ih=>
  intro cs r h hb
  cases cs with
  | nil=>simp [ZQI] at h
  | cons c cs=>
   simp only [ZQI] at h
   split at h
   ·rename_i a r' h1 h2
    simp only [Option.some.injEq] at h
    subst h
    simp only [ZBY,Z02,ZFk hU ls h1 (fun b hh=>hb b (by simp [hh])),ih h2 (fun b hh=>hb b (by simp [hh]))]
   ·cases h
theorem ZQ4 {E:Env} (hU:Z0L U E) (ls:List Nat):∀(bs:List Pb) {H:ZP U} {r:BX U bs×List Bool},ZOf ls bs H=some r->(∀b∈r.2,b=true)->toH U H=toH U (Zvq ls bs r.1)/\Zgr bs r.1=ZFU H:=by
 intro bs
 induction bs with
 | nil=>
  intro H r h _
  cases H with
  | nil=>exact⟨rfl,rfl⟩
  | cons=>simp [ZOf] at h
 | cons b bs ih=>
  intro H r h hb
  cases H with
  | nil=>cases b<;>simp [ZOf] at h
  | cons x H=>
   cases b with
   | var e m p=>
    cases x<;>simp only [ZOf] at h<;>try (cases h;done)
    split at h
    ·rename_i he
     obtain⟨rfl,rfl⟩:=he
     split at h
     ·rename_i a r' h1 h2
      simp only [Option.some.injEq] at h
      subst h
      obtain⟨e1,e2⟩:=ih h2 (fun b hh=>hb b (by simp [hh]))
      have e3:=ZFk hU ls h1 (fun b hh=>hb b (by simp [hh]))
      refine⟨?_,?_⟩
      ·simp only [toH,Zvq,List.map_cons,Z0W,e3]
       exact congrArg _ e1
      ·simp only [Zgr,ZFU,List.map_cons,e2]
     ·cases h
    ·cases h
   | row t fresh=>
    cases x<;>simp only [ZOf] at h<;>try (cases h;done)
    rename_i t' xs fl
    split at h
    ·rename_i ht
     subst ht
     split at h
     ·rename_i r' h2
      simp only [Option.some.injEq] at h
      subst h
      obtain⟨e1,e2⟩:=ih h2 hb
      refine⟨?_,?_⟩
      ·simp only [toH,Zvq,List.map_cons,if_true]
       exact congrArg _ e1
      ·simp only [Zgr,ZFU,List.map_cons,e2]
     ·rename_i n r' h2
      simp only [Option.some.injEq] at h
      subst h
      obtain⟨e1,e2⟩:=ih h2 (fun b hh=>hb b (by simp [hh]))
      have hn:=hb _ (List.mem_cons_self ..)
      simp only [beq_iff_eq] at hn
      refine⟨?_,?_⟩
      ·simp only [toH,Zvq,List.map_cons,Bool.false_eq_true,if_false,Z0W,hn]
       exact congrArg _ e1
      ·simp only [Zgr,ZFU,List.map_cons,e2]
     ·cases h
    ·cases h
theorem Shape.ZEU {E:Env} (hU:Z0L U E) {s:Shape} {as:List (SV U.Ty)} {H:ZP U} {r:s.X U×List Bool} (h:s.dec as H=some r) (hb:∀b∈r.2,b=true):Z02 U as=Z02 U (s.enc r.1).1/\toH U H=toH U (s.enc r.1).2:=by
 unfold Shape.dec at h
 split at h
 ·rename_i a b h1 h2
  simp only [Option.some.injEq] at h
  subst h
  obtain⟨e1,e2⟩:=ZQ4 hU _ _ h2 (fun b hh=>hb b (by simp [hh]))
  have e3:=ZPb hU _ _ h1 (fun b hh=>hb b (by simp [hh]))
  simp only [Shape.enc,e2]
  exact⟨e3,e1⟩
 ·cases h
variable (U)
def PcOK:Pc->Prop
 | .v t n true=>t∈U.keys/\∀a,∃cs,U.encS t a = .agg cs/\cs.length=n
 | .v t n false=>t∈U.keys/\∀a,cellsS (U.encS t a)=[U.encS t a]
 | _=>True
def PsOK:List Pc->Prop
 | []=>True
 | p::ps=>PcOK U p/\PsOK ps
def SpOK:Sp->Prop
 | .one (.v _ _ true)=>False
 | .one c=>PcOK U c
 | .agg cs=>PsOK U cs
def AsOK:List Sp->Prop
 | []=>True
 | p::ps=>SpOK U p/\AsOK ps
def ZSw:List Pb->Prop
 | []=>True
 | .var _ _ p::bs=>SpOK U p/\ZSw bs
 | .row t _::bs=>t∈U.keys/\ZSw bs
def Shape.OK (s:Shape):Prop:=AsOK U s.args/\ZSw U s.boxes
variable {U}
theorem ZuL {E:Env} (hU:Z0L U E) {ls ls' : List Nat}:∀{ps:List Pc} {x y:PX U ps},PsOK U ps->Z02 U (ZcS ls ps x)=Z02 U (ZcS ls' ps y)->x=y:=by
 intro ps
 induction ps with
 | nil=>intro x y _ _;rfl
 | cons p ps ih=>
  intro x y hk h
  obtain⟨hp,hk⟩:=hk
  cases p with
  | v t n ag=>
   obtain⟨a,x'⟩:=x
   obtain⟨b,y'⟩:=y
   simp only [ZcS,Z3P] at h
   have key:Z02 U (cellsS (U.encS t a))=Z02 U (cellsS (U.encS t b))/\Z02 U (ZcS ls ps x')=Z02 U (ZcS ls' ps y')/\U.enc t a=U.enc t b/\t∈U.keys:=by
    cases ag with
    | true=>
     obtain⟨hm,hl⟩:=hp
     obtain⟨ca,ea,la⟩:=hl a
     obtain⟨cb,eb,lb⟩:=hl b
     have:=List.append_inj h (by rw [Z0M,Z0M,ea,eb];simp only [cellsS,la,lb])
     refine⟨this.1,this.2,?_,hm⟩
     rw [<- hU.encS,<- hU.encS,ea,eb]
     have h1:=this.1
     rw [ea,eb] at h1
     simp only [cellsS] at h1
     simp only [toV,h1]
    | false=>
     obtain⟨hm,hl⟩:=hp
     have:=List.append_inj h (by rw [Z0M,Z0M,hl a,hl b];rfl)
     refine⟨this.1,this.2,?_,hm⟩
     have h1:=this.1
     rw [hl a,hl b] at h1
     simp only [Z02,List.cons.injEq,and_true,hU.encS] at h1
     exact h1
   obtain⟨_,h2,h3,hm⟩:=key
   have ha:=hU.inj t hm a b h3
   subst ha
   rw [ih hk h2]
  | own e j=>
   simp only [ZcS,Z02,List.cons.injEq] at h
   exact ih hk h.2
  | ptr j=>
   simp only [ZcS,Z02,List.cons.injEq] at h
   exact ih hk h.2
  | fn f a b=>
   simp only [ZcS,Z02,List.cons.injEq] at h
   exact ih hk h.2
  | no=>
   simp only [ZcS,Z02,List.cons.injEq] at h
   exact ih hk h.2
  | nul b=>
   simp only [ZcS,Z02,List.cons.injEq] at h
   exact ih hk h.2
theorem Zy3 {E:Env} (hU:Z0L U E) {ls ls' : List Nat} {p:Sp} {x y:PX U p.cells} (hk:SpOK U p) (h:toV U (ZdH ls p x)=toV U (ZdH ls' p y)):x=y:=by
 cases p with
 | one c=>
  cases c with
  | v t n ag=>
   cases ag with
   | true=>exact hk.elim
   | false=>
    obtain⟨a,x'⟩:=x
    obtain⟨b,y'⟩:=y
    have hk' : PcOK U (.v t n false):=hk
    refine ZuL hU (ps:=[.v t n false]) ⟨hk',trivial⟩ (ls:=ls) (ls' :=ls') ?_
    simp only [ZdH,ZcS,hk'.2,List.append_nil,List.headD_cons] at h
    simp only [ZcS,hk'.2,List.append_nil,Z02,h]
  | own e j=>exact ZuL hU (ps:=[.own e j]) ⟨trivial,trivial⟩ (ls:=ls) (ls' :=ls') (by simp only [ZdH,ZcS,List.headD_cons] at h;simp only [ZcS,Z02,h])
  | ptr j=>rfl
  | fn f a b=>rfl
  | no=>rfl
  | nul b=>rfl
 | agg cs=>
  simp only [ZdH,toV,V.agg.injEq] at h
  exact ZuL hU hk h
theorem ZND {E:Env} (hU:Z0L U E) {ls ls' : List Nat}:∀{ps:List Sp} {x y:AX U ps},AsOK U ps->Z02 U (ZBY ls ps x)=Z02 U (ZBY ls' ps y)->x=y:=by
 intro ps
 induction ps with
 | nil=>intro x y _ _;rfl
 | cons p ps ih=>
  intro x y hk h
  obtain⟨a,x'⟩:=x
  obtain⟨b,y'⟩:=y
  simp only [ZBY,Z02,List.cons.injEq] at h
  rw [Zy3 hU hk.1 h.1,ih hk.2 h.2]
theorem ZDE {E:Env} (hU:Z0L U E) {t:Nat} (ht:t∈U.keys):∀{xs ys:List (U.Ty t)},xs.map (U.enc t)=ys.map (U.enc t)->xs=ys:=by
 intro xs
 induction xs with
 | nil=>intro ys h;cases ys with
  | nil=>rfl
  | cons=>cases h
 | cons x xs ih=>
  intro ys h
  cases ys with
  | nil=>cases h
  | cons y ys=>
   simp only [List.map_cons,List.cons.injEq] at h
   rw [hU.inj t ht x y h.1,ih h.2]
theorem ZNC {E:Env} (hU:Z0L U E) {ls ls' : List Nat}:∀{bs:List Pb} {x y:BX U bs},ZSw U bs->toH U (Zvq ls bs x)=toH U (Zvq ls' bs y)->x=y:=by
 intro bs
 induction bs with
 | nil=>intro x y _ _;rfl
 | cons b bs ih=>
  intro x y hk h
  cases b with
  | var e m p=>
   obtain⟨a,x'⟩:=x
   obtain⟨b,y'⟩:=y
   simp only [Zvq,toH,List.map_cons,List.cons.injEq,Z0W,ZW,Box.mk.injEq,true_and,and_true] at h
   rw [Zy3 hU hk.1 h.1,ih hk.2 h.2]
  | row t fresh=>
   obtain⟨a,x'⟩:=x
   obtain⟨b,y'⟩:=y
   simp only [Zvq,toH,List.map_cons,List.cons.injEq,Z0W,Box.mk.injEq,true_and] at h
   rw [ZDE hU hk.1 h.1.1,ih hk.2 h.2]
theorem Shape.ZJA {E:Env} (hU:Z0L U E) {s:Shape} (hk:s.OK U) {x y:s.X U} (h1:Z02 U (s.enc x).1=Z02 U (s.enc y).1) (h2:toH U (s.enc x).2=toH U (s.enc y).2):x=y:=by
 obtain⟨a,b⟩:=x
 obtain⟨a',b'⟩:=y
 have e2:=ZNC hU hk.2 h2
 simp only at e2
 subst e2
 have e1:=ZND hU hk.1 h1
 simp only at e1
 rw [e1]
variable (U)
structure HMod where
 fa:List (List Fk)
 fb:List Bf
 sin:Shape
 ZME:Shape
 one:Bool
 ky:Nat
 toX:U.Ty ky->ZME.X U
 fn:sin.X U->Option (U.Ty ky)
 ok:sin.OK U
variable {U}
def HMod.out (m:HMod U) (y:U.Ty m.ky):SV U.Ty×ZP U:=((if m.one then (m.ZME.enc (m.toX y)).1.headD .und else .tup (m.ZME.enc (m.toX y)).1),(m.ZME.enc (m.toX y)).2)
open Classical in
noncomputable def HMod.spec (m:HMod U):ZGd where
 fa:=m.fa
 fb:=m.fb
 run:=fun as H0=>if h:∃x:m.sin.X U,Z02 U (m.sin.enc x).1=as/\toH U (m.sin.enc x).2=H0 then (m.fn (Classical.choose h)).map fun y=>(toV U (m.out y).1,toH U (m.out y).2) else none
theorem HMod.ZNs {E:Env} (hU:Z0L U E) (m:HMod U) (x:m.sin.X U):m.spec.run (Z02 U (m.sin.enc x).1) (toH U (m.sin.enc x).2)=(m.fn x).map fun y=>(toV U (m.out y).1,toH U (m.out y).2):=by
 have h:∃y:m.sin.X U,Z02 U (m.sin.enc y).1=Z02 U (m.sin.enc x).1/\toH U (m.sin.enc y).2=toH U (m.sin.enc x).2:=⟨x,rfl,rfl⟩
 simp only [HMod.spec,dif_pos h]
 rw [Shape.ZJA hU m.ok (Classical.choose_spec h).1 (Classical.choose_spec h).2]
def ZLY (m:HMod U) (as:List (SV U.Ty)) (H:ZP U):Tr U (SV U.Ty×ZP U):=
 (ZIO m.fa m.fb 0 as H).andThen fun r=>match m.sin.dec (Zem (r.1.idxOf ·) r.2.1) (ZFS r.2.2 r.1) with
  | some x=>(match x.2 with
   | []=>.bind m.ky (m.fn x.1) fun y=>.when (r.1.length<=(m.out y).2.length) (.leaf (Z7w (ZiA r.1 r.2.2.length) (m.out y).1,Zjz r.2.2 r.1 (m.out y).2))
   | c::cs=>.chk (ZtH (c::cs)) (.bind m.ky (m.fn x.1) fun y=>.when (r.1.length<=(m.out y).2.length) (.leaf (Z7w (ZiA r.1 r.2.2.length) (m.out y).1,Zjz r.2.2 r.1 (m.out y).2))))
  | none=>.fail
theorem ZLQ {E:Env} (hU:Z0L U E) {m:HMod U} {as:List (SV U.Ty)} {H:ZP U} {r:SV U.Ty×ZP U} (h:(ZLY m as H).ZA r):ZsI m.spec (Z02 U as) (toH U H)=some (toV U r.1,toH U r.2):=by
 simp only [ZLY,ZB] at h
 obtain⟨p,hp,h⟩:=h
 have hp' :=Zoz hp
 split at h
 ·rename_i x hx
  have key:(∀b∈x.2,b=true)/\∃y,m.fn x.1=some y/\p.1.length<=(m.out y).2.length/\r=(Z7w (ZiA p.1 p.2.2.length) (m.out y).1,Zjz p.2.2 p.1 (m.out y).2):=by
   split at h
   ·rename_i hnil
    simp only [Tr.ZA,Z09] at h
    obtain⟨y,h1,h2,h3⟩:=h
    exact⟨by rw [hnil];intro b hb;simp at hb,y,h1,h2,h3.symm⟩
   ·rename_i c cs hcs
    simp only [Tr.ZA,Z09] at h
    obtain⟨hc,y,h1,h2,h3⟩:=h
    exact⟨by rw [hcs];exact ZtC hc,y,h1,h2,h3.symm⟩
  obtain⟨hb,y,h1,h2,rfl⟩:=key
  obtain⟨e1,e2⟩:=Shape.ZEU hU hx hb
  rw [Z5P] at e1
  rw [ZjR] at e2
  unfold ZsI
  simp only [show m.spec.fa=m.fa from rfl,show m.spec.fb=m.fb from rfl,hp',e1,e2,HMod.ZNs hU,h1,Option.map_some,Z6i]
  rw [if_pos h2,Zop,ZAK]
 ·simp [Tr.ZA] at h
end
section
variable {U:Z5V}
def Zor (U:Z5V):List Nat->Type
 | []=>Unit
 | t::ts=>U.Ty t×Zor U ts
def Z23:(ts:List Nat)->Zor U ts->List V
 | [],_=>[]
 | t::ts,x=>U.enc t x.1::Z23 ts x.2
def ZhW:(ts:List Nat)->List (SV U.Ty)->Option (Zor U ts)
 | [],[]=>some ()
 | t::ts,v::vs=>match U.ZwQ t v,ZhW ts vs with|some a,some as=>some (a,as)|_,_=>none
 | _,_=>none
structure Mod (U:Z5V) where
 ts:List Nat
 rt:Nat
 fn:Zor U ts->Option (U.Ty rt)
 ok:∀t∈ts,t∈U.keys
def Zzl:SV U.Ty->Bool
 | .ptr _ _ _ _=>true
 | .raw v=>Zqi v
 | _=>false
def ZK0 (H:ZP U):SV U.Ty->Tr U (SV U.Ty)
 | .ptr id i off tot=>if i=0/\off=0/\tot=1 then (match H[id]? with
   | some (.var _ n (.agg cs))=>.leaf (.raw (.ept n [.agg ((Z02 U cs).map ZFV)] 0 0))
   | _=>.fail) else .fail
 | .raw _=>.fail
 | v=>ZP0 H v
def Zji (H:ZP U):List (SV U.Ty)->Tr U (List (SV U.Ty))
 | []=>.leaf []
 | v::vs=>(ZK0 H v).andThen fun w=>(Zji H vs).andThen fun ws=>.leaf (w::ws)
def ZF0:SV U.Ty->Bool
 | .lit _ | .si _ _ | .sb _ | .ss _=>true
 | _=>false
def Ztb:SV U.Ty->Bool
 | .lit _ | .si _ _ | .sb _ | .ss _=>true
 | .agg cs=>cs.all ZF0
 | _=>false
def ZQw:SV U.Ty->Bool
 | .tup vs=>vs.all Ztb
 | v=>Ztb v
theorem ZL9 (x:SV U.Ty):Zqi (toV U x)=Zzl x:=by
 cases x<;>simp [Zzl,Zqi,toV]
theorem ZtN (xs:List (SV U.Ty)):(Z02 U xs).any Zqi=xs.any Zzl:=by
 induction xs with
 | nil=>rfl
 | cons x xs ih=>simp only [Z02,List.any_cons,ih,ZL9]
theorem ZLm (x:SV U.Ty) (h:ZF0 x=true):ZbY (toV U x)=true:=by
 cases x<;>simp_all [ZF0,ZbY,toV]
theorem Ztv (xs:List (SV U.Ty)) (h:xs.all ZF0=true):(Z02 U xs).all ZbY=true:=by
 induction xs with
 | nil=>rfl
 | cons x xs ih=>
  simp only [List.all_cons,Bool.and_eq_true] at h
  simp only [Z02,List.all_cons,Bool.and_eq_true]
  exact⟨ZLm x h.1,ih h.2⟩
theorem ZKn (x:SV U.Ty) (h:Ztb x=true):ZiR (toV U x)=true:=by
 cases x<;>first|(simp [Ztb] at h;done)|(simp [ZiR,toV];done)|skip
 rename_i cs
 simp only [toV,ZiR]
 exact Ztv cs h
theorem ZIj (xs:List (SV U.Ty)) (h:xs.all Ztb=true):(Z02 U xs).all ZiR=true:=by
 induction xs with
 | nil=>rfl
 | cons x xs ih=>
  simp only [List.all_cons,Bool.and_eq_true] at h
  simp only [Z02,List.all_cons,Bool.and_eq_true]
  exact⟨ZKn x h.1,ih h.2⟩
theorem ZMH (x:SV U.Ty) (h:ZQw x=true):ZsH (toV U x)=true:=by
 cases x<;>first|(simp [ZQw,Ztb] at h;done)|(simp [ZsH,ZiR,toV];done)|skip
 ·rename_i cs
  simp only [toV,ZsH,ZiR]
  exact Ztv cs h
 ·rename_i vs
  simp only [toV,ZsH]
  exact ZIj vs h
theorem ZJQ {H:ZP U} {x y:SV U.Ty} (h:(ZK0 H x).ZA y):ZwG (toH U H) (toV U x)=some (toV U y):=by
 unfold ZK0 at h
 split at h
 ·rename_i id i off tot
  split at h
  ·rename_i hz
   obtain⟨rfl,rfl,rfl⟩:=hz
   split at h
   ·rename_i e n cs hb
    simp only [Tr.ZA] at h
    subst h
    simp only [toV,ZwG,and_self,if_true,Z1H,Z9E,hb,Option.map_some,Z0W,ZW]
    simp
   ·simp [Tr.ZA] at h
  ·simp [Tr.ZA] at h
 ·simp [Tr.ZA] at h
 ·rename_i hn1 hn2
  unfold ZwG
  split
  ·rename_i id i off tot hv
   exfalso
   cases x<;>simp [toV] at hv
   ·exact hn1 _ _ _ _ rfl
   ·exact hn2 _ rfl
  ·exact Zul h
theorem ZCB {H:ZP U}:∀{xs ys:List (SV U.Ty)},(Zji H xs).ZA ys->Z67 (toH U H) (Z02 U xs)=some (Z02 U ys):=by
 intro xs
 induction xs with
 | nil=>intro ys h;simp only [Zji,Tr.ZA] at h;subst h;rfl
 | cons x xs ih=>
  intro ys h
  simp only [Zji,ZB,Tr.ZA] at h
  obtain⟨w,h1,ws,h2,rfl⟩:=h
  simp only [Z02,Z67,ZJQ h1,ih h2]
def ZPm (hmods:FuncId->List FuncId->Option (HMod U)) (g:FuncId):Bool:=match hmods g [] with|some m=>m.fb.isEmpty|none=>false
def ZAI (mods:FuncId->Option (Mod U)) (hmods:FuncId->List FuncId->Option (HMod U)):Mdl U:=fun g as H=>
 match mods g with
 | some m=>if as.any Zzl then (Zji H as).andThen fun as' =>(match ZhW m.ts as' with
   | some x=>.bind m.rt (m.fn x) fun r=>.when (ZQw (U.encS m.rt r)=true/\(as.flatMap Zqk).isEmpty=true) (.leaf (U.encS m.rt r,H))
   | none=>.fail)
  else (Zcl H as).andThen fun as' =>(match ZhW m.ts as' with
  | some x=>.bind m.rt (m.fn x) fun r=>.leaf (U.encS m.rt r,ZvN H (as.flatMap Zqk))
  | none=>.fail)
 | none=>match hmods g (if ZPm hmods g then [] else ZsU as) with
  | some m=>ZLY m as H
  | none=>.fail
noncomputable def ZQD (hmods:FuncId->List FuncId->Option (HMod U)):FuncId->List FuncId->Option ZGd:=fun g k=>(hmods g k).map HMod.spec
open Classical in
noncomputable def ZrG (mods:FuncId->Option (Mod U)):FuncId->Option (List V->Option V):=fun g=>
 match mods g with
 | some m=>some fun as=>if h:∃x:Zor U m.ts,Z23 m.ts x=as then (m.fn (Classical.choose h)).map (U.enc m.rt) else none
 | none=>none
theorem ZtE {E:Env} (hU:Z0L U E):∀{ts:List Nat} {vs:List (SV U.Ty)} {x:Zor U ts},ZhW ts vs=some x->Z0R E.rows ts (Z02 U vs)=Z23 ts x:=by
 intro ts
 induction ts with
 | nil=>
  intro vs x h
  cases vs with
  | nil=>rfl
  | cons=>simp [ZhW] at h
 | cons t ts ih=>
  intro vs x h
  cases vs with
  | nil=>simp [ZhW] at h
  | cons v vs=>
   simp only [ZhW] at h
   split at h
   ·rename_i a as h1 h2
    cases h
    simp only [Z02,Z0R,Z23,hU.dec _ _ _ h1,ih h2]
   ·cases h
theorem ZES {E:Env} (hU:Z0L U E):∀{ts:List Nat} {x y:Zor U ts},(∀t∈ts,t∈U.keys)->Z23 ts x=Z23 ts y->x=y:=by
 intro ts
 induction ts with
 | nil=>intro x y _ _;rfl
 | cons t ts ih=>
  intro x y hk h
  obtain⟨x1,x2⟩:=x
  obtain⟨y1,y2⟩:=y
  simp only [Z23,List.cons.injEq] at h
  rw [hU.inj t (hk t (by simp)) _ _ h.1,ih (fun t' ht' =>hk t' (by simp [ht'])) h.2]
theorem ZuM {E:Env} (hU:Z0L U E) {mods:FuncId->Option (Mod U)} {g:FuncId} {m:Mod U} (hm:mods g=some m) {F:List V->Option V} (hF:ZrG mods g=some F) (x:Zor U m.ts):F (Z23 m.ts x)=(m.fn x).map (U.enc m.rt):=by
 unfold ZrG at hF
 simp only [hm,Option.some.injEq] at hF
 subst hF
 have h:∃y:Zor U m.ts,Z23 m.ts y=Z23 m.ts x:=⟨x,rfl⟩
 simp only [dif_pos h]
 rw [ZES hU m.ok (Classical.choose_spec h)]
theorem ZMY {E:Env} (hU:Z0L U E) {mods:FuncId->Option (Mod U)} {hmods:FuncId->List FuncId->Option (HMod U)} (henv:E.env=ZrG mods) (hhm:E.hm=ZQD hmods) (hpu:∀g,E.pure g=false) (hpar:∀g m,mods g=some m->E.par g=m.ts)
  (hown:∀g,E.own g=none) (n:Nat):Zqe U (ZAI mods hmods) (Z49 E (n+1)):=by
 intro g as H v H' h
 unfold ZAI at h
 cases hm:mods g with
 | none=>
  simp only [hm] at h
  have hne:E.env g=none:=by rw [henv];unfold ZrG;simp [hm]
  split at h
  ·rename_i m hmm
   have:=ZLQ hU h
   unfold Z49
   simp only [hne,hpu g,Bool.false_eq_true,if_false]
   have hfr:Zu5 E g=ZPm hmods g:=by
    unfold Zu5 ZPm
    rw [hne,hpu g,hhm]
    simp only [ZQD]
    cases hmods g []<;>rfl
   have hk:E.hm g (if Zu5 E g then [] else Zok (Z02 U as))=some m.spec:=by rw [hfr,hhm,ZGc];simp only [ZQD,hmm,Option.map_some]
   simp only [hk,this]
  ·simp [Tr.ZA] at h
 | some m=>
  simp only [hm] at h
  by_cases hq:as.any Zzl=true
  ·rw [if_pos hq] at h
   simp only [ZB] at h
   obtain⟨as',h1,h⟩:=h
   split at h
   ·rename_i x hx
    simp only [Tr.ZA,Z09,Prod.mk.injEq] at h
    obtain⟨r,hr,⟨hfl,hids⟩,rfl,rfl⟩:=h
    have hF:∃F,E.env g=some F:=by rw [henv];unfold ZrG;simp [hm]
    obtain⟨F,hF⟩:=hF
    have hat:=ZuM hU hm (by rw [<- henv];exact hF) x
    have hfl' :=ZMH _ hfl
    rw [hU.encS] at hfl'
    have hids' : (Z02 U as).flatMap Z9g=[]:=by rw [ZqY];simpa using hids
    unfold Z49
    simp only [hF]
    rw [if_pos (by rw [ZtN];exact hq),ZCB h1]
    simp only [hown g,hpar g m hm,ZtE hU hx,hat,hr,Option.map_some]
    rw [if_pos hfl',hids',hU.encS]
    rfl
   ·simp [Tr.ZA] at h
  rw [if_neg hq] at h
  simp only [ZB] at h
  obtain⟨as',h1,h⟩:=h
  split at h
  ·rename_i x hx
   simp only [Tr.ZA,Prod.mk.injEq] at h
   obtain⟨r,hr,rfl,rfl⟩:=h
   have hF:∃F,E.env g=some F:=by rw [henv];unfold ZrG;simp [hm]
   obtain⟨F,hF⟩:=hF
   have hat:=ZuM hU hm (by rw [<- henv];exact hF) x
   unfold Z49
   simp only [hF]
   rw [if_neg (by rw [ZtN];exact hq)]
   simp only [ZlT h1,hown g,hpar g m hm,ZtE hU hx,hat,hr,Option.map_some,ZqY,ZfM H _ (Znk h1),hU.encS]
  ·simp [Tr.ZA] at h
structure Z0a (P:Program) (E:Env) (g:FuncId) (m:Mod U):Prop where
 entered:ZaK P g
 pure:∀x a,m.fn x=some a->ZgL P E g (Z23 m.ts x) (U.enc m.rt a)
theorem Z0a.ZdT {P:Program} {E E' : Env} (h:E'.ZdT=E.ZdT) {g:FuncId} {m:Mod U} (hf:Z0a P E g m):Z0a P E' g m:=by
 refine⟨hf.entered,fun x a hx fz w vs hc hg hr=>hf.pure x a hx fz w vs hc ?_ hr⟩
 intro g r hh
 exact hg g r (by rw [h];exact hh)
structure Z4n (P:Program) (E:Env) (g:FuncId) (m:HMod U):Prop where
 entered:ZaK P g
 heap:∀x y,m.fn x=some y->ZFF P E g (Z02 U (m.sin.enc x).1) (toH U (m.sin.enc x).2) (toV U (m.out y).1) (toH U (m.out y).2)
theorem Z4n.ZdT {P:Program} {E E' : Env} (h:E'.ZdT=E.ZdT) {g:FuncId} {m:HMod U} (hf:Z4n P E g m):Z4n P E' g m:=by
 refine⟨hf.entered,fun x y hx B w0 σ w vs hi hg hr=>hf.heap x y hx B w0 σ w vs hi ?_ hr⟩
 intro g r hh
 exact hg g r (by rw [h];exact hh)
theorem Zx4 {P:Program} {E:Env} (hU:Z0L U E) {mods:FuncId->Option (Mod U)} {hmods:FuncId->List FuncId->Option (HMod U)} (henv:E.env=ZrG mods) (hhm:E.hm=ZQD hmods) (hown:∀g,E.own g=none) (h:∀g m,mods g=some m->Z0a P E g m)
  (h' : ∀g k m,hmods g k=some m->Z4n P E g m):Znv P E:=by
 refine⟨?_,fun g k hs hh=>?_⟩
 rotate_left
 ·rw [hhm] at hh
  simp only [ZQD,Option.map_eq_some_iff] at hh
  obtain⟨m,hm,rfl⟩:=hh
  refine⟨(h' g k m hm).entered,fun as H0 r H1 hrun=>?_⟩
  simp only [HMod.spec] at hrun
  split at hrun
  ·rename_i hx
   obtain⟨x,rfl,rfl⟩:=hx
   simp only [Option.map_eq_some_iff] at hrun
   obtain⟨y,hy,he⟩:=hrun
   simp only [Prod.mk.injEq] at he
   obtain⟨rfl,rfl⟩:=he
   generalize hch:(⟨x,rfl,rfl⟩:∃y:m.sin.X U,Z02 U (m.sin.enc y).1=Z02 U (m.sin.enc x).1/\toH U (m.sin.enc y).2=toH U (m.sin.enc x).2)=hex at hy
   have hxe:=Shape.ZJA hU m.ok (Classical.choose_spec hex).1 (Classical.choose_spec hex).2
   rw [hxe] at hy
   exact(h' g k m hm).heap x y hy
  ·cases hrun
 intro g F hF
 have hm:∃m,mods g=some m:=by
  rw [henv] at hF
  unfold ZrG at hF
  cases hm:mods g with
  | none=>simp [hm] at hF
  | some m=>exact⟨m,rfl⟩
 obtain⟨m,hm⟩:=hm
 refine⟨(h g m hm).entered,fun as r _ hr=>?_⟩
 rw [hown g]
 have hF' :=hF
 rw [henv] at hF
 unfold ZrG at hF
 simp only [hm,Option.some.injEq] at hF
 subst hF
 simp only at hr
 split at hr
 ·rename_i hx
  obtain⟨x,hx'⟩:=hx
  subst hx'
  have:=ZuM hU hm (by rw [henv] at hF';exact hF') x
  have hr' : (m.fn x).map (U.enc m.rt)=some r:=by
   rw [<- this]
   simp only [dif_pos (⟨x,rfl⟩:∃y:Zor U m.ts,Z23 m.ts y=Z23 m.ts x)]
   exact hr
  cases hfx:m.fn x with
  | none=>simp [hfx] at hr'
  | some a=>
   simp only [hfx,Option.map_some,Option.some.injEq] at hr'
   subst hr'
   exact(h g m hm).pure x a hfx
 ·cases hr
theorem ZAT {P:Program} {E:Env} (hE:Z12 E) (hP:E.P=P) (hF:Znv P E) {n:Nat} {f:FuncId} {fn:Func} (hfn:E.func f=some fn) {c:Code} (hb:fn.body=some c) {as:List V} {r:V} {H1:Heap}
  (h:Z1y (Z49 E n) E f fn 0 (Zp E fn) (.run c) [] ⟨as++List.replicate (fn.ntmps - as.length) Z17,[]⟩ (r,H1)):ZaK P f/\ZgL P E f as r:=by
 obtain⟨hf1,hf2⟩:=hE.func f fn hfn
 rw [hP] at hf1
 refine⟨⟨fn,hf1,by simp [hb],hf2⟩,?_⟩
 intro fz w vs hcells hg hr
 have hI:Inv w.heap.size (Start.of w fz) (bare fz) [] w:=⟨Below.refl _ w,Nat.le_refl _,fun id L hL=>(by cases hL),fun id bx hb=>by simp at hb,fun i j b1 b2 L1 L2 g h1=>by simp at h1,hcells,
  fun b c hc id bx L hb=>by simp at hb,fun id bx hb=>by simp at hb,fun b c hc _=>hc,fun b hb=>hb.elim⟩
 have hslots:Zx (bare fz) w (as++List.replicate (fn.ntmps - as.length) Z17) (vs.toArray++Array.replicate (fn.ntmps - vs.toArray.size) undef).toList:=by
  simp only [Array.toList_append,Array.toList_replicate,List.size_toArray]
  rw [<- hr.length]
  exact hr.append (Zx.replicate _ (.no .nil))
 have hrel:Rel E w.heap.size (Start.of w fz) (bare fz) ⟨as++List.replicate (fn.ntmps - as.length) Z17,[]⟩ { tmps:=vs.toArray++Array.replicate (fn.ntmps - vs.toArray.size) undef,defers:=[] } w:=⟨hI,hg,hslots,rfl⟩
 have hwp:=ZJs hE hP (Zwu hE hP hF n w.heap.size (Start.of w fz)) (Z6g n) (F:=Fin P fn w.heap.size (Start.of w fz)) (σ0:=bare fz) (ws:=w)
  (fun st r σ a w' hz hr hx=>ZQN hE hP hr (fun b c hh=>(hx.fz b c hh).1) hz) h (hE.calm f fn c hfn hb) rfl _ _ _ hrel (Ext.refl _ _).k
 refine calls_of_wp hf1 hb ?_
 intro fr k cs
 obtain⟨e,a',w',hq,harr⟩:=hwp fr k cs
 refine⟨e,a',w',?_,harr⟩
 cases e with
 | normal=>
  obtain⟨h0,u,fz',h1,h2,h3,h4,h5,h6,h7⟩:=hq
  exact⟨h0,u,h1,u,fz',rfl,h2,h3,h4,h5,h6,h7⟩
 | ret=>
  obtain⟨h0,u,fz',h1,h2,h3,h4,h5,h6,h7⟩:=hq
  exact⟨h0,u,h1,u,fz',rfl,h2,h3,h4,h5,h6,h7⟩
 | exit id=>exact hq.elim
 | goto l=>exact hq.elim
 | panic c=>exact hq.elim
 | outgrown=>exact hq.elim
theorem ZzA {P:Program} {E:Env} (hE:Z12 E) (hP:E.P=P) (hF:Znv P E) {n:Nat} {f:FuncId} {fn:Func} (hfn:E.func f=some fn) {c:Code} (hb:fn.body=some c) {as:List V} {H0:Heap} {r:V} {H1:Heap} {fa:List (List Fk)} {fb:List Bf} {k:Nat} (hk:H0.length=k)
  (h:Z1y (Z49 E n) E f fn k (Zh E fn fa fb k) (.run c) [] ⟨as++List.replicate (fn.ntmps - as.length) Z17,H0⟩ (r,H1)):ZaK P f/\ZFF P E f as H0 r H1:=by
 obtain⟨hf1,hf2⟩:=hE.func f fn hfn
 rw [hP] at hf1
 refine⟨⟨fn,hf1,by simp [hb],hf2⟩,?_⟩
 intro B w0 σ w vs hI hg hr
 have hslots:Zx σ w (as++List.replicate (fn.ntmps - as.length) Z17) (vs.toArray++Array.replicate (fn.ntmps - vs.toArray.size) undef).toList:=by
  simp only [Array.toList_append,Array.toList_replicate,List.size_toArray]
  rw [<- hr.length]
  exact hr.append (Zx.replicate _ (.no .nil))
 have hrel:Rel E B w0 σ ⟨as++List.replicate (fn.ntmps - as.length) Z17,H0⟩ { tmps:=vs.toArray++Array.replicate (fn.ntmps - vs.toArray.size) undef,defers:=[] } w:=⟨hI,hg,hslots,rfl⟩
 have hwp:=ZJs hE hP (Zwu hE hP hF n B w0) (Z6g n) (F:=FinH P fn B w0 σ w) (σ0:=σ) (ws:=w)
  (fun st r σ' a w' hz hr hx=>ZQl hE hP (fun id L hL=>by rw [<- hk];exact hI.ZMn hL) hr hx hz) h (hE.calm f fn c hfn hb) rfl _ _ _ hrel (Ext.refl _ _).k
 refine calls_of_wp hf1 hb ?_
 intro fr k cs
 obtain⟨e,a',w',hq,harr⟩:=hwp fr k cs
 refine⟨e,a',w',?_,harr⟩
 cases e with
 | normal=>
  obtain⟨h0,u,σ',h1,h2,h3,h4⟩:=hq
  exact⟨h0,u,h1,u,σ',rfl,h2,h3,h4⟩
 | ret=>
  obtain⟨h0,u,σ',h1,h2,h3,h4⟩:=hq
  exact⟨h0,u,h1,u,σ',rfl,h2,h3,h4⟩
 | exit id=>exact hq.elim
 | goto l=>exact hq.elim
 | panic c=>exact hq.elim
 | outgrown=>exact hq.elim
theorem ZF3 {L R:Type} {J:L->Option R}:∀{T:Tr U L} {r:R},T.den J=some r->∃l,T.ZA l/\J l=some r:=by
 intro T
 induction T with
 | leaf l=>intro r h;exact⟨l,rfl,h⟩
 | br c a b iha ihb=>
  intro r h
  cases c with
  | true=>obtain⟨l,h1,h2⟩:=iha h;exact⟨l,.inl ⟨rfl,h1⟩,h2⟩
  | false=>obtain⟨l,h1,h2⟩:=ihb h;exact⟨l,.inr ⟨rfl,h1⟩,h2⟩
 | bind t o k ih=>
  intro r h
  cases o with
  | none=>cases h
  | some a=>obtain⟨l,h1,h2⟩:=ih a h;exact⟨l,⟨a,rfl,h1⟩,h2⟩
 | chk c a ih=>
  intro r h
  cases c with
  | true=>obtain⟨l,h1,h2⟩:=ih h;exact⟨l,⟨rfl,h1⟩,h2⟩
  | false=>cases h
 | fail=>intro r h;cases h
theorem ZNS {L M:Type} {g:L->M}:∀{T:Tr U L} {l:L},T.ZA l->(T.map g).ZA (g l):=by
 intro T
 induction T with
 | leaf l=>intro l h;simp only [Tr.ZA] at h;subst h;rfl
 | br c a b iha ihb=>
  intro l h
  rcases h with ⟨hc,h⟩|⟨hc,h⟩
  ·exact .inl ⟨hc,iha h⟩
  ·exact .inr ⟨hc,ihb h⟩
 | bind t o k ih=>rintro l ⟨a,ha,h⟩;exact⟨a,ha,ih a h⟩
 | chk c a ih=>rintro l ⟨hc,h⟩;exact⟨hc,ih h⟩
 | fail=>intro l h;exact h
def nav:Code->List Nat->List Fr->Code×List Fr
 | .seq a b,0::p,K=>nav a p (.seq b::K)
 | .seq a b,_::p,K=>nav b p K
 | .cond _ a b,0::p,K=>nav a p K
 | .cond _ a b,_::p,K=>nav b p K
 | .block id b,_::p,K=>nav b p (.blk id::K)
 | .loop b,_::p,K=>nav b p (.loop b::K)
 | .scope b,_::p,K=>nav b p K
 | c,_,K=>(c,K)
def ZqS (fn:Func):Code:=match fn.body with|some c=>c|none=>.skip
open Classical in
noncomputable def ZSq {α:Type} (g:Nat->Option α):Option α:=if h:∃n a,g n=some a then g (Classical.choose h) else none
theorem Zre {α:Type} {g:Nat->Option α} {a:α} (h:ZSq g=some a):∃n,g n=some a:=by
 unfold ZSq at h
 split at h
 ·exact⟨_,h⟩
 ·cases h
def Mono {α:Type} (g:Nat->Option α):Prop:=∀n a,g n=some a->g (n+1)=some a
theorem Mono.le {α:Type} {g:Nat->Option α} (hg:Mono g) {n m:Nat} {a:α} (h:g n=some a) (hle:n<=m):g m=some a:=by
 induction hle with
 | refl=>exact h
 | step _ ih=>exact hg _ _ ih
theorem ZPX {α:Type} {g:Nat->Option α} (hg:Mono g) {n:Nat} {a:α} (h:g n=some a):ZSq g=some a:=by
 unfold ZSq
 have hex:∃n a,g n=some a:=⟨n,a,h⟩
 rw [dif_pos hex]
 obtain⟨b,hb⟩:=Classical.choose_spec hex
 have h1:=hg.le h (Nat.le_max_left n (Classical.choose hex))
 have h2:=hg.le hb (Nat.le_max_right n (Classical.choose hex))
 rw [hb]
 rw [h1] at h2
 exact h2.symm
end
abbrev w64 (x:Int):Int:=IntKind.wrap .i64 x
structure Za (Ty:Nat->Type) (T:Type) where
 ZJ:T->List V
 encS:T->List (SV Ty)
 dec:List (SV Ty)->Option (T×List (SV Ty))
section
variable {Ty:Nat->Type}
def Za.int (k:IntKind):Za Ty Int where
 ZJ:=fun a=>[.lit (.int k a)]
 encS:=fun a=>[.si k a]
 dec:=fun cs=>match cs with
  | .si j a::r=>if j=k then some (a,r) else none
  | .lit (.int j a)::r=>if j=k then some (a,r) else none
  | _=>none
def Za.bool:Za Ty Bool where
 ZJ:=fun b=>[.lit (.bool b)]
 encS:=fun b=>[.sb b]
 dec:=fun cs=>match cs with
  | .sb b::r=>some (b,r)
  | .lit (.bool b)::r=>some (b,r)
  | _=>none
def Za.str:Za Ty ByteArray where
 ZJ:=fun b=>[.lit (.string b)]
 encS:=fun b=>[.ss b]
 dec:=fun cs=>match cs with
  | .ss b::r=>some (b,r)
  | .lit (.string b)::r=>some (b,r)
  | _=>none
def Za.list (t n:Nat) (e:Ty t->V):Za Ty (List (Ty t)) where
 ZJ:=fun xs=>[.sl false n (xs.map e)]
 encS:=fun xs=>[.sl t xs]
 dec:=fun cs=>match cs with
  | .sl t' xs::r=>if h:t' = t then some (h▸xs,r) else none
  | .nil _::r=>some ([],r)
  | _=>none
def Za.unit:Za Ty Unit where
 ZJ:=fun _=>[]
 encS:=fun _=>[]
 dec:=fun cs=>some ((),cs)
def Za.pair {A B:Type} (a:Za Ty A) (b:Za Ty B):Za Ty (A×B) where
 ZJ:=fun x=>a.ZJ x.1++b.ZJ x.2
 encS:=fun x=>a.encS x.1++b.encS x.2
 dec:=fun cs=>match a.dec cs with
  | some (x,r)=>match b.dec r with|some (y,r')=>some ((x,y),r')|none=>none
  | none=>none
def Za.iso {A B:Type} (f:A->B) (g:B->A) (b:Za Ty B):Za Ty A where
 ZJ:=fun x=>b.ZJ (f x)
 encS:=fun x=>b.encS (f x)
 dec:=fun cs=>match b.dec cs with|some (y,r)=>some (g y,r)|none=>none
def Za.agg {T:Type} (c:Za Ty T) (v:SV Ty):Option T:=match v with
 | .agg cs=>match c.dec cs with|some (a,[])=>some a|_=>none
 | _=>none
def Za.one {T:Type} (c:Za Ty T) (v:SV Ty):Option T:=match c.dec [v] with|some (a,[])=>some a|_=>none
def Za.ZU {T:Type} (c:Za Ty T) (a:T):V:=(c.ZJ a).headD .no
def Za.Z1F {T:Type} (c:Za Ty T) (a:T):SV Ty:=(c.encS a).headD .no
end
structure Zc (U:Z5V) {T:Type} (c:Za U.Ty T) (rs:List Nat):Prop where
 enc:∀a,Z02 U (c.encS a)=c.ZJ a
 len:∀a,(c.ZJ a).length=rs.length
 dec:∀cs a rest,c.dec cs=some (a,rest)->∃pre,cs=pre++rest/\pre.length=rs.length/\Z1S rs (Z02 U pre)=c.ZJ a
 nr:∀a,ZG (c.ZJ a)=true
 inj:∀a b,c.ZJ a=c.ZJ b->a=b
section
variable {U:Z5V}
theorem Zc.int (k:IntKind):Zc U (Za.int k:Za U.Ty Int) [0]:=by
 refine⟨fun a=>rfl,fun a=>rfl,?_,fun a=>rfl,fun a b h=>by simpa [Za.int] using h⟩
 intro cs a rest h
 simp only [Za.int] at h
 split at h
 ·rename_i j x r
  split at h
  ·rename_i hj
   simp only [Option.some.injEq,Prod.mk.injEq] at h
   obtain⟨rfl,rfl⟩:=h
   subst hj
   exact⟨[_],rfl,rfl,rfl⟩
  ·cases h
 ·rename_i j x r
  split at h
  ·rename_i hj
   simp only [Option.some.injEq,Prod.mk.injEq] at h
   obtain⟨rfl,rfl⟩:=h
   subst hj
   exact⟨[_],rfl,rfl,rfl⟩
  ·cases h
 ·cases h
theorem Zc.bool:Zc U (Za.bool:Za U.Ty Bool) [0]:=by
 refine⟨fun a=>rfl,fun a=>rfl,?_,fun a=>rfl,fun a b h=>by simpa [Za.bool] using h⟩
 intro cs a rest h
 simp only [Za.bool] at h
 split at h<;>cases h<;>exact⟨[_],rfl,rfl,rfl⟩
theorem Zc.str:Zc U (Za.str:Za U.Ty ByteArray) [0]:=by
 refine⟨fun a=>rfl,fun a=>rfl,?_,fun a=>rfl,fun a b h=>by simpa [Za.str] using h⟩
 intro cs a rest h
 simp only [Za.str] at h
 split at h<;>cases h<;>exact⟨[_],rfl,rfl,rfl⟩
theorem ZPn {α β:Type} {f:α->β} (hf:∀a b,f a=f b->a=b):∀{xs ys:List α},xs.map f=ys.map f->xs=ys:=by
 intro xs
 induction xs with
 | nil=>intro ys h;cases ys with
  | nil=>rfl
  | cons=>simp at h
 | cons x xs ih=>intro ys h;cases ys with
  | nil=>simp at h
  | cons y ys=>
   simp only [List.map_cons,List.cons.injEq] at h
   rw [hf _ _ h.1,ih h.2]
theorem Zc.list {t n:Nat} {e:U.Ty t->V} (he:∀a,U.enc t a=e a) (hn:U.esz t=n) (hnr:∀a,Z03 (e a)=true) (hinj:∀a b,e a=e b->a=b):Zc U (Za.list t n e:Za U.Ty (List (U.Ty t))) [n]:=by
 have hmap:∀xs:List (U.Ty t),xs.map (U.enc t)=xs.map e:=fun xs=>List.map_congr_left fun a _=>he a
 refine⟨fun a=>?_,fun a=>rfl,?_,fun a=>?_,fun a b h=>?_⟩
 ·simp [Za.list,Z02,toV,hn,hmap]
 ·intro cs a rest h
  simp only [Za.list] at h
  split at h
  ·rename_i t' xs r
   split at h
   ·rename_i ht
    subst ht
    simp only [Option.some.injEq,Prod.mk.injEq] at h
    obtain⟨rfl,rfl⟩:=h
    exact⟨[_],rfl,rfl,by simp [Z02,toV,Z1S,Z2d,Za.list,hn,hmap]⟩
   ·cases h
  ·cases h
   exact⟨[_],rfl,rfl,by simp [Z02,toV,Z1S,Z2d,Za.list]⟩
  ·cases h
 ·simp only [Za.list,ZG,Z03,Bool.and_true]
  rw [Z1Z]
  intro x hx
  obtain⟨y,_,rfl⟩:=List.mem_map.1 hx
  exact hnr y
 ·simp only [Za.list,List.cons.injEq,V.sl.injEq,true_and,and_true] at h
  exact ZPn hinj h
theorem Zc.unit:Zc U (Za.unit:Za U.Ty Unit) []:=
 ⟨fun a=>rfl,fun a=>rfl,fun cs a rest h=>by cases h;exact⟨[],rfl,rfl,rfl⟩,fun a=>rfl,fun a b _=>rfl⟩
theorem Zsk:∀(r1 r2:List Nat) (x y:List V),x.length=r1.length->Z1S (r1++r2) (x++y)=Z1S r1 x++Z1S r2 y:=by
 intro r1
 induction r1 with
 | nil=>intro r2 x y h;cases x with
  | nil=>simp [Z1S]
  | cons=>simp at h
 | cons r r1 ih=>intro r2 x y h;cases x with
  | nil=>simp at h
  | cons v x=>simp [Z1S,ih r2 x y (by simpa using h)]
theorem Zwq (x y:List V):ZG (x++y)=(ZG x&&ZG y):=by
 induction x with
 | nil=>simp [ZG]
 | cons a x ih=>simp [ZG,ih,Bool.and_assoc]
theorem Zc.pair {A B:Type} {a:Za U.Ty A} {b:Za U.Ty B} {r1 r2:List Nat} (ha:Zc U a r1) (hb:Zc U b r2):Zc U (Za.pair a b) (r1++r2):=by
 refine⟨fun x=>?_,fun x=>?_,?_,fun x=>?_,fun x y h=>?_⟩
 ·simp only [Za.pair,Z3P,ha.enc,hb.enc]
 ·simp only [Za.pair,List.length_append,ha.len,hb.len]
 ·intro cs x rest h
  simp only [Za.pair] at h
  split at h
  ·rename_i p r hp
   split at h
   ·rename_i q r' hq
    cases h
    obtain⟨p1,e1,l1,t1⟩:=ha.dec _ _ _ hp
    obtain⟨p2,e2,l2,t2⟩:=hb.dec _ _ _ hq
    refine⟨p1++p2,by rw [e1,e2,List.append_assoc],by simp [l1,l2],?_⟩
    rw [Z3P,Zsk _ _ _ _ (by rw [Z0M];exact l1),t1,t2]
    rfl
   ·cases h
  ·cases h
 ·simp only [Za.pair,Zwq,ha.nr,hb.nr,Bool.and_self]
 ·simp only [Za.pair] at h
  obtain⟨h1,h2⟩:=List.append_inj h (by rw [ha.len,ha.len])
  obtain⟨x1,x2⟩:=x
  obtain⟨y1,y2⟩:=y
  exact Prod.ext (ha.inj _ _ h1) (hb.inj _ _ h2)
theorem Zc.iso {A B:Type} {f:A->B} {g:B->A} {b:Za U.Ty B} {r:List Nat} (hb:Zc U b r) (hfg:∀y,f (g y)=y) (hgf:∀x,g (f x)=x):Zc U (Za.iso f g b) r:=by
 refine⟨fun x=>hb.enc _,fun x=>hb.len _,?_,fun x=>hb.nr _,fun x y h=>?_⟩
 ·intro cs x rest h
  simp only [Za.iso] at h
  split at h
  ·rename_i y r' hy
   cases h
   obtain⟨p,e,l,t⟩:=hb.dec _ _ _ hy
   exact⟨p,e,l,by simp only [Za.iso,hfg];exact t⟩
  ·cases h
 ·have:=hb.inj _ _ h
  rw [<- hgf x,this,hgf]
theorem Zc.agg {T:Type} {c:Za U.Ty T} {r:List Nat} (h:Zc U c r) {v:SV U.Ty} {a:T} (hd:c.agg v=some a):Z18 r (toV U v) = .agg (c.ZJ a):=by
 unfold Za.agg at hd
 split at hd
 ·split at hd
  ·rename_i cs _ hcs
   cases hd
   obtain⟨p,e,l,t⟩:=h.dec _ _ _ hcs
   simp only [List.append_nil] at e
   subst e
   simp only [toV,Z18,t]
  ·cases hd
 ·cases hd
theorem Zc.one {T:Type} {c:Za U.Ty T} {n:Nat} (h:Zc U c [n]) {v:SV U.Ty} {a:T} (hd:c.one v=some a) (hv:∀cs,toV U v≠.agg cs):Z18 [n] (toV U v)=c.ZU a:=by
 unfold Za.one at hd
 split at hd
 ·rename_i hcs
  cases hd
  obtain⟨p,e,l,t⟩:=h.dec _ _ _ hcs
  simp only [List.append_nil] at e
  subst e
  simp only [Z02,Z1S] at t
  unfold Za.ZU
  rw [<- t]
  unfold Z18
  split
  ·rename_i cs hcs';exact absurd hcs' (hv cs)
  ·rfl
 ·cases hd
theorem Znl {k:IntKind} {v:SV U.Ty} {a:Int} (h:(Za.int k:Za U.Ty Int).one v=some a):∀cs,toV U v≠.agg cs:=by
 rintro cs hc
 cases v<;>simp_all [toV,Za.one,Za.int]
theorem ZP6 {v:SV U.Ty} {a:Bool} (h:(Za.bool:Za U.Ty Bool).one v=some a):∀cs,toV U v≠.agg cs:=by
 rintro cs hc
 cases v<;>simp_all [toV,Za.one,Za.bool]
theorem ZSi {v:SV U.Ty} {a:ByteArray} (h:(Za.str:Za U.Ty ByteArray).one v=some a):∀cs,toV U v≠.agg cs:=by
 rintro cs hc
 cases v<;>simp_all [toV,Za.one,Za.str]
theorem Zei {t n:Nat} {e:U.Ty t->V} {v:SV U.Ty} {a:List (U.Ty t)} (h:(Za.list t n e:Za U.Ty (List (U.Ty t))).one v=some a):∀cs,toV U v≠.agg cs:=by
 rintro cs hc
 cases v<;>simp_all [toV,Za.one,Za.list]
theorem Zc.Z1w {T:Type} {c:Za U.Ty T} {n:Nat} (h:Zc U c [n]) (a:T):toV U (c.Z1F a)=c.ZU a:=by
 unfold Za.Z1F Za.ZU
 rw [<- h.enc a]
 have hl:=h.len a
 rw [<- h.enc a,Z0M] at hl
 cases hs:c.encS a with
 | nil=>rw [hs] at hl;simp at hl
 | cons x xs=>rfl
theorem Zc.Z4k {T:Type} {c:Za U.Ty T} {n:Nat} (h:Zc U c [n]) {a b:T} (he:c.ZU a=c.ZU b):a=b:=by
 refine h.inj a b ?_
 have h1:=h.len a
 have h2:=h.len b
 unfold Za.ZU at he
 cases ha:c.ZJ a with
 | nil=>rw [ha] at h1;simp at h1
 | cons x xs=>
  cases hb:c.ZJ b with
  | nil=>rw [hb] at h2;simp at h2
  | cons y ys=>
   rw [ha,hb] at he
   rw [ha] at h1
   rw [hb] at h2
   simp only [List.headD_cons] at he
   have hx:xs=[]:=by simpa using h1
   have hy:ys=[]:=by simpa using h2
   rw [he,hx,hy]
theorem Zc.Za9 {T:Type} {c:Za U.Ty T} {n:Nat} (h:Zc U c [n]) (a:T):Z03 (c.ZU a)=true:=by
 have:=h.nr a
 unfold Za.ZU
 cases ha:c.ZJ a with
 | nil=>rfl
 | cons x xs=>rw [ha] at this;simp [ZG] at this;exact this.1
end
def Za.skip {Ty:Nat->Type}:Za Ty Unit where
 ZJ:=fun _=>[.und]
 encS:=fun _=>[.und]
 dec:=fun cs=>match cs with
  | .und::r=>some ((),r)
  | _=>none
theorem Zc.skip {U:Z5V}:Zc U (Za.skip:Za U.Ty Unit) [0]:=by
 refine⟨fun a=>rfl,fun a=>rfl,?_,fun a=>rfl,fun a b _=>rfl⟩
 intro cs a rest h
 simp only [Za.skip] at h
 split at h<;>cases h
 exact⟨[_],rfl,rfl,rfl⟩
def rawS {Ty:Nat->Type}:V->SV Ty
 | .lit v=>.lit v
 | .und=>.und
 | _=>.no
def ZLE:V->Bool
 | .lit _=>true
 | .und=>true
 | _=>false
def Za.ZJV {Ty:Nat->Type} {T:Type} (c:Za Ty T) (n:Nat) (a:T):V:=.ept n [.agg (c.ZJ a)] 0 0
def Za.ZSx {Ty:Nat->Type} {T:Type} (c:Za Ty T) (n:Nat) (v:SV Ty):Option T:=match v with
 | .raw (.ept m [.agg cs] 0 0)=>if m=n/\cs.all ZLE=true then c.agg (.agg (cs.map rawS)) else none
 | _=>none
theorem ZNa {U:Z5V}:∀{cs:List V},cs.all ZLE=true->Z02 U (cs.map rawS)=cs:=by
 intro cs
 induction cs with
 | nil=>intro _;rfl
 | cons c cs ih=>
  intro h
  simp only [List.all_cons,Bool.and_eq_true] at h
  simp only [List.map_cons,Z02,ih h.2]
  cases c<;>simp_all [ZLE,rawS,toV]
theorem ZIC:∀{cs:List V},cs.all ZLE=true->∀rs,Z1S rs cs=cs:=by
 intro cs
 induction cs with
 | nil=>intro _ rs;cases rs<;>rfl
 | cons c cs ih=>
  intro h rs
  simp only [List.all_cons,Bool.and_eq_true] at h
  cases rs with
  | nil=>rfl
  | cons r rs=>
   simp only [Z1S,ih h.2]
   cases c<;>simp_all [ZLE,Z2d]
theorem Zc.ZLH {U:Z5V} {T:Type} {c:Za U.Ty T} {r:List Nat} (h:Zc U c r) {n:Nat} {v:SV U.Ty} {a:T} (hd:c.ZSx n v=some a) (rs:List Nat):Z18 rs (toV U v)=c.ZJV n a:=by
 unfold Za.ZSx at hd
 split at hd
 ·rename_i m cs
  split at hd
  ·rename_i hc
   obtain⟨rfl,hall⟩:=hc
   have:=h.agg hd
   simp only [toV,Z18,ZNa hall,V.agg.injEq] at this
   rw [ZIC hall] at this
   simp only [toV,Z18,Z2d,Za.ZJV,this]
  ·cases hd
 ·cases hd
theorem Zc.ZOL {U:Z5V} {T:Type} {c:Za U.Ty T} {r:List Nat} (h:Zc U c r) (n:Nat) (a:T):Z03 (c.ZJV n a)=true:=by
 simp [Za.ZJV,Z03,ZG,h.nr]
theorem Zc.ZJP {U:Z5V} {T:Type} {c:Za U.Ty T} {r:List Nat} (h:Zc U c r) {n:Nat} {a b:T} (he:c.ZJV n a=c.ZJV n b):a=b:=by
 simp only [Za.ZJV,V.ept.injEq,List.cons.injEq,V.agg.injEq,and_true,true_and] at he
 exact h.inj _ _ he
noncomputable def EV {U:Z5V} (P:Program) (gl:Nat->Option (List V)) (f:FuncId) (mods:FuncId->Option (Mod U)) (hmods:FuncId->List FuncId->Option (HMod U)):Env:=
 { Z6N P (fun _=>false) (ZrG mods) with
  func:=fun g=>if g=f then P.funcs[g]? else none
  ZdT:=gl
  hm:=ZQD hmods
  par:=fun g=>match mods g with|some m=>m.ts|none=>[] }
section
variable {U:Z5V} {P:Program} {gl:Nat->Option (List V)} {f:FuncId} {mods:FuncId->Option (Mod U)} {hmods:FuncId->List FuncId->Option (HMod U)}
theorem ZRS (hmix:P.follows .mixedOrders=true) {fn:Func} {c:Code} (hfn:P.funcs[f]? = some fn) (hname:(fn.name == "runtime.NumGoroutine")=false) (hb:fn.body=some c) (hcalm:Z4G (EV P gl f mods hmods) f c=true):Z12 (EV P gl f mods hmods):=by
 refine⟨fun t i h=>h,?_,hmix,?_,?_,?_,?_,fun t ks h=>h,?_⟩
 ·intro g fn' h
  simp only [EV] at h
  split at h
  ·rename_i hg
   subst hg
   rw [hfn] at h
   cases h
   exact⟨hfn,hname⟩
  ·cases h
 ·intro g fn' c' h hb'
  simp only [EV] at h
  split at h
  ·rename_i hg
   subst hg
   rw [hfn] at h
   cases h
   rw [hb] at hb'
   cases hb'
   exact hcalm
  ·cases h
 ·intro t k h
  simp only [EV,Z6N] at h
  split at h
  ·rename_i d hd
   simp only [Option.some.injEq] at h
   subst h
   exact hd
  ·cases h
 ·intro t h
  simp only [EV,Z6N] at h
  split at h
  ·rename_i hd;exact hd
  ·cases h
 ·intro t h
  simp only [EV,Z6N] at h
  split at h
  ·rename_i hd;exact hd
  ·cases h
 ·intro t h
  simp only [EV,Z6N] at h
  split at h
  ·rename_i e he
   split at h
   ·rename_i hd;exact⟨e,he,hd⟩
   ·cases h
  ·cases h
def Zol:(ts:List Nat)->Zor U ts->List (SV U.Ty)
 | [],_=>[]
 | t::ts,x=>U.encS t x.1::Zol ts x.2
def Zy1 (ts:List Nat) (x:Zor U ts) (n:Nat):SSt U:=⟨Zol ts x++List.replicate (n - ts.length) .no,[]⟩
theorem ZzL {E:Env} (hU:Z0L U E):∀{ts:List Nat} (x:Zor U ts),Z02 U (Zol ts x)=Z23 ts x:=by
 intro ts
 induction ts with
 | nil=>intro x;rfl
 | cons t ts ih=>intro x;simp only [Zol,Z02,Z23,hU.encS,ih]
theorem Zgy:∀{ts:List Nat} (x:Zor U ts),(Z23 ts x).length=ts.length:=by
 intro ts
 induction ts with
 | nil=>intro x;rfl
 | cons t ts ih=>intro x;simp [Z23,ih]
theorem ZHa {E:Env} (hU:Z0L U E) {ts:List Nat} (x:Zor U ts) (n:Nat):Z44 U (Zy1 ts x n)=⟨Z23 ts x++List.replicate (n - (Z23 ts x).length) Z17,[]⟩:=by
 simp only [Z44,Zy1,Z3P,ZzL hU,Zgy]
 congr 1
 congr 1
 rw [Z0X,List.map_replicate]
 rfl
theorem fn_ok {E0:Env} (hE0:E0.ZdT=gl) (hU:Z0L U (EV P gl f mods hmods)) (hmix:P.follows .mixedOrders=true) {fn:Func} {c:Code} (hok:∀g m,mods g=some m->Z0a P E0 g m) (hhok:∀g k m,hmods g k=some m->Z4n P E0 g m) (hfn:P.funcs[f]? = some fn) (hname:(fn.name == "runtime.NumGoroutine")=false)
  (hb:fn.body=some c) (hcalm:Z4G (EV P gl f mods hmods) f c=true) (m:Mod U)
  (h:∀x a,m.fn x=some a->Z1y (Z49 (EV P gl f mods hmods) 1) (EV P gl f mods hmods) f fn 0 (Zp (EV P gl f mods hmods) fn) (.run c) [] (Z44 U (Zy1 m.ts x fn.ntmps)) (U.enc m.rt a,[])):Z0a P E0 f m:=by
 have hE:=ZRS (gl:=gl) (mods:=mods) hmix hfn hname hb hcalm
 have hF:Znv P (EV P gl f mods hmods):=Zx4 hU rfl rfl (fun _=>rfl) (fun g m hm=>(hok g m hm).ZdT (by rw [hE0];rfl)) (fun g k m hm=>(hhok g k m hm).ZdT (by rw [hE0];rfl))
 have hfn' : (EV P gl f mods hmods).func f=some fn:=by simp only [EV,if_true];exact hfn
 have key:∀x a,m.fn x=some a->ZaK P f/\ZgL P (EV P gl f mods hmods) f (Z23 m.ts x) (U.enc m.rt a):=by
  intro x a hx
  have:=h x a hx
  rw [ZHa hU] at this
  exact ZAT hE rfl hF hfn' hb this
 refine⟨⟨fn,hfn,by simp [hb],hname⟩,fun x a hx fz w vs hc hg hr=>(key x a hx).2 fz w vs hc ?_ hr⟩
 intro g r hh
 exact hg g r (by rw [hE0];exact hh)
def ZAR (e:List (SV U.Ty)×ZP U) (n:Nat):SSt U:=⟨e.1++List.replicate (n - e.1.length) .no,e.2⟩
theorem ZIK (e:List (SV U.Ty)×ZP U) (n:Nat):Z44 U (ZAR e n)=⟨Z02 U e.1++List.replicate (n - (Z02 U e.1).length) Z17,toH U e.2⟩:=by
 simp only [Z44,ZAR,Z3P,Z0M]
 congr 1
 congr 1
 rw [Z0X,List.map_replicate]
 rfl
theorem ZRn {E0:Env} (hE0:E0.ZdT=gl) (hU:Z0L U (EV P gl f mods hmods)) (hmix:P.follows .mixedOrders=true) {fn:Func} {c:Code} (hok:∀g m,mods g=some m->Z0a P E0 g m) (hhok:∀g k m,hmods g k=some m->Z4n P E0 g m) (hfn:P.funcs[f]? = some fn) (hname:(fn.name == "runtime.NumGoroutine")=false)
  (hb:fn.body=some c) (hcalm:Z4G (EV P gl f mods hmods) f c=true) (m:HMod U) {fa:List (List Fk)} {fb:List Bf} {k:Nat} (hk:∀x:m.sin.X U,(m.sin.enc x).2.length=k)
  (h:∀(x:m.sin.X U) (y:U.Ty m.ky),m.fn x=some y->Z1y (Z49 (EV P gl f mods hmods) 1) (EV P gl f mods hmods) f fn k (Zh (EV P gl f mods hmods) fn fa fb k) (.run c) [] (Z44 U (ZAR (m.sin.enc x) fn.ntmps)) (toV U (m.out y).1,toH U (m.out y).2)):Z4n P E0 f m:=by
 have hE:=ZRS (gl:=gl) (mods:=mods) (hmods:=hmods) hmix hfn hname hb hcalm
 have hF:Znv P (EV P gl f mods hmods):=Zx4 hU rfl rfl (fun _=>rfl) (fun g m hm=>(hok g m hm).ZdT (by rw [hE0];rfl)) (fun g k m hm=>(hhok g k m hm).ZdT (by rw [hE0];rfl))
 have hfn' : (EV P gl f mods hmods).func f=some fn:=by simp only [EV,if_true];exact hfn
 refine⟨⟨fn,hfn,by simp [hb],hname⟩,fun x y hx B w0 σ w vs hi hg hr=>?_⟩
 have h1:=h x y hx
 rw [ZIK] at h1
 exact(ZzA hE rfl hF hfn' hb (by rw [Z6i];exact hk x) h1).2 B w0 σ w vs hi (fun g r hh=>hg g r (by rw [hE0];exact hh)) hr
theorem ZOR (hU:Z0L U (EV P gl f mods hmods)):Zqe U (ZAI mods hmods) (Z49 (EV P gl f mods hmods) 1):=
 ZMY hU rfl rfl (fun _=>rfl) (fun g m h=>by simp only [EV,h]) (fun _=>rfl) 0
end
structure Z1d (U:Z5V) (E:Env) (t:Nat):Prop where
 encS:∀a,toV U (U.encS t a)=U.enc t a
 dec:∀v a,U.ZwQ t v=some a->Z18 (E.rows t) (toV U v)=U.enc t a
 cells:∀a,(U.enc t a).cells=Z02 U (cellsS (U.encS t a))
 nr:∀a,Z03 (U.enc t a)=true
 inj:∀a b,U.enc t a=U.enc t b->a=b
section
variable {U:Z5V} {R P:Type}
def ZC {R P:Type} (g:P->Option R):R⊕P->Option R
 | .inl r=>some r
 | .inr q=>g q
def ZAw (T:P->Tr U (R⊕P)):Nat->P->Option R
 | 0,_=>none
 | n+1,p=>(T p).den (ZC (ZAw T n))
noncomputable def ZO (T:P->Tr U (R⊕P)) (p:P):Option R:=ZSq fun n=>ZAw T n p
theorem ZOx {L:Type} {J K:L->Option R} (h:∀l r,J l=some r->K l=some r):∀{T:Tr U L} {r:R},T.den J=some r->T.den K=some r:=by
 intro T
 induction T with
 | leaf l=>intro r hr;exact h l r hr
 | br c a b iha ihb=>intro r hr;cases c with
  | true=>exact iha hr
  | false=>exact ihb hr
 | bind t o k ih=>intro r hr;cases o with
  | none=>cases hr
  | some a=>exact ih a hr
 | chk c a ih=>intro r hr;cases c with
  | true=>exact ih hr
  | false=>cases hr
 | fail=>intro r hr;cases hr
theorem ZHE (T:P->Tr U (R⊕P)):∀n p r,ZAw T n p=some r->ZAw T (n+1) p=some r:=by
 intro n
 induction n with
 | zero=>intro p r h;cases h
 | succ n ih=>
  intro p r h
  refine ZOx ?_ h
  intro l r hl
  cases l with
  | inl a=>exact hl
  | inr q=>exact ih q r hl
theorem ZMy (T:P->Tr U (R⊕P)) {n:Nat} {p:P} {r:R} (h:ZAw T n p=some r):ZO T p=some r:=
 ZPX (fun n a h=>ZHE T n p a h) h
theorem ZV (T:P->Tr U (R⊕P)) (p:P):ZO T p=(T p).den (ZC (ZO T)):=by
 have h1:∀r,ZO T p=some r->(T p).den (ZC (ZO T))=some r:=by
  intro r h
  obtain⟨n,hn⟩:=Zre h
  cases n with
  | zero=>cases hn
  | succ n=>
   refine ZOx ?_ hn
   intro l r hl
   cases l with
   | inl a=>exact hl
   | inr q=>exact ZMy T hl
 have h2:∀r,(T p).den (ZC (ZO T))=some r->ZO T p=some r:=by
  intro r h
  obtain⟨l,hl,hr⟩:=ZF3 h
  have key:∃n,(T p).den (ZC (ZAw T n))=some r:=by
   have hn:∃n,ZC (ZAw T n) l=some r:=by
    cases l with
    | inl a=>exact⟨0,hr⟩
    | inr q=>obtain⟨n,hn⟩:=Zre hr;exact⟨n,hn⟩
   obtain⟨n,hn⟩:=hn
   refine⟨n,?_⟩
   have:∀(X:Tr U (R⊕P)),X.ZA l->X.den (ZC (ZAw T n))=some r:=by
    intro X
    induction X with
    | leaf x=>intro hx;simp only [Tr.ZA] at hx;subst hx;exact hn
    | br c a b iha ihb=>
     rintro (⟨rfl,hx⟩|⟨rfl,hx⟩)
     ·exact iha hx
     ·exact ihb hx
    | bind t o k ih=>rintro ⟨a,rfl,hx⟩;exact ih a hx
    | chk c a ih=>rintro ⟨rfl,hx⟩;exact ih hx
    | fail=>intro hx;exact hx.elim
   exact this _ hl
  obtain⟨n,hn⟩:=key
  exact ZMy T (n:=n+1) hn
 cases ha:ZO T p with
 | some r=>exact(h1 r ha).symm
 | none=>
  cases hb:(T p).den (ZC (ZO T)) with
  | none=>rfl
  | some r=>rw [h2 r hb] at ha;cases ha
structure Z08 (U:Z5V) where
 c:Code
 K:List Fr
 st:SSt U
 sk:Bool
def Zq0 {R:Type} (out:R->SV U.Ty×ZP U) (sp:P->Z08 U):R⊕P->ZQC U
 | .inl r=>.done (out r)
 | .inr q=>.jump (sp q).c (sp q).K (sp q).st
end
def ZSv {U:Z5V} (rt:Nat) (r:U.Ty rt):SV U.Ty×ZP U:=(U.encS rt r,[])
structure Lay where
 keep:List Nat
 fa:List (List Fk)
 fb:List Bf
 sh:Shape
section
variable {U:Z5V}
def ZF2 {L:Type} (bs:List Bool) (t:Tr U L):Tr U L:=match bs with
 | []=>t
 | c::cs=>.chk (ZtH (c::cs)) t
theorem Zh9 {L:Type} {bs:List Bool} {t:Tr U L} {l:L} (h:(ZF2 bs t).ZA l):(∀b∈bs,b=true)/\t.ZA l:=by
 cases bs with
 | nil=>exact⟨by intro b hb;simp at hb,h⟩
 | cons c cs=>exact⟨ZtC h.1,h.2⟩
def layT (kk:Nat) (l:Lay) (st:SSt U):Tr U (SSt U):=
 (ZIO l.fa l.fb kk (l.keep.map fun i=>st.s.getD i .und) st.H).andThen fun r=>
  .when (r.1.take kk=List.range kk) (match l.sh.dec (Zem (r.1.idxOf ·) r.2.1) (ZFS r.2.2 r.1) with
   | some x=>ZF2 x.2 (.leaf ⟨spread .und st.s.length l.keep (l.sh.enc x.1).1,(l.sh.enc x.1).2⟩)
   | none=>.fail)
theorem ZKF (s:List (SV U.Ty)) (keep:List Nat):Z02 U (keep.map fun i=>s.getD i .und)=keep.map fun i=>(Z02 U s).getD i .und:=by
 induction keep with
 | nil=>rfl
 | cons i keep ih=>simp only [List.map_cons,Z02,ih,<- ZeD]
theorem ZPk {E:Env} (hU:Z0L U E) {kk:Nat} {l:Lay} {st st' : SSt U} (h:(layT kk l st).ZA st'):∃ids as H2,pack l.fa l.fb kk (l.keep.map fun i=>(Z44 U st).s.getD i .und) (Z44 U st).H=some (ids,as,H2)/\ids.take kk=List.range kk /\
  Z44 U st' = ⟨spread .und (Z44 U st).s.length l.keep (Z9C (ids.idxOf ·) as),ZyL H2 ids⟩:=by
 simp only [layT,ZB,Z09] at h
 obtain⟨p,hp,hk,h⟩:=h
 have hp' :=Zoz hp
 rw [ZKF] at hp'
 split at h
 ·rename_i x hx
  obtain⟨hb,h⟩:=Zh9 h
  simp only [Tr.ZA] at h
  subst h
  obtain⟨e1,e2⟩:=Shape.ZEU hU hx hb
  refine⟨_,_,_,hp',hk,?_⟩
  rw [Z5P] at e1
  rw [ZjR] at e2
  simp only [Z44]
  rw [e1,e2,Z0M]
  congr 1
  rw [Z0X,ZGs,<- Z0X]
  rfl
 ·simp [Tr.ZA] at h
def ZN5 (E:Env) (fn:Func) (fa:List (List Fk)) (fb:List Bf) (k:Nat) (sh:Shape) (one:Bool) (st:SSt U):Tr U (SV U.Ty×ZP U):=
 (ZPt E fn fa fb k st).andThen fun r=>match one,r.1 with
  | true,.tup _=>.fail
  | true,v=>(match sh.dec [v] r.2 with
   | some x=>ZF2 x.2 (.leaf ((sh.enc x.1).1.headD .und,(sh.enc x.1).2))
   | none=>.fail)
  | false,.tup vs=>(match sh.dec vs r.2 with
   | some x=>ZF2 x.2 (.leaf (.tup (sh.enc x.1).1,(sh.enc x.1).2))
   | none=>.fail)
  | false,_=>.fail
theorem ZNw {E:Env} (hU:Z0L U E) {fn:Func} {fa:List (List Fk)} {fb:List Bf} {k:Nat} {sh:Shape} {one:Bool} {st:SSt U} {r:SV U.Ty×ZP U} (h:(ZN5 E fn fa fb k sh one st).ZA r):Zh E fn fa fb k (Z44 U st) (toV U r.1,toH U r.2):=by
 simp only [ZN5,ZB] at h
 obtain⟨q,hq,h⟩:=h
 have hz:=ZO4 hU hq
 have key:toV U q.1=toV U r.1/\toH U q.2=toH U r.2:=by
  split at h
  ·simp [Tr.ZA] at h
  ·split at h
   ·rename_i x hx
    obtain⟨hb,h⟩:=Zh9 h
    simp only [Tr.ZA] at h
    subst h
    obtain⟨e1,e2⟩:=Shape.ZEU hU hx hb
    refine⟨?_,e2⟩
    cases he:(sh.enc x.1).1 with
    | nil=>rw [he] at e1;cases e1
    | cons y ys=>
     rw [he] at e1
     simp only [Z02,List.cons.injEq] at e1
     exact e1.1
   ·simp [Tr.ZA] at h
  ·rename_i vs hvs
   split at h
   ·rename_i x hx
    obtain⟨hb,h⟩:=Zh9 h
    simp only [Tr.ZA] at h
    subst h
    obtain⟨e1,e2⟩:=Shape.ZEU hU hx hb
    refine⟨?_,e2⟩
    rw [hvs]
    simp only [toV,e1]
   ·simp [Tr.ZA] at h
  ·simp [Tr.ZA] at h
 rw [<- key.1,<- key.2]
 exact hz
def ZdB (E:Env) (M:Mdl U) (A:Nat->Option Lay) (f:FuncId) (fn:Func) (kk:Nat) (D:SSt U->Tr U (SV U.Ty×ZP U)):Nat->Ctl->List Fr->SSt U->Bool->Tr U (ZQC U)
 | 0,_,_,_,_=>.fail
 | n+1,.run c,K,st,sk=>
  match c with
  | .skip=>ZdB E M A f fn kk D n .nxt K st sk
  | .region id ops draw=>
   let go:Tr U (ZQC U):=if draw then (if E.calm f id then (ZNz E M ops st).andThen fun st' =>ZdB E M A f fn kk D n .nxt K st' false else .fail)
    else (opsT E M ops (List.range ops.size) st).andThen fun st' =>ZdB E M A f fn kk D n .nxt K st' false
   match sk with
   | true=>go
   | false=>match A id with
    | none=>go
    | some l=>(layT kk l st).andThen fun st' =>.leaf (.jump (.region id ops draw) K st')
  | .seq a b=>ZdB E M A f fn kk D n (.run a) (.seq b::K) st sk
  | .cond c a b=>match evS E st.s c with
   | .lit (.bool true)=>ZdB E M A f fn kk D n (.run a) K st sk
   | .lit (.bool false)=>ZdB E M A f fn kk D n (.run b) K st sk
   | .sb t=>.br t (ZdB E M A f fn kk D n (.run a) K st sk) (ZdB E M A f fn kk D n (.run b) K st sk)
   | _=>.fail
  | .block id b=>ZdB E M A f fn kk D n (.run b) (.blk id::K) st sk
  | .loop b=>ZdB E M A f fn kk D n (.run b) (.loop b::K) st sk
  | .scope b=>ZdB E M A f fn kk D n (.run b) K st sk
  | .label _=>ZdB E M A f fn kk D n .nxt K st sk
  | .exit id=>ZdB E M A f fn kk D n (.exit id) K st sk
  | .ret=>ZdB E M A f fn kk D n .ret K st sk
  | _=>.fail
 | n+1,.nxt,[],st,_=>(D st).andThen fun v=>.leaf (.done v)
 | n+1,.nxt,.seq c::K,st,sk=>ZdB E M A f fn kk D n (.run c) K st sk
 | n+1,.nxt,.blk _::K,st,sk=>ZdB E M A f fn kk D n .nxt K st sk
 | n+1,.nxt,.loop b::K,st,sk=>ZdB E M A f fn kk D n (.run b) (.loop b::K) st sk
 | n+1,.exit id,.blk i::K,st,sk=>if id=i then ZdB E M A f fn kk D n .nxt K st sk else ZdB E M A f fn kk D n (.exit id) K st sk
 | n+1,.exit id,_::K,st,sk=>ZdB E M A f fn kk D n (.exit id) K st sk
 | n+1,.exit _,[],_,_=>.fail
 | n+1,.ret,[],st,_=>(D st).andThen fun v=>.leaf (.done v)
 | n+1,.ret,_::K,st,sk=>ZdB E M A f fn kk D n .ret K st sk
theorem ZPu {E:Env} {M:Mdl U} {A:Nat->Option Lay} {call:Z24} (hU:Z0L U E) (hM:Zqe U M call) {f:FuncId} {fn:Func} {kk:Nat} {D:SSt U->Tr U (SV U.Ty×ZP U)} {Z:St->V×Heap->Prop} (hD:∀st s,(D st).ZA s->Z (Z44 U st) (toV U s.1,toH U s.2)) {r:V×Heap}:∀(n:Nat) (ctl:Ctl) (K:List Fr) (st:SSt U) (sk:Bool) (l:ZQC U),
  (ZdB E M A f fn kk D n ctl K st sk).ZA l->ZNB call E f fn kk Z l r->Z1y call E f fn kk Z ctl K (Z44 U st) r:=by
 intro n
 induction n with
 | zero=>intro ctl K st sk l h;simp [ZdB,Tr.ZA] at h
 | succ n ih=>
  intro ctl K st sk l h hl
  cases ctl with
  | run c=>
   cases c with
   | skip=>exact .skip (ih _ _ _ _ _ h hl)
   | region id ops draw=>
    simp only [ZdB] at h
    have go:(if draw=true then (if E.calm f id=true then (ZNz E M ops st).andThen fun st' =>ZdB E M A f fn kk D n .nxt K st' false else .fail)
      else (opsT E M ops (List.range ops.size) st).andThen fun st' =>ZdB E M A f fn kk D n .nxt K st' false:Tr U (ZQC U)).ZA l->Z1y call E f fn kk Z (.run (.region id ops draw)) K (Z44 U st) r:=by
     intro hg
     cases draw with
     | true=>
      simp only [if_true] at hg
      by_cases hc:E.calm f id=true
      ·rw [if_pos hc,ZB] at hg
       obtain⟨st1,h1,h2⟩:=hg
       exact .draw hc (ZO6 hU hM h1) (ih _ _ _ _ _ h2 hl)
      ·rw [if_neg hc] at hg
       simp [Tr.ZA] at hg
     | false=>
      simp only [Bool.false_eq_true,if_false] at hg
      rw [ZB] at hg
      obtain⟨st1,h1,h2⟩:=hg
      exact .region (ZQn hU hM h1) (ih _ _ _ _ _ h2 hl)
    cases sk with
    | true=>exact go h
    | false=>
     simp only at h
     split at h
     ·exact go h
     ·rename_i l' hA
      simp only [ZB,Tr.ZA] at h
      obtain⟨st1,ht,rfl⟩:=h
      obtain⟨ids,as,H2,h1,h2,h3⟩:=ZPk hU ht
      have hl' : Z1y call E f fn kk Z (.run (.region id ops draw)) K (Z44 U st1) r:=hl
      rw [h3] at hl'
      exact .ZS7 h1 h2 hl'
   | seq a b=>exact .seq (ih _ _ _ _ _ h hl)
   | cond c a b=>
    simp only [ZdB] at h
    have hev:ev E (Z44 U st).s c=toV U (evS E st.s c):=Z2Z E st.s c
    split at h
    ·rename_i hc
     rw [hc] at hev
     exact .cond (t:=true) hev (ih _ _ _ _ _ h hl)
    ·rename_i hc
     rw [hc] at hev
     exact .cond (t:=false) hev (ih _ _ _ _ _ h hl)
    ·rename_i t hc
     rw [hc] at hev
     simp only [Tr.ZA] at h
     rcases h with ⟨rfl,h⟩|⟨rfl,h⟩
     ·exact .cond (t:=true) hev (ih _ _ _ _ _ h hl)
     ·exact .cond (t:=false) hev (ih _ _ _ _ _ h hl)
    ·simp [Tr.ZA] at h
   | block id b=>exact .block (ih _ _ _ _ _ h hl)
   | loop b=>exact .loop (ih _ _ _ _ _ h hl)
   | scope b=>exact .scope (ih _ _ _ _ _ h hl)
   | label l=>exact .label (ih _ _ _ _ _ h hl)
   | exit id=>exact .exit (ih _ _ _ _ _ h hl)
   | ret=>exact .ret (ih _ _ _ _ _ h hl)
   | _=>simp [ZdB,Tr.ZA] at h
  | nxt=>
   cases K with
   | nil=>
    simp only [ZdB,ZB,Tr.ZA] at h
    obtain⟨v,h1,rfl⟩:=h
    have:r=(toV U v.1,toH U v.2):=hl
    rw [this]
    exact .finN (hD _ _ h1)
   | cons x K=>
    cases x with
    | seq c=>exact .nseq (ih _ _ _ _ _ h hl)
    | blk i=>exact .nblk (ih _ _ _ _ _ h hl)
    | loop b=>exact .ZRI (ih _ _ _ _ _ h hl)
  | exit id=>
   cases K with
   | nil=>simp [ZdB,Tr.ZA] at h
   | cons x K=>
    cases x with
    | seq c=>exact .eseq (ih _ _ _ _ _ h hl)
    | blk i=>
     simp only [ZdB] at h
     split at h
     ·rename_i hi
      subst hi
      exact .eblk (ih _ _ _ _ _ h hl)
     ·rename_i hi
      exact .ZSd hi (ih _ _ _ _ _ h hl)
    | loop b=>exact .ZQR (ih _ _ _ _ _ h hl)
  | ret=>
   cases K with
   | nil=>
    simp only [ZdB,ZB,Tr.ZA] at h
    obtain⟨v,h1,rfl⟩:=h
    have:r=(toV U v.1,toH U v.2):=hl
    rw [this]
    exact .finR (hD _ _ h1)
   | cons x K=>exact .rany (ih _ _ _ _ _ h hl)
theorem Zt6 {R P:Type} {E:Env} {M:Mdl U} {A:Nat->Option Lay} {call:Z24} (hU:Z0L U E) (hM:Zqe U M call) {f:FuncId} {fn:Func} {kk:Nat} {D:SSt U->Tr U (SV U.Ty×ZP U)} {Z:St->V×Heap->Prop} (hD:∀st s,(D st).ZA s->Z (Z44 U st) (toV U s.1,toH U s.2))
  {out:R->SV U.Ty×ZP U} {N:Nat} (T:P->Tr U (R⊕P)) (sp:P->Z08 U)
  (h:∀p,ZdB E M A f fn kk D N (.run (sp p).c) (sp p).K (sp p).st (sp p).sk=(T p).map (Zq0 out sp)) {p:P} {r:R} (hr:ZO T p=some r) :
  Z1y call E f fn kk Z (.run (sp p).c) (sp p).K (Z44 U (sp p).st) (toV U (out r).1,toH U (out r).2):=by
 obtain⟨n,hn⟩:=Zre hr
 clear hr
 induction n generalizing p r with
 | zero=>cases hn
 | succ n ih=>
  obtain⟨l,h1,h2⟩:=ZF3 hn
  have h3:=ZNS (g:=Zq0 out sp) h1
  rw [<- h p] at h3
  refine ZPu hU hM hD N _ _ _ _ _ h3 ?_
  cases l with
  | inl a=>
   simp only [ZC,Option.some.injEq] at h2
   subst h2
   rfl
  | inr q=>exact ih h2
end
def spot {U:Z5V} (c:Code) (p:List Nat) (n:Nat) (keep:List Nat) (e:List (SV U.Ty)×ZP U):Z08 U:=⟨(nav c p []).1,(nav c p []).2,⟨spread .und n keep e.1,e.2⟩,true⟩
theorem ZEV {U:Z5V} {P:Program} {gl:Nat->Option (List V)} {f:FuncId} {mods:FuncId->Option (Mod U)} {hmods:FuncId->List FuncId->Option (HMod U)} {E0:Env} (hE0:E0.ZdT=gl) (hU:Z0L U (EV P gl f mods hmods)) (hmix:P.follows .mixedOrders=true) {fn:Func} {c:Code}
  (hok:∀g m,mods g=some m->Z0a P E0 g m) (hhok:∀g k m,hmods g k=some m->Z4n P E0 g m) (hfn:P.funcs[f]? = some fn) (hname:(fn.name == "runtime.NumGoroutine")=false) (hb:fn.body=some c) (hcalm:Z4G (EV P gl f mods hmods) f c=true) (m:Mod U)
  {Pt:Type} {A:Nat->Option Lay} {N:Nat} (T:Pt->Tr U (U.Ty m.rt⊕Pt)) (sp:Pt->Z08 U)
  (h:∀p,ZdB (EV P gl f mods hmods) (ZAI mods hmods) A f fn 0 (ZJ6 (EV P gl f mods hmods) fn) N (.run (sp p).c) (sp p).K (sp p).st (sp p).sk=(T p).map (Zq0 (ZSv m.rt) sp))
  (b0:Zor U m.ts->Pt) (hm:∀x,m.fn x=ZO T (b0 x)) (hsp:∀x,sp (b0 x)=⟨c,[],Zy1 m.ts x fn.ntmps,false⟩):Z0a P E0 f m:=by
 refine fn_ok hE0 hU hmix hok hhok hfn hname hb hcalm m fun x a hx=>?_
 rw [hm] at hx
 have:=Zt6 hU (ZOR hU) (fun st s hs=>ZNG hU hs) T sp h hx
 rw [hsp] at this
 simp only [ZSv,hU.encS] at this
 exact this
theorem ZMb {U:Z5V} {P:Program} {gl:Nat->Option (List V)} {f:FuncId} {mods:FuncId->Option (Mod U)} {hmods:FuncId->List FuncId->Option (HMod U)} {E0:Env} (hE0:E0.ZdT=gl) (hU:Z0L U (EV P gl f mods hmods)) (hmix:P.follows .mixedOrders=true) {fn:Func} {c:Code}
  (hok:∀g m,mods g=some m->Z0a P E0 g m) (hhok:∀g k m,hmods g k=some m->Z4n P E0 g m) (hfn:P.funcs[f]? = some fn) (hname:(fn.name == "runtime.NumGoroutine")=false) (hb:fn.body=some c) (hcalm:Z4G (EV P gl f mods hmods) f c=true) (m:HMod U)
  {fa:List (List Fk)} {fb:List Bf} {k:Nat} (hk:∀x:m.sin.X U,(m.sin.enc x).2.length=k) {Pt:Type} {A:Nat->Option Lay} {N:Nat} (T:Pt->Tr U (U.Ty m.ky⊕Pt)) (sp:Pt->Z08 U)
  (h:∀p,ZdB (EV P gl f mods hmods) (ZAI mods hmods) A f fn k (ZN5 (EV P gl f mods hmods) fn fa fb k m.ZME m.one) N (.run (sp p).c) (sp p).K (sp p).st (sp p).sk=(T p).map (Zq0 m.out sp))
  (b0:m.sin.X U->Pt) (hm:∀x:m.sin.X U,m.fn x=ZO T (b0 x)) (hsp:∀x:m.sin.X U,sp (b0 x)=⟨c,[],ZAR (m.sin.enc x) fn.ntmps,false⟩):Z4n P E0 f m:=by
 refine ZRn hE0 hU hmix hok hhok hfn hname hb hcalm m hk (fa:=fa) (fb:=fb) fun x y hx=>?_
 rw [hm] at hx
 have:=Zt6 hU (ZOR hU) (fun st s hs=>ZNw hU hs) T sp h hx
 rw [hsp] at this
 exact this
def Z7Q (P:Program):TypeDesc->Option (List (Nat×TypeId))
 | .struct fs=>some (fs.toList.map fun f=>(f.offset,f.type))
 | .array n e=>some ((List.range n).map fun i=>(i*P.cellsOf e,e))
 | _=>none
def Z7Y (P:Program) (t:TypeId):Bool:=match P.underlying t with|some d=>d.isRow|none=>false
def Z7M (P:Program):Nat->TypeId->List V->Prop
 | 0,_,_=>False
 | d+1,t,cs=>match P.underlying t with
  | some .bool=>∃b,cs=[.lit (.bool b)]
  | some (.int k)=>∃n,cs=[.lit (.int k n)]/\(Lit.int k n).wf=true
  | some .string=>∃s,cs=[.lit (.string s)]/\s.size<=maxLen
  | some (.slice e)=>∃xs,cs=[.sl false (P.cellsOf e) xs]/\xs.length<=maxLen/\∀x∈xs,(if Z7Y P e then ∃ds,x = .agg ds else x.cells=[x])/\Z7M P d e x.cells
  | some dd=>match Z7Q P dd with
   | some ss=>cs.length=P.cellsOf t/\∀s∈ss,Z7M P d s.2 ((cs.drop s.1).take (P.cellsOf s.2))
   | none=>False
  | none=>False
def covers (P:Program):Nat->List (Nat×TypeId)->Nat->Bool
 | off,[],n=>off==n
 | off,s::ss,n=>s.1==off&&covers P (off+P.cellsOf s.2) ss n
def Zi6 (P:Program):Nat->TypeId->Bool
 | 0,_=>false
 | d+1,t=>match P.underlying t with
  | some .bool=>true
  | some (.int _)=>true
  | some .string=>true
  | some (.slice e)=>Zi6 P d e&&decide (0<P.cellsOf e)
  | some dd=>match Z7Q P dd with
   | some ss=>ss.all (fun s=>Zi6 P d s.2)&&covers P 0 ss (P.cellsOf t)
   | none=>false
  | none=>false
def Zo9 (w:World):Nat->Nat->Prop:=fun b c=>∃u,w.cell? ⟨b,c,none⟩=some u
structure Read (P:Program) (w:World) (d:Nat) (t:TypeId) (cs:List Value) (xs:List V):Prop where
 Z8h:Zx (bare (Zo9 w)) w xs cs
 ty:Z7M P d t xs
 ok:∀x∈xs,fzV x=true
 one:∀u∈cs,u.oneCell' = true
theorem ZAp {P:Program}:∀{ss:List (Nat×TypeId)} {off n:Nat},covers P off ss n=true->off<=n/\∀s∈ss,off<=s.1/\s.1+P.cellsOf s.2<=n:=by
 intro ss
 induction ss with
 | nil=>intro off n h;simp only [covers,beq_iff_eq] at h;exact⟨by omega,by simp⟩
 | cons s ss ih=>
  intro off n h
  simp only [covers,Bool.and_eq_true,beq_iff_eq] at h
  obtain⟨h1,h2⟩:=h
  obtain⟨h3,h4⟩:=ih h2
  refine⟨by omega,fun x hx=>?_⟩
  rcases List.mem_cons.1 hx with rfl|hx
  ·omega
  ·have:=h4 x hx;omega
theorem ZJk {P:Program} {w:World} {d:Nat} {cs:List Value}:∀{ss:List (Nat×TypeId)} {off:Nat},covers P off ss cs.length=true->(∀s∈ss,∃xs,Read P w d s.2 ((cs.drop s.1).take (P.cellsOf s.2)) xs) ->
  ∃xs,Zx (bare (Zo9 w)) w xs (cs.drop off)/\(∀x∈xs,fzV x=true)/\(∀u∈cs.drop off,u.oneCell' = true)/\∀s∈ss,Z7M P d s.2 ((xs.drop (s.1 - off)).take (P.cellsOf s.2)):=by
 intro ss
 induction ss with
 | nil=>
  intro off hc _
  simp only [covers,beq_iff_eq] at hc
  refine⟨[],?_,by simp,?_,by simp⟩
  ·rw [hc,List.drop_length];exact .nil
  ·rw [hc,List.drop_length];simp
 | cons s ss ih=>
  intro off hc h
  simp only [covers,Bool.and_eq_true,beq_iff_eq] at hc
  obtain⟨h1,h2⟩:=hc
  obtain⟨x1,r1⟩:=h s (by simp)
  obtain⟨x2,q1,q2,q3,q4⟩:=ih h2 (fun s' hs' =>h s' (by simp [hs']))
  have hle:=(ZAp h2).1
  rw [h1] at r1
  have hlen:x1.length=P.cellsOf s.2:=by
   have:=r1.Z8h.length
   rw [List.length_take,List.length_drop] at this
   omega
  have hcut:cs.drop off=(cs.drop off).take (P.cellsOf s.2)++cs.drop (off+P.cellsOf s.2):=by
   rw [<- List.drop_drop,List.take_append_drop]
  refine⟨x1++x2,?_,?_,?_,?_⟩
  ·rw [hcut];exact r1.Z8h.append q1
  ·intro x hx
   rcases List.mem_append.1 hx with hx|hx
   ·exact r1.ok x hx
   ·exact q2 x hx
  ·intro u hu
   rw [hcut] at hu
   rcases List.mem_append.1 hu with hu|hu
   ·exact r1.one u hu
   ·exact q3 u hu
  ·intro s' hs'
   rcases List.mem_cons.1 hs' with rfl|hs'
   ·rw [h1,Nat.sub_self,List.drop_zero,List.take_append_of_le_length (by omega),List.take_of_length_le (by omega)]
    exact r1.ty
   ·have hge:=((ZAp h2).2 s' hs').1
    have:s'.1 - off=x1.length+(s'.1 - (off+P.cellsOf s.2)):=by omega
    rw [this,List.drop_append]
    have e1:x1.drop (x1.length+(s'.1 - (off+P.cellsOf s.2)))=[]:=List.drop_eq_nil_of_le (by omega)
    rw [e1,List.nil_append]
    have e2:x1.length+(s'.1 - (off+P.cellsOf s.2)) - x1.length=s'.1 - (off+P.cellsOf s.2):=by omega
    rw [e2]
    exact q4 s' hs'
def ZJ3 (P:Program) (t:TypeId) (xs:List V):V:=if Z7Y P t then .agg xs else xs.headD .no
def ZQu (P:Program) (t:TypeId) (cs:List Value):Value:=if Z7Y P t then .agg cs.toArray else cs.headD undef
theorem Z7M.single {P:Program} {d:Nat} {t:TypeId} {xs:List V} (h:Z7M P d t xs) (hr:Z7Y P t=false):∃x,xs=[x]/\x.cells=[x]:=by
 cases d with
 | zero=>exact h.elim
 | succ d=>
  unfold Z7M at h
  unfold Z7Y at hr
  split at h
  ·obtain⟨b,rfl⟩:=h;exact⟨_,rfl,rfl⟩
  ·obtain⟨n,rfl,_⟩:=h;exact⟨_,rfl,rfl⟩
  ·obtain⟨s,rfl,_⟩:=h;exact⟨_,rfl,rfl⟩
  ·obtain⟨ys,rfl,_⟩:=h;exact⟨_,rfl,rfl⟩
  ·rename_i dd _ _ _ _ hd
   rw [hd] at hr
   split at h
   ·rename_i ss hss
    unfold Z7Q at hss
    split at hss
    ·simp [TypeDesc.isRow] at hr
    ·simp [TypeDesc.isRow] at hr
    ·cases hss
   ·exact h.elim
  ·exact h.elim
theorem Read.arg {P:Program} {w:World} {d:Nat} {t:TypeId} {cs:List Value} {xs:List V} (h:Read P w d t cs xs) :
  Zx (bare (Zo9 w)) w [ZJ3 P t xs] [ZQu P t cs]/\fzV (ZJ3 P t xs)=true/\(ZQu P t cs).cells.toList=cs/\(ZJ3 P t xs).cells=xs/\(if Z7Y P t then ∃ds,ZJ3 P t xs = .agg ds else (ZJ3 P t xs).cells=[ZJ3 P t xs]):=by
 unfold ZJ3 ZQu
 cases hr:Z7Y P t with
 | true=>
  simp only [if_true]
  refine⟨?_,?_,by simp [Value.cells],rfl,⟨xs,rfl⟩⟩
  ·have:=Zx.agg h.Z8h h.one (xs:=[]) (vs:=[]) .nil
   exact this
  ·simp only [fzV,okV,Z03,Bool.true_and]
   rw [Z1Z]
   exact fun x hx=>Z7o (h.ok x hx)
 | false=>
  simp only [Bool.false_eq_true,if_false]
  obtain⟨x,rfl,hx⟩:=h.ty.single hr
  obtain⟨u,us,rfl,h1,h2⟩:=h.Z8h.ZX
  have:us=[]:=h2.Z0Y
  subst this
  refine⟨h1,h.ok x (by simp),?_,hx,hx⟩
  have hone:=h.one u (by simp)
  simp only [List.headD_cons]
  cases u<;>simp_all [Value.cells,Value.oneCell']
section
variable {H:Type} {enc:TypeId×Value->H} {P:Program} {w:World} {base:Nat} {held:Bool}
theorem ZP9:∀(d:Nat) (t:TypeId) (n:Nat) (cs:List Value) (x:DataW H×List MemPlace),Zi6 P d t=true->DataW.trod enc P w base (fun _=>true) held n t cs=some x->∃xs,Read P w d t cs xs:=by
 intro d
 induction d with
 | zero=>intro t n cs x h;simp [Zi6] at h
 | succ d ih=>
  intro t n cs x hp h
  unfold Zi6 at hp
  split at hp
  ·rename_i ht
   obtain⟨b,rfl,_⟩:=DataW.trod_bool ht h
   exact⟨[.lit (.bool b)],.lit rfl .nil,by unfold Z7M;rw [ht];exact⟨b,rfl⟩,by simp [fzV,okV,Z03],by simp [Value.oneCell']⟩
  ·rename_i k ht
   obtain⟨m,rfl,_,hw⟩:=DataW.trod_int ht h
   exact⟨[.lit (.int k m)],.lit (by simp [leaf,hw]) .nil,by unfold Z7M;rw [ht];exact⟨m,rfl,hw⟩,by simp [fzV,okV,Z03],by simp [Value.oneCell']⟩
  ·rename_i ht
   obtain⟨s,rfl,_,hs⟩:=DataW.trod_string ht h
   exact⟨[.lit (.string s)],.lit (by simp [leaf,hs]) .nil,by unfold Z7M;rw [ht];exact⟨s,rfl,hs⟩,by simp [fzV,okV,Z03],by simp [Value.oneCell']⟩
  ·rename_i e ht
   simp only [Bool.and_eq_true,decide_eq_true_eq] at hp
   obtain⟨hpe,hpos⟩:=hp
   have mk:∀(v:Value) (es:List V),Zx (bare (Zo9 w)) w [.sl false (P.cellsOf e) es] [v]->v.oneCell' = true->es.length<=maxLen->(∀y∈es,fzV y=true) ->
     (∀y∈es,(if Z7Y P e then ∃ds,y = .agg ds else y.cells=[y])/\Z7M P d e y.cells)->∃xs,Read P w (d+1) t [v] xs:=by
    intro v es h1 h2 h3 h4 h5
    refine⟨_,h1,?_,?_,by simpa using h2⟩
    ·unfold Z7M;rw [ht];exact⟨es,rfl,h3,h5⟩
    ·intro y hy
     simp only [List.mem_singleton] at hy
     subst hy
     simp only [fzV,okV,Z03,Bool.true_and]
     rw [Z1Z]
     exact fun z hz=>Z7o (h4 z hz)
   rcases DataW.trod_slice ht h with ⟨rfl,_⟩|⟨a,len,cap,elems,rest,m,rfl,rfl,_,hb,hlc,hcm,hel,helem,hrest,_⟩
   ·exact mk _ [] (.Z4u .nil) rfl (by simp) (by simp) (by simp)
   ·obtain⟨hrl,hrest⟩:=hrest rfl
    by_cases hc0:cap=0
    ·subst hc0
     have:len=0:=by omega
     subst this
     exact mk _ [] (.Z6h a .nil) rfl (by simp) (by simp) (by simp)
    ·
     have hspot:a.spot=none:=by
      have hfirst:∃c0,w.cells? base (a.add 0) (P.cellsOf e)=some c0:=by
       by_cases hl0:0<len
       ·have:=helem 0 hl0
        rw [Nat.zero_mul] at this
        have hlt:0<elems.length:=by omega
        rw [List.getElem?_eq_getElem hlt] at this
        cases hq:w.cells? base (a.add 0) (P.cellsOf e) with
        | none=>simp [hq] at this
        | some c0=>exact⟨c0,rfl⟩
       ·have hl0:len=0:=by omega
        subst hl0
        have:=hrest 0 (by omega)
        simp only [Nat.zero_add,Nat.zero_mul] at this
        have hlt:0<rest.length:=by omega
        rw [List.getElem?_eq_getElem hlt] at this
        cases hq:w.cells? base (a.add 0) (P.cellsOf e) with
        | none=>simp [hq] at this
        | some c0=>exact⟨c0,rfl⟩
      obtain⟨c0,hc0'⟩:=hfirst
      obtain⟨_,e2,e3⟩:=World.cells?_some hc0'
      have:=e3 0 hpos
      have hlt:0<c0.length:=by omega
      rw [List.getElem?_eq_getElem hlt] at this
      simp only [Addr.add,if_true] at this
      unfold World.cell? at this
      split at this
      ·cases hs:a.spot with
       | none=>rfl
       | some s=>simp [hs] at this
      ·cases this
     obtain⟨ab,ao,as⟩:=a
     simp only at hspot
     subst hspot
     have each:∀i,i<len->∃ci xi,w.cells? base (Addr.add ⟨ab,ao,none⟩ (i*P.cellsOf e)) (P.cellsOf e)=some ci/\Read P w d e ci xi:=by
      intro i hi
      have:=helem i hi
      have hlt:i<elems.length:=by omega
      rw [List.getElem?_eq_getElem hlt] at this
      cases hq:w.cells? base (Addr.add ⟨ab,ao,none⟩ (i*P.cellsOf e)) (P.cellsOf e) with
      | none=>simp [hq] at this
      | some ci=>
       simp only [hq,Option.bind_some] at this
       obtain⟨xi,hxi⟩:=ih e m ci _ hpe this
       exact⟨ci,xi,rfl,hxi⟩
     have list:∀k,k<=len->∃(es:List V) (us:List Value),es.length=k/\Zx (bare (Zo9 w)) w es us/\(∀y∈es,fzV y=true)/\(∀u∈us,u.cells.size=P.cellsOf e)/\(∀u∈flat us,u.oneCell' = true) /\
       (∀y∈es,(if Z7Y P e then ∃ds,y = .agg ds else y.cells=[y])/\Z7M P d e y.cells)/\(∀j u,(flat us)[j]? = some u->w.cell? ⟨ab,ao+j,none⟩=some u):=by
      intro k
      induction k with
      | zero=>intro _;exact⟨[],[],rfl,.nil,by simp,by simp,by simp [flat],by simp,by simp [flat]⟩
      | succ k ihk=>
       intro hk
       obtain⟨es,us,l1,l2,l3,l4,l5,l6,l7⟩:=ihk (by omega)
       obtain⟨ci,xi,hci,hr⟩:=each k (by omega)
       obtain⟨a1,a2,a3,a4,a5⟩:=hr.arg
       obtain⟨_,c2,c3⟩:=World.cells?_some hci
       have hsz:(ZQu P e ci).cells.size=P.cellsOf e:=by
        have:=congrArg List.length a3
        simpa [c2] using this
       refine⟨es++[ZJ3 P e xi],us++[ZQu P e ci],by simp [l1],l2.append a1,?_,?_,?_,?_,?_⟩
       ·intro y hy
        rcases List.mem_append.1 hy with hy|hy
        ·exact l3 y hy
        ·rw [List.mem_singleton.1 hy];exact a2
       ·intro u hu
        rcases List.mem_append.1 hu with hu|hu
        ·exact l4 u hu
        ·rw [List.mem_singleton.1 hu];exact hsz
       ·intro u hu
        rw [Z2x] at hu
        rcases List.mem_append.1 hu with hu|hu
        ·exact l5 u hu
        ·rw [Z26,a3] at hu
         exact hr.one u hu
       ·intro y hy
        rcases List.mem_append.1 hy with hy|hy
        ·exact l6 y hy
        ·rw [List.mem_singleton.1 hy];exact⟨a5,by rw [a4];exact hr.ty⟩
       ·intro j u hj
        rw [Z2x,Z26,a3] at hj
        have hfl:(flat us).length=k*P.cellsOf e:=by rw [flat_length l4,<- l2.length,l1]
        by_cases hlt:j<(flat us).length
        ·rw [List.getElem?_append_left hlt] at hj
         exact l7 j u hj
        ·rw [List.getElem?_append_right (by omega)] at hj
         have hjl:j - (flat us).length<P.cellsOf e:=by
          have:=(List.getElem?_eq_some_iff.1 hj).1
          omega
         have:=c3 _ hjl
         rw [hj] at this
         rw [<- this]
         congr 1
         have hadd:Addr.add (Addr.add ⟨ab,ao,none⟩ (k*P.cellsOf e)) (j - (flat us).length)=⟨ab,ao+j,none⟩:=by
          simp only [Addr.add]
          split<;>split<;>simp<;>omega
         rw [hadd]
     obtain⟨es,us,l1,l2,l3,l4,l5,l6,l7⟩:=list len (Nat.le_refl _)
     subst l1
     refine mk _ es ?_ rfl (by omega) l3 l6
     exact .sl ab ao cap (P.cellsOf e) l2 l3 l4 l5 hlc hcm (fun j u hj=>⟨⟨u,l7 j u hj⟩,l7 j u hj⟩) .nil
  ·rename_i dd _ _ _ _ ht
   split at hp
   ·rename_i ss hss
    simp only [Bool.and_eq_true,List.all_eq_true] at hp
    obtain⟨hall,hcov⟩:=hp
    have parts:cs.length=P.cellsOf t/\∀s∈ss,∃xs,Read P w d s.2 ((cs.drop s.1).take (P.cellsOf s.2)) xs:=by
     cases dd with
     | struct fs=>
      simp only [Z7Q,Option.some.injEq] at hss
      obtain⟨xs,m,_,_,hlen,hxl,hf⟩:=DataW.trod_struct ht h
      refine⟨hlen,fun s hs=>?_⟩
      have hs' :=hs
      rw [<- hss] at hs
      obtain⟨f,hfm,rfl⟩:=List.mem_map.1 hs
      obtain⟨i,hi,hfi⟩:=List.getElem_of_mem hfm
      have hfi' : fs[i]? = some f:=by simp at hi;rw [Array.getElem?_eq_getElem hi];simp at hfi;rw [hfi]
      have:=hf i f hfi'
      have hlt:i<xs.length:=by simp at hi;omega
      rw [List.getElem?_eq_getElem hlt] at this
      exact ih f.type m _ _ (hall _ hs') this
     | array n' e=>
      simp only [Z7Q,Option.some.injEq] at hss
      obtain⟨xs,m,_,_,hlen,hxl,hf⟩:=DataW.trod_array ht h
      refine⟨hlen,fun s hs=>?_⟩
      have hs' :=hs
      rw [<- hss] at hs
      obtain⟨i,hi,rfl⟩:=List.mem_map.1 hs
      have hin:i<n' :=by simpa using hi
      have:=hf i hin
      have hlt:i<xs.length:=by omega
      rw [List.getElem?_eq_getElem hlt] at this
      exact ih e m _ _ (hall _ hs') this
     | _=>simp [Z7Q] at hss
    obtain⟨hlen,hparts⟩:=parts
    obtain⟨xs,h1,h2,h3,h4⟩:=ZJk (by rw [hlen];exact hcov) hparts
    rw [List.drop_zero] at h1 h3
    refine⟨xs,h1,?_,h2,h3⟩
    unfold Z7M
    rw [ht]
    simp only [Nat.sub_zero] at h4
    split<;>first|(rename_i hq;simp only [Option.some.injEq] at hq;subst hq;simp [Z7Q] at hss;done)|skip
    ·rename_i hq
     simp only [Option.some.injEq] at hq
     subst hq
     rw [hss]
     exact⟨by rw [h1.length];exact hlen,h4⟩
    ·rename_i hq;cases hq
   ·cases hp
  ·cases hp
inductive Zj8 (P:Program) (d:Nat):List TypeId->List V->Prop where
 | nil:Zj8 P d [] []
 | cons {t ts xs as}:Z7M P d t xs->Zj8 P d ts as->Zj8 P d (t::ts) (ZJ3 P t xs::as)
theorem ZIt {r:Reach} {b0:Nat} {d:Nat} {t:TypeId} {v:Value} {xs:List V} (hv:Value.okWide P w r b0 t v) (h:Read P w d t v.cells.toList xs):ZQu P t v.cells.toList=v:=by
 unfold ZQu
 cases hr:Z7Y P t with
 | true=>
  simp only [if_true]
  unfold Z7Y at hr
  split at hr
  ·rename_i dd hd
   unfold Value.okWide at hv
   rw [hd] at hv
   cases dd<;>simp [TypeDesc.isRow] at hr
   ·obtain⟨cs,rfl,_⟩:=hv;simp [Value.cells]
   ·obtain⟨cs,rfl,_⟩:=hv;simp [Value.cells]
  ·cases hr
 | false=>
  simp only [Bool.false_eq_true,if_false]
  obtain⟨x,rfl,_⟩:=h.ty.single hr
  have hne:∀cs,v≠.agg cs:=by
   rintro cs rfl
   unfold Z7Y at hr
   unfold Value.okWide at hv
   split at hv
   ·rename_i hd;rw [hd] at hr;simp [TypeDesc.isRow] at hr
   ·rename_i hd;rw [hd] at hr;simp [TypeDesc.isRow] at hr
   ·unfold Cell.okWide at hv
    split at hv<;>simp_all [Cell.ok]
  cases v<;>first|rfl|exact absurd rfl (hne _)
theorem ZPZ {d:Nat}:∀{ts:List TypeId} {vs:List Value} {ds:List (DataW H)} {ps:List MemPlace},DataW.TrodAll enc P w base (fun _=>true) held ts vs ds ps->(∀t∈ts,Zi6 P d t=true) ->
  (∀(j:Nat) t v,ts[j]? = some t->vs[j]? = some v->∃r b0,Value.okWide P w r b0 t v)->∃as,Zx (bare (Zo9 w)) w as vs/\Zj8 P d ts as:=by
 intro ts
 induction ts with
 | nil=>
  intro vs ds ps h _ _
  cases vs with
  | nil=>exact⟨[],.nil,.nil⟩
  | cons v vs=>cases ds<;>exact h.elim
 | cons t ts ih=>
  intro vs ds ps h hp hv
  cases vs with
  | nil=>exact h.elim
  | cons v vs=>
   cases ds with
   | nil=>exact h.elim
   | cons d0 ds=>
    obtain⟨p,q,⟨fuel,h1⟩,h2,_⟩:=h
    obtain⟨as,r1,r2⟩:=ih h2 (fun t' ht' =>hp t' (by simp [ht'])) (fun j t' v' hj hj' =>hv (j+1) t' v' (by simpa using hj) (by simpa using hj'))
    obtain⟨xs,hx⟩:=ZP9 d t fuel _ _ (hp t (by simp)) h1
    obtain⟨r,b0,hok⟩:=hv 0 t v rfl rfl
    have ha:=hx.arg.1
    rw [ZIt hok hx] at ha
    exact⟨_,Zx.Z0I.2 ⟨ha,r1⟩,.cons hx.ty r2⟩
end
end Go.Proofs.YtjodhcdmhobmoaaGreatDoor.Le
