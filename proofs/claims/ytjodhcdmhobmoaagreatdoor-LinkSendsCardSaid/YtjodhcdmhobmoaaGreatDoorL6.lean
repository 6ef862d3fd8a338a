/- A part of it. -/
import Derived.Test.YtjodhcdmhobmoaaGreatDoorL5
import Derived.OpenShut
import Derived.Carry
import Derived.ProofKit
import Derived.LaidMore
import Derived.MakeChecks
import Derived.FnData
set_option linter.unusedVariables false
set_option linter.unusedSimpArgs false
namespace Go.Proofs.YtjodhcdmhobmoaaGreatDoor.Le
open Go.RowKit (Below)
def Iw (P:Program):TypeDesc->Option (List (Nat×TypeId))
 | .struct fs=>some (fs.toList.map fun f=>(f.offset,f.type))
 | .array n e=>some ((List.range n).map fun i=>(i*P.cellsOf e,e))
 | _=>none
def Iy (P:Program) (t:TypeId):Bool:=match P.underlying t with|some d=>d.isRow|none=>false
def Fj (P:Program):Nat->TypeId->List V->Prop
 | 0,_,_=>False
 | d+1,t,cs=>match P.underlying t with
  | some .bool=>∃b,cs=[.lit (.bool b)]
  | some (.int k)=>∃n,cs=[.lit (.int k n)]/\(Lit.int k n).wf=true
  | some .string=>∃s,cs=[.lit (.string s)]/\s.size<=maxLen
  | some (.slice e)=>∃xs,cs=[.sl false (P.cellsOf e) xs]/\xs.length<=maxLen/\∀x∈xs,(if Iy P e then ∃ds,x = .agg ds else x.cells=[x])/\Fj P d e x.cells
  | some dd=>match Iw P dd with
   | some ss=>cs.length=P.cellsOf t/\∀s∈ss,Fj P d s.2 ((cs.drop s.1).take (P.cellsOf s.2))
   | none=>False
  | none=>False
def covers (P:Program):Nat->List (Nat×TypeId)->Nat->Bool
 | off,[],n=>off==n
 | off,s::ss,n=>s.1==off&&covers P (off+P.cellsOf s.2) ss n
def Ru (P:Program):Nat->TypeId->Bool
 | 0,_=>false
 | d+1,t=>match P.underlying t with
  | some .bool=>true
  | some (.int _)=>true
  | some .string=>true
  | some (.slice e)=>Ru P d e&&decide (0<P.cellsOf e)
  | some dd=>match Iw P dd with
   | some ss=>ss.all (fun s=>Ru P d s.2)&&covers P 0 ss (P.cellsOf t)
   | none=>false
  | none=>false
def MG (w:World):Nat->Nat->Prop:=fun b c=>∃u,w.cell? ⟨b,c,none⟩=some u
structure Read (P:Program) (w:World) (d:Nat) (t:TypeId) (cs:List Value) (xs:List V):Prop where
 D9:AQ (bare (MG w)) w xs cs
 ty:Fj P d t xs
 ok:∀x∈xs,Em x=true
 one:∀u∈cs,u.oneCell' = true
theorem Zcp {P:Program}:∀{ss:List (Nat×TypeId)} {off n:Nat},covers P off ss n=true->off<=n/\∀s∈ss,off<=s.1/\s.1+P.cellsOf s.2<=n:=by
 intro ss
 induction ss with
 | nil=>intro off n h;simp only [covers,beq_iff_eq] at h;exact⟨by omega,by simp⟩
 | cons s ss ih=>
  intro off n h
  simp only [covers,Bool.and_eq_true,beq_iff_eq] at h
  obtain⟨h1,h2⟩:=h
  obtain⟨h3,h4⟩:=ih h2
  refine⟨by omega,fun x hx=>?_⟩
  rcases List.mem_cons.1 hx with rfl|hx
  ·omega
  ·have:=h4 x hx;omega
theorem Zxy {P:Program} {w:World} {d:Nat} {cs:List Value}:∀{ss:List (Nat×TypeId)} {off:Nat},covers P off ss cs.length=true->(∀s∈ss,∃xs,Read P w d s.2 ((cs.drop s.1).take (P.cellsOf s.2)) xs) ->
  ∃xs,AQ (bare (MG w)) w xs (cs.drop off)/\(∀x∈xs,Em x=true)/\(∀u∈cs.drop off,u.oneCell' = true)/\∀s∈ss,Fj P d s.2 ((xs.drop (s.1 - off)).take (P.cellsOf s.2)):=by
 intro ss
 induction ss with
 | nil=>
  intro off hc _
  simp only [covers,beq_iff_eq] at hc
  refine⟨[],?_,by simp,?_,by simp⟩
  ·rw [hc,List.drop_length];exact .nil
  ·rw [hc,List.drop_length];simp
 | cons s ss ih=>
  intro off hc h
  simp only [covers,Bool.and_eq_true,beq_iff_eq] at hc
  obtain⟨h1,h2⟩:=hc
  obtain⟨x1,r1⟩:=h s (by simp)
  obtain⟨x2,q1,q2,q3,q4⟩:=ih h2 (fun s' hs' =>h s' (by simp [hs']))
  have hle:=(Zcp h2).1
  rw [h1] at r1
  have hlen:x1.length=P.cellsOf s.2:=by
   have:=r1.D9.length
   rw [List.length_take,List.length_drop] at this
   omega
  have hcut:cs.drop off=(cs.drop off).take (P.cellsOf s.2)++cs.drop (off+P.cellsOf s.2):=by
   rw [<- List.drop_drop,List.take_append_drop]
  refine⟨x1++x2,?_,?_,?_,?_⟩
  ·rw [hcut];exact r1.D9.append q1
  ·intro x hx
   rcases List.mem_append.1 hx with hx|hx
   ·exact r1.ok x hx
   ·exact q2 x hx
  ·intro u hu
   rw [hcut] at hu
   rcases List.mem_append.1 hu with hu|hu
   ·exact r1.one u hu
   ·exact q3 u hu
  ·intro s' hs'
   rcases List.mem_cons.1 hs' with rfl|hs'
   ·rw [h1,Nat.sub_self,List.drop_zero,List.take_append_of_le_length (by omega),List.take_of_length_le (by omega)]
    exact r1.ty
   ·have hge:=((Zcp h2).2 s' hs').1
    have:s'.1 - off=x1.length+(s'.1 - (off+P.cellsOf s.2)):=by omega
    rw [this,List.drop_append]
    have e1:x1.drop (x1.length+(s'.1 - (off+P.cellsOf s.2)))=[]:=List.drop_eq_nil_of_le (by omega)
    rw [e1,List.nil_append]
    have e2:x1.length+(s'.1 - (off+P.cellsOf s.2)) - x1.length=s'.1 - (off+P.cellsOf s.2):=by omega
    rw [e2]
    exact q4 s' hs'
def MP (P:Program) (t:TypeId) (xs:List V):V:=if Iy P t then .agg xs else xs.headD .no
def Sr (P:Program) (t:TypeId) (cs:List Value):Value:=if Iy P t then .agg cs.toArray else cs.headD undef
theorem Fj.single {P:Program} {d:Nat} {t:TypeId} {xs:List V} (h:Fj P d t xs) (hr:Iy P t=false):∃x,xs=[x]/\x.cells=[x]:=by
 cases d with
 | zero=>exact h.elim
 | succ d=>
  unfold Fj at h
  unfold Iy at hr
  split at h
  ·obtain⟨b,rfl⟩:=h;exact⟨_,rfl,rfl⟩
  ·obtain⟨n,rfl,_⟩:=h;exact⟨_,rfl,rfl⟩
  ·obtain⟨s,rfl,_⟩:=h;exact⟨_,rfl,rfl⟩
  ·obtain⟨ys,rfl,_⟩:=h;exact⟨_,rfl,rfl⟩
  ·rename_i dd _ _ _ _ hd
   rw [hd] at hr
   split at h
   ·rename_i ss hss
    unfold Iw at hss
    split at hss
    ·simp [TypeDesc.isRow] at hr
    ·simp [TypeDesc.isRow] at hr
    ·cases hss
   ·exact h.elim
  ·exact h.elim
theorem Read.arg {P:Program} {w:World} {d:Nat} {t:TypeId} {cs:List Value} {xs:List V} (h:Read P w d t cs xs) :
  AQ (bare (MG w)) w [MP P t xs] [Sr P t cs]/\Em (MP P t xs)=true/\(Sr P t cs).cells.toList=cs/\(MP P t xs).cells=xs/\(if Iy P t then ∃ds,MP P t xs = .agg ds else (MP P t xs).cells=[MP P t xs]):=by
 unfold MP Sr
 cases hr:Iy P t with
 | true=>
  simp only [if_true]
  refine⟨?_,?_,by simp [Value.cells],rfl,⟨xs,rfl⟩⟩
  ·have:=AQ.agg h.D9 h.one (xs:=[]) (vs:=[]) .nil
   exact this
  ·simp only [Em,okV,CU,Bool.true_and]
   rw [KG]
   exact fun x hx=>QQ (h.ok x hx)
 | false=>
  simp only [Bool.false_eq_true,if_false]
  obtain⟨x,rfl,hx⟩:=h.ty.single hr
  obtain⟨u,us,rfl,h1,h2⟩:=h.D9.Dq
  have:us=[]:=h2.FM
  subst this
  refine⟨h1,h.ok x (by simp),?_,hx,hx⟩
  have hone:=h.one u (by simp)
  simp only [List.headD_cons]
  cases u<;>simp_all [Value.cells,Value.oneCell']
section
variable {H:Type} {enc:TypeId×Value->H} {P:Program} {w:World} {base:Nat} {held:Bool}
theorem ZD9:∀(d:Nat) (t:TypeId) (n:Nat) (cs:List Value) (x:DataW H×List MemPlace),Ru P d t=true->DataW.trod enc P w base (fun _=>true) held n t cs=some x->∃xs,Read P w d t cs xs:=by
 intro d
 induction d with
 | zero=>intro t n cs x h;simp [Ru] at h
 | succ d ih=>
  intro t n cs x hp h
  unfold Ru at hp
  split at hp
  ·rename_i ht
   obtain⟨b,rfl,_⟩:=DataW.trod_bool ht h
   exact⟨[.lit (.bool b)],.lit rfl .nil,by unfold Fj;rw [ht];exact⟨b,rfl⟩,by simp [Em,okV,CU],by simp [Value.oneCell']⟩
  ·rename_i k ht
   obtain⟨m,rfl,_,hw⟩:=DataW.trod_int ht h
   exact⟨[.lit (.int k m)],.lit (by simp [leaf,hw]) .nil,by unfold Fj;rw [ht];exact⟨m,rfl,hw⟩,by simp [Em,okV,CU],by simp [Value.oneCell']⟩
  ·rename_i ht
   obtain⟨s,rfl,_,hs⟩:=DataW.trod_string ht h
   exact⟨[.lit (.string s)],.lit (by simp [leaf,hs]) .nil,by unfold Fj;rw [ht];exact⟨s,rfl,hs⟩,by simp [Em,okV,CU],by simp [Value.oneCell']⟩
  ·rename_i e ht
   simp only [Bool.and_eq_true,decide_eq_true_eq] at hp
   obtain⟨hpe,hpos⟩:=hp
   have mk:∀(v:Value) (es:List V),AQ (bare (MG w)) w [.sl false (P.cellsOf e) es] [v]->v.oneCell' = true->es.length<=maxLen->(∀y∈es,Em y=true) ->
     (∀y∈es,(if Iy P e then ∃ds,y = .agg ds else y.cells=[y])/\Fj P d e y.cells)->∃xs,Read P w (d+1) t [v] xs:=by
    intro v es h1 h2 h3 h4 h5
    refine⟨_,h1,?_,?_,by simpa using h2⟩
    ·unfold Fj;rw [ht];exact⟨es,rfl,h3,h5⟩
    ·intro y hy
     simp only [List.mem_singleton] at hy
     subst hy
     simp only [Em,okV,CU,Bool.true_and]
     rw [KG]
     exact fun z hz=>QQ (h4 z hz)
   rcases DataW.trod_slice ht h with ⟨rfl,_⟩|⟨a,len,cap,elems,rest,m,rfl,rfl,_,hb,hlc,hcm,hel,helem,hrest,_⟩
   ·exact mk _ [] (.EW .nil) rfl (by simp) (by simp) (by simp)
   ·obtain⟨hrl,hrest⟩:=hrest rfl
    by_cases hc0:cap=0
    ·subst hc0
     have:len=0:=by omega
     subst this
     exact mk _ [] (.FV a .nil) rfl (by simp) (by simp) (by simp)
    ·
     have hspot:a.spot=none:=by
      have hfirst:∃c0,w.cells? base (a.add 0) (P.cellsOf e)=some c0:=by
       by_cases hl0:0<len
       ·have:=helem 0 hl0
        rw [Nat.zero_mul] at this
        have hlt:0<elems.length:=by omega
        rw [List.getElem?_eq_getElem hlt] at this
        cases hq:w.cells? base (a.add 0) (P.cellsOf e) with
        | none=>simp [hq] at this
        | some c0=>exact⟨c0,rfl⟩
       ·have hl0:len=0:=by omega
        subst hl0
        have:=hrest 0 (by omega)
        simp only [Nat.zero_add,Nat.zero_mul] at this
        have hlt:0<rest.length:=by omega
        rw [List.getElem?_eq_getElem hlt] at this
        cases hq:w.cells? base (a.add 0) (P.cellsOf e) with
        | none=>simp [hq] at this
        | some c0=>exact⟨c0,rfl⟩
      obtain⟨c0,hc0'⟩:=hfirst
      obtain⟨_,e2,e3⟩:=World.cells?_some hc0'
      have:=e3 0 hpos
      have hlt:0<c0.length:=by omega
      rw [List.getElem?_eq_getElem hlt] at this
      simp only [Addr.add,if_true] at this
      unfold World.cell? at this
      split at this
      ·cases hs:a.spot with
       | none=>rfl
       | some s=>simp [hs] at this
      ·cases this
     obtain⟨ab,ao,as⟩:=a
     simp only at hspot
     subst hspot
     have each:∀i,i<len->∃ci xi,w.cells? base (Addr.add ⟨ab,ao,none⟩ (i*P.cellsOf e)) (P.cellsOf e)=some ci/\Read P w d e ci xi:=by
      intro i hi
      have:=helem i hi
      have hlt:i<elems.length:=by omega
      rw [List.getElem?_eq_getElem hlt] at this
      cases hq:w.cells? base (Addr.add ⟨ab,ao,none⟩ (i*P.cellsOf e)) (P.cellsOf e) with
      | none=>simp [hq] at this
      | some ci=>
       simp only [hq,Option.bind_some] at this
       obtain⟨xi,hxi⟩:=ih e m ci _ hpe this
       exact⟨ci,xi,rfl,hxi⟩
     have list:∀k,k<=len->∃(es:List V) (us:List Value),es.length=k/\AQ (bare (MG w)) w es us/\(∀y∈es,Em y=true)/\(∀u∈us,u.cells.size=P.cellsOf e)/\(∀u∈flat us,u.oneCell' = true) /\
       (∀y∈es,(if Iy P e then ∃ds,y = .agg ds else y.cells=[y])/\Fj P d e y.cells)/\(∀j u,(flat us)[j]? = some u->w.cell? ⟨ab,ao+j,none⟩=some u):=by
      intro k
      induction k with
      | zero=>intro _;exact⟨[],[],rfl,.nil,by simp,by simp,by simp [flat],by simp,by simp [flat]⟩
      | succ k ihk=>
       intro hk
       obtain⟨es,us,l1,l2,l3,l4,l5,l6,l7⟩:=ihk (by omega)
       obtain⟨ci,xi,hci,hr⟩:=each k (by omega)
       obtain⟨a1,a2,a3,a4,a5⟩:=hr.arg
       obtain⟨_,c2,c3⟩:=World.cells?_some hci
       have hsz:(Sr P e ci).cells.size=P.cellsOf e:=by
        have:=congrArg List.length a3
        simpa [c2] using this
       refine⟨es++[MP P e xi],us++[Sr P e ci],by simp [l1],l2.append a1,?_,?_,?_,?_,?_⟩
       ·intro y hy
        rcases List.mem_append.1 hy with hy|hy
        ·exact l3 y hy
        ·rw [List.mem_singleton.1 hy];exact a2
       ·intro u hu
        rcases List.mem_append.1 hu with hu|hu
        ·exact l4 u hu
        ·rw [List.mem_singleton.1 hu];exact hsz
       ·intro u hu
        rw [Nl] at hu
        rcases List.mem_append.1 hu with hu|hu
        ·exact l5 u hu
        ·rw [NC,a3] at hu
         exact hr.one u hu
       ·intro y hy
        rcases List.mem_append.1 hy with hy|hy
        ·exact l6 y hy
        ·rw [List.mem_singleton.1 hy];exact⟨a5,by rw [a4];exact hr.ty⟩
       ·intro j u hj
        rw [Nl,NC,a3] at hj
        have hfl:(flat us).length=k*P.cellsOf e:=by rw [flat_length l4,<- l2.length,l1]
        by_cases hlt:j<(flat us).length
        ·rw [List.getElem?_append_left hlt] at hj
         exact l7 j u hj
        ·rw [List.getElem?_append_right (by omega)] at hj
         have hjl:j - (flat us).length<P.cellsOf e:=by
          have:=(List.getElem?_eq_some_iff.1 hj).1
          omega
         have:=c3 _ hjl
         rw [hj] at this
         rw [<- this]
         congr 1
         have hadd:Addr.add (Addr.add ⟨ab,ao,none⟩ (k*P.cellsOf e)) (j - (flat us).length)=⟨ab,ao+j,none⟩:=by
          simp only [Addr.add]
          split<;>split<;>simp<;>omega
         rw [hadd]
     obtain⟨es,us,l1,l2,l3,l4,l5,l6,l7⟩:=list len (Nat.le_refl _)
     subst l1
     refine mk _ es ?_ rfl (by omega) l3 l6
     exact .sl ab ao cap (P.cellsOf e) l2 l3 l4 l5 hlc hcm (fun j u hj=>⟨⟨u,l7 j u hj⟩,l7 j u hj⟩) .nil
  ·rename_i dd _ _ _ _ ht
   split at hp
   ·rename_i ss hss
    simp only [Bool.and_eq_true,List.all_eq_true] at hp
    obtain⟨hall,hcov⟩:=hp
    have parts:cs.length=P.cellsOf t/\∀s∈ss,∃xs,Read P w d s.2 ((cs.drop s.1).take (P.cellsOf s.2)) xs:=by
     cases dd with
     | struct fs=>
      simp only [Iw,Option.some.injEq] at hss
      obtain⟨xs,m,_,_,hlen,hxl,hf⟩:=DataW.trod_struct ht h
      refine⟨hlen,fun s hs=>?_⟩
      have hs' :=hs
      rw [<- hss] at hs
      obtain⟨f,hfm,rfl⟩:=List.mem_map.1 hs
      obtain⟨i,hi,hfi⟩:=List.getElem_of_mem hfm
      have hfi' : fs[i]? = some f:=by simp at hi;rw [Array.getElem?_eq_getElem hi];simp at hfi;rw [hfi]
      have:=hf i f hfi'
      have hlt:i<xs.length:=by simp at hi;omega
      rw [List.getElem?_eq_getElem hlt] at this
      exact ih f.type m _ _ (hall _ hs') this
     | array n' e=>
      simp only [Iw,Option.some.injEq] at hss
      obtain⟨xs,m,_,_,hlen,hxl,hf⟩:=DataW.trod_array ht h
      refine⟨hlen,fun s hs=>?_⟩
      have hs' :=hs
      rw [<- hss] at hs
      obtain⟨i,hi,rfl⟩:=List.mem_map.1 hs
      have hin:i<n' :=by simpa using hi
      have:=hf i hin
      have hlt:i<xs.length:=by omega
      rw [List.getElem?_eq_getElem hlt] at this
      exact ih e m _ _ (hall _ hs') this
     | _=>simp [Iw] at hss
    obtain⟨hlen,hparts⟩:=parts
    obtain⟨xs,h1,h2,h3,h4⟩:=Zxy (by rw [hlen];exact hcov) hparts
    rw [List.drop_zero] at h1 h3
    refine⟨xs,h1,?_,h2,h3⟩
    unfold Fj
    rw [ht]
    simp only [Nat.sub_zero] at h4
    split<;>first|(rename_i hq;simp only [Option.some.injEq] at hq;subst hq;simp [Iw] at hss;done)|skip
    ·rename_i hq
     simp only [Option.some.injEq] at hq
     subst hq
     rw [hss]
     exact⟨by rw [h1.length];exact hlen,h4⟩
    ·rename_i hq;cases hq
   ·cases hp
  ·cases hp
inductive dS (P:Program) (d:Nat):List TypeId->List V->Prop where
 | nil:dS P d [] []
 | cons {t ts xs as}:Fj P d t xs->dS P d ts as->dS P d (t::ts) (MP P t xs::as)
theorem ZvW {r:Reach} {b0:Nat} {d:Nat} {t:TypeId} {v:Value} {xs:List V} (hv:Value.okWide P w r b0 t v) (h:Read P w d t v.cells.toList xs):Sr P t v.cells.toList=v:=by
 unfold Sr
 cases hr:Iy P t with
 | true=>
  simp only [if_true]
  unfold Iy at hr
  split at hr
  ·rename_i dd hd
   unfold Value.okWide at hv
   rw [hd] at hv
   cases dd<;>simp [TypeDesc.isRow] at hr
   ·obtain⟨cs,rfl,_⟩:=hv;simp [Value.cells]
   ·obtain⟨cs,rfl,_⟩:=hv;simp [Value.cells]
  ·cases hr
 | false=>
  simp only [Bool.false_eq_true,if_false]
  obtain⟨x,rfl,_⟩:=h.ty.single hr
  have hne:∀cs,v≠.agg cs:=by
   rintro cs rfl
   unfold Iy at hr
   unfold Value.okWide at hv
   split at hv
   ·rename_i hd;rw [hd] at hr;simp [TypeDesc.isRow] at hr
   ·rename_i hd;rw [hd] at hr;simp [TypeDesc.isRow] at hr
   ·unfold Cell.okWide at hv
    split at hv<;>simp_all [Cell.ok]
  cases v<;>first|rfl|exact absurd rfl (hne _)
theorem ZDq {d:Nat}:∀{ts:List TypeId} {vs:List Value} {ds:List (DataW H)} {ps:List MemPlace},DataW.TrodAll enc P w base (fun _=>true) held ts vs ds ps->(∀t∈ts,Ru P d t=true) ->
  (∀(j:Nat) t v,ts[j]? = some t->vs[j]? = some v->∃r b0,Value.okWide P w r b0 t v)->∃as,AQ (bare (MG w)) w as vs/\dS P d ts as:=by
 intro ts
 induction ts with
 | nil=>
  intro vs ds ps h _ _
  cases vs with
  | nil=>exact⟨[],.nil,.nil⟩
  | cons v vs=>cases ds<;>exact h.elim
 | cons t ts ih=>
  intro vs ds ps h hp hv
  cases vs with
  | nil=>exact h.elim
  | cons v vs=>
   cases ds with
   | nil=>exact h.elim
   | cons d0 ds=>
    obtain⟨p,q,⟨fuel,h1⟩,h2,_⟩:=h
    obtain⟨as,r1,r2⟩:=ih h2 (fun t' ht' =>hp t' (by simp [ht'])) (fun j t' v' hj hj' =>hv (j+1) t' v' (by simpa using hj) (by simpa using hj'))
    obtain⟨xs,hx⟩:=ZD9 d t fuel _ _ (hp t (by simp)) h1
    obtain⟨r,b0,hok⟩:=hv 0 t v rfl rfl
    have ha:=hx.arg.1
    rw [ZvW hok hx] at ha
    exact⟨_,AQ.FH.2 ⟨ha,r1⟩,.cons hx.ty r2⟩
end
open Go.ChangeShapes
structure DC (P:Program) {Ty:Nat->Type} {T:Type} (c:AB Ty T) (t:TypeId) (wf:T->Prop):Prop where
 rd:∀(d:Nat) (xs:List V),Fj P d t xs->∃a,c.Au a=xs/\wf a
structure DY (P:Program) {Ty:Nat->Type} {T:Type} (c:AB Ty T) (ss:List (Nat×TypeId)) (off n:Nat) (wf:T->Prop):Prop where
 rd:∀(d:Nat) (xs:List V),xs.length=n->(∀s∈ss,Fj P d s.2 ((xs.drop s.1).take (P.cellsOf s.2)))->∃a,c.Au a=xs.drop off/\wf a
def WI (k:IntKind) (a:Int):Prop:=(Lit.int k a).wf=true
def WB (_:Bool):Prop:=True
def WS (s:ByteArray):Prop:=s.size<=maxLen
def WL {α:Type} (p:α->Prop) (xs:List α):Prop:=xs.length<=maxLen/\∀x∈xs,p x
def WU (_:Unit):Prop:=True
section
variable {P:Program} {Ty:Nat->Type} {T:Type}
theorem DC.int {k:IntKind} {t:TypeId} (ht:P.underlying t=some (.int k)):DC P (AB.int k:AB Ty Int) t (WI k):=by
 refine⟨fun d xs h=>?_⟩
 cases d with
 | zero=>exact h.elim
 | succ d=>
  unfold Fj at h
  rw [ht] at h
  obtain⟨n,rfl,hw⟩:=h
  exact⟨n,rfl,hw⟩
theorem DC.bool {t:TypeId} (ht:P.underlying t=some .bool):DC P (AB.bool:AB Ty Bool) t WB:=by
 refine⟨fun d xs h=>?_⟩
 cases d with
 | zero=>exact h.elim
 | succ d=>
  unfold Fj at h
  rw [ht] at h
  obtain⟨n,rfl⟩:=h
  exact⟨n,rfl,trivial⟩
theorem DC.str {t:TypeId} (ht:P.underlying t=some .string):DC P (AB.str:AB Ty ByteArray) t WS:=by
 refine⟨fun d xs h=>?_⟩
 cases d with
 | zero=>exact h.elim
 | succ d=>
  unfold Fj at h
  rw [ht] at h
  obtain⟨n,rfl,hw⟩:=h
  exact⟨n,rfl,hw⟩
theorem ZdR {α:Type} {p:α->Prop} {e:α->V}:∀{xs:List V},(∀x∈xs,∃a,e a=x/\p a)->∃as:List α,as.map e=xs/\∀a∈as,p a:=by
 intro xs
 induction xs with
 | nil=>intro _;exact⟨[],rfl,by simp⟩
 | cons x xs ih=>
  intro h
  obtain⟨a,ha,hp⟩:=h x (by simp)
  obtain⟨as,has,hps⟩:=ih (fun y hy=>h y (by simp [hy]))
  refine⟨a::as,by simp [ha,has],fun b hb=>?_⟩
  rcases List.mem_cons.1 hb with rfl|hb
  ·exact hp
  ·exact hps b hb
theorem DC.rows {t e n:Nat} {c:AB Ty (Ty e)} {wf:Ty e->Prop} (ht:P.underlying t=some (.slice e)) (hn:P.cellsOf e=n) (hr:Iy P e=true) (hc:DC P c e wf) :
  DC P (AB.list e n (fun a=>.agg (c.Au a)):AB Ty (List (Ty e))) t (WL wf):=by
 refine⟨fun d xs h=>?_⟩
 cases d with
 | zero=>exact h.elim
 | succ d=>
  unfold Fj at h
  rw [ht] at h
  obtain⟨ys,rfl,hl,hy⟩:=h
  obtain⟨as,has,hp⟩:=ZdR (p:=wf) (e:=fun a=>V.agg (c.Au a)) (xs:=ys) (fun y hy' =>by
   obtain⟨h1,h2⟩:=hy y hy'
   rw [if_pos hr] at h1
   obtain⟨ds,rfl⟩:=h1
   obtain⟨a,ha,hw⟩:=hc.rd d _ h2
   exact⟨a,by rw [ha];rfl,hw⟩)
  subst hn
  exact⟨as,by simp only [AB.list,has],by rw [<- List.length_map (f:=fun a=>V.agg (c.Au a)),has];exact hl,hp⟩
theorem DC.ones {t e n:Nat} {c:AB Ty (Ty e)} {wf:Ty e->Prop} (ht:P.underlying t=some (.slice e)) (hn:P.cellsOf e=n) (hr:Iy P e=false) (hc:DC P c e wf) :
  DC P (AB.list e n (fun a=>c.BV a):AB Ty (List (Ty e))) t (WL wf):=by
 refine⟨fun d xs h=>?_⟩
 cases d with
 | zero=>exact h.elim
 | succ d=>
  unfold Fj at h
  rw [ht] at h
  obtain⟨ys,rfl,hl,hy⟩:=h
  obtain⟨as,has,hp⟩:=ZdR (p:=wf) (e:=fun a=>c.BV a) (xs:=ys) (fun y hy' =>by
   obtain⟨h1,h2⟩:=hy y hy'
   rw [if_neg (by simp [hr])] at h1
   obtain⟨a,ha,hw⟩:=hc.rd d _ h2
   exact⟨a,by simp only [AB.BV,ha,h1];rfl,hw⟩)
  subst hn
  exact⟨as,by simp only [AB.list,has],by rw [<- List.length_map (f:=fun a=>c.BV a),has];exact hl,hp⟩
theorem DY.unit {off n:Nat} (h:off=n):DY P (AB.unit:AB Ty Unit) [] off n WU:=by
 refine⟨fun d xs hl _=>⟨(),?_,trivial⟩⟩
 subst h
 rw [<- hl,List.drop_length]
 rfl
theorem DY.pair {A B:Type} {a:AB Ty A} {b:AB Ty B} {t off n k:Nat} {ss:List (Nat×TypeId)} {wa:A->Prop} {wb:B->Prop} (ha:DC P a t wa) (hk:P.cellsOf t=k) (hb:DY P b ss (off+k) n wb) :
  DY P (AB.pair a b) ((off,t)::ss) off n (fun x=>wa x.1/\wb x.2):=by
 refine⟨fun d xs hl h=>?_⟩
 obtain⟨x,hx,hwx⟩:=ha.rd d _ (h (off,t) (by simp))
 obtain⟨y,hy,hwy⟩:=hb.rd d xs hl (fun s hs=>h s (by simp [hs]))
 refine⟨(x,y),?_,hwx,hwy⟩
 simp only [AB.pair,hx,hy]
 rw [hk,<- List.drop_drop,List.take_append_drop]
theorem DC.row {c:AB Ty T} {t n:Nat} {dd:TypeDesc} {ss:List (Nat×TypeId)} {wf:T->Prop} (ht:P.underlying t=some dd) (hss:Iw P dd=some ss) (hn:P.cellsOf t=n) (h:DY P c ss 0 n wf):DC P c t wf:=by
 refine⟨fun d xs hx=>?_⟩
 cases d with
 | zero=>exact hx.elim
 | succ d=>
  unfold Fj at hx
  rw [ht] at hx
  have key:xs.length=P.cellsOf t/\∀s∈ss,Fj P d s.2 ((xs.drop s.1).take (P.cellsOf s.2)):=by
   cases dd with
   | struct fs=>simp only at hx;rw [hss] at hx;exact hx
   | array m e=>simp only at hx;rw [hss] at hx;exact hx
   | _=>simp [Iw] at hss
  obtain⟨a,ha,hw⟩:=h.rd d xs (key.1.trans hn) key.2
  exact⟨a,by simpa using ha,hw⟩
theorem DC.CZ {A B:Type} {f:A->B} {g:B->A} {b:AB Ty B} {t:TypeId} {wf:B->Prop} (hb:DC P b t wf) (hfg:∀y,f (g y)=y):DC P (AB.CZ f g b) t (fun x=>wf (f x)):=by
 refine⟨fun d xs h=>?_⟩
 obtain⟨y,hy,hw⟩:=hb.rd d xs h
 exact⟨g y,by simp only [AB.CZ,hfg];exact hy,by rw [hfg];exact hw⟩
end
structure V4 (P:Program) (U:CY) (t:TypeId) (wf:U.Ty t->Prop):Prop where
 rd:∀d xs,Fj P d t xs->∃a,U.enc t a=MP P t xs/\wf a
theorem V4.rows {P:Program} {U:CY} {t:TypeId} {c:AB U.Ty (U.Ty t)} {wf:U.Ty t->Prop} (hr:Iy P t=true) (hc:DC P c t wf) (he:∀a,U.enc t a = .agg (c.Au a)):V4 P U t wf:=by
 refine⟨fun d xs h=>?_⟩
 obtain⟨a,ha,hw⟩:=hc.rd d xs h
 exact⟨a,by rw [he,ha];simp [MP,hr],hw⟩
theorem V4.ones {P:Program} {U:CY} {t:TypeId} {c:AB U.Ty (U.Ty t)} {wf:U.Ty t->Prop} (hr:Iy P t=false) (hc:DC P c t wf) (he:∀a,U.enc t a=c.BV a):V4 P U t wf:=by
 refine⟨fun d xs h=>?_⟩
 obtain⟨a,ha,hw⟩:=hc.rd d xs h
 exact⟨a,by rw [he];simp [MP,hr,AB.BV,ha],hw⟩
inductive SX (P:Program) (U:CY):(ts:List Nat)->(FY U ts->Prop)->Prop where
 | nil:SX P U [] (fun _=>True)
 | cons {t ts wf W}:V4 P U t wf->SX P U ts W->SX P U (t::ts) (fun x=>wf x.1/\W x.2)
theorem ZBa {P:Program} {U:CY} {ts:List Nat} {W:FY U ts->Prop} (h:SX P U ts W):∀{d:Nat} {as:List V},dS P d ts as->∃x:FY U ts,Gg ts x=as/\W x:=by
 induction h with
 | nil=>intro d as ha;cases ha;exact⟨(),rfl,trivial⟩
 | cons ht _ ih=>
  intro d as ha
  cases ha with
  | cons h1 h2=>
   obtain⟨a,ha,hw⟩:=ht.rd _ _ h1
   obtain⟨x,hx,hW⟩:=ih h2
   exact⟨(a,x),by simp [Gg,ha,hx],hw,hW⟩
section
variable {H:Type} {enc:TypeId×Value->H} {P:Program}
theorem Z8A {W W' : World} {sp:Nat->Bool} (hl:laidOutB P=true):∀{ts:List TypeId} {vs:List Value} {ds:List (DataW H)} {ps:List MemPlace},(∀t∈ts,P.readableRec t=true/\t<P.types.size) ->
  DataW.TrodAll enc P W 0 (fun _=>true) true ts vs ds ps->Below W.heap.size W W' -> (∀p∈ps,p.block<W.heap.size)->(∀p∈ps,sp p.block=true)->DataW.TrodAll enc P W' 0 sp true ts vs ds ps
 | [],[],[],_,_,h,_,_,_=>h
 | t::ts,v::vs,d::ds,_,ht,⟨p,q,h1,h2,e⟩,hb,hlt,hsp=>
  ⟨p,q,WideElems.Trod_stays hl (ht t (by simp)).1 (ht t (by simp)).2 h1 (fun x hx=>hb.same (hlt x (by rw [e];exact List.mem_append_left _ hx))) (fun x hx=>hsp x (by rw [e];exact List.mem_append_left _ hx)),
   Z8A hl (fun t ht' =>ht t (by simp [ht'])) h2 hb (fun x hx=>hlt x (by rw [e];exact List.mem_append_right _ hx)) (fun x hx=>hsp x (by rw [e];exact List.mem_append_right _ hx)),e⟩
theorem ZB7 {f:Func} {s:ChangeSpec} {apart fresh handsOn again:Bool} {W W' : World} {args:Array Value} {ds gs:List (DataW H)} {before:List MemPlace} {tb:TypeId} (hl:laidOutB P=true) (hts:∀t∈f.params.toList,P.readableRec t=true/\t<P.types.size)
  (hW:DataW.Whole enc P f.params.toList s.vars apart W args.toList ds gs before) (hb:Below W.heap.size W W') (hr:f.resultTypes = #[tb]) (htb:P.underlying tb=some .bool)
  (h1:(s.fn H (ds++gs)).results=[.lit (.bool true)]) (h2:(s.fn H (ds++gs)).args=ds) (h3:(s.fn H (ds++gs)).vars=gs)
  (hvars:∀(pv:List MemPlace),DataW.TrodVars enc P W (fun _=>true) s.vars gs pv->(∀p∈pv,p.block<W.heap.size)->∀sp:Nat->Bool,(∀p∈pv,sp p.block=true)->DataW.TrodVars enc P W' sp s.vars gs pv) :
  s.post enc P f apart fresh handsOn again W args (.bool true) W' :=by
 have hlt:=hW.lt
 have hW0:=hW
 obtain⟨pa,pv,hA,hV,hps,hz,hn⟩:=hW
 have hold:∀p∈before,(fun b=>decide (b<W.heap.size)) p.block=true:=fun p hp=>by simpa using hlt p hp
 have hpa:∀p∈pa,p∈before:=fun p hp=>by rw [hps];exact List.mem_append_left _ hp
 have hpv:∀p∈pv,p∈before:=fun p hp=>by rw [hps];exact List.mem_append_right _ hp
 have hargs:∀sp:Nat->Bool,(∀p∈before,sp p.block=true)->DataW.TrodAll enc P W' 0 sp true f.params.toList args.toList (s.fn H (ds++gs)).args pa:=fun sp hsp=>by
  rw [h2];exact Z8A hl hts hA hb (fun p hp=>hlt p (hpa p hp)) (fun p hp=>hsp p (hpa p hp))
 have hvs:∀sp:Nat->Bool,(∀p∈before,sp p.block=true)->DataW.TrodVars enc P W' sp s.vars (s.fn H (ds++gs)).vars pv:=fun sp hsp=>by
  rw [h3];exact hvars pv hV (fun p hp=>hlt p (hpv p hp)) sp (fun p hp=>hsp p (hpv p hp))
 have hres:∀(b:Nat) (sp:Nat->Bool) (hd:Bool),DataW.TrodAll enc P W' b sp hd f.resultTypes.toList ((Value.bool true).resultList f.resultTypes.size) (s.fn H (ds++gs)).results []:=fun b sp hd=>by
  rw [h1,hr];exact trodAll_cons_mk (p:=[]) (p' :=[]) (RowKit.shut_bool htb _) trodAll_mk0
 refine⟨ds,gs,before,[],pa,pv,hW0,hres _ _ _,hargs _ hold,hvs _ hold,World.keptBut_mono (fun p hp=>⟨hp,?_⟩) (hb.frame (·∈before)),fun _=>?_⟩
 ·rw [hps,List.mem_append] at hp
  exact Or.inr hp
 ·refine⟨RowKit.ok_one hr rfl (RowKit.okWide_bool_mk htb _),_,_,([]++pa)++pv,⟨[]++pa,pv,trodAll_append (hargs _ (fun _ _=>rfl)) (hres _ _ _),hvs _ (fun _ _=>rfl),rfl,?_,?_⟩,?_⟩
  ·intro b off hp
   have hm:MemPlace.cell b off∈before:=by rw [hps];simpa using hp
   rw [hb.frozen (p:=⟨b,off,none⟩) (hlt _ hm)]
   exact hz b off hm
  ·intro ha
   have:=hn ha
   rw [hps] at this
   simpa using this
  ·intro p hp _
   rw [hps]
   simpa using hp
theorem ZG0 {U:CY} {E0:Env} {f:FuncId} {fn:Func} {m:Af U} {s:ChangeSpec} {apart fresh handsOn again:Bool} {tb:TypeId} (hok:Ad P E0 f m) {Wf:FY U m.ts->Prop} (hrd:SX P U m.ts Wf) (hpar:fn.params.toList=m.ts) {d:Nat} (hpl:∀t∈m.ts,Ru P d t=true)
  (hl:laidOutB P=true) (hts:∀t∈m.ts,P.readableRec t=true/\t<P.types.size) (hr:fn.resultTypes = #[tb]) (htb:P.underlying tb=some .bool) {tt:U.Ty m.rt} (htt:U.enc m.rt tt = .lit (.bool true)) (htrue:∀x,Wf x->m.fn x=some tt)
  (hspec:∀(ds gs:List (DataW H)),ds.length=m.ts.length->gs.length=s.vars.length->(s.fn H (ds++gs)).results=[.lit (.bool true)]/\(s.fn H (ds++gs)).args=ds/\(s.fn H (ds++gs)).vars=gs)
  {W:World} {args:Array Value} {ds gs:List (DataW H)} {before:List MemPlace} (hval:∀(j:Nat) t v,fn.params[j]? = some t->args[j]? = some v->∃r b0,Value.okWide P W r b0 t v)
  (hW:DataW.Whole enc P fn.params.toList s.vars apart W args.toList ds gs before) (hg:Di E0 (bare (MG W)) W)
  (hvars:∀(W' : World),Below W.heap.size W W' -> ∀(pv:List MemPlace),DataW.TrodVars enc P W (fun _=>true) s.vars gs pv->(∀p∈pv,p.block<W.heap.size)->∀sp:Nat->Bool,(∀p∈pv,sp p.block=true)->DataW.TrodVars enc P W' sp s.vars gs pv)
  (hdl:ds.length=m.ts.length) (hgl:gs.length=s.vars.length) :
  Calls P f args W fun e W' =>∃v,e = .returned v/\s.post enc P fn apart fresh handsOn again W args v W' :=by
 have hW0:=hW
 obtain⟨pa,pv,hA,hV,hps,hz,hn⟩:=hW
 rw [hpar] at hA
 obtain⟨as,hreps,hread⟩:=ZDq hA hpl (fun j t v hj hv=>hval j t v (by rw [<- Array.getElem?_toList,hpar];exact hj) (by rw [<- Array.getElem?_toList];exact hv))
 obtain⟨x,hx,hwf⟩:=ZBa hrd hread
 have hcall:=hok.pure x tt (htrue x hwf) (MG W) W args.toList (fun b c hh=>hh) hg (by rw [hx];exact hreps)
 refine hcall.mono ?_
 rintro e W' ⟨u,fz',rfl,hb,_,_,_,hru,_⟩
 rw [htt] at hru
 cases hru with
 | lit _ _=>
  obtain⟨s1,s2,s3⟩:=hspec ds gs hdl hgl
  exact⟨_,rfl,ZB7 hl (by rw [hpar];exact hts) hW0 hb hr htb s1 s2 s3 (hvars W' hb)⟩
end
def Zew (n by' : Nat):List V->Option V
 | [.sl false e xs]=>if e=n/\xs.length*by' <= lim/\xs.length<=maxLen then some (.sl false e xs) else none
 | _=>none
def uI (cl:List (Nat×Nat×Nat×Nat)):FuncId->Option (List V->Option V):=fun g=>(cl.find? fun p=>p.1==g).map fun p=>Zew p.2.1 p.2.2.1
def Z4l (cl:List (Nat×Nat×Nat×Nat)):FuncId->Option TypeId:=fun g=>(cl.find? fun p=>p.1==g).map fun p=>p.2.2.2
structure QY (P:Program) (f n by' e:Nat):Prop where
 entered:OD P f
 pure:∀(E:Env) (xs:List V),xs.length*by' <= lim->xs.length<=maxLen->OO P E f [.sl false n xs] (.sl false n xs)
 own:∀(E:Env) (xs:List V),xs.length*by' <= lim->xs.length<=maxLen->rU P E f [.sl false n xs] e n xs
theorem ZyS {P:Program} {E:Env} {cl:List (Nat×Nat×Nat×Nat)} (hE:E.env=uI cl) (ho:E.own=Z4l cl) (hhm:∀f k,E.hm f k=none) (h:∀p∈cl,QY P p.1 p.2.1 p.2.2.1 p.2.2.2):Qb P E:=by
 refine⟨?_,fun f key hs h=>by rw [hhm] at h;cases h⟩
 intro f F hF
 rw [hE] at hF
 unfold uI at hF
 cases hp:cl.find? (fun p=>p.1==f) with
 | none=>simp [hp] at hF
 | some p=>
  simp only [hp,Option.map_some,Option.some.injEq] at hF
  subst hF
  have hm:=h p (List.mem_of_find?_eq_some hp)
  have hf:p.1=f:=by simpa using List.find?_some hp
  rw [hf] at hm
  have hown:E.own f=some p.2.2.2:=by rw [ho];unfold Z4l;rw [hp];rfl
  refine⟨hm.entered,fun as r _ hr=>?_⟩
  rw [hown]
  intro sz xs hr0
  subst hr0
  unfold Zew at hr
  split at hr
  ·split at hr
   ·rename_i hc
    simp only [Option.some.injEq,V.sl.injEq] at hr
    obtain⟨_,rfl,rfl⟩:=hr
    rw [hc.1]
    exact hm.own E _ hc.2.1 hc.2.2
   ·cases hr
  ·cases hr
noncomputable def EC (P:Program) (gl:Nat->Option (List V)) (fs:List FuncId) (pu:FuncId->Bool) (bad:List (Nat×Nat):=[]) (cl:List (Nat×Nat×Nat×Nat):=[]):Env:=
 { Nw P pu (uI cl) with
  func:=fun g=>if fs.contains g then P.funcs[g]? else none
  Ea:=gl
  own:=Z4l cl
  calm:=fun f id=>!(bad.any fun p=>p.1==f&&p.2==id) }
noncomputable def rX (P:Program) (gl:Nat->Option (List V)) (fs:List FuncId) (pu:FuncId->Bool) (bad:List (Nat×Nat):=[]) (cl:List (Nat×Nat×Nat×Nat):=[]):Bool:=
 fs.all fun g=>match P.funcs[g]? with
  | some fn=>!(fn.name == "runtime.NumGoroutine")&&(match fn.body with|some c=>E8 (EC P gl fs pu bad cl) g c|none=>true)
  | none=>true
theorem Zfb {P:Program} {gl:Nat->Option (List V)} {fs:List FuncId} {pu:FuncId->Bool} {bad:List (Nat×Nat)} {cl:List (Nat×Nat×Nat×Nat)} (hmix:P.follows .mixedOrders=true) (hck:rX P gl fs pu bad cl=true):Ci (EC P gl fs pu bad cl):=by
 have hck:=List.all_eq_true.1 hck
 refine⟨fun t i h=>h,?_,hmix,?_,?_,?_,?_,fun t ks h=>h,?_⟩
 ·intro g fn h
  simp only [EC] at h
  split at h
  ·rename_i hg
   have:=hck g (by simpa using hg)
   rw [h] at this
   simp only [Bool.and_eq_true,Bool.not_eq_true'] at this
   exact⟨h,this.1⟩
  ·cases h
 ·intro g fn c h hb
  simp only [EC] at h
  split at h
  ·rename_i hg
   have:=hck g (by simpa using hg)
   rw [h] at this
   simp only [hb,Bool.and_eq_true] at this
   exact this.2
  ·cases h
 ·intro t k h
  simp only [EC,Nw] at h
  split at h
  ·rename_i d hd
   simp only [Option.some.injEq] at h
   subst h
   exact hd
  ·cases h
 ·intro t h
  simp only [EC,Nw] at h
  split at h
  ·rename_i hd;exact hd
  ·cases h
 ·intro t h
  simp only [EC,Nw] at h
  split at h
  ·rename_i hd;exact hd
  ·cases h
 ·intro t h
  simp only [EC,Nw] at h
  split at h
  ·rename_i e he
   split at h
   ·rename_i hd;exact⟨e,he,hd⟩
   ·cases h
  ·cases h
theorem Zas {H:Type} {enc:TypeId×Value->H} {P:Program} {w:World} {base:Nat} {spare:Nat->Bool} {held:Bool}:∀{ts:List TypeId} {vs:List Value} {ds:List (DataW H)} {ps:List MemPlace},DataW.TrodAll enc P w base spare held ts vs ds ps->ds.length=ts.length
 | [],[],[],_,_=>rfl
 | _::_,_::_,_::_,_,⟨_,_,_,h,_⟩=>congrArg (· + 1) (Zas h)
theorem Zyf {U:CY} {P:Program} {gl:Nat->Option (List V)} {fs:List FuncId} {pu:FuncId->Bool} {bad:List (Nat×Nat)} {cl:List (Nat×Nat×Nat×Nat)} {E0:Env} (hE0:E0.Ea=gl) (hmix:P.follows .mixedOrders=true) (hck:rX P gl fs pu bad cl=true) (hcl:∀p∈cl,QY P p.1 p.2.1 p.2.2.1 p.2.2.2) {f:FuncId} (hne:uI cl f=none) (hf:fs.contains f=true) (hp:pu f=true) {fn:Func} (hfn:P.funcs[f]? = some fn)
  (hb:fn.body.isNone=false) {n:Nat} {m:Af U} (hts:m.ts=[]) {a:U.Ty m.rt} (hm:∀x,m.fn x=some a) (h:(Eh (EC P gl fs pu bad cl) (n+1) f [] []).map (·.1)=some (U.enc m.rt a)):Ad P E0 f m:=by
 have hE:=Zfb hmix hck
 have hname:(fn.name == "runtime.NumGoroutine")=false:=(hE.func f fn (by simp only [EC,hf,if_true];exact hfn)).2
 refine⟨⟨fn,hfn,hb,hname⟩,fun x a' hx=>?_⟩
 rw [hm x] at hx
 cases hx
 cases hc:Eh (EC P gl fs pu bad cl) (n+1) f [] [] with
 | none=>simp [hc] at h
 | some rr=>
  obtain⟨r,H'⟩:=rr
  simp only [hc,Option.map_some,Option.some.injEq] at h
  subst h
  have hpf:=ZxY hE rfl (ZyS rfl rfl (fun _ _=>rfl) hcl) hp hne rfl hc
  have he:Gg m.ts x=[]:=by
   have hl:=Z7p x
   exact List.eq_nil_of_length_eq_zero (by rw [hl,congrArg List.length hts];rfl)
  rw [he]
  intro fz w vs hcells hg hr
  exact hpf fz w vs hcells (fun g r hh=>hg g r (by rw [hE0];exact hh)) hr
def P9:Operand:=.const (.slice none 0 0)
def Z47 (t:TypeId):Code:=.seq (.region 2 #[.mk (some 2) (.assign P9) t "slices.go:358" #[] none] false) .ret
def sJ (t:TypeId):Code:=.seq (.region 3 #[.mk (some 5) (.buildSlice t 0 #[]) t "slices.go:362" #[] none,.mk (some 6) (.move (.tmp 0)) t "slices.go:362" #[] none,
 .mk (some 7) (.call (.mk (.builtin .append) #[.tmp 5,.tmp 6] #[t,t])) t "slices.go:362" #[.mk 0 .data,.mk 1 .data] none,
 .mk (some 2) (.assign (.tmp 7)) t "slices.go:362" #[.mk 2 .data,.mk 2 .chain,.mk 0 .phase,.mk 1 .phase,.mk 2 .phase] none] false) .ret
def eP (t tb:TypeId):Array Oper:=#[.mk (some 3) (.move (.tmp 0)) t "slices.go:357" #[] none,.mk (some 4) (.binOp .eql t (.tmp 3) P9 t) tb "slices.go:357" #[.mk 0 .data] none]
def tJ (t tb:TypeId):Code:=
 .seq (.region 0 #[.mk (some 2) (.assign P9) t "slices.go:355" #[] none] false) (.seq (.seq (.region 1 (eP t tb) false) (.cond (.tmp 4) (Z47 t) .skip)) (sJ t))
section
variable {P:Program} {E:Env} {B:Nat} {w0:Start} {call:Dl}
theorem Zow (w:World) (d:Nat) (t e:TypeId) (a:Option Addr) (l c:Nat) (h:P.underlying t=some (.slice e)):(Op.equalIn (d+1) t (.slice a l c) (.slice none 0 0)).run P w = .ok a.isNone w:=by
 cases a<;>simp [Op.equalIn,run_underlying h]
theorem Zxi (w:World) (t e:TypeId) (a:Option Addr) (l c:Nat) (h:P.underlying t=some (.slice e)):(Op.equal t (.slice a l c) (.slice none 0 0)).run P w = .ok a.isNone w:=Zow w 9999 t e a l c h
theorem Zzr {t e:TypeId} {y z:Operand} {v:Value} {w:World} (ht:P.underlying t=some (.slice e)) (hv:∃a n c,v = .slice a n c/\(a=none->n=0)) :
  ∃b,(do eqGuard .eql t y z v (.slice none 0 0);binOp .eql t v (.slice none 0 0)).run P w = .ok (.bool b) w/\(b=true->∃c,v = .slice none 0 c):=by
 obtain⟨a,n,c,rfl,h0⟩:=hv
 refine⟨a.isNone,?_,fun h=>?_⟩
 ·simp only [Sem.run_bind]
  rw [RI _ _ _ _ _ _ (by simp) (by simp)]
  simp [binOp,Zxi w t e a n c ht]
 ·cases a with
  | none=>exact⟨c,by rw [h0 rfl]⟩
  | some a=>cases h
theorem ZAz (hE:Ci E) (hP:E.P=P) (hcall:JL P E B w0 call) {id:Nat} {t tb e n:TypeId} (ht:P.underlying t=some (.slice e)) {st:St} {σ:Sg} {a:Act} {w:World} (hr:Eu E B w0 σ st a w)
  {xs:List V} (hx:ev E st.s (.tmp 0) = .sl false n xs) (h3:3<st.s.length) {Q:Exit->Act->World->Prop}
  (hq:∀b a',Eu E B w0 σ ⟨setSlot (setSlot st.s (some 3) (.sl false n xs)) (some 4) (.lit (.bool b)),st.H⟩ a' w->(b=true->xs=[])->Q .normal a' w) :
  (Code.region id (eP t tb) false).wp P Q a w:=by
 refine wp_region ?_
 show wpOps P (eP t tb) Q [0,1] a w
 have hv:∃v,a.eval (.tmp 0)=v/\AQ σ w [.sl false n xs] [v]:=by
  have:=EU (a:=a) hr.Ea hr.slots (.tmp 0)
  rw [hx] at this
  exact⟨_,rfl,this⟩
 obtain⟨v,hv,hrv⟩:=hv
 rw [wpOps_cons]
 unfold wpOp
 have h0:(eP t tb)[0]? = some (.mk (some 3) (.move (.tmp 0)) t "slices.go:357" #[] none):=rfl
 have h1:(eP t tb)[1]? = some (.mk (some 4) (.binOp .eql t (.tmp 3) P9 t) tb "slices.go:357" #[.mk 0 .data] none):=rfl
 simp only [h0]
 rw [if_pos (show Region.wanted _ _=true from rfl)]
 refine .inl (Ib (s:=pure v) (u:=v) (w' :=w) (by unfold execOp;simp [hv]) (by simp [Sem.run_pure]) ?_)
 rw [wpOps_cons]
 unfold wpOp
 simp only [h1]
 rw [if_pos (show Region.wanted _ _=true from rfl)]
 have hr1:Eu E B w0 σ ⟨setSlot st.s (some 3) (.sl false n xs),st.H⟩ (a.put (some 3) v) w:=⟨hr.inv,hr.Ea,pK hr.slots hrv (some 3),rE hr.calm _ _⟩
 have hev:(a.put (some 3) v).eval (.tmp 3)=v:=by
  have:3<a.tmps.size:=by
   have:=hr.slots.length
   simp only [Array.length_toList] at this
   omega
  simp [Act.put,Act.eval,this]
 have hsh:∃a n c,v = .slice a n c/\(a=none->n=0)/\(a=none->xs=[]):=by
  cases hrv with
  | EW _=>exact⟨none,0,0,rfl,fun _=>rfl,fun _=>rfl⟩
  | FV a _=>exact⟨some a,0,0,rfl,fun h=>(by cases h),fun h=>(by cases h)⟩
  | sl b o c e' h1 h2 h3 h4 h5 h6 h7 _=>exact⟨some _,_,_,rfl,fun h=>(by cases h),fun h=>(by cases h)⟩
 obtain⟨va,vn,vc,hvs,hvn,hvx⟩:=hsh
 obtain⟨b,hb1,hb2⟩:=Zzr (P:=P) (t:=t) (e:=e) (y:=.tmp 3) (z:=P9) (w:=w) ht ⟨va,vn,vc,hvs,hvn⟩
 refine .inl (Ib (s:=do eqGuard .eql t (.tmp 3) P9 v (.slice none 0 0);binOp .eql t v (.slice none 0 0)) (u:=.bool b) ?_ hb1 ?_)
 ·unfold execOp
  simp only [hev]
  rfl
 ·show Q .normal _ _
  refine hq b _ ⟨hr1.inv,hr1.Ea,pK hr1.slots (.lit rfl .nil) (some 4),rE hr1.calm _ _⟩ (fun h=>?_)
  obtain⟨c,hc⟩:=hb2 h
  rw [hvs] at hc
  cases hc
  exact hvx rfl
theorem ZcZ (hmix:P.follows .mixedOrders=true) {f:FuncId} {fn:Func} {t tb e:TypeId} {i1 i2:Nat} {iz:Option V} {ei:TI} {z:V} (hfn:P.funcs[f]? = some fn) (hbody:fn.body=some (tJ t tb)) (hnt:fn.ntmps=8) (hres:fn.results = #[.tmp 2])
  (hti:Jq P t=some ⟨.slice e,i1,i2,iz⟩) (htu:P.underlying t=some (.slice e)) (hei:Jq P e=some ei) (hez:ei.zero=some z) (hpos:0<ei.size) (hzl:z.cells.length=ei.size) (hzo:okV z=true)
  {xs:List V} (h1:xs.length*ei.bytes<=lim) (h2:xs.length<=maxLen) (fz:Nat->Nat->Prop) (w:World) (vs:List Value) (hcells:∀b c,fz b c->∃u,w.cell? ⟨b,c,none⟩=some u) (hr:AQ (bare fz) w [.sl false ei.size xs] vs) :
  Calls P f vs.toArray w fun e' w' =>∃u σ',e' = .returned u/\Inv w.heap.size (Start.of w fz) σ' [Bg true false e ei.size [],Bg true false e ei.size xs] w' /\ Ext (bare fz) w σ' w' /\ AQ σ' w' [.Ba 1 0 xs.length xs.length] [u]:=by
 have hck:rX P (fun _=>none) [] (fun _=>false) []=true:=rfl
 have hE:=Zfb (P:=P) (gl:=fun _=>none) (fs:=[]) (pu:=fun _=>false) (bad:=[]) hmix hck
 generalize hE0:EC P (fun _=>none) [] (fun _=>false) []=E0 at hE
 have hP:E0.P=P:=by rw [<- hE0];rfl
 have t1:E0.ti t=some ⟨.slice e,i1,i2,iz⟩:=by rw [<- hE0];exact hti
 have t2:E0.ti e=some ei:=by rw [<- hE0];exact hei
 have hcm:∀g id,E0.calm g id=true:=fun g id=>by rw [<- hE0];rfl
 have hI:Inv w.heap.size (Start.of w fz) (bare fz) [] w:=⟨Below.refl _ w,Nat.le_refl _,fun id L hL=>(by cases hL),fun id bx hb=>by simp at hb,fun i j b1 b2 L1 L2 g h1=>by simp at h1,hcells,
  fun b c hc id bx L hb=>by simp at hb,fun id bx hb=>by simp at hb,fun b c hc _=>hc,fun b hb=>hb.elim⟩
 have hg0:Di E0 (bare fz) w:=fun g r hh=>by rw [<- hE0] at hh;cases hh
 have hcall:JL P E0 w.heap.size (Start.of w fz) (Eh E0 0):=fun f args H x H' σ w vs h=>by cases h
 have hpure:OB E0 (Eh E0 0):=UU 0
 have hlp:=Z3A (f:=f) hE hP hcall hpure 0
 ·refine calls_of_wp hfn hbody ?_
  have hslots:AQ (bare fz) w ([.sl false ei.size xs]++List.replicate 7 EE) (vs.toArray++Array.replicate (fn.ntmps - vs.toArray.size) undef).toList:=by
   simp only [Array.toList_append,Array.toList_replicate,List.size_toArray]
   rw [<- hr.length,hnt]
   exact hr.append (AQ.replicate _ (.no .nil))
  have hrel:Eu E0 w.heap.size (Start.of w fz) (bare fz) ⟨[.sl false ei.size xs]++List.replicate 7 EE,[]⟩ { tmps:=vs.toArray++Array.replicate (fn.ntmps - vs.toArray.size) undef,defers:=[] } w:=⟨hI,hg0,hslots,rfl⟩
  have hfin:∀(s:List V),KO E0 [Bg true false e ei.size [],Bg true false e ei.size xs] s fn.results.toList=some (.Ba 1 0 xs.length xs.length)->∀a' w' σ',Eu E0 w.heap.size (Start.of w fz) σ' ⟨s,[Bg true false e ei.size [],Bg true false e ei.size xs]⟩ a' w' -> Ext (bare fz) w σ' w' ->
    a'.defers=[]/\∃v,(results fn a'.tmps).run P w' = .ok v w' /\ (fun e' w' =>∃u σ',e' = Ending.returned u/\Inv w.heap.size (Start.of w fz) σ' [Bg true false e ei.size [],Bg true false e ei.size xs] w' /\ Ext (bare fz) w σ' w' /\ AQ σ' w' [.Ba 1 0 xs.length xs.length] [u]) (.returned v) w' :=by
   intro s hx a' w' σ' hr' he'
   obtain⟨u,hu,hur⟩:=o8 (P:=P) hE hP hr'.inv hr'.slots hx
   exact⟨hr'.calm,u,hu,u,σ',rfl,hr'.inv,he',hur⟩
  have c0:∀lp,Fq (Eh E0 0) lp E0 f (.region 0 #[.mk (some 2) (.assign P9) t "slices.go:355" #[] none] false) ⟨[.sl false ei.size xs]++List.replicate 7 EE,[]⟩ =
    some (.normal,⟨[.sl false ei.size xs,EE,.Ba 0 0 0 0,EE,EE,EE,EE,EE],[Bg true false e ei.size []]⟩):=by
   intro lp
   simp [Fq,MM,stepD,Jk,F5,BO,P9,t1,Env.size,t2,place,setSlot,List.range,List.range.loop,List.replicate]
  refine wp_seq (Rl hE hP hcall hpure hlp _ _ .normal _ rfl (c0 _) _ _ _ _ hrel (fun a1 w1 σ1 hr1 he1=>?_))
  show (Code.seq _ _).wp P _ a1 w1
  refine wp_seq (wp_seq (ZAz hE hP hcall htu hr1 (xs:=xs) (n:=ei.size) rfl (by simp) (fun b a2 hr2 hb=>?_)))
  show (Code.cond _ _ _).wp P _ a2 w1
  refine wp_cond (t:=b) ?_ ?_
  ·have:=EU (a:=a2) hr2.Ea hr2.slots (.tmp 4)
   generalize a2.eval (.tmp 4)=v4 at this ⊢
   simp only [ev,setSlot] at this
   cases this with
   | lit _ _=>rfl
  ·cases b with
   | true=>
    have hx:=hb rfl
    subst hx
    have cA:∀lp,Fq (Eh E0 0) lp E0 f (Z47 t) ⟨setSlot (setSlot [.sl false ei.size [],EE,.Ba 0 0 0 0,EE,EE,EE,EE,EE] (some 3) (.sl false ei.size [])) (some 4) (.lit (.bool true)),[Bg true false e ei.size []]⟩ =
      some (.ret,⟨[.sl false ei.size [],EE,.Ba 1 0 0 0,.sl false ei.size [],.lit (.bool true),EE,EE,EE],[Bg true false e ei.size [],Bg true false e ei.size []]⟩):=by
     intro lp
     simp [Z47,Fq,MM,stepD,Jk,F5,BO,P9,t1,Env.size,t2,place,setSlot,List.range,List.range.loop]
    refine Rl hE hP hcall hpure hlp _ _ .ret _ rfl (cA _) _ _ _ _ hr2 (fun a3 w3 σ3 hr3 he3=>?_)
    exact hfin _ (by rw [hres];rfl) a3 w3 σ3 hr3 (he1.trans he3)
   | false=>
    refine wp_skip ?_
    show (sJ t).wp P _ a2 w1
    have cB:∀lp,Fq (Eh E0 0) lp E0 f (sJ t) ⟨setSlot (setSlot [.sl false ei.size xs,EE,.Ba 0 0 0 0,EE,EE,EE,EE,EE] (some 3) (.sl false ei.size xs)) (some 4) (.lit (.bool false)),[Bg true false e ei.size []]⟩ =
      some (.ret,⟨[.sl false ei.size xs,EE,.Ba 1 0 xs.length xs.length,.sl false ei.size xs,.lit (.bool false),.Ba 1 0 0 0,.sl false ei.size xs,.Ba 1 0 xs.length xs.length],[Bg true false e ei.size [],Bg true false e ei.size xs]⟩):=by
     intro lp
     have hzk:ei.TB=true:=by simp [TI.TB,hez,hzl,hzo]
     simp [sJ,Fq,MM,stepD,Jk,F5,BO,t1,t2,place,setSlot,List.range,List.range.loop,Oh,hez,FN,hpos,hzl,hzo,MF,bump,ev,evs,Ox,Lm,elemsOf,E5,DW,Bg,h1,h2,hzk]
    refine Rl hE hP hcall hpure hlp _ _ .ret _ rfl (cB _) _ _ _ _ hr2 (fun a3 w3 σ3 hr3 he3=>?_)
    exact hfin _ (by rw [hres];rfl) a3 w3 σ3 hr3 (he1.trans he3)
theorem Zw0 (hmix:P.follows .mixedOrders=true) {f:FuncId} {fn:Func} {t tb e:TypeId} {i1 i2:Nat} {iz:Option V} {ei:TI} {z:V} (hfn:P.funcs[f]? = some fn) (hbody:fn.body=some (tJ t tb)) (hnt:fn.ntmps=8) (hres:fn.results = #[.tmp 2])
  (hti:Jq P t=some ⟨.slice e,i1,i2,iz⟩) (htu:P.underlying t=some (.slice e)) (hei:Jq P e=some ei) (hez:ei.zero=some z) (hpos:0<ei.size) (hzl:z.cells.length=ei.size) (hzo:okV z=true)
  {xs:List V} (h1:xs.length*ei.bytes<=lim) (h2:xs.length<=maxLen):OO P E f [.sl false ei.size xs] (.sl false ei.size xs):=by
 intro fz w vs hcells hg hr
 refine(ZcZ hmix hfn hbody hnt hres hti htu hei hez hpos hzl hzo h1 h2 fz w vs hcells hr).mono ?_
 rintro e' w' ⟨u,σ',rfl,hI',hEx',hr'⟩
 have hfr:JU [Bg true false e ei.size [],Bg true false e ei.size xs] (.Ba 1 0 xs.length xs.length)=some (.sl false ei.size xs):=by simp [JU,IB,IA,DW,Bg]
 obtain⟨hI2,hEx2⟩:=hI'.freeze (O6 (.Ba 1 0 xs.length xs.length))
 have hr2:=Z2z hI' hr' hfr (O6 (.Ba 1 0 xs.length xs.length)) (fun i hi=>hi)
 have hn:=Z1N hI' hr' hfr
 refine⟨u,_,rfl,hI2.below,fun b c h=>(hEx2.fz b c (hEx'.fz b c h).1).1,fun b c h hlt=>hI2.old b c h hlt,hI2.cells,?_,hn⟩
 exact hr2.bare (fun b c h=>⟨h,rfl⟩) (EM.refl _) (by simp [CJ,hn])
theorem Zzd (hmix:P.follows .mixedOrders=true) {f:FuncId} {fn:Func} {t tb e:TypeId} {i1 i2:Nat} {iz:Option V} {ei:TI} {z:V} (hfn:P.funcs[f]? = some fn) (hbody:fn.body=some (tJ t tb)) (hnt:fn.ntmps=8) (hres:fn.results = #[.tmp 2])
  (hti:Jq P t=some ⟨.slice e,i1,i2,iz⟩) (htu:P.underlying t=some (.slice e)) (hei:Jq P e=some ei) (hez:ei.zero=some z) (hpos:0<ei.size) (hzl:z.cells.length=ei.size) (hzo:okV z=true)
  {xs:List V} (h1:xs.length*ei.bytes<=lim) (h2:xs.length<=maxLen):rU P E f [.sl false ei.size xs] e ei.size xs:=by
 intro fz w vs hcells hg hr
 have hfzv:∀x∈xs,Em x=true:=by
  cases hr with
  | EW _=>simp
  | FV a _=>simp
  | sl b o c e' k1 k2 k3 k4 k5 k6 k7 _=>exact k2
 refine(ZcZ hmix hfn hbody hnt hres hti htu hei hez hpos hzl hzo h1 h2 fz w vs hcells hr).mono ?_
 rintro e' w' ⟨u,σ',rfl,hI',hEx',hr'⟩
 obtain⟨L,hL,hok⟩:=hI'.boxes 1 _ rfl rfl
 obtain⟨us,k1,k2,k3,k4⟩:=hok.D9
 have htot:L.tot=xs.length:=hok.tot
 have hesz:L.Ap=ei.size:=hok.Ap.symm
 have hu:u=L.v:=by
  cases hr' with
  | Ba q1 q2 q3 q4 _=>
   rw [hL] at q1
   cases q1
   obtain⟨_,a,n,c,k,r1,r2,r3,r4,_⟩:=q3 htot
   have hk0:k=0:=by omega
   subst hk0
   rw [r2,r1]
   rcases k4.2 with ⟨hv,hn⟩|⟨g,cap,cur,tg,hv,_⟩
   ·rw [r1] at hv
    cases hv
    have:xs.length=0:=hn
    simp [this]
   ·rw [r1] at hv
    cases hv
    simp [Addr.add,Bg]
 subst hu
 refine⟨L.v,us,σ'.fz,rfl,hI'.below,fun b c h=>(hEx'.fz b c h).1,fun b c h hlt=>hI'.old b c h hlt,hI'.cells,k1.bare (fun b c h=>⟨h,rfl⟩) (EM.refl _) (Ol hfzv),hfzv,fun x hx=>by rw [k2 x hx,hesz],k3,by rw [<- hesz];exact k4,fun g c hg' hfz=>?_⟩
 have:=hI'.floor g c hfz 1 _ L rfl rfl hL hg'
 simp [Bg] at this
theorem rF (hmix:P.follows .mixedOrders=true) {f:FuncId} {fn:Func} {t tb e:TypeId} (hfn:P.funcs[f]? = some fn) (hbody:fn.body=some (tJ t tb)) (hnt:fn.ntmps=8) (hres:fn.results = #[.tmp 2]) (hname:(fn.name == "runtime.NumGoroutine")=false)
  (hti:(Jq P t).map TI.ty=some (.slice e)) (htu:P.underlying t=some (.slice e)) {n by' : Nat} (hei:(Jq P e).map (fun i=>(i.size,i.bytes,i.TB))=some (n,by',true)) (hpos:0<n):QY P f n by' e:=by
 cases h1:Jq P t with
 | none=>rw [h1] at hti;cases hti
 | some ti=>
  cases h2:Jq P e with
  | none=>rw [h2] at hei;cases hei
  | some ei=>
   rw [h1] at hti
   rw [h2] at hei
   simp only [Option.map_some,Option.some.injEq,Prod.mk.injEq] at hti hei
   obtain⟨ty,i1,i2,iz⟩:=ti
   simp only at hti
   subst hti
   obtain⟨rfl,rfl,hz⟩:=hei
   unfold TI.TB at hz
   split at hz
   ·rename_i z hz0
    simp only [Bool.and_eq_true,beq_iff_eq] at hz
    exact⟨⟨fn,hfn,by rw [hbody];rfl,hname⟩,fun E xs h3 h4=>Zw0 hmix hfn hbody hnt hres h1 htu h2 hz0 hpos hz.2 hz.1 h3 h4,fun E xs h3 h4=>Zzd hmix hfn hbody hnt hres h1 htu h2 hz0 hpos hz.2 hz.1 h3 h4⟩
   ·cases hz
theorem pU {U:CY} {E0:Env} {f n by' e:Nat} (h:QY P f n by' e) {m:HMod U}
  (hm:∀(x:m.DZ.X U) (y:U.Ty m.ky),m.fn x=some y->∃xs,Ar U (m.DZ.enc x).1=[.sl false n xs]/\BL U (m.DZ.enc x).2=[]/\AU U (m.out y).1 = .Ba 0 0 xs.length xs.length/\BL U (m.out y).2=[Bg true false e n xs]/\xs.length*by' <= lim/\xs.length<=maxLen):Dv P E0 f m:=by
 refine⟨h.entered,fun x y hx=>?_⟩
 obtain⟨xs,h1,h2,h3,h4,h5,h6⟩:=hm x y hx
 rw [h1,h2,h3,h4]
 intro B w0 σ w vs hI hg hr
 have:=ZcF (P:=P) (E:=E0) (f:=f) (e:=e) (sz:=n) (xs:=xs) (as:=[.sl false n xs]) [] (by simpa [GG] using h.own E0 xs h5 h6) rfl hI hg hr
 exact this
end
open Go.ChangeShapes Go.WideShapes Go.ChangeAt
theorem Zd5 {σ:Sg} {w:World} {ik:IntKind}:∀(ks:List Int),(∀k∈ks,(Lit.int ik k).wf=true)->AQ σ w (ks.map fun n=>V.lit (.int ik n)) (ks.map fun n=>Value.int ik n)
 | [],_=>.nil
 | k::ks,h=>.lit (by simp [leaf,h k (by simp)]) (Zd5 ks fun j hj=>h j (by simp [hj]))
theorem ZyX {P:Program} {W:World} {name:String} {g tA e:Nat} {ik:IntKind} {ks:List Int} (hg:P.globalNamed name=some g) (ht:(P.globals[g]?).map (·.type)=some tA) (hA:P.underlying tA=some (.array ks.length e)) (he:P.underlying e=some (.int ik)) (hc:P.cellsOf e=1) (hcA:P.cellsOf tA=ks.length)
  (hm:laidMetH P [(name,.agg (ks.map fun n=>.lit (.int ik n)))] W):AQ (bare (MG W)) W [.CG ks.length [.agg (ks.map fun n=>V.lit (.int ik n))] 0 0] [.pointer (some ⟨g,0,none⟩)]:=by
 rw [MakeChecks.laidMetH_plain _ _ _ (by rfl)] at hm
 obtain⟨ps,⟨g0,t0,cs0,f0,p0,q0,hg0,ht0,hv0,hd0,_,_⟩,_,_⟩:=hm
 obtain rfl:=Option.some.inj (hg.symm.trans hg0)
 obtain rfl:=Option.some.inj (ht.symm.trans ht0)
 obtain⟨xs,m1,rfl,hx,hlen,hn,hel⟩:=DataW.trod_array hA hd0
 simp only [Prod.mk.injEq,DataW.agg.injEq] at hx
 rw [hcA] at hlen
 have hcell:∀i,i<ks.length->∃k,ks[i]? = some k/\cs0[i]? = some (.int ik k)/\(Lit.int ik k).wf=true:=by
  intro i hi
  have h1:=hel i hi
  rw [hc,Nat.mul_one] at h1
  have hxi:i<xs.length:=by omega
  rw [List.getElem?_eq_getElem hxi] at h1
  obtain⟨k,e1,e2,e3⟩:=DataW.trod_int he h1
  refine⟨k,?_,?_,e3⟩
  ·have h2:=congrArg (·[i]?) hx.1
   simp only [List.getElem?_map,List.getElem?_eq_getElem hxi,List.getElem?_eq_getElem hi,Option.map_some,e2,Option.some.injEq,DataW.lit.injEq,Lit.int.injEq,true_and] at h2
   rw [List.getElem?_eq_getElem hi,h2]
  ·have h3:i<cs0.toList.length:=by omega
   rw [List.drop_eq_getElem_cons h3] at e1
   simp only [List.take_succ_cons,List.take_zero,List.cons.injEq,and_true] at e1
   rw [<- Array.getElem?_toList,List.getElem?_eq_getElem h3,e1]
 have hwf:∀k∈ks,(Lit.int ik k).wf=true:=by
  intro k hk
  obtain⟨i,hi,rfl⟩:=List.mem_iff_getElem.1 hk
  obtain⟨k',h1,_,h3⟩:=hcell i hi
  rw [List.getElem?_eq_getElem hi] at h1
  obtain rfl:=Option.some.inj h1
  exact h3
 have hone:∀u∈ks.map (fun n=>Value.int ik n),u.oneCell' = true:=by
  intro u hu
  obtain⟨k,_,rfl⟩:=List.mem_map.1 hu
  rfl
 have hr:=AQ.agg (Zd5 (σ:=bare (MG W)) (w:=W) ks hwf) hone (xs:=[]) (vs:=[]) .nil
 have hfl:flat [Value.agg (ks.map fun n=>Value.int ik n).toArray]=ks.map fun n=>Value.int ik n:=by simp [flat,Value.cells]
 have:=AQ.CG (σ:=bare (MG W)) (w:=W) (es:=[.agg (ks.map fun n=>V.lit (.int ik n))]) g 0 ks.length 0 0 hr ?_ ?_ ?_ ?_ (xs:=[]) (vs:=[]) .nil
 ·simpa using this
 ·intro x hx
  obtain rfl:x=V.agg (ks.map fun n=>V.lit (.int ik n)):=by simpa using hx
  simp only [Em,okV,CU,Bool.true_and]
  rw [KG]
  intro y hy
  obtain⟨k,_,rfl⟩:=List.mem_map.1 hy
  rfl
 ·intro u hu
  obtain rfl:u=Value.agg (ks.map fun n=>Value.int ik n).toArray:=by simpa using hu
  simp [Value.cells]
 ·rw [hfl];exact hone
 ·intro j u hj
  rw [hfl,List.getElem?_map] at hj
  cases hk:ks[j]? with
  | none=>simp [hk] at hj
  | some k=>
   simp only [hk,Option.map_some,Option.some.injEq] at hj
   subst hj
   obtain⟨k',h1,h2,_⟩:=hcell j (List.getElem?_eq_some_iff.1 hk).1
   obtain rfl:=Option.some.inj (hk.symm.trans h1)
   have:=(World.var?_cell hg hv0 j).trans h2
   rw [Nat.zero_add]
   exact⟨⟨_,this⟩,this⟩
end Go.Proofs.YtjodhcdmhobmoaaGreatDoor.Le
