/- A part of it. -/
import Derived.Test.YtlabamnhpgoekaaGreatDoorL5
import Derived.OpenShut
import Derived.Carry
import Derived.ProofKit
import Derived.LaidMore
import Derived.MakeChecks
import Derived.FnData
set_option linter.unusedVariables false
set_option linter.unusedSimpArgs false
namespace Go.Proofs.YtlabamnhpgoekaaGreatDoor.Le
open Go.RowKit (Below)
def G9 (P:Program):TypeDesc->Option (List (Nat×TypeId))
 | .struct fs=>some (fs.toList.map fun f=>(f.offset,f.type))
 | .array n e=>some ((List.range n).map fun i=>(i*P.cellsOf e,e))
 | _=>none
def Ho (P:Program) (t:TypeId):Bool:=match P.underlying t with|some d=>d.isRow|none=>false
def Ei (P:Program):Nat->TypeId->List V->Prop
 | 0,_,_=>False
 | d+1,t,cs=>match P.underlying t with
  | some .bool=>∃b,cs=[.lit (.bool b)]
  | some (.int k)=>∃n,cs=[.lit (.int k n)]/\(Lit.int k n).wf=true
  | some .string=>∃s,cs=[.lit (.string s)]/\s.size<=maxLen
  | some (.slice e)=>∃xs,cs=[.sl false (P.cellsOf e) xs]/\xs.length<=reachBytes/\∀x∈xs,(if Ho P e then ∃ds,x = .agg ds else x.cells=[x])/\Ei P d e x.cells
  | some dd=>match G9 P dd with
   | some ss=>cs.length=P.cellsOf t/\∀s∈ss,Ei P d s.2 ((cs.drop s.1).take (P.cellsOf s.2))
   | none=>False
  | none=>False
def covers (P:Program):Nat->List (Nat×TypeId)->Nat->Bool
 | off,[],n=>off==n
 | off,s::ss,n=>s.1==off&&covers P (off+P.cellsOf s.2) ss n
def PL (P:Program):Nat->TypeId->Bool
 | 0,_=>false
 | d+1,t=>match P.underlying t with
  | some .bool=>true
  | some (.int _)=>true
  | some .string=>true
  | some (.slice e)=>PL P d e&&decide (0<P.cellsOf e)&&decide (0<P.bytesOf e)
  | some dd=>match G9 P dd with
   | some ss=>ss.all (fun s=>PL P d s.2)&&covers P 0 ss (P.cellsOf t)
   | none=>false
  | none=>false
def J5 (w:World):Nat->Nat->Prop:=fun b c=>∃u,w.cell? ⟨b,c,none⟩=some u
structure Read (P:Program) (w:World) (d:Nat) (t:TypeId) (cs:List Value) (xs:List V):Prop where
 CU:AL (bare (J5 w)) w xs cs
 ty:Ei P d t xs
 ok:∀x∈xs,Dp x=true
 one:∀u∈cs,u.oneCell' = true
theorem Z1E {P:Program}:∀{ss:List (Nat×TypeId)} {off n:Nat},covers P off ss n=true->off<=n/\∀s∈ss,off<=s.1/\s.1+P.cellsOf s.2<=n:=by
 intro ss
 induction ss with
 | nil=>intro off n h;simp only [covers,beq_iff_eq] at h;exact⟨by omega,by simp⟩
 | cons s ss ih=>
  intro off n h
  simp only [covers,Bool.and_eq_true,beq_iff_eq] at h
  grind
theorem Zf7 {P:Program} {w:World} {d:Nat} {cs:List Value}:∀{ss:List (Nat×TypeId)} {off:Nat},covers P off ss cs.length=true->(∀s∈ss,∃xs,Read P w d s.2 ((cs.drop s.1).take (P.cellsOf s.2)) xs) ->
  ∃xs,AL (bare (J5 w)) w xs (cs.drop off)/\(∀x∈xs,Dp x=true)/\(∀u∈cs.drop off,u.oneCell' = true)/\∀s∈ss,Ei P d s.2 ((xs.drop (s.1 - off)).take (P.cellsOf s.2)):=by
 intro ss
 induction ss with
 | nil=>
  intro off hc _
  simp only [covers,beq_iff_eq] at hc
  refine⟨[],?_,by simp,?_,by simp⟩
  ·rw [hc,List.drop_length];exact .nil
  ·rw [hc,List.drop_length];simp
 | cons s ss ih=>
  intro off hc h
  simp only [covers,Bool.and_eq_true,beq_iff_eq] at hc
  obtain⟨h1,h2⟩:=hc
  obtain⟨x1,r1⟩:=h s (by simp)
  obtain⟨x2,q1,q2,q3,q4⟩:=ih h2 (fun s' hs' =>h s' (by simp [hs']))
  have hle:=(Z1E h2).1
  rw [h1] at r1
  have hlen:x1.length=P.cellsOf s.2:=by
   have:=r1.CU.length
   rw [List.length_take,List.length_drop] at this
   omega
  have hcut:cs.drop off=(cs.drop off).take (P.cellsOf s.2)++cs.drop (off+P.cellsOf s.2):=by
   rw [<- List.drop_drop,List.take_append_drop]
  refine⟨x1++x2,?_,?_,?_,?_⟩
  ·rw [hcut];exact r1.CU.append q1
  ·intro x hx
   rcases List.mem_append.1 hx with hx|hx
   ·exact r1.ok x hx
   ·exact q2 x hx
  ·intro u hu
   rw [hcut] at hu
   rcases List.mem_append.1 hu with hu|hu
   ·exact r1.one u hu
   ·exact q3 u hu
  ·intro s' hs'
   rcases List.mem_cons.1 hs' with rfl|hs'
   ·rw [h1,Nat.sub_self,List.drop_zero,List.take_append_of_le_length (by omega),List.take_of_length_le (by omega)]
    exact r1.ty
   ·have hge:=((Z1E h2).2 s' hs').1
    have:s'.1 - off=x1.length+(s'.1 - (off+P.cellsOf s.2)):=by omega
    rw [this,List.drop_append]
    have e1:x1.drop (x1.length+(s'.1 - (off+P.cellsOf s.2)))=[]:=List.drop_eq_nil_of_le (by omega)
    rw [e1,List.nil_append]
    have e2:x1.length+(s'.1 - (off+P.cellsOf s.2)) - x1.length=s'.1 - (off+P.cellsOf s.2):=by omega
    grind
def Jr (P:Program) (t:TypeId) (xs:List V):V:=if Ho P t then .agg xs else xs.headD .no
def Pq (P:Program) (t:TypeId) (cs:List Value):Value:=if Ho P t then .agg cs.toArray else cs.headD undef
theorem Ei.single {P:Program} {d:Nat} {t:TypeId} {xs:List V} (h:Ei P d t xs) (hr:Ho P t=false):∃x,xs=[x]/\x.cells=[x]:=by
 cases d with
 | zero=>exact h.elim
 | succ d=>
  unfold Ei at h
  unfold Ho at hr
  split at h
  ·obtain⟨b,rfl⟩:=h;exact⟨_,rfl,rfl⟩
  ·obtain⟨n,rfl,_⟩:=h;exact⟨_,rfl,rfl⟩
  ·obtain⟨s,rfl,_⟩:=h;exact⟨_,rfl,rfl⟩
  ·obtain⟨ys,rfl,_⟩:=h;exact⟨_,rfl,rfl⟩
  ·rename_i dd _ _ _ _ hd
   rw [hd] at hr
   split at h
   ·rename_i ss hss
    unfold G9 at hss
    grind
   ·exact h.elim
  ·exact h.elim
theorem Read.arg {P:Program} {w:World} {d:Nat} {t:TypeId} {cs:List Value} {xs:List V} (h:Read P w d t cs xs) :
  AL (bare (J5 w)) w [Jr P t xs] [Pq P t cs]/\Dp (Jr P t xs)=true/\(Pq P t cs).cells.toList=cs/\(Jr P t xs).cells=xs/\(if Ho P t then ∃ds,Jr P t xs = .agg ds else (Jr P t xs).cells=[Jr P t xs]):=by
 unfold Jr Pq
 cases hr:Ho P t with
 | true=>
  simp only [if_true]
  refine⟨?_,?_,by simp [Value.cells],rfl,⟨xs,rfl⟩⟩
  ·have:=AL.agg h.CU h.one (xs:=[]) (vs:=[]) .nil
   exact this
  ·simp only [Dp,okV,BQ,Bool.true_and]
   rw [JA]
   exact fun x hx=>OE (h.ok x hx)
 | false=>
  simp only [Bool.false_eq_true,if_false]
  obtain⟨x,rfl,hx⟩:=h.ty.single hr
  obtain⟨u,us,rfl,h1,h2⟩:=h.CU.Cf
  have:us=[]:=h2.EN
  subst this
  refine⟨h1,h.ok x (by simp),?_,hx,hx⟩
  have hone:=h.one u (by simp)
  simp only [List.headD_cons]
  cases u<;>simp_all [Value.cells,Value.oneCell']
section
variable {H:Type} {enc:TypeId×Value->H} {P:Program} {w:World} {base:Nat} {held:Bool}
theorem weightsAll_mem {e:TypeId}:∀{l:List (DataW H)} {y:DataW H},y∈l->∀n∈y.weights P e,n∈DataW.weightsAll P e l
 | z::l,y,hy,n,hn=>by
  simp only [DataW.weightsAll,List.mem_append]
  rcases List.mem_cons.1 hy with rfl|hy
  ·exact .inl hn
  ·exact .inr (weightsAll_mem hy n hn)
theorem yZ:∀{ts:List TypeId} {l:List (DataW H)} {i:Nat} {t:TypeId} {y:DataW H},ts[i]? = some t->l[i]? = some y->∀n∈y.weights P t,n∈DataW.weightsEach P ts l
 | [],_,_,_,_,h,_,_,_=>by simp at h
 | _::_,[],_,_,_,_,h,_,_=>by simp at h
 | t0::ts,z::l,i,t,y,h1,h2,n,hn=>by
  simp only [DataW.weightsEach,List.mem_append]
  cases i with
  | zero=>
   simp only [List.getElem?_cons_zero,Option.some.injEq] at h1 h2
   subst h1 h2
   exact .inl hn
  | succ i=>
   simp only [List.getElem?_cons_succ] at h1 h2
   exact .inr (yZ h1 h2 n hn)
theorem zC {us:List TypeId} {gs:List (DataW H)}:∀{ts:List TypeId} {l:List (DataW H)},l.length=ts.length->∀n∈DataW.weightsEach P ts l,n∈DataW.weightsEach P (ts++us) (l++gs)
 | [],_,_,n,h=>by simp [DataW.weightsEach] at h
 | _::_,[],h,_,_=>by simp at h
 | t::ts,z::l,hl,n,hn=>by
  simp only [DataW.weightsEach,List.cons_append,List.mem_append] at hn ⊢
  rcases hn with hn|hn
  ·exact .inl hn
  ·exact .inr (zC (by simpa using hl) n hn)
theorem Ziw:∀(d:Nat) (t:TypeId) (n:Nat) (cs:List Value) (x:DataW H×List MemPlace),PL P d t=true->(∀k∈x.1.weights P t,k<=reachBytes)->DataW.trod enc P w base (fun _=>true) held n t cs=some x->∃xs,Read P w d t cs xs:=by
 intro d
 induction d with
 | zero=>intro t n cs x h;simp [PL] at h
 | succ d ih=>
  intro t n cs x hp hw h
  unfold PL at hp
  split at hp
  ·rename_i ht
   obtain⟨b,rfl,_⟩:=DataW.trod_bool ht h
   exact⟨[.lit (.bool b)],.lit rfl .nil,by unfold Ei;rw [ht];exact⟨b,rfl⟩,by simp [Dp,okV,BQ],by simp [Value.oneCell']⟩
  ·rename_i k ht
   obtain⟨m,rfl,_,hm⟩:=DataW.trod_int ht h
   exact⟨[.lit (.int k m)],.lit (by simp [leaf,hm]) .nil,by unfold Ei;rw [ht];exact⟨m,rfl,hm⟩,by simp [Dp,okV,BQ],by simp [Value.oneCell']⟩
  ·rename_i ht
   obtain⟨s,rfl,_,hs⟩:=DataW.trod_string ht h
   exact⟨[.lit (.string s)],.lit (by simp [leaf,hs]) .nil,by unfold Ei;rw [ht];exact⟨s,rfl,hs⟩,by simp [Dp,okV,BQ],by simp [Value.oneCell']⟩
  ·rename_i e ht
   simp only [Bool.and_eq_true,decide_eq_true_eq] at hp
   obtain⟨⟨hpe,hpos⟩,hbpos⟩:=hp
   have mk:∀(v:Value) (es:List V),AL (bare (J5 w)) w [.sl false (P.cellsOf e) es] [v]->v.oneCell' = true->es.length<=reachBytes->(∀y∈es,Dp y=true) ->
     (∀y∈es,(if Ho P e then ∃ds,y = .agg ds else y.cells=[y])/\Ei P d e y.cells)->∃xs,Read P w (d+1) t [v] xs:=by
    intro v es h1 h2 h3 h4 h5
    refine⟨_,h1,?_,?_,by simpa using h2⟩
    ·unfold Ei;rw [ht];exact⟨es,rfl,h3,h5⟩
    ·intro y hy
     simp only [List.mem_singleton] at hy
     subst hy
     simp only [Dp,okV,BQ,Bool.true_and]
     rw [JA]
     exact fun z hz=>OE (h4 z hz)
   rcases DataW.trod_slice ht h with ⟨rfl,_⟩|⟨a,len,cap,elems,rest,m,rfl,rfl,hx,hb,hlc,hcm,hel,helem,hrest,_⟩
   ·exact mk _ [] (.Dj .nil) rfl (by simp) (by simp) (by simp)
   ·obtain⟨hrl,hrest⟩:=hrest rfl
    rw [hx] at hw
    simp only [DataW.weights,ht,List.length_map,List.mem_cons,List.mem_append,forall_eq_or_imp] at hw
    obtain⟨hw0,hw⟩:=hw
    have hlen:elems.length<=reachBytes:=by
     have h1:=Nat.le_mul_of_pos_right (elems.length+rest.length) hbpos
     omega
    by_cases hc0:cap=0
    ·subst hc0
     have:len=0:=by omega
     subst this
     exact mk _ [] (.EG a .nil) rfl (by simp) (by simp) (by simp)
    ·
     have hspot:a.spot=none:=by
      have hfirst:∃c0,w.cells? base (a.add 0) (P.cellsOf e)=some c0:=by
       by_cases hl0:0<len
       ·have:=helem 0 hl0
        rw [Nat.zero_mul] at this
        have hlt:0<elems.length:=by omega
        rw [List.getElem?_eq_getElem hlt] at this
        cases hq:w.cells? base (a.add 0) (P.cellsOf e) with
        | none=>simp [hq] at this
        | some c0=>exact⟨c0,rfl⟩
       ·have hl0:len=0:=by omega
        subst hl0
        have:=hrest 0 (by omega)
        simp only [Nat.zero_add,Nat.zero_mul] at this
        have hlt:0<rest.length:=by omega
        rw [List.getElem?_eq_getElem hlt] at this
        cases hq:w.cells? base (a.add 0) (P.cellsOf e) with
        | none=>simp [hq] at this
        | some c0=>exact⟨c0,rfl⟩
      obtain⟨c0,hc0'⟩:=hfirst
      obtain⟨_,e2,e3⟩:=World.cells?_some hc0'
      have:=e3 0 hpos
      have hlt:0<c0.length:=by omega
      rw [List.getElem?_eq_getElem hlt] at this
      simp only [Addr.add,if_true] at this
      unfold World.cell? at this
      split at this
      ·simp_all
      ·cases this
     obtain⟨ab,ao,as⟩:=a
     simp only at hspot
     subst hspot
     have each:∀i,i<len->∃ci xi,w.cells? base (Addr.add ⟨ab,ao,none⟩ (i*P.cellsOf e)) (P.cellsOf e)=some ci/\Read P w d e ci xi:=by
      intro i hi
      have:=helem i hi
      have hlt:i<elems.length:=by omega
      rw [List.getElem?_eq_getElem hlt] at this
      cases hq:w.cells? base (Addr.add ⟨ab,ao,none⟩ (i*P.cellsOf e)) (P.cellsOf e) with
      | none=>simp [hq] at this
      | some ci=>
       rw [hq,Option.bind_some] at this
       obtain⟨xi,hxi⟩:=ih e m ci elems[i] hpe (fun k hk=>hw k (.inl (weightsAll_mem (List.mem_map.2 ⟨elems[i],List.getElem_mem hlt,rfl⟩) k hk))) this
       exact⟨ci,xi,rfl,hxi⟩
     have list:∀k,k<=len->∃(es:List V) (us:List Value),es.length=k/\AL (bare (J5 w)) w es us/\(∀y∈es,Dp y=true)/\(∀u∈us,u.cells.size=P.cellsOf e)/\(∀u∈flat us,u.oneCell' = true) /\
       (∀y∈es,(if Ho P e then ∃ds,y = .agg ds else y.cells=[y])/\Ei P d e y.cells)/\(∀j u,(flat us)[j]? = some u->w.cell? ⟨ab,ao+j,none⟩=some u):=by
      intro k
      induction k with
      | zero=>intro _;exact⟨[],[],rfl,.nil,by simp,by simp,by simp [flat],by simp,by simp [flat]⟩
      | succ k ihk=>
       intro hk
       obtain⟨es,us,l1,l2,l3,l4,l5,l6,l7⟩:=ihk (by omega)
       obtain⟨ci,xi,hci,hr⟩:=each k (by omega)
       obtain⟨a1,a2,a3,a4,a5⟩:=hr.arg
       obtain⟨_,c2,c3⟩:=World.cells?_some hci
       have hsz:(Pq P e ci).cells.size=P.cellsOf e:=by
        have:=congrArg List.length a3
        simpa [c2] using this
       refine⟨es++[Jr P e xi],us++[Pq P e ci],by simp [l1],l2.append a1,?_,?_,?_,?_,?_⟩
       ·grind
       ·grind
       ·intro u hu
        rw [LQ] at hu
        rcases List.mem_append.1 hu with hu|hu
        ·exact l5 u hu
        ·rw [KI,a3] at hu
         exact hr.one u hu
       ·intro y hy
        rcases List.mem_append.1 hy with hy|hy
        ·exact l6 y hy
        ·rw [List.mem_singleton.1 hy];exact⟨a5,by rw [a4];exact hr.ty⟩
       ·intro j u hj
        rw [LQ,KI,a3] at hj
        have hfl:(flat us).length=k*P.cellsOf e:=by rw [flat_length l4,<- l2.length,l1]
        by_cases hlt:j<(flat us).length
        ·grind
        ·rw [List.getElem?_append_right (by omega)] at hj
         have hjl:j - (flat us).length<P.cellsOf e:=by
          have:=(List.getElem?_eq_some_iff.1 hj).1
          omega
         have:=c3 _ hjl
         rw [hj] at this
         rw [<- this]
         congr 1
         have hadd:Addr.add (Addr.add ⟨ab,ao,none⟩ (k*P.cellsOf e)) (j - (flat us).length)=⟨ab,ao+j,none⟩:=by
          simp only [Addr.add]
          split<;>split<;>simp<;>omega
         rw [hadd]
     obtain⟨es,us,l1,l2,l3,l4,l5,l6,l7⟩:=list len (Nat.le_refl _)
     subst l1
     refine mk _ es ?_ rfl (by omega) l3 l6
     exact .sl ab ao cap (P.cellsOf e) l2 l3 l4 l5 hlc hcm (fun j u hj=>⟨⟨u,l7 j u hj⟩,l7 j u hj⟩) .nil
  ·rename_i dd _ _ _ _ ht
   split at hp
   ·rename_i ss hss
    simp only [Bool.and_eq_true,List.all_eq_true] at hp
    obtain⟨hall,hcov⟩:=hp
    have parts:cs.length=P.cellsOf t/\∀s∈ss,∃xs,Read P w d s.2 ((cs.drop s.1).take (P.cellsOf s.2)) xs:=by
     cases dd with
     | struct fs=>
      simp only [G9,Option.some.injEq] at hss
      obtain⟨xs,m,_,hx,hlen,hxl,hf⟩:=DataW.trod_struct ht h
      rw [hx] at hw
      simp only [DataW.weights,ht] at hw
      refine⟨hlen,fun s hs=>?_⟩
      have hs' :=hs
      rw [<- hss] at hs
      obtain⟨f,hfm,rfl⟩:=List.mem_map.1 hs
      obtain⟨i,hi,hfi⟩:=List.getElem_of_mem hfm
      have hfi' : fs[i]? = some f:=by simp at hi;rw [Array.getElem?_eq_getElem hi];simp at hfi;rw [hfi]
      have hil:i<xs.length:=by rw [hxl];simpa using hi
      have hti:=hf i f hfi'
      rw [List.getElem?_eq_getElem hil] at hti
      exact ih _ m _ _ (hall _ hs') (fun k hk=>hw k (yZ (i:=i) (t:=f.type) (y:=xs[i].1) (by simp [hfi']) (by simp [hil]) k hk)) hti
     | array n' e=>
      simp only [G9,Option.some.injEq] at hss
      obtain⟨xs,m,_,hx,hlen,hxl,hf⟩:=DataW.trod_array ht h
      rw [hx] at hw
      simp only [DataW.weights,ht] at hw
      refine⟨hlen,fun s hs=>?_⟩
      have hs' :=hs
      rw [<- hss] at hs
      obtain⟨i,him,rfl⟩:=List.mem_map.1 hs
      have hi:i<n' :=List.mem_range.1 him
      have hil:i<xs.length:=by omega
      have hti:=hf i hi
      rw [List.getElem?_eq_getElem hil] at hti
      exact ih _ m _ _ (hall _ hs') (fun k hk=>hw k (weightsAll_mem (List.mem_map.2 ⟨xs[i],List.getElem_mem hil,rfl⟩) k hk)) hti
     | _=>simp [G9] at hss
    obtain⟨hlen,hparts⟩:=parts
    obtain⟨xs,h1,h2,h3,h4⟩:=Zf7 (by rw [hlen];exact hcov) hparts
    rw [List.drop_zero] at h1 h3
    refine⟨xs,h1,?_,h2,h3⟩
    unfold Ei
    rw [ht]
    simp only [Nat.sub_zero] at h4
    split<;>first|(rename_i hq;simp only [Option.some.injEq] at hq;subst hq;simp [G9] at hss;done)|skip
    ·rename_i hq
     simp only [Option.some.injEq] at hq
     subst hq
     rw [hss]
     exact⟨by rw [h1.length];exact hlen,h4⟩
    ·rename_i hq;cases hq
   ·cases hp
  ·cases hp
inductive UQ (P:Program) (d:Nat):List TypeId->List V->Prop where
 | nil:UQ P d [] []
 | cons {t ts xs as}:Ei P d t xs->UQ P d ts as->UQ P d (t::ts) (Jr P t xs::as)
theorem Zd9 {r:Reach} {b0:Nat} {d:Nat} {t:TypeId} {v:Value} {xs:List V} (hv:Value.okWide P w r b0 t v) (h:Read P w d t v.cells.toList xs):Pq P t v.cells.toList=v:=by
 unfold Pq
 cases hr:Ho P t with
 | true=>
  simp only [if_true]
  unfold Ho at hr
  split at hr
  ·rename_i dd hd
   unfold Value.okWide at hv
   rw [hd] at hv
   cases dd<;>simp [TypeDesc.isRow] at hr
   ·obtain⟨cs,rfl,_⟩:=hv;simp [Value.cells]
   ·obtain⟨cs,rfl,_⟩:=hv;simp [Value.cells]
  ·cases hr
 | false=>
  simp only [Bool.false_eq_true,if_false]
  obtain⟨x,rfl,_⟩:=h.ty.single hr
  have hne:∀cs,v≠.agg cs:=by
   rintro cs rfl
   unfold Ho at hr
   unfold Value.okWide at hv
   split at hv
   ·rename_i hd;rw [hd] at hr;simp [TypeDesc.isRow] at hr
   ·rename_i hd;rw [hd] at hr;simp [TypeDesc.isRow] at hr
   ·unfold Cell.okWide at hv
    split at hv<;>simp_all [Cell.ok]
  cases v<;>first|rfl|exact absurd rfl (hne _)
theorem Zih {d:Nat}:∀{ts:List TypeId} {vs:List Value} {ds:List (DataW H)} {ps:List MemPlace},DataW.TrodAll enc P w base (fun _=>true) held ts vs ds ps->(∀k∈DataW.weightsEach P ts ds,k<=reachBytes)->(∀t∈ts,PL P d t=true) ->
  (∀(j:Nat) t v,ts[j]? = some t->vs[j]? = some v->∃r b0,Value.okWide P w r b0 t v)->∃as,AL (bare (J5 w)) w as vs/\UQ P d ts as:=by
 intro ts
 induction ts with
 | nil=>
  intro vs ds ps h _ _ _
  cases vs with
  | nil=>exact⟨[],.nil,.nil⟩
  | cons v vs=>cases ds<;>exact h.elim
 | cons t ts ih=>
  intro vs ds ps h hwt hp hv
  cases vs with
  | nil=>exact h.elim
  | cons v vs=>
   cases ds with
   | nil=>exact h.elim
   | cons d0 ds=>
    obtain⟨p,q,⟨fuel,h1⟩,h2,_⟩:=h
    simp only [DataW.weightsEach,List.mem_append] at hwt
    obtain⟨as,r1,r2⟩:=ih h2 (fun k hk=>hwt k (.inr hk)) (fun t' ht' =>hp t' (by simp [ht'])) (fun j t' v' hj hj' =>hv (j+1) t' v' (by simpa using hj) (by simpa using hj'))
    obtain⟨xs,hx⟩:=Ziw d t fuel _ _ (hp t (by simp)) (fun k hk=>hwt k (.inl hk)) h1
    obtain⟨r,b0,hok⟩:=hv 0 t v rfl rfl
    have ha:=hx.arg.1
    rw [Zd9 hok hx] at ha
    exact⟨_,AL.ED.2 ⟨ha,r1⟩,.cons hx.ty r2⟩
end
end Go.Proofs.YtlabamnhpgoekaaGreatDoor.Le
namespace Go.Proofs.YtlabamnhpgoekaaGreatDoor.Le
open Go.RowKit (Below)
open Go.ChangeShapes
structure BO (P:Program) {Ty:Nat->Type} {T:Type} (c:AA Ty T) (t:TypeId) (wf:T->Prop):Prop where
 rd:∀(d:Nat) (xs:List V),Ei P d t xs->∃a,c.AV a=xs/\wf a
structure Bg (P:Program) {Ty:Nat->Type} {T:Type} (c:AA Ty T) (ss:List (Nat×TypeId)) (off n:Nat) (wf:T->Prop):Prop where
 rd:∀(d:Nat) (xs:List V),xs.length=n->(∀s∈ss,Ei P d s.2 ((xs.drop s.1).take (P.cellsOf s.2)))->∃a,c.AV a=xs.drop off/\wf a
def WI (k:IntKind) (a:Int):Prop:=(Lit.int k a).wf=true
def WB (_:Bool):Prop:=True
def WS (s:ByteArray):Prop:=s.size<=maxLen
def WL {α:Type} (p:α->Prop) (xs:List α):Prop:=xs.length<=reachBytes/\∀x∈xs,p x
def WU (_:Unit):Prop:=True
section
variable {P:Program} {Ty:Nat->Type} {T:Type}
theorem BO.int {k:IntKind} {t:TypeId} (ht:P.underlying t=some (.int k)):BO P (AA.int k:AA Ty Int) t (WI k):=by
 refine⟨fun d xs h=>?_⟩
 cases d with
 | zero=>exact h.elim
 | succ d=>
  unfold Ei at h
  rw [ht] at h
  obtain⟨n,rfl,hw⟩:=h
  exact⟨n,rfl,hw⟩
theorem BO.bool {t:TypeId} (ht:P.underlying t=some .bool):BO P (AA.bool:AA Ty Bool) t WB:=by
 refine⟨fun d xs h=>?_⟩
 cases d with
 | zero=>exact h.elim
 | succ d=>
  unfold Ei at h
  rw [ht] at h
  obtain⟨n,rfl⟩:=h
  exact⟨n,rfl,trivial⟩
theorem BO.str {t:TypeId} (ht:P.underlying t=some .string):BO P (AA.str:AA Ty ByteArray) t WS:=by
 refine⟨fun d xs h=>?_⟩
 cases d with
 | zero=>exact h.elim
 | succ d=>
  unfold Ei at h
  rw [ht] at h
  obtain⟨n,rfl,hw⟩:=h
  exact⟨n,rfl,hw⟩
theorem Z3G {α:Type} {p:α->Prop} {e:α->V}:∀{xs:List V},(∀x∈xs,∃a,e a=x/\p a)->∃as:List α,as.map e=xs/\∀a∈as,p a:=by
 intro xs
 induction xs with
 | nil=>simp_all
 | cons x xs ih=>
  intro h
  obtain⟨a,ha,hp⟩:=h x (by simp)
  obtain⟨as,has,hps⟩:=ih (fun y hy=>h y (by simp [hy]))
  refine⟨a::as,by simp [ha,has],fun b hb=>?_⟩
  grind
theorem BO.rows {t e n:Nat} {c:AA Ty (Ty e)} {wf:Ty e->Prop} (ht:P.underlying t=some (.slice e)) (hn:P.cellsOf e=n) (hr:Ho P e=true) (hc:BO P c e wf) :
  BO P (AA.list e n (fun a=>.agg (c.AV a)):AA Ty (List (Ty e))) t (WL wf):=by
 refine⟨fun d xs h=>?_⟩
 cases d with
 | zero=>exact h.elim
 | succ d=>
  unfold Ei at h
  rw [ht] at h
  obtain⟨ys,rfl,hl,hy⟩:=h
  obtain⟨as,has,hp⟩:=Z3G (p:=wf) (e:=fun a=>V.agg (c.AV a)) (xs:=ys) (fun y hy' =>by
   obtain⟨h1,h2⟩:=hy y hy'
   rw [if_pos hr] at h1
   obtain⟨ds,rfl⟩:=h1
   obtain⟨a,ha,hw⟩:=hc.rd d _ h2
   exact⟨a,by rw [ha];rfl,hw⟩)
  subst hn
  exact⟨as,by simp only [AA.list,has],by grind,hp⟩
theorem BO.ones {t e n:Nat} {c:AA Ty (Ty e)} {wf:Ty e->Prop} (ht:P.underlying t=some (.slice e)) (hn:P.cellsOf e=n) (hr:Ho P e=false) (hc:BO P c e wf) :
  BO P (AA.list e n (fun a=>c.Ah a):AA Ty (List (Ty e))) t (WL wf):=by
 refine⟨fun d xs h=>?_⟩
 cases d with
 | zero=>exact h.elim
 | succ d=>
  unfold Ei at h
  rw [ht] at h
  obtain⟨ys,rfl,hl,hy⟩:=h
  obtain⟨as,has,hp⟩:=Z3G (p:=wf) (e:=fun a=>c.Ah a) (xs:=ys) (fun y hy' =>by
   obtain⟨h1,h2⟩:=hy y hy'
   rw [if_neg (by simp [hr])] at h1
   obtain⟨a,ha,hw⟩:=hc.rd d _ h2
   exact⟨a,by simp only [AA.Ah,ha,h1];rfl,hw⟩)
  subst hn
  exact⟨as,by simp only [AA.list,has],by grind,hp⟩
theorem Bg.unit {off n:Nat} (h:off=n):Bg P (AA.unit:AA Ty Unit) [] off n WU:=by
 refine⟨fun d xs hl _=>⟨(),?_,trivial⟩⟩
 subst h
 rw [<- hl,List.drop_length]
 rfl
theorem Bg.pair {A B:Type} {a:AA Ty A} {b:AA Ty B} {t off n k:Nat} {ss:List (Nat×TypeId)} {wa:A->Prop} {wb:B->Prop} (ha:BO P a t wa) (hk:P.cellsOf t=k) (hb:Bg P b ss (off+k) n wb) :
  Bg P (AA.pair a b) ((off,t)::ss) off n (fun x=>wa x.1/\wb x.2):=by
 refine⟨fun d xs hl h=>?_⟩
 obtain⟨x,hx,hwx⟩:=ha.rd d _ (h (off,t) (by simp))
 obtain⟨y,hy,hwy⟩:=hb.rd d xs hl (fun s hs=>h s (by simp [hs]))
 refine⟨(x,y),?_,hwx,hwy⟩
 simp only [AA.pair,hx,hy]
 rw [hk,<- List.drop_drop,List.take_append_drop]
theorem BO.row {c:AA Ty T} {t n:Nat} {dd:TypeDesc} {ss:List (Nat×TypeId)} {wf:T->Prop} (ht:P.underlying t=some dd) (hss:G9 P dd=some ss) (hn:P.cellsOf t=n) (h:Bg P c ss 0 n wf):BO P c t wf:=by
 refine⟨fun d xs hx=>?_⟩
 cases d with
 | zero=>exact hx.elim
 | succ d=>
  unfold Ei at hx
  rw [ht] at hx
  have key:xs.length=P.cellsOf t/\∀s∈ss,Ei P d s.2 ((xs.drop s.1).take (P.cellsOf s.2)):=by
   cases dd with
   | struct fs=>simp_all
   | array m e=>simp_all
   | _=>simp [G9] at hss
  obtain⟨a,ha,hw⟩:=h.rd d xs (key.1.trans hn) key.2
  grind
theorem BO.Aq {A B:Type} {f:A->B} {g:B->A} {b:AA Ty B} {t:TypeId} {wf:B->Prop} (hb:BO P b t wf) (hfg:∀y,f (g y)=y):BO P (AA.Aq f g b) t (fun x=>wf (f x)):=by
 refine⟨fun d xs h=>?_⟩
 obtain⟨y,hy,hw⟩:=hb.rd d xs h
 exact⟨g y,by simp only [AA.Aq,hfg];exact hy,by rw [hfg];exact hw⟩
end
structure QC (P:Program) (U:CE) (t:TypeId) (wf:U.Ty t->Prop):Prop where
 rd:∀d xs,Ei P d t xs->∃a,U.enc t a=Jr P t xs/\wf a
theorem QC.rows {P:Program} {U:CE} {t:TypeId} {c:AA U.Ty (U.Ty t)} {wf:U.Ty t->Prop} (hr:Ho P t=true) (hc:BO P c t wf) (he:∀a,U.enc t a = .agg (c.AV a)):QC P U t wf:=by
 refine⟨fun d xs h=>?_⟩
 obtain⟨a,ha,hw⟩:=hc.rd d xs h
 exact⟨a,by rw [he,ha];simp [Jr,hr],hw⟩
theorem QC.ones {P:Program} {U:CE} {t:TypeId} {c:AA U.Ty (U.Ty t)} {wf:U.Ty t->Prop} (hr:Ho P t=false) (hc:BO P c t wf) (he:∀a,U.enc t a=c.Ah a):QC P U t wf:=by
 refine⟨fun d xs h=>?_⟩
 obtain⟨a,ha,hw⟩:=hc.rd d xs h
 exact⟨a,by rw [he];simp [Jr,hr,AA.Ah,ha],hw⟩
inductive OW (P:Program) (U:CE):(ts:List Nat)->(Dy U ts->Prop)->Prop where
 | nil:OW P U [] (fun _=>True)
 | cons {t ts wf W}:QC P U t wf->OW P U ts W->OW P U (t::ts) (fun x=>wf x.1/\W x.2)
theorem Zgo {P:Program} {U:CE} {ts:List Nat} {W:Dy U ts->Prop} (h:OW P U ts W):∀{d:Nat} {as:List V},UQ P d ts as->∃x:Dy U ts,Ep ts x=as/\W x:=by
 induction h with
 | nil=>intro d as ha;cases ha;exact⟨(),rfl,trivial⟩
 | cons ht _ ih=>
  intro d as ha
  cases ha with
  | cons h1 h2=>
   obtain⟨a,ha,hw⟩:=ht.rd _ _ h1
   obtain⟨x,hx,hW⟩:=ih h2
   exact⟨(a,x),by simp [Ep,ha,hx],hw,hW⟩
section
variable {H:Type} {enc:TypeId×Value->H} {P:Program}
theorem ZF {W W' : World} {sp:Nat->Bool} (hl:laidOutB P=true):∀{ts:List TypeId} {vs:List Value} {ds:List (DataW H)} {ps:List MemPlace},(∀t∈ts,P.readableRec t=true/\t<P.types.size) ->
  DataW.TrodAll enc P W 0 (fun _=>true) true ts vs ds ps->Below W.heap.size W W' -> (∀p∈ps,p.block<W.heap.size)->(∀p∈ps,sp p.block=true)->DataW.TrodAll enc P W' 0 sp true ts vs ds ps
 | [],[],[],_,_,h,_,_,_=>h
 | t::ts,v::vs,d::ds,_,ht,⟨p,q,h1,h2,e⟩,hb,hlt,hsp=>
  ⟨p,q,WideElems.Trod_stays hl (ht t (by simp)).1 (ht t (by simp)).2 h1 (fun x hx=>hb.same (hlt x (by simp_all))) (fun x hx=>hsp x (by simp_all)),
   ZF hl (fun t ht' =>ht t (by simp [ht'])) h2 hb (fun x hx=>hlt x (by simp_all)) (fun x hx=>hsp x (by simp_all)),e⟩
theorem Zga {f:Func} {s:ChangeSpec} {apart fresh handsOn again:Bool} {W W' : World} {args:Array Value} {ds gs:List (DataW H)} {before:List MemPlace} {tb:TypeId} (hl:laidOutB P=true) (hts:∀t∈f.params.toList,P.readableRec t=true/\t<P.types.size)
  (hW:DataW.Whole enc P f.params.toList s.vars apart W args.toList ds gs before) (hb:Below W.heap.size W W') (hr:f.resultTypes = #[tb]) (htb:P.underlying tb=some .bool)
  (h1:(s.fn H (ds++gs)).results=[.lit (.bool true)]) (h2:(s.fn H (ds++gs)).args=ds) (h3:(s.fn H (ds++gs)).vars=gs)
  (hvars:∀(pv:List MemPlace),DataW.TrodVars enc P W (fun _=>true) s.vars gs pv->(∀p∈pv,p.block<W.heap.size)->∀sp:Nat->Bool,(∀p∈pv,sp p.block=true)->DataW.TrodVars enc P W' sp s.vars gs pv) :
  s.post enc P f apart fresh handsOn again W args (.bool true) W' :=by
 have hlt:=hW.lt
 have hW0:=hW
 obtain⟨pa,pv,hA,hV,hps,hz,hn⟩:=hW
 have hold:∀p∈before,(fun b=>decide (b<W.heap.size)) p.block=true:=fun p hp=>by simpa using hlt p hp
 have hpa:∀p∈pa,p∈before:=fun p hp=>by simp_all
 have hpv:∀p∈pv,p∈before:=fun p hp=>by simp_all
 have hargs:∀sp:Nat->Bool,(∀p∈before,sp p.block=true)->DataW.TrodAll enc P W' 0 sp true f.params.toList args.toList (s.fn H (ds++gs)).args pa:=fun sp hsp=>by
  rw [h2];exact ZF hl hts hA hb (fun p hp=>hlt p (hpa p hp)) (fun p hp=>hsp p (hpa p hp))
 have hvs:∀sp:Nat->Bool,(∀p∈before,sp p.block=true)->DataW.TrodVars enc P W' sp s.vars (s.fn H (ds++gs)).vars pv:=fun sp hsp=>by
  simp_all
 have hres:∀(b:Nat) (sp:Nat->Bool) (hd:Bool),DataW.TrodAll enc P W' b sp hd f.resultTypes.toList ((Value.bool true).resultList f.resultTypes.size) (s.fn H (ds++gs)).results []:=fun b sp hd=>by
  rw [h1,hr];exact trodAll_cons_mk (p:=[]) (p' :=[]) (RowKit.shut_bool htb _) trodAll_mk0
 refine⟨ds,gs,before,[],pa,pv,hW0,hres _ _ _,hargs _ hold,hvs _ hold,World.keptBut_mono (fun p hp=>⟨hp,?_⟩) (hb.frame (·∈before)),fun _=>?_⟩
 ·simp_all
 ·refine⟨RowKit.ok_one hr rfl (RowKit.okWide_bool_mk htb _),_,_,([]++pa)++pv,⟨[]++pa,pv,trodAll_append (hargs _ (fun _ _=>rfl)) (hres _ _ _),hvs _ (fun _ _=>rfl),rfl,?_,?_⟩,?_⟩
  ·intro b off hp
   have hm:MemPlace.cell b off∈before:=by rw [hps];simpa using hp
   rw [hb.frozen (p:=⟨b,off,none⟩) (hlt _ hm)]
   exact hz b off hm
  ·simp_all
  simp_all
theorem ZkY {U:CE} {E0:Env} {f:FuncId} {fn:Func} {m:Ai U} {s:ChangeSpec} {apart fresh handsOn again:Bool} {tb:TypeId} (hok:Ag P E0 f m) {Wf:Dy U m.ts->Prop} (hrd:OW P U m.ts Wf) (hpar:fn.params.toList=m.ts) {d:Nat} (hpl:∀t∈m.ts,PL P d t=true)
  (hl:laidOutB P=true) (hts:∀t∈m.ts,P.readableRec t=true/\t<P.types.size) (hr:fn.resultTypes = #[tb]) (htb:P.underlying tb=some .bool) {tt:U.Ty m.rt} (htt:U.enc m.rt tt = .lit (.bool true)) (htrue:∀x,Wf x->m.fn x=some tt)
  (hspec:∀(ds gs:List (DataW H)),ds.length=m.ts.length->gs.length=s.vars.length->(s.fn H (ds++gs)).results=[.lit (.bool true)]/\(s.fn H (ds++gs)).args=ds/\(s.fn H (ds++gs)).vars=gs)
  {W:World} {args:Array Value} {ds gs:List (DataW H)} {before:List MemPlace} (hval:∀(j:Nat) t v,fn.params[j]? = some t->args[j]? = some v->∃r b0,Value.okWide P W r b0 t v)
  (hW:DataW.Whole enc P fn.params.toList s.vars apart W args.toList ds gs before) (hg:CW E0 (bare (J5 W)) W)
  (hvars:∀(W' : World),Below W.heap.size W W' -> ∀(pv:List MemPlace),DataW.TrodVars enc P W (fun _=>true) s.vars gs pv->(∀p∈pv,p.block<W.heap.size)->∀sp:Nat->Bool,(∀p∈pv,sp p.block=true)->DataW.TrodVars enc P W' sp s.vars gs pv)
  (hdl:ds.length=m.ts.length) (hgl:gs.length=s.vars.length) (hsz:(DataW.weightsEach P (fn.params.toList++s.plain.varTypes P) (ds++gs)).all (· <= reachBytes)=true) :
  Calls P f args W fun e W' =>∃v,e = .returned v/\s.post enc P fn apart fresh handsOn again W args v W' :=by
 have hW0:=hW
 obtain⟨pa,pv,hA,hV,hps,hz,hn⟩:=hW
 rw [hpar] at hA
 obtain⟨as,hreps,hread⟩:=Zih hA (fun k hk=>of_decide_eq_true (List.all_eq_true.1 hsz k (zC (by rw [hpar,hdl]) k (by rw [hpar];exact hk)))) hpl (fun j t v hj hv=>hval j t v (by grind) (by simp_all))
 obtain⟨x,hx,hwf⟩:=Zgo hrd hread
 have hcall:=hok.pure x tt (htrue x hwf) (J5 W) W args.toList (fun b c hh=>hh) hg (by rw [hx];exact hreps)
 refine hcall.mono ?_
 rintro e W' ⟨u,fz',rfl,hb,_,_,_,hru,_⟩
 rw [htt] at hru
 cases hru with
 | lit _ _=>
  obtain⟨s1,s2,s3⟩:=hspec ds gs hdl hgl
  exact⟨_,rfl,Zga hl (by rw [hpar];exact hts) hW0 hb hr htb s1 s2 s3 (hvars W' hb)⟩
end
end Go.Proofs.YtlabamnhpgoekaaGreatDoor.Le
namespace Go.Proofs.YtlabamnhpgoekaaGreatDoor.Le
def qF (n by' : Nat):List V->Option V
 | [.sl false e xs]=>if e=n/\xs.length*by' <= lim/\xs.length<=maxLen then some (.sl false e xs) else none
 | _=>none
def Un (cl:List (Nat×Nat×Nat×Nat)):FuncId->Option (List V->Option V):=fun g=>(cl.find? fun p=>p.1==g).map fun p=>qF p.2.1 p.2.2.1
def Uz (cl:List (Nat×Nat×Nat×Nat)):FuncId->Option TypeId:=fun g=>(cl.find? fun p=>p.1==g).map fun p=>p.2.2.2
structure Ez (P:Program) (f n by' e:Nat):Prop where
 entered:JG P f
 pure:∀(E:Env) (xs:List V),xs.length*by' <= lim->xs.length<=maxLen->KU P E f [.sl false n xs] (.sl false n xs)
 own:∀(E:Env) (xs:List V),xs.length*by' <= lim->xs.length<=maxLen->Xv P E f [.sl false n xs] e n xs
theorem Zfr {P:Program} {E:Env} {cl:List (Nat×Nat×Nat×Nat)} (hE:E.env=Un cl) (ho:E.own=Uz cl) (hhm:∀f k,E.hm f k=none) (hmk:∀f,E.maps f=none) (h:∀p∈cl,Ez P p.1 p.2.1 p.2.2.1 p.2.2.2):Ko P E:=by
 refine⟨?_,fun f key hs h=>(by rw [hhm] at h;cases h),fun f l h=>by rw [hmk] at h;cases h⟩
 intro f F hF
 rw [hE] at hF
 unfold Un at hF
 cases hp:cl.find? (fun p=>p.1==f) with
 | none=>simp [hp] at hF
 | some p=>
  simp only [hp,Option.map_some,Option.some.injEq] at hF
  subst hF
  have hm:=h p (List.mem_of_find?_eq_some hp)
  have hf:p.1=f:=by simpa using List.find?_some hp
  rw [hf] at hm
  have hown:E.own f=some p.2.2.2:=by rw [ho];unfold Uz;rw [hp];rfl
  refine⟨hm.entered,fun as r _ hr=>?_⟩
  rw [hown]
  intro sz xs hr0
  subst hr0
  unfold qF at hr
  split at hr
  ·split at hr
   ·rename_i hc
    simp only [Option.some.injEq,V.sl.injEq] at hr
    obtain⟨_,rfl,rfl⟩:=hr
    rw [hc.1]
    exact hm.own E _ hc.2.1 hc.2.2
   ·cases hr
  ·cases hr
noncomputable def EC (P:Program) (gl:Nat->Option (List V)) (fs:List FuncId) (pu:FuncId->Bool) (bad:List (Nat×Nat):=[]) (cl:List (Nat×Nat×Nat×Nat):=[]):Env:=
 { IP P pu (Un cl) with
  func:=fun g=>if fs.contains g then P.funcs[g]? else none
  Ci:=gl
  own:=Uz cl
  calm:=fun f id=>!(bad.any fun p=>p.1==f&&p.2==id) }
noncomputable def Xn (P:Program) (gl:Nat->Option (List V)) (fs:List FuncId) (pu:FuncId->Bool) (bad:List (Nat×Nat):=[]) (cl:List (Nat×Nat×Nat×Nat):=[]):Bool:=
 fs.all fun g=>match P.funcs[g]? with
  | some fn=>!(fn.name == "runtime.NumGoroutine")&&(match fn.body with|some c=>DD (EC P gl fs pu bad cl) g c|none=>true)
  | none=>true
theorem Z4l {P:Program} {gl:Nat->Option (List V)} {fs:List FuncId} {pu:FuncId->Bool} {bad:List (Nat×Nat)} {cl:List (Nat×Nat×Nat×Nat)} (hmix:P.follows .mixedOrders=true) (hck:Xn P gl fs pu bad cl=true):BP (EC P gl fs pu bad cl):=by
 have hck:=List.all_eq_true.1 hck
 refine⟨fun t i h=>h,?_,hmix,?_,?_,?_,?_,fun t ks h=>h,?_⟩
 ·intro g fn h
  simp only [EC] at h
  split at h
  ·rename_i hg
   have:=hck g (by simpa using hg)
   rw [h] at this
   simp only [Bool.and_eq_true,Bool.not_eq_true'] at this
   exact⟨h,this.1⟩
  ·cases h
 ·intro g fn c h hb
  simp only [EC] at h
  grind
 ·intro t k h
  simp only [EC,IP] at h
  split at h
  ·rename_i d hd
   simp only [Option.some.injEq] at h
   subst h
   exact hd
  ·cases h
 ·intro t h
  simp only [EC,IP] at h
  split at h
  ·rename_i hd;exact hd
  ·cases h
 ·intro t h
  simp only [EC,IP] at h
  split at h
  ·rename_i hd;exact hd
  ·cases h
 ·intro t h
  simp only [EC,IP] at h
  split at h
  ·rename_i e he
   split at h
   ·rename_i hd;exact⟨e,he,hd⟩
   ·cases h
  ·cases h
theorem Z0o {H:Type} {enc:TypeId×Value->H} {P:Program} {w:World} {base:Nat} {spare:Nat->Bool} {held:Bool}:∀{ts:List TypeId} {vs:List Value} {ds:List (DataW H)} {ps:List MemPlace},DataW.TrodAll enc P w base spare held ts vs ds ps->ds.length=ts.length
 | [],[],[],_,_=>rfl
 | _::_,_::_,_::_,_,⟨_,_,_,h,_⟩=>congrArg (· + 1) (Z0o h)
end Go.Proofs.YtlabamnhpgoekaaGreatDoor.Le
namespace Go.Proofs.YtlabamnhpgoekaaGreatDoor.Le
open Go.RowKit (Below)
def Nj:Operand:=.const (.slice none 0 0)
def rO (t:TypeId):Code:=.seq (.region 2 #[.mk (some 2) (.assign Nj) t "slices.go:358" #[] none] false) .ret
def YO (t:TypeId):Code:=.seq (.region 3 #[.mk (some 5) (.buildSlice t 0 #[]) t "slices.go:362" #[] none,.mk (some 6) (.move (.tmp 0)) t "slices.go:362" #[] none,
 .mk (some 7) (.call (.mk (.builtin .append) #[.tmp 5,.tmp 6] #[t,t])) t "slices.go:362" #[.mk 0 .data,.mk 1 .data] none,
 .mk (some 2) (.assign (.tmp 7)) t "slices.go:362" #[.mk 2 .data,.mk 2 .chain,.mk 0 .phase,.mk 1 .phase,.mk 2 .phase] none] false) .ret
def U5 (t tb:TypeId):Array Oper:=#[.mk (some 3) (.move (.tmp 0)) t "slices.go:357" #[] none,.mk (some 4) (.binOp .eql t (.tmp 3) Nj t) tb "slices.go:357" #[.mk 0 .data] none]
def YB (t tb:TypeId):Code:=
 .seq (.region 0 #[.mk (some 2) (.assign Nj) t "slices.go:355" #[] none] false) (.seq (.seq (.region 1 (U5 t tb) false) (.cond (.tmp 4) (rO t) .skip)) (YO t))
section
variable {P:Program} {E:Env} {B:Nat} {w0:Start} {call:CS}
theorem Z9S (w:World) (d:Nat) (t e:TypeId) (a:Option Addr) (l c:Nat) (h:P.underlying t=some (.slice e)):(Op.equalIn (d+1) t (.slice a l c) (.slice none 0 0)).run P w = .ok a.isNone w:=by
 cases a<;>simp [Op.equalIn,run_underlying h]
theorem Zdq (w:World) (t e:TypeId) (a:Option Addr) (l c:Nat) (h:P.underlying t=some (.slice e)):(Op.equal t (.slice a l c) (.slice none 0 0)).run P w = .ok a.isNone w:=Z9S w 9999 t e a l c h
theorem Zeb {t e:TypeId} {y z:Operand} {v:Value} {w:World} (ht:P.underlying t=some (.slice e)) (hv:∃a n c,v = .slice a n c/\(a=none->n=0)) :
  ∃b,(do eqGuard .eql t y z v (.slice none 0 0);binOp .eql t v (.slice none 0 0)).run P w = .ok (.bool b) w/\(b=true->∃c,v = .slice none 0 c):=by
 obtain⟨a,n,c,rfl,h0⟩:=hv
 refine⟨a.isNone,?_,fun h=>?_⟩
 ·simp only [Sem.run_bind]
  rw [KG _ _ _ _ _ _ (by simp) (by simp)]
  simp [binOp,Zdq w t e a n c ht]
 simp_all
theorem Zg2 (hE:BP E) (hP:E.P=P) (hcall:IV P E B w0 call) {id:Nat} {t tb e n:TypeId} (ht:P.underlying t=some (.slice e)) {st:St} {σ:Sg} {a:Act} {w:World} (hr:Dk E B w0 σ st a w)
  {xs:List V} (hx:ev E st.s (.tmp 0) = .sl false n xs) (h3:3<st.s.length) {Q:Exit->Act->World->Prop}
  (hq:∀b a',Dk E B w0 σ ⟨setSlot (setSlot st.s (some 3) (.sl false n xs)) (some 4) (.lit (.bool b)),st.H⟩ a' w->(b=true->xs=[])->Q .normal a' w) :
  (Code.region id (U5 t tb) false).wp P Q a w:=by
 refine wp_region ?_
 show wpOps P (U5 t tb) Q [0,1] a w
 have hv:∃v,a.eval (.tmp 0)=v/\AL σ w [.sl false n xs] [v]:=by
  have:=D8 (a:=a) hr.Ci hr.slots (.tmp 0)
  rw [hx] at this
  exact⟨_,rfl,this⟩
 obtain⟨v,hv,hrv⟩:=hv
 rw [wpOps_cons]
 unfold wpOp
 have h0:(U5 t tb)[0]? = some (.mk (some 3) (.move (.tmp 0)) t "slices.go:357" #[] none):=rfl
 have h1:(U5 t tb)[1]? = some (.mk (some 4) (.binOp .eql t (.tmp 3) Nj t) tb "slices.go:357" #[.mk 0 .data] none):=rfl
 simp only [h0]
 rw [if_pos (show Region.wanted _ _=true from rfl)]
 refine .inl (Gx (s:=pure v) (u:=v) (w' :=w) (by unfold execOp;simp [hv]) (by simp [Sem.run_pure]) ?_)
 rw [wpOps_cons]
 unfold wpOp
 simp only [h1]
 rw [if_pos (show Region.wanted _ _=true from rfl)]
 have hr1:Dk E B w0 σ ⟨setSlot st.s (some 3) (.sl false n xs),st.H⟩ (a.put (some 3) v) w:=⟨hr.inv,hr.Ci,XI hr.slots hrv (some 3),Xc hr.calm _ _⟩
 have hev:(a.put (some 3) v).eval (.tmp 3)=v:=by
  have:3<a.tmps.size:=by
   have:=hr.slots.length
   simp only [Array.length_toList] at this
   omega
  simp [Act.put,Act.eval,this]
 have hsh:∃a n c,v = .slice a n c/\(a=none->n=0)/\(a=none->xs=[]):=by
  cases hrv with
  | Dj _=>grind
  | EG a _=>grind
  | sl b o c e' h1 h2 h3 h4 h5 h6 h7 _=>grind
 obtain⟨va,vn,vc,hvs,hvn,hvx⟩:=hsh
 obtain⟨b,hb1,hb2⟩:=Zeb (P:=P) (t:=t) (e:=e) (y:=.tmp 3) (z:=Nj) (w:=w) ht ⟨va,vn,vc,hvs,hvn⟩
 refine .inl (Gx (s:=do eqGuard .eql t (.tmp 3) Nj v (.slice none 0 0);binOp .eql t v (.slice none 0 0)) (u:=.bool b) ?_ hb1 ?_)
 ·unfold execOp
  simp only [hev]
  rfl
 ·show Q .normal _ _
  refine hq b _ ⟨hr1.inv,hr1.Ci,XI hr1.slots (.lit rfl .nil) (some 4),Xc hr1.calm _ _⟩ (fun h=>?_)
  simp_all
theorem Z2k (hmix:P.follows .mixedOrders=true) {f:FuncId} {fn:Func} {t tb e:TypeId} {i1 i2:Nat} {iz:Option V} {ei:TI} {z:V} (hfn:P.funcs[f]? = some fn) (hbody:fn.body=some (YB t tb)) (hnt:fn.ntmps=8) (hres:fn.results = #[.tmp 2])
  (hti:Ip P t=some ⟨.slice e,i1,i2,iz⟩) (htu:P.underlying t=some (.slice e)) (hei:Ip P e=some ei) (hez:ei.zero=some z) (hpos:0<ei.size) (hzl:z.cells.length=ei.size) (hzo:okV z=true)
  {xs:List V} (h1:xs.length*ei.bytes<=lim) (h2:xs.length<=maxLen) (fz:Nat->Nat->Prop) (w:World) (vs:List Value) (hcells:∀b c,fz b c->∃u,w.cell? ⟨b,c,none⟩=some u) (hr:AL (bare fz) w [.sl false ei.size xs] vs) :
  Calls P f vs.toArray w fun e' w' =>∃u σ',e' = .returned u/\Inv w.heap.size (Start.of w fz) σ' [BH true false e ei.size [],BH true false e ei.size xs] w' /\ Ext (bare fz) w σ' w' /\ AL σ' w' [.Az 1 0 xs.length xs.length] [u]:=by
 have hck:Xn P (fun _=>none) [] (fun _=>false) []=true:=rfl
 have hE:=Z4l (P:=P) (gl:=fun _=>none) (fs:=[]) (pu:=fun _=>false) (bad:=[]) hmix hck
 generalize hE0:EC P (fun _=>none) [] (fun _=>false) []=E0 at hE
 have hP:E0.P=P:=by rw [<- hE0];rfl
 have t1:E0.ti t=some ⟨.slice e,i1,i2,iz⟩:=by rw [<- hE0];exact hti
 have t2:E0.ti e=some ei:=by rw [<- hE0];exact hei
 have hcm:∀g id,E0.calm g id=true:=fun g id=>by rw [<- hE0];rfl
 have hI:Inv w.heap.size (Start.of w fz) (bare fz) [] w:=⟨Below.refl _ w,Nat.le_refl _,fun id L hL=>(by cases hL),fun id bx hb=>by simp at hb,fun i j b1 b2 L1 L2 g h1=>by simp at h1,hcells,
  fun b c hc id bx L hb=>by simp at hb,fun id bx hb=>by simp at hb,fun b c hc _=>hc,fun b hb=>hb.elim⟩
 have hg0:CW E0 (bare fz) w:=fun g r hh=>by rw [<- hE0] at hh;cases hh
 have hcall:IV P E0 w.heap.size (Start.of w fz) (Cm E0 0):=fun f args H x H' σ w vs h=>by cases h
 have hpure:La E0 (Cm E0 0):=Ny 0
 have hlp:=pW (f:=f) hE hP hcall hpure 0
 ·refine calls_of_wp hfn hbody ?_
  have hslots:AL (bare fz) w ([.sl false ei.size xs]++List.replicate 7 Ce) (vs.toArray++Array.replicate (fn.ntmps - vs.toArray.size) undef).toList:=by
   simp only [Array.toList_append,Array.toList_replicate,List.size_toArray]
   rw [<- hr.length,hnt]
   exact hr.append (AL.replicate _ (.no .nil))
  have hrel:Dk E0 w.heap.size (Start.of w fz) (bare fz) ⟨[.sl false ei.size xs]++List.replicate 7 Ce,[]⟩ { tmps:=vs.toArray++Array.replicate (fn.ntmps - vs.toArray.size) undef,defers:=[] } w:=⟨hI,hg0,hslots,rfl⟩
  have hfin:∀(s:List V),JD E0 [BH true false e ei.size [],BH true false e ei.size xs] s fn.results.toList=some (.Az 1 0 xs.length xs.length)->∀a' w' σ',Dk E0 w.heap.size (Start.of w fz) σ' ⟨s,[BH true false e ei.size [],BH true false e ei.size xs]⟩ a' w' -> Ext (bare fz) w σ' w' ->
    a'.defers=[]/\∃v,(results fn a'.tmps).run P w' = .ok v w' /\ (fun e' w' =>∃u σ',e' = Ending.returned u/\Inv w.heap.size (Start.of w fz) σ' [BH true false e ei.size [],BH true false e ei.size xs] w' /\ Ext (bare fz) w σ' w' /\ AL σ' w' [.Az 1 0 xs.length xs.length] [u]) (.returned v) w' :=by
   intro s hx a' w' σ' hr' he'
   obtain⟨u,hu,hur⟩:=Tn (P:=P) hE hP hr'.inv hr'.slots hx
   exact⟨hr'.calm,u,hu,u,σ',rfl,hr'.inv,he',hur⟩
  have c0:∀lp,Em (Cm E0 0) lp E0 f (.region 0 #[.mk (some 2) (.assign Nj) t "slices.go:355" #[] none] false) ⟨[.sl false ei.size xs]++List.replicate 7 Ce,[]⟩ =
    some (.normal,⟨[.sl false ei.size xs,Ce,.Az 0 0 0 0,Ce,Ce,Ce,Ce,Ce],[BH true false e ei.size []]⟩):=by
   intro lp
   simp [Em,Js,stepD,Ic,DW,Ak,Nj,t1,Env.size,t2,place,setSlot,List.range,List.range.loop,List.replicate]
  refine wp_seq (PN hE hP hcall hpure hlp _ _ .normal _ rfl (c0 _) _ _ _ _ hrel (fun a1 w1 σ1 hr1 he1=>?_))
  show (Code.seq _ _).wp P _ a1 w1
  refine wp_seq (wp_seq (Zg2 hE hP hcall htu hr1 (xs:=xs) (n:=ei.size) rfl (by simp) (fun b a2 hr2 hb=>?_)))
  show (Code.cond _ _ _).wp P _ a2 w1
  refine wp_cond (t:=b) ?_ ?_
  ·have:=D8 (a:=a2) hr2.Ci hr2.slots (.tmp 4)
   generalize a2.eval (.tmp 4)=v4 at this ⊢
   simp only [ev,setSlot] at this
   cases this with
   | lit _ _=>rfl
  ·cases b with
   | true=>
    have hx:=hb rfl
    subst hx
    have cA:∀lp,Em (Cm E0 0) lp E0 f (rO t) ⟨setSlot (setSlot [.sl false ei.size [],Ce,.Az 0 0 0 0,Ce,Ce,Ce,Ce,Ce] (some 3) (.sl false ei.size [])) (some 4) (.lit (.bool true)),[BH true false e ei.size []]⟩ =
      some (.ret,⟨[.sl false ei.size [],Ce,.Az 1 0 0 0,.sl false ei.size [],.lit (.bool true),Ce,Ce,Ce],[BH true false e ei.size [],BH true false e ei.size []]⟩):=by
     intro lp
     simp [rO,Em,Js,stepD,Ic,DW,Ak,Nj,t1,Env.size,t2,place,setSlot,List.range,List.range.loop]
    refine PN hE hP hcall hpure hlp _ _ .ret _ rfl (cA _) _ _ _ _ hr2 (fun a3 w3 σ3 hr3 he3=>?_)
    exact hfin _ (by rw [hres];rfl) a3 w3 σ3 hr3 (he1.trans he3)
   | false=>
    refine wp_skip ?_
    show (YO t).wp P _ a2 w1
    have cB:∀lp,Em (Cm E0 0) lp E0 f (YO t) ⟨setSlot (setSlot [.sl false ei.size xs,Ce,.Az 0 0 0 0,Ce,Ce,Ce,Ce,Ce] (some 3) (.sl false ei.size xs)) (some 4) (.lit (.bool false)),[BH true false e ei.size []]⟩ =
      some (.ret,⟨[.sl false ei.size xs,Ce,.Az 1 0 xs.length xs.length,.sl false ei.size xs,.lit (.bool false),.Az 1 0 0 0,.sl false ei.size xs,.Az 1 0 xs.length xs.length],[BH true false e ei.size [],BH true false e ei.size xs]⟩):=by
     intro lp
     have hzk:ei.QL=true:=by simp [TI.QL,hez,hzl,hzo]
     simp [YO,Em,Js,stepD,Ic,DW,Ak,t1,t2,place,setSlot,List.range,List.range.loop,MV,hez,EE,hpos,hzl,hzo,Jo,bump,ev,evs,LZ,Ib,elemsOf,Df,CB,BH,h1,h2,hzk]
    refine PN hE hP hcall hpure hlp _ _ .ret _ rfl (cB _) _ _ _ _ hr2 (fun a3 w3 σ3 hr3 he3=>?_)
    exact hfin _ (by rw [hres];rfl) a3 w3 σ3 hr3 (he1.trans he3)
theorem Zdm (hmix:P.follows .mixedOrders=true) {f:FuncId} {fn:Func} {t tb e:TypeId} {i1 i2:Nat} {iz:Option V} {ei:TI} {z:V} (hfn:P.funcs[f]? = some fn) (hbody:fn.body=some (YB t tb)) (hnt:fn.ntmps=8) (hres:fn.results = #[.tmp 2])
  (hti:Ip P t=some ⟨.slice e,i1,i2,iz⟩) (htu:P.underlying t=some (.slice e)) (hei:Ip P e=some ei) (hez:ei.zero=some z) (hpos:0<ei.size) (hzl:z.cells.length=ei.size) (hzo:okV z=true)
  {xs:List V} (h1:xs.length*ei.bytes<=lim) (h2:xs.length<=maxLen):KU P E f [.sl false ei.size xs] (.sl false ei.size xs):=by
 intro fz w vs hcells hg hr
 refine(Z2k hmix hfn hbody hnt hres hti htu hei hez hpos hzl hzo h1 h2 fz w vs hcells hr).mono ?_
 rintro e' w' ⟨u,σ',rfl,hI',hEx',hr'⟩
 have hfr:IB [BH true false e ei.size [],BH true false e ei.size xs] (.Az 1 0 xs.length xs.length)=some (.sl false ei.size xs):=by simp [IB,Fp,Ee,CB,BH]
 obtain⟨hI2,hEx2⟩:=hI'.freeze (MK (.Az 1 0 xs.length xs.length))
 have hr2:=nI hI' hr' hfr (MK (.Az 1 0 xs.length xs.length)) (fun i hi=>hi)
 have hn:=lC hI' hr' hfr
 refine⟨u,_,rfl,hI2.below,fun b c h=>(hEx2.fz b c (hEx'.fz b c h).1).1,fun b c h hlt=>hI2.old b c h hlt,hI2.cells,?_,hn⟩
 exact hr2.bare (fun b c h=>⟨h,rfl⟩) (DF.refl _) (by simp [BJ,hn])
theorem Zek (hmix:P.follows .mixedOrders=true) {f:FuncId} {fn:Func} {t tb e:TypeId} {i1 i2:Nat} {iz:Option V} {ei:TI} {z:V} (hfn:P.funcs[f]? = some fn) (hbody:fn.body=some (YB t tb)) (hnt:fn.ntmps=8) (hres:fn.results = #[.tmp 2])
  (hti:Ip P t=some ⟨.slice e,i1,i2,iz⟩) (htu:P.underlying t=some (.slice e)) (hei:Ip P e=some ei) (hez:ei.zero=some z) (hpos:0<ei.size) (hzl:z.cells.length=ei.size) (hzo:okV z=true)
  {xs:List V} (h1:xs.length*ei.bytes<=lim) (h2:xs.length<=maxLen):Xv P E f [.sl false ei.size xs] e ei.size xs:=by
 intro fz w vs hcells hg hr
 have hfzv:∀x∈xs,Dp x=true:=by
  cases hr with
  | Dj _=>simp
  | EG a _=>simp
  | sl b o c e' k1 k2 k3 k4 k5 k6 k7 _=>exact k2
 refine(Z2k hmix hfn hbody hnt hres hti htu hei hez hpos hzl hzo h1 h2 fz w vs hcells hr).mono ?_
 rintro e' w' ⟨u,σ',rfl,hI',hEx',hr'⟩
 obtain⟨L,hL,hok⟩:=hI'.boxes 1 _ rfl rfl
 obtain⟨us,k1,k2,k3,k4⟩:=hok.CU
 have htot:L.tot=xs.length:=hok.tot
 have hesz:L.AZ=ei.size:=hok.AZ.symm
 have hu:u=L.v:=by
  cases hr' with
  | Az q1 q2 q3 q4 _=>
   rw [hL] at q1
   cases q1
   obtain⟨_,a,n,c,k,r1,r2,r3,r4,_⟩:=q3 htot
   have hk0:k=0:=by omega
   subst hk0
   rw [r2,r1]
   rcases k4.2 with ⟨hv,hn⟩|⟨g,cap,cur,tg,hv,_⟩
   ·rw [r1] at hv
    cases hv
    have:xs.length=0:=hn
    simp [this]
   ·rw [r1] at hv
    cases hv
    simp [Addr.add,BH]
 subst hu
 refine⟨L.v,us,σ'.fz,rfl,hI'.below,fun b c h=>(hEx'.fz b c h).1,fun b c h hlt=>hI'.old b c h hlt,hI'.cells,k1.bare (fun b c h=>⟨h,rfl⟩) (DF.refl _) (MZ hfzv),hfzv,fun x hx=>by rw [k2 x hx,hesz],k3,by rw [<- hesz];exact k4,fun g c hg' hfz=>?_⟩
 have:=hI'.floor g c hfz 1 _ L rfl rfl hL hg'
 simp [BH] at this
theorem Gy (hmix:P.follows .mixedOrders=true) {f:FuncId} {fn:Func} {t tb e:TypeId} (hfn:P.funcs[f]? = some fn) (hbody:fn.body=some (YB t tb)) (hnt:fn.ntmps=8) (hres:fn.results = #[.tmp 2]) (hname:(fn.name == "runtime.NumGoroutine")=false)
  (hti:(Ip P t).map TI.ty=some (.slice e)) (htu:P.underlying t=some (.slice e)) {n by' : Nat} (hei:(Ip P e).map (fun i=>(i.size,i.bytes,i.QL))=some (n,by',true)) (hpos:0<n):Ez P f n by' e:=by
 cases h1:Ip P t with
 | none=>simp_all
 | some ti=>
  cases h2:Ip P e with
  | none=>simp_all
  | some ei=>
   rw [h1] at hti
   rw [h2] at hei
   simp only [Option.map_some,Option.some.injEq,Prod.mk.injEq] at hti hei
   obtain⟨ty,i1,i2,iz⟩:=ti
   simp only at hti
   subst hti
   obtain⟨rfl,rfl,hz⟩:=hei
   unfold TI.QL at hz
   split at hz
   ·rename_i z hz0
    simp only [Bool.and_eq_true,beq_iff_eq] at hz
    exact⟨⟨fn,hfn,by rw [hbody];rfl,hname⟩,fun E xs h3 h4=>Zdm hmix hfn hbody hnt hres h1 htu h2 hz0 hpos hz.2 hz.1 h3 h4,fun E xs h3 h4=>Zek hmix hfn hbody hnt hres h1 htu h2 hz0 hpos hz.2 hz.1 h3 h4⟩
   ·cases hz
theorem nS {U:CE} {E0:Env} {f n by' e:Nat} (h:Ez P f n by' e) {m:HMod U}
  (hm:∀(x:m.BU.X U) (y:U.Ty m.ky),m.fn x=some y->∃xs,A7 U (m.BU.enc x).1=[.sl false n xs]/\Aj U (m.BU.enc x).2=[]/\AO U (m.out y).1 = .Az 0 0 xs.length xs.length/\Aj U (m.out y).2=[BH true false e n xs]/\xs.length*by' <= lim/\xs.length<=maxLen):Dh P E0 f m:=by
 refine⟨h.entered,fun x y hx=>?_⟩
 obtain⟨xs,h1,h2,h3,h4,h5,h6⟩:=hm x y hx
 rw [h1,h2,h3,h4]
 intro B w0 σ w vs hI hg hr
 have:=Z1A (P:=P) (E:=E0) (f:=f) (e:=e) (sz:=n) (xs:=xs) (as:=[.sl false n xs]) [] (by simpa [Eo] using h.own E0 xs h5 h6) rfl hI hg hr
 exact this
end
end Go.Proofs.YtlabamnhpgoekaaGreatDoor.Le
namespace Go.Proofs.YtlabamnhpgoekaaGreatDoor.Le
def VH (ex:FuncId->Option (List V->Option V)) (cl:List (Nat×Nat×Nat×Nat)):FuncId->Option (List V->Option V):=fun g=>match ex g with|some F=>some F|none=>Un cl g
def Yt (ex:FuncId->Option (List V->Option V)) (cl:List (Nat×Nat×Nat×Nat)):FuncId->Option TypeId:=fun g=>match ex g with|some _=>none|none=>Uz cl g
structure PI (P:Program) (gl:Nat->Option (List V)) (f:FuncId) (F:List V->Option V):Prop where
 entered:JG P f
 pure:∀(E:Env) (as:List V) (r:V),E.Ci=gl->F as=some r->KU P E f as r
theorem ZgI {P:Program} {gl:Nat->Option (List V)} {E:Env} {ex:FuncId->Option (List V->Option V)} {cl:List (Nat×Nat×Nat×Nat)} (hg:E.Ci=gl) (hE:E.env=VH ex cl) (ho:E.own=Yt ex cl) (hhm:∀f k,E.hm f k=none) (hmk:∀f,E.maps f=none) (h:∀p∈cl,Ez P p.1 p.2.1 p.2.2.1 p.2.2.2) (hx:∀g F,ex g=some F->PI P gl g F):Ko P E:=by
 refine⟨?_,fun f key hs h=>(by rw [hhm] at h;cases h),fun f l h=>by rw [hmk] at h;cases h⟩
 intro f F hF
 rw [hE] at hF
 cases he:ex f with
 | some F' =>
  simp only [VH,he,Option.some.injEq] at hF
  subst hF
  refine⟨(hx f _ he).entered,fun as r _ hr=>?_⟩
  rw [show E.own f=none by rw [ho];simp only [Yt,he]]
  exact(hx f _ he).pure E as r hg hr
 | none=>
 simp only [VH,he] at hF
 unfold Un at hF
 cases hp:cl.find? (fun p=>p.1==f) with
 | none=>simp [hp] at hF
 | some p=>
  simp only [hp,Option.map_some,Option.some.injEq] at hF
  subst hF
  have hm:=h p (List.mem_of_find?_eq_some hp)
  have hf:p.1=f:=by simpa using List.find?_some hp
  rw [hf] at hm
  have hown:E.own f=some p.2.2.2:=by rw [ho];simp only [Yt,he];unfold Uz;rw [hp];rfl
  refine⟨hm.entered,fun as r _ hr=>?_⟩
  rw [hown]
  intro sz xs hr0
  subst hr0
  unfold qF at hr
  split at hr
  ·split at hr
   ·rename_i hc
    simp only [Option.some.injEq,V.sl.injEq] at hr
    obtain⟨_,rfl,rfl⟩:=hr
    rw [hc.1]
    exact hm.own E _ hc.2.1 hc.2.2
   ·cases hr
  ·cases hr
noncomputable def EX (P:Program) (gl:Nat->Option (List V)) (fs:List FuncId) (pu:FuncId->Bool) (bad:List (Nat×Nat)) (cl:List (Nat×Nat×Nat×Nat)) (ex:FuncId->Option (List V->Option V)):Env:=
 { IP P pu (VH ex cl) with
  func:=fun g=>if fs.contains g then P.funcs[g]? else none
  Ci:=gl
  own:=Yt ex cl
  calm:=fun f id=>!(bad.any fun p=>p.1==f&&p.2==id) }
noncomputable def pV (P:Program) (gl:Nat->Option (List V)) (fs:List FuncId) (pu:FuncId->Bool) (bad:List (Nat×Nat)) (cl:List (Nat×Nat×Nat×Nat)) (ex:FuncId->Option (List V->Option V)):Bool:=
 fs.all fun g=>match P.funcs[g]? with
  | some fn=>!(fn.name == "runtime.NumGoroutine")&&(match fn.body with|some c=>DD (EX P gl fs pu bad cl ex) g c|none=>true)
  | none=>true
theorem EX_ok {P:Program} {gl:Nat->Option (List V)} {fs:List FuncId} {pu:FuncId->Bool} {bad:List (Nat×Nat)} {cl:List (Nat×Nat×Nat×Nat)} {ex:FuncId->Option (List V->Option V)} (hmix:P.follows .mixedOrders=true) (hck:pV P gl fs pu bad cl ex=true):BP (EX P gl fs pu bad cl ex):=by
 have hck:=List.all_eq_true.1 hck
 refine⟨fun t i h=>h,?_,hmix,?_,?_,?_,?_,fun t ks h=>h,?_⟩
 ·intro g fn h
  simp only [EX] at h
  split at h
  ·rename_i hg
   have:=hck g (by simpa using hg)
   rw [h] at this
   simp only [Bool.and_eq_true,Bool.not_eq_true'] at this
   exact⟨h,this.1⟩
  ·cases h
 ·intro g fn c h hb
  simp only [EX] at h
  grind
 ·intro t k h
  simp only [EX,IP] at h
  split at h
  ·rename_i d hd
   simp only [Option.some.injEq] at h
   subst h
   exact hd
  ·cases h
 ·intro t h
  simp only [EX,IP] at h
  split at h
  ·rename_i hd;exact hd
  ·cases h
 ·intro t h
  simp only [EX,IP] at h
  split at h
  ·rename_i hd;exact hd
  ·cases h
 ·intro t h
  simp only [EX,IP] at h
  split at h
  ·rename_i e he
   split at h
   ·rename_i hd;exact⟨e,he,hd⟩
   ·cases h
  ·cases h
noncomputable def uO (E:Env) (n:Nat) (f:FuncId):List V->Option V:=fun as=>match E.func f with
 | some fn=>(match Kt (Cm E n) n E f fn as [] with
  | some (r,H)=>IB H r
  | none=>none)
 | none=>none
theorem Zfj {P:Program} {gl:Nat->Option (List V)} {fs:List FuncId} {pu:FuncId->Bool} {bad:List (Nat×Nat)} {cl:List (Nat×Nat×Nat×Nat)} (hmix:P.follows .mixedOrders=true) (hck:Xn P gl fs pu bad cl=true) (hcl:∀p∈cl,Ez P p.1 p.2.1 p.2.2.1 p.2.2.2) {f:FuncId} (hf:fs.contains f=true) {fn:Func} (hfn:P.funcs[f]? = some fn) (hb:fn.body.isNone=false) (n:Nat):PI P gl f (uO (EC P gl fs pu bad cl) n f):=by
 have hE:=Z4l hmix hck
 have hfe:(EC P gl fs pu bad cl).func f=some fn:=by simp only [EC,hf,if_true];exact hfn
 refine⟨⟨fn,hfn,hb,(hE.func f fn hfe).2⟩,fun E as r hg hr=>?_⟩
 unfold uO at hr
 rw [hfe] at hr
 simp only at hr
 cases hbd:Kt (Cm (EC P gl fs pu bad cl) n) n (EC P gl fs pu bad cl) f fn as [] with
 | none=>simp [hbd] at hr
 | some rr=>
  obtain⟨r0,H2⟩:=rr
  simp only [hbd] at hr
  have hpf:=mJ hE rfl (UM hE rfl (Zfr rfl rfl (fun _ _=>rfl) (fun _=>rfl) hcl) n) (Ny n) hfe hbd hr
  intro fz w vs hcells hg' hr'
  exact hpf fz w vs hcells (fun g r hh=>hg' g r (by rw [hg];exact hh)) hr'
theorem ZfX {U:CE} {P:Program} {gl:Nat->Option (List V)} {E0:Env} {f:FuncId} {m:Ai U} (hE0:E0.Ci=gl) (h:Ag P E0 f m) {F:List V->Option V} (hF:∀as r,F as=some r->∃x a,as=Ep m.ts x/\m.fn x=some a/\r=U.enc m.rt a):PI P gl f F:=by
 refine⟨h.entered,fun E as r hg hr=>?_⟩
 obtain⟨x,a,rfl,ha,rfl⟩:=hF as r hr
 intro fz w vs hcells hg' hr'
 exact h.pure x a ha fz w vs hcells (fun g r hh=>hg' g r (by rw [hg,<- hE0];exact hh)) hr'
theorem Zdz {U:CE} {P:Program} {gl:Nat->Option (List V)} {fs:List FuncId} {pu:FuncId->Bool} {bad:List (Nat×Nat)} {cl:List (Nat×Nat×Nat×Nat)} {ex:FuncId->Option (List V->Option V)} {E0:Env} (hE0:E0.Ci=gl) (hmix:P.follows .mixedOrders=true) (hck:pV P gl fs pu bad cl ex=true) (hx:∀g F,ex g=some F->PI P gl g F) (hcl:∀p∈cl,Ez P p.1 p.2.1 p.2.2.1 p.2.2.2) {f:FuncId} (hne:VH ex cl f=none) (hf:fs.contains f=true) (hp:pu f=true) {fn:Func} (hfn:P.funcs[f]? = some fn)
  (hb:fn.body.isNone=false) {n:Nat} {m:Ai U} (hts:m.ts=[]) {a:U.Ty m.rt} (hm:∀x,m.fn x=some a) (h:(Cm (EX P gl fs pu bad cl ex) (n+1) f [] []).map (·.1)=some (U.enc m.rt a)):Ag P E0 f m:=by
 have hE:=EX_ok hmix hck
 have hname:(fn.name == "runtime.NumGoroutine")=false:=(hE.func f fn (by simp only [EX,hf,if_true];exact hfn)).2
 refine⟨⟨fn,hfn,hb,hname⟩,fun x a' hx' =>?_⟩
 rw [hm x] at hx'
 cases hx'
 cases hc:Cm (EX P gl fs pu bad cl ex) (n+1) f [] [] with
 | none=>simp [hc] at h
 | some rr=>
  obtain⟨r,H'⟩:=rr
  simp only [hc,Option.map_some,Option.some.injEq] at h
  subst h
  have hpf:=ZdZ hE rfl (ZgI (gl:=gl) rfl rfl rfl (fun _ _=>rfl) (fun _=>rfl) hcl hx) hp hne rfl rfl hc
  have he:Ep m.ts x=[]:=by
   have hl:=zY x
   exact List.eq_nil_of_length_eq_zero (by rw [hl,congrArg List.length hts];rfl)
  rw [he]
  intro fz w vs hcells hg hr
  exact hpf fz w vs hcells (fun g r hh=>hg g r (by rw [hE0];exact hh)) hr
end Go.Proofs.YtlabamnhpgoekaaGreatDoor.Le
namespace Go.Proofs.YtlabamnhpgoekaaGreatDoor.Le
open Go.RowKit (Below)
def FinM (P:Program) (fn:Func) (B:Nat) (w0:Start) (σ0:Sg) (ws:World) (r:V×Heap) (a:Act) (w:World):Prop:=
 a.defers=[]/\∃u σ',(results fn a.tmps).run P w = .ok u w/\Inv B w0 σ' r.2 w/\I5 0 σ0 ws σ' w/\AL σ' w [r.1] [u]
theorem Zj3 {P:Program} {E:Env} {B:Nat} {w0:Start} {fn:Func} (hE:BP E) (hP:E.P=P) {fa:List (List Fk)} {fb:List Bf} {σ0:Sg} {ws:World} {σ:Sg} {st:St} {a:Act} {w:World} {r:V×Heap} (h:Dk E B w0 σ st a w) (hx:I5 0 σ0 ws σ w)
  (hz:Zh E fn fa fb 0 st r):FinM P fn B w0 σ0 ws r a w:=by
 obtain⟨r0,hr,he⟩:=hz
 obtain⟨u,hu,hur⟩:=Tn (P:=P) hE hP h.inv h.slots hr
 have key:∀{args as:List V} {vs:List Value} {ids:List Nat} {H2:Heap},AL σ w args vs->pack fa fb 0 args st.H=some (ids,as,H2)->ids.take 0=List.range 0 ->
   ∃σ',Inv B w0 σ' (FW H2 ids) w/\I5 0 σ0 ws σ' w/\AL σ' w (Eh (ids.idxOf ·) as) vs:=by
  intro args as vs ids H2 hra hp hk
  obtain⟨hs,hm,_,σ1,hI1,hE1,hr1⟩:=Xr h.inv hra hp
  have hsub:=YI hI1 hs w0 hI1.below hI1.old (fun b hb=>by
   obtain⟨k1,k2,k3,k4⟩:=hI1.kept b hb
   grind)
  exact⟨_,hsub,(hx.trans hE1).ren hk,Qx hr1 hm⟩
 refine⟨h.calm,u,?_⟩
 unfold VB at he
 split at he
 ·rename_i vs
  split at he
  ·rename_i ids as H2 hp
   split at he
   ·rename_i hk
    simp only [Option.some.injEq] at he
    subst he
    cases hur with
    | Aw h1 _=>
     obtain⟨σ',i1,i2,i3⟩:=key h1 hp hk
     exact⟨σ',hu,i1,i2,.Aw i3 .nil⟩
   ·cases he
  ·cases he
 ·split at he
  ·rename_i ids x H2 hp
   split at he
   ·rename_i hk
    simp only [Option.some.injEq] at he
    subst he
    obtain⟨σ',i1,i2,i3⟩:=key hur hp hk
    exact⟨σ',hu,i1,i2,i3⟩
   ·cases he
  ·cases he
def behind (m:Nat) (H:Heap):Heap:=List.replicate m Qz++H.map (EF (· + m))
theorem Tv {m:Nat} {H:Heap} {i:Nat} {b:Box} (h:(behind m H)[i]? = some b):(i<m/\b=Qz)\/∃b0,m<=i/\H[i - m]? = some b0/\b=EF (· + m) b0:=by
 unfold behind at h
 rw [List.getElem?_append] at h
 split at h
 ·rename_i hi
  rw [List.length_replicate] at hi
  exact .inl ⟨hi,(List.mem_replicate.1 (List.mem_of_getElem? h)).2⟩
 ·rename_i hi
  rw [List.length_replicate] at hi h
  rw [List.getElem?_map,Option.map_eq_some_iff] at h
  obtain⟨b0,h1,h2⟩:=h
  exact .inr ⟨b0,by omega,h1,h2.symm⟩
theorem ZdY {m:Nat} (H:Heap) {i:Nat} (h:i<m):(behind m H)[i]? = some Qz:=by
 unfold behind
 rw [List.getElem?_append,if_pos (by simpa using h)]
 simp [h]
theorem Zf6 {m:Nat} (H:Heap) (i:Nat):(behind m H)[i+m]? = (H[i]?).map (EF (· + m)):=by
 unfold behind
 rw [List.getElem?_append,if_neg (by simp)]
 simp
def Sg.behind (σ σ1:Sg) (m:Nat):Sg:=⟨fun i=>if i<m then σ.box i else σ1.box (i - m),σ1.fz⟩
theorem ZiP {B:Nat} {w0:Start} {σ σ1:Sg} {H0 H1:Heap} {w w' : World} (h:Inv B w0 σ H0 w) (h1:Inv B w0 σ1 H1 w') (hE:I5 0 σ w σ1 w') :
  Inv B w0 (σ.behind σ1 H0.length) (behind H0.length H1) w' /\ Ext σ w (σ.behind σ1 H0.length) w' :=by
 have hge:∀{i:Nat},H0.length<=i->(σ.behind σ1 H0.length).box i=σ1.box (i - H0.length):=by
  intro i hi
  simp only [Sg.behind,if_neg (Nat.not_lt.2 hi)]
 refine⟨⟨h1.below,h1.size,?_,?_,?_,h1.cells,?_,?_,h1.old,fun b hb=>?_⟩,?_⟩
 ·intro i L hL
  rcases Nat.lt_or_ge i H0.length with hi|hi
  ·exact⟨Qz,ZdY _ hi,.inr rfl⟩
  ·rw [hge hi] at hL
   obtain⟨b,k1,k2⟩:=h1.dom _ L hL
   refine⟨EF (· + H0.length) b,?_,by rw [(G6 _ b).1,(G6 _ b).2.1];exact k2⟩
   have:=Zf6 (m:=H0.length) H1 (i - H0.length)
   rw [Nat.sub_add_cancel hi] at this
   rw [this,k1]
   rfl
 ·intro i bx hb hl
  rcases Tv hb with ⟨_,rfl⟩|⟨b0,hi,k1,rfl⟩
  ·cases hl
  ·rw [(G6 _ b0).1] at hl
   obtain⟨L,hL,hok⟩:=h1.boxes _ b0 k1 hl
   refine⟨L,by rw [hge hi];exact hL,hok.ren _ (fun b c hh=>⟨hh,rfl⟩) (DF.refl _) (fun _ r _=>?_) (fun _ _=>rfl)⟩
   rw [hge (Nat.le_add_left _ _),Nat.add_sub_cancel]
 ·intro i j b1 b2 L1 L2 g p1 p2 l1 l2 s1 s2 g1 g2
  rcases Tv p1 with ⟨_,rfl⟩|⟨c1,i1,k1,rfl⟩
  ·cases l1
  ·rcases Tv p2 with ⟨_,rfl⟩|⟨c2,i2,k2,rfl⟩
   ·cases l2
   ·rw [hge i1] at s1
    rw [hge i2] at s2
    rw [(G6 _ _).1] at l1 l2
    have:=h1.apart _ _ c1 c2 L1 L2 g k1 k2 l1 l2 s1 s2 g1 g2
    omega
 ·intro b c hc i bx L hb hl hL hg
  rcases Tv hb with ⟨_,rfl⟩|⟨b0,hi,k1,rfl⟩
  ·cases hl
  ·rw [hge hi] at hL
   rw [(G6 _ b0).1] at hl
   rw [(G6 _ b0).2.2.2.2.2.1]
   exact h1.floor b c hc _ b0 L k1 hl hL hg
 ·intro i bx hb hl
  rcases Tv hb with ⟨_,rfl⟩|⟨b0,hi,k1,rfl⟩
  ·cases hl
  ·obtain⟨e1,_,_,_,_,e6,e7⟩:=G6 (· + H0.length) b0
   rw [e6,e7]
   rw [e1] at hl
   exact h1.low _ b0 k1 hl
 ·obtain⟨k1,k2,k3,k4⟩:=h1.kept b hb
  refine⟨k1,k2,fun i L hL=>?_,k4⟩
  rcases Nat.lt_or_ge i H0.length with hi|hi
  ·simp only [Sg.behind,if_pos hi] at hL
   exact(h.kept b hb).2.2.1 i L hL
  ·rw [hge hi] at hL
   exact k3 _ L hL
 ·refine⟨fun i L hL=>⟨L,?_,rfl,.inl rfl⟩,hE.fz,hE.mp⟩
  simp only [Sg.behind,if_pos (h.Xy hL)]
  exact hL
theorem Z9I {P:Program} {E:Env} (hE:BP E) (hP:E.P=P) (hF:Ko P E) {n:Nat} {f:FuncId} {fn:Func} (hfn:E.func f=some fn) {c:Code} (hb:fn.body=some c) {as:List V} {H0:Heap} {r:V} {H1:Heap} {fa:List (List Fk)} {fb:List Bf}
  (h:Bz (Cm E n) E f fn 0 (Zh E fn fa fb 0) (.run c) [] ⟨as++List.replicate (fn.ntmps - as.length) Ce,H0⟩ (r,H1)):PU P E f as H0 (Du (· + H0.length) r) (behind H0.length H1):=by
 obtain⟨hf1,hf2⟩:=hE.func f fn hfn
 rw [hP] at hf1
 intro B w0 σ w vs hI hg hr
 have hslots:AL σ w (as++List.replicate (fn.ntmps - as.length) Ce) (vs.toArray++Array.replicate (fn.ntmps - vs.toArray.size) undef).toList:=by
  simp only [Array.toList_append,Array.toList_replicate,List.size_toArray]
  rw [<- hr.length]
  exact hr.append (AL.replicate _ (.no .nil))
 have hrel:Dk E B w0 σ ⟨as++List.replicate (fn.ntmps - as.length) Ce,H0⟩ { tmps:=vs.toArray++Array.replicate (fn.ntmps - vs.toArray.size) undef,defers:=[] } w:=⟨hI,hg,hslots,rfl⟩
 have hwp:=qE hE hP (UM hE hP hF n B w0) (Ny n) (F:=FinM P fn B w0 σ w) (σ0:=σ) (ws:=w)
  (fun st r σ' a w' hz hr hx=>Zj3 hE hP hr hx hz) h (hE.calm f fn c hfn hb) rfl _ _ _ hrel (Ext.refl _ _).k
 have fin:∀{r:V×Heap} {u:Value} {σ' : Sg} {w' : World},Inv B w0 σ' r.2 w' -> I5 0 σ w σ' w' -> AL σ' w' [r.1] [u] ->
   ∃σ'',Inv B w0 σ'' (behind H0.length r.2) w' /\ Ext σ w σ'' w' /\ AL σ'' w' [Du (· + H0.length) r.1] [u]:=by
  intro r u σ' w' h2 h3 h4
  obtain⟨i1,i2⟩:=ZiP hI h2 h3
  refine⟨_,i1,i2,Z2c h4 (fun b c hh=>⟨hh,rfl⟩) (DF.refl _) (fun id _=>?_)⟩
  simp only [Sg.behind,if_neg (Nat.not_lt.2 (Nat.le_add_left _ _)),Nat.add_sub_cancel]
 refine calls_of_wp hf1 hb ?_
 intro fr k cs
 obtain⟨e,a',w',hq,harr⟩:=hwp fr k cs
 refine⟨e,a',w',?_,harr⟩
 cases e with
 | normal=>
  obtain⟨h0,u,σ',h1,h2,h3,h4⟩:=hq
  obtain⟨σ'',j1,j2,j3⟩:=fin h2 h3 h4
  exact⟨h0,u,h1,u,σ'',rfl,j1,j2,j3⟩
 | ret=>
  obtain⟨h0,u,σ',h1,h2,h3,h4⟩:=hq
  obtain⟨σ'',j1,j2,j3⟩:=fin h2 h3 h4
  exact⟨h0,u,h1,u,σ'',rfl,j1,j2,j3⟩
 | exit id=>exact hq.elim
 | goto l=>exact hq.elim
 | panic c=>exact hq.elim
 | outgrown=>exact hq.elim
section
variable {U:CE}
def Ux (m:Nat) (r:SV U.Ty×Ad U):SV U.Ty×Ad U:=(ES (· + m) r.1,List.replicate m .gone++r.2.map (U6 (· + m)))
theorem Zgp (m:Nat) (r:SV U.Ty×Ad U):AO U (Ux m r).1=Du (· + m) (AO U r.1)/\Aj U (Ux m r).2=behind m (Aj U r.2):=by
 refine⟨UJ _ _,?_⟩
 simp only [Ux,Aj,behind,List.map_append,List.map_replicate,List.map_map,BM]
 congr 1
 exact List.map_congr_left fun b _=>fV _ b
theorem Zed {P:Program} {gl:Nat->Option (List V)} {f:FuncId} {mods:FuncId->Option (Ai U)} {hmods:FuncId->List FuncId->Option (HMod U)} {mk:Lj P} {E0:Env} (hE0:E0.Ci=gl) (hU:CG U (EV P gl f mods hmods mk)) (hmix:P.follows .mixedOrders=true) {fn:Func} {c:Code}
  (hok:∀g m,mods g=some m->Ag P E0 g m) (hhok:∀g k m,hmods g k=some m->Dh P E0 g m) (hfn:P.funcs[f]? = some fn) (hname:(fn.name == "runtime.NumGoroutine")=false) (hb:fn.body=some c) (hcalm:DD (EV P gl f mods hmods mk) f c=true) (m:HMod U)
  {fa:List (List Fk)} {fb:List Bf} {k:Nat} (hk:∀x:m.BU.X U,(m.BU.enc x).2.length=k) {Pt:Type} {A:Nat->Option Lay} {N:Nat} (sh:Shape) (out:U.Ty m.ky->SV U.Ty×Ad U) (hout:∀y,m.out y=Ux k (out y)) (T:Pt->Tr U (U.Ty m.ky⊕Pt)) (sp:Pt->BI U)
  (h:∀p,DR (EV P gl f mods hmods mk) (Lu mods hmods mk.tab) A f fn 0 (Ri (EV P gl f mods hmods mk) fn fa fb 0 sh m.one) N (.run (sp p).c) (sp p).K (sp p).st (sp p).sk=(T p).map (NW out sp))
  (b0:m.BU.X U->Pt) (hm:∀x:m.BU.X U,m.fn x=AY T (b0 x)) (hsp:∀x:m.BU.X U,sp (b0 x)=⟨c,[],RI (m.BU.enc x) fn.ntmps,false⟩):Dh P E0 f m:=by
 have hE:=rP (gl:=gl) (mods:=mods) (hmods:=hmods) hmix hfn hname hb hcalm
 have hF:Ko P (EV P gl f mods hmods mk):=mY hU rfl rfl (fun _=>rfl) (fun g m hm=>(hok g m hm).Ci (by rw [hE0];rfl)) (fun g k m hm=>(hhok g k m hm).Ci (by rw [hE0];rfl)) mk rfl
 have hfn' : (EV P gl f mods hmods mk).func f=some fn:=by simp only [EV,KA,if_true];exact hfn
 refine⟨⟨fn,hfn,by simp [hb],hname⟩,fun x y hx B w0 σ w vs hi hg hr=>?_⟩
 rw [hm] at hx
 have h1:=lI hU (qZ hU) (fun st s hs=>Z35 hU hs) T sp h hx
 rw [hsp,Z1h] at h1
 have h2:=Z9I hE rfl hF hfn' hb h1 B w0 σ w vs hi (fun g r hh=>hg g r (by rw [hE0];exact hh)) hr
 obtain⟨e1,e2⟩:=Zgp k (out y)
 rw [OA,hk x,<- e1,<- e2,<- hout] at h2
 exact h2
end
end Go.Proofs.YtlabamnhpgoekaaGreatDoor.Le
namespace Go.Proofs.YtlabamnhpgoekaaGreatDoor.Le
open Go.ChangeShapes Go.WideShapes Go.ChangeAt
theorem Z20 {σ:Sg} {w:World} {ik:IntKind}:∀(ks:List Int),(∀k∈ks,(Lit.int ik k).wf=true)->AL σ w (ks.map fun n=>V.lit (.int ik n)) (ks.map fun n=>Value.int ik n)
 | [],_=>.nil
 | k::ks,h=>.lit (by simp [leaf,h k (by simp)]) (Z20 ks fun j hj=>h j (by simp [hj]))
theorem Z2j {P:Program} {W:World} {name:String} {g tA e:Nat} {ik:IntKind} {ks:List Int} (hg:P.globalNamed name=some g) (ht:(P.globals[g]?).map (·.type)=some tA) (hA:P.underlying tA=some (.array ks.length e)) (he:P.underlying e=some (.int ik)) (hc:P.cellsOf e=1) (hcA:P.cellsOf tA=ks.length)
  (hm:laidMetH P [(name,.agg (ks.map fun n=>.lit (.int ik n)))] W):AL (bare (J5 W)) W [.BK ks.length [.agg (ks.map fun n=>V.lit (.int ik n))] 0 0] [.pointer (some ⟨g,0,none⟩)]:=by
 rw [MakeChecks.laidMetH_plain _ _ _ (by rfl)] at hm
 obtain⟨ps,⟨g0,t0,cs0,f0,p0,q0,hg0,ht0,hv0,hd0,_,_⟩,_,_⟩:=hm
 obtain rfl:=Option.some.inj (hg.symm.trans hg0)
 obtain rfl:=Option.some.inj (ht.symm.trans ht0)
 obtain⟨xs,m1,rfl,hx,hlen,hn,hel⟩:=DataW.trod_array hA hd0
 simp only [Prod.mk.injEq,DataW.agg.injEq] at hx
 rw [hcA] at hlen
 have hcell:∀i,i<ks.length->∃k,ks[i]? = some k/\cs0[i]? = some (.int ik k)/\(Lit.int ik k).wf=true:=by
  intro i hi
  have h1:=hel i hi
  rw [hc,Nat.mul_one] at h1
  have hxi:i<xs.length:=by omega
  rw [List.getElem?_eq_getElem hxi] at h1
  obtain⟨k,e1,e2,e3⟩:=DataW.trod_int he h1
  refine⟨k,?_,?_,e3⟩
  ·have h2:=congrArg (·[i]?) hx.1
   simp only [List.getElem?_map,List.getElem?_eq_getElem hxi,List.getElem?_eq_getElem hi,Option.map_some,e2,Option.some.injEq,DataW.lit.injEq,Lit.int.injEq,true_and] at h2
   rw [List.getElem?_eq_getElem hi,h2]
  ·have h3:i<cs0.toList.length:=by omega
   rw [List.drop_eq_getElem_cons h3] at e1
   simp_all
 have hwf:∀k∈ks,(Lit.int ik k).wf=true:=by
  intro k hk
  obtain⟨i,hi,rfl⟩:=List.mem_iff_getElem.1 hk
  obtain⟨k',h1,_,h3⟩:=hcell i hi
  rw [List.getElem?_eq_getElem hi] at h1
  obtain rfl:=Option.some.inj h1
  exact h3
 have hone:∀u∈ks.map (fun n=>Value.int ik n),u.oneCell' = true:=by
  intro u hu
  obtain⟨k,_,rfl⟩:=List.mem_map.1 hu
  rfl
 have hr:=AL.agg (Z20 (σ:=bare (J5 W)) (w:=W) ks hwf) hone (xs:=[]) (vs:=[]) .nil
 have hfl:flat [Value.agg (ks.map fun n=>Value.int ik n).toArray]=ks.map fun n=>Value.int ik n:=by simp [flat,Value.cells]
 have:=AL.BK (σ:=bare (J5 W)) (w:=W) (es:=[.agg (ks.map fun n=>V.lit (.int ik n))]) g 0 ks.length 0 0 hr ?_ ?_ ?_ ?_ (xs:=[]) (vs:=[]) .nil
 ·simpa using this
 ·intro x hx
  obtain rfl:x=V.agg (ks.map fun n=>V.lit (.int ik n)):=by simpa using hx
  simp only [Dp,okV,BQ,Bool.true_and]
  rw [JA]
  intro y hy
  obtain⟨k,_,rfl⟩:=List.mem_map.1 hy
  rfl
 ·intro u hu
  obtain rfl:u=Value.agg (ks.map fun n=>Value.int ik n).toArray:=by simpa using hu
  simp [Value.cells]
 ·rw [hfl];exact hone
 ·intro j u hj
  rw [hfl,List.getElem?_map] at hj
  cases hk:ks[j]? with
  | none=>simp [hk] at hj
  | some k=>
   simp only [hk,Option.map_some,Option.some.injEq] at hj
   subst hj
   obtain⟨k',h1,h2,_⟩:=hcell j (List.getElem?_eq_some_iff.1 hk).1
   obtain rfl:=Option.some.inj (hk.symm.trans h1)
   have:=(World.var?_cell hg hv0 j).trans h2
   rw [Nat.zero_add]
   exact⟨⟨_,this⟩,this⟩
end Go.Proofs.YtlabamnhpgoekaaGreatDoor.Le
