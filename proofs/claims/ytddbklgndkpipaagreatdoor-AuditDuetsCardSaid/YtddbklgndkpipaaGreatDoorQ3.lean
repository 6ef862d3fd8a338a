/- A part of it. -/
import Derived.Test.YtddbklgndkpipaaGreatDoorQ1
import Derived.Test.YtddbklgndkpipaaGreatDoorQ2
set_option linter.unusedVariables false
set_option linter.unusedSimpArgs false
namespace Go.Proofs.YtddbklgndkpipaaGreatDoor
open Go Go.Proofs.YtddbklgndkpipaaGreatDoor.Le
set_option maxRecDepth 100000
def F9 {α β:Type} (p:α->β->Bool):List α->List β->Bool
 | [],[]=>true
 | a::ta,b::tb=>p a b&&F9 p ta tb
 | _,_=>false
theorem SX {α β:Type} (p:α->β->Bool):∀(xs:List α) (ys:List β),xs.length≠ys.length->F9 p xs ys=false
 | [],[],h=>absurd rfl h
 | [],_::_,_=>rfl
 | _::_,[],_=>rfl
 | a::ta,b::tb,h=>by rw [F9,SX p ta tb (fun e=>h (by simp [e])),Bool.and_false]
theorem Z6I {α β γ δ:Type} (p:γ->δ->Bool) (f:α->γ) (g:β->δ):∀(xs:List α) (ys:List β),F9 p (xs.map f) (ys.map g)=F9 (fun x y=>p (f x) (g y)) xs ys
 | [],[]=>rfl
 | [],_::_=>rfl
 | _::_,[]=>rfl
 | a::ta,b::tb=>by rw [List.map_cons,List.map_cons,F9,F9,Z6I p f g ta tb]
theorem Z60 {α:Type} (p:α->α->Bool) (h:∀x,p x x=true):∀xs:List α,F9 p xs xs=true
 | []=>rfl
 | a::ta=>by rw [F9,h,Z60 p h ta];rfl
theorem scan {α β:Type} (p:α->β->Bool) (xs:List α) (ys:List β) (hl:xs.length=ys.length) (F:Nat->Option Bool) (h0:F xs.length=some true)
  (hs:∀i (h:i<xs.length),F i=bif p xs[i] (ys[i]'(hl▸h)) then F (i+1) else some false):F 0=some (F9 p xs ys):=by
 have key:∀j i,i+j=xs.length->F i=some (F9 p (xs.drop i) (ys.drop i)):=by
  intro j
  induction j with
  | zero=>
   intro i hi
   rw [show i=xs.length by omega,h0,List.drop_length,List.drop_of_length_le (by omega)]
   rfl
  | succ j ih=>
   intro i hi
   have hx:i<xs.length:=by omega
   rw [hs i hx,ih (i+1) (by omega),List.drop_eq_getElem_cons hx,List.drop_eq_getElem_cons (hl▸hx:i<ys.length),F9]
   cases p xs[i] (ys[i]'(hl▸hx))<;>rfl
 exact key xs.length 0 (by omega)
theorem coll {α β:Type} (q:α->Bool) (g:α->β) (xs:List α) (F:List β->Nat->Option (List β)) (h0:∀acc,F acc xs.length=some acc)
  (hs:∀acc i (h:i<xs.length),acc.length<=i->F acc i=bif q xs[i] then F (acc++[g xs[i]]) (i+1) else F acc (i+1)):F [] 0=some ((xs.filter q).map g):=by
 have key:∀j i acc,i+j=xs.length->acc.length<=i->F acc i=some (acc++((xs.drop i).filter q).map g):=by
  intro j
  induction j with
  | zero=>
   intro i acc hi ha
   rw [show i=xs.length by omega,h0,List.drop_length]
   simp
  | succ j ih=>
   intro i acc hi ha
   have hx:i<xs.length:=by omega
   rw [hs acc i hx ha,List.drop_eq_getElem_cons hx]
   cases hq:q xs[i] with
   | true=>
    rw [cond_true,ih (i+1) _ (by omega) (by simp;omega),List.filter_cons_of_pos hq,List.map_cons,List.append_assoc]
    rfl
   | false=>
    rw [cond_false,ih (i+1) _ (by omega) (by omega),List.filter_cons_of_neg (by simp [hq])]
 have:=key xs.length 0 [] (by omega) (Nat.le_refl _)
 simpa using this
theorem P7 {i n:Nat} (h:i<n):decide ((i:Int)<(n:Int))=true:=decide_eq_true (by omega)
theorem P5 {n:Nat}:decide ((n:Int)<(n:Int))=false:=decide_eq_false (by omega)
theorem J8 {i n:Nat} (h:i<n):decide (0<=(i:Int)/\(i:Int)<(n:Int))=true:=decide_eq_true ⟨by omega,by omega⟩
theorem PT {i n:Nat} (h:i<n) (hn:n<=1000000):A7 ((i:Int)+1)=((i+1:Nat):Int):=by rw [uM (by omega) (by omega)];simp
theorem Q5 {b:Bool} {α:Type} (x y:α):(bif !b then x else y)=bif b then y else x:=by cases b<;>rfl
theorem WZ {a b:Nat}:((a:Int) != (b:Int)) = !(decide (a=b)):=by
 by_cases h:a=b
 ·subst h;simp
 ·rw [decide_eq_false h];simp only [bne,Bool.not_false];rw [beq_eq_false_iff_ne.2 (fun e=>h (by omega))];rfl
theorem Qu {n c:Nat} (h:n<=2000000) (hc:c<=1000):kA n c=true:=by
 have h1:n*c<=2000000*1000:=Nat.mul_le_mul h hc
 have h2:n<=maxLen:=Nat.le_trans h (by decide)
 have h3:n*c<=lim:=Nat.le_trans h1 (by decide)
 simp [kA,h2,h3]
theorem Z8b (xs ys:List Int) (hl:xs.length<=1000000):gV xs ys=some (F9 (fun a b=>a==b) xs ys):=(Cc _ _).trans (by
 simp only [Tq,DN,WZ]
 by_cases h:xs.length=ys.length
 ·rw [decide_eq_true h]
  simp only [Bool.not_true,cond_false]
  refine scan (fun a b=>a==b) xs ys h (fun i=>Ad Tq (.b1 xs ys xs.length i)) ?_ ?_
  ·refine(Cc _ _).trans ?_
   simp only [Tq,DN,P5,cond_false]
  ·intro i hi
   refine(Cc _ _).trans ?_
   simp only [Tq,DN,P7 hi,J8 hi,J8 (h▸hi:i<ys.length),cond_true,Int.toNat_natCast,List.getElem?_eq_getElem hi,List.getElem?_eq_getElem (h▸hi:i<ys.length),Option.bind_some,bne,Q5,PT hi hl]
 ·rw [decide_eq_false h,SX _ _ _ h];rfl)
def N8 (a b:Ai):Bool:=(a.Dn==b.Dn)&&F9 (fun a b=>a==b) a.Payload b.Payload
theorem Z8m (a b:Ai) (h:a.Payload.length<=1000000):gW a b=some (N8 a b):=(Cc _ _).trans (by
 simp only [yC,DN,Z8b _ _ h,Option.bind_some]
 unfold N8
 cases a.Dn==b.Dn<;>rfl)
theorem bytes_inj:∀(a b:List Int),Cb a->Cb b->((a.map fun n=>UInt8.ofNat n.toNat)==(b.map fun n=>UInt8.ofNat n.toNat))=F9 (fun a b=>a==b) a b
 | [],[],_,_=>rfl
 | [],_::_,_,_=>rfl
 | _::_,[],_,_=>rfl
 | x::xs,y::ys,h1,h2=>by
  rw [List.map_cons,List.map_cons,F9,<- bytes_inj xs ys ((SK _ _).1 h1).2 ((SK _ _).1 h2).2]
  obtain⟨a1,a2⟩:=((SK _ _).1 h1).1
  obtain⟨b1,b2⟩:=((SK _ _).1 h2).1
  have e:(UInt8.ofNat x.toNat==UInt8.ofNat y.toNat)=(x==y):=by
   by_cases h:x=y
   ·subst h;simp
   ·rw [show (x==y)=false by simpa using h]
    refine beq_false_of_ne fun e=>h ?_
    have e' :=congrArg UInt8.toNat e
    rw [UInt8.toNat_ofNat',UInt8.toNat_ofNat'] at e'
    omega
  show ((UInt8.ofNat x.toNat==UInt8.ofNat y.toNat)&&_)=_
  rw [e]
  rfl
theorem Zg1 (a:List Int):(strOf U 5 a).toList=a.map fun n=>UInt8.ofNat n.toNat:=by
 rw [strOf,Z32]
 simp
theorem Z9g (a b:Ai) (h:Bh a) (k:Bh b):iQ a b=some (N8 a b):=(Cc _ _).trans (by
 simp only [yR,DN,GR _ (Nat.le_trans h.1 (by decide)),GR _ (Nat.le_trans k.1 (by decide)),Zg1,bytes_inj _ _ h.2 k.2]
 unfold N8
 cases a.Dn==b.Dn<;>rfl)
theorem Z7X (xs ys:List Ai) (hl:xs.length<=1000000) (hp:IC xs):QB xs ys=some ⟨F9 N8 xs ys⟩:=(Cc _ _).trans (by
 simp only [Lr,DN,WZ]
 by_cases h:xs.length=ys.length
 ·rw [decide_eq_true h]
  simp only [Bool.not_true,cond_false]
  have:=scan N8 xs ys h (fun i=>(Ad Lr (.b1 ys xs xs.length i)).map Je.q0) (by
   show (Ad Lr (.b1 ys xs xs.length xs.length)).map _=_
   rw [Cc]
   simp only [Lr,DN,P5,cond_false]
   rfl) (by
   intro i hi
   show (Ad Lr (.b1 ys xs xs.length i)).map _=_
   rw [Cc]
   simp only [Lr,DN,P7 hi,J8 hi,J8 (h▸hi:i<ys.length),cond_true,Int.toNat_natCast,List.getElem?_eq_getElem hi,List.getElem?_eq_getElem (h▸hi:i<ys.length),Option.bind_some,Q5,PT hi hl,Z8m _ _ (Nat.le_trans (hp _ (List.getElem_mem hi)).1 (by decide))]
   cases N8 xs[i] ys[i]<;>rfl)
  revert this
  show (Ad Lr (.b1 ys xs xs.length ((0:Nat):Int))).map _=_->Ad Lr (.b1 ys xs xs.length ((0:Nat):Int))=_
  cases Ad Lr (.b1 ys xs xs.length ((0:Nat):Int)) with
  | none=>intro h;exact nomatch h
  | some v=>intro h;cases v;exact congrArg (fun b=>some (Je.mk b)) (Option.some.inj h)
 ·rw [decide_eq_false h,SX _ _ _ h];rfl)
theorem Z8Y (xs ys:List Ai) (hl:xs.length<=1000000) (hp:IC xs) (hq:IC ys):iF xs ys=some (F9 N8 xs ys):=(Cc _ _).trans (by
 simp only [UC,DN,WZ]
 by_cases h:xs.length=ys.length
 ·rw [decide_eq_true h]
  simp only [Bool.not_true,cond_false]
  refine scan N8 xs ys h (fun i=>Ad UC (.b1 xs ys i)) ?_ ?_
  ·refine(Cc _ _).trans ?_
   simp only [UC,DN,P5,cond_false]
  ·intro i hi
   refine(Cc _ _).trans ?_
   simp only [UC,DN,P7 hi,J8 hi,J8 (h▸hi:i<ys.length),cond_true,Int.toNat_natCast,List.getElem?_eq_getElem hi,List.getElem?_eq_getElem (h▸hi:i<ys.length),Option.bind_some,Q5,PT hi hl,Z9g _ _ (hp _ (List.getElem_mem hi)) (hq _ (List.getElem_mem _))]
 ·rw [decide_eq_false h,SX _ _ _ h];rfl)
def pfx (a b:List Ai):Bool:=decide (a.length<=b.length)&&F9 N8 a (b.take a.length)
theorem Zls {l:List Ai} (n:Nat) (h:IC l):IC (l.take n):=fun p hp=>h p (List.mem_of_mem_take hp)
theorem Z15 (a b:List Ai) (hl:a.length<=1000000) (hp:IC a) (hq:IC b):RV a b=some (pfx a b):=(Cc _ _).trans (by
 simp only [Z18,DN]
 unfold pfx
 by_cases h:a.length<=b.length
 ·rw [decide_eq_true h,decide_eq_true (show (a.length:Int)<=b.length by omega),decide_eq_true (show 0<=(a.length:Int)/\(a.length:Int)<=b.length from⟨by omega,by omega⟩)]
  simp only [cond_true,List.drop_zero,Int.toNat_natCast,Nat.sub_zero,Z8Y _ _ hl hp (Zls _ hq),Option.bind_some,Bool.true_and]
 ·rw [decide_eq_false h,decide_eq_false (show ¬(a.length:Int)<=b.length by omega)]
  rfl)
def IG (i:Ar):Ed:=⟨i.Event,i.Gz⟩
def NT (x y:Ed):Bool:=(x.WT==y.WT)&&((x.Ee.Kind==y.Ee.Kind)&&((x.Ee.EN==y.Ee.EN)&&((x.Ee.BM.Gy==y.Ee.BM.Gy)&&((x.Ee.BM.Gl==y.Ee.BM.Gl)&&((x.Ee.BM.GK==y.Ee.BM.GK)&&((x.Ee.BM.Fb==y.Ee.BM.Fb)&&((x.Ee.BM.He==y.Ee.BM.He)&&((x.Ee.Map==y.Ee.Map)&&true))))))))
def isC (s:Int) (n:DC):Bool:=(n.Side==s)&&(n.I5.Kind==2)
def Ic (s:Int) (l:List DC):List Ar:=(l.filter (isC s)).map (·.I5)
theorem Z81 (xs ys:List Ed) (hl:xs.length<=1000000):gK xs ys=some (F9 NT xs ys):=(Cc _ _).trans (by
 simp only [Tn,DN,WZ]
 by_cases h:xs.length=ys.length
 ·rw [decide_eq_true h]
  simp only [Bool.not_true,cond_false]
  refine scan NT xs ys h (fun i=>Ad Tn (.b1 xs ys xs.length i)) ?_ ?_
  ·refine(Cc _ _).trans ?_
   simp only [Tn,DN,P5,cond_false]
  ·intro i hi
   refine(Cc _ _).trans ?_
   simp only [Tn,DN,P7 hi,J8 hi,J8 (h▸hi:i<ys.length),cond_true,Int.toNat_natCast,List.getElem?_eq_getElem hi,List.getElem?_eq_getElem (h▸hi:i<ys.length),Option.bind_some,Q5,PT hi hl]
   rfl
 ·rw [decide_eq_false h,SX _ _ _ h];rfl)
theorem Z9n (d:Ak) (s:Int) (hl:d.Notes.length<=1000000):X6 d s=some ((Ic s d.Notes).map IG):=(Cc _ _).trans (by
 simp only [LJ,DN,List.length_nil,beq_self_eq_true,cond_true]
 have e3:∀(acc:List Ed) (i:Nat),i<d.Notes.length->Ad LJ (.b3 s acc d.Notes d.Notes.length i)=Ad LJ (.b1 s acc d.Notes d.Notes.length ((i+1:Nat):Int)):=fun acc i hi=>(Cc _ _).trans (by
  simp only [LJ,DN,PT hi hl,beq_self_eq_true,cond_true])
 have e2:∀(acc:List Ed) (i:Nat) (n:DC),i<d.Notes.length->acc.length<=i->Ad LJ (.b2 s acc d.Notes d.Notes.length i n)=Ad LJ (.b1 s (acc++[IG n.I5]) d.Notes d.Notes.length ((i+1:Nat):Int)):=fun acc i n hi ha=>(Cc _ _).trans (by
  simp only [LJ,DN,List.length_cons,List.length_nil,beq_self_eq_true,cond_true,Qu (show acc.length+(0+1)<=2000000 by omega) (show 72<=1000 by decide),e3 _ _ hi]
  rfl)
 have:=coll (isC s) (fun n=>IG n.I5) d.Notes (fun acc i=>Ad LJ (.b1 s acc d.Notes d.Notes.length i)) (fun acc=>(Cc _ _).trans (by
  simp only [LJ,DN,P5,cond_false,beq_self_eq_true,cond_true])) (fun acc i hi ha=>(Cc _ _).trans (by
  simp only [LJ,DN,P7 hi,J8 hi,cond_true,Int.toNat_natCast,List.getElem?_eq_getElem hi,Option.bind_some,beq_self_eq_true,e2 _ _ _ hi ha,e3 _ _ hi]
  unfold isC
  cases (d.Notes[i]).Side==s<;>cases (d.Notes[i]).I5.Kind==2<;>rfl))
 refine Eq.trans this ?_
 rw [Ic,List.map_map]
 rfl)
theorem ZaC (d:Ak) (s:Int) (hl:d.Notes.length<=1000000):Xm d s=some (Ic s d.Notes):=(Cc _ _).trans (by
 simp only [LP,DN,List.length_nil,beq_self_eq_true,cond_true]
 have e3:∀(acc:List Ar) (i:Nat),i<d.Notes.length->Ad LP (.b3 s acc i d)=Ad LP (.b1 s acc ((i+1:Nat):Int) d):=fun acc i hi=>(Cc _ _).trans (by
  simp only [LP,DN,PT hi hl,beq_self_eq_true,cond_true])
 have e2:∀(acc:List Ar) (i:Nat) (hi:i<d.Notes.length),acc.length<=i->Ad LP (.b2 s acc i d)=Ad LP (.b1 s (acc++[(d.Notes[i]).I5]) ((i+1:Nat):Int) d):=fun acc i hi ha=>(Cc _ _).trans (by
  simp only [LP,DN,J8 hi,Int.toNat_natCast,List.getElem?_eq_getElem hi,Option.bind_some,List.length_cons,List.length_nil,beq_self_eq_true,cond_true,Qu (show acc.length+(0+1)<=2000000 by omega) (show 160<=1000 by decide),e3 _ _ hi])
 exact coll (isC s) (·.I5) d.Notes (fun acc i=>Ad LP (.b1 s acc i d)) (fun acc=>(Cc _ _).trans (by
  simp only [LP,DN,P5,cond_false,beq_self_eq_true,cond_true])) (fun acc i hi ha=>(Cc _ _).trans (by
  simp only [LP,DN,P7 hi,J8 hi,cond_true,Int.toNat_natCast,List.getElem?_eq_getElem hi,Option.bind_some,beq_self_eq_true,e2 _ _ hi ha,e3 _ _ hi]
  unfold isC
  cases (d.Notes[i]).Side==s<;>cases (d.Notes[i]).I5.Kind==2<;>rfl)))
theorem Z8F (xs ys:List Ar) (hl:xs.length<=1000000):iI xs ys=some (F9 (fun a b=>NT (IG a) (IG b)) xs ys):=(Cc _ _).trans (by
 simp only [Oe,DN,WZ]
 by_cases h:xs.length=ys.length
 ·rw [decide_eq_true h]
  simp only [Bool.not_true,cond_false]
  have e2:∀i:Nat,i<xs.length->Ad Oe (.b2 xs ys i)=Ad Oe (.b1 xs ys ((i+1:Nat):Int)):=fun i hi=>(Cc _ _).trans (by
   simp only [Oe,DN,PT hi hl])
  refine scan (fun a b=>NT (IG a) (IG b)) xs ys h (fun i=>Ad Oe (.b1 xs ys i)) ?_ ?_
  ·refine(Cc _ _).trans ?_
   simp only [Oe,DN,P5,cond_false]
  ·intro i hi
   refine(Cc _ _).trans ?_
   simp only [Oe,DN,P7 hi,J8 hi,J8 (h▸hi:i<ys.length),cond_true,Int.toNat_natCast,List.getElem?_eq_getElem hi,List.getElem?_eq_getElem (h▸hi:i<ys.length),Option.bind_some,bne,Q5,e2 i hi]
   unfold NT IG
   cases (xs[i]).Event==(ys[i]).Event<;>rfl
 ·rw [decide_eq_false h,SX _ _ _ h];rfl)
def pmB (a b:Eh):Bool:=(a.JD==b.JD)&&((a.Kr==b.Kr)&&((a.BM.Gy==b.BM.Gy)&&((a.BM.Gl==b.BM.Gl)&&((a.BM.GK==b.BM.GK)&&((a.BM.Fb==b.BM.Fb)&&((a.BM.He==b.BM.He)&&((a.Map==b.Map)&&((a.Hop==b.Hop)&&((a.H6==b.H6)&&((a.LW==b.LW)&&true))))))))))
def QA (a b:Af):Bool:=(a.Event==b.Event)&&pmB a.Bz b.Bz
def LH (a b:Af):Bool:=(a.AP.EJ != 4)||((b.AP.EJ != 4)||(a.Ef.Key==b.Ef.Key))
theorem Za2 (a b:Af):iZ a b=some (QA a b):=(Cc _ _).trans (by
 simp only [Z4,DN]
 unfold QA pmB
 cases a.Event==b.Event<;>rfl)
theorem ZaF (a b:Af):jS a b=some (LH a b):=(Cc _ _).trans (by
 simp only [Z0d,DN]
 unfold LH
 cases a.AP.EJ != 4<;>cases b.AP.EJ != 4<;>rfl)
theorem ZgB (a b:Af):nM a b=some (!LH a b):=(Cc _ _).trans (by
 simp only [Z4j,DN]
 unfold LH
 simp only [bne]
 cases a.AP.EJ==4<;>cases b.AP.EJ==4<;>rfl)
theorem Zdk (a b:Af):jZ a b=some ((a.BV==0)&&(b.BV==0)):=(Cc _ _).trans (by
 simp only [Z0y,DN]
 cases a.BV==0<;>rfl)
def fa (b:Bool) (f:BR) (l:List BR):List BR:=bif b then l++[f] else l
theorem X8 (b:Bool) (f:BR) (l:List BR) (h:l.length<=1000):Iy b f l=some ⟨fa b f l⟩:=(Cc _ _).trans (by
 simp only [zX,DN,List.length_cons,List.length_nil,beq_self_eq_true,cond_true,Qu (show l.length+(0+1)<=2000000 by omega) (show 24<=1000 by decide)]
 cases b<;>rfl)
def gB (d:Ak):List BR:=
 let l:=fa (!pfx d.AB.x1 d.Sent.x0) ⟨1,1,0⟩ (fa (!pfx d.AB.x0 d.Sent.x1) ⟨1,0,0⟩ [])
 bif (d.AA.x0.BV==0)&&(d.AA.x1.BV==0) then
  fa (!LH d.AA.x0 d.AA.x1) ⟨4,0,0⟩ (fa (!(QA d.AA.x0 d.AA.x1&&F9 (fun a b=>NT (IG a) (IG b)) (Ic 0 d.Notes) (Ic 1 d.Notes))) ⟨2,0,0⟩ l)
 else l
theorem NC (b:Bool) (f:BR) (l:List BR):(fa b f l).length<=l.length+1:=by
 unfold fa
 cases b<;>simp
theorem Z6S (s:Int) (l:List DC):(Ic s l).length<=l.length:=by
 rw [Ic,List.length_map]
 exact List.length_filter_le _ _
theorem ZmD (d:Ak):(gB d).length<=4:=by
 unfold gB
 have h1:=NC (!pfx d.AB.x0 d.Sent.x1) ⟨1,0,0⟩ []
 have h2:=NC (!pfx d.AB.x1 d.Sent.x0) ⟨1,1,0⟩ (fa (!pfx d.AB.x0 d.Sent.x1) ⟨1,0,0⟩ [])
 dsimp only
 rw [List.length_nil] at h1
 cases (d.AA.x0.BV==0)&&(d.AA.x1.BV==0)
 ·rw [cond_false];omega
 ·rw [cond_true]
  refine Nat.le_trans (NC _ _ _) (Nat.succ_le_succ (Nat.le_trans (NC _ _ _) (by omega)))
theorem find_ok (got sent:List Ai) (i:Int) (l:List BR) (hl:l.length<=1000) (h1:got.length<=1000000) (hg:IC got) {β:Type} (k:List BR->Option β) :
  (bif decide ((got.length:Int)>(sent.length:Int)) then (Iy true (⟨1,i,0⟩:BR) l).bind fun y=>k y.q0
   else bif decide (0<=(if (sent.length:Int)<(got.length:Int) then (sent.length:Int) else (got.length:Int))/\(if (sent.length:Int)<(got.length:Int) then (sent.length:Int) else (got.length:Int))<=(sent.length:Int)) then
    (QB got ((sent.drop 0).take ((Int.toNat (if (sent.length:Int)<(got.length:Int) then (sent.length:Int) else (got.length:Int))) - 0))).bind fun y=>
     (Iy (!y.q0) (⟨1,i,0⟩:BR) l).bind fun z=>k z.q0 else none)=k (fa (!pfx got sent) ⟨1,i,0⟩ l):=by
 unfold pfx
 by_cases h:got.length<=sent.length
 ·rw [decide_eq_true h,decide_eq_false (show ¬(got.length:Int)>sent.length by omega),if_neg (show ¬(sent.length:Int)<got.length by omega),decide_eq_true (show 0<=(got.length:Int)/\(got.length:Int)<=sent.length from⟨by omega,by omega⟩)]
  simp only [cond_true,cond_false,List.drop_zero,Int.toNat_natCast,Nat.sub_zero,Z7X _ _ h1 hg,Option.bind_some,Bool.true_and,X8 _ _ _ hl]
 ·rw [decide_eq_false h,decide_eq_true (show (got.length:Int)>sent.length by omega)]
  simp only [cond_true,X8 _ _ _ hl,Option.bind_some,Bool.false_and,Bool.not_false]
theorem Zdv {k:Int} (d:Ak) (h:CO k d) (hk:k<=1000000):jY d=some (gB d):=by
 obtain⟨_,_,a0,a1,b0,b1,n⟩:=h
 have hb0:=b0.1
 have hb1:=b1.1
 have e4:∀l:List BR,l.length<=100->Ad H8 (.b4 l d.AA.x0 d.AA.x1)=some (fa (!LH d.AA.x0 d.AA.x1) ⟨4,0,0⟩ l):=fun l hl=>(Cc _ _).trans (by
  simp only [H8,DN,ZaF,Option.bind_some,X8 _ _ _ (Nat.le_trans hl (by decide)),beq_self_eq_true,cond_true])
 have e3:∀l:List BR,l.length<=50->Ad H8 (.b3 d l d.AA.x0 d.AA.x1)=some (fa (!LH d.AA.x0 d.AA.x1) ⟨4,0,0⟩ (fa (!(QA d.AA.x0 d.AA.x1&&F9 (fun a b=>NT (IG a) (IG b)) (Ic 0 d.Notes) (Ic 1 d.Notes))) ⟨2,0,0⟩ l)):=fun l hl=>(Cc _ _).trans (by
  have hc:=Z6S 0 d.Notes
  simp only [H8,DN,Za2,Option.bind_some,X8 _ _ _ (show l.length<=1000 by omega),beq_self_eq_true,cond_true,Z9n d _ (show d.Notes.length<=1000000 by omega),Z81 _ _ (show ((Ic 0 d.Notes).map IG).length<=1000000 by rw [List.length_map];omega),Z6I]
  rw [e4 _ (Nat.le_trans (NC _ _ _) (by omega)),e4 _ (Nat.le_trans (NC _ _ _) (by omega))]
  cases QA d.AA.x0 d.AA.x1<;>rfl)
 have e2:∀(i:Int) (l:List BR),Ad H8 (.b2 i d l)=Ad H8 (.b1 (A7 (i+1)) d l):=fun i l=>(Cc _ _).trans (by
  simp only [H8,DN,beq_self_eq_true,cond_true])
 have l2:∀l:List BR,l.length<=20->Ad H8 (.b1 2 d l)=some (bif (d.AA.x0.BV==0)&&(d.AA.x1.BV==0) then
  fa (!LH d.AA.x0 d.AA.x1) ⟨4,0,0⟩ (fa (!(QA d.AA.x0 d.AA.x1&&F9 (fun a b=>NT (IG a) (IG b)) (Ic 0 d.Notes) (Ic 1 d.Notes))) ⟨2,0,0⟩ l) else l):=fun l hl=>(Cc _ _).trans (by
  simp only [H8,DN,beq_self_eq_true,cond_true,e3 l (by omega),bne,Q5]
  rw [show decide ((2:Int)<2)=false from rfl]
  cases d.AA.x0.BV==0<;>cases d.AA.x1.BV==0<;>rfl)
 have l1:∀l:List BR,l.length<=10->Ad H8 (.b1 1 d l)=Ad H8 (.b1 2 d (fa (!pfx d.AB.x1 d.Sent.x0) ⟨1,1,0⟩ l)):=fun l hl=>(Cc _ _).trans (by
  simp only [H8,DN,beq_self_eq_true,cond_true,e2]
  exact find_ok d.AB.x1 d.Sent.x0 1 l (by omega) (by omega) b1.2 (fun l=>Ad H8 (.b1 2 d l)))
 have l0:Ad H8 (.b1 0 d [])=Ad H8 (.b1 1 d (fa (!pfx d.AB.x0 d.Sent.x1) ⟨1,0,0⟩ [])):=(Cc _ _).trans (by
  simp only [H8,DN,beq_self_eq_true,cond_true,e2]
  exact find_ok d.AB.x0 d.Sent.x1 0 [] (Nat.zero_le _) (by omega) b0.2 (fun l=>Ad H8 (.b1 1 d l)))
 refine(Cc _ _).trans ?_
 simp only [H8,DN,List.length_nil,beq_self_eq_true,cond_true]
 have g1:=NC (!pfx d.AB.x0 d.Sent.x1) ⟨1,0,0⟩ []
 rw [List.length_nil] at g1
 have g2:=NC (!pfx d.AB.x1 d.Sent.x0) ⟨1,1,0⟩ (fa (!pfx d.AB.x0 d.Sent.x1) ⟨1,0,0⟩ [])
 rw [l0,l1 _ (by omega),l2 _ (by omega)]
 rfl
theorem ZgM {k:Int} (d:Ak) (h:CO k d) (hk:k<=1000000):oJ d=some (gB d):=by
 obtain⟨_,_,a0,a1,b0,b1,n⟩:=h
 have hb0:=b0.1
 have hb1:=b1.1
 have e4:∀l:List BR,l.length<=100->Ad Gi (.b4 l d.AA.x0 d.AA.x1)=some (fa (!LH d.AA.x0 d.AA.x1) ⟨4,0,0⟩ l):=fun l hl=>(Cc _ _).trans (by
  simp only [Gi,DN,ZgB,Option.bind_some,List.length_cons,List.length_nil,beq_self_eq_true,cond_true,Qu (show l.length+(0+1)<=2000000 by omega) (show 24<=1000 by decide)]
  cases LH d.AA.x0 d.AA.x1<;>rfl)
 have e3:∀l:List BR,l.length<=50->Ad Gi (.b3 l d.AA.x0 d.AA.x1)=some (fa (!LH d.AA.x0 d.AA.x1) ⟨4,0,0⟩ (l++[⟨2,0,0⟩])):=fun l hl=>(Cc _ _).trans (by
  simp only [Gi,DN,List.length_cons,List.length_nil,beq_self_eq_true,cond_true,Qu (show l.length+(0+1)<=2000000 by omega) (show 24<=1000 by decide)]
  exact e4 _ (by simp;omega))
 have e2:∀(i:Int) (l:List BR),Ad Gi (.b2 l i d)=Ad Gi (.b1 l (A7 (i+1)) d):=fun i l=>(Cc _ _).trans (by
  simp only [Gi,DN,beq_self_eq_true,cond_true])
 have l2:∀l:List BR,l.length<=20->Ad Gi (.b1 l 2 d)=some (bif (d.AA.x0.BV==0)&&(d.AA.x1.BV==0) then
  fa (!LH d.AA.x0 d.AA.x1) ⟨4,0,0⟩ (fa (!(QA d.AA.x0 d.AA.x1&&F9 (fun a b=>NT (IG a) (IG b)) (Ic 0 d.Notes) (Ic 1 d.Notes))) ⟨2,0,0⟩ l) else l):=fun l hl=>(Cc _ _).trans (by
  have hc:=Z6S 0 d.Notes
  simp only [Gi,DN,beq_self_eq_true,cond_true,e3 l (by omega),e4 l (by omega),Zdk,ZaC d _ (show d.Notes.length<=1000000 by omega),Z8F _ _ (show (Ic 0 d.Notes).length<=1000000 by omega),Option.bind_some,bne,Q5]
  rw [show decide ((2:Int)<2)=false from rfl]
  unfold QA pmB
  generalize ((d.AA.x0.Bz.JD==d.AA.x1.Bz.JD)&&_)=pq
  generalize ((d.AA.x0.BV==0)&&(d.AA.x1.BV==0))=rr
  generalize F9 (fun a b=>NT (IG a) (IG b)) (Ic 0 d.Notes) (Ic 1 d.Notes)=ch
  cases rr<;>cases d.AA.x0.Event==d.AA.x1.Event<;>cases pq<;>cases ch<;>rfl)
 have l1:∀l:List BR,l.length<=10->Ad Gi (.b1 l 1 d)=Ad Gi (.b1 (fa (!pfx d.AB.x1 d.Sent.x0) ⟨1,1,0⟩ l) 2 d):=fun l hl=>(Cc _ _).trans (by
  simp only [Gi,DN,List.length_cons,List.length_nil,beq_self_eq_true,cond_true,Qu (show l.length+(0+1)<=2000000 by omega) (show 24<=1000 by decide),e2,Z15 _ _ (show d.AB.x1.length<=1000000 by omega) b1.2 a0.2,Option.bind_some]
  show (bif !pfx d.AB.x1 d.Sent.x0 then Ad Gi (.b1 (l++[⟨1,1,0⟩]) 2 d) else Ad Gi (.b1 l 2 d))=_
  cases pfx d.AB.x1 d.Sent.x0<;>rfl)
 have l0:Ad Gi (.b1 [] 0 d)=Ad Gi (.b1 (fa (!pfx d.AB.x0 d.Sent.x1) ⟨1,0,0⟩ []) 1 d):=(Cc _ _).trans (by
  simp only [Gi,DN,List.length_cons,List.length_nil,beq_self_eq_true,cond_true,Qu (show 0+(0+1)<=2000000 by omega) (show 24<=1000 by decide),e2,Z15 _ _ (show d.AB.x0.length<=1000000 by omega) b0.2 a1.2,Option.bind_some]
  show (bif !pfx d.AB.x0 d.Sent.x1 then Ad Gi (.b1 ([]++[⟨1,0,0⟩]) 1 d) else Ad Gi (.b1 [] 1 d))=_
  cases pfx d.AB.x0 d.Sent.x1<;>rfl)
 refine(Cc _ _).trans ?_
 simp only [Gi,DN,List.length_nil,beq_self_eq_true,cond_true]
 have g1:=NC (!pfx d.AB.x0 d.Sent.x1) ⟨1,0,0⟩ []
 rw [List.length_nil] at g1
 have g2:=NC (!pfx d.AB.x1 d.Sent.x0) ⟨1,1,0⟩ (fa (!pfx d.AB.x0 d.Sent.x1) ⟨1,0,0⟩ [])
 rw [l0,l1 _ (by omega),l2 _ (by omega)]
 rfl
theorem Zhn (xs:List BR) (hl:xs.length<=1000):oG xs xs=some true:=(Cc _ _).trans (by
 simp only [VR,DN,bne_self_eq_false,cond_false]
 have:=scan (fun _ _=>true) xs xs rfl (fun i=>Ad VR (.b1 xs xs i)) ((Cc _ _).trans (by simp only [VR,DN,P5,cond_false])) (fun i hi=>(Cc _ _).trans (by
  simp only [VR,DN,P7 hi,J8 hi,cond_true,Int.toNat_natCast,List.getElem?_eq_getElem hi,Option.bind_some,beq_self_eq_true,Bool.and_true,Bool.not_true,cond_false,PT hi (show xs.length<=1000000 by omega)]))
 rw [Z60 _ (fun _=>rfl)] at this
 exact this)
set_option maxHeartbeats 4000000
theorem lk_ev {k:Int} {l:Af} (x:Int) (h:BK k l):BK k { l with Event:=IntKind.wrap .u16 x }:=⟨h.1,h.2.1,h.2.2.1,h.2.2.2.1,h.2.2.2.2.1,h.2.2.2.2.2.1,h.2.2.2.2.2.2.1,sZ _,h.2.2.2.2.2.2.2.2⟩
theorem Zoo {k:Int} {l:Af} (x:Int) (h:BK k l):BK k { l with Ef:={ l.Ef with Key:=IntKind.wrap .u64 x } }:=⟨h.1,h.2.1,⟨F5 _,h.2.2.1.2⟩,h.2.2.2⟩
theorem Zpf {k:Int} {l:Af} (h:BK k l):BK k { l with Bz:={ l.Bz with Map:=5 } }:=⟨h.1,h.2.1,h.2.2.1,⟨h.2.2.2.1.1,h.2.2.2.1.2.1,(show Bq 5 from⟨by decide,by decide⟩)⟩,h.2.2.2.2⟩
theorem Zmk {k:Int} {d:Ak} (n m:Nat) (h:CO k d):CO k { d with Notes:=(d.Notes.drop n).take m }:=⟨h.1,h.2.1,h.2.2.1,h.2.2.2.1,h.2.2.2.2.1,h.2.2.2.2.2.1,by
 have:=h.2.2.2.2.2.2
 show (((d.Notes.drop n).take m).length:Int)<=k
 rw [List.length_take,List.length_drop]
 omega⟩
theorem ZlY {k:Int} {d:Ak} {p:Ai} (hp:Bh p) (h:CO k d):CO (k+1) { d with AB:=⟨d.AB.x0++[p],d.AB.x1⟩ }:=
 have hm:=Dw h (show k<=k+1 by omega)
 ⟨hm.1,hm.2.1,hm.2.2.1,hm.2.2.2.1,WR h.2.2.2.2.1 (Q3 hp) (by simp),hm.2.2.2.2.2.1,hm.2.2.2.2.2.2⟩
theorem ZlN {k:Int} {d:Ak} (h0:0<=k) (h:CO k d):CO k { d with Sent:=⟨[],d.Sent.x1⟩ }:=⟨h.1,h.2.1,⟨h0,Z6F⟩,h.2.2.2.1,h.2.2.2.2⟩
theorem p21:Bh ⟨2,[1]⟩:=⟨by decide,(SK _ _).2 ⟨⟨by decide,by decide⟩,bM⟩⟩
def acW (a:Eo):Prop:=Cb a.Bg.Payload/\Bq a.Map/\Bq a.Number/\Bq a.Key
theorem Z8p (a0:Oa) (a1:List DL) (a2:Ob) (hp:Hw a0.Bz) (k0:Bq a0.Keys.x0) (k1:Bq a0.Keys.x1) (hb:∀b∈a1,∀a∈b.F8,acW a):∃r,yF a0 a1 a2=some r/\r=true:=by
 refine Bj (T:=XU) (post:=fun r=>r=true)
  (fun p=>match p with | .b0 a0 a1 _=>Hw a0.Bz/\Bq a0.Keys.x0/\Bq a0.Keys.x1/\(∀b∈a1,∀a∈b.F8,acW a) | .b1 a0=>CO 20001 a0)
  (fun p=>match p with | .b0 ..=>(1,0,0) | .b1 ..=>(0,0,0)) ?_ (.b0 a0 a1 a2) ⟨hp,k0,k1,hb⟩
 intro p hx
 cases p with
 | b0 a0 a1 a2=>
  obtain⟨hp,k0,k1,hb⟩:=hx
  simp only [XU]
  refine GI (a:=true) rfl ?_
  refine J3 rfl ?_
  refine Aj (Z9e a1 30 (.inr (by decide))) (fun(v:Bool) _ hf=>?_)
  refine CP (fun _=>BL rfl) (fun hv=>?_)
  obtain⟨hl,hw⟩:=hf (by simpa using hv)
  have hB:∀b∈a1,NV b:=fun b hb' a ha=>by
   obtain⟨q0,q1,q2,q3⟩:=hb b hb' a ha
   have:=hw b hb' a ha
   exact⟨⟨by omega,q0⟩,by omega,q1,q2,q3⟩
  refine Aj (Zj5 _ _ _ _ hp k0 k1) (fun(y:IU) _ hy=>?_)
  refine CP (fun _=>BL rfl) (fun _=>?_)
  refine BO (by simp [kL]) ?_
  refine Aj (ZjC _ _ hy (by omega) hB) (fun(z:PG) _ h=>?_)
  have hm:=Dw h (show (20000:Int)<=20001 by decide)
  have n0:=h.2.2.2.2.2.2
  have n1:=h.2.2.2.2.1.1
  repeat' first
   | refine BO (Ld (by omega) (by decide)) ?_
   | refine BO (decide_eq_true (by omega)) ?_
   | refine BO (by simp [kL]) ?_
   | (refine CP (fun e=>?_) (fun _=>?_);try have e:=of_decide_eq_true e)
   | exact BL ⟨hm,FH (by decide)⟩
   | exact BL ⟨PI hm (lk_ev _ hm.2.1),FH (by decide)⟩
   | exact BL ⟨PM hm (Zoo _ hm.1),FH (by decide)⟩
   | exact BL ⟨PM hm (Zpf hm.1),FH (by decide)⟩
   | exact BL ⟨Zmk _ _ hm,FH (by decide)⟩
   | exact BL ⟨ZlY p21 h,FH (by decide)⟩
   | exact BL ⟨ZlN (by decide) hm,FH (by decide)⟩
 | b1 d=>
  simp only [XU]
  have hx:CO 20001 d:=hx
  have hlen:=ZmD d
  repeat' first
   | refine BO (by simp [kL]) ?_
   | refine dQ hx (by decide) (by decide) ?_
   | refine GI (Zdv d hx (by decide)) ?_
   | refine GI (ZgM d hx (by decide)) ?_
   | refine GI (Zhn _ (by omega)) ?_
   | refine J9 rfl ?_
   | refine GI (ZaL _ (by omega)) ?_
   | refine GI (Zfz _ (by omega)) ?_
   | exact BL (beq_self_eq_true _)
end Go.Proofs.YtddbklgndkpipaaGreatDoor
