/- A part of it. -/
import Derived.Test.YtddbklgndkpipaaGreatDoorYUn
import Derived.Test.YtddbklgndkpipaaGreatDoorShelf
import Derived.Shelf.Strings.OnBuilder
set_option linter.unusedVariables false
set_option linter.unusedSimpArgs false
namespace Go.Proofs.YtddbklgndkpipaaGreatDoor
open Go Go.Proofs.YtddbklgndkpipaaGreatDoor.Le
open Go.RowKit (Below)
theorem Z4O {σ:Sg} {w:World}:∀(xs:List ByteArray) (us:List Value),AU σ w (xs.map fun s=>V.lit (.string s)) us->us=xs.map fun s=>Value.string s
 | [],us,h=>h.FT
 | x::xs,us,h=>by
  obtain⟨u,us',rfl,h1,h2⟩:=h.Dt
  have:=Z4O xs us' h2
  subst this
  cases h1 with
  | lit _ _=>rfl
def J7 (xs:List ByteArray) (sep:ByteArray):ByteArray:=⟨(Lib.join (xs.map (·.data.toList)) sep.data.toList).toArray⟩
noncomputable def Nb (a0:List ByteArray) (a1:ByteArray):Option ByteArray:=
 if a0.length<=140737488355328/\(Lib.join (a0.map (·.data.toList)) a1.data.toList).length<=140737488355328 then some (J7 a0 a1) else none
noncomputable def Zac:Az U:={ ts:=[122,9],rt:=9,fn:=fun x=>Nb x.1 x.2.1,ok:=by decide }
theorem ZgP (fz:Nat->Nat->Prop) (w:World) (xs:List ByteArray) (sep:ByteArray) (v0:Value) (hcells:∀b c,fz b c->∃u,w.cell? ⟨b,c,none⟩=some u)
  (h1:AU (bare fz) w [.sl false 1 (xs.map fun s=>V.lit (.string s))] [v0]) (hN:xs.length<=140737488355328) (hlen:(Lib.join (xs.map (·.data.toList)) sep.data.toList).length<=140737488355328) :
  Calls Tryz.prog 35 #[v0,.string sep] w fun e w' =>e = .returned (.string (J7 xs sep))/\Below w.heap.size w w' :=by
 generalize hes:(xs.map fun s=>V.lit (.string s))=es at h1
 have none:∀(a:Option Addr) (c:Nat),xs=[]->Calls Tryz.prog 35 #[.slice a 0 c,.string sep] w fun e w' =>e = .returned (.string (J7 xs sep))/\Below w.heap.size w w' :=fun a c hx=>by
  subst hx
  exact(Any.strings_Join_none Tryz.lays156 Tryz.Builder_Extra_156 a c sep w).mono fun e w' ⟨he,hw⟩=>⟨he,hw▸Below.refl _ _⟩
 cases h1 with
 | Es h=>exact none _ _ (by simpa using hes)
 | F7 a h=>exact none _ _ (by simpa using hes)
 | @sl _ us _ _ b o c _ hr hf hsz hone hle hcap hlies h=>
  subst hes
  have hu:=Z4O xs us hr
  subst hu
  have hfl:flat (xs.map fun s=>Value.string s)=xs.map fun s=>Value.string s:=by
   clear hr hf hsz hone hlies hle hN hlen none
   induction xs with
   | nil=>rfl
   | cons x xs ih=>simp only [flat,List.map_cons,List.flatMap_cons] at ih ⊢;rw [ih];rfl
  have hc:∀(j:Nat) x,xs[j]? = some x->w.cell? ⟨b,o+j,.none⟩=some (.string x):=fun j x hj=>(hlies j (.string x) (by rw [hfl,List.getElem?_map,hj];rfl)).2
  rw [List.length_map]
  rcases xs with _|⟨x,r⟩
  ·exact none _ _ rfl
  ·have hb:b<w.heap.size:=by
    have:=hc 0 x rfl
    exact cell_lt this
   exact Any.strings_Join Tryz.lays156 Tryz.Builder_Extra_156 b o c (x::r) sep w hc hb hN (by simpa using hle) hlen
def strsOf:List V->Option (List ByteArray)
 | []=>some []
 | .lit (.string s)::xs=>(strsOf xs).map (s::·)
 | _=>none
theorem Z5n:∀{xs:List V} {ss:List ByteArray},strsOf xs=some ss->xs=ss.map fun s=>V.lit (.string s)
 | [],ss,h=>by simp only [strsOf,Option.some.injEq] at h;subst h;rfl
 | x::xs,ss,h=>by
  unfold strsOf at h
  split at h
  ·rename_i heq;cases heq
  ·rename_i s xs' heq
   cases heq
   cases hs:strsOf xs with
   | none=>simp [hs] at h
   | some r=>
    simp only [hs,Option.map_some,Option.some.injEq] at h
    subst h
    rw [Z5n hs]
    rfl
  ·cases h
def vT:List V->Option V
 | [.sl false e xs,.lit (.string sep)]=>if e=1 then (match strsOf xs with
  | some ss=>if ss.length<=140737488355328/\(Lib.join (ss.map (·.data.toList)) sep.data.toList).length<=140737488355328 then some (.lit (.string (J7 ss sep))) else none
  | none=>none) else none
 | _=>none
theorem Z5r (E:Env) (ss:List ByteArray) (sep:ByteArray) (hN:ss.length<=140737488355328) (hlen:(Lib.join (ss.map (·.data.toList)) sep.data.toList).length<=140737488355328) :
  L9 Tryz.prog E 35 [.sl false 1 (ss.map fun s=>V.lit (.string s)),.lit (.string sep)] (.lit (.string (J7 ss sep))):=by
 intro fz w vs hcells hg hr
 obtain⟨v0,vs,rfl,h1,hr⟩:=hr.Dt
 obtain⟨v1,vs,rfl,h2,hr⟩:=hr.Dt
 cases hr.FT
 cases h2 with
 | lit _ _=>
  refine(ZgP fz w ss sep v0 hcells h1 hN hlen).mono ?_
  rintro e w' ⟨rfl,hb⟩
  refine⟨_,fz,rfl,hb,fun _ _ h=>h,fun _ _ h _=>h,fun b c h=>?_,.lit ?_ .nil,rfl⟩
  ·obtain⟨u,hu⟩:=hcells b c h
   exact⟨u,(hb.cell (p:=⟨b,c,none⟩) (cell_lt hu)).trans hu⟩
  ·have h1:(J7 ss sep).size<=maxLen:=Nat.le_trans (show (J7 ss sep).size<=140737488355328 by simpa [J7,ByteArray.size] using hlen) (by decide)
   simpa [leaf] using h1
theorem Z1f:JO Tryz.prog 35:=⟨Tryz.f35,Tryz.func35,by kernel_rfl,by kernel_rfl⟩
theorem Zhy:bW Tryz.prog gl 35 vT:=by
 refine⟨Z1f,fun E xs r _ h=>?_⟩
 unfold vT at h
 split at h
 ·split at h
  ·rename_i he
   subst he
   split at h
   ·rename_i ss hs
    split at h
    ·rename_i hl
     cases h
     rw [Z5n hs]
     exact Z5r E ss _ hl.1 hl.2
    ·cases h
   ·cases h
  ·cases h
 ·cases h
theorem Z9H:BA Tryz.prog B0 35 Zac:=by
 refine⟨Z1f,?_⟩
 rintro ⟨xs,sep,_⟩ a ha
 have ha' : Nb xs sep=some a:=ha
 unfold Nb at ha'
 split at ha'
 ·rename_i hl
  cases ha'
  exact Z5r B0 xs sep hl.1 hl.2
 ·cases ha'
end Go.Proofs.YtddbklgndkpipaaGreatDoor
namespace Go.Proofs.YtddbklgndkpipaaGreatDoor
open Go Go.Proofs.YtddbklgndkpipaaGreatDoor.Le
set_option maxRecDepth 100000
def jF:FuncId->Option (List V->Option V)
 | 35=>some vT
 | _=>none
theorem Z9f:∀g F,jF g=some F->bW Tryz.prog gl g F:=fun g F h=>by
 unfold jF at h
 split at h<;>cases h
 ·exact Zhy
noncomputable def Z04:Option Bool:=some true
noncomputable def Z0q:Az U:={ ts:=[],rt:=4,fn:=fun _=>Z04,ok:=by decide }
theorem Z9N:sJ Tryz.prog gl [4,8,12,14,15,21,22,23,24,25,26,27,36,41,42,54,68] (fun g=>!([21,22,36,41,68].contains g)) [] [] jF=true:=by kernel_rfl
theorem Zah:BA Tryz.prog B0 4 Z0q:=Zil rfl dO Z9N Z9f (fun p hp=>by cases hp) (by rfl) (by decide) rfl Tryz.func4 (by kernel_rfl) (n:=60) (m:=Z0q) rfl (a:=true) (fun _=>rfl) (by kernel_rfl)
noncomputable section
inductive iM where
 | b0 (a0:List DL) (a1:Int)
 | b1 (a0:List DL) (a1:Int)
 | b2 (a0:List DL) (a1 a2:Int)
def UE:iM->Tr U (Bool⊕iM)
 | .b0 a0 a1=>.br (decide ((↑a0.length:Int)>a1)) ( AQ false) ( AL (.b1 a0 (0:Int)))
 | .b1 a0 a1=>.br (decide (a1<(↑a0.length:Int))) ( .chk (kI a1 a0) ( .bind 95 (a0[(Int.toNat a1)]?) (fun(x1:DL)=>.br (decide ((↑x1.F8.length:Int)>8)) ( AQ false) ( AL (.b2 a0 a1 (0:Int)))))) ( AQ true)
 | .b2 a0 a1 a2=>.chk (kI a1 a0) ( .bind 95 (a0[(Int.toNat a1)]?) (fun(x1:DL)=>.br (decide (a2<(↑x1.F8.length:Int))) ( .chk (kI a1 a0) ( .bind 95 (a0[(Int.toNat a1)]?) (fun(x2:DL)=>.chk (kI a2 x2.F8) ( .bind 97 (x2.F8[(Int.toNat a2)]?) (fun(x3:Eo)=>.br (decide ((↑x3.Bg.Payload.length:Int)>300)) ( AQ false) ( AL (.b2 a0 a1 (A7 (a2+1))))))))) ( AL (.b1 a0 (A7 (a1+1))))))
def iR (a0:List DL) (a1:Int):Option Bool:=Ad UE (.b0 a0 a1)
def Z9c:Az U:=⟨[36,3],4,fun x=>iR x.1 x.2.1,by decide⟩
def yG:Lay:=LT [0,5] [.v 36,.v 3] []
def yE:Lay:=LT [0,5,6] [.v 36,.v 3,.v 3] []
def Z91:iM->BQ U
 | .b0 a0 a1=>Bi Tryz.f5 [36,3] (a0,a1,())
 | .b1 a0 a1=>Ah Tryz.f5 [1,1,0,1,0,0,0,0] yG (((a0,()),((a1,()),())),())
 | .b2 a0 a1 a2=>Ah Tryz.f5 [1,1,0,1,0,0,1,0,0,1,1,0,0,0,0] yE (((a0,()),((a1,()),((a2,()),()))),())
theorem Z8T:BA Tryz.prog B0 5 Z9c:=Bl BC BB (al [(4,yG),(9,yE)]) Z91 Tryz.func5 (fun p=>by cases p<;>kernel_rfl) (by kernel_rfl) fun _=>rfl
def Z4:S1 (Af×Af×Unit) Bool
 | (a0,a1,_)=>.br (a0.Event==a1.Event) ( AQ ((a0.Bz.JD==a1.Bz.JD)&&((a0.Bz.Kr==a1.Bz.Kr)&&((a0.Bz.BM.Gy==a1.Bz.BM.Gy)&&((a0.Bz.BM.Gl==a1.Bz.BM.Gl)&&((a0.Bz.BM.GK==a1.Bz.BM.GK)&&((a0.Bz.BM.Fb==a1.Bz.BM.Fb)&&((a0.Bz.BM.He==a1.Bz.BM.He)&&((a0.Bz.Map==a1.Bz.Map)&&((a0.Bz.Hop==a1.Bz.Hop)&&((a0.Bz.H6==a1.Bz.H6)&&((a0.Bz.LW==a1.Bz.LW)&&true)))))))))))) ( AQ false)
def iZ (a0 a1:Af):Option Bool:=Ad Z4 (a0,a1,())
def Z9V:Az U:=⟨[55,55],4,fun x=>iZ x.1 x.2.1,by decide⟩
theorem Z9v:BA Tryz.prog B0 24 Z9V:=ok1 BC BB Tryz.func24 (fun _=>by kernel_rfl) (by kernel_rfl)
inductive gQ where
 | b0 (a0 a1:List Ed)
 | b1 (a0 a1:List Ed) (a2 a3:Int)
def Tn:gQ->Tr U (Bool⊕gQ)
 | .b0 a0 a1=>.br ((↑a0.length:Int) != (↑a1.length:Int)) ( AQ false) ( AL (.b1 a0 a1 (↑a0.length:Int) (0:Int)))
 | .b1 a0 a1 a2 a3=>.br (decide (a3<a2)) ( .chk (kI a3 a0) ( .bind 113 (a0[(Int.toNat a3)]?) (fun(x1:Ed)=>.chk (kI a3 a1) ( .bind 113 (a1[(Int.toNat a3)]?) (fun(x2:Ed)=>.br (!((x1.WT==x2.WT)&&((x1.Ee.Kind==x2.Ee.Kind)&&((x1.Ee.EN==x2.Ee.EN)&&((x1.Ee.BM.Gy==x2.Ee.BM.Gy)&&((x1.Ee.BM.Gl==x2.Ee.BM.Gl)&&((x1.Ee.BM.GK==x2.Ee.BM.GK)&&((x1.Ee.BM.Fb==x2.Ee.BM.Fb)&&((x1.Ee.BM.He==x2.Ee.BM.He)&&((x1.Ee.Map==x2.Ee.Map)&&true)))))))))) ( AQ false) ( AL (.b1 a0 a1 a2 (A7 (a3+1))))))))) ( AQ true)
def gK (a0 a1:List Ed):Option Bool:=Ad Tn (.b0 a0 a1)
def Z82:Az U:=⟨[109,109],4,fun x=>gK x.1 x.2.1,by decide⟩
def xJ:Lay:=LT [0,1,12,13] [.v 109,.v 109,.v 3,.v 3] []
def Z7Z:gQ->BQ U
 | .b0 a0 a1=>Bi Tryz.f25 [109,109] (a0,a1,())
 | .b1 a0 a1 a2 a3=>Ah Tryz.f25 [1,1,0,1,0,0,0] xJ (((a0,()),((a1,()),((a2,()),((a3,()),())))),())
theorem Z80:BA Tryz.prog B0 25 Z82:=Bl BC BB (al [(4,xJ)]) Z7Z Tryz.func25 (fun p=>by cases p<;>kernel_rfl) (by kernel_rfl) fun _=>rfl
inductive iW where
 | b0 (a0:Ak) (a1:Int)
 | b1 (a0:Int) (a1:List Ed) (a2:List DC) (a3 a4:Int)
 | b2 (a0:Int) (a1:List Ed) (a2:List DC) (a3 a4:Int) (a5:DC)
 | b3 (a0:Int) (a1:List Ed) (a2:List DC) (a3 a4:Int)
def LJ:iW->Tr U ((List Ed)⊕iW)
 | .b0 a0 a1=>.chk true ( AL (.b1 a1 ([]:List Ed) a0.Notes (↑a0.Notes.length:Int) (0:Int)))
 | .b1 a0 a1 a2 a3 a4=>.br (decide (a4<a3)) ( .chk (kI a4 a2) ( .bind 228 (a2[(Int.toNat a4)]?) (fun(x1:DC)=>.br (x1.Side==a0) ( .br (x1.I5.Kind==2) ( kl a1 ( AL (.b2 a0 a1 a2 a3 a4 x1))) ( kl a1 ( AL (.b3 a0 a1 a2 a3 a4)))) ( kl a1 ( AL (.b3 a0 a1 a2 a3 a4)))))) ( kl a1 ( AQ a1))
 | .b2 a0 a1 a2 a3 a4 a5=>.chk true ( kl a1 ( .chk (kA (a1.length+1) 72) ( kl (a1++[(⟨a5.I5.Event,a5.I5.Gz⟩:Ed)]) ( AL (.b3 a0 (a1++[(⟨a5.I5.Event,a5.I5.Gz⟩:Ed)]) a2 a3 a4)))))
 | .b3 a0 a1 a2 a3 a4=>kl a1 ( AL (.b1 a0 a1 a2 a3 (A7 (a4+1))))
def X6 (a0:Ak) (a1:Int):Option (List Ed):=Ad LJ (.b0 a0 a1)
def Z9B:Az U:=⟨[60,3],109,fun x=>X6 x.1 x.2.1,by decide⟩
def XX:Lay:=LT [1,5,9,10,11] [.v 3,.o 113 9 0,.v 57,.v 3,.v 3] [.r 113]
def yN:Lay:=LT [1,5,7,9,10,11] [.v 3,.o 113 9 0,.p 1,.v 57,.v 3,.v 3] [.r 113,.s 228]
def Z9b:iW->BQ U
 | .b0 a0 a1=>Bi Tryz.f26 [60,3] (a0,a1,())
 | .b1 a0 a1 a2 a3 a4=>Ah Tryz.f26 [1,1,0,1,0,0,0] XX (((a0,()),((),((a2,()),((a3,()),((a4,()),()))))),(a1,()))
 | .b2 a0 a1 a2 a3 a4 a5=>Ah Tryz.f26 [1,1,0,1,0,0,1,1,0,0,1,1,0] yN (((a0,()),((),((),((a2,()),((a3,()),((a4,()),())))))),(a1,((a5,()),())))
 | .b3 a0 a1 a2 a3 a4=>Ah Tryz.f26 [1,1,0,1,0,0,1,1,1] XX (((a0,()),((),((a2,()),((a3,()),((a4,()),()))))),(a1,()))
theorem Z9j:BA Tryz.prog B0 26 Z9B:=Bl BC BB (al [(3,XX),(6,yN),(7,XX)]) Z9b Tryz.func26 (fun p=>by cases p<;>kernel_rfl) (by kernel_rfl) fun _=>rfl
def Z0d:S1 (Af×Af×Unit) Bool
 | (a0,a1,_)=>.br (a0.AP.EJ != 4) ( AQ true) ( .br (a1.AP.EJ != 4) ( AQ true) ( AQ (a0.Ef.Key==a1.Ef.Key)))
def jS (a0 a1:Af):Option Bool:=Ad Z0d (a0,a1,())
def ZaE:Az U:=⟨[55,55],4,fun x=>jS x.1 x.2.1,by decide⟩
theorem Zag:BA Tryz.prog B0 27 ZaE:=ok1 BC BB Tryz.func27 (fun _=>by kernel_rfl) (by kernel_rfl)
inductive jA where
 | b0 (a0:Bool) (a1:BR) (a2:List BR)
def zX:jA->Tr U (IZ⊕jA)
 | .b0 a0 a1 a2=>.br a0 ( .chk true ( kl a2 ( .chk (kA (a2.length+1) 24) ( kl (a2++[a1]) ( AQ (⟨(a2++[a1])⟩:IZ)))))) ( kl a2 ( AQ (⟨a2⟩:IZ)))
def Iy (a0:Bool) (a1:BR) (a2:List BR):Option IZ:=Ad zX (.b0 a0 a1 a2)
def yX:Shape:=⟨[OV 4,.agg [.v 75 3 true],PQ 0],[.var 68 1 (.one (.own 75 1)),.row 75 true]⟩
def Z90:Shape:=⟨[],[.var 68 1 (.one (.own 75 1)),.row 75 true]⟩
noncomputable def Z9X:HMod U:=⟨[KP,[.keep,.keep,.keep],KP],[.var [.own 75 3],.row true],yX,Z90,false,1583,fun(y:IZ)=>((),((),(y.q0,()))),fun x=>Iy x.1.1.1 x.1.2.1.1 x.2.2.1,okS rfl⟩
def Z9s:jA->BQ U
 | .b0 a0 a1 a2=>HY Tryz.f21 yX (((a0,()),((a1,()),((),()))),((),(a2,())))
theorem Z9r:E8 Tryz.prog B0 21 Z9X:=okR BC BB AN [] [.var [.own 75 3],.row true] 2 Z9s Tryz.func21 (fun p=>by cases p<;>kernel_rfl) (by kernel_rfl) fun x=>by kernel_rfl
inductive gU where
 | b0 (a0 a1:List Int)
 | b1 (a0 a1:List Int) (a2 a3:Int)
def Tq:gU->Tr U (Bool⊕gU)
 | .b0 a0 a1=>.br ((↑a0.length:Int) != (↑a1.length:Int)) ( AQ false) ( AL (.b1 a0 a1 (↑a0.length:Int) (0:Int)))
 | .b1 a0 a1 a2 a3=>.br (decide (a3<a2)) ( .chk (kI a3 a0) ( .bind 5 (a0[(Int.toNat a3)]?) (fun(x1:Int)=>.chk (kI a3 a1) ( .bind 5 (a1[(Int.toNat a3)]?) (fun(x2:Int)=>.br (x1 != x2) ( AQ false) ( AL (.b1 a0 a1 a2 (A7 (a3+1))))))))) ( AQ true)
def gV (a0 a1:List Int):Option Bool:=Ad Tq (.b0 a0 a1)
def Z8e:Az U:=⟨[65,65],4,fun x=>gV x.1 x.2.1,by decide⟩
def xK:Lay:=LT [0,1,12,13] [.v 65,.v 65,.v 3,.v 3] []
def Z84:gU->BQ U
 | .b0 a0 a1=>Bi Tryz.f54 [65,65] (a0,a1,())
 | .b1 a0 a1 a2 a3=>Ah Tryz.f54 [1,1,0,1,0,0,0] xK (((a0,()),((a1,()),((a2,()),((a3,()),())))),())
theorem Z85:BA Tryz.prog B0 54 Z8e:=Bl BC BB (al [(4,xK)]) Z84 Tryz.func54 (fun p=>by cases p<;>kernel_rfl) (by kernel_rfl) fun _=>rfl
def yC:S1 (Ai×Ai×Unit) Bool
 | (a0,a1,_)=>.br (a0.Dn==a1.Dn) ( .bind 4 (gV a0.Payload a1.Payload) (fun(x1:Bool)=>AQ x1)) ( AQ false)
def gW (a0 a1:Ai):Option Bool:=Ad yC (a0,a1,())
def Z8k:Az U:=⟨[67,67],4,fun x=>gW x.1 x.2.1,by decide⟩
theorem Z8h:BA Tryz.prog B0 23 Z8k:=ok1 (mc Z85 BC) BB Tryz.func23 (fun _=>by kernel_rfl) (by kernel_rfl)
inductive gJ where
 | b0 (a0 a1:List Ai)
 | b1 (a0 a1:List Ai) (a2 a3:Int)
def Lr:gJ->Tr U (Je⊕gJ)
 | .b0 a0 a1=>.br ((↑a0.length:Int) != (↑a1.length:Int)) ( AQ (⟨false⟩:Je)) ( AL (.b1 a1 a0 (↑a0.length:Int) (0:Int)))
 | .b1 a0 a1 a2 a3=>.br (decide (a3<a2)) ( .chk (kI a3 a1) ( .bind 67 (a1[(Int.toNat a3)]?) (fun(x1:Ai)=>.chk (kI a3 a0) ( .bind 67 (a0[(Int.toNat a3)]?) (fun(x2:Ai)=>.bind 4 (gW x1 x2) (fun(x3:Bool)=>.br (!x3) ( AQ (⟨false⟩:Je)) ( AL (.b1 a0 a1 a2 (A7 (a3+1)))))))))) ( AQ (⟨true⟩:Je))
def QB (a0 a1:List Ai):Option Je:=Ad Lr (.b0 a0 a1)
def xH:Shape:=⟨[OV 42,OV 42,.one (.fn 23 [] [])],[]⟩
def Z7U:Shape:=⟨[OV 4],[]⟩
noncomputable def Z7Y:HMod U:=⟨[[.s 67 2],[.s 67 2],KP],[],xH,Z7U,true,1584,fun(y:Je)=>(((y.q0,()),()),()),fun x=>QB x.1.1.1 x.1.2.1.1,okS rfl⟩
def xI:Lay:=⟨[1,2,15,16,17],[[.s 67 2],KP,[.s 67 2],KP,KP],[],⟨[OV 42,.one (.fn 23 [] []),OV 42,OV 3,OV 3],[]⟩⟩
def Z7V:gJ->BQ U
 | .b0 a0 a1=>HY Tryz.f22 xH (((a0,()),((a1,()),((),()))),())
 | .b1 a0 a1 a2 a3=>Ah Tryz.f22 [1,1,0,1,0,0,0] xI (((a0,()),((),((a1,()),((a2,()),((a3,()),()))))),())
theorem Z7W:E8 Tryz.prog B0 22 Z7Y:=okR (mc Z8h BC) BB (al [(4,xI)]) [KP] [] 0 Z7V Tryz.func22 (fun p=>by cases p<;>kernel_rfl) (by kernel_rfl) fun x=>by kernel_rfl
inductive lD where
 | b0 (a0:Ak)
 | b1 (a0:Int) (a1:Ak) (a2:List BR)
 | b2 (a0:Int) (a1:Ak) (a2:List BR)
 | b3 (a0:Ak) (a1:List BR) (a2 a3:Af)
 | b4 (a0:List BR) (a1 a2:Af)
def H8:lD->Tr U ((List BR)⊕lD)
 | .b0 a0=>.chk true ( AL (.b1 (0:Int) a0 ([]:List BR)))
 | .b1 a0 a1 a2=>.br (decide (a0<2)) ( .br (a0==0) ( .br ((A7 ((1:Int) - a0))==0) ( .br (decide ((↑a1.AB.x0.length:Int)>(↑a1.Sent.x0.length:Int))) ( kl a2 ( .bind 1583 (Iy true (⟨1,a0,0⟩:BR) a2) (fun(y10:IZ)=>kl y10.q0 ( AL (.b2 a0 a1 y10.q0))))) ( .chk (decide (0<=(if (↑a1.Sent.x0.length:Int)<(↑a1.AB.x0.length:Int) then (↑a1.Sent.x0.length:Int) else (↑a1.AB.x0.length:Int))/\(if (↑a1.Sent.x0.length:Int)<(↑a1.AB.x0.length:Int) then (↑a1.Sent.x0.length:Int) else (↑a1.AB.x0.length:Int))<=(↑a1.Sent.x0.length:Int))) ( .bind 1584 (QB a1.AB.x0 ((a1.Sent.x0.drop 0).take ((Int.toNat (if (↑a1.Sent.x0.length:Int)<(↑a1.AB.x0.length:Int) then (↑a1.Sent.x0.length:Int) else (↑a1.AB.x0.length:Int))) - 0))) (fun(y11:Je)=>kl a2 ( .bind 1583 (Iy (!y11.q0) (⟨1,a0,0⟩:BR) a2) (fun(y12:IZ)=>kl y12.q0 ( AL (.b2 a0 a1 y12.q0)))))))) ( .br ((A7 ((1:Int) - a0))==1) ( .br (decide ((↑a1.AB.x0.length:Int)>(↑a1.Sent.x1.length:Int))) ( kl a2 ( .bind 1583 (Iy true (⟨1,a0,0⟩:BR) a2) (fun(y7:IZ)=>kl y7.q0 ( AL (.b2 a0 a1 y7.q0))))) ( .chk (decide (0<=(if (↑a1.Sent.x1.length:Int)<(↑a1.AB.x0.length:Int) then (↑a1.Sent.x1.length:Int) else (↑a1.AB.x0.length:Int))/\(if (↑a1.Sent.x1.length:Int)<(↑a1.AB.x0.length:Int) then (↑a1.Sent.x1.length:Int) else (↑a1.AB.x0.length:Int))<=(↑a1.Sent.x1.length:Int))) ( .bind 1584 (QB a1.AB.x0 ((a1.Sent.x1.drop 0).take ((Int.toNat (if (↑a1.Sent.x1.length:Int)<(↑a1.AB.x0.length:Int) then (↑a1.Sent.x1.length:Int) else (↑a1.AB.x0.length:Int))) - 0))) (fun(y8:Je)=>kl a2 ( .bind 1583 (Iy (!y8.q0) (⟨1,a0,0⟩:BR) a2) (fun(y9:IZ)=>kl y9.q0 ( AL (.b2 a0 a1 y9.q0)))))))) ( .fail))) ( .br (a0==1) ( .br ((A7 ((1:Int) - a0))==0) ( .br (decide ((↑a1.AB.x1.length:Int)>(↑a1.Sent.x0.length:Int))) ( kl a2 ( .bind 1583 (Iy true (⟨1,a0,0⟩:BR) a2) (fun(y4:IZ)=>kl y4.q0 ( AL (.b2 a0 a1 y4.q0))))) ( .chk (decide (0<=(if (↑a1.Sent.x0.length:Int)<(↑a1.AB.x1.length:Int) then (↑a1.Sent.x0.length:Int) else (↑a1.AB.x1.length:Int))/\(if (↑a1.Sent.x0.length:Int)<(↑a1.AB.x1.length:Int) then (↑a1.Sent.x0.length:Int) else (↑a1.AB.x1.length:Int))<=(↑a1.Sent.x0.length:Int))) ( .bind 1584 (QB a1.AB.x1 ((a1.Sent.x0.drop 0).take ((Int.toNat (if (↑a1.Sent.x0.length:Int)<(↑a1.AB.x1.length:Int) then (↑a1.Sent.x0.length:Int) else (↑a1.AB.x1.length:Int))) - 0))) (fun(y5:Je)=>kl a2 ( .bind 1583 (Iy (!y5.q0) (⟨1,a0,0⟩:BR) a2) (fun(y6:IZ)=>kl y6.q0 ( AL (.b2 a0 a1 y6.q0)))))))) ( .br ((A7 ((1:Int) - a0))==1) ( .br (decide ((↑a1.AB.x1.length:Int)>(↑a1.Sent.x1.length:Int))) ( kl a2 ( .bind 1583 (Iy true (⟨1,a0,0⟩:BR) a2) (fun(y1:IZ)=>kl y1.q0 ( AL (.b2 a0 a1 y1.q0))))) ( .chk (decide (0<=(if (↑a1.Sent.x1.length:Int)<(↑a1.AB.x1.length:Int) then (↑a1.Sent.x1.length:Int) else (↑a1.AB.x1.length:Int))/\(if (↑a1.Sent.x1.length:Int)<(↑a1.AB.x1.length:Int) then (↑a1.Sent.x1.length:Int) else (↑a1.AB.x1.length:Int))<=(↑a1.Sent.x1.length:Int))) ( .bind 1584 (QB a1.AB.x1 ((a1.Sent.x1.drop 0).take ((Int.toNat (if (↑a1.Sent.x1.length:Int)<(↑a1.AB.x1.length:Int) then (↑a1.Sent.x1.length:Int) else (↑a1.AB.x1.length:Int))) - 0))) (fun(y2:Je)=>kl a2 ( .bind 1583 (Iy (!y2.q0) (⟨1,a0,0⟩:BR) a2) (fun(y3:IZ)=>kl y3.q0 ( AL (.b2 a0 a1 y3.q0)))))))) ( .fail))) ( .fail))) ( .br (a1.AA.x0.BV != 0) ( kl a2 ( AQ a2)) ( .br (a1.AA.x1.BV != 0) ( kl a2 ( AQ a2)) ( kl a2 ( AL (.b3 a1 a2 a1.AA.x0 a1.AA.x1)))))
 | .b2 a0 a1 a2=>kl a2 ( AL (.b1 (A7 (a0+1)) a1 a2))
 | .b3 a0 a1 a2 a3=>.bind 4 (iZ a2 a3) (fun(x1:Bool)=>.br (!x1) ( kl a1 ( .bind 1583 (Iy true (⟨2,0,0⟩:BR) a1) (fun(y2:IZ)=>kl y2.q0 ( AL (.b4 y2.q0 a2 a3))))) ( .bind 109 (X6 a0 (0:Int)) (fun(x3:List Ed)=>.bind 109 (X6 a0 (1:Int)) (fun(x4:List Ed)=>.bind 4 (gK x3 x4) (fun(x5:Bool)=>kl a1 ( .bind 1583 (Iy (!x5) (⟨2,0,0⟩:BR) a1) (fun(y6:IZ)=>kl y6.q0 ( AL (.b4 y6.q0 a2 a3)))))))))
 | .b4 a0 a1 a2=>.bind 4 (jS a1 a2) (fun(x1:Bool)=>kl a0 ( .bind 1583 (Iy (!x1) (⟨4,0,0⟩:BR) a0) (fun(y2:IZ)=>kl y2.q0 ( AQ y2.q0))))
def jY (a0:Ak):Option (List BR):=Ad H8 (.b0 a0)
def Zd0:Az U:=⟨[60],68,fun x=>jY x.1,by decide⟩
def Xc:Lay:=⟨[1,3,4,11],[KP,KP,KP,KP],[.var k8,.var [.own 75 3],.row true],⟨[PQ 0,PQ 1,.one (.fn 21 [] [1]),OV 3],[VA 60 142,.var 68 1 (.one (.own 75 2)),.row 75 true]⟩⟩
def Zo:Lay:=⟨[1,3,4,8,9],[KP,KP,KP,KP,KP],[.var k8,.var [.own 75 3],.var k2,.var k2,.row true],⟨[PQ 0,PQ 1,.one (.fn 21 [] [1]),PQ 2,PQ 3],[VA 60 142,.var 68 1 (.one (.own 75 4)),VA 55 66,VA 55 66,.row 75 true]⟩⟩
def Zl:Lay:=⟨[3,4,8,9],[KP,KP,KP,KP],[.var [.own 75 3],.var k2,.var k2,.row true],⟨[PQ 0,.one (.fn 21 [] [0]),PQ 1,PQ 2],[.var 68 1 (.one (.own 75 3)),VA 55 66,VA 55 66,.row 75 true]⟩⟩
def Zas:lD->BQ U
 | .b0 a0=>Bi Tryz.f8 [60] (a0,())
 | .b1 a0 a1 a2=>Ah Tryz.f8 [1,1,1,0,1,0,0,0] Xc (((),((),((),((a0,()),())))),((a1,()),((),(a2,()))))
 | .b2 a0 a1 a2=>Ah Tryz.f8 [1,1,1,0,1,0,0,1,1,1] Xc (((),((),((),((a0,()),())))),((a1,()),((),(a2,()))))
 | .b3 a0 a1 a2 a3=>Ah Tryz.f8 [1,1,1,1,1,1,0] Zo (((),((),((),((),((),()))))),((a0,()),((),((a2,()),((a3,()),(a1,()))))))
 | .b4 a0 a1 a2=>Ah Tryz.f8 [1,1,1,1,1,1,1,0] Zl (((),((),((),((),())))),((),((a1,()),((a2,()),(a0,())))))
theorem Zbx:BA Tryz.prog B0 8 Zd0:=Bl (mc Z9v (mc Z80 (mc Z9j (mc Zag BC)))) (hc [] Z9r (hc [23] Z7W BB)) (al [(4,Xc),(8,Xc),(12,Zo),(13,Zl)]) Zas Tryz.func8 (fun p=>by cases p<;>kernel_rfl) (by kernel_rfl) fun _=>rfl
def yR:S1 (Ai×Ai×Unit) Bool
 | (a0,a1,_)=>.br (a0.Dn==a1.Dn) ( .chk (MP U 5 a0.Payload) ( .chk (MP U 5 a1.Payload) ( AQ ((strOf U 5 a0.Payload).toList==(strOf U 5 a1.Payload).toList)))) ( AQ false)
def iQ (a0 a1:Ai):Option Bool:=Ad yR (a0,a1,())
def Z9k:Az U:=⟨[67,67],4,fun x=>iQ x.1 x.2.1,by decide⟩
theorem Z8W:BA Tryz.prog B0 91 Z9k:=ok1 BC BB Tryz.func91 (fun _=>by kernel_rfl) (by kernel_rfl)
inductive iH where
 | b0 (a0 a1:List Ai)
 | b1 (a0 a1:List Ai) (a2:Int)
def UC:iH->Tr U (Bool⊕iH)
 | .b0 a0 a1=>.br ((↑a0.length:Int) != (↑a1.length:Int)) ( AQ false) ( AL (.b1 a0 a1 (0:Int)))
 | .b1 a0 a1 a2=>.br (decide (a2<(↑a0.length:Int))) ( .chk (kI a2 a0) ( .bind 67 (a0[(Int.toNat a2)]?) (fun(x1:Ai)=>.chk (kI a2 a1) ( .bind 67 (a1[(Int.toNat a2)]?) (fun(x2:Ai)=>.bind 4 (iQ x1 x2) (fun(x3:Bool)=>.br (!x3) ( AQ false) ( AL (.b1 a0 a1 (A7 (a2+1)))))))))) ( AQ true)
def iF (a0 a1:List Ai):Option Bool:=Ad UC (.b0 a0 a1)
def Z8M:Az U:=⟨[42,42],4,fun x=>iF x.1 x.2.1,by decide⟩
def xU:Lay:=LT [0,1,5] [.v 42,.v 42,.v 3] []
def Z8x:iH->BQ U
 | .b0 a0 a1=>Bi Tryz.f55 [42,42] (a0,a1,())
 | .b1 a0 a1 a2=>Ah Tryz.f55 [1,1,0,1,0,0,0,0] xU (((a0,()),((a1,()),((a2,()),()))),())
theorem Z8A:BA Tryz.prog B0 55 Z8M:=Bl (mc Z8W BC) BB (al [(4,xU)]) Z8x Tryz.func55 (fun p=>by cases p<;>kernel_rfl) (by kernel_rfl) fun _=>rfl
def Z18:S1 ((List Ai)×(List Ai)×Unit) Bool
 | (a0,a1,_)=>.br (decide ((↑a0.length:Int)<=(↑a1.length:Int))) ( .chk (decide (0<=(↑a0.length:Int)/\(↑a0.length:Int)<=(↑a1.length:Int))) ( .bind 4 (iF a0 ((a1.drop 0).take ((Int.toNat (↑a0.length:Int)) - 0))) (fun(x1:Bool)=>AQ x1))) ( AQ false)
def RV (a0 a1:List Ai):Option Bool:=Ad Z18 (a0,a1,())
def Zd4:Az U:=⟨[42,42],4,fun x=>RV x.1 x.2.1,by decide⟩
theorem Zba:BA Tryz.prog B0 30 Zd4:=ok1 (mc Z8A BC) BB Tryz.func30 (fun _=>by kernel_rfl) (by kernel_rfl)
def Z0y:S1 (Af×Af×Unit) Bool
 | (a0,a1,_)=>.br (a0.BV==0) ( AQ (a1.BV==0)) ( AQ false)
def jZ (a0 a1:Af):Option Bool:=Ad Z0y (a0,a1,())
def ZbQ:Az U:=⟨[55,55],4,fun x=>jZ x.1 x.2.1,by decide⟩
theorem Zbg:BA Tryz.prog B0 31 ZbQ:=ok1 BC BB Tryz.func31 (fun _=>by kernel_rfl) (by kernel_rfl)
inductive iK where
 | b0 (a0 a1:List Ar)
 | b1 (a0 a1:List Ar) (a2:Int)
 | b2 (a0 a1:List Ar) (a2:Int)
def Oe:iK->Tr U (Bool⊕iK)
 | .b0 a0 a1=>.br ((↑a0.length:Int) != (↑a1.length:Int)) ( AQ false) ( AL (.b1 a0 a1 (0:Int)))
 | .b1 a0 a1 a2=>.br (decide (a2<(↑a0.length:Int))) ( .chk (kI a2 a0) ( .bind 226 (a0[(Int.toNat a2)]?) (fun(x1:Ar)=>.chk (kI a2 a1) ( .bind 226 (a1[(Int.toNat a2)]?) (fun(x2:Ar)=>.br (x1.Event != x2.Event) ( AQ false) ( .chk (kI a2 a0) ( .bind 226 (a0[(Int.toNat a2)]?) (fun(x3:Ar)=>.chk (kI a2 a1) ( .bind 226 (a1[(Int.toNat a2)]?) (fun(x4:Ar)=>.br (!((x3.Gz.Kind==x4.Gz.Kind)&&((x3.Gz.EN==x4.Gz.EN)&&((x3.Gz.BM.Gy==x4.Gz.BM.Gy)&&((x3.Gz.BM.Gl==x4.Gz.BM.Gl)&&((x3.Gz.BM.GK==x4.Gz.BM.GK)&&((x3.Gz.BM.Fb==x4.Gz.BM.Fb)&&((x3.Gz.BM.He==x4.Gz.BM.He)&&((x3.Gz.Map==x4.Gz.Map)&&true))))))))) ( AQ false) ( AL (.b2 a0 a1 a2)))))))))))) ( AQ true)
 | .b2 a0 a1 a2=>AL (.b1 a0 a1 (A7 (a2+1)))
def iI (a0 a1:List Ar):Option Bool:=Ad Oe (.b0 a0 a1)
def Z8S:Az U:=⟨[119,119],4,fun x=>iI x.1 x.2.1,by decide⟩
def XO:Lay:=LT [0,1,5] [.v 119,.v 119,.v 3] []
def Z8u:iK->BQ U
 | .b0 a0 a1=>Bi Tryz.f32 [119,119] (a0,a1,())
 | .b1 a0 a1 a2=>Ah Tryz.f32 [1,1,0,1,0,0,0,0] XO (((a0,()),((a1,()),((a2,()),()))),())
 | .b2 a0 a1 a2=>Ah Tryz.f32 [1,1,0,1,0,0,1,1] XO (((a0,()),((a1,()),((a2,()),()))),())
theorem Z8C:BA Tryz.prog B0 32 Z8S:=Bl BC BB (al [(4,XO),(5,XO)]) Z8u Tryz.func32 (fun p=>by cases p<;>kernel_rfl) (by kernel_rfl) fun _=>rfl
inductive jK where
 | b0 (a0:Ak) (a1:Int)
 | b1 (a0:Int) (a1:List Ar) (a2:Int) (a3:Ak)
 | b2 (a0:Int) (a1:List Ar) (a2:Int) (a3:Ak)
 | b3 (a0:Int) (a1:List Ar) (a2:Int) (a3:Ak)
def LP:jK->Tr U ((List Ar)⊕jK)
 | .b0 a0 a1=>.chk true ( AL (.b1 a1 ([]:List Ar) (0:Int) a0))
 | .b1 a0 a1 a2 a3=>.br (decide (a2<(↑a3.Notes.length:Int))) ( .chk (kI a2 a3.Notes) ( .bind 228 (a3.Notes[(Int.toNat a2)]?) (fun(x1:DC)=>.br (x1.Side==a0) ( .chk (kI a2 a3.Notes) ( .bind 228 (a3.Notes[(Int.toNat a2)]?) (fun(x2:DC)=>.br (x2.I5.Kind==2) ( kl a1 ( AL (.b2 a0 a1 a2 a3))) ( kl a1 ( AL (.b3 a0 a1 a2 a3)))))) ( kl a1 ( AL (.b3 a0 a1 a2 a3)))))) ( kl a1 ( AQ a1))
 | .b2 a0 a1 a2 a3=>.chk (kI a2 a3.Notes) ( .bind 228 (a3.Notes[(Int.toNat a2)]?) (fun(x1:DC)=>.chk true ( kl a1 ( .chk (kA (a1.length+1) 160) ( kl (a1++[x1.I5]) ( AL (.b3 a0 (a1++[x1.I5]) a2 a3)))))))
 | .b3 a0 a1 a2 a3=>kl a1 ( AL (.b1 a0 a1 (A7 (a2+1)) a3))
def Xm (a0:Ak) (a1:Int):Option (List Ar):=Ad LP (.b0 a0 a1)
def Zbm:Az U:=⟨[60,3],119,fun x=>Xm x.1 x.2.1,by decide⟩
def Qy:Lay:=LT [1,2,5,6] [.v 3,.p 0,.o 226 18 1,.v 3] [.s 60,.r 226]
def Za3:jK->BQ U
 | .b0 a0 a1=>Bi Tryz.f33 [60,3] (a0,a1,())
 | .b1 a0 a1 a2 a3=>Ah Tryz.f33 [1,1,0,1,0,0,0,0] Qy (((a0,()),((),((),((a2,()),())))),((a3,()),(a1,())))
 | .b2 a0 a1 a2 a3=>Ah Tryz.f33 [1,1,0,1,0,0,1,0,0,1,0] Qy (((a0,()),((),((),((a2,()),())))),((a3,()),(a1,())))
 | .b3 a0 a1 a2 a3=>Ah Tryz.f33 [1,1,0,1,0,0,1,1] Qy (((a0,()),((),((),((a2,()),())))),((a3,()),(a1,())))
theorem Zae:BA Tryz.prog B0 33 Zbm:=Bl BC BB (al [(3,Qy),(6,Qy),(4,Qy)]) Za3 Tryz.func33 (fun p=>by cases p<;>kernel_rfl) (by kernel_rfl) fun _=>rfl
def Z4j:S1 (Af×Af×Unit) Bool
 | (a0,a1,_)=>.br (a0.AP.EJ==4) ( .br (a1.AP.EJ==4) ( AQ (a0.Ef.Key != a1.Ef.Key)) ( AQ false)) ( AQ false)
def nM (a0 a1:Af):Option Bool:=Ad Z4j (a0,a1,())
def Zhg:Az U:=⟨[55,55],4,fun x=>nM x.1 x.2.1,by decide⟩
theorem ZfQ:BA Tryz.prog B0 34 Zhg:=ok1 BC BB Tryz.func34 (fun _=>by kernel_rfl) (by kernel_rfl)
inductive oW where
 | b0 (a0:Ak)
 | b1 (a0:List BR) (a1:Int) (a2:Ak)
 | b2 (a0:List BR) (a1:Int) (a2:Ak)
 | b3 (a0:List BR) (a1 a2:Af)
 | b4 (a0:List BR) (a1 a2:Af)
def Gi:oW->Tr U ((List BR)⊕oW)
 | .b0 a0=>.chk true ( AL (.b1 ([]:List BR) (0:Int) a0))
 | .b1 a0 a1 a2=>.br (decide (a1<2)) ( .br (a1==0) ( .br ((A7 ((1:Int) - a1))==0) ( .bind 4 (RV a2.AB.x0 a2.Sent.x0) (fun(x4:Bool)=>.br (!x4) ( .chk true ( kl a0 ( .chk (kA (a0.length+1) 24) ( kl (a0++[(⟨1,a1,0⟩:BR)]) ( AL (.b2 (a0++[(⟨1,a1,0⟩:BR)]) a1 a2)))))) ( kl a0 ( AL (.b2 a0 a1 a2))))) ( .br ((A7 ((1:Int) - a1))==1) ( .bind 4 (RV a2.AB.x0 a2.Sent.x1) (fun(x3:Bool)=>.br (!x3) ( .chk true ( kl a0 ( .chk (kA (a0.length+1) 24) ( kl (a0++[(⟨1,a1,0⟩:BR)]) ( AL (.b2 (a0++[(⟨1,a1,0⟩:BR)]) a1 a2)))))) ( kl a0 ( AL (.b2 a0 a1 a2))))) ( .fail))) ( .br (a1==1) ( .br ((A7 ((1:Int) - a1))==0) ( .bind 4 (RV a2.AB.x1 a2.Sent.x0) (fun(x2:Bool)=>.br (!x2) ( .chk true ( kl a0 ( .chk (kA (a0.length+1) 24) ( kl (a0++[(⟨1,a1,0⟩:BR)]) ( AL (.b2 (a0++[(⟨1,a1,0⟩:BR)]) a1 a2)))))) ( kl a0 ( AL (.b2 a0 a1 a2))))) ( .br ((A7 ((1:Int) - a1))==1) ( .bind 4 (RV a2.AB.x1 a2.Sent.x1) (fun(x1:Bool)=>.br (!x1) ( .chk true ( kl a0 ( .chk (kA (a0.length+1) 24) ( kl (a0++[(⟨1,a1,0⟩:BR)]) ( AL (.b2 (a0++[(⟨1,a1,0⟩:BR)]) a1 a2)))))) ( kl a0 ( AL (.b2 a0 a1 a2))))) ( .fail))) ( .fail))) ( .bind 4 (jZ a2.AA.x0 a2.AA.x1) (fun(x5:Bool)=>.br (!x5) ( kl a0 ( AQ a0)) ( .br (a2.AA.x0.Event != a2.AA.x1.Event) ( kl a0 ( AL (.b3 a0 a2.AA.x0 a2.AA.x1))) ( .br (!((a2.AA.x0.Bz.JD==a2.AA.x1.Bz.JD)&&((a2.AA.x0.Bz.Kr==a2.AA.x1.Bz.Kr)&&((a2.AA.x0.Bz.BM.Gy==a2.AA.x1.Bz.BM.Gy)&&((a2.AA.x0.Bz.BM.Gl==a2.AA.x1.Bz.BM.Gl)&&((a2.AA.x0.Bz.BM.GK==a2.AA.x1.Bz.BM.GK)&&((a2.AA.x0.Bz.BM.Fb==a2.AA.x1.Bz.BM.Fb)&&((a2.AA.x0.Bz.BM.He==a2.AA.x1.Bz.BM.He)&&((a2.AA.x0.Bz.Map==a2.AA.x1.Bz.Map)&&((a2.AA.x0.Bz.Hop==a2.AA.x1.Bz.Hop)&&((a2.AA.x0.Bz.H6==a2.AA.x1.Bz.H6)&&((a2.AA.x0.Bz.LW==a2.AA.x1.Bz.LW)&&true)))))))))))) ( kl a0 ( AL (.b3 a0 a2.AA.x0 a2.AA.x1))) ( .bind 119 (Xm a2 (0:Int)) (fun(x6:List Ar)=>.bind 119 (Xm a2 (1:Int)) (fun(x7:List Ar)=>.bind 4 (iI x6 x7) (fun(x8:Bool)=>.br (!x8) ( kl a0 ( AL (.b3 a0 a2.AA.x0 a2.AA.x1))) ( kl a0 ( AL (.b4 a0 a2.AA.x0 a2.AA.x1)))))))))))
 | .b2 a0 a1 a2=>kl a0 ( AL (.b1 a0 (A7 (a1+1)) a2))
 | .b3 a0 a1 a2=>.chk true ( kl a0 ( .chk (kA (a0.length+1) 24) ( kl (a0++[(⟨2,0,0⟩:BR)]) ( AL (.b4 (a0++[(⟨2,0,0⟩:BR)]) a1 a2)))))
 | .b4 a0 a1 a2=>.bind 4 (nM a1 a2) (fun(x1:Bool)=>.br x1 ( .chk true ( kl a0 ( .chk (kA (a0.length+1) 24) ( kl (a0++[(⟨4,0,0⟩:BR)]) ( AQ (a0++[(⟨4,0,0⟩:BR)])))))) ( kl a0 ( AQ a0)))
def oJ (a0:Ak):Option (List BR):=Ad Gi (.b0 a0)
def Zhd:Az U:=⟨[60],68,fun x=>oJ x.1,by decide⟩
def YF:Lay:=LT [1,3,4] [.p 0,.o 75 3 1,.v 3] [.s 60,.r 75]
def YE:Lay:=LT [3,5,6] [.o 75 3 0,.p 1,.p 2] [.r 75,.s 55,.s 55]
def Zel:oW->BQ U
 | .b0 a0=>Bi Tryz.f10 [60] (a0,())
 | .b1 a0 a1 a2=>Ah Tryz.f10 [1,1,0,1,0,0,0,0] YF (((),((),((a1,()),()))),((a2,()),(a0,())))
 | .b2 a0 a1 a2=>Ah Tryz.f10 [1,1,0,1,0,0,1,1] YF (((),((),((a1,()),()))),((a2,()),(a0,())))
 | .b3 a0 a1 a2=>Ah Tryz.f10 [1,1,1,1,1,0,1,0] YE (((),((),((),()))),(a0,((a1,()),((a2,()),()))))
 | .b4 a0 a1 a2=>Ah Tryz.f10 [1,1,1,1,1,1,0,0] YE (((),((),((),()))),(a0,((a1,()),((a2,()),()))))
theorem Zf9:BA Tryz.prog B0 10 Zhd:=Bl (mc Zba (mc Zbg (mc Z8C (mc Zae (mc ZfQ BC))))) BB (al [(3,YF),(4,YF),(11,YE),(12,YE)]) Zel Tryz.func10 (fun p=>by cases p<;>kernel_rfl) (by kernel_rfl) fun _=>rfl
inductive pF where
 | b0 (a0 a1:List BR)
 | b1 (a0 a1:List BR) (a2:Int)
def VR:pF->Tr U (Bool⊕pF)
 | .b0 a0 a1=>.br ((↑a0.length:Int) != (↑a1.length:Int)) ( AQ false) ( AL (.b1 a0 a1 (0:Int)))
 | .b1 a0 a1 a2=>.br (decide (a2<(↑a0.length:Int))) ( .chk (kI a2 a0) ( .bind 75 (a0[(Int.toNat a2)]?) (fun(x1:BR)=>.chk (kI a2 a1) ( .bind 75 (a1[(Int.toNat a2)]?) (fun(x2:BR)=>.br (!((x1.Kind==x2.Kind)&&((x1.Device==x2.Device)&&((x1.wP==x2.wP)&&true)))) ( AQ false) ( AL (.b1 a0 a1 (A7 (a2+1))))))))) ( AQ true)
def oG (a0 a1:List BR):Option Bool:=Ad VR (.b0 a0 a1)
def Zgd:Az U:=⟨[68,68],4,fun x=>oG x.1 x.2.1,by decide⟩
def Z0G:Lay:=LT [0,1,5] [.v 68,.v 68,.v 3] []
def Zeg:pF->BQ U
 | .b0 a0 a1=>Bi Tryz.f11 [68,68] (a0,a1,())
 | .b1 a0 a1 a2=>Ah Tryz.f11 [1,1,0,1,0,0,0,0] Z0G (((a0,()),((a1,()),((a2,()),()))),())
theorem Zfl:BA Tryz.prog B0 11 Zgd:=Bl BC BB (al [(4,Z0G)]) Zeg Tryz.func11 (fun p=>by cases p<;>kernel_rfl) (by kernel_rfl) fun _=>rfl
inductive jG where
 | b0 (a0:List BR)
 | b1 (a0:List ByteArray) (a1:List BR) (a2 a3:Int) (a4:MO)
 | b2 (a0:List ByteArray) (a1:List BR) (a2 a3:Int) (a4:MO) (a5:BR)
 | b3 (a0:List ByteArray) (a1:ByteArray) (a2:List BR) (a3 a4:Int) (a5:MO)
def Jv:jG->Tr U (ByteArray⊕jG)
 | .b0 a0=>.chk true ( AL (.b1 ([]:List ByteArray) a0 (↑a0.length:Int) (0:Int) (⟨(⟨#[]⟩:ByteArray),(⟨#[111,114,100,101,114]⟩:ByteArray),(⟨#[105,110,115,116,97,110,116]⟩:ByteArray),(⟨#[115,116,97,108,101]⟩:ByteArray),(⟨#[107,101,121,115]⟩:ByteArray),(⟨#[98,111,110,100]⟩:ByteArray),(⟨#[99,97,112,116,117,114,101]⟩:ByteArray),(⟨#[116,119,105,99,101]⟩:ByteArray)⟩:MO)))
 | .b1 a0 a1 a2 a3 a4=>.br (decide (a3<a2)) ( .chk (kI a3 a1) ( .bind 75 (a1[(Int.toNat a3)]?) (fun(x1:BR)=>.br (decide (x1.Kind>0)) ( .br (decide (x1.Kind<8)) ( kl a0 ( AL (.b2 a0 a1 a2 a3 a4 x1))) ( kl a0 ( AL (.b3 a0 (⟨#[117,110,107,110,111,119,110]⟩:ByteArray) a1 a2 a3 a4)))) ( kl a0 ( AL (.b3 a0 (⟨#[117,110,107,110,111,119,110]⟩:ByteArray) a1 a2 a3 a4)))))) ( kl a0 ( .bind 9 (Nb a0 (⟨#[32]⟩:ByteArray)) (fun(x2:ByteArray)=>AQ x2)))
 | .b2 a0 a1 a2 a3 a4 a5=>.br (a5.Kind==0) ( kl a0 ( AL (.b3 a0 a4.x0 a1 a2 a3 a4))) ( .br (a5.Kind==1) ( kl a0 ( AL (.b3 a0 a4.x1 a1 a2 a3 a4))) ( .br (a5.Kind==2) ( kl a0 ( AL (.b3 a0 a4.x2 a1 a2 a3 a4))) ( .br (a5.Kind==3) ( kl a0 ( AL (.b3 a0 a4.x3 a1 a2 a3 a4))) ( .br (a5.Kind==4) ( kl a0 ( AL (.b3 a0 a4.x4 a1 a2 a3 a4))) ( .br (a5.Kind==5) ( kl a0 ( AL (.b3 a0 a4.x5 a1 a2 a3 a4))) ( .br (a5.Kind==6) ( kl a0 ( AL (.b3 a0 a4.x6 a1 a2 a3 a4))) ( .br (a5.Kind==7) ( kl a0 ( AL (.b3 a0 a4.x7 a1 a2 a3 a4))) ( .fail))))))))
 | .b3 a0 a1 a2 a3 a4 a5=>.chk true ( kl a0 ( .chk (kA (a0.length+1) 16) ( kl (a0++[a1]) ( AL (.b1 (a0++[a1]) a2 a3 (A7 (a4+1)) a5)))))
def jV (a0:List BR):Option ByteArray:=Ad Jv (.b0 a0)
def Zb7:Az U:=⟨[68],9,fun x=>jV x.1,by decide⟩
def zG:Lay:=LT [3,4,9,10,11] [.p 0,.o 9 1 1,.v 68,.v 3,.v 3] [.s 121,.r 9]
def zQ:Lay:=LT [3,4,6,9,10,11] [.p 0,.o 9 1 1,.p 2,.v 68,.v 3,.v 3] [.s 121,.r 9,.s 75]
def zH:Lay:=LT [3,4,7,9,10,11] [.p 0,.o 9 1 1,.v 9,.v 68,.v 3,.v 3] [.s 121,.r 9]
def Zap:jG->BQ U
 | .b0 a0=>Bi Tryz.f12 [68] (a0,())
 | .b1 a0 a1 a2 a3 a4=>Ah Tryz.f12 [1,1,1,0,1,0,0,0] zG (((),((),((a1,()),((a2,()),((a3,()),()))))),((a4,()),(a0,())))
 | .b2 a0 a1 a2 a3 a4 a5=>Ah Tryz.f12 [1,1,1,0,1,0,0,1,1,0,0,1,1,0,1,0] zQ (((),((),((),((a1,()),((a2,()),((a3,()),())))))),((a4,()),(a0,((a5,()),()))))
 | .b3 a0 a1 a2 a3 a4 a5=>Ah Tryz.f12 [1,1,1,0,1,0,0,1,1,0,0,1,1,1] zH (((),((),((a1,()),((a2,()),((a3,()),((a4,()),())))))),((a5,()),(a0,())))
theorem Zab:BA Tryz.prog B0 12 Zb7:=Bl (mc Z9H BC) BB (al [(4,zG),(8,zQ),(9,zH)]) Zap Tryz.func12 (fun p=>by cases p<;>kernel_rfl) (by kernel_rfl) fun _=>rfl
end
noncomputable section
inductive lU where
 | b0 (a0:List BR)
 | b1 (a0:List BR) (a1:List ByteArray) (a2:ByteArray) (a3:Int)
 | b2 (a0:List BR) (a1:List ByteArray) (a2:ByteArray) (a3:Int)
 | b3 (a0:List BR) (a1:List ByteArray) (a2:ByteArray) (a3:Int)
 | b4 (a0:List BR) (a1:List ByteArray) (a2:ByteArray) (a3:Int)
 | b5 (a0:List BR) (a1:List ByteArray) (a2:ByteArray) (a3:Int)
def IM:lU->Tr U (ByteArray⊕lU)
 | .b0 a0=>.chk true ( AL (.b1 a0 ([(⟨#[117,110,107,110,111,119,110]⟩:ByteArray),(⟨#[111,114,100,101,114]⟩:ByteArray),(⟨#[105,110,115,116,97,110,116]⟩:ByteArray),(⟨#[115,116,97,108,101]⟩:ByteArray),(⟨#[107,101,121,115]⟩:ByteArray),(⟨#[98,111,110,100]⟩:ByteArray),(⟨#[99,97,112,116,117,114,101]⟩:ByteArray),(⟨#[116,119,105,99,101]⟩:ByteArray)]) (⟨#[]⟩:ByteArray) (0:Int)))
 | .b1 a0 a1 a2 a3=>.br (decide (a3<(↑a0.length:Int))) ( .br (decide (a3>0)) ( .chk (decide (a2.size+(⟨#[32]⟩:ByteArray).size<=maxLen)) ( kl a1 ( AL (.b2 a0 a1 (a2++(⟨#[32]⟩:ByteArray)) a3)))) ( kl a1 ( AL (.b2 a0 a1 a2 a3)))) ( AQ a2)
 | .b2 a0 a1 a2 a3=>.chk (kI a3 a0) ( .bind 75 (a0[(Int.toNat a3)]?) (fun(x1:BR)=>.br (decide (x1.Kind>=1)) ( .chk (kI a3 a0) ( .bind 75 (a0[(Int.toNat a3)]?) (fun(x2:BR)=>.br (decide (x2.Kind<=7)) ( kl a1 ( AL (.b3 a0 a1 a2 a3))) ( kl a1 ( AL (.b4 a0 a1 a2 a3)))))) ( kl a1 ( AL (.b4 a0 a1 a2 a3)))))
 | .b3 a0 a1 a2 a3=>.chk (kI a3 a0) ( .bind 75 (a0[(Int.toNat a3)]?) (fun(x1:BR)=>kl a1 ( .chk (kI x1.Kind a1) ( kl a1 ( .bind 9 (a1[(Int.toNat x1.Kind)]?) (fun(x2:ByteArray)=>.chk (decide (a2.size+x2.size<=maxLen)) ( kl a1 ( AL (.b5 a0 a1 (a2++x2) a3)))))))))
 | .b4 a0 a1 a2 a3=>kl a1 ( .chk (kI (0:Int) a1) ( kl a1 ( .bind 9 (a1[(Int.toNat 0)]?) (fun(x1:ByteArray)=>.chk (decide (a2.size+x1.size<=maxLen)) ( kl a1 ( AL (.b5 a0 a1 (a2++x1) a3)))))))
 | .b5 a0 a1 a2 a3=>kl a1 ( AL (.b1 a0 a1 a2 (A7 (a3+1))))
def mW (a0:List BR):Option ByteArray:=Ad IM (.b0 a0)
def ZfZ:Az U:=⟨[68],9,fun x=>mW x.1,by decide⟩
def Ls:Lay:=LT [0,3,4,5] [.v 68,.o 9 1 0,.v 9,.v 3] [.r 9]
def Zd5:lU->BQ U
 | .b0 a0=>Bi Tryz.f13 [68] (a0,())
 | .b1 a0 a1 a2 a3=>Ah Tryz.f13 [1,1,1,0,1,0,0,0,0] Ls (((a0,()),((),((a2,()),((a3,()),())))),(a1,()))
 | .b2 a0 a1 a2 a3=>Ah Tryz.f13 [1,1,1,0,1,0,0,1,0,0,1,0] Ls (((a0,()),((),((a2,()),((a3,()),())))),(a1,()))
 | .b3 a0 a1 a2 a3=>Ah Tryz.f13 [1,1,1,0,1,0,0,1,0,0,1,1,0] Ls (((a0,()),((),((a2,()),((a3,()),())))),(a1,()))
 | .b4 a0 a1 a2 a3=>Ah Tryz.f13 [1,1,1,0,1,0,0,1,0,0,1,1,1] Ls (((a0,()),((),((a2,()),((a3,()),())))),(a1,()))
 | .b5 a0 a1 a2 a3=>Ah Tryz.f13 [1,1,1,0,1,0,0,1,1] Ls (((a0,()),((),((a2,()),((a3,()),())))),(a1,()))
theorem ZcA:BA Tryz.prog B0 13 ZfZ:=Bl BC BB (al [(4,Ls),(8,Ls),(9,Ls),(10,Ls),(5,Ls)]) Zd5 Tryz.func13 (fun p=>by cases p<;>kernel_rfl) (by kernel_rfl) fun _=>rfl
def Z2W:S1 (DV×Unit) Int
 | (a0,_)=>.br (decide (a0.H6 < -500)) ( AQ (5:Int)) ( .br (decide (a0.H6>500)) ( AQ (5:Int)) ( .br (decide (a0.Start<0)) ( AQ (5:Int)) ( .br (decide (a0.Start>1099511627776)) ( AQ (5:Int)) ( AQ (0:Int)))))
def Y2 (a0:DV):Option Int:=Ad Z2W (a0,())
def Zew:Az U:=⟨[30],61,fun x=>Y2 x.1,by decide⟩
theorem Zd2:BA Tryz.prog B0 16 Zew:=ok1 BC BB Tryz.func16 (fun _=>by kernel_rfl) (by kernel_rfl)
def Z4d:S1 (Int×Unit) Int
 | (a0,_)=>.br (decide (a0<0)) ( AQ (A7 (0 - a0))) ( AQ a0)
def VX (a0:Int):Option Int:=Ad Z4d (a0,())
def Zgo:Az U:=⟨[3],3,fun x=>VX x.1,by decide⟩
theorem Zf2:BA Tryz.prog B0 17 Zgo:=ok1 BC BB Tryz.func17 (fun _=>by kernel_rfl) (by kernel_rfl)
def Z17:S1 (Int×Int×Int×Unit) Bool
 | (a0,a1,a2,_)=>.br (decide (a0>=a1)) ( AQ (decide (a0<=a2))) ( AQ false)
def Nc (a0 a1 a2:Int):Option Bool:=Ad Z17 (a0,a1,a2,())
def Zch:Az U:=⟨[3,3,3],4,fun x=>Nc x.1 x.2.1 x.2.2.1,by decide⟩
theorem Z01:BA Tryz.prog B0 75 Zch:=ok1 BC BB Tryz.func75 (fun _=>by kernel_rfl) (by kernel_rfl)
inductive UD where
 | b0 (a0:ER)
 | b1 (a0:ER)
def yL:UD->Tr U (Int⊕UD)
 | .b0 a0=>.bind 4 (Nc a0.Gy (1:Int) (8:Int)) (fun(x1:Bool)=>.br (!x1) ( AQ (5:Int)) ( .bind 4 (Nc a0.Gl (0:Int) (3200:Int)) (fun(x2:Bool)=>.br (!x2) ( AQ (5:Int)) ( .bind 4 (Nc a0.GK (6:Int) (3200:Int)) (fun(x3:Bool)=>.br (!x3) ( AQ (5:Int)) ( .bind 4 (Nc a0.Fb (0:Int) (499:Int)) (fun(x4:Bool)=>.br (!x4) ( AQ (5:Int)) ( .bind 4 (Nc a0.He (10:Int) (3200:Int)) (fun(x5:Bool)=>.br (!x5) ( AQ (5:Int)) ( AL (.b1 a0)))))))))))
 | .b1 a0=>.br (decide (a0.Gy>=a0.GK)) ( AQ (11:Int)) ( .br (decide (a0.Gl>a0.GK)) ( AQ (11:Int)) ( .br (decide ((A7 (a0.He*10000))<=(A7 ((A7 ((A7 ((2:Int)*(A7 (a0.Fb+1))))*a0.GK))*1250)))) ( AQ (11:Int)) ( AQ (0:Int))))
def XV (a0:ER):Option Int:=Ad yL (.b0 a0)
def Z8K:Az U:=⟨[24],61,fun x=>XV x.1,by decide⟩
def xW:Lay:=LT [1] [.p 0] [.s 24]
def Z8q:UD->BQ U
 | .b0 a0=>Bi Tryz.f73 [24] (a0,())
 | .b1 a0=>Ah Tryz.f73 [1,1,0,0] xW (((),()),((a0,()),()))
theorem yD:BA Tryz.prog B0 73 Z8K:=Bl (mc Z01 BC) BB (al [(3,xW)]) Z8q Tryz.func73 (fun p=>by cases p<;>kernel_rfl) (by kernel_rfl) fun _=>rfl
inductive Ux where
 | b0 (a0:Int)
 | b1 (a0 a1 a2:Int)
def lK:Ux->Tr U (Int⊕Ux)
 | .b0 a0=>AL (.b1 a0 (1:Int) (0:Int))
 | .b1 a0 a1 a2=>.br (decide (a2<a0)) ( AL (.b1 a0 (IntKind.wrap .u64 (a1*2)) (A7 (a2+1)))) ( AQ a1)
def Ut (a0:Int):Option Int:=Ad lK (.b0 a0)
def ZeK:Az U:=⟨[3],25,fun x=>Ut x.1,by decide⟩
def Zw:Lay:=LT [0,3,4] [.v 3,.v 25,.v 3] []
def Zd1:Ux->BQ U
 | .b0 a0=>Bi Tryz.f112 [3] (a0,())
 | .b1 a0 a1 a2=>Ah Tryz.f112 [1,1,0,1,0,0,0,0] Zw (((a0,()),((a1,()),((a2,()),()))),())
theorem kP:BA Tryz.prog B0 112 ZeK:=Bl BC BB (al [(3,Zw)]) Zd1 Tryz.func112 (fun p=>by cases p<;>kernel_rfl) (by kernel_rfl) fun _=>rfl
def Z5f:S1 (Int×Int×Unit) Bool
 | (a0,a1,_)=>.br (decide (a1>=0)) ( .br (decide (a1<=36)) ( .bind 25 (Ut a1) (fun(x1:Int)=>.chk (x1 != 0) ( AQ ((Int.tmod (IntKind.wrap .u64 (Int.tdiv a0 x1)) 2)==1)))) ( AQ false)) ( AQ false)
def Ve (a0 a1:Int):Option Bool:=Ad Z5f (a0,a1,())
def Zjh:Az U:=⟨[26,3],4,fun x=>Ve x.1 x.2.1,by decide⟩
theorem nY:BA Tryz.prog B0 213 Zjh:=ok1 (mc kP BC) BB Tryz.func213 (fun _=>by kernel_rfl) (by kernel_rfl)
inductive VN where
 | b0 (a0:Int)
 | b1 (a0:Int) (a1:List Int) (a2:Int)
 | b2 (a0:Int) (a1:List Int) (a2:Int)
def Z4b:VN->Tr U ((List Int)⊕VN)
 | .b0 a0=>.chk true ( AL (.b1 a0 ([]:List Int) (0:Int)))
 | .b1 a0 a1 a2=>.br (decide (a2<=36)) ( .bind 4 (Ve a0 a2) (fun(x1:Bool)=>.br x1 ( .chk true ( kl a1 ( .chk (kA (a1.length+1) 8) ( kl (a1++[a2]) ( AL (.b2 a0 (a1++[a2]) a2)))))) ( kl a1 ( AL (.b2 a0 a1 a2))))) ( kl a1 ( AQ a1))
 | .b2 a0 a1 a2=>kl a1 ( AL (.b1 a0 a1 (A7 (a2+1))))
def VF (a0:Int):Option (List Int):=Ad Z4b (.b0 a0)
def ZhA:Az U:=⟨[26],93,fun x=>VF x.1,by decide⟩
def YD:Lay:=LT [0,3,4] [.v 26,.o 3 1 0,.v 3] [.r 3]
def Zev:VN->BQ U
 | .b0 a0=>Bi Tryz.f159 [26] (a0,())
 | .b1 a0 a1 a2=>Ah Tryz.f159 [1,1,0,1,0,0,0,0] YD (((a0,()),((),((a2,()),()))),(a1,()))
 | .b2 a0 a1 a2=>Ah Tryz.f159 [1,1,0,1,0,0,1,1] YD (((a0,()),((),((a2,()),()))),(a1,()))
theorem lQ:BA Tryz.prog B0 159 ZhA:=Bl (mc nY BC) BB (al [(3,YD),(4,YD)]) Zev Tryz.func159 (fun p=>by cases p<;>kernel_rfl) (by kernel_rfl) fun _=>rfl
def Z2w:S1 (Int×Unit) Int
 | (a0,_)=>.bind 93 (VF a0) (fun(x1:List Int)=>AQ (↑x1.length:Int))
def Ur (a0:Int):Option Int:=Ad Z2w (a0,())
def ZfK:Az U:=⟨[26],3,fun x=>Ur x.1,by decide⟩
theorem kK:BA Tryz.prog B0 113 ZfK:=ok1 (mc lQ BC) BB Tryz.func113 (fun _=>by kernel_rfl) (by kernel_rfl)
def Z2h:S1 (Int×Unit) Int
 | (a0,_)=>.bind 25 (Ut (37:Int)) (fun(x1:Int)=>.br (decide (a0>=x1)) ( AQ (5:Int)) ( .bind 3 (Ur a0) (fun(x2:Int)=>.br (decide (x2<2)) ( AQ (1:Int)) ( AQ (0:Int)))))
def YI (a0:Int):Option Int:=Ad Z2h (a0,())
def ZeF:Az U:=⟨[26],61,fun x=>YI x.1,by decide⟩
theorem Z13:BA Tryz.prog B0 74 ZeF:=ok1 (mc kP (mc kK BC)) BB Tryz.func74 (fun _=>by kernel_rfl) (by kernel_rfl)
inductive Ub where
 | b0 (a0:Eh)
 | b1 (a0:Eh)
 | b2 (a0:Eh)
def Z1C:Ub->Tr U (Int⊕Ub)
 | .b0 a0=>.br (a0.JD==0) ( AQ (1:Int)) ( .br (a0.JD==2391391958) ( AQ (1:Int)) ( AL (.b1 a0)))
 | .b1 a0=>.br (decide (a0.Kr>=16777216)) ( AQ (5:Int)) ( .bind 61 (XV a0.BM) (fun(x1:Int)=>.br (x1 != 0) ( AQ x1) ( .bind 61 (YI a0.Map) (fun(x2:Int)=>.br (x2 != 0) ( AQ x2) ( .bind 4 (Nc a0.Hop (5:Int) (16:Int)) (fun(x3:Bool)=>.br (!x3) ( AQ (5:Int)) ( .bind 4 (Nc a0.H6 (0:Int) (500:Int)) (fun(x4:Bool)=>.br (!x4) ( AQ (5:Int)) ( AL (.b2 a0))))))))))
 | .b2 a0=>.br (a0.LW != 1) ( .br (a0.LW != 2) ( AQ (12:Int)) ( AQ (0:Int))) ( AQ (0:Int))
def nC (a0:Eh):Option Int:=Ad Z1C (.b0 a0)
def ZeX:Az U:=⟨[28],61,fun x=>nC x.1,by decide⟩
def Xp:Lay:=LT [1] [.p 0] [.s 28]
def Zc9:Ub->BQ U
 | .b0 a0=>Bi Tryz.f44 [28] (a0,())
 | .b1 a0=>Ah Tryz.f44 [1,1,0,0] Xp (((),()),((a0,()),()))
 | .b2 a0=>Ah Tryz.f44 [1,1,1,1,1,1,0,0] Xp (((),()),((a0,()),()))
theorem ZcB:BA Tryz.prog B0 44 ZeX:=Bl (mc yD (mc Z13 (mc Z01 BC))) BB (al [(3,Xp),(13,Xp)]) Zc9 Tryz.func44 (fun p=>by cases p<;>kernel_rfl) (by kernel_rfl) fun _=>rfl
def Z0b:S1 (Int×Int×Int×Unit) Int
 | (a0,a1,a2,_)=>AQ (if (if a2<a0 then a2 else a0)>a1 then (if a2<a0 then a2 else a0) else a1)
def RI (a0 a1 a2:Int):Option Int:=Ad Z0b (a0,a1,a2,())
def Zbj:Az U:=⟨[3,3,3],3,fun x=>RI x.1 x.2.1 x.2.2.1,by decide⟩
theorem X9:BA Tryz.prog B0 114 Zbj:=ok1 BC BB Tryz.func114 (fun _=>by kernel_rfl) (by kernel_rfl)
def Z2X:S1 (Int×Unit) Int
 | (a0,_)=>.bind 3 (RI a0 (0:Int) (4398046511104:Int)) (fun(x1:Int)=>AQ x1)
def mP (a0:Int):Option Int:=Ad Z2X (a0,())
def ZdQ:Az U:=⟨[3],3,fun x=>mP x.1,by decide⟩
theorem Zdy:BA Tryz.prog B0 76 ZdQ:=ok1 (mc X9 BC) BB Tryz.func76 (fun _=>by kernel_rfl) (by kernel_rfl)
def Z1h:S1 (ER×Unit) Int
 | (a0,_)=>.bind 3 (RI a0.Gl (0:Int) (3200:Int)) (fun(x1:Int)=>AQ (A7 (x1*1250)))
def kQ (a0:ER):Option Int:=Ad Z1h (a0,())
def Zc7:Az U:=⟨[24],3,fun x=>kQ x.1,by decide⟩
theorem ZaY:BA Tryz.prog B0 77 Zc7:=ok1 (mc X9 BC) BB Tryz.func77 (fun _=>by kernel_rfl) (by kernel_rfl)
def Z4a:S1 (ER×Unit) Int
 | (a0,_)=>.bind 3 (RI a0.Gy (1:Int) (8:Int)) (fun(x1:Int)=>AQ (A7 (x1*1250)))
def oK (a0:ER):Option Int:=Ad Z4a (a0,())
def Zh6:Az U:=⟨[24],3,fun x=>oK x.1,by decide⟩
theorem ZdH:BA Tryz.prog B0 78 Zh6:=ok1 (mc X9 BC) BB Tryz.func78 (fun _=>by kernel_rfl) (by kernel_rfl)
def Z24:S1 (Int×ER×Unit) I4
 | (a0,a1,_)=>.bind 3 (mP a0) (fun(x1:Int)=>.bind 3 (kQ a1) (fun(x2:Int)=>.bind 3 (oK a1) (fun(x3:Int)=>AQ (⟨(A7 ((A7 (x1+1250))+x2)),(A7 ((A7 ((A7 (x1+1250))+x2))+x3))⟩:I4))))
def nH (a0:Int) (a1:ER):Option I4:=Ad Z24 (a0,a1,())
def Zf7:Az U:=⟨[3,24],214,fun x=>nH x.1 x.2.1,by decide⟩
theorem ZbE:BA Tryz.prog B0 45 Zf7:=ok1 (mc Zdy (mc ZaY (mc ZdH BC))) BB Tryz.func45 (fun _=>by kernel_rfl) (by kernel_rfl)
def Z4Y:S1 (Unit) CZ
 | _=>AQ MG
def qM  : Option CZ:=Ad Z4Y ()
def Zj8:Az U:=⟨[],44,fun x=>qM,by decide⟩
theorem Zii:BA Tryz.prog B0 46 Zj8:=ok1 BC BB Tryz.func46 (fun _=>by kernel_rfl) (by kernel_rfl)
def Z4t:S1 (Int×Unit) Dq
 | (a0,_)=>AQ (⟨(if (if (499:Int)<a0 then (499:Int) else a0)>0 then (if (499:Int)<a0 then (499:Int) else a0) else (0:Int)),0,true⟩:Dq)
def aJ (a0:Int):Option Dq:=Ad Z4t (a0,())
def Zja:Az U:=⟨[3],46,fun x=>aJ x.1,by decide⟩
theorem Z3t:BA Tryz.prog B0 47 Zja:=ok1 BC BB Tryz.func47 (fun _=>by kernel_rfl) (by kernel_rfl)
def Z4y:S1 (Int×Int×Int×Unit) Ae
 | (a0,a1,a2,_)=>.br (a0==1) ( AQ (⟨1,-1,0,[],-1,0,[],false,a1,0,false,false,-1,27,(if (251:Int)<(if (27:Int)>a2 then (27:Int) else a2) then (251:Int) else (if (27:Int)>a2 then (27:Int) else a2)),0,0,0,0,0⟩:Ae)) ( AQ (⟨0,-1,0,[],-1,0,[],false,a1,0,false,false,-1,27,(if (251:Int)<(if (27:Int)>a2 then (27:Int) else a2) then (251:Int) else (if (27:Int)>a2 then (27:Int) else a2)),0,0,0,0,0⟩:Ae))
def qF (a0 a1 a2:Int):Option Ae:=Ad Z4y (a0,a1,a2,())
def Zj3:Az U:=⟨[3,25,3],50,fun x=>qF x.1 x.2.1 x.2.2.1,by decide⟩
theorem ZhK:BA Tryz.prog B0 48 Zj3:=ok1 BC BB Tryz.func48 (fun _=>by kernel_rfl) (by kernel_rfl)
def Z21:S1 (Unit) (List Ba)
 | _=>.chk (decide (0<=(37:Int)/\(37:Int)<=37/\Int.toNat 37*16<=lim/\(37:Int)<=(↑maxLen:Int))) ( kl (List.replicate (Int.toNat 37) (⟨0,0⟩:Ba)) ( AQ (List.replicate (Int.toNat 37) (⟨0,0⟩:Ba))))
def mG  : Option (List Ba):=Ad Z21 ()
def Zec:Az U:=⟨[],53,fun x=>mG,by decide⟩
theorem Zcl:BA Tryz.prog B0 49 Zec:=ok1 BC BB Tryz.func49 (fun _=>by kernel_rfl) (by kernel_rfl)
inductive V3 where
 | b0 (a0:Int) (a1:Eh) (a2 a3 a4 a5:Int)
 | b1 (a0:Af)
 | b2 (a0 a1 a2 a3 a4:Int) (a5:Eh) (a6:Af)
 | b3 (a0:Af)
 | b4 (a0 a1 a2 a3 a4:Int) (a5:Eh) (a6:Af)
def Z5E:V3->Tr U ((Af×Int)⊕V3)
 | .b0 a0 a1 a2 a3 a4 a5=>.br (a0 != 0) ( .br (a0 != 1) ( AL (.b1 CU)) ( AL (.b2 a0 a2 a3 a4 a5 a1 CU))) ( AL (.b2 a0 a2 a3 a4 a5 a1 CU))
 | .b1 a0=>AQ (CU,1)
 | .b2 a0 a1 a2 a3 a4 a5 a6=>.bind 61 (nC a5) (fun(x1:Int)=>.br (x1 != 0) ( AQ (CU,x1)) ( .br (decide (a1<0)) ( AL (.b3 a6)) ( .br (decide (a1>500)) ( AL (.b3 a6)) ( .br (decide (a4<0)) ( AL (.b3 a6)) ( .br (decide (a4>1099511627776)) ( AL (.b3 a6)) ( AL (.b4 a0 a1 a2 a3 a4 a5 a6)))))))
 | .b3 a0=>AQ (CU,5)
 | .b4 a0 a1 a2 a3 a4 a5 a6=>.bind 214 (nH a4 a5.BM) (fun(x1:I4)=>.bind 44 (qM) (fun(x2:CZ)=>.bind 46 (aJ a5.BM.Fb) (fun(x3:Dq)=>.bind 50 (qF a0 (63:Int) (251:Int)) (fun(x4:Ae)=>.bind 53 (mG) (fun(x5:List Ba)=>.br (a0==1) ( AQ ((⟨a0,a5,a1,0,0,x1.Start,(A7 (x1.End - x1.Start)),a4,a4,false,false,false,false,false,x2,x3,x4,QD,a2,x5,[],0,a3⟩:Af),(0:Int))) ( AQ ((⟨a0,a5,a1,0,0,x1.Start,0,a4,a4,false,false,false,false,false,x2,x3,x4,QD,a2,x5,[],0,a3⟩:Af),(0:Int))))))))
def MH (a0:Int) (a1:Eh) (a2 a3 a4 a5:Int):Option (Af×Int):=Ad Z5E (.b0 a0 a1 a2 a3 a4 a5)
def ZjY:Az U:=⟨[3,28,3,32,25,3],100,fun x=>MH x.1 x.2.1 x.2.2.1 x.2.2.2.1 x.2.2.2.2.1 x.2.2.2.2.2.1,by decide⟩
def YS:Lay:=LT [12] [.p 0] [.s 55]
def YU:Lay:=LT [0,2,3,4,5,7,12] [.v 3,.v 3,.v 32,.v 25,.v 3,.p 0,.p 1] [.s 28,.s 55]
def Zhv:V3->BQ U
 | .b0 a0 a1 a2 a3 a4 a5=>Bi Tryz.f18 [3,28,3,32,25,3] (a0,a1,a2,a3,a4,a5,())
 | .b1 a0=>Ah Tryz.f18 [1,0,1,0,0] YS (((),()),((a0,()),()))
 | .b2 a0 a1 a2 a3 a4 a5 a6=>Ah Tryz.f18 [1,1,0] YU (((a0,()),((a1,()),((a2,()),((a3,()),((a4,()),((),((),()))))))),((a5,()),((a6,()),())))
 | .b3 a0=>Ah Tryz.f18 [1,1,1,1,0,1,0,0] YS (((),()),((a0,()),()))
 | .b4 a0 a1 a2 a3 a4 a5 a6=>Ah Tryz.f18 [1,1,1,1,1,0] YU (((a0,()),((a1,()),((a2,()),((a3,()),((a4,()),((),((),()))))))),((a5,()),((a6,()),())))
theorem Zh2:BA Tryz.prog B0 18 ZjY:=Bl (mc ZcB (mc ZbE (mc Zii (mc Z3t (mc ZhK (mc Zcl BC)))))) BB (al [(2,YS),(3,YU),(7,YS),(8,YU)]) Zhv Tryz.func18 (fun p=>by cases p<;>kernel_rfl) (by kernel_rfl) fun _=>rfl
def Zv:S1 (Int×Int×Int×Unit) Int
 | (a0,a1,a2,_)=>.br (decide (a0<a1)) ( AQ a1) ( .br (decide (a0>a2)) ( AQ a2) ( AQ a0))
def QC (a0 a1 a2:Int):Option Int:=Ad Zv (a0,a1,a2,())
def Zat:Az U:=⟨[3,3,3],3,fun x=>QC x.1 x.2.1 x.2.2.1,by decide⟩
theorem Zg:BA Tryz.prog B0 50 Zat:=ok1 BC BB Tryz.func50 (fun _=>by kernel_rfl) (by kernel_rfl)
inductive Uo where
 | b0 (a0:DV) (a1:Int)
 | b1 (a0 a1 a2:Int)
def Z1D:Uo->Tr U (Int⊕Uo)
 | .b0 a0 a1=>.bind 3 (QC a0.H6 (-500:Int) (500:Int)) (fun(x1:Int)=>.bind 3 (QC a0.Start (0:Int) (1099511627776:Int)) (fun(x2:Int)=>.bind 3 (QC a1 (0:Int) (1099511627776:Int)) (fun(x3:Int)=>.br (decide ((Int.tmod (A7 (x3*x1)) 1000000)<0)) ( AL (.b1 x3 x2 (A7 ((A7 (Int.tdiv (A7 (x3*x1)) 1000000)) - 1)))) ( AL (.b1 x3 x2 (A7 (Int.tdiv (A7 (x3*x1)) 1000000)))))))
 | .b1 a0 a1 a2=>AQ (A7 ((A7 (a1+a0))+a2))
def Jg (a0:DV) (a1:Int):Option Int:=Ad Z1D (.b0 a0 a1)
def ZeV:Az U:=⟨[30,3],3,fun x=>Jg x.1 x.2.1,by decide⟩
def Z0f:Lay:=LT [1,6,8] [.v 3,.v 3,.v 3] []
def Zcd:Uo->BQ U
 | .b0 a0 a1=>Bi Tryz.f19 [30,3] (a0,a1,())
 | .b1 a0 a1 a2=>Ah Tryz.f19 [1,1,1,1,1,1,0] Z0f (((a0,()),((a1,()),((a2,()),()))),())
theorem kY:BA Tryz.prog B0 19 ZeV:=Bl (mc Zg BC) BB (al [(7,Z0f)]) Zcd Tryz.func19 (fun p=>by cases p<;>kernel_rfl) (by kernel_rfl) fun _=>rfl
inductive qE where
 | b0 (a0:Eh) (a1:Dz) (a2:KJ) (a3:Int)
 | b1 (a0 a1:Int) (a2:Eh) (a3:Dz) (a4:KJ) (a5:Ak)
 | b2 (a0 a1:Int) (a2:Eh) (a3:Dz) (a4:KJ) (a5 a6:Ak)
def Vj:qE->Tr U (IU⊕qE)
 | .b0 a0 a1 a2 a3=>.chk (true&&(true&&(true&&(true&&(true&&(true&&(true&&(true&&(true&&(true&&(true&&(true&&(true&&(true&&true)))))))))))))) ( AL (.b1 a3 (0:Int) a0 a1 a2 (⟨(⟨CU,CU⟩:BU),(⟨(⟨0,0⟩:DV),(⟨0,0⟩:DV)⟩:Dz),0,([]:List DC),(⟨([]:List Ai),([]:List Ai)⟩:CX),(⟨([]:List Ai),([]:List Ai)⟩:CX)⟩:Ak)))
 | .b1 a0 a1 a2 a3 a4 a5=>.br (decide (a1<2)) ( .br (a1==0) ( .bind 61 (Y2 a3.x0) (fun(x2:Int)=>.br (x2 != 0) ( .chk (true&&(true&&(true&&(true&&true)))) ( AQ (⟨(⟨(⟨CU,CU⟩:BU),(⟨(⟨0,0⟩:DV),(⟨0,0⟩:DV)⟩:Dz),0,([]:List DC),(⟨([]:List Ai),([]:List Ai)⟩:CX),(⟨([]:List Ai),([]:List Ai)⟩:CX)⟩:Ak),x2⟩:IU))) ( .chk (kL a5.AA.x0.Ag.Am&&(kL a5.AA.x0.AP.Aa&&(kL a5.AA.x0.AP.Ap&&(kL a5.AA.x0.Aq&&(kL a5.AA.x0.A8&&(kL a5.AA.x1.Ag.Am&&(kL a5.AA.x1.AP.Aa&&(kL a5.AA.x1.AP.Ap&&(kL a5.AA.x1.Aq&&(kL a5.AA.x1.A8&&(kL a5.Notes&&(kL a5.Sent.x0&&(kL a5.Sent.x1&&(kL a5.AB.x0&&kL a5.AB.x1)))))))))))))) ( AL (.b1 a0 (A7 (a1+1)) a2 a3 a4 a5))))) ( .br (a1==1) ( .bind 61 (Y2 a3.x1) (fun(x1:Int)=>.br (x1 != 0) ( .chk (true&&(true&&(true&&(true&&true)))) ( AQ (⟨(⟨(⟨CU,CU⟩:BU),(⟨(⟨0,0⟩:DV),(⟨0,0⟩:DV)⟩:Dz),0,([]:List DC),(⟨([]:List Ai),([]:List Ai)⟩:CX),(⟨([]:List Ai),([]:List Ai)⟩:CX)⟩:Ak),x1⟩:IU))) ( .chk (kL a5.AA.x0.Ag.Am&&(kL a5.AA.x0.AP.Aa&&(kL a5.AA.x0.AP.Ap&&(kL a5.AA.x0.Aq&&(kL a5.AA.x0.A8&&(kL a5.AA.x1.Ag.Am&&(kL a5.AA.x1.AP.Aa&&(kL a5.AA.x1.AP.Ap&&(kL a5.AA.x1.Aq&&(kL a5.AA.x1.A8&&(kL a5.Notes&&(kL a5.Sent.x0&&(kL a5.Sent.x1&&(kL a5.AB.x0&&kL a5.AB.x1)))))))))))))) ( AL (.b1 a0 (A7 (a1+1)) a2 a3 a4 a5))))) ( .fail))) ( .bind 3 (VX a3.x0.H6) (fun(x3:Int)=>.br (decide (x3>a2.H6)) ( .chk (true&&(true&&(true&&(true&&true)))) ( AQ (⟨(⟨(⟨CU,CU⟩:BU),(⟨(⟨0,0⟩:DV),(⟨0,0⟩:DV)⟩:Dz),0,([]:List DC),(⟨([]:List Ai),([]:List Ai)⟩:CX),(⟨([]:List Ai),([]:List Ai)⟩:CX)⟩:Ak),5⟩:IU))) ( .chk (kL a5.AA.x0.Ag.Am&&(kL a5.AA.x0.AP.Aa&&(kL a5.AA.x0.AP.Ap&&(kL a5.AA.x0.Aq&&(kL a5.AA.x0.A8&&(kL a5.AA.x1.Ag.Am&&(kL a5.AA.x1.AP.Aa&&(kL a5.AA.x1.AP.Ap&&(kL a5.AA.x1.Aq&&(kL a5.AA.x1.A8&&(kL a5.Notes&&(kL a5.Sent.x0&&(kL a5.Sent.x1&&(kL a5.AB.x0&&(kL a5.AB.x1&&(true&&(true&&(true&&(true&&true))))))))))))))))))) ( AL (.b2 a0 (0:Int) a2 a3 a4 a5 (⟨(⟨CU,CU⟩:BU),a3,0,([]:List DC),(⟨([]:List Ai),([]:List Ai)⟩:CX),(⟨([]:List Ai),([]:List Ai)⟩:CX)⟩:Ak))))))
 | .b2 a0 a1 a2 a3 a4 a5 a6=>.br (decide (a1<2)) ( .br (a1==0) ( .bind 3 (VX a3.x0.H6) (fun(x10:Int)=>.br (a1==0) ( .br (a1==0) ( .bind 3 (Jg a3.x0 (0:Int)) (fun(x17:Int)=>.bind 100 (MH a1 a2 x10 a4.x0 (IntKind.wrap .u64 (a0+(IntKind.wrap .u64 (a1)))) x17) (fun(x18:Af×Int)=>.br (x18.2 != 0) ( .chk (true&&(true&&(true&&(true&&true)))) ( AQ (⟨(⟨(⟨CU,CU⟩:BU),(⟨(⟨0,0⟩:DV),(⟨0,0⟩:DV)⟩:Dz),0,([]:List DC),(⟨([]:List Ai),([]:List Ai)⟩:CX),(⟨([]:List Ai),([]:List Ai)⟩:CX)⟩:Ak),x18.2⟩:IU))) ( .br (a1==0) ( .chk (kL a5.AA.x0.Ag.Am&&(kL a5.AA.x0.AP.Aa&&(kL a5.AA.x0.AP.Ap&&(kL a5.AA.x0.Aq&&(kL a5.AA.x0.A8&&(kL a5.AA.x1.Ag.Am&&(kL a5.AA.x1.AP.Aa&&(kL a5.AA.x1.AP.Ap&&(kL a5.AA.x1.Aq&&(kL a5.AA.x1.A8&&(kL a5.Notes&&(kL a5.Sent.x0&&(kL a5.Sent.x1&&(kL a5.AB.x0&&(kL a5.AB.x1&&(kL a6.Notes&&(kL a6.Sent.x0&&(kL a6.Sent.x1&&(kL a6.AB.x0&&kL a6.AB.x1))))))))))))))))))) ( AL (.b2 a0 (A7 (a1+1)) a2 a3 a4 a5 ({ a6 with AA:=(⟨x18.1,a6.AA.x1⟩:BU) }:Ak)))) ( .br (a1==1) ( .chk (kL a5.AA.x0.Ag.Am&&(kL a5.AA.x0.AP.Aa&&(kL a5.AA.x0.AP.Ap&&(kL a5.AA.x0.Aq&&(kL a5.AA.x0.A8&&(kL a5.AA.x1.Ag.Am&&(kL a5.AA.x1.AP.Aa&&(kL a5.AA.x1.AP.Ap&&(kL a5.AA.x1.Aq&&(kL a5.AA.x1.A8&&(kL a5.Notes&&(kL a5.Sent.x0&&(kL a5.Sent.x1&&(kL a5.AB.x0&&(kL a5.AB.x1&&(kL a6.Notes&&(kL a6.Sent.x0&&(kL a6.Sent.x1&&(kL a6.AB.x0&&kL a6.AB.x1))))))))))))))))))) ( AL (.b2 a0 (A7 (a1+1)) a2 a3 a4 a5 ({ a6 with AA:=(⟨a6.AA.x0,x18.1⟩:BU) }:Ak)))) ( .fail)))))) ( .br (a1==1) ( .bind 3 (Jg a3.x1 (0:Int)) (fun(x15:Int)=>.bind 100 (MH a1 a2 x10 a4.x0 (IntKind.wrap .u64 (a0+(IntKind.wrap .u64 (a1)))) x15) (fun(x16:Af×Int)=>.br (x16.2 != 0) ( .chk (true&&(true&&(true&&(true&&true)))) ( AQ (⟨(⟨(⟨CU,CU⟩:BU),(⟨(⟨0,0⟩:DV),(⟨0,0⟩:DV)⟩:Dz),0,([]:List DC),(⟨([]:List Ai),([]:List Ai)⟩:CX),(⟨([]:List Ai),([]:List Ai)⟩:CX)⟩:Ak),x16.2⟩:IU))) ( .br (a1==0) ( .chk (kL a5.AA.x0.Ag.Am&&(kL a5.AA.x0.AP.Aa&&(kL a5.AA.x0.AP.Ap&&(kL a5.AA.x0.Aq&&(kL a5.AA.x0.A8&&(kL a5.AA.x1.Ag.Am&&(kL a5.AA.x1.AP.Aa&&(kL a5.AA.x1.AP.Ap&&(kL a5.AA.x1.Aq&&(kL a5.AA.x1.A8&&(kL a5.Notes&&(kL a5.Sent.x0&&(kL a5.Sent.x1&&(kL a5.AB.x0&&(kL a5.AB.x1&&(kL a6.Notes&&(kL a6.Sent.x0&&(kL a6.Sent.x1&&(kL a6.AB.x0&&kL a6.AB.x1))))))))))))))))))) ( AL (.b2 a0 (A7 (a1+1)) a2 a3 a4 a5 ({ a6 with AA:=(⟨x16.1,a6.AA.x1⟩:BU) }:Ak)))) ( .br (a1==1) ( .chk (kL a5.AA.x0.Ag.Am&&(kL a5.AA.x0.AP.Aa&&(kL a5.AA.x0.AP.Ap&&(kL a5.AA.x0.Aq&&(kL a5.AA.x0.A8&&(kL a5.AA.x1.Ag.Am&&(kL a5.AA.x1.AP.Aa&&(kL a5.AA.x1.AP.Ap&&(kL a5.AA.x1.Aq&&(kL a5.AA.x1.A8&&(kL a5.Notes&&(kL a5.Sent.x0&&(kL a5.Sent.x1&&(kL a5.AB.x0&&(kL a5.AB.x1&&(kL a6.Notes&&(kL a6.Sent.x0&&(kL a6.Sent.x1&&(kL a6.AB.x0&&kL a6.AB.x1))))))))))))))))))) ( AL (.b2 a0 (A7 (a1+1)) a2 a3 a4 a5 ({ a6 with AA:=(⟨a6.AA.x0,x16.1⟩:BU) }:Ak)))) ( .fail)))))) ( .fail))) ( .br (a1==1) ( .br (a1==0) ( .bind 3 (Jg a3.x0 (0:Int)) (fun(x13:Int)=>.bind 100 (MH a1 a2 x10 a4.x1 (IntKind.wrap .u64 (a0+(IntKind.wrap .u64 (a1)))) x13) (fun(x14:Af×Int)=>.br (x14.2 != 0) ( .chk (true&&(true&&(true&&(true&&true)))) ( AQ (⟨(⟨(⟨CU,CU⟩:BU),(⟨(⟨0,0⟩:DV),(⟨0,0⟩:DV)⟩:Dz),0,([]:List DC),(⟨([]:List Ai),([]:List Ai)⟩:CX),(⟨([]:List Ai),([]:List Ai)⟩:CX)⟩:Ak),x14.2⟩:IU))) ( .br (a1==0) ( .chk (kL a5.AA.x0.Ag.Am&&(kL a5.AA.x0.AP.Aa&&(kL a5.AA.x0.AP.Ap&&(kL a5.AA.x0.Aq&&(kL a5.AA.x0.A8&&(kL a5.AA.x1.Ag.Am&&(kL a5.AA.x1.AP.Aa&&(kL a5.AA.x1.AP.Ap&&(kL a5.AA.x1.Aq&&(kL a5.AA.x1.A8&&(kL a5.Notes&&(kL a5.Sent.x0&&(kL a5.Sent.x1&&(kL a5.AB.x0&&(kL a5.AB.x1&&(kL a6.Notes&&(kL a6.Sent.x0&&(kL a6.Sent.x1&&(kL a6.AB.x0&&kL a6.AB.x1))))))))))))))))))) ( AL (.b2 a0 (A7 (a1+1)) a2 a3 a4 a5 ({ a6 with AA:=(⟨x14.1,a6.AA.x1⟩:BU) }:Ak)))) ( .br (a1==1) ( .chk (kL a5.AA.x0.Ag.Am&&(kL a5.AA.x0.AP.Aa&&(kL a5.AA.x0.AP.Ap&&(kL a5.AA.x0.Aq&&(kL a5.AA.x0.A8&&(kL a5.AA.x1.Ag.Am&&(kL a5.AA.x1.AP.Aa&&(kL a5.AA.x1.AP.Ap&&(kL a5.AA.x1.Aq&&(kL a5.AA.x1.A8&&(kL a5.Notes&&(kL a5.Sent.x0&&(kL a5.Sent.x1&&(kL a5.AB.x0&&(kL a5.AB.x1&&(kL a6.Notes&&(kL a6.Sent.x0&&(kL a6.Sent.x1&&(kL a6.AB.x0&&kL a6.AB.x1))))))))))))))))))) ( AL (.b2 a0 (A7 (a1+1)) a2 a3 a4 a5 ({ a6 with AA:=(⟨a6.AA.x0,x14.1⟩:BU) }:Ak)))) ( .fail)))))) ( .br (a1==1) ( .bind 3 (Jg a3.x1 (0:Int)) (fun(x11:Int)=>.bind 100 (MH a1 a2 x10 a4.x1 (IntKind.wrap .u64 (a0+(IntKind.wrap .u64 (a1)))) x11) (fun(x12:Af×Int)=>.br (x12.2 != 0) ( .chk (true&&(true&&(true&&(true&&true)))) ( AQ (⟨(⟨(⟨CU,CU⟩:BU),(⟨(⟨0,0⟩:DV),(⟨0,0⟩:DV)⟩:Dz),0,([]:List DC),(⟨([]:List Ai),([]:List Ai)⟩:CX),(⟨([]:List Ai),([]:List Ai)⟩:CX)⟩:Ak),x12.2⟩:IU))) ( .br (a1==0) ( .chk (kL a5.AA.x0.Ag.Am&&(kL a5.AA.x0.AP.Aa&&(kL a5.AA.x0.AP.Ap&&(kL a5.AA.x0.Aq&&(kL a5.AA.x0.A8&&(kL a5.AA.x1.Ag.Am&&(kL a5.AA.x1.AP.Aa&&(kL a5.AA.x1.AP.Ap&&(kL a5.AA.x1.Aq&&(kL a5.AA.x1.A8&&(kL a5.Notes&&(kL a5.Sent.x0&&(kL a5.Sent.x1&&(kL a5.AB.x0&&(kL a5.AB.x1&&(kL a6.Notes&&(kL a6.Sent.x0&&(kL a6.Sent.x1&&(kL a6.AB.x0&&kL a6.AB.x1))))))))))))))))))) ( AL (.b2 a0 (A7 (a1+1)) a2 a3 a4 a5 ({ a6 with AA:=(⟨x12.1,a6.AA.x1⟩:BU) }:Ak)))) ( .br (a1==1) ( .chk (kL a5.AA.x0.Ag.Am&&(kL a5.AA.x0.AP.Aa&&(kL a5.AA.x0.AP.Ap&&(kL a5.AA.x0.Aq&&(kL a5.AA.x0.A8&&(kL a5.AA.x1.Ag.Am&&(kL a5.AA.x1.AP.Aa&&(kL a5.AA.x1.AP.Ap&&(kL a5.AA.x1.Aq&&(kL a5.AA.x1.A8&&(kL a5.Notes&&(kL a5.Sent.x0&&(kL a5.Sent.x1&&(kL a5.AB.x0&&(kL a5.AB.x1&&(kL a6.Notes&&(kL a6.Sent.x0&&(kL a6.Sent.x1&&(kL a6.AB.x0&&kL a6.AB.x1))))))))))))))))))) ( AL (.b2 a0 (A7 (a1+1)) a2 a3 a4 a5 ({ a6 with AA:=(⟨a6.AA.x0,x12.1⟩:BU) }:Ak)))) ( .fail)))))) ( .fail))) ( .fail)))) ( .br (a1==1) ( .bind 3 (VX a3.x1.H6) (fun(x1:Int)=>.br (a1==0) ( .br (a1==0) ( .bind 3 (Jg a3.x0 (0:Int)) (fun(x8:Int)=>.bind 100 (MH a1 a2 x1 a4.x0 (IntKind.wrap .u64 (a0+(IntKind.wrap .u64 (a1)))) x8) (fun(x9:Af×Int)=>.br (x9.2 != 0) ( .chk (true&&(true&&(true&&(true&&true)))) ( AQ (⟨(⟨(⟨CU,CU⟩:BU),(⟨(⟨0,0⟩:DV),(⟨0,0⟩:DV)⟩:Dz),0,([]:List DC),(⟨([]:List Ai),([]:List Ai)⟩:CX),(⟨([]:List Ai),([]:List Ai)⟩:CX)⟩:Ak),x9.2⟩:IU))) ( .br (a1==0) ( .chk (kL a5.AA.x0.Ag.Am&&(kL a5.AA.x0.AP.Aa&&(kL a5.AA.x0.AP.Ap&&(kL a5.AA.x0.Aq&&(kL a5.AA.x0.A8&&(kL a5.AA.x1.Ag.Am&&(kL a5.AA.x1.AP.Aa&&(kL a5.AA.x1.AP.Ap&&(kL a5.AA.x1.Aq&&(kL a5.AA.x1.A8&&(kL a5.Notes&&(kL a5.Sent.x0&&(kL a5.Sent.x1&&(kL a5.AB.x0&&(kL a5.AB.x1&&(kL a6.Notes&&(kL a6.Sent.x0&&(kL a6.Sent.x1&&(kL a6.AB.x0&&kL a6.AB.x1))))))))))))))))))) ( AL (.b2 a0 (A7 (a1+1)) a2 a3 a4 a5 ({ a6 with AA:=(⟨x9.1,a6.AA.x1⟩:BU) }:Ak)))) ( .br (a1==1) ( .chk (kL a5.AA.x0.Ag.Am&&(kL a5.AA.x0.AP.Aa&&(kL a5.AA.x0.AP.Ap&&(kL a5.AA.x0.Aq&&(kL a5.AA.x0.A8&&(kL a5.AA.x1.Ag.Am&&(kL a5.AA.x1.AP.Aa&&(kL a5.AA.x1.AP.Ap&&(kL a5.AA.x1.Aq&&(kL a5.AA.x1.A8&&(kL a5.Notes&&(kL a5.Sent.x0&&(kL a5.Sent.x1&&(kL a5.AB.x0&&(kL a5.AB.x1&&(kL a6.Notes&&(kL a6.Sent.x0&&(kL a6.Sent.x1&&(kL a6.AB.x0&&kL a6.AB.x1))))))))))))))))))) ( AL (.b2 a0 (A7 (a1+1)) a2 a3 a4 a5 ({ a6 with AA:=(⟨a6.AA.x0,x9.1⟩:BU) }:Ak)))) ( .fail)))))) ( .br (a1==1) ( .bind 3 (Jg a3.x1 (0:Int)) (fun(x6:Int)=>.bind 100 (MH a1 a2 x1 a4.x0 (IntKind.wrap .u64 (a0+(IntKind.wrap .u64 (a1)))) x6) (fun(x7:Af×Int)=>.br (x7.2 != 0) ( .chk (true&&(true&&(true&&(true&&true)))) ( AQ (⟨(⟨(⟨CU,CU⟩:BU),(⟨(⟨0,0⟩:DV),(⟨0,0⟩:DV)⟩:Dz),0,([]:List DC),(⟨([]:List Ai),([]:List Ai)⟩:CX),(⟨([]:List Ai),([]:List Ai)⟩:CX)⟩:Ak),x7.2⟩:IU))) ( .br (a1==0) ( .chk (kL a5.AA.x0.Ag.Am&&(kL a5.AA.x0.AP.Aa&&(kL a5.AA.x0.AP.Ap&&(kL a5.AA.x0.Aq&&(kL a5.AA.x0.A8&&(kL a5.AA.x1.Ag.Am&&(kL a5.AA.x1.AP.Aa&&(kL a5.AA.x1.AP.Ap&&(kL a5.AA.x1.Aq&&(kL a5.AA.x1.A8&&(kL a5.Notes&&(kL a5.Sent.x0&&(kL a5.Sent.x1&&(kL a5.AB.x0&&(kL a5.AB.x1&&(kL a6.Notes&&(kL a6.Sent.x0&&(kL a6.Sent.x1&&(kL a6.AB.x0&&kL a6.AB.x1))))))))))))))))))) ( AL (.b2 a0 (A7 (a1+1)) a2 a3 a4 a5 ({ a6 with AA:=(⟨x7.1,a6.AA.x1⟩:BU) }:Ak)))) ( .br (a1==1) ( .chk (kL a5.AA.x0.Ag.Am&&(kL a5.AA.x0.AP.Aa&&(kL a5.AA.x0.AP.Ap&&(kL a5.AA.x0.Aq&&(kL a5.AA.x0.A8&&(kL a5.AA.x1.Ag.Am&&(kL a5.AA.x1.AP.Aa&&(kL a5.AA.x1.AP.Ap&&(kL a5.AA.x1.Aq&&(kL a5.AA.x1.A8&&(kL a5.Notes&&(kL a5.Sent.x0&&(kL a5.Sent.x1&&(kL a5.AB.x0&&(kL a5.AB.x1&&(kL a6.Notes&&(kL a6.Sent.x0&&(kL a6.Sent.x1&&(kL a6.AB.x0&&kL a6.AB.x1))))))))))))))))))) ( AL (.b2 a0 (A7 (a1+1)) a2 a3 a4 a5 ({ a6 with AA:=(⟨a6.AA.x0,x7.1⟩:BU) }:Ak)))) ( .fail)))))) ( .fail))) ( .br (a1==1) ( .br (a1==0) ( .bind 3 (Jg a3.x0 (0:Int)) (fun(x4:Int)=>.bind 100 (MH a1 a2 x1 a4.x1 (IntKind.wrap .u64 (a0+(IntKind.wrap .u64 (a1)))) x4) (fun(x5:Af×Int)=>.br (x5.2 != 0) ( .chk (true&&(true&&(true&&(true&&true)))) ( AQ (⟨(⟨(⟨CU,CU⟩:BU),(⟨(⟨0,0⟩:DV),(⟨0,0⟩:DV)⟩:Dz),0,([]:List DC),(⟨([]:List Ai),([]:List Ai)⟩:CX),(⟨([]:List Ai),([]:List Ai)⟩:CX)⟩:Ak),x5.2⟩:IU))) ( .br (a1==0) ( .chk (kL a5.AA.x0.Ag.Am&&(kL a5.AA.x0.AP.Aa&&(kL a5.AA.x0.AP.Ap&&(kL a5.AA.x0.Aq&&(kL a5.AA.x0.A8&&(kL a5.AA.x1.Ag.Am&&(kL a5.AA.x1.AP.Aa&&(kL a5.AA.x1.AP.Ap&&(kL a5.AA.x1.Aq&&(kL a5.AA.x1.A8&&(kL a5.Notes&&(kL a5.Sent.x0&&(kL a5.Sent.x1&&(kL a5.AB.x0&&(kL a5.AB.x1&&(kL a6.Notes&&(kL a6.Sent.x0&&(kL a6.Sent.x1&&(kL a6.AB.x0&&kL a6.AB.x1))))))))))))))))))) ( AL (.b2 a0 (A7 (a1+1)) a2 a3 a4 a5 ({ a6 with AA:=(⟨x5.1,a6.AA.x1⟩:BU) }:Ak)))) ( .br (a1==1) ( .chk (kL a5.AA.x0.Ag.Am&&(kL a5.AA.x0.AP.Aa&&(kL a5.AA.x0.AP.Ap&&(kL a5.AA.x0.Aq&&(kL a5.AA.x0.A8&&(kL a5.AA.x1.Ag.Am&&(kL a5.AA.x1.AP.Aa&&(kL a5.AA.x1.AP.Ap&&(kL a5.AA.x1.Aq&&(kL a5.AA.x1.A8&&(kL a5.Notes&&(kL a5.Sent.x0&&(kL a5.Sent.x1&&(kL a5.AB.x0&&(kL a5.AB.x1&&(kL a6.Notes&&(kL a6.Sent.x0&&(kL a6.Sent.x1&&(kL a6.AB.x0&&kL a6.AB.x1))))))))))))))))))) ( AL (.b2 a0 (A7 (a1+1)) a2 a3 a4 a5 ({ a6 with AA:=(⟨a6.AA.x0,x5.1⟩:BU) }:Ak)))) ( .fail)))))) ( .br (a1==1) ( .bind 3 (Jg a3.x1 (0:Int)) (fun(x2:Int)=>.bind 100 (MH a1 a2 x1 a4.x1 (IntKind.wrap .u64 (a0+(IntKind.wrap .u64 (a1)))) x2) (fun(x3:Af×Int)=>.br (x3.2 != 0) ( .chk (true&&(true&&(true&&(true&&true)))) ( AQ (⟨(⟨(⟨CU,CU⟩:BU),(⟨(⟨0,0⟩:DV),(⟨0,0⟩:DV)⟩:Dz),0,([]:List DC),(⟨([]:List Ai),([]:List Ai)⟩:CX),(⟨([]:List Ai),([]:List Ai)⟩:CX)⟩:Ak),x3.2⟩:IU))) ( .br (a1==0) ( .chk (kL a5.AA.x0.Ag.Am&&(kL a5.AA.x0.AP.Aa&&(kL a5.AA.x0.AP.Ap&&(kL a5.AA.x0.Aq&&(kL a5.AA.x0.A8&&(kL a5.AA.x1.Ag.Am&&(kL a5.AA.x1.AP.Aa&&(kL a5.AA.x1.AP.Ap&&(kL a5.AA.x1.Aq&&(kL a5.AA.x1.A8&&(kL a5.Notes&&(kL a5.Sent.x0&&(kL a5.Sent.x1&&(kL a5.AB.x0&&(kL a5.AB.x1&&(kL a6.Notes&&(kL a6.Sent.x0&&(kL a6.Sent.x1&&(kL a6.AB.x0&&kL a6.AB.x1))))))))))))))))))) ( AL (.b2 a0 (A7 (a1+1)) a2 a3 a4 a5 ({ a6 with AA:=(⟨x3.1,a6.AA.x1⟩:BU) }:Ak)))) ( .br (a1==1) ( .chk (kL a5.AA.x0.Ag.Am&&(kL a5.AA.x0.AP.Aa&&(kL a5.AA.x0.AP.Ap&&(kL a5.AA.x0.Aq&&(kL a5.AA.x0.A8&&(kL a5.AA.x1.Ag.Am&&(kL a5.AA.x1.AP.Aa&&(kL a5.AA.x1.AP.Ap&&(kL a5.AA.x1.Aq&&(kL a5.AA.x1.A8&&(kL a5.Notes&&(kL a5.Sent.x0&&(kL a5.Sent.x1&&(kL a5.AB.x0&&(kL a5.AB.x1&&(kL a6.Notes&&(kL a6.Sent.x0&&(kL a6.Sent.x1&&(kL a6.AB.x0&&kL a6.AB.x1))))))))))))))))))) ( AL (.b2 a0 (A7 (a1+1)) a2 a3 a4 a5 ({ a6 with AA:=(⟨a6.AA.x0,x3.1⟩:BU) }:Ak)))) ( .fail)))))) ( .fail))) ( .fail)))) ( .fail))) ( .chk (kL a6.Notes&&(kL a6.Sent.x0&&(kL a6.Sent.x1&&(kL a6.AB.x0&&kL a6.AB.x1)))) ( AQ (⟨a6,0⟩:IU)))
def qL (a0:Eh) (a1:Dz) (a2:KJ) (a3:Int):Option IU:=Ad Vj (.b0 a0 a1 a2 a3)
def Z2G:Shape:=⟨[.agg [.v 28 11 true],.agg [.v 31 4 true],.agg [.v 33 2 true],OV 25],[]⟩
def ZbI:Shape:=⟨[(Et 0),OV 61],[.row 228 true,.row 67 true,.row 67 true,.row 67 true,.row 67 true]⟩
noncomputable def ZiB:HMod U:=⟨[k3,k13,[.keep,.keep],KP],[],Z2G,ZbI,false,1568,fun(y:IU)=>(((y.q0.AA,(y.q0.DT,(y.q0.Now,()))),((y.q1,()),())),(Jd y.q0)),fun x=>qL x.1.1.1 (⟨x.1.2.1.1.x0,x.1.2.1.1.x1⟩:Dz) (⟨x.1.2.2.1.1.x0,x.1.2.2.1.1.x1⟩:KJ) x.1.2.2.2.1.1,okS rfl⟩
def Z2Q:Lay:=⟨[3,4,5,6,8,10],[KP,KP,KP,KP,KP,KP],[.var k3,.var k13,.var [.keep,.keep],.var k6,.row true,.row true,.row true,.row true,.row true,.row true,.row true,.row true,.row true,.row true,.row true,.row true,.row true,.row true,.row true],⟨[OV 25,PQ 0,PQ 1,PQ 2,PQ 3,OV 3],[VA 28 11,VA 31 4,VA 33 2,.var 60 142 (LG 4),.row 67 true,.row 310 true,.row 111 true,.row 380 true,.row 310 true,.row 67 true,.row 310 true,.row 111 true,.row 380 true,.row 310 true,.row 228 true,.row 67 true,.row 67 true,.row 67 true,.row 67 true]⟩⟩
def Z1X:Lay:=⟨[3,4,5,6,8,12,13],[KP,KP,KP,KP,KP,KP,KP],[.var k3,.var k13,.var [.keep,.keep],.var k6,.var k4,.row true,.row true,.row true,.row true,.row true,.row true,.row true,.row true,.row true,.row true,.row true,.row true,.row true,.row true,.row true,.row true,.row true,.row true,.row true,.row true],⟨[OV 25,PQ 0,PQ 1,PQ 2,PQ 3,PQ 4,OV 3],[VA 28 11,VA 31 4,VA 33 2,.var 60 142 (LG 5),.var 60 142 (Et 20),.row 67 true,.row 310 true,.row 111 true,.row 380 true,.row 310 true,.row 67 true,.row 310 true,.row 111 true,.row 380 true,.row 310 true,.row 228 true,.row 67 true,.row 67 true,.row 67 true,.row 67 true,.row 228 true,.row 67 true,.row 67 true,.row 67 true,.row 67 true]⟩⟩
def Zim:qE->BQ U
 | .b0 a0 a1 a2 a3=>HY Tryz.f6 Z2G (((a0,()),((a1,()),((a2,()),((a3,()),())))),())
 | .b1 a0 a1 a2 a3 a4 a5=>Ah Tryz.f6 [1,0,1,0,0,0,0] Z2Q (((a0,()),((),((),((),((),((a1,()),())))))),((a2,()),((a3,()),((a4,()),((a5.AA.x0.Dl,(a5.AA.x0.Bz,(a5.AA.x0.Clock,(a5.AA.x0.Event,(a5.AA.x0.Last,(a5.AA.x0.Gn,(a5.AA.x0.Size,(a5.AA.x0.Sync,(a5.AA.x0.Kq,(a5.AA.x0.Jp,(a5.AA.x0.AB,(a5.AA.x0.Good,(a5.AA.x0.Hl,(a5.AA.x0.More,(a5.AA.x0.Ag.SN,(a5.AA.x0.Ag.GG,(a5.AA.x0.Ag.Open,(a5.AA.x0.Ag.Empty,(a5.AA.x0.Ag.Hl,(a5.AA.x0.Ag.Taken,(a5.AA.x0.JQ,(a5.AA.x0.AP.Dl,(a5.AA.x0.AP.Own,(a5.AA.x0.AP.Since,(a5.AA.x0.AP.Other,(a5.AA.x0.AP.Jj,(a5.AA.x0.AP.Told,(a5.AA.x0.AP.EU,(a5.AA.x0.AP.OJ,(a5.AA.x0.AP.JG,(a5.AA.x0.AP.KG,(a5.AA.x0.AP.Version,(a5.AA.x0.AP.Length,(a5.AA.x0.AP.Limit,(a5.AA.x0.AP.EG,(a5.AA.x0.AP.Ku,(a5.AA.x0.AP.Mark,(a5.AA.x0.AP.EJ,(a5.AA.x0.AP.Gp,(a5.AA.x0.Ef,(a5.AA.x0.Key,(a5.AA.x0.BV,(a5.AA.x0.Jc,(a5.AA.x1.Dl,(a5.AA.x1.Bz,(a5.AA.x1.Clock,(a5.AA.x1.Event,(a5.AA.x1.Last,(a5.AA.x1.Gn,(a5.AA.x1.Size,(a5.AA.x1.Sync,(a5.AA.x1.Kq,(a5.AA.x1.Jp,(a5.AA.x1.AB,(a5.AA.x1.Good,(a5.AA.x1.Hl,(a5.AA.x1.More,(a5.AA.x1.Ag.SN,(a5.AA.x1.Ag.GG,(a5.AA.x1.Ag.Open,(a5.AA.x1.Ag.Empty,(a5.AA.x1.Ag.Hl,(a5.AA.x1.Ag.Taken,(a5.AA.x1.JQ,(a5.AA.x1.AP.Dl,(a5.AA.x1.AP.Own,(a5.AA.x1.AP.Since,(a5.AA.x1.AP.Other,(a5.AA.x1.AP.Jj,(a5.AA.x1.AP.Told,(a5.AA.x1.AP.EU,(a5.AA.x1.AP.OJ,(a5.AA.x1.AP.JG,(a5.AA.x1.AP.KG,(a5.AA.x1.AP.Version,(a5.AA.x1.AP.Length,(a5.AA.x1.AP.Limit,(a5.AA.x1.AP.EG,(a5.AA.x1.AP.Ku,(a5.AA.x1.AP.Mark,(a5.AA.x1.AP.EJ,(a5.AA.x1.AP.Gp,(a5.AA.x1.Ef,(a5.AA.x1.Key,(a5.AA.x1.BV,(a5.AA.x1.Jc,(a5.DT,(a5.Now,())))))))))))))))))))))))))))))))))))))))))))))))))))))))))))))))))))))))))))))))))))))))),(a5.AA.x0.Ag.Am,(a5.AA.x0.AP.Aa,(a5.AA.x0.AP.Ap,(a5.AA.x0.Aq,(a5.AA.x0.A8,(a5.AA.x1.Ag.Am,(a5.AA.x1.AP.Aa,(a5.AA.x1.AP.Ap,(a5.AA.x1.Aq,(a5.AA.x1.A8,(a5.Notes,(a5.Sent.x0,(a5.Sent.x1,(a5.AB.x0,(a5.AB.x1,()))))))))))))))))))))
 | .b2 a0 a1 a2 a3 a4 a5 a6=>Ah Tryz.f6 [1,1,1,1,0,1,0,0,0,0] Z1X (((a0,()),((),((),((),((),((),((a1,()),()))))))),((a2,()),((a3,()),((a4,()),((GY a5),((a6.AA,(a6.DT,(a6.Now,()))),(a5.AA.x0.Ag.Am,(a5.AA.x0.AP.Aa,(a5.AA.x0.AP.Ap,(a5.AA.x0.Aq,(a5.AA.x0.A8,(a5.AA.x1.Ag.Am,(a5.AA.x1.AP.Aa,(a5.AA.x1.AP.Ap,(a5.AA.x1.Aq,(a5.AA.x1.A8,(a5.Notes,(a5.Sent.x0,(a5.Sent.x1,(a5.AB.x0,(a5.AB.x1,(Jd a6))))))))))))))))))))))
theorem Zge:E8 Tryz.prog B0 6 ZiB:=okR (mc Zd2 (mc Zf2 (mc Zh2 (mc kY BC)))) BB (al [(2,Z2Q),(11,Z1X)]) [k4,KP] [.row true,.row true,.row true,.row true,.row true] 0 Zim Tryz.func6 (fun p=>by cases p<;>kernel_rfl) (by kernel_rfl) fun x=>by kernel_rfl
end
noncomputable section
def Zde:S1 (Ak×Int×Unit) Bool
 | (a0,a1,_)=>.br (a1==0) ( AQ (a0.AA.x0.BV==0)) ( .br (a1==1) ( AQ (a0.AA.x1.BV==0)) ( .fail))
def Ij (a0:Ak) (a1:Int):Option Bool:=Ad Zde (a0,a1,())
def ZcR:Az U:=⟨[60,3],4,fun x=>Ij x.1 x.2.1,by decide⟩
theorem UQ:BA Tryz.prog B0 51 ZcR:=ok1 BC BB Tryz.func51 (fun _=>by kernel_rfl) (by kernel_rfl)
inductive iG where
 | b0 (a0:List Ai)
 | b1 (a0 a1:List Ai) (a2:Int)
def XW:iG->Tr U (Fa⊕iG)
 | .b0 a0=>.chk true ( AL (.b1 a0 ([]:List Ai) (0:Int)))
 | .b1 a0 a1 a2=>.br (decide (a2<(↑a0.length:Int))) ( .chk (kI a2 a0) ( .bind 67 (a0[(Int.toNat a2)]?) (fun(x1:Ai)=>.chk (kI a2 a0) ( .bind 67 (a0[(Int.toNat a2)]?) (fun(x2:Ai)=>.chk true ( .chk (kA (0+x2.Payload.length) 1) ( kl (([]:List Int)++x2.Payload) ( .chk true ( kl a1 ( .chk (kA (a1.length+1) 32) ( kl (a1++[(⟨x1.Dn,(([]:List Int)++x2.Payload)⟩:Ai)]) ( AL (.b1 a0 (a1++[(⟨x1.Dn,(([]:List Int)++x2.Payload)⟩:Ai)]) (A7 (a2+1))))))))))))))) ( kl a1 ( AQ (⟨a1⟩:Fa)))
def Ie (a0:List Ai):Option Fa:=Ad XW (.b0 a0)
def xX:Shape:=⟨[OV 42],[]⟩
def Z86:Shape:=⟨[.one (.own 67 0)],[.row 67 true]⟩
noncomputable def Z8I:HMod U:=⟨[[.s 67 2]],[],xX,Z86,true,1572,fun(y:Fa)=>(((),()),(y.q0,())),fun x=>Ie x.1.1.1,okS rfl⟩
def xZ:Lay:=LT [0,3,4] [.v 42,.o 67 2 0,.v 3] [.r 67]
def Z8z:iG->BQ U
 | .b0 a0=>HY Tryz.f29 xX (((a0,()),()),())
 | .b1 a0 a1 a2=>Ah Tryz.f29 [1,1,0,1,0,0,0,0] xZ (((a0,()),((),((a2,()),()))),(a1,()))
theorem gY:E8 Tryz.prog B0 29 Z8I:=okR BC BB (al [(3,xZ)]) [[.own 67 2]] [.row true] 0 Z8z Tryz.func29 (fun p=>by cases p<;>kernel_rfl) (by kernel_rfl) fun x=>by kernel_rfl
def Z3o:S1 (Af×Unit) Af
 | (a0,_)=>.bind 1572 (Ie a0.Ag.Am) (fun(y1:Fa)=>.chk true ( .chk (kA (0+a0.AP.Aa.length) 120) ( .chk true ( .chk (kA (0+a0.AP.Ap.length) 64) ( .chk true ( .chk (kA (0+a0.Aq.length) 16) ( .chk true ( .chk (kA (0+a0.A8.length) 120) ( kl y1.q0 ( kl (([]:List AV)++a0.AP.Aa) ( kl (([]:List BP)++a0.AP.Ap) ( kl (([]:List Ba)++a0.Aq) ( kl (([]:List AV)++a0.A8) ( AQ ({ a0 with Ag:=({ a0.Ag with Am:=y1.q0 }:CZ),AP:=({ a0.AP with Aa:=(([]:List AV)++a0.AP.Aa),Ap:=(([]:List BP)++a0.AP.Ap) }:Ae),Aq:=(([]:List Ba)++a0.Aq),A8:=(([]:List AV)++a0.A8) }:Af)))))))))))))))
def Y6 (a0:Af):Option Af:=Ad Z3o (a0,())
def ZgY:Az U:=⟨[55],55,fun x=>Y6 x.1,by decide⟩
theorem ZdY:BA Tryz.prog B0 28 ZgY:=ok1 BC (hc [] gY BB) Tryz.func28 (fun _=>by kernel_rfl) (by kernel_rfl)
inductive oD where
 | b0 (a0:Ak)
def Z41:oD->Tr U (LU⊕oD)
 | .b0 a0=>.bind 55 (Y6 a0.AA.x0) (fun(x1:Af)=>.bind 1572 (Ie a0.Sent.x0) (fun(y2:Fa)=>.bind 1572 (Ie a0.AB.x0) (fun(y3:Fa)=>.bind 55 (Y6 a0.AA.x1) (fun(x4:Af)=>.bind 1572 (Ie a0.Sent.x1) (fun(y5:Fa)=>.bind 1572 (Ie a0.AB.x1) (fun(y6:Fa)=>.chk true ( .chk (kA (0+a0.Notes.length) 176) ( .chk (kL (([]:List DC)++a0.Notes)&&(kL y2.q0&&(kL y5.q0&&(kL y3.q0&&kL y6.q0)))) ( AQ (⟨(⟨(⟨x1,x4⟩:BU),a0.DT,a0.Now,(([]:List DC)++a0.Notes),(⟨y2.q0,y5.q0⟩:CX),(⟨y3.q0,y6.q0⟩:CX)⟩:Ak)⟩:LU))))))))))
def QO (a0:Ak):Option LU:=Ad Z41 (.b0 a0)
def Z0K:Shape:=⟨[.agg [.v 60 142 true]],[]⟩
def Zbb:Shape:=⟨[(Et 0)],[.row 228 true,.row 67 true,.row 67 true,.row 67 true,.row 67 true]⟩
noncomputable def Zg0:HMod U:=⟨[k8],[],Z0K,Zbb,true,1571,fun(y:LU)=>(((y.q0.AA,(y.q0.DT,(y.q0.Now,()))),()),(Jd y.q0)),fun x=>QO x.1.1.1,okS rfl⟩
def Zer:oD->BQ U
 | .b0 a0=>HY Tryz.f9 Z0K (((a0,()),()),())
theorem mQ:E8 Tryz.prog B0 9 Zg0:=okR (mc ZdY BC) (hc [] gY BB) AN [k4] [.row true,.row true,.row true,.row true,.row true] 0 Zer Tryz.func9 (fun p=>by cases p<;>kernel_rfl) (by kernel_rfl) fun x=>by kernel_rfl
def Z52:S1 (Int×Unit) Bool
 | (a0,_)=>.br (a0==0) ( AQ true) ( AQ (a0==1))
def V9 (a0:Int):Option Bool:=Ad Z52 (a0,())
def Zjb:Az U:=⟨[3],4,fun x=>V9 x.1,by decide⟩
theorem ZgH:BA Tryz.prog B0 214 Zjb:=ok1 BC BB Tryz.func214 (fun _=>by kernel_rfl) (by kernel_rfl)
inductive UB where
 | b0 (a0:Ai)
 | b1 (a0:Ai)
 | b2 (a0:Ai)
def yM:UB->Tr U (Int⊕UB)
 | .b0 a0=>.br (decide (a0.Dn<1)) ( AQ (12:Int)) ( .br (decide (a0.Dn>3)) ( AQ (12:Int)) ( AL (.b1 a0)))
 | .b1 a0=>.br ((↑a0.Payload.length:Int)==0) ( .br (a0.Dn != 1) ( AQ (1:Int)) ( AL (.b2 a0))) ( AL (.b2 a0))
 | .b2 a0=>.br (decide ((↑a0.Payload.length:Int)>255)) ( AQ (4:Int)) ( AQ (0:Int))
def iL (a0:Ai):Option Int:=Ad yM (.b0 a0)
def Z95:Az U:=⟨[67],61,fun x=>iL x.1,by decide⟩
def XN:Lay:=LT [1] [.p 0] [.s 67]
def Z8s:UB->BQ U
 | .b0 a0=>Bi Tryz.f215 [67] (a0,())
 | .b1 a0=>Ah Tryz.f215 [1,1,0,0] XN (((),()),((a0,()),()))
 | .b2 a0=>Ah Tryz.f215 [1,1,1,0,0] XN (((),()),((a0,()),()))
theorem Z8v:BA Tryz.prog B0 215 Z95:=Bl BC BB (al [(3,XN),(5,XN)]) Z8s Tryz.func215 (fun p=>by cases p<;>kernel_rfl) (by kernel_rfl) fun _=>rfl
inductive VB where
 | b0 (a0:CG)
 | b1 (a0:CG)
def Z22:VB->Tr U (Int⊕VB)
 | .b0 a0=>.bind 4 (V9 a0.SN) (fun(x1:Bool)=>.br (!x1) ( AQ (5:Int)) ( .bind 4 (V9 a0.GG) (fun(x2:Bool)=>.br (!x2) ( AQ (5:Int)) ( .bind 4 (V9 a0.MD) (fun(x3:Bool)=>.br (!x3) ( AQ (5:Int)) ( AL (.b1 a0)))))))
 | .b1 a0=>.bind 61 (iL a0.Bg) (fun(x1:Int)=>AQ x1)
def Ou (a0:CG):Option Int:=Ad Z22 (.b0 a0)
def Zf5:Az U:=⟨[319],61,fun x=>Ou x.1,by decide⟩
def Z0i:Lay:=LT [1] [.p 0] [.s 319]
def Zdj:VB->BQ U
 | .b0 a0=>Bi Tryz.f160 [319] (a0,())
 | .b1 a0=>Ah Tryz.f160 [1,1,0] Z0i (((),()),((a0,()),()))
theorem RY:BA Tryz.prog B0 160 Zf5:=Bl (mc ZgH (mc Z8v BC)) BB (al [(3,Z0i)]) Zdj Tryz.func160 (fun p=>by cases p<;>kernel_rfl) (by kernel_rfl) fun _=>rfl
def Z1I:S1 (Ae×Unit) Bool
 | (a0,_)=>.br (decide (a0.EJ>=1)) ( AQ (decide (a0.EJ<=3))) ( AQ false)
def YP (a0:Ae):Option Bool:=Ad Z1I (a0,())
def Zeo:Az U:=⟨[50],4,fun x=>YP x.1,by decide⟩
theorem Z0Y:BA Tryz.prog B0 161 Zeo:=ok1 BC BB Tryz.func161 (fun _=>by kernel_rfl) (by kernel_rfl)
def Z0p:S1 (Ai×Unit) Bool
 | (a0,_)=>.br (a0.Dn==1) ( AQ ((↑a0.Payload.length:Int)==0)) ( AQ false)
def Xf (a0:Ai):Option Bool:=Ad Z0p (a0,())
def Zaz:Az U:=⟨[67],4,fun x=>Xf x.1,by decide⟩
theorem Zc:BA Tryz.prog B0 192 Zaz:=ok1 BC BB Tryz.func192 (fun _=>by kernel_rfl) (by kernel_rfl)
inductive VD where
 | b0 (a0:CZ) (a1:Ai)
 | b1 (a0:CZ) (a1:Ai) (a2:CZ)
def Z1W:VD->Tr U ((CZ×Int)⊕VD)
 | .b0 a0 a1=>.bind 4 (Xf a1) (fun(x1:Bool)=>.br x1 ( AQ (a0,1)) ( .br (decide ((↑a1.Payload.length:Int)>251)) ( AQ (a0,1)) ( .bind 61 (Ou (⟨0,0,0,a1⟩:CG)) (fun(x2:Int)=>.br (x2 != 0) ( AQ (a0,1)) ( AL (.b1 a0 a1 MG))))))
 | .b1 a0 a1 a2=>.br (decide ((↑a0.Am.length:Int)>=64)) ( AQ (a0,8)) ( .chk true ( .chk (kA (0+a0.Am.length) 32) ( .chk true ( kl (([]:List Ai)++a0.Am) ( .chk (kA ((([]:List Ai)++a0.Am).length+1) 32) ( kl ((([]:List Ai)++a0.Am)++[a1]) ( AQ (({ a0 with Am:=((([]:List Ai)++a0.Am)++[a1]) }:CZ),(0:Int)))))))))
def YZ (a0:CZ) (a1:Ai):Option (CZ×Int):=Ad Z1W (.b0 a0 a1)
def ZdG:Az U:=⟨[44,67],369,fun x=>YZ x.1 x.2.1,by decide⟩
def ZH:Lay:=LT [2,3,4] [.p 0,.p 1,.p 2] [.s 44,.s 67,.s 44]
def ZcM:VD->BQ U
 | .b0 a0 a1=>Bi Tryz.f162 [44,67] (a0,a1,())
 | .b1 a0 a1 a2=>Ah Tryz.f162 [1,1,0,0] ZH (((),((),((),()))),((a0,()),((a1,()),((a2,()),()))))
theorem Z0M:BA Tryz.prog B0 162 ZdG:=Bl (mc RY (mc Zc BC)) BB (al [(3,ZH)]) ZcM Tryz.func162 (fun p=>by cases p<;>kernel_rfl) (by kernel_rfl) fun _=>rfl
inductive VU where
 | b0 (a0:Af) (a1:Ai)
 | b1 (a0:Af) (a1:Ai) (a2:Af)
def Z3q:VU->Tr U ((Af×Int)⊕VU)
 | .b0 a0 a1=>.br (a1.Dn != 2) ( .br (a1.Dn != 1) ( AQ (a0,1)) ( AL (.b1 a0 a1 CU))) ( AL (.b1 a0 a1 CU))
 | .b1 a0 a1 a2=>.bind 61 (Ou (⟨0,0,0,a1⟩:CG)) (fun(x1:Int)=>.br (x1 != 0) ( AQ (a0,x1)) ( .br (decide ((↑a1.Payload.length:Int)>a0.AP.Length)) ( AQ (a0,4)) ( .bind 4 (YP a0.AP) (fun(x2:Bool)=>.br x2 ( AQ (a0,20)) ( .bind 369 (YZ a0.Ag a1) (fun(x3:CZ×Int)=>.br (x3.2 != 0) ( AQ (a0,x3.2)) ( AQ (({ a0 with Ag:=x3.1 }:Af),(0:Int)))))))))
def nK (a0:Af) (a1:Ai):Option (Af×Int):=Ad Z3q (.b0 a0 a1)
def ZhD:Az U:=⟨[55,67],100,fun x=>nK x.1 x.2.1,by decide⟩
def Z0E:Lay:=LT [2,3,4] [.p 0,.p 1,.p 2] [.s 55,.s 67,.s 55]
def Ze5:VU->BQ U
 | .b0 a0 a1=>Bi Tryz.f115 [55,67] (a0,a1,())
 | .b1 a0 a1 a2=>Ah Tryz.f115 [1,1,0] Z0E (((),((),((),()))),((a0,()),((a1,()),((a2,()),()))))
theorem ZeM:BA Tryz.prog B0 115 ZhD:=Bl (mc RY (mc Z0Y (mc Z0M BC))) BB (al [(3,Z0E)]) Ze5 Tryz.func115 (fun p=>by cases p<;>kernel_rfl) (by kernel_rfl) fun _=>rfl
inductive UU where
 | b0 (a0:Int)
 | b1 (a0:CQ)
 | b2 (a0:Int) (a1:CQ)
 | b3 (a0:CQ)
 | b4 (a0:Int) (a1:CQ)
 | b5 (a0:CQ)
 | b6 (a0:CQ)
def Z0I:UU->Tr U (CQ⊕UU)
 | .b0 a0=>.br (a0==0) ( AQ (⟨true,true,false,true,false,false,false,false,false,false,false⟩:CQ)) ( .br (a0==1) ( AQ (⟨true,false,true,true,false,false,false,false,false,false,false⟩:CQ)) ( .br (a0==2) ( AQ (⟨true,false,false,false,true,false,false,false,false,false,false⟩:CQ)) ( .br (a0==3) ( AQ (⟨true,false,false,false,false,false,true,true,false,false,false⟩:CQ)) ( .br (a0==4) ( AQ (⟨true,false,false,false,false,false,true,false,false,false,false⟩:CQ)) ( .br (a0==5) ( .br (a0==5) ( AL (.b1 Na)) ( AL (.b2 a0 Na))) ( .br (a0==6) ( .br (a0==6) ( AL (.b1 Na)) ( AL (.b2 a0 Na))) ( .br (a0==18) ( .br (a0==18) ( AL (.b1 Na)) ( AL (.b2 a0 Na))) ( .br (a0==19) ( AL (.b1 Na)) ( AL (.b2 a0 Na))))))))))
 | .b1 a0=>AQ (⟨true,false,false,false,false,false,false,false,false,false,false⟩:CQ)
 | .b2 a0 a1=>.br (a0==7) ( AQ (⟨true,false,false,false,false,true,false,false,false,false,false⟩:CQ)) ( .br (a0==8) ( .br (a0==8) ( AL (.b3 a1)) ( AL (.b4 a0 a1))) ( .br (a0==9) ( AL (.b3 a1)) ( AL (.b4 a0 a1))))
 | .b3 a0=>AQ (⟨true,false,false,false,false,false,false,false,true,false,false⟩:CQ)
 | .b4 a0 a1=>.br (a0==12) ( AQ (⟨true,false,false,false,false,false,false,false,false,true,false⟩:CQ)) ( .br (a0==13) ( AQ (⟨true,false,false,false,true,true,false,false,false,false,false⟩:CQ)) ( .br (a0==15) ( AQ (⟨true,true,false,false,false,false,false,false,false,false,false⟩:CQ)) ( .br (a0==20) ( .br (a0==20) ( AL (.b5 a1)) ( AL (.b6 a1))) ( .br (a0==21) ( AL (.b5 a1)) ( AL (.b6 a1))))))
 | .b5 a0=>AQ (⟨true,false,false,false,false,false,false,false,false,false,true⟩:CQ)
 | .b6 a0=>AQ Na
def Gv (a0:Int):Option CQ:=Ad Z0I (.b0 a0)
def ZcI:Az U:=⟨[3],448,fun x=>Gv x.1,by decide⟩
def Oh:Lay:=LT [2] [.p 0] [.s 448]
def Xb:Lay:=LT [2,3] [.p 0,.v 3] [.s 448]
def Zbv:UU->BQ U
 | .b0 a0=>Bi Tryz.f236 [3] (a0,())
 | .b1 a0=>Ah Tryz.f236 [1,0,1,0,1,1,1,1,1,1,1,1,1,1,1,0,0] Oh (((),()),((a0,()),()))
 | .b2 a0 a1=>Ah Tryz.f236 [1,0,1,0,1,1,1,1,1,1,1,1,1,1,1,1,0] Xb (((),((a0,()),())),((a1,()),()))
 | .b3 a0=>Ah Tryz.f236 [1,0,1,0,1,1,1,1,1,1,1,1,1,1,1,1,1,1,1,0,0] Oh (((),()),((a0,()),()))
 | .b4 a0 a1=>Ah Tryz.f236 [1,0,1,0,1,1,1,1,1,1,1,1,1,1,1,1,1,1,1,1,0] Xb (((),((a0,()),())),((a1,()),()))
 | .b5 a0=>Ah Tryz.f236 [1,0,1,0,1,1,1,1,1,1,1,1,1,1,1,1,1,1,1,1,1,1,1,1,1,1,1,0,0] Oh (((),()),((a0,()),()))
 | .b6 a0=>Ah Tryz.f236 [1,1,0] Oh (((),()),((a0,()),()))
theorem Oi:BA Tryz.prog B0 236 ZcI:=Bl BC BB (al [(16,Oh),(17,Xb),(21,Oh),(22,Xb),(30,Oh),(31,Oh)]) Zbv Tryz.func236 (fun p=>by cases p<;>kernel_rfl) (by kernel_rfl) fun _=>rfl
inductive UH where
 | b0 (a0:Int)
 | b1 (a0:Int)
 | b2 (a0:Int)
 | b3 (a0:Int)
 | b4 (a0:Int)
def zI:UH->Tr U (Int⊕UH)
 | .b0 a0=>.br (a0==0) ( .br (a0==0) ( AQ a0) ( AL (.b1 a0))) ( .br (a0==1) ( .br (a0==1) ( AQ a0) ( AL (.b1 a0))) ( .br (a0==2) ( .br (a0==2) ( AQ a0) ( AL (.b1 a0))) ( .br (a0==12) ( .br (a0==12) ( AQ a0) ( AL (.b1 a0))) ( .br (a0==15) ( AQ a0) ( AL (.b1 a0))))))
 | .b1 a0=>.br (a0==8) ( .br (a0==8) ( AQ (8:Int)) ( AL (.b2 a0))) ( .br (a0==9) ( AQ (8:Int)) ( AL (.b2 a0)))
 | .b2 a0=>.br (a0==3) ( .br (a0==3) ( AQ (3:Int)) ( AL (.b3 a0))) ( .br (a0==4) ( .br (a0==4) ( AQ (3:Int)) ( AL (.b3 a0))) ( .br (a0==5) ( .br (a0==5) ( AQ (3:Int)) ( AL (.b3 a0))) ( .br (a0==6) ( AQ (3:Int)) ( AL (.b3 a0)))))
 | .b3 a0=>.br (a0==18) ( .br (a0==18) ( AQ (18:Int)) ( AL (.b4 a0))) ( .br (a0==19) ( AQ (18:Int)) ( AL (.b4 a0)))
 | .b4 a0=>.br (a0==20) ( .br (a0==20) ( AQ (20:Int)) ( AQ (-1:Int))) ( .br (a0==21) ( AQ (20:Int)) ( AQ (-1:Int)))
def iV (a0:Int):Option Int:=Ad zI (.b0 a0)
def Z9p:Az U:=⟨[3],3,fun x=>iV x.1,by decide⟩
def Oc:Lay:=LT [3] [.v 3] []
def Z98:UH->BQ U
 | .b0 a0=>Bi Tryz.f265 [3] (a0,())
 | .b1 a0=>Ah Tryz.f265 [1,0,1,0,1,1,0,0] Oc (((a0,()),()),())
 | .b2 a0=>Ah Tryz.f265 [1,0,1,0,1,1,1,1,0,0] Oc (((a0,()),()),())
 | .b3 a0=>Ah Tryz.f265 [1,0,1,0,1,1,1,1,1,1,0,0] Oc (((a0,()),()),())
 | .b4 a0=>Ah Tryz.f265 [1,0,1,0,1,1,1,1,1,1,1,1,0,0] Oc (((a0,()),()),())
theorem Z97:BA Tryz.prog B0 265 Z9p:=Bl BC BB (al [(8,Oc),(11,Oc),(16,Oc),(19,Oc)]) Z98 Tryz.func265 (fun p=>by cases p<;>kernel_rfl) (by kernel_rfl) fun _=>rfl
def zM:S1 (Int×Unit) Bool
 | (a0,_)=>.bind 448 (Gv a0) (fun(x1:CQ)=>.br x1.JG ( .bind 3 (iV a0) (fun(x2:Int)=>AQ (x2==a0))) ( AQ false))
def iT (a0:Int):Option Bool:=Ad zM (a0,())
def Z9L:Az U:=⟨[3],4,fun x=>iT x.1,by decide⟩
theorem Z9m:BA Tryz.prog B0 216 Z9L:=ok1 (mc Oi (mc Z97 BC)) BB Tryz.func216 (fun _=>by kernel_rfl) (by kernel_rfl)
inductive U6 where
 | b0 (a0:Ae) (a1:AV)
 | b1 (a0 a1:AV)
def Z19:U6->Tr U (AV⊕U6)
 | .b0 a0 a1=>.br (a1.Kind==8) ( AQ ({ a1 with EU:=a0.EU }:AV)) ( .br (a1.Kind==12) ( AQ ({ a1 with Version:=11 }:AV)) ( .br (a1.Kind==0) ( .br (a1.Kind==0) ( AL (.b1 a1 Ig)) ( AQ a1)) ( .br (a1.Kind==1) ( AL (.b1 a1 Ig)) ( AQ a1))))
 | .b1 a0 a1=>AQ ({ a0 with EN:=0 }:AV)
def kZ (a0:Ae) (a1:AV):Option AV:=Ad Z19 (.b0 a0 a1)
def Zc1:Az U:=⟨[50,310],310,fun x=>kZ x.1 x.2.1,by decide⟩
def Zr:Lay:=LT [3,4] [.p 0,.p 1] [.s 310,.s 310]
def ZaR:U6->BQ U
 | .b0 a0 a1=>Bi Tryz.f217 [50,310] (a0,a1,())
 | .b1 a0 a1=>Ah Tryz.f217 [1,0,1,0,1,1,1,1,1,0] Zr (((),((),())),((a0,()),((a1,()),())))
theorem Zay:BA Tryz.prog B0 217 Zc1:=Bl BC BB (al [(8,Zr)]) ZaR Tryz.func217 (fun p=>by cases p<;>kernel_rfl) (by kernel_rfl) fun _=>rfl
inductive VO where
 | b0 (a0:AV)
 | b1 (a0 a1:AV) (a2:CQ)
 | b2 (a0 a1:AV) (a2:CQ)
 | b3 (a0 a1:AV) (a2:CQ)
 | b4 (a0 a1:AV) (a2:CQ)
 | b5 (a0 a1:AV) (a2:CQ)
 | b6 (a0 a1:AV) (a2:CQ)
 | b7 (a0 a1:AV) (a2:CQ)
 | b8 (a0 a1:AV) (a2:CQ)
 | b9 (a0 a1:AV) (a2:CQ)
def Z3v:VO->Tr U (AV⊕VO)
 | .b0 a0=>.bind 448 (Gv a0.Kind) (fun(x1:CQ)=>.br x1.BM ( AL (.b1 ({ a0 with Kind:=0,BM:=ET }:AV) Ig x1)) ( AL (.b1 ({ a0 with Kind:=0 }:AV) Ig x1)))
 | .b1 a0 a1 a2=>.br a2.Map ( AL (.b2 ({ a0 with Map:=0 }:AV) a1 a2)) ( AL (.b2 a0 a1 a2))
 | .b2 a0 a1 a2=>.br a2.EN ( AL (.b3 ({ a0 with EN:=0 }:AV) a1 a2)) ( AL (.b3 a0 a1 a2))
 | .b3 a0 a1 a2=>.br a2.BV ( AL (.b4 ({ a0 with BV:=0 }:AV) a1 a2)) ( AL (.b4 a0 a1 a2))
 | .b4 a0 a1 a2=>.br a2.H9 ( AL (.b5 ({ a0 with H9:=0 }:AV) a1 a2)) ( AL (.b5 a0 a1 a2))
 | .b5 a0 a1 a2=>.br a2.EG ( AL (.b6 ({ a0 with EG:=0 }:AV) a1 a2)) ( AL (.b6 a0 a1 a2))
 | .b6 a0 a1 a2=>.br a2.Mark ( AL (.b7 ({ a0 with Mark:=0 }:AV) a1 a2)) ( AL (.b7 a0 a1 a2))
 | .b7 a0 a1 a2=>.br a2.EU ( AL (.b8 ({ a0 with EU:=0 }:AV) a1 a2)) ( AL (.b8 a0 a1 a2))
 | .b8 a0 a1 a2=>.br a2.Version ( AL (.b9 ({ a0 with Version:=0 }:AV) a1 a2)) ( AL (.b9 a0 a1 a2))
 | .b9 a0 a1 a2=>.br a2.Length ( AQ ({ a0 with Length:=0 }:AV)) ( AQ a0)
def pI (a0:AV):Option AV:=Ad Z3v (.b0 a0)
def ZhI:Az U:=⟨[310],310,fun x=>pI x.1,by decide⟩
def IL:Lay:=LT [1,2,3] [.p 0,.p 1,.p 2] [.s 310,.s 310,.s 448]
def ZfV:VO->BQ U
 | .b0 a0=>Bi Tryz.f266 [310] (a0,())
 | .b1 a0 a1 a2=>Ah Tryz.f266 [1,1,1,1,0,0] IL (((),((),((),()))),((a0,()),((a1,()),((a2,()),()))))
 | .b2 a0 a1 a2=>Ah Tryz.f266 [1,1,1,1,1,0,0] IL (((),((),((),()))),((a0,()),((a1,()),((a2,()),()))))
 | .b3 a0 a1 a2=>Ah Tryz.f266 [1,1,1,1,1,1,0,0] IL (((),((),((),()))),((a0,()),((a1,()),((a2,()),()))))
 | .b4 a0 a1 a2=>Ah Tryz.f266 [1,1,1,1,1,1,1,0,0] IL (((),((),((),()))),((a0,()),((a1,()),((a2,()),()))))
 | .b5 a0 a1 a2=>Ah Tryz.f266 [1,1,1,1,1,1,1,1,0,0] IL (((),((),((),()))),((a0,()),((a1,()),((a2,()),()))))
 | .b6 a0 a1 a2=>Ah Tryz.f266 [1,1,1,1,1,1,1,1,1,0,0] IL (((),((),((),()))),((a0,()),((a1,()),((a2,()),()))))
 | .b7 a0 a1 a2=>Ah Tryz.f266 [1,1,1,1,1,1,1,1,1,1,0,0] IL (((),((),((),()))),((a0,()),((a1,()),((a2,()),()))))
 | .b8 a0 a1 a2=>Ah Tryz.f266 [1,1,1,1,1,1,1,1,1,1,1,0,0] IL (((),((),((),()))),((a0,()),((a1,()),((a2,()),()))))
 | .b9 a0 a1 a2=>Ah Tryz.f266 [1,1,1,1,1,1,1,1,1,1,1,1,0,0] IL (((),((),((),()))),((a0,()),((a1,()),((a2,()),()))))
theorem Zey:BA Tryz.prog B0 266 ZhI:=Bl (mc Oi BC) BB (al [(5,IL),(7,IL),(9,IL),(11,IL),(13,IL),(15,IL),(17,IL),(19,IL),(21,IL)]) ZfV Tryz.func266 (fun p=>by cases p<;>kernel_rfl) (by kernel_rfl) fun _=>rfl
def Z0N:S1 (Int×Unit) Bool
 | (a0,_)=>.br (decide (a0>=0)) ( AQ (decide (a0<=255))) ( AQ false)
def U2 (a0:Int):Option Bool:=Ad Z0N (a0,())
def Zdz:Az U:=⟨[3],4,fun x=>U2 x.1,by decide⟩
theorem Zar:BA Tryz.prog B0 267 Zdz:=ok1 BC BB Tryz.func267 (fun _=>by kernel_rfl) (by kernel_rfl)
inductive Uc where
 | b0 (a0:AV)
 | b1 (a0:AV) (a1:CQ)
 | b2 (a0:AV) (a1:CQ)
def Z2d:Uc->Tr U (Int⊕Uc)
 | .b0 a0=>.bind 448 (Gv a0.Kind) (fun(x1:CQ)=>.br (!x1.JG) ( AQ (12:Int)) ( .bind 310 (pI a0) (fun(x2:AV)=>.br (!((x2.Kind==0)&&((x2.BM.Gy==0)&&((x2.BM.Gl==0)&&((x2.BM.GK==0)&&((x2.BM.Fb==0)&&((x2.BM.He==0)&&((x2.Map==0)&&((x2.EN==0)&&((x2.BV==0)&&((x2.H9==0)&&((x2.EG==0)&&((x2.Mark==0)&&((x2.EU==0)&&((x2.Version==0)&&((x2.Length==0)&&true)))))))))))))))) ( AQ (1:Int)) ( .br x1.BM ( .bind 61 (XV a0.BM) (fun(x3:Int)=>.br (x3 != 0) ( AQ x3) ( AL (.b1 a0 x1)))) ( AL (.b1 a0 x1))))))
 | .b1 a0 a1=>.br a1.Map ( .bind 61 (YI a0.Map) (fun(x1:Int)=>.br (x1 != 0) ( AQ x1) ( AL (.b2 a0 a1)))) ( AL (.b2 a0 a1))
 | .b2 a0 a1=>.bind 4 (U2 a0.BV) (fun(x1:Bool)=>.br (!x1) ( AQ (5:Int)) ( .bind 4 (U2 a0.H9) (fun(x2:Bool)=>.br (!x2) ( AQ (5:Int)) ( .bind 4 (U2 a0.Version) (fun(x3:Bool)=>.br (!x3) ( AQ (5:Int)) ( .br a1.Length ( .br (decide (a0.Length<27)) ( AQ (5:Int)) ( .br (decide (a0.Length>251)) ( AQ (5:Int)) ( AQ (0:Int)))) ( AQ (0:Int))))))))
def Uw (a0:AV):Option Int:=Ad Z2d (.b0 a0)
def Zfa:Az U:=⟨[310],61,fun x=>Uw x.1,by decide⟩
def Xe:Lay:=LT [1,3] [.p 0,.p 1] [.s 310,.s 448]
def Zdr:Uc->BQ U
 | .b0 a0=>Bi Tryz.f218 [310] (a0,())
 | .b1 a0 a1=>Ah Tryz.f218 [1,1,1,1,1,0,0] Xe (((),((),())),((a0,()),((a1,()),())))
 | .b2 a0 a1=>Ah Tryz.f218 [1,1,1,1,1,1,0,0] Xe (((),((),())),((a0,()),((a1,()),())))
theorem kR:BA Tryz.prog B0 218 Zfa:=Bl (mc yD (mc Z13 (mc Oi (mc Zey (mc Zar BC))))) BB (al [(10,Xe),(14,Xe)]) Zdr Tryz.func218 (fun p=>by cases p<;>kernel_rfl) (by kernel_rfl) fun _=>rfl
def Z1J:S1 (Int×Unit) Bool
 | (a0,_)=>.br (a0==0) ( AQ true) ( AQ (a0==1))
def Oo (a0:Int):Option Bool:=Ad Z1J (a0,())
def Zfq:Az U:=⟨[3],4,fun x=>Oo x.1,by decide⟩
theorem RX:BA Tryz.prog B0 248 Zfq:=ok1 BC BB Tryz.func248 (fun _=>by kernel_rfl) (by kernel_rfl)
inductive Ua where
 | b0 (a0:Ae) (a1:Int)
 | b1 (a0 a1:Int) (a2:Ae)
def Z2C:Ua->Tr U (Bool⊕Ua)
 | .b0 a0 a1=>AL (.b1 a1 (0:Int) a0)
 | .b1 a0 a1 a2=>.br (decide (a1<(↑a2.Aa.length:Int))) ( .chk (kI a1 a2.Aa) ( .bind 310 (a2.Aa[(Int.toNat a1)]?) (fun(x1:AV)=>.br (x1.Kind==a0) ( AQ true) ( AL (.b1 a0 (A7 (a1+1)) a2))))) ( AQ false)
def mZ (a0:Ae) (a1:Int):Option Bool:=Ad Z2C (.b0 a0 a1)
def ZfG:Az U:=⟨[50,3],4,fun x=>mZ x.1 x.2.1,by decide⟩
def Z09:Lay:=LT [1,2,5] [.v 3,.p 0,.v 3] [.s 50]
def ZcX:Ua->BQ U
 | .b0 a0 a1=>Bi Tryz.f268 [50,3] (a0,a1,())
 | .b1 a0 a1 a2=>Ah Tryz.f268 [1,0,1,0,0,0,0] Z09 (((a0,()),((),((a1,()),()))),((a2,()),()))
theorem ZdB:BA Tryz.prog B0 268 ZfG:=Bl BC BB (al [(2,Z09)]) ZcX Tryz.func268 (fun p=>by cases p<;>kernel_rfl) (by kernel_rfl) fun _=>rfl
inductive UL where
 | b0 (a0:Ae) (a1:Int)
 | b1 (a0:Int) (a1:Ae)
 | b2 (a0:Int) (a1:Ae)
def ZM:UL->Tr U (Bool⊕UL)
 | .b0 a0 a1=>.br (a0.Gp != 0) ( AQ false) ( .br (a0.Own==2) ( AQ false) ( AL (.b1 a1 a0)))
 | .b1 a0 a1=>.bind 4 (Oo a0) (fun(x1:Bool)=>.br x1 ( .br (a1.Dl != 0) ( AQ false) ( .br (a0==15) ( .br (a1.Dl != 1) ( AQ false) ( AL (.b2 a0 a1))) ( AL (.b2 a0 a1)))) ( .br (a0==3) ( .br (a1.Dl != 0) ( AQ false) ( .br (a0==15) ( .br (a1.Dl != 1) ( AQ false) ( AL (.b2 a0 a1))) ( AL (.b2 a0 a1)))) ( .br (a0==15) ( .br (a1.Dl != 1) ( AQ false) ( AL (.b2 a0 a1))) ( AL (.b2 a0 a1)))))
 | .b2 a0 a1=>.br (a0 != 3) ( AQ true) ( .br (a1.EJ==0) ( .bind 4 (mZ a1 (3:Int)) (fun(x1:Bool)=>AQ (!x1))) ( AQ false))
def jJ (a0:Ae) (a1:Int):Option Bool:=Ad ZM (.b0 a0 a1)
def ZaZ:Az U:=⟨[50,3],4,fun x=>jJ x.1 x.2.1,by decide⟩
def X5:Lay:=LT [1,2] [.v 3,.p 0] [.s 50]
def Za1:UL->BQ U
 | .b0 a0 a1=>Bi Tryz.f219 [50,3] (a0,a1,())
 | .b1 a0 a1=>Ah Tryz.f219 [1,1,0,0] X5 (((a0,()),((),())),((a1,()),()))
 | .b2 a0 a1=>Ah Tryz.f219 [1,1,1,0] X5 (((a0,()),((),())),((a1,()),()))
theorem Za5:BA Tryz.prog B0 219 ZaZ:=Bl (mc RX (mc ZdB BC)) BB (al [(3,X5),(5,X5)]) Za1 Tryz.func219 (fun p=>by cases p<;>kernel_rfl) (by kernel_rfl) fun _=>rfl
def Z5l:S1 (Ae×AV×Unit) Bool
 | (a0,a1,_)=>.bind 4 (Oo a1.Kind) (fun(x1:Bool)=>.br (!x1) ( AQ true) ( AQ ((↑a0.Ap.length:Int)==0)))
def aK (a0:Ae) (a1:AV):Option Bool:=Ad Z5l (a0,a1,())
def ZjJ:Az U:=⟨[50,310],4,fun x=>aK x.1 x.2.1,by decide⟩
theorem Z2Z:BA Tryz.prog B0 220 ZjJ:=ok1 (mc RX BC) BB Tryz.func220 (fun _=>by kernel_rfl) (by kernel_rfl)
def Z56:S1 (Int×Int×Unit) Int
 | (a0,a1,_)=>AQ (IntKind.wrap .u16 ((Int.tmod (A7 ((A7 ((A7 (a0))+(Int.tmod a1 65536)))+65536)) (65536:Int))))
def Yx (a0 a1:Int):Option Int:=Ad Z56 (a0,a1,())
def Zjp:Az U:=⟨[41,3],41,fun x=>Yx x.1 x.2.1,by decide⟩
theorem Z36:BA Tryz.prog B0 222 Zjp:=ok1 BC BB Tryz.func222 (fun _=>by kernel_rfl) (by kernel_rfl)
def Z30:S1 (Int×Int×Unit) Int
 | (a0,a1,_)=>.bind 41 (Yx a0 (A7 ((6:Int)+(if (if (499:Int)<a1 then (499:Int) else a1)>0 then (if (499:Int)<a1 then (499:Int) else a1) else (0:Int))))) (fun(x1:Int)=>AQ x1)
def o9 (a0 a1:Int):Option Int:=Ad Z30 (a0,a1,())
def Zgj:Az U:=⟨[41,3],41,fun x=>o9 x.1 x.2.1,by decide⟩
theorem ZdM:BA Tryz.prog B0 269 Zgj:=ok1 (mc Z36 BC) BB Tryz.func269 (fun _=>by kernel_rfl) (by kernel_rfl)
inductive VH where
 | b0 (a0 a1:Int)
 | b1 (a0:Int)
def Z46:VH->Tr U (Int⊕VH)
 | .b0 a0 a1=>.br (decide ((A7 ((A7 (a1)) - (A7 (a0)))) < -32768)) ( AL (.b1 (A7 ((A7 ((A7 (a1)) - (A7 (a0))))+65536)))) ( AL (.b1 (A7 ((A7 (a1)) - (A7 (a0))))))
 | .b1 a0=>.br (decide (a0>32767)) ( AQ (A7 (a0 - 65536))) ( AQ a0)
def o5 (a0 a1:Int):Option Int:=Ad Z46 (.b0 a0 a1)
def Zgy:Az U:=⟨[41,41],3,fun x=>o5 x.1 x.2.1,by decide⟩
def Z0Q:Lay:=LT [5] [.v 3] []
def Zfs:VH->BQ U
 | .b0 a0 a1=>Bi Tryz.f285 [41,41] (a0,a1,())
 | .b1 a0=>Ah Tryz.f285 [1,1,1,0,0] Z0Q (((a0,()),()),())
theorem Zf1:BA Tryz.prog B0 285 Zgy:=Bl BC BB (al [(4,Z0Q)]) Zfs Tryz.func285 (fun p=>by cases p<;>kernel_rfl) (by kernel_rfl) fun _=>rfl
def Z0S:S1 (Int×Int×Unit) Bool
 | (a0,a1,_)=>.bind 3 (o5 a1 a0) (fun(x1:Int)=>AQ (decide (x1>=0)))
def Xy (a0 a1:Int):Option Bool:=Ad Z0S (a0,a1,())
def Zd9:Az U:=⟨[41,41],4,fun x=>Xy x.1 x.2.1,by decide⟩
theorem ZZ:BA Tryz.prog B0 276 Zd9:=ok1 (mc Zf1 BC) BB Tryz.func276 (fun _=>by kernel_rfl) (by kernel_rfl)
inductive Ud where
 | b0 (a0:Int) (a1:BP)
 | b1 (a0:Int) (a1:BP)
def Z1P:Ud->Tr U (Int⊕Ud)
 | .b0 a0 a1=>.br (a1.Kind != 0) ( .br (a1.Kind != 1) ( AQ (12:Int)) ( AL (.b1 a0 a1))) ( AL (.b1 a0 a1))
 | .b1 a0 a1=>.bind 4 (Xy a0 a1.EN) (fun(x1:Bool)=>.br x1 ( AQ (18:Int)) ( AQ (0:Int)))
def nG (a0:Int) (a1:BP):Option Int:=Ad Z1P (.b0 a0 a1)
def Zfk:Az U:=⟨[41,111],61,fun x=>nG x.1 x.2.1,by decide⟩
def ZO:Lay:=LT [0,3] [.v 41,.p 0] [.s 111]
def ZdD:Ud->BQ U
 | .b0 a0 a1=>Bi Tryz.f283 [41,111] (a0,a1,())
 | .b1 a0 a1=>Ah Tryz.f283 [1,1,0,0] ZO (((a0,()),((),())),((a1,()),()))
theorem Zc4:BA Tryz.prog B0 283 Zfk:=Bl (mc ZZ BC) BB (al [(3,ZO)]) ZdD Tryz.func283 (fun p=>by cases p<;>kernel_rfl) (by kernel_rfl) fun _=>rfl
def Z5j:S1 ((List BP)×Int×BP×Unit) ((List BP)×Int)
 | (a0,a1,a2,_)=>.chk true ( .chk (kA (0+a0.length) 64) ( .bind 61 (nG a1 a2) (fun(x1:Int)=>.br (x1 != 0) ( kl (([]:List BP)++a0) ( AQ ((([]:List BP)++a0),x1))) ( .br (decide ((↑a0.length:Int)>0)) ( kl (([]:List BP)++a0) ( AQ ((([]:List BP)++a0),(20:Int)))) ( .chk true ( kl (([]:List BP)++a0) ( .chk (kA ((([]:List BP)++a0).length+1) 64) ( kl ((([]:List BP)++a0)++[a2]) ( AQ (((([]:List BP)++a0)++[a2]),(0:Int)))))))))))
def Yt (a0:List BP) (a1:Int) (a2:BP):Option ((List BP)×Int):=Ad Z5j (a0,a1,a2,())
def Zit:Az U:=⟨[48,41,111],471,fun x=>Yt x.1 x.2.1 x.2.2.1,by decide⟩
theorem Z3k:BA Tryz.prog B0 270 Zit:=ok1 (mc Zc4 BC) BB Tryz.func270 (fun _=>by kernel_rfl) (by kernel_rfl)
def Z0R:S1 (AV×Unit) BP
 | (a0,_)=>AQ (⟨a0.Kind,a0.EN,a0.BM,a0.Map⟩:BP)
def YB (a0:AV):Option BP:=Ad Z0R (a0,())
def Zcw:Az U:=⟨[310],111,fun x=>YB x.1,by decide⟩
theorem ZG:BA Tryz.prog B0 271 Zcw:=ok1 BC BB Tryz.func271 (fun _=>by kernel_rfl) (by kernel_rfl)
end
noncomputable section
inductive Uj where
 | b0 (a0:Ae) (a1:AV) (a2 a3:Int)
 | b1 (a0:Int) (a1:Ae) (a2:AV) (a3:Ae) (a4:AV)
 | b2 (a0:Int) (a1:Ae) (a2:AV) (a3:Ae) (a4:AV)
 | b3 (a0:Ae) (a1:AV) (a2:Ae) (a3:AV)
 | b4 (a0:Ae) (a1:AV) (a2:Ae) (a3:AV)
 | b5 (a0:Ae) (a1:AV) (a2:Ae) (a3:AV)
def Z2L:Uj->Tr U ((Ae×AV)⊕Uj)
 | .b0 a0 a1 a2 a3=>.br (a1.Kind==0) ( .br (a1.Kind==0) ( AL (.b1 a2 ({ a0 with Own:=a1.Kind,Since:=a3 }:Ae) a1 EI Ig)) ( AL (.b2 a1.Kind ({ a0 with Own:=a1.Kind,Since:=a3 }:Ae) a1 EI Ig))) ( .br (a1.Kind==1) ( AL (.b1 a2 ({ a0 with Own:=a1.Kind,Since:=a3 }:Ae) a1 EI Ig)) ( AL (.b2 a1.Kind ({ a0 with Own:=a1.Kind,Since:=a3 }:Ae) a1 EI Ig)))
 | .b1 a0 a1 a2 a3 a4=>.bind 41 (o9 a0 (0:Int)) (fun(x1:Int)=>.bind 111 (YB ({ a2 with EN:=x1 }:AV)) (fun(x2:BP)=>.bind 471 (Yt a1.Ap a0 x2) (fun(x3:(List BP)×Int)=>.br (x3.2==0) ( AL (.b3 ({ a1 with Ap:=x3.1 }:Ae) ({ a2 with EN:=x1 }:AV) a3 a4)) ( AL (.b3 a1 ({ a2 with EN:=x1 }:AV) a3 a4)))))
 | .b2 a0 a1 a2 a3 a4=>.br (a0==3) ( AL (.b4 ({ a1 with EG:=a2.EG,Mark:=a2.Mark,EJ:=1 }:Ae) a2 a3 a4)) ( .br (a0==12) ( AL (.b4 ({ a1 with KG:=true }:Ae) a2 a3 a4)) ( .br (a0==20) ( AL (.b4 ({ a1 with Limit:=a2.Length }:Ae) a2 a3 a4)) ( AL (.b4 a1 a2 a3 a4))))
 | .b3 a0 a1 a2 a3=>.br (a1.Kind==0) ( .br (a0.Other==15) ( AL (.b5 ({ a0 with Told:=false }:Ae) a1 a2 a3)) ( AL (.b4 ({ a0 with Told:=false }:Ae) a1 a2 a3))) ( AL (.b4 ({ a0 with Told:=false }:Ae) a1 a2 a3))
 | .b4 a0 a1 a2 a3=>AQ (a0,a1)
 | .b5 a0 a1 a2 a3=>AL (.b4 ({ a0 with Other:=-1 }:Ae) a1 a2 a3)
def YT (a0:Ae) (a1:AV) (a2 a3:Int):Option (Ae×AV):=Ad Z2L (.b0 a0 a1 a2 a3)
def ZeS:Az U:=⟨[50,310,41,3],432,fun x=>YT x.1 x.2.1 x.2.2.1 x.2.2.2.1,by decide⟩
def Z0g:Lay:=LT [2,4,5,8,9] [.v 41,.p 0,.p 1,.p 2,.p 3] [.s 50,.s 310,.s 50,.s 310]
def ZV:Lay:=LT [4,5,8,9,18] [.p 0,.p 1,.p 2,.p 3,.v 3] [.s 50,.s 310,.s 50,.s 310]
def RQ:Lay:=LT [4,5,8,9] [.p 0,.p 1,.p 2,.p 3] [.s 50,.s 310,.s 50,.s 310]
def Zcr:Uj->BQ U
 | .b0 a0 a1 a2 a3=>Bi Tryz.f221 [50,310,41,3] (a0,a1,a2,a3,())
 | .b1 a0 a1 a2 a3 a4=>Ah Tryz.f221 [1,1,1,0,1,0,1,0,0] Z0g (((a0,()),((),((),((),((),()))))),((a1,()),((a2,()),((a3,()),((a4,()),())))))
 | .b2 a0 a1 a2 a3 a4=>Ah Tryz.f221 [1,1,1,0,1,0,1,1,0] ZV (((),((),((),((),((a0,()),()))))),((a1,()),((a2,()),((a3,()),((a4,()),())))))
 | .b3 a0 a1 a2 a3=>Ah Tryz.f221 [1,1,1,0,1,0,1,0,1,1,1,0] RQ (((),((),((),((),())))),((a0,()),((a1,()),((a2,()),((a3,()),())))))
 | .b4 a0 a1 a2 a3=>Ah Tryz.f221 [1,1,1,1,0] RQ (((),((),((),((),())))),((a0,()),((a1,()),((a2,()),((a3,()),())))))
 | .b5 a0 a1 a2 a3=>Ah Tryz.f221 [1,1,1,0,1,0,1,0,1,1,1,1,1,0] RQ (((),((),((),((),())))),((a0,()),((a1,()),((a2,()),((a3,()),())))))
theorem Z1m:BA Tryz.prog B0 221 ZeS:=Bl (mc ZdM (mc Z3k (mc ZG BC))) BB (al [(6,Z0g),(13,ZV),(10,RQ),(21,RQ),(12,RQ)]) Zcr Tryz.func221 (fun p=>by cases p<;>kernel_rfl) (by kernel_rfl) fun _=>rfl
inductive Ue where
 | b0 (a0:Ae) (a1:AV) (a2 a3:Int)
 | b1 (a0 a1:Ae)
 | b2 (a0 a1:Int) (a2:Ae) (a3:AV) (a4:Ae)
 | b3 (a0 a1:Int) (a2:Ae) (a3:AV) (a4:Ae)
 | b4 (a0:Ae) (a1:AV) (a2:Ae)
def Z1G:Ue->Tr U ((Ae×(List AV)×Int)⊕Ue)
 | .b0 a0 a1 a2 a3=>.bind 4 (iT a1.Kind) (fun(x1:Bool)=>.br (!x1) ( .chk true ( AQ (a0,([]:List AV),(12:Int)))) ( .bind 310 (kZ a0 a1) (fun(x2:AV)=>.bind 61 (Uw x2) (fun(x3:Int)=>.br (x3 != 0) ( .chk true ( AQ (a0,([]:List AV),x3))) ( .bind 4 (jJ a0 x2.Kind) (fun(x4:Bool)=>.br (!x4) ( .chk true ( AQ (a0,([]:List AV),(9:Int)))) ( .br (x2.Kind==12) ( .br a0.KG ( AL (.b1 a0 EI)) ( AL (.b2 a2 a3 a0 x2 EI))) ( AL (.b2 a2 a3 a0 x2 EI)))))))))
 | .b1 a0 a1=>.chk true ( AQ (a0,([]:List AV),(0:Int)))
 | .b2 a0 a1 a2 a3 a4=>.br (a3.Kind==2) ( AL (.b3 a0 a1 ({ a2 with Aa:=([]:List AV) }:Ae) a3 a4)) ( .br (decide (a2.Own>=0)) ( AL (.b4 a2 a3 a4)) ( .br (decide ((↑a2.Aa.length:Int)>0)) ( AL (.b4 a2 a3 a4)) ( .bind 4 (aK a2 a3) (fun(x1:Bool)=>.br (!x1) ( AL (.b4 a2 a3 a4)) ( AL (.b3 a0 a1 a2 a3 a4))))))
 | .b3 a0 a1 a2 a3 a4=>.bind 432 (YT a2 a3 a0 a1) (fun(x1:Ae×AV)=>.chk true ( AQ (x1.1,[x1.2],(0:Int))))
 | .b4 a0 a1 a2=>.br (decide ((↑a0.Aa.length:Int)>=8)) ( .chk true ( AQ (a0,([]:List AV),(8:Int)))) ( .chk true ( .chk (kA (0+a0.Aa.length) 120) ( .chk true ( kl (([]:List AV)++a0.Aa) ( .chk (kA ((([]:List AV)++a0.Aa).length+1) 120) ( kl ((([]:List AV)++a0.Aa)++[a1]) ( .chk true ( AQ (({ a0 with Aa:=((([]:List AV)++a0.Aa)++[a1]) }:Ae),([]:List AV),(0:Int))))))))))
def l9 (a0:Ae) (a1:AV) (a2 a3:Int):Option (Ae×(List AV)×Int):=Ad Z1G (.b0 a0 a1 a2 a3)
def ZeB:Az U:=⟨[50,310,41,3],371,fun x=>l9 x.1 x.2.1 x.2.2.1 x.2.2.2.1,by decide⟩
def ZB:Lay:=LT [4,8] [.p 0,.p 1] [.s 50,.s 50]
def Xl:Lay:=LT [2,3,4,5,8] [.v 41,.v 3,.p 0,.p 1,.p 2] [.s 50,.s 310,.s 50]
def ZJ:Lay:=LT [4,5,8] [.p 0,.p 1,.p 2] [.s 50,.s 310,.s 50]
def ZbS:Ue->BQ U
 | .b0 a0 a1 a2 a3=>Bi Tryz.f163 [50,310,41,3] (a0,a1,a2,a3,())
 | .b1 a0 a1=>Ah Tryz.f163 [1,1,1,1,1,0,1,0,0] ZB (((),((),())),((a0,()),((a1,()),())))
 | .b2 a0 a1 a2 a3 a4=>Ah Tryz.f163 [1,1,1,1,1,1,0,0] Xl (((a0,()),((a1,()),((),((),((),()))))),((a2,()),((a3,()),((a4,()),()))))
 | .b3 a0 a1 a2 a3 a4=>Ah Tryz.f163 [1,1,1,1,1,1,1,0] Xl (((a0,()),((a1,()),((),((),((),()))))),((a2,()),((a3,()),((a4,()),()))))
 | .b4 a0 a1 a2=>Ah Tryz.f163 [1,1,1,1,1,1,0,1,1,1,0,0,0] ZJ (((),((),((),()))),((a0,()),((a1,()),((a2,()),()))))
theorem Zc0:BA Tryz.prog B0 163 ZeB:=Bl (mc Z9m (mc Zay (mc kR (mc Za5 (mc Z2Z (mc Z1m BC)))))) BB (al [(10,ZB),(11,Xl),(18,Xl),(14,ZJ)]) ZbS Tryz.func163 (fun p=>by cases p<;>kernel_rfl) (by kernel_rfl) fun _=>rfl
def Z2u:S1 (Af×Unit) Int
 | (a0,_)=>.bind 41 (Yx a0.Event a0.Bz.BM.Fb) (fun(x1:Int)=>AQ x1)
def YO (a0:Af):Option Int:=Ad Z2u (a0,())
def Ze2:Az U:=⟨[55],41,fun x=>YO x.1,by decide⟩
theorem Z1c:BA Tryz.prog B0 164 Ze2:=ok1 (mc Z36 BC) BB Tryz.func164 (fun _=>by kernel_rfl) (by kernel_rfl)
def Z2I:S1 (Af×AV×Int×Unit) (Af×Int)
 | (a0,a1,a2,_)=>.bind 41 (YO a0) (fun(x1:Int)=>.bind 371 (l9 a0.AP a1 x1 a2) (fun(x2:Ae×(List AV)×Int)=>.br (x2.2.2 != 0) ( AQ (a0,x2.2.2)) ( .chk true ( .chk (kA (0+a0.A8.length) 120) ( kl (([]:List AV)++a0.A8) ( .chk (kA ((([]:List AV)++a0.A8).length+x2.2.1.length) 120) ( kl ((([]:List AV)++a0.A8)++x2.2.1) ( AQ (({ a0 with AP:=x2.1,A8:=((([]:List AV)++a0.A8)++x2.2.1) }:Af),(0:Int))))))))))
def Jy (a0:Af) (a1:AV) (a2:Int):Option (Af×Int):=Ad Z2I (a0,a1,a2,())
def ZeI:Az U:=⟨[55,310,3],100,fun x=>Jy x.1 x.2.1 x.2.2.1,by decide⟩
theorem ZcS:BA Tryz.prog B0 116 ZeI:=ok1 (mc Zc0 (mc Z1c BC)) BB Tryz.func116 (fun _=>by kernel_rfl) (by kernel_rfl)
def Z10:S1 (Int×Unit) Int
 | (a0,_)=>.br (decide (a0>2147483647)) ( AQ (2147483647:Int)) ( AQ (A7 (a0)))
def Xz (a0:Int):Option Int:=Ad Z10 (a0,())
def Zdm:Az U:=⟨[25],3,fun x=>Xz x.1,by decide⟩
theorem Zbw:BA Tryz.prog B0 117 Zdm:=ok1 BC BB Tryz.func117 (fun _=>by kernel_rfl) (by kernel_rfl)
def Z51:S1 (AV×Unit) (List AV)
 | (a0,_)=>.chk true ( AQ ([a0]))
def LV (a0:AV):Option (List AV):=Ad Z51 (a0,())
def Zis:Az U:=⟨[310],47,fun x=>LV x.1,by decide⟩
theorem Rl:BA Tryz.prog B0 223 Zis:=ok1 BC BB Tryz.func223 (fun _=>by kernel_rfl) (by kernel_rfl)
inductive U1 where
 | b0 (a0:Ae) (a1:Bool) (a2:Int)
 | b1 (a0:Bool) (a1:Int) (a2 a3:Ae)
def Z0x:U1->Tr U ((Ae×(List AV))⊕U1)
 | .b0 a0 a1 a2=>.br (a0.Dl != 1) ( .chk true ( AQ (a0,([]:List AV)))) ( .br (a0.Gp != 0) ( .chk true ( AQ (a0,([]:List AV)))) ( .br (a0.EJ != 1) ( .chk true ( AQ (a0,([]:List AV)))) ( AL (.b1 a1 a2 a0 EI))))
 | .b1 a0 a1 a2 a3=>.br (!a0) ( .bind 47 (LV (⟨13,ET,0,0,6,3,0,0,0,0,0⟩:AV)) (fun(x1:List AV)=>AQ (({ a2 with Other:=-1,EJ:=0 }:Ae),x1))) ( .chk true ( AQ (({ a2 with EG:=a1,EJ:=3 }:Ae),[(⟨4,ET,0,0,0,0,a1,0,0,0,0⟩:AV),(⟨5,ET,0,0,0,0,0,0,0,0,0⟩:AV)])))
def kX (a0:Ae) (a1:Bool) (a2:Int):Option (Ae×(List AV)):=Ad Z0x (.b0 a0 a1 a2)
def Zcf:Az U:=⟨[50,4,25],374,fun x=>kX x.1 x.2.1 x.2.2.1,by decide⟩
def Ze:Lay:=LT [1,2,3,6] [.v 4,.v 25,.p 0,.p 1] [.s 50,.s 50]
def ZaD:U1->BQ U
 | .b0 a0 a1 a2=>Bi Tryz.f165 [50,4,25] (a0,a1,a2,())
 | .b1 a0 a1 a2 a3=>Ah Tryz.f165 [1,1,0,0] Ze (((a0,()),((a1,()),((),((),())))),((a2,()),((a3,()),())))
theorem Zbz:BA Tryz.prog B0 165 Zcf:=Bl (mc Rl BC) BB (al [(3,Ze)]) ZaD Tryz.func165 (fun p=>by cases p<;>kernel_rfl) (by kernel_rfl) fun _=>rfl
def Z3C:S1 (DX×Bool×Bool×Unit) DX
 | (a0,a1,a2,_)=>AQ ({ a0 with TU:=a1,TW:=a2 }:DX)
def VW (a0:DX) (a1 a2:Bool):Option DX:=Ad Z3C (a0,a1,a2,())
def ZhP:Az U:=⟨[52,4,4],52,fun x=>VW x.1 x.2.1 x.2.2.1,by decide⟩
theorem lW:BA Tryz.prog B0 166 ZhP:=ok1 BC BB Tryz.func166 (fun _=>by kernel_rfl) (by kernel_rfl)
inductive V5 where
 | b0 (a0 a1:Int)
 | b1 (a0:Int)
def Z5z:V5->Tr U (Int⊕V5)
 | .b0 a0 a1=>.br (decide ((Int.tmod (A7 ((A7 ((Int.tmod a1 64)+64))*11)) (64:Int))>0)) ( .chk (decide (0<=(Int.tmod (A7 ((A7 ((Int.tmod a1 64)+64))*11)) (64:Int)))) ( .chk (decide (0<=(A7 ((64:Int) - (Int.tmod (A7 ((A7 ((Int.tmod a1 64)+64))*11)) (64:Int)))))) ( AL (.b1 (bits .or .u64 (IntKind.wrap .u64 (a0*2 ^ (min (Int.toNat (Int.tmod (A7 ((A7 ((Int.tmod a1 64)+64))*11)) (64:Int))) (IntKind.bits .u64)))) (Int.fdiv a0 (2 ^ (min (Int.toNat (A7 ((64:Int) - (Int.tmod (A7 ((A7 ((Int.tmod a1 64)+64))*11)) (64:Int))))) (IntKind.bits .u64))))))))) ( AL (.b1 a0))
 | .b1 a0=>AQ (IntKind.wrap .u32 ((Int.tmod a0 4294967296)))
def qK (a0 a1:Int):Option Int:=Ad Z5z (.b0 a0 a1)
def Zjt:Az U:=⟨[32,3],22,fun x=>qK x.1 x.2.1,by decide⟩
def Z1R:Lay:=LT [6] [.v 25] []
def Zip:V5->BQ U
 | .b0 a0 a1=>Bi Tryz.f288 [32,3] (a0,a1,())
 | .b1 a0=>Ah Tryz.f288 [1,1,1,1,0] Z1R (((a0,()),()),())
theorem Zg9:BA Tryz.prog B0 288 Zjt:=Bl BC BB (al [(5,Z1R)]) Zip Tryz.func288 (fun p=>by cases p<;>kernel_rfl) (by kernel_rfl) fun _=>rfl
def Z3Y:S1 (Int×Int×Unit) Int
 | (a0,a1,_)=>.chk (decide (0<=a1)) ( .chk (decide (0<=(A7 ((32:Int) - a1)))) ( AQ (bits .or .u32 (IntKind.wrap .u32 (a0*2 ^ (min (Int.toNat a1) (IntKind.bits .u32)))) (Int.fdiv a0 (2 ^ (min (Int.toNat (A7 ((32:Int) - a1))) (IntKind.bits .u32)))))))
def Yl (a0 a1:Int):Option Int:=Ad Z3Y (a0,a1,())
def Zih:Az U:=⟨[22,3],22,fun x=>Yl x.1 x.2.1,by decide⟩
theorem ZdI:BA Tryz.prog B0 289 Zih:=ok1 BC BB Tryz.func289 (fun _=>by kernel_rfl) (by kernel_rfl)
def Z2f:S1 (Int×Int×Int×Unit) Int
 | (a0,a1,a2,_)=>.bind 22 (qK a0 a1) (fun(x1:Int)=>.bind 22 (Yl (IntKind.wrap .u32 (a2+x1)) (7:Int)) (fun(x2:Int)=>.bind 22 (Yl x1 (16:Int)) (fun(x3:Int)=>AQ (bits .xor .u32 (IntKind.wrap .u32 (x2*2654435761)) x3))))
def lT (a0 a1 a2:Int):Option Int:=Ad Z2f (a0,a1,a2,())
def Zed:Az U:=⟨[32,3,22],22,fun x=>lT x.1 x.2.1 x.2.2.1,by decide⟩
theorem Zdf:BA Tryz.prog B0 286 Zed:=ok1 (mc Zg9 (mc ZdI BC)) BB Tryz.func286 (fun _=>by kernel_rfl) (by kernel_rfl)
inductive Vk where
 | b0 (a0 a1:Int)
 | b1 (a0 a1 a2 a3:Int)
def Z4D:Vk->Tr U (Int⊕Vk)
 | .b0 a0 a1=>AL (.b1 a0 (IntKind.wrap .u32 ((IntKind.wrap .u64 (Int.tdiv a1 4294967296)))) (IntKind.wrap .u32 ((Int.tmod a1 4294967296))) (0:Int))
 | .b1 a0 a1 a2 a3=>.br (decide (a3<8)) ( .bind 22 (lT a0 a3 a2) (fun(x1:Int)=>AL (.b1 a0 a2 (bits .xor .u32 a1 x1) (A7 (a3+1))))) ( AQ (IntKind.wrap .u64 ((IntKind.wrap .u64 ((IntKind.wrap .u64 (a1))*4294967296))+(IntKind.wrap .u64 (a2)))))
def Rt (a0 a1:Int):Option Int:=Ad Z4D (.b0 a0 a1)
def Zjl:Az U:=⟨[32,25],25,fun x=>Rt x.1 x.2.1,by decide⟩
def Z1T:Lay:=LT [0,5,6,7] [.v 32,.v 22,.v 22,.v 3] []
def Zi0:Vk->BQ U
 | .b0 a0 a1=>Bi Tryz.f277 [32,25] (a0,a1,())
 | .b1 a0 a1 a2 a3=>Ah Tryz.f277 [1,1,1,0,1,0,0,0,0] Z1T (((a0,()),((a1,()),((a2,()),((a3,()),())))),())
theorem Z3A:BA Tryz.prog B0 277 Zjl:=Bl (mc Zdf BC) BB (al [(4,Z1T)]) Zi0 Tryz.func277 (fun p=>by cases p<;>kernel_rfl) (by kernel_rfl) fun _=>rfl
inductive Uf where
 | b0 (a0:List Int)
 | b1 (a0:List Int) (a1 a2:Int)
def Z1E:Uf->Tr U (Int⊕Uf)
 | .b0 a0=>AL (.b1 a0 (0:Int) (A7 ((↑a0.length:Int) - 1)))
 | .b1 a0 a1 a2=>.br (decide (a2>=0)) ( .chk (kI a2 a0) ( .bind 5 (a0[(Int.toNat a2)]?) (fun(x1:Int)=>AL (.b1 a0 (IntKind.wrap .u64 ((IntKind.wrap .u64 (a1*256))+(IntKind.wrap .u64 (x1)))) (A7 (a2 - 1)))))) ( AQ a1)
def lM (a0:List Int):Option Int:=Ad Z1E (.b0 a0)
def ZeW:Az U:=⟨[65],25,fun x=>lM x.1,by decide⟩
def Z0m:Lay:=LT [0,3,4] [.v 65,.v 25,.v 3] []
def Zc6:Uf->BQ U
 | .b0 a0=>Bi Tryz.f284 [65] (a0,())
 | .b1 a0 a1 a2=>Ah Tryz.f284 [1,1,0,1,0,0,0,0] Z0m (((a0,()),((a1,()),((a2,()),()))),())
theorem ZcC:BA Tryz.prog B0 284 ZeW:=Bl BC BB (al [(3,Z0m)]) Zc6 Tryz.func284 (fun p=>by cases p<;>kernel_rfl) (by kernel_rfl) fun _=>rfl
inductive Vo where
 | b0 (a0:Int) (a1:List Int)
 | b1 (a0:Int) (a1:List Int) (a2 a3:Int)
def Z5g:Vo->Tr U (Int⊕Vo)
 | .b0 a0 a1=>.bind 25 (Rt a0 (IntKind.wrap .u64 ((↑a1.length:Int)))) (fun(x1:Int)=>AL (.b1 a0 a1 x1 (0:Int)))
 | .b1 a0 a1 a2 a3=>.br (decide (a3<(↑a1.length:Int))) ( .chk (decide (0<=(if (↑a1.length:Int)<(A7 (a3+8)) then (↑a1.length:Int) else (A7 (a3+8)))/\(if (↑a1.length:Int)<(A7 (a3+8)) then (↑a1.length:Int) else (A7 (a3+8)))<=(↑a1.length:Int))) ( .chk (decide (0<=a3/\a3<=(↑(Int.toNat (if (↑a1.length:Int)<(A7 (a3+8)) then (↑a1.length:Int) else (A7 (a3+8)))):Int))) ( .bind 25 (lM ((a1.drop (Int.toNat a3)).take ((Int.toNat (if (↑a1.length:Int)<(A7 (a3+8)) then (↑a1.length:Int) else (A7 (a3+8)))) - (Int.toNat a3)))) (fun(x1:Int)=>.bind 25 (Rt a0 (bits .xor .u64 a2 x1)) (fun(x2:Int)=>AL (.b1 a0 a1 x2 (A7 (a3+8)))))))) ( AQ a2)
def aG (a0:Int) (a1:List Int):Option Int:=Ad Z5g (.b0 a0 a1)
def ZiL:Az U:=⟨[32,65],25,fun x=>aG x.1 x.2.1,by decide⟩
def Z2x:Lay:=LT [0,1,5,6] [.v 32,.v 65,.v 25,.v 3] []
def Zhi:Vo->BQ U
 | .b0 a0 a1=>Bi Tryz.f273 [32,65] (a0,a1,())
 | .b1 a0 a1 a2 a3=>Ah Tryz.f273 [1,1,0,1,0,0,0,0] Z2x (((a0,()),((a1,()),((a2,()),((a3,()),())))),())
theorem Z3w:BA Tryz.prog B0 273 ZiL:=Bl (mc Z3A (mc ZcC BC)) BB (al [(3,Z2x)]) Zhi Tryz.func273 (fun p=>by cases p<;>kernel_rfl) (by kernel_rfl) fun _=>rfl
inductive V6 where
 | b0 (a0 a1:Int)
 | b1 (a0 a1:Int) (a2:List Int) (a3:Int)
def Z5D:V6->Tr U (Jh⊕V6)
 | .b0 a0 a1=>.chk true ( AL (.b1 a0 a1 ([]:List Int) (0:Int)))
 | .b1 a0 a1 a2 a3=>.br (decide (a3<a0)) ( .chk true ( kl a2 ( .chk (kA (a2.length+1) 1) ( kl (a2++[(IntKind.wrap .u8 ((Int.tmod a1 256)))]) ( AL (.b1 a0 (IntKind.wrap .u64 (Int.tdiv a1 256)) (a2++[(IntKind.wrap .u8 ((Int.tmod a1 256)))]) (A7 (a3+1)))))))) ( kl a2 ( AQ (⟨a2⟩:Jh)))
def QR (a0 a1:Int):Option Jh:=Ad Z5D (.b0 a0 a1)
def Z2O:Shape:=⟨[OV 3,OV 25],[]⟩
def Zdw:Shape:=⟨[.one (.own 5 0)],[.row 5 true]⟩
noncomputable def Zk5:HMod U:=⟨[KP,KP],[],Z2O,Zdw,true,1585,fun(y:Jh)=>(((),()),(y.q0,())),fun x=>QR x.1.1.1 x.1.2.1.1,okS rfl⟩
def Z2A:Lay:=LT [0,1,5,6] [.v 3,.v 25,.o 5 1 0,.v 3] [.r 5]
def Zik:V6->BQ U
 | .b0 a0 a1=>HY Tryz.f272 Z2O (((a0,()),((a1,()),())),())
 | .b1 a0 a1 a2 a3=>Ah Tryz.f272 [1,1,0,1,0,0,0,0] Z2A (((a0,()),((a1,()),((),((a3,()),())))),(a2,()))
theorem Yg:E8 Tryz.prog B0 272 Zk5:=okR BC BB (al [(3,Z2A)]) [[.own 5 1]] [.row true] 0 Zik Tryz.func272 (fun p=>by cases p<;>kernel_rfl) (by kernel_rfl) fun x=>by kernel_rfl
inductive UW where
 | b0 (a0:Int) (a1:ByteArray) (a2:List Int)
 | b1 (a0:Int) (a1 a2:List Int) (a3:Int)
def Z1j:UW->Tr U (Int⊕UW)
 | .b0 a0 a1 a2=>.chk (fA U 5 a1) ( .chk true ( kl (MI U 5 a1) ( .chk (kA ((MI U 5 a1).length+1) 1) ( kl ((MI U 5 a1)++[(0:Int)]) ( AL (.b1 a0 a2 ((MI U 5 a1)++[(0:Int)]) (0:Int)))))))
 | .b1 a0 a1 a2 a3=>.br (decide (a3<(↑a1.length:Int))) ( .chk (kI a3 a1) ( .bind 25 (a1[(Int.toNat a3)]?) (fun(x1:Int)=>.bind 1585 (QR (8:Int) x1) (fun(y2:Jh)=>kl y2.q0 ( kl a2 ( .chk (kA (a2.length+y2.q0.length) 1) ( kl (a2++y2.q0) ( AL (.b1 a0 a1 (a2++y2.q0) (A7 (a3+1))))))))))) ( kl a2 ( .bind 25 (aG a0 a2) (fun(x3:Int)=>AQ x3)))
def kV (a0:Int) (a1:ByteArray) (a2:List Int):Option Int:=Ad Z1j (.b0 a0 a1 a2)
def Zci:Az U:=⟨[32,9,352],32,fun x=>kV x.1 x.2.1 x.2.2.1,by decide⟩
def Zq:Lay:=LT [0,2,7,8] [.v 32,.v 352,.o 5 1 0,.v 3] [.r 5]
def Zb5:UW->BQ U
 | .b0 a0 a1 a2=>Bi Tryz.f224 [32,9,352] (a0,a1,a2,())
 | .b1 a0 a1 a2 a3=>Ah Tryz.f224 [1,1,0,1,0,0,0,0] Zq (((a0,()),((a1,()),((),((a3,()),())))),(a2,()))
theorem Zbl:BA Tryz.prog B0 224 Zci:=Bl (mc Z3w BC) (hc [] Yg BB) (al [(3,Zq)]) Zb5 Tryz.func224 (fun p=>by cases p<;>kernel_rfl) (by kernel_rfl) fun _=>rfl
def Z4W:S1 (Int×Int×Int×Int×Unit) DX
 | (a0,a1,a2,a3,_)=>.chk true ( .bind 32 (kV a1 (⟨#[115,101,115,115,105,111,110]⟩:ByteArray) ([a2,a3])) (fun(x1:Int)=>.br (a0==1) ( AQ (⟨1,x1,(bits .xor .u64 a2 a3),false,false,0,0⟩:DX)) ( AQ (⟨0,x1,(bits .xor .u64 a2 a3),false,false,0,0⟩:DX))))
def Yw (a0 a1 a2 a3:Int):Option DX:=Ad Z4W (a0,a1,a2,a3,())
def ZiZ:Az U:=⟨[3,32,25,25],52,fun x=>Yw x.1 x.2.1 x.2.2.1 x.2.2.2.1,by decide⟩
theorem Z4k:BA Tryz.prog B0 167 ZiZ:=ok1 (mc Zbl BC) BB Tryz.func167 (fun _=>by kernel_rfl) (by kernel_rfl)
inductive Vb where
 | b0 (a0:Af) (a1:Int)
 | b1 (a0:Int) (a1 a2:Af)
def Z4K:Vb->Tr U ((Af×Int)⊕Vb)
 | .b0 a0 a1=>.br (a0.Dl != 1) ( AQ (a0,9)) ( .br (a0.AP.EJ != 1) ( AQ (a0,9)) ( AL (.b1 a1 a0 CU)))
 | .b1 a0 a1 a2=>.bind 374 (kX a1.AP (a0 != 0) a1.Jc) (fun(x1:Ae×(List AV))=>.chk true ( .chk (kA (0+a1.A8.length) 120) ( kl (([]:List AV)++a1.A8) ( .chk (kA ((([]:List AV)++a1.A8).length+x1.2.length) 120) ( .br (a0 != 0) ( .bind 52 (Yw a1.Dl a0 x1.1.Ku x1.1.EG) (fun(x2:DX)=>.bind 52 (VW x2 false true) (fun(x3:DX)=>kl ((([]:List AV)++a1.A8)++x1.2) ( AQ (({ a1 with AP:=x1.1,Ef:=x3,Key:=a0,A8:=((([]:List AV)++a1.A8)++x1.2) }:Af),(0:Int)))))) ( kl ((([]:List AV)++a1.A8)++x1.2) ( AQ (({ a1 with AP:=x1.1,A8:=((([]:List AV)++a1.A8)++x1.2) }:Af),(0:Int)))))))))
def pW (a0:Af) (a1:Int):Option (Af×Int):=Ad Z4K (.b0 a0 a1)
def ZjD:Az U:=⟨[55,32],100,fun x=>pW x.1 x.2.1,by decide⟩
def Z2v:Lay:=LT [1,2,4] [.v 32,.p 0,.p 1] [.s 55,.s 55]
def Zhm:Vb->BQ U
 | .b0 a0 a1=>Bi Tryz.f118 [55,32] (a0,a1,())
 | .b1 a0 a1 a2=>Ah Tryz.f118 [1,1,0] Z2v (((a0,()),((),((),()))),((a1,()),((a2,()),())))
theorem Zia:BA Tryz.prog B0 118 ZjD:=Bl (mc Zbz (mc lW (mc Z4k BC))) BB (al [(3,Z2v)]) Zhm Tryz.func118 (fun p=>by cases p<;>kernel_rfl) (by kernel_rfl) fun _=>rfl
def Z2U:S1 (Int×Unit) Int
 | (a0,_)=>AQ (if (if (65536:Int)<a0 then (65536:Int) else a0)>0 then (if (65536:Int)<a0 then (65536:Int) else a0) else (0:Int))
def Om (a0:Int):Option Int:=Ad Z2U (a0,())
def Zek:Az U:=⟨[3],3,fun x=>Om x.1,by decide⟩
theorem kS:BA Tryz.prog B0 170 Zek:=ok1 BC BB Tryz.func170 (fun _=>by kernel_rfl) (by kernel_rfl)
def Z3n:S1 (Ba×Unit) Int
 | (a0,_)=>.bind 3 (Om a0.Good) (fun(x1:Int)=>.bind 3 (Om a0.O8) (fun(x2:Int)=>.br ((A7 (x1+x2))==0) ( AQ (0:Int)) ( .chk ((A7 (x1+x2)) != 0) ( AQ (A7 (Int.tdiv (A7 (x2*1000)) (A7 (x1+x2))))))))
def VI (a0:Ba):Option Int:=Ad Z3n (a0,())
def ZgN:Az U:=⟨[380],3,fun x=>VI x.1,by decide⟩
theorem Z2T:BA Tryz.prog B0 227 ZgN:=ok1 (mc kS BC) BB Tryz.func227 (fun _=>by kernel_rfl) (by kernel_rfl)
def Z55:S1 (Ba×Unit) Bool
 | (a0,_)=>.bind 3 (Om a0.Good) (fun(x1:Int)=>.bind 3 (Om a0.O8) (fun(x2:Int)=>.br (decide ((A7 (x1+x2))>=8)) ( .bind 3 (VI a0) (fun(x3:Int)=>AQ (decide (x3>=250)))) ( AQ false)))
def qX (a0:Ba):Option Bool:=Ad Z55 (a0,())
def Zj4:Az U:=⟨[380],4,fun x=>qX x.1,by decide⟩
theorem ZgZ:BA Tryz.prog B0 225 Zj4:=ok1 (mc kS (mc Z2T BC)) BB Tryz.func225 (fun _=>by kernel_rfl) (by kernel_rfl)
inductive Vy where
 | b0 (a0:List Ba) (a1:Int)
 | b1 (a0:Ba)
 | b2 (a0:List Ba) (a1:Int) (a2:Ba)
def Z5T:Vy->Tr U (Ba⊕Vy)
 | .b0 a0 a1=>.br (decide (a1<0)) ( AL (.b1 (⟨0,0⟩:Ba))) ( .br (decide (a1>=(↑a0.length:Int))) ( AL (.b1 (⟨0,0⟩:Ba))) ( AL (.b2 a0 a1 (⟨0,0⟩:Ba))))
 | .b1 a0=>AQ (⟨0,0⟩:Ba)
 | .b2 a0 a1 a2=>.chk (kI a1 a0) ( .bind 380 (a0[(Int.toNat a1)]?) (fun(x1:Ba)=>AQ x1))
def WE (a0:List Ba) (a1:Int):Option Ba:=Ad Z5T (.b0 a0 a1)
def Zl7:Az U:=⟨[53,3],380,fun x=>WE x.1 x.2.1,by decide⟩
def Z38:Lay:=LT [4] [.p 0] [.s 380]
def Z3a:Lay:=LT [0,1,4] [.v 53,.v 3,.p 0] [.s 380]
def ZjU:Vy->BQ U
 | .b0 a0 a1=>Bi Tryz.f226 [53,3] (a0,a1,())
 | .b1 a0=>Ah Tryz.f226 [1,0,1,0,0] Z38 (((),()),((a0,()),()))
 | .b2 a0 a1 a2=>Ah Tryz.f226 [1,1,0] Z3a (((a0,()),((a1,()),((),()))),((a2,()),()))
theorem Ziv:BA Tryz.prog B0 226 Zl7:=Bl BC BB (al [(2,Z38),(3,Z3a)]) ZjU Tryz.func226 (fun p=>by cases p<;>kernel_rfl) (by kernel_rfl) fun _=>rfl
inductive Um where
 | b0 (a0:List Ba) (a1:List Int)
 | b1 (a0:List Ba) (a1:List Int) (a2 a3:Int)
 | b2 (a0:List Ba) (a1:List Int) (a2 a3:Int)
 | b3 (a0:List Ba) (a1:List Int) (a2:Int)
def Z2l:Um->Tr U (Int⊕Um)
 | .b0 a0 a1=>AL (.b1 a0 a1 (-1:Int) (0:Int))
 | .b1 a0 a1 a2 a3=>.br (decide (a3<(↑a1.length:Int))) ( .chk (kI a3 a1) ( .bind 3 (a1[(Int.toNat a3)]?) (fun(x1:Int)=>.bind 380 (WE a0 x1) (fun(x2:Ba)=>.bind 4 (qX x2) (fun(x3:Bool)=>.br (!x3) ( AL (.b2 a0 a1 a2 a3)) ( .br (decide (a2<0)) ( AL (.b3 a0 a1 a3)) ( .chk (kI a3 a1) ( .bind 3 (a1[(Int.toNat a3)]?) (fun(x4:Int)=>.bind 380 (WE a0 x4) (fun(x5:Ba)=>.bind 3 (VI x5) (fun(x6:Int)=>.chk (kI a2 a1) ( .bind 3 (a1[(Int.toNat a2)]?) (fun(x7:Int)=>.bind 380 (WE a0 x7) (fun(x8:Ba)=>.bind 3 (VI x8) (fun(x9:Int)=>.br (decide (x6>x9)) ( AL (.b3 a0 a1 a3)) ( AL (.b2 a0 a1 a2 a3))))))))))))))))) ( AQ a2)
 | .b2 a0 a1 a2 a3=>AL (.b1 a0 a1 a2 (A7 (a3+1)))
 | .b3 a0 a1 a2=>AL (.b2 a0 a1 a2 a2)
def lG (a0:List Ba) (a1:List Int):Option Int:=Ad Z2l (.b0 a0 a1)
def ZeC:Az U:=⟨[53,93],3,fun x=>lG x.1 x.2.1,by decide⟩
def Xi:Lay:=LT [0,1,5,6] [.v 53,.v 93,.v 3,.v 3] []
def Zz:Lay:=LT [0,1,6] [.v 53,.v 93,.v 3] []
def Zd7:Um->BQ U
 | .b0 a0 a1=>Bi Tryz.f168 [53,93] (a0,a1,())
 | .b1 a0 a1 a2 a3=>Ah Tryz.f168 [1,1,0,1,0,0,0,0] Xi (((a0,()),((a1,()),((a2,()),((a3,()),())))),())
 | .b2 a0 a1 a2 a3=>Ah Tryz.f168 [1,1,0,1,0,0,1,1] Xi (((a0,()),((a1,()),((a2,()),((a3,()),())))),())
 | .b3 a0 a1 a2=>Ah Tryz.f168 [1,1,0,1,0,0,1,0,0,1,1,0] Zz (((a0,()),((a1,()),((a2,()),()))),())
theorem ZcL:BA Tryz.prog B0 168 ZeC:=Bl (mc ZgZ (mc Ziv (mc Z2T BC))) BB (al [(3,Xi),(4,Xi),(7,Zz)]) Zd7 Tryz.func168 (fun p=>by cases p<;>kernel_rfl) (by kernel_rfl) fun _=>rfl
inductive Vw where
 | b0 (a0:List Int)
 | b1 (a0:List Int) (a1 a2:Int)
def Z5N:Vw->Tr U (Int⊕Vw)
 | .b0 a0=>AL (.b1 a0 (0:Int) (0:Int))
 | .b1 a0 a1 a2=>.br (decide (a2<(↑a0.length:Int))) ( .chk (kI a2 a0) ( .bind 3 (a0[(Int.toNat a2)]?) (fun(x1:Int)=>.bind 25 (Ut x1) (fun(x2:Int)=>AL (.b1 a0 (IntKind.wrap .u64 (a1+x2)) (A7 (a2+1))))))) ( AQ a1)
def rC (a0:List Int):Option Int:=Ad Z5N (.b0 a0)
def Zlb:Az U:=⟨[93],26,fun x=>rC x.1,by decide⟩
def Z3s:Lay:=LT [0,3,4] [.v 93,.v 25,.v 3] []
def Zje:Vw->BQ U
 | .b0 a0=>Bi Tryz.f169 [93] (a0,())
 | .b1 a0 a1 a2=>Ah Tryz.f169 [1,1,0,1,0,0,0,0] Z3s (((a0,()),((a1,()),((a2,()),()))),())
theorem Zka:BA Tryz.prog B0 169 Zlb:=Bl (mc kP BC) BB (al [(3,Z3s)]) Zje Tryz.func169 (fun p=>by cases p<;>kernel_rfl) (by kernel_rfl) fun _=>rfl
inductive UO where
 | b0 (a0:List Ba) (a1 a2:Int)
 | b1 (a0:List Ba) (a1:Int) (a2:List Int)
 | b2 (a0:List Int)
def Z06:UO->Tr U (Int⊕UO)
 | .b0 a0 a1 a2=>.bind 93 (VF a1) (fun(x1:List Int)=>AL (.b1 a0 (if (if (37:Int)<a2 then (37:Int) else a2)>2 then (if (37:Int)<a2 then (37:Int) else a2) else (2:Int)) x1))
 | .b1 a0 a1 a2=>.br (decide ((↑a2.length:Int)>a1)) ( .bind 3 (lG a0 a2) (fun(x1:Int)=>.br (decide (x1<0)) ( AL (.b2 a2)) ( .chk (decide (0<=x1/\x1<=(↑a2.length:Int))) ( .chk true ( .chk (kA (0+((a2.drop 0).take ((Int.toNat x1) - 0)).length) 8) ( .chk (decide (0<=(A7 (x1+1))/\(A7 (x1+1))<=(↑a2.length:Int))) ( kl (([]:List Int)++((a2.drop 0).take ((Int.toNat x1) - 0))) ( .chk (kA ((([]:List Int)++((a2.drop 0).take ((Int.toNat x1) - 0))).length+((a2.drop (Int.toNat (A7 (x1+1)))).take (a2.length - (Int.toNat (A7 (x1+1))))).length) 8) ( kl ((([]:List Int)++((a2.drop 0).take ((Int.toNat x1) - 0)))++((a2.drop (Int.toNat (A7 (x1+1)))).take (a2.length - (Int.toNat (A7 (x1+1)))))) ( AL (.b1 a0 a1 ((([]:List Int)++((a2.drop 0).take ((Int.toNat x1) - 0)))++((a2.drop (Int.toNat (A7 (x1+1)))).take (a2.length - (Int.toNat (A7 (x1+1))))))))))))))))) ( AL (.b2 a2))
 | .b2 a0=>.bind 26 (rC a0) (fun(x1:Int)=>AQ x1)
def jH (a0:List Ba) (a1 a2:Int):Option Int:=Ad Z06 (.b0 a0 a1 a2)
def Zb9:Az U:=⟨[53,26,3],26,fun x=>jH x.1 x.2.1 x.2.2.1,by decide⟩
def zN:Lay:=LT [0,2,7] [.v 53,.v 3,.v 93] []
def zO:Lay:=LT [7] [.v 93] []
def Zaa:UO->BQ U
 | .b0 a0 a1 a2=>Bi Tryz.f119 [53,26,3] (a0,a1,a2,())
 | .b1 a0 a1 a2=>Ah Tryz.f119 [1,1,1,0,0,0,0,0] zN (((a0,()),((a1,()),((a2,()),()))),())
 | .b2 a0=>Ah Tryz.f119 [1,1,1,1,0] zO (((a0,()),()),())
theorem Za8:BA Tryz.prog B0 119 Zb9:=Bl (mc lQ (mc ZcL (mc Zka BC))) BB (al [(3,zN),(7,zO)]) Zaa Tryz.func119 (fun p=>by cases p<;>kernel_rfl) (by kernel_rfl) fun _=>rfl
inductive Uk where
 | b0 (a0:List Ba)
 | b1 (a0 a1:List Ba) (a2:Int)
def Z1z:Uk->Tr U ((List Ba)⊕Uk)
 | .b0 a0=>.chk true ( AL (.b1 a0 ([]:List Ba) (0:Int)))
 | .b1 a0 a1 a2=>.br (decide (a2<(↑a0.length:Int))) ( .chk (kI a2 a0) ( .bind 380 (a0[(Int.toNat a2)]?) (fun(x1:Ba)=>.bind 3 (Om x1.Good) (fun(x2:Int)=>.chk (kI a2 a0) ( .bind 380 (a0[(Int.toNat a2)]?) (fun(x3:Ba)=>.bind 3 (Om x3.O8) (fun(x4:Int)=>.chk true ( kl a1 ( .chk (kA (a1.length+1) 16) ( kl (a1++[(⟨(A7 (Int.tdiv x2 2)),(A7 (Int.tdiv x4 2))⟩:Ba)]) ( AL (.b1 a0 (a1++[(⟨(A7 (Int.tdiv x2 2)),(A7 (Int.tdiv x4 2))⟩:Ba)]) (A7 (a2+1)))))))))))))) ( kl a1 ( AQ a1))
def nI (a0:List Ba):Option (List Ba):=Ad Z1z (.b0 a0)
def Zfb:Az U:=⟨[53],53,fun x=>nI x.1,by decide⟩
def ZU:Lay:=LT [0,3,4] [.v 53,.o 380 2 0,.v 3] [.r 380]
def ZcF:Uk->BQ U
 | .b0 a0=>Bi Tryz.f120 [53] (a0,())
 | .b1 a0 a1 a2=>Ah Tryz.f120 [1,1,0,1,0,0,0,0] ZU (((a0,()),((),((a2,()),()))),(a1,()))
theorem Zd3:BA Tryz.prog B0 120 Zfb:=Bl (mc kS BC) BB (al [(3,ZU)]) ZcF Tryz.func120 (fun p=>by cases p<;>kernel_rfl) (by kernel_rfl) fun _=>rfl
inductive Vu where
 | b0 (a0:Af) (a1:Eo) (a2:Int)
 | b1 (a0:Int) (a1 a2:Af)
 | b2 (a0:Int) (a1 a2:Af)
def Z6i:Vu->Tr U ((Af×Int)⊕Vu)
 | .b0 a0 a1 a2=>.br (a0.BV != 0) ( AQ (a0,9)) ( .br (a1.Kind==1) ( .bind 100 (nK a0 a1.Bg) (fun(x1:Af×Int)=>AQ (x1.1,x1.2))) ( .br (a1.Kind==2) ( .bind 100 (Jy a0 (⟨0,a1.BM,0,0,0,0,0,0,0,0,0⟩:AV) a2) (fun(x2:Af×Int)=>AQ (x2.1,x2.2))) ( .br (a1.Kind==3) ( .bind 100 (Jy a0 (⟨1,ET,a1.Map,0,0,0,0,0,0,0,0⟩:AV) a2) (fun(x3:Af×Int)=>AQ (x3.1,x3.2))) ( .br (a1.Kind==4) ( .bind 3 (Xz a1.Number) (fun(x4:Int)=>.bind 100 (Jy a0 (⟨2,ET,0,0,x4,0,0,0,0,0,0⟩:AV) a2) (fun(x5:Af×Int)=>AQ (x5.1,x5.2)))) ( .br (a1.Kind==6) ( .bind 100 (Jy a0 (⟨8,ET,0,0,0,0,0,0,63,0,0⟩:AV) a2) (fun(x6:Af×Int)=>AQ (x6.1,x6.2))) ( .br (a1.Kind==7) ( .bind 100 (Jy a0 (⟨12,ET,0,0,0,0,0,0,0,11,0⟩:AV) a2) (fun(x7:Af×Int)=>AQ (x7.1,x7.2))) ( .br (a1.Kind==8) ( .bind 100 (Jy a0 (⟨18,ET,0,0,0,0,0,0,0,0,0⟩:AV) a2) (fun(x8:Af×Int)=>AQ (x8.1,x8.2))) ( .br (a1.Kind==9) ( .bind 3 (Xz a1.Number) (fun(x9:Int)=>.bind 100 (Jy a0 (⟨20,ET,0,0,0,0,0,0,0,0,x9⟩:AV) a2) (fun(x10:Af×Int)=>AQ (x10.1,x10.2)))) ( .br (a1.Kind==12) ( .bind 100 (Jy a0 (⟨15,a1.BM,0,0,0,0,0,0,0,0,0⟩:AV) a2) (fun(x11:Af×Int)=>AQ (x11.1,x11.2))) ( .br (a1.Kind==5) ( .br (a1.Key==0) ( AQ (a0,17)) ( .bind 100 (Jy a0 (⟨3,ET,0,0,0,0,a0.Jc,a1.Number,0,0,0⟩:AV) a2) (fun(x12:Af×Int)=>.br (x12.2==0) ( AL (.b1 x12.2 CU ({ x12.1 with Key:=a1.Key }:Af))) ( AL (.b1 x12.2 CU x12.1))))) ( .br (a1.Kind==10) ( .bind 100 (pW a0 a1.Key) (fun(x13:Af×Int)=>AQ (x13.1,x13.2))) ( .br (a1.Kind==13) ( .br (a0.Dl != 0) ( AQ (a0,9)) ( .bind 26 (jH a0.Aq a0.Bz.Map (2:Int)) (fun(x14:Int)=>.br (x14==a0.Bz.Map) ( AQ (a0,0)) ( .bind 100 (Jy a0 (⟨1,ET,x14,0,0,0,0,0,0,0,0⟩:AV) a2) (fun(x15:Af×Int)=>.br (x15.2==0) ( .bind 53 (nI a0.Aq) (fun(x16:List Ba)=>AL (.b2 x15.2 CU ({ x15.1 with Aq:=x16 }:Af)))) ( AL (.b2 x15.2 CU x15.1))))))) ( AQ (a0,12))))))))))))))
 | .b1 a0 a1 a2=>AQ (a2,a0)
 | .b2 a0 a1 a2=>AQ (a2,a0)
def Vz (a0:Af) (a1:Eo) (a2:Int):Option (Af×Int):=Ad Z6i (.b0 a0 a1 a2)
def ZkT:Az U:=⟨[55,97,3],100,fun x=>Vz x.1 x.2.1 x.2.2.1,by decide⟩
def Z3N:Lay:=LT [6,8,9] [.p 0,.p 1,.v 61] [.s 55,.s 55]
def Z3l:Lay:=LT [6,11,12] [.p 0,.p 1,.v 61] [.s 55,.s 55]
def Zk9:Vu->BQ U
 | .b0 a0 a1 a2=>Bi Tryz.f79 [55,97,3] (a0,a1,a2,())
 | .b1 a0 a1 a2=>Ah Tryz.f79 [1,1,0,1,0,1,1,1,1,1,1,1,1,1,1,1,1,1,1,1,1,1,1,1,0,1,1,1,0] Z3N (((),((),((a0,()),()))),((a1,()),((a2,()),())))
 | .b2 a0 a1 a2=>Ah Tryz.f79 [1,1,0,1,0,1,1,1,1,1,1,1,1,1,1,1,1,1,1,1,1,1,1,1,1,1,1,1,0,1,1,1,1,1,0] Z3l (((),((),((a0,()),()))),((a1,()),((a2,()),())))
theorem Z5w:BA Tryz.prog B0 79 ZkT:=Bl (mc ZeM (mc ZcS (mc Zbw (mc Zia (mc Za8 (mc Zd3 BC)))))) BB (al [(28,Z3N),(40,Z3l)]) Zk9 Tryz.func79 (fun p=>by cases p<;>kernel_rfl) (by kernel_rfl) fun _=>rfl
end
noncomputable section
def Z2P:S1 (Ak×Int×Int×Unit) Int
 | (a0,a1,a2,_)=>.br (a1==0) ( .bind 3 (Jg a0.DT.x0 a2) (fun(x2:Int)=>AQ x2)) ( .br (a1==1) ( .bind 3 (Jg a0.DT.x1 a2) (fun(x1:Int)=>AQ x1)) ( .fail))
def Lu (a0:Ak) (a1 a2:Int):Option Int:=Ad Z2P (a0,a1,a2,())
def ZdR:Az U:=⟨[60,3,3],3,fun x=>Lu x.1 x.2.1 x.2.2.1,by decide⟩
theorem RU:BA Tryz.prog B0 80 ZdR:=ok1 (mc kY BC) BB Tryz.func80 (fun _=>by kernel_rfl) (by kernel_rfl)
inductive lZ where
 | b0 (a0:Ak) (a1:Eo)
 | b1 (a0:Ak) (a1:Eo) (a2:Ak)
 | b2 (a0:Ak) (a1:Eo) (a2:Ak)
 | b3 (a0:Ak) (a1:Eo) (a2:Ak)
def Rh:lZ->Tr U (GZ⊕lZ)
 | .b0 a0 a1=>.br (a1.Side != 0) ( .br (a1.Side != 1) ( .chk (kL a0.Notes&&(kL a0.Sent.x0&&(kL a0.Sent.x1&&(kL a0.AB.x0&&(kL a0.AB.x1&&(kL a0.Notes&&(kL a0.Sent.x0&&(kL a0.Sent.x1&&(kL a0.AB.x0&&kL a0.AB.x1))))))))) ( AQ (⟨a0,1⟩:GZ))) ( .chk (kL a0.Notes&&(kL a0.Sent.x0&&(kL a0.Sent.x1&&(kL a0.AB.x0&&(kL a0.AB.x1&&(true&&(true&&(true&&(true&&(true&&(true&&(true&&(true&&(true&&(true&&(true&&(true&&(true&&(true&&(true&&(kL a0.Notes&&(kL a0.Sent.x0&&(kL a0.Sent.x1&&(kL a0.AB.x0&&kL a0.AB.x1)))))))))))))))))))))))) ( AL (.b1 a0 a1 (⟨(⟨CU,CU⟩:BU),(⟨(⟨0,0⟩:DV),(⟨0,0⟩:DV)⟩:Dz),0,([]:List DC),(⟨([]:List Ai),([]:List Ai)⟩:CX),(⟨([]:List Ai),([]:List Ai)⟩:CX)⟩:Ak))))) ( .chk (kL a0.Notes&&(kL a0.Sent.x0&&(kL a0.Sent.x1&&(kL a0.AB.x0&&(kL a0.AB.x1&&(true&&(true&&(true&&(true&&(true&&(true&&(true&&(true&&(true&&(true&&(true&&(true&&(true&&(true&&(true&&(kL a0.Notes&&(kL a0.Sent.x0&&(kL a0.Sent.x1&&(kL a0.AB.x0&&kL a0.AB.x1)))))))))))))))))))))))) ( AL (.b1 a0 a1 (⟨(⟨CU,CU⟩:BU),(⟨(⟨0,0⟩:DV),(⟨0,0⟩:DV)⟩:Dz),0,([]:List DC),(⟨([]:List Ai),([]:List Ai)⟩:CX),(⟨([]:List Ai),([]:List Ai)⟩:CX)⟩:Ak))))
 | .b1 a0 a1 a2=>.br (a1.Kind==5) ( .br (a1.Key==0) ( .chk (kL a0.Notes&&(kL a0.Sent.x0&&(kL a0.Sent.x1&&(kL a0.AB.x0&&(kL a0.AB.x1&&(kL a2.AA.x0.Ag.Am&&(kL a2.AA.x0.AP.Aa&&(kL a2.AA.x0.AP.Ap&&(kL a2.AA.x0.Aq&&(kL a2.AA.x0.A8&&(kL a2.AA.x1.Ag.Am&&(kL a2.AA.x1.AP.Aa&&(kL a2.AA.x1.AP.Ap&&(kL a2.AA.x1.Aq&&(kL a2.AA.x1.A8&&(kL a2.Notes&&(kL a2.Sent.x0&&(kL a2.Sent.x1&&(kL a2.AB.x0&&(kL a2.AB.x1&&(kL a0.Notes&&(kL a0.Sent.x0&&(kL a0.Sent.x1&&(kL a0.AB.x0&&kL a0.AB.x1)))))))))))))))))))))))) ( AL (.b2 a0 a1 a2))) ( .chk (kL a0.Notes&&(kL a0.Sent.x0&&(kL a0.Sent.x1&&(kL a0.AB.x0&&(kL a0.AB.x1&&(kL a2.AA.x0.Ag.Am&&(kL a2.AA.x0.AP.Aa&&(kL a2.AA.x0.AP.Ap&&(kL a2.AA.x0.Aq&&(kL a2.AA.x0.A8&&(kL a2.AA.x1.Ag.Am&&(kL a2.AA.x1.AP.Aa&&(kL a2.AA.x1.AP.Ap&&(kL a2.AA.x1.Aq&&(kL a2.AA.x1.A8&&(kL a2.Notes&&(kL a2.Sent.x0&&(kL a2.Sent.x1&&(kL a2.AB.x0&&(kL a2.AB.x1&&(kL a0.Notes&&(kL a0.Sent.x0&&(kL a0.Sent.x1&&(kL a0.AB.x0&&kL a0.AB.x1)))))))))))))))))))))))) ( AL (.b3 a0 a1 a2)))) ( .chk (kL a0.Notes&&(kL a0.Sent.x0&&(kL a0.Sent.x1&&(kL a0.AB.x0&&(kL a0.AB.x1&&(kL a2.AA.x0.Ag.Am&&(kL a2.AA.x0.AP.Aa&&(kL a2.AA.x0.AP.Ap&&(kL a2.AA.x0.Aq&&(kL a2.AA.x0.A8&&(kL a2.AA.x1.Ag.Am&&(kL a2.AA.x1.AP.Aa&&(kL a2.AA.x1.AP.Ap&&(kL a2.AA.x1.Aq&&(kL a2.AA.x1.A8&&(kL a2.Notes&&(kL a2.Sent.x0&&(kL a2.Sent.x1&&(kL a2.AB.x0&&(kL a2.AB.x1&&(kL a0.Notes&&(kL a0.Sent.x0&&(kL a0.Sent.x1&&(kL a0.AB.x0&&kL a0.AB.x1)))))))))))))))))))))))) ( AL (.b3 a0 a1 a2)))
 | .b2 a0 a1 a2=>.br (a1.Side==0) ( .chk (kL a0.Notes&&(kL a0.Sent.x0&&(kL a0.Sent.x1&&(kL a0.AB.x0&&(kL a0.AB.x1&&(kL a2.AA.x0.Ag.Am&&(kL a2.AA.x0.AP.Aa&&(kL a2.AA.x0.AP.Ap&&(kL a2.AA.x0.Aq&&(kL a2.AA.x0.A8&&(kL a2.AA.x1.Ag.Am&&(kL a2.AA.x1.AP.Aa&&(kL a2.AA.x1.AP.Ap&&(kL a2.AA.x1.Aq&&(kL a2.AA.x1.A8&&(kL a2.Notes&&(kL a2.Sent.x0&&(kL a2.Sent.x1&&(kL a2.AB.x0&&(kL a2.AB.x1&&(kL a0.Notes&&(kL a0.Sent.x0&&(kL a0.Sent.x1&&(kL a0.AB.x0&&kL a0.AB.x1)))))))))))))))))))))))) ( AL (.b3 a0 ({ a1 with Key:=a0.AA.x0.Key }:Eo) a2))) ( .br (a1.Side==1) ( .chk (kL a0.Notes&&(kL a0.Sent.x0&&(kL a0.Sent.x1&&(kL a0.AB.x0&&(kL a0.AB.x1&&(kL a2.AA.x0.Ag.Am&&(kL a2.AA.x0.AP.Aa&&(kL a2.AA.x0.AP.Ap&&(kL a2.AA.x0.Aq&&(kL a2.AA.x0.A8&&(kL a2.AA.x1.Ag.Am&&(kL a2.AA.x1.AP.Aa&&(kL a2.AA.x1.AP.Ap&&(kL a2.AA.x1.Aq&&(kL a2.AA.x1.A8&&(kL a2.Notes&&(kL a2.Sent.x0&&(kL a2.Sent.x1&&(kL a2.AB.x0&&(kL a2.AB.x1&&(kL a0.Notes&&(kL a0.Sent.x0&&(kL a0.Sent.x1&&(kL a0.AB.x0&&kL a0.AB.x1)))))))))))))))))))))))) ( AL (.b3 a0 ({ a1 with Key:=a0.AA.x1.Key }:Eo) a2))) ( .fail))
 | .b3 a0 a1 a2=>.br (a1.Side==0) ( kl a0.Notes ( kl a0.Sent.x0 ( kl a0.Sent.x1 ( kl a0.AB.x0 ( kl a0.AB.x1 ( .bind 3 (Lu a0 a1.Side a0.Now) (fun(x8:Int)=>.bind 100 (Vz a0.AA.x0 a1 x8) (fun(x9:Af×Int)=>.br (x9.2 != 0) ( .chk (kL a0.Notes&&(kL a0.Sent.x0&&(kL a0.Sent.x1&&(kL a0.AB.x0&&(kL a0.AB.x1&&(kL a0.Notes&&(kL a0.Sent.x0&&(kL a0.Sent.x1&&(kL a0.AB.x0&&kL a0.AB.x1))))))))) ( AQ (⟨a0,x9.2⟩:GZ))) ( kl a0.Notes ( kl a0.Sent.x0 ( kl a0.Sent.x1 ( kl a0.AB.x0 ( kl a0.AB.x1 ( .bind 1571 (QO a0) (fun(y10:LU)=>.br (a1.Side==0) ( .br (a1.Kind==1) ( .br (a1.Side==0) ( .chk true ( .bind 1572 (Ie ([a1.Bg])) (fun(y14:Fa)=>kl y14.q0 ( kl y10.q0.Sent.x0 ( .chk (kA (y10.q0.Sent.x0.length+y14.q0.length) 32) ( .br (a1.Side==0) ( .chk (kL y10.q0.Notes&&(kL (y10.q0.Sent.x0++y14.q0)&&(kL y10.q0.Sent.x1&&(kL y10.q0.AB.x0&&(kL y10.q0.AB.x1&&(kL y10.q0.Notes&&(kL (y10.q0.Sent.x0++y14.q0)&&(kL y10.q0.Sent.x1&&(kL y10.q0.AB.x0&&kL y10.q0.AB.x1))))))))) ( AQ (⟨({ y10.q0 with AA:=(⟨x9.1,y10.q0.AA.x1⟩:BU),Sent:=(⟨(y10.q0.Sent.x0++y14.q0),y10.q0.Sent.x1⟩:CX) }:Ak),0⟩:GZ))) ( .br (a1.Side==1) ( .fail) ( .fail)))))))) ( .br (a1.Side==1) ( .chk true ( .bind 1572 (Ie ([a1.Bg])) (fun(y13:Fa)=>kl y13.q0 ( kl y10.q0.Sent.x1 ( .chk (kA (y10.q0.Sent.x1.length+y13.q0.length) 32) ( .br (a1.Side==0) ( .fail) ( .br (a1.Side==1) ( .chk (kL y10.q0.Notes&&(kL y10.q0.Sent.x0&&(kL (y10.q0.Sent.x1++y13.q0)&&(kL y10.q0.AB.x0&&(kL y10.q0.AB.x1&&(kL y10.q0.Notes&&(kL y10.q0.Sent.x0&&(kL (y10.q0.Sent.x1++y13.q0)&&(kL y10.q0.AB.x0&&kL y10.q0.AB.x1))))))))) ( AQ (⟨({ y10.q0 with AA:=(⟨x9.1,y10.q0.AA.x1⟩:BU),Sent:=(⟨y10.q0.Sent.x0,(y10.q0.Sent.x1++y13.q0)⟩:CX) }:Ak),0⟩:GZ))) ( .fail)))))))) ( .fail))) ( .chk (kL y10.q0.Notes&&(kL y10.q0.Sent.x0&&(kL y10.q0.Sent.x1&&(kL y10.q0.AB.x0&&(kL y10.q0.AB.x1&&(kL y10.q0.Notes&&(kL y10.q0.Sent.x0&&(kL y10.q0.Sent.x1&&(kL y10.q0.AB.x0&&kL y10.q0.AB.x1))))))))) ( AQ (⟨({ y10.q0 with AA:=(⟨x9.1,y10.q0.AA.x1⟩:BU) }:Ak),0⟩:GZ)))) ( .br (a1.Side==1) ( .br (a1.Kind==1) ( .br (a1.Side==0) ( .chk true ( .bind 1572 (Ie ([a1.Bg])) (fun(y12:Fa)=>kl y12.q0 ( kl y10.q0.Sent.x0 ( .chk (kA (y10.q0.Sent.x0.length+y12.q0.length) 32) ( .br (a1.Side==0) ( .chk (kL y10.q0.Notes&&(kL (y10.q0.Sent.x0++y12.q0)&&(kL y10.q0.Sent.x1&&(kL y10.q0.AB.x0&&(kL y10.q0.AB.x1&&(kL y10.q0.Notes&&(kL (y10.q0.Sent.x0++y12.q0)&&(kL y10.q0.Sent.x1&&(kL y10.q0.AB.x0&&kL y10.q0.AB.x1))))))))) ( AQ (⟨({ y10.q0 with AA:=(⟨y10.q0.AA.x0,x9.1⟩:BU),Sent:=(⟨(y10.q0.Sent.x0++y12.q0),y10.q0.Sent.x1⟩:CX) }:Ak),0⟩:GZ))) ( .br (a1.Side==1) ( .fail) ( .fail)))))))) ( .br (a1.Side==1) ( .chk true ( .bind 1572 (Ie ([a1.Bg])) (fun(y11:Fa)=>kl y11.q0 ( kl y10.q0.Sent.x1 ( .chk (kA (y10.q0.Sent.x1.length+y11.q0.length) 32) ( .br (a1.Side==0) ( .fail) ( .br (a1.Side==1) ( .chk (kL y10.q0.Notes&&(kL y10.q0.Sent.x0&&(kL (y10.q0.Sent.x1++y11.q0)&&(kL y10.q0.AB.x0&&(kL y10.q0.AB.x1&&(kL y10.q0.Notes&&(kL y10.q0.Sent.x0&&(kL (y10.q0.Sent.x1++y11.q0)&&(kL y10.q0.AB.x0&&kL y10.q0.AB.x1))))))))) ( AQ (⟨({ y10.q0 with AA:=(⟨y10.q0.AA.x0,x9.1⟩:BU),Sent:=(⟨y10.q0.Sent.x0,(y10.q0.Sent.x1++y11.q0)⟩:CX) }:Ak),0⟩:GZ))) ( .fail)))))))) ( .fail))) ( .chk (kL y10.q0.Notes&&(kL y10.q0.Sent.x0&&(kL y10.q0.Sent.x1&&(kL y10.q0.AB.x0&&(kL y10.q0.AB.x1&&(kL y10.q0.Notes&&(kL y10.q0.Sent.x0&&(kL y10.q0.Sent.x1&&(kL y10.q0.AB.x0&&kL y10.q0.AB.x1))))))))) ( AQ (⟨({ y10.q0 with AA:=(⟨y10.q0.AA.x0,x9.1⟩:BU) }:Ak),0⟩:GZ)))) ( .fail))))))))))))))))) ( .br (a1.Side==1) ( kl a0.Notes ( kl a0.Sent.x0 ( kl a0.Sent.x1 ( kl a0.AB.x0 ( kl a0.AB.x1 ( .bind 3 (Lu a0 a1.Side a0.Now) (fun(x1:Int)=>.bind 100 (Vz a0.AA.x1 a1 x1) (fun(x2:Af×Int)=>.br (x2.2 != 0) ( .chk (kL a0.Notes&&(kL a0.Sent.x0&&(kL a0.Sent.x1&&(kL a0.AB.x0&&(kL a0.AB.x1&&(kL a0.Notes&&(kL a0.Sent.x0&&(kL a0.Sent.x1&&(kL a0.AB.x0&&kL a0.AB.x1))))))))) ( AQ (⟨a0,x2.2⟩:GZ))) ( kl a0.Notes ( kl a0.Sent.x0 ( kl a0.Sent.x1 ( kl a0.AB.x0 ( kl a0.AB.x1 ( .bind 1571 (QO a0) (fun(y3:LU)=>.br (a1.Side==0) ( .br (a1.Kind==1) ( .br (a1.Side==0) ( .chk true ( .bind 1572 (Ie ([a1.Bg])) (fun(y7:Fa)=>kl y7.q0 ( kl y3.q0.Sent.x0 ( .chk (kA (y3.q0.Sent.x0.length+y7.q0.length) 32) ( .br (a1.Side==0) ( .chk (kL y3.q0.Notes&&(kL (y3.q0.Sent.x0++y7.q0)&&(kL y3.q0.Sent.x1&&(kL y3.q0.AB.x0&&(kL y3.q0.AB.x1&&(kL y3.q0.Notes&&(kL (y3.q0.Sent.x0++y7.q0)&&(kL y3.q0.Sent.x1&&(kL y3.q0.AB.x0&&kL y3.q0.AB.x1))))))))) ( AQ (⟨({ y3.q0 with AA:=(⟨x2.1,y3.q0.AA.x1⟩:BU),Sent:=(⟨(y3.q0.Sent.x0++y7.q0),y3.q0.Sent.x1⟩:CX) }:Ak),0⟩:GZ))) ( .br (a1.Side==1) ( .fail) ( .fail)))))))) ( .br (a1.Side==1) ( .chk true ( .bind 1572 (Ie ([a1.Bg])) (fun(y6:Fa)=>kl y6.q0 ( kl y3.q0.Sent.x1 ( .chk (kA (y3.q0.Sent.x1.length+y6.q0.length) 32) ( .br (a1.Side==0) ( .fail) ( .br (a1.Side==1) ( .chk (kL y3.q0.Notes&&(kL y3.q0.Sent.x0&&(kL (y3.q0.Sent.x1++y6.q0)&&(kL y3.q0.AB.x0&&(kL y3.q0.AB.x1&&(kL y3.q0.Notes&&(kL y3.q0.Sent.x0&&(kL (y3.q0.Sent.x1++y6.q0)&&(kL y3.q0.AB.x0&&kL y3.q0.AB.x1))))))))) ( AQ (⟨({ y3.q0 with AA:=(⟨x2.1,y3.q0.AA.x1⟩:BU),Sent:=(⟨y3.q0.Sent.x0,(y3.q0.Sent.x1++y6.q0)⟩:CX) }:Ak),0⟩:GZ))) ( .fail)))))))) ( .fail))) ( .chk (kL y3.q0.Notes&&(kL y3.q0.Sent.x0&&(kL y3.q0.Sent.x1&&(kL y3.q0.AB.x0&&(kL y3.q0.AB.x1&&(kL y3.q0.Notes&&(kL y3.q0.Sent.x0&&(kL y3.q0.Sent.x1&&(kL y3.q0.AB.x0&&kL y3.q0.AB.x1))))))))) ( AQ (⟨({ y3.q0 with AA:=(⟨x2.1,y3.q0.AA.x1⟩:BU) }:Ak),0⟩:GZ)))) ( .br (a1.Side==1) ( .br (a1.Kind==1) ( .br (a1.Side==0) ( .chk true ( .bind 1572 (Ie ([a1.Bg])) (fun(y5:Fa)=>kl y5.q0 ( kl y3.q0.Sent.x0 ( .chk (kA (y3.q0.Sent.x0.length+y5.q0.length) 32) ( .br (a1.Side==0) ( .chk (kL y3.q0.Notes&&(kL (y3.q0.Sent.x0++y5.q0)&&(kL y3.q0.Sent.x1&&(kL y3.q0.AB.x0&&(kL y3.q0.AB.x1&&(kL y3.q0.Notes&&(kL (y3.q0.Sent.x0++y5.q0)&&(kL y3.q0.Sent.x1&&(kL y3.q0.AB.x0&&kL y3.q0.AB.x1))))))))) ( AQ (⟨({ y3.q0 with AA:=(⟨y3.q0.AA.x0,x2.1⟩:BU),Sent:=(⟨(y3.q0.Sent.x0++y5.q0),y3.q0.Sent.x1⟩:CX) }:Ak),0⟩:GZ))) ( .br (a1.Side==1) ( .fail) ( .fail)))))))) ( .br (a1.Side==1) ( .chk true ( .bind 1572 (Ie ([a1.Bg])) (fun(y4:Fa)=>kl y4.q0 ( kl y3.q0.Sent.x1 ( .chk (kA (y3.q0.Sent.x1.length+y4.q0.length) 32) ( .br (a1.Side==0) ( .fail) ( .br (a1.Side==1) ( .chk (kL y3.q0.Notes&&(kL y3.q0.Sent.x0&&(kL (y3.q0.Sent.x1++y4.q0)&&(kL y3.q0.AB.x0&&(kL y3.q0.AB.x1&&(kL y3.q0.Notes&&(kL y3.q0.Sent.x0&&(kL (y3.q0.Sent.x1++y4.q0)&&(kL y3.q0.AB.x0&&kL y3.q0.AB.x1))))))))) ( AQ (⟨({ y3.q0 with AA:=(⟨y3.q0.AA.x0,x2.1⟩:BU),Sent:=(⟨y3.q0.Sent.x0,(y3.q0.Sent.x1++y4.q0)⟩:CX) }:Ak),0⟩:GZ))) ( .fail)))))))) ( .fail))) ( .chk (kL y3.q0.Notes&&(kL y3.q0.Sent.x0&&(kL y3.q0.Sent.x1&&(kL y3.q0.AB.x0&&(kL y3.q0.AB.x1&&(kL y3.q0.Notes&&(kL y3.q0.Sent.x0&&(kL y3.q0.Sent.x1&&(kL y3.q0.AB.x0&&kL y3.q0.AB.x1))))))))) ( AQ (⟨({ y3.q0 with AA:=(⟨y3.q0.AA.x0,x2.1⟩:BU) }:Ak),0⟩:GZ)))) ( .fail))))))))))))))))) ( .fail))
def lF (a0:Ak) (a1:Eo):Option GZ:=Ad Rh (.b0 a0 a1)
def Z0e:Shape:=⟨[(Et 0),.agg [.v 97 12 true]],[.row 228 false,.row 67 false,.row 67 false,.row 67 false,.row 67 false]⟩
def Za4:Shape:=⟨[(Et 5),OV 61],[.gone,.gone,.gone,.gone,.gone,.row 228 false,.row 67 false,.row 67 false,.row 67 false,.row 67 false]⟩
noncomputable def ZdK:HMod U:=⟨[k4,k12],[.row false,.row false,.row false,.row false,.row false],Z0e,Za4,false,1579,fun(y:GZ)=>(((y.q0.AA,(y.q0.DT,(y.q0.Now,()))),((y.q1,()),())),(Jd y.q0)),fun x=>lF (⟨(⟨x.1.1.1.x0,x.1.1.1.x1⟩:BU),(⟨x.1.1.2.1.x0,x.1.1.2.1.x1⟩:Dz),x.1.1.2.2.1,x.2.1,(⟨x.2.2.1,x.2.2.2.1⟩:CX),(⟨x.2.2.2.2.1,x.2.2.2.2.2.1⟩:CX)⟩:Ak) x.1.2.1.1,okS rfl⟩
def RN:Lay:=⟨[2,3,4],[KP,KP,KP],[.var k4,.var k12,.var k6,.row false,.row false,.row false,.row false,.row false,.row true,.row true,.row true,.row true,.row true,.row true,.row true,.row true,.row true,.row true,.row true,.row true,.row true,.row true,.row true],⟨[PQ 0,PQ 1,PQ 2],[.var 60 142 (Et 3),VA 97 12,.var 60 142 (LG 8),.row 228 false,.row 67 false,.row 67 false,.row 67 false,.row 67 false,.row 67 true,.row 310 true,.row 111 true,.row 380 true,.row 310 true,.row 67 true,.row 310 true,.row 111 true,.row 380 true,.row 310 true,.row 228 true,.row 67 true,.row 67 true,.row 67 true,.row 67 true]⟩⟩
def Zc3:lZ->BQ U
 | .b0 a0 a1=>HY Tryz.f52 Z0e (((a0.AA,(a0.DT,(a0.Now,()))),((a1,()),())),(Jd a0))
 | .b1 a0 a1 a2=>Ah Tryz.f52 [1,1,0,0] RN (((),((),((),()))),((a0.AA,(a0.DT,(a0.Now,()))),((a1,()),((GY a2),(a0.Notes,(a0.Sent.x0,(a0.Sent.x1,(a0.AB.x0,(a0.AB.x1,(Gg a2))))))))))
 | .b2 a0 a1 a2=>Ah Tryz.f52 [1,1,0,1,0] RN (((),((),((),()))),((a0.AA,(a0.DT,(a0.Now,()))),((a1,()),((GY a2),(a0.Notes,(a0.Sent.x0,(a0.Sent.x1,(a0.AB.x0,(a0.AB.x1,(Gg a2))))))))))
 | .b3 a0 a1 a2=>Ah Tryz.f52 [1,1,1,0] RN (((),((),((),()))),((a0.AA,(a0.DT,(a0.Now,()))),((a1,()),((GY a2),(a0.Notes,(a0.Sent.x0,(a0.Sent.x1,(a0.AB.x0,(a0.AB.x1,(Gg a2))))))))))
def ZkH:Shape:=⟨[(Et 0),OV 61],[.row 228 false,.row 67 false,.row 67 false,.row 67 false,.row 67 false]⟩
theorem Zdh:E8 Tryz.prog B0 52 ZdK:=Tf (mc Z5w (mc RU BC)) (hc [] mQ (hc [] gY BB)) (al [(3,RN),(4,RN),(5,RN)]) [k4,KP] [.row false,.row false,.row false,.row false,.row false] 5 ZkH (fun(y:GZ)=>(((y.q0.AA,(y.q0.DT,(y.q0.Now,()))),((y.q1,()),())),(y.q0.Notes,(y.q0.Sent.x0,(y.q0.Sent.x1,(y.q0.AB.x0,(y.q0.AB.x1,()))))))) Zc3 Tryz.func52 (fun p=>by cases p<;>kernel_rfl) (by kernel_rfl) (fun x=>by kernel_rfl) fun y=>by kernel_rfl
inductive VP where
 | b0 (a0:DV) (a1:Int)
 | b1 (a0 a1 a2:Int) (a3:DV)
def o6:VP->Tr U (Int⊕VP)
 | .b0 a0 a1=>AL (.b1 a1 (0:Int) (1099511627776:Int) a0)
 | .b1 a0 a1 a2 a3=>.br (decide (a1<a2)) ( .bind 3 (Jg a3 (A7 (Int.tdiv (A7 (a1+a2)) 2))) (fun(x1:Int)=>.br (decide (x1>=a0)) ( AL (.b1 a0 a1 (A7 (Int.tdiv (A7 (a1+a2)) 2)) a3)) ( AL (.b1 a0 (A7 ((A7 (Int.tdiv (A7 (a1+a2)) 2))+1)) a2 a3)))) ( AQ a1)
def VK (a0:DV) (a1:Int):Option Int:=Ad o6 (.b0 a0 a1)
def ZhF:Az U:=⟨[30,3],3,fun x=>VK x.1 x.2.1,by decide⟩
def Z1o:Lay:=LT [1,2,5,6] [.v 3,.p 0,.v 3,.v 3] [.s 30]
def Zex:VP->BQ U
 | .b0 a0 a1=>Bi Tryz.f81 [30,3] (a0,a1,())
 | .b1 a0 a1 a2 a3=>Ah Tryz.f81 [1,1,0,0,0,0,0] Z1o (((a0,()),((),((a1,()),((a2,()),())))),((a3,()),()))
theorem Z2o:BA Tryz.prog B0 81 ZhF:=Bl (mc kY BC) BB (al [(2,Z1o)]) Zex Tryz.func81 (fun p=>by cases p<;>kernel_rfl) (by kernel_rfl) fun _=>rfl
inductive UI where
 | b0 (a0 a1:Int)
 | b1 (a0:Int)
def Zn:UI->Tr U (Int⊕UI)
 | .b0 a0 a1=>.bind 3 (QC a1 (0:Int) (1099511627776:Int)) (fun(x1:Int)=>.bind 3 (QC a0 (0:Int) (1000:Int)) (fun(x2:Int)=>.br (decide ((Int.tmod (A7 (x1*x2)) 1000000)>0)) ( AL (.b1 (A7 ((A7 (Int.tdiv (A7 (x1*x2)) 1000000))+1)))) ( AL (.b1 (A7 (Int.tdiv (A7 (x1*x2)) 1000000))))))
 | .b1 a0=>AQ (A7 (a0+32))
def jD (a0 a1:Int):Option Int:=Ad Zn (.b0 a0 a1)
def Z9W:Az U:=⟨[3,3],3,fun x=>jD x.1 x.2.1,by decide⟩
def yT:Lay:=LT [6] [.v 3] []
def Z9q:UI->BQ U
 | .b0 a0 a1=>Bi Tryz.f121 [3,3] (a0,a1,())
 | .b1 a0=>Ah Tryz.f121 [1,1,1,1,0] yT (((a0,()),()),())
theorem Z9u:BA Tryz.prog B0 121 Z9W:=Bl (mc Zg BC) BB (al [(5,yT)]) Z9q Tryz.func121 (fun p=>by cases p<;>kernel_rfl) (by kernel_rfl) fun _=>rfl
def Z0B:S1 (Af×Unit) I4
 | (a0,_)=>.br (a0.Dl==0) ( AQ (⟨a0.Gn,a0.Gn⟩:I4)) ( .bind 3 (jD (A7 (a0.Bz.H6+a0.Clock)) (A7 ((A7 (a0.Gn+a0.Size)) - a0.Sync))) (fun(x1:Int)=>AQ (⟨(A7 (a0.Gn - x1)),(A7 ((A7 (a0.Gn+a0.Size))+x1))⟩:I4)))
def Xx (a0:Af):Option I4:=Ad Z0B (a0,())
def ZbG:Az U:=⟨[55],214,fun x=>Xx x.1,by decide⟩
theorem jO:BA Tryz.prog B0 82 ZbG:=ok1 (mc Z9u BC) BB Tryz.func82 (fun _=>by kernel_rfl) (by kernel_rfl)
def Z0c:S1 (Int×Unit) Int
 | (a0,_)=>AQ (A7 ((8:Int)*(A7 ((if a0>0 then a0 else (0:Int))+10))))
def QE (a0:Int):Option Int:=Ad Z0c (a0,())
def Zbu:Az U:=⟨[3],3,fun x=>QE x.1,by decide⟩
theorem zV:BA Tryz.prog B0 84 Zbu:=ok1 BC BB Tryz.func84 (fun _=>by kernel_rfl) (by kernel_rfl)
inductive V7 where
 | b0 (a0:List Int) (a1:Int)
 | b1 (a0:List Int) (a1 a2:Int)
def Z4o:V7->Tr U (Bool⊕V7)
 | .b0 a0 a1=>AL (.b1 a0 a1 (0:Int))
 | .b1 a0 a1 a2=>.br (decide (a2<(↑a0.length:Int))) ( .chk (kI a2 a0) ( .bind 3 (a0[(Int.toNat a2)]?) (fun(x1:Int)=>.br (x1==a1) ( AQ true) ( AL (.b1 a0 a1 (A7 (a2+1))))))) ( AQ false)
def QS (a0:List Int) (a1:Int):Option Bool:=Ad Z4o (.b0 a0 a1)
def ZiQ:Az U:=⟨[93,3],4,fun x=>QS x.1 x.2.1,by decide⟩
def Z2E:Lay:=LT [0,1,5] [.v 93,.v 3,.v 3] []
def ZhT:V7->BQ U
 | .b0 a0 a1=>Bi Tryz.f86 [93,3] (a0,a1,())
 | .b1 a0 a1 a2=>Ah Tryz.f86 [1,0,1,0,0,0,0] Z2E (((a0,()),((a1,()),((a2,()),()))),())
theorem Z3L:BA Tryz.prog B0 86 ZiQ:=Bl BC BB (al [(2,Z2E)]) ZhT Tryz.func86 (fun p=>by cases p<;>kernel_rfl) (by kernel_rfl) fun _=>rfl
inductive UJ where
 | b0 (a0:Int)
 | b1 (a0 a1 a2:Int)
def zW:UJ->Tr U (Int⊕UJ)
 | .b0 a0=>AL (.b1 a0 (0:Int) (0:Int))
 | .b1 a0 a1 a2=>.br (decide (a2<8)) ( AL (.b1 (A7 (Int.tdiv a0 2)) (A7 ((A7 ((2:Int)*a1))+(Int.tmod a0 2))) (A7 (a2+1)))) ( AQ a1)
def Xd (a0:Int):Option Int:=Ad zW (.b0 a0)
def Z9Z:Az U:=⟨[3],3,fun x=>Xd x.1,by decide⟩
def yY:Lay:=LT [0,3,4] [.v 3,.v 3,.v 3] []
def Z9E:UJ->BQ U
 | .b0 a0=>Bi Tryz.f275 [3] (a0,())
 | .b1 a0 a1 a2=>Ah Tryz.f275 [1,1,0,1,0,0,0,0] yY (((a0,()),((a1,()),((a2,()),()))),())
theorem Z9K:BA Tryz.prog B0 275 Z9Z:=Bl BC BB (al [(3,yY)]) Z9E Tryz.func275 (fun p=>by cases p<;>kernel_rfl) (by kernel_rfl) fun _=>rfl
inductive U5 where
 | b0 (a0 a1:Int)
 | b1 (a0 a1 a2:Int)
def Z0v:U5->Tr U (Int⊕U5)
 | .b0 a0 a1=>AL (.b1 a1 (bits .xor .u16 a0 a1) (0:Int))
 | .b1 a0 a1 a2=>.br (decide (a2<3)) ( .bind 3 (Xd (A7 (Int.tdiv (A7 (a1)) 256))) (fun(x1:Int)=>.bind 3 (Xd (Int.tmod (A7 (a1)) 256)) (fun(x2:Int)=>AL (.b1 a0 (IntKind.wrap .u16 ((Int.tmod (A7 ((A7 ((17:Int)*(A7 ((A7 ((256:Int)*x1))+x2))))+(A7 (a0)))) (65536:Int)))) (A7 (a2+1)))))) ( AQ (bits .xor .u16 a1 a0))
def Xw (a0 a1:Int):Option Int:=Ad Z0v (.b0 a0 a1)
def Zdg:Az U:=⟨[41,41],41,fun x=>Xw x.1 x.2.1,by decide⟩
def Zb:Lay:=LT [1,5,6] [.v 41,.v 41,.v 3] []
def Zb6:U5->BQ U
 | .b0 a0 a1=>Bi Tryz.f229 [41,41] (a0,a1,())
 | .b1 a0 a1 a2=>Ah Tryz.f229 [1,1,0,1,0,0,0,0] Zb (((a0,()),((a1,()),((a2,()),()))),())
theorem Zu:BA Tryz.prog B0 229 Zdg:=Bl (mc Z9K BC) BB (al [(3,Zb)]) Zb6 Tryz.func229 (fun p=>by cases p<;>kernel_rfl) (by kernel_rfl) fun _=>rfl
def Z2j:S1 (Int×Unit) Int
 | (a0,_)=>AQ (bits .xor .u16 (IntKind.wrap .u16 ((IntKind.wrap .u32 (Int.tdiv a0 65536)))) (IntKind.wrap .u16 ((Int.tmod a0 65536))))
def YK (a0:Int):Option Int:=Ad Z2j (a0,())
def Ze4:Az U:=⟨[22],41,fun x=>YK x.1,by decide⟩
theorem Z1d:BA Tryz.prog B0 230 Ze4:=ok1 BC BB Tryz.func230 (fun _=>by kernel_rfl) (by kernel_rfl)
inductive V8 where
 | b0 (a0 a1:Int)
 | b1 (a0:Int) (a1:List Int)
def Z59:V8->Tr U (Int⊕V8)
 | .b0 a0 a1=>.bind 93 (VF a0) (fun(x1:List Int)=>.br (decide (a1<0)) ( AQ (-1:Int)) ( .br (decide (a1>=(↑x1.length:Int))) ( AQ (-1:Int)) ( AL (.b1 a1 x1))))
 | .b1 a0 a1=>.chk (kI a0 a1) ( .bind 3 (a1[(Int.toNat a0)]?) (fun(x1:Int)=>AQ x1))
def aI (a0 a1:Int):Option Int:=Ad Z59 (.b0 a0 a1)
def Zju:Az U:=⟨[26,3],3,fun x=>aI x.1 x.2.1,by decide⟩
def Z1y:Lay:=LT [1,5] [.v 3,.v 93] []
def Ziq:V8->BQ U
 | .b0 a0 a1=>Bi Tryz.f274 [26,3] (a0,a1,())
 | .b1 a0 a1=>Ah Tryz.f274 [1,1,1,0] Z1y (((a0,()),((a1,()),())),())
theorem Z34:BA Tryz.prog B0 274 Zju:=Bl (mc lQ BC) BB (al [(4,Z1y)]) Ziq Tryz.func274 (fun p=>by cases p<;>kernel_rfl) (by kernel_rfl) fun _=>rfl
def Z4r:S1 (Int×Int×Int×Unit) Int
 | (a0,a1,a2,_)=>.bind 41 (YK a2) (fun(x1:Int)=>.bind 41 (Xw a1 x1) (fun(x2:Int)=>.bind 4 (Ve a0 (Int.tmod (A7 (x2)) 37)) (fun(x3:Bool)=>.br x3 ( AQ (Int.tmod (A7 (x2)) 37)) ( .bind 3 (Ur a0) (fun(x4:Int)=>.bind 3 (aI a0 (A7 (Int.tdiv (A7 (x4*(A7 (x2)))) (65536:Int)))) (fun(x5:Int)=>AQ x5))))))
def qR (a0 a1 a2:Int):Option Int:=Ad Z4r (a0,a1,a2,())
def Zjn:Az U:=⟨[26,41,22],3,fun x=>qR x.1 x.2.1 x.2.2.1,by decide⟩
theorem ZhY:BA Tryz.prog B0 228 Zjn:=ok1 (mc kK (mc nY (mc Zu (mc Z1d (mc Z34 BC))))) BB Tryz.func228 (fun _=>by kernel_rfl) (by kernel_rfl)
def Z31:S1 (Int×Int×Unit) Int
 | (a0,a1,_)=>AQ (Int.tmod (A7 ((A7 ((Int.tmod a0 37)+(Int.tmod a1 37)))+74)) (37:Int))
def pG (a0 a1:Int):Option Int:=Ad Z31 (a0,a1,())
def Zhp:Az U:=⟨[3,3],3,fun x=>pG x.1 x.2.1,by decide⟩
theorem Zf0:BA Tryz.prog B0 231 Zhp:=ok1 BC BB Tryz.func231 (fun _=>by kernel_rfl) (by kernel_rfl)
def Z2t:S1 (Int×Int×Unit) Int
 | (a0,a1,_)=>.bind 4 (Ve a0 (if (if (36:Int)<a1 then (36:Int) else a1)>0 then (if (36:Int)<a1 then (36:Int) else a1) else (0:Int))) (fun(x1:Bool)=>.br x1 ( AQ (if (if (36:Int)<a1 then (36:Int) else a1)>0 then (if (36:Int)<a1 then (36:Int) else a1) else (0:Int))) ( .bind 3 (Ur a0) (fun(x2:Int)=>.br (x2==0) ( AQ (-1:Int)) ( .chk (x2 != 0) ( .bind 3 (aI a0 (Int.tmod (if (if (36:Int)<a1 then (36:Int) else a1)>0 then (if (36:Int)<a1 then (36:Int) else a1) else (0:Int)) x2)) (fun(x3:Int)=>AQ x3))))))
def lY (a0 a1:Int):Option Int:=Ad Z2t (a0,a1,())
def Zff:Az U:=⟨[26,3],3,fun x=>lY x.1 x.2.1,by decide⟩
theorem ZcZ:BA Tryz.prog B0 232 Zff:=ok1 (mc kK (mc nY (mc Z34 BC))) BB Tryz.func232 (fun _=>by kernel_rfl) (by kernel_rfl)
def Z4i:S1 (Eh×Int×Int×Unit) (Int×Int)
 | (a0,a1,a2,_)=>.br (a0.LW==2) ( .bind 3 (qR a0.Map a1 a0.JD) (fun(x1:Int)=>.bind 41 (YK a0.JD) (fun(x2:Int)=>.bind 41 (Xw a1 x2) (fun(x3:Int)=>AQ (x1,(Int.tmod (A7 (x3)) 37)))))) ( .bind 3 (pG a2 a0.Hop) (fun(x4:Int)=>.bind 3 (lY a0.Map x4) (fun(x5:Int)=>AQ (x5,x4))))
def Y7 (a0:Eh) (a1 a2:Int):Option (Int×Int):=Ad Z4i (a0,a1,a2,())
def Zhh:Az U:=⟨[28,41,3],384,fun x=>Y7 x.1 x.2.1 x.2.2.1,by decide⟩
theorem Z2Y:BA Tryz.prog B0 173 Zhh:=ok1 (mc ZhY (mc Zu (mc Z1d (mc Zf0 (mc ZcZ BC))))) BB Tryz.func173 (fun _=>by kernel_rfl) (by kernel_rfl)
def Z0l:S1 (Af×Unit) Int
 | (a0,_)=>.bind 384 (Y7 a0.Bz a0.Event a0.Last) (fun(x1:Int×Int)=>AQ x1.1)
def RP (a0:Af):Option Int:=Ad Z0l (a0,())
def Zb8:Az U:=⟨[55],3,fun x=>RP x.1,by decide⟩
theorem jE:BA Tryz.prog B0 128 Zb8:=ok1 (mc Z2Y BC) BB Tryz.func128 (fun _=>by kernel_rfl) (by kernel_rfl)
def Z4m:S1 (Dq×Bool×Unit) Bool
 | (a0,a1,_)=>.br a0.Full ( AQ true) ( .br a1 ( AQ true) ( AQ (decide (a0.WJ>=a0.Fb))))
def Yi (a0:Dq) (a1:Bool):Option Bool:=Ad Z4m (a0,a1,())
def ZgQ:Az U:=⟨[46,4],4,fun x=>Yi x.1 x.2.1,by decide⟩
theorem Z28:BA Tryz.prog B0 188 ZgQ:=ok1 BC BB Tryz.func188 (fun _=>by kernel_rfl) (by kernel_rfl)
def Z3H:S1 (CZ×Unit) Bool
 | (a0,_)=>AQ ((↑a0.Am.length:Int)==0)
def oI (a0:CZ):Option Bool:=Ad Z3H (a0,())
def ZhG:Az U:=⟨[44],4,fun x=>oI x.1,by decide⟩
theorem Zej:BA Tryz.prog B0 189 ZhG:=ok1 BC BB Tryz.func189 (fun _=>by kernel_rfl) (by kernel_rfl)
def Z2R:S1 (Af×Unit) Bool
 | (a0,_)=>.br (a0.BV==0) ( .br (a0.Dl==1) ( .br a0.Jp ( .br ((↑a0.A8.length:Int)==0) ( .br ((↑a0.AP.Ap.length:Int)==0) ( .bind 4 (oI a0.Ag) (fun(x1:Bool)=>.bind 4 (Yi a0.JQ (!x1)) (fun(x2:Bool)=>AQ (!x2)))) ( AQ false)) ( AQ false)) ( AQ false)) ( AQ false)) ( AQ false)
def YQ (a0:Af):Option Bool:=Ad Z2R (a0,())
def Zfy:Az U:=⟨[55],4,fun x=>YQ x.1,by decide⟩
theorem Z0D:BA Tryz.prog B0 130 Zfy:=ok1 (mc Z28 (mc Zej BC)) BB Tryz.func130 (fun _=>by kernel_rfl) (by kernel_rfl)
def Z27:S1 (Ak×Int×Unit) Bool
 | (a0,a1,_)=>.bind 214 (Xx a0.AA.x1) (fun(x1:I4)=>.bind 3 (Lu a0 (1:Int) a1) (fun(x2:Int)=>.bind 4 (Ij a0 (1:Int)) (fun(x3:Bool)=>.br x3 ( .bind 4 (YQ a0.AA.x1) (fun(x4:Bool)=>.br (!x4) ( .br (decide (x1.Start<=x2)) ( .br (decide (x2<=x1.End)) ( .bind 3 (RP a0.AA.x1) (fun(x5:Int)=>.bind 3 (RP a0.AA.x0) (fun(x6:Int)=>AQ (x5==x6)))) ( AQ false)) ( AQ false)) ( AQ false))) ( AQ false))))
def Rj (a0:Ak) (a1:Int):Option Bool:=Ad Z27 (a0,a1,())
def ZeH:Az U:=⟨[60,3],4,fun x=>Rj x.1 x.2.1,by decide⟩
theorem Z1a:BA Tryz.prog B0 87 ZeH:=ok1 (mc UQ (mc RU (mc jO (mc jE (mc Z0D BC))))) BB Tryz.func87 (fun _=>by kernel_rfl) (by kernel_rfl)
def Z3U:S1 (Int×Unit) (List Int)
 | (a0,_)=>.chk true ( AQ ([(IntKind.wrap .u8 ((Int.tmod a0 256))),(IntKind.wrap .u8 ((Int.tmod (IntKind.wrap .u32 (Int.tdiv a0 256)) (256:Int)))),(IntKind.wrap .u8 ((IntKind.wrap .u32 (Int.tdiv a0 65536))))]))
def Y9 (a0:Int):Option (List Int):=Ad Z3U (a0,())
def Zho:Az U:=⟨[22],65,fun x=>Y9 x.1,by decide⟩
theorem Z2k:BA Tryz.prog B0 186 Zho:=ok1 BC BB Tryz.func186 (fun _=>by kernel_rfl) (by kernel_rfl)
end
end Go.Proofs.YtddbklgndkpipaaGreatDoor
