/- A part of it. -/
import Derived.WalkKit
import GoSem.ClaimData
import GoSem.ClaimKeys
import Derived.Below
import Derived.Deep.MidRow
import Derived.Laws.MakeOwn
import Derived.Laws.OwnMore
import Derived.Maps.Keyed
set_option linter.unusedVariables false
set_option linter.unusedSimpArgs false
namespace Go.Proofs.YtjodhcdmhobmoaaGreatDoor.Le
inductive V where
 | lit (v:Value)
 | agg (cs:List V)
 | BK (vs:List V)
 | sl (isNil:Bool) (e:Nat) (xs:List V)
 | DT (isNil:Bool) (e:Nat) (xs:List V)
 | Bl (id off len tot:Nat)
 | ptr (id i off tot:Nat)
 | CX (e:Nat) (xs:List V) (i off:Nat)
 | fn (f:FuncId) (first caps:List V)
 | IV (t:TypeId) (v:V)
 | Gf (kvs:List V)
 | no
 | und
 deriving Inhabited
def V.cells:V->List V
 | .agg cs=>cs
 | v=>[v]
def okV:V->Bool
 | .und | .no | .BK _ | .Gf _=>false
 | _=>true
mutual
def DF:V->Bool
 | .Bl _ _ _ _=>false
 | .ptr _ _ _ _=>false
 | .CX _ xs _ _=>CY xs
 | .agg cs=>CY cs
 | .BK cs=>CY cs
 | .sl _ _ xs=>CY xs
 | .DT _ _ xs=>CY xs
 | .fn _ a b=>CY a&&CY b
 | .IV _ v=>DF v
 | .Gf cs=>CY cs
 | .lit _=>true
 | .no=>true
 | .und=>true
def CY:List V->Bool
 | []=>true
 | x::xs=>DF x&&CY xs
end
def FW (v:V):Bool:=okV v&&DF v
structure Box where
 live:Bool
 row:Bool
 Ey:Bool
 elem:TypeId
 BA:Nat
 xs:List V
 floor:Nat
 deriving Inhabited
abbrev Heap:=List Box
inductive Ty where
 | scalar
 | slice (elem:Nat)
 | array (len elem:Nat)
 | struct (fields:List (Nat×Nat))
 | map (key elem:Nat)
 | other
 deriving Inhabited,DecidableEq
structure TI where
 ty:Ty
 size:Nat
 bytes:Nat
 zero:Option V
 deriving Inhabited
def TI.isAgg (i:TI):Bool:=match i.ty with | .struct _ | .array _ _=>true|_=>false
def TI.VM (i:TI):Bool:=match i.zero with|some z=>okV z&&z.cells.length==i.size|none=>false
def leaf:Value->Bool
 | .int k n=>(Lit.int k n).wf
 | .bool _=>true
 | .string s=>decide (s.size<=maxLen)
 | .pointer none=>true
 | .map none=>true
 | .nilFunc=>true
 | .nilIface=>true
 | _=>false
def PG:Value->V
 | .slice none 0 0=>.sl true 0 []
 | v=>if leaf v then .lit v else .und
def XJ:Value->Bool
 | .slice none 0 0=>true
 | v=>leaf v
def QW:Value->V
 | .agg cs=>if cs.toList.all XJ then .agg (cs.toList.map PG) else .und
 | .tuple vs=>if vs.isEmpty then .no else .und
 | v=>if XJ v then PG v else .und
def Ef:V:=.no
def Lr (d:TypeDesc):Ty:=
 match d with
 | .bool | .int _ | .string | .pointer _ | .func _ _ _ | .interface _=>.scalar
 | .slice e=>.slice e
 | .array n e=>.array n e
 | .struct fs=>.struct (fs.toList.map fun f=>(f.offset,f.type))
 | .map k e=>.map k e
 | _=>.other
def KZ (P:Program) (t:TypeId):Option TI:=
 match P.info? t,P.underlying t with
 | some i,some d=>some { ty:=Lr d,size:=i.size,bytes:=i.bytes,zero:=i.zero.map QW }
 | _,_=>none
inductive FK where
 | b|i (k:IntKind)|s
 deriving DecidableEq
inductive Fk where
 | s (e:TypeId) (sz:Nat)
 | own (e:TypeId) (sz:Nat)
 | keep
 | drop
inductive Bf where
 | var (fl:List Fk)
 | row (fresh:Bool)
structure XR where
 fa:List (List Fk)
 fb:List Bf
 run:List V->Heap->Option (V×Heap)
structure Env where
 P:Program
 ti:TypeId->Option TI
 func:FuncId->Option Func
 env:FuncId->Option (List V->Option V)
 FM:Nat->Option (List V)
 pure:FuncId->Bool
 flat:TypeId->Option (List FK)
 kind:TypeId->Option IntKind
 isStr:TypeId->Bool
 isBool:TypeId->Bool
 isBytes:TypeId->Bool
 calm:FuncId->Nat->Bool
 rows:TypeId->List Nat
 par:FuncId->List TypeId
 own:FuncId->Option TypeId
 hm:FuncId->List FuncId->Option XR
 quiet:Bool:=false
 maps:FuncId->Option (List (Int×FuncId)):=fun _=>none
structure St where
 s:List V
 H:Heap
inductive Ex where
 | normal|ret|exit (id:Nat)
def ev (E:Env) (s:List V):Operand->V
 | .tmp t=>s.getD t .und
 | .const v=>QW v
 | .func f=>.fn f [] []
 | .global g=>match E.FM g with|some r=>.CX r.length [.agg r] 0 0|none=>.und
def PI (v:V) (q:Bool):Option Bool:=
 match v with
 | .lit (.bool b)=>some (b==q)
 | .no=>some false
 | _=>none
def setSlot (s:List V) (d:Option Tmp) (v:V):List V:=match d with|some t=>s.set t v|none=>s
def Dt (H:Heap) (id tot:Nat):Option Box:=
 match H[id]? with
 | some b=>if b.live&&b.xs.length==tot then some b else none
 | none=>none
def partOf (cs:List V) (off n:Nat) (isAgg:Bool):Option V:=
 if isAgg then (if off+n<=cs.length then some (.agg ((cs.drop off).take n)) else none) else cs[off]?
def Oy (xs:List V) (i off n:Nat) (isAgg:Bool):Option V:=
 match xs[i]? with
 | some x=>partOf x.cells off n isAgg
 | none=>none
def Ia (H:Heap):V->Option V
 | .lit v=>some (.lit v)
 | .sl b e xs=>some (.sl b e xs)
 | .DT b e xs=>some (.sl false e xs)
 | .Bl id off len tot=>match Dt H id tot with
  | some b=>if b.row&&decide (off+len<=tot) then some (.sl false b.BA ((b.xs.drop off).take len)) else none
  | none=>none
 | .fn f [] []=>some (.fn f [] [])
 | .IV t (.lit v)=>some (.IV t (.lit v))
 | _=>none
def Jw (H:Heap):List V->Option (List V)
 | []=>some []
 | v::vs=>match Ia H v,Jw H vs with|some w,some ws=>some (w::ws)|_,_=>none
def Ie (H:Heap):V->Option V
 | .agg cs=>(Jw H cs).map .agg
 | v=>Ia H v
def Fp (H:Heap):List V->Option (List V)
 | []=>some []
 | v::vs=>match Ie H v,Fp H vs with|some w,some ws=>some (w::ws)|_,_=>none
def Jz (H:Heap):V->Option V
 | .BK vs=>(Fp H vs).map .BK
 | v=>Ie H v
def Gz (e:Nat):V->V
 | .sl true _ xs=>.sl false e xs
 | v=>v
def Gp:List Nat->List V->List V
 | e::es,v::vs=>Gz e v::Gp es vs
 | [],vs=>vs
 | _,[]=>[]
def EU (es:List Nat):V->V
 | .agg cs=>.agg (Gp es cs)
 | v=>Gz (es.headD 0) v
def Gy (rows:TypeId->List Nat):List TypeId->List V->List V
 | t::ts,v::vs=>EU (rows t) v::Gy rows ts vs
 | [],vs=>vs
 | _,[]=>[]
def Ur:V->Bool | .ptr _ _ _ _=>true|_=>false
def X4:V->V | .lit v=>.lit v|_=>.und
def PN (H:Heap) (v:V):Option V:=
 match v with
 | .ptr id i off tot=>if i=0/\off=0 then (match Dt H id tot with
   | some b=>(match b.row,b.xs with
    | false,[.agg cs]=>some (.CX b.BA [.agg (cs.map X4)] 0 0)
    | false,[.lit z]=>some (.CX b.BA [.lit z] 0 0)
    | _,_=>none)
   | none=>none) else none
 | v=>Ie H v
def Lj (H:Heap):List V->Option (List V)
 | []=>some []
 | v::vs=>match PN H v,Lj H vs with|some w,some ws=>some (w::ws)|_,_=>none
def JM:V->Bool | .lit _=>true|_=>false
def KW:V->Bool
 | .lit _=>true
 | .agg cs=>cs.all JM
 | _=>false
def PL:V->Bool
 | .BK vs=>vs.all KW
 | v=>KW v
def Fb:V->List Nat
 | .Bl id _ _ _=>[id]
 | _=>[]
def EH:V->List Nat
 | .agg cs=>cs.flatMap Fb
 | v=>Fb v
def P5:V->List Nat
 | .BK vs=>vs.flatMap EH
 | v=>EH v
def bump (H:Heap):List Nat->Heap
 | []=>H
 | i::q=>bump (H.modify i fun b=>{ b with floor:=b.xs.length }) q
def place (H:Heap) (k:Nat) (b:Box):Heap:=if k<H.length then H.set k b else H++[b]
def GH (H:Heap) (k:Nat):Bool:=match H[k]? with|some b=>!b.live|none=>k==H.length
def elemsOf (H:Heap):V->Option (List V)
 | .sl _ _ xs=>some xs
 | .DT _ _ xs=>some xs
 | .Bl id off len tot=>match Dt H id tot with
  | some b=>if b.row&&decide (off+len<=tot) then some ((b.xs.drop off).take len) else none
  | none=>none
 | .lit (.string s)=>some (s.data.toList.map fun c=>.lit (.int .u8 c.toNat))
 | _=>none
def FD (H:Heap) (x:V) (n:Nat):Bool:=
 match x with
 | .sl b e _=>b||e==n
 | .DT b e _=>b||e==n
 | .Bl id _ _ tot=>match Dt H id tot with|some b=>b.BA==n|none=>false
 | _=>false
def lenOf (H:Heap):V->Option Nat
 | .sl _ _ xs=>some xs.length
 | .DT _ _ xs=>some xs.length
 | .Bl id _ len tot=>match Dt H id tot with|some _=>some len|none=>none
 | .lit (.string s)=>some s.size
 | _=>none
def intOf:V->Option Int | .lit (.int _ n)=>some n|_=>none
def PR (op:BinOp) (k:IntKind) (a b:Int):Option Value:=
 match op with
 | .add=>some (.int k (k.wrap (a+b)))
 | .sub=>some (.int k (k.wrap (a - b)))
 | .mul=>some (.int k (k.wrap (a*b)))
 | .quo=>if b=0 then none else some (.int k (k.wrap (a.tdiv b)))
 | .rem=>if b=0 then none else some (.int k (a.tmod b))
 | .and | .or | .xor | .andNot=>some (.int k (bits op k a b))
 | .eql=>some (.bool (a==b))
 | .neq=>some (.bool (a != b))
 | .lss=>some (.bool (decide (a<b)))
 | .leq=>some (.bool (decide (a<=b)))
 | .gtr=>some (.bool (decide (a>b)))
 | .geq=>some (.bool (decide (a>=b)))
 | _=>none
def QZ (op:BinOp) (k:IntKind) (a b:Int):Option Value:=
 if b<0 then none else
 match op with
 | .shl=>some (.int k (k.wrap (a*2 ^ min b.toNat k.bits)))
 | .shr=>some (.int k (a.fdiv (2 ^ min b.toNat k.bits)))
 | _=>none
def XV (op:BinOp) (x y:ByteArray):Option Value:=
 match op with
 | .add=>if decide (x.size+y.size<=maxLen) then some (.string (x++y)) else none
 | .eql=>some (.bool (x.toList==y.toList))
 | .neq=>some (.bool !(x.toList==y.toList))
 | .lss=>some (.bool (Op.bytesLess x.toList y.toList))
 | .leq=>some (.bool (Op.bytesLess x.toList y.toList||x.toList==y.toList))
 | .gtr=>some (.bool !(Op.bytesLess x.toList y.toList||x.toList==y.toList))
 | .geq=>some (.bool !(Op.bytesLess x.toList y.toList))
 | _=>none
def J8:List FK->List V->List V->Option Bool
 | [],[],[]=>some true
 | .b::ks,.lit (.bool a)::xs,.lit (.bool b)::ys=>match J8 ks xs ys with|some r=>some (a==b&&r)|none=>none
 | .i k::ks,.lit (.int k1 a)::xs,.lit (.int k2 b)::ys=>if k1=k/\k2=k then (match J8 ks xs ys with|some r=>some (a==b&&r)|none=>none) else none
 | .s::ks,.lit (.string a)::xs,.lit (.string b)::ys=>match J8 ks xs ys with|some r=>some (a==b&&r)|none=>none
 | _,_,_=>none
def iI (P:Program) (z:TypeId->Option (List FK)):Nat->List Field->Option (List FK)
 | _,[]=>some []
 | off,f::fs=>
  if f.offset=off/\f.name != "_" then
   match z f.type with
   | some ks=>if P.cellsOf f.type=ks.length then (match iI P z (off+ks.length) fs with|some q=>some (ks++q)|none=>none) else none
   | none=>none
  else none
def PZ (P:Program):Nat->TypeId->Option (List FK)
 | 0,_=>none
 | d+1,t=>
  match P.underlying t with
  | some .bool=>some [.b]
  | some (.int k)=>some [.i k]
  | some .string=>some [.s]
  | some (.array n e)=>match PZ P d e with
   | some ks=>if P.cellsOf e=ks.length/\P.cellsOf t=n*ks.length then some (List.replicate n ks).flatten else none
   | none=>none
  | some (.struct fs)=>match iI P (PZ P d) 0 fs.toList with
   | some ks=>if P.cellsOf t=ks.length then some ks else none
   | none=>none
  | _=>none
def Uo:V->Option Bool
 | .sl true _ _=>some true
 | .ptr _ _ _ _=>some false
 | .CX _ _ _ _=>some false
 | .fn _ _ _=>some false
 | .IV _ _=>some false
 | .lit (.pointer none)=>some true
 | .lit .nilFunc=>some true
 | .lit .nilIface=>some true
 | .lit (.map none)=>some true
 | _=>none
def Nr (E:Env) (op:BinOp) (t:TypeId) (x y:V):Option V:=
 match op,x,y with
 | .shl,.lit (.int k a),.lit (.int _ b)=>(QZ .shl k a b).map .lit
 | .shr,.lit (.int k a),.lit (.int _ b)=>(QZ .shr k a b).map .lit
 | op,.lit (.int k a),.lit (.int j b)=>if k=j then (PR op k a b).map .lit else none
 | op,.lit (.string a),.lit (.string b)=>(XV op a b).map V.lit
 | .eql,.lit (.bool a),.lit (.bool b)=>if E.isBool t then some (.lit (.bool (a==b))) else none
 | .neq,.lit (.bool a),.lit (.bool b)=>if E.isBool t then some (.lit (.bool (!(a==b)))) else none
 | .eql,.agg xs,.agg ys=>match E.flat t with|some ks=>(J8 ks xs ys).map fun b=>V.lit (.bool b)|none=>none
 | .neq,.agg xs,.agg ys=>match E.flat t with|some ks=>(J8 ks xs ys).map fun b=>V.lit (.bool !b)|none=>none
 | _,_,_=>none
def kX (op:UnOp) (x:V):Option V:=
 match op,x with
 | .neg,.lit (.int k n)=>some (.lit (.int k (k.wrap (0 - n))))
 | .xor,.lit (.int k n)=>some (.lit (.int k (bits .xor k (if k.signed then -1 else k.max) n)))
 | .not,.lit (.bool b)=>some (.lit (.bool !b))
 | _,_=>none
def PS (cs:List V):List (Nat×V)->(Nat->Option (Nat×Nat))->Option (List V)
 | [],_=>some cs
 | (i,v)::q,place=>
  match place i with
  | none=>none
  | some (off,size)=>if v.cells.length==size&&decide (off+size<=cs.length)&&okV v then PS (cs.take off++v.cells++cs.drop (off+size)) q place else none
def placesOf (E:Env) (fs:List (Nat×Nat)) (i:Nat):Option (Nat×Nat):=
 match fs[i]? with
 | some (off,t)=>match E.ti t with|some ti=>some (off,ti.size)|none=>none
 | none=>none
def XM (E:Env) (t:TypeId) (q:List (Nat×V)):Option V:=
 match E.ti t with
 | some i=>match i.zero with
  | some z=>
   if okV z then
    match i.ty with
    | .struct fs=>if fs.all fun x=>(E.ti x.2).isSome then (PS z.cells q (placesOf E fs)).map .agg else none
    | .array _ e=>match E.ti e with
     | some A=>(PS z.cells q (fun i=>some (i*A.size,A.size))).map .agg
     | none=>none
    | _=>none
   else none
  | none=>none
 | none=>none
def N7 (xs:List V) (size:Nat):List (Nat×V)->Option (List V)
 | []=>some xs
 | (i,v)::q=>if v.cells.length==size&&decide (i<xs.length)&&okV v then N7 (xs.set i v) size q else none
abbrev EO:=FuncId->List V->Heap->Option (V×Heap)
def CJ (row Ey:Bool) (elem:TypeId) (BA:Nat) (xs:List V):Box:={ live:=true,row,Ey,elem,BA,xs,floor:=0 }
def Env.size (E:Env) (t:TypeId):Option Nat:=(E.ti t).map (·.size)
def Nb (E:Env) (H:Heap) (t:TypeId) (a:V):Option V:=
 match E.ti t with
 | none=>none
 | some i=>
  match a with
  | .CX _ xs j off=>Oy xs j off i.size i.isAgg
  | .ptr id j off tot=>match Dt H id tot with|some b=>Oy b.xs j off i.size i.isAgg|none=>none
  | _=>none
def NK (x:V) (off:Nat) (cs:List V):Option V:=
 match x with
 | .agg q=>if off+cs.length<=q.length then some (.agg (q.take off++cs++q.drop (off+cs.length))) else none
 | _=>match off,cs with|0,[c]=>some c|_,_=>none
def NP (E:Env) (H:Heap) (t:TypeId) (a v:V):Option Heap:=
 match E.ti t with
 | none=>none
 | some i=>
  match a with
  | .ptr id j off tot=>match Dt H id tot with
   | some b=>match b.xs[j]? with
    | some x=>
     if v.cells.length==i.size&&decide (b.floor<=j)&&okV v then
      (if b.row then
       match Ie H v with
       | some v' =>match (NK x off v'.cells).map (EU (E.rows b.elem)) with
        | some q =>if (EH v).contains id || !(okV v') || !(okV q) then none else some ((bump H (EH v)).set id { b with xs:=b.xs.set j q })
        | none=>none
       | none=>none
       else match NK x off v.cells with
        | some q =>if okV q then some (H.set id { b with xs:=b.xs.set j q }) else none
        | none=>none)
     else none
    | none=>none
   | none=>none
  | _=>none
def lim:Nat:=140737488355328
def NL (E:Env) (k:Nat) (H:Heap) (t u:TypeId) (s x:V):Option (V×Heap):=
 match E.ti t with
 | some ⟨.slice e,_,_,_⟩=>
  match E.ti e,(u==t),elemsOf H x with
  | some q,true,some ys=>
   if decide (0<q.size)&&FD H x q.size&&q.VM then
    match s with
    | .Bl id off len tot=>match Dt H id tot with
     | some b=>
      if b.row&&b.elem==e&&decide (off=0)&&decide (len=tot)&&b.BA==q.size then
       (if decide ((tot+ys.length)*q.bytes<=lim)&&decide (tot+ys.length<=maxLen) then
        some (.Bl id 0 (tot+ys.length) (tot+ys.length),H.set id { b with xs:=b.xs++ys,Ey:=b.Ey&&ys.isEmpty })
        else none)
      else if b.row&&b.elem==e&&decide (off=0)&&b.BA==q.size&&decide (b.floor<=len)&&decide (len<tot)&&decide (len+ys.length<=tot) then
       some (.Bl id 0 (len+ys.length) tot,H.set id { b with xs:=b.xs.take len++ys++b.xs.drop (len+ys.length) })
      else none
     | none=>none
    | .sl true _ [] | .DT true _ []=>
     (if decide (ys.length*q.bytes<=lim)&&decide (ys.length<=maxLen) then
      some (.Bl k 0 ys.length ys.length,place H k (CJ true false e q.size ys))
      else none)
    | .DT false es xs=>
     (if es==q.size&&decide ((xs.length+ys.length)*q.bytes<=lim)&&decide (xs.length+ys.length<=maxLen) then
      (if ys.isEmpty then some (.DT false es xs,H)
       else some (.Bl k 0 (xs.length+ys.length) (xs.length+ys.length),place H k (CJ true false e q.size (xs++ys))))
      else none)
    | _=>none
   else none
  | _,_,_=>none
 | _=>none
def N9 (kd:IntKind) (n:Int):List V->Option (Option V)
 | []=>some none
 | .lit (.int k a)::v::r=>if k=kd then (if n=a then some (some v) else N9 kd n r) else none
 | _=>none
def XU (E:Env) (t:TypeId) (ok:Bool) (m x:V):Option V:=
 match E.ti t,m,x with
 | some ⟨.map k e,_,_,_⟩,.Gf kvs,.lit (.int kd n)=>
  if E.kind k=some kd then
   match N9 kd n kvs with
   | some (some v)=>some (if ok then .BK [v,.lit (.bool true)] else v)
   | some none=>match E.ti e with
    | some q=>q.zero.map fun z=>if ok then .BK [z,.lit (.bool false)] else z
    | none=>none
   | none=>none
  else none
 | _,_,_=>none
def jV (E:Env) (H:Heap) (t u:TypeId) (d x:V):Option (V×Heap):=
 match E.ti t with
 | some ⟨.slice e,_,_,_⟩=>
  match E.ti e,elemsOf H x,d with
  | some q,some ys,.Bl id off len tot=>match Dt H id tot with
   | some b=>
    if b.row&&decide (off=0)&&decide (len=tot)&&b.BA==q.size&&FD H x q.size&&decide (b.floor=0) then
     some (.lit (.int .i64 (min ys.length tot:Nat)),H.set id { b with xs:=ys.take tot++b.xs.drop ys.length })
    else none
   | none=>none
  | _,_,_=>none
 | _=>none
def JL (v:V) (q:Nat):Option Nat:=
 match v with
 | .lit (.int _ n)=>if 0<=n/\n<=q then some n.toNat else none
 | _=>none
def Iy (x:Option V) (z q:Nat):Option Nat:=match x with|some v=>JL v z|none=>some q
def QM (E:Env) (H:Heap) (t:TypeId) (x:V):Bool:=
 match x with
 | .lit (.string _)=>E.isStr t
 | _=>match E.ti t with
  | some ⟨.slice e,_,_,_⟩=>match E.ti e with|some q=>FD H x q.size|none=>false
  | _=>false
def Jp (E:Env) (H:Heap) (t:TypeId) (x:V) (z q A:Option V):Option (V×Heap):=
 if QM E H t x then
  match lenOf H x with
  | none=>none
  | some n=>
   match Iy q n n with
   | none=>none
   | some h=>
    match Iy z h 0 with
    | none=>none
    | some l=>
     match A with
     | some m=>
      (match q,JL m n,elemsOf H x,x with
       | some _,some k,some xs,.sl b e _=>if k=h then some (.DT false e ((xs.drop l).take (h - l)),H) else none
       | some _,some k,some xs,.DT b e _=>if k=h then some (.DT false e ((xs.drop l).take (h - l)),H) else none
       | some _,some k,some xs,.Bl id _ _ _=>if k=h then some (.DT false ((H.getD id default).BA) ((xs.drop l).take (h - l)),bump H [id]) else none
       | _,_,_,_=>none)
     | none=>
      match x with
      | .lit (.string s)=>some (.lit (.string (s.extract l h)),H)
      | .sl b e xs=>some (.sl b e ((xs.drop l).take (h - l)),H)
      | .DT b e xs=>some (.sl b e ((xs.drop l).take (h - l)),H)
      | .Bl id off _ tot=>some (.Bl id (off+l) (h - l) tot,H)
      | _=>none
 else none
def PK (E:Env) (H:Heap) (n:Nat) (e:TypeId) (x:V) (z q A:Option V):Option (V×Heap):=
 match x,z,Iy q n n,A with
 | .ptr id i off tot,none,some m,none=>match Dt H id tot with
  | some b=>(match b.row,b.xs with
   | false,[.agg cs]=>if i=0/\off=0/\cs.length=n/\n<=maxLen/\E.size e=some 1/\cs.all JM=true then some (.sl false 1 (cs.take m),bump H [id]) else none
   | _,_=>none)
  | none=>none
 | _,_,_,_=>none
def X9 (E:Env) (t:TypeId) (x:V):Option V:=
 match E.ti t,x with
 | some ⟨.array n e,_,_,_⟩,.sl false sz xs=>if E.size e=some 1/\sz=1/\0<n/\n<=xs.length/\(xs.take n).all JM=true then some (.CX n [.agg (xs.take n)] 0 0) else none
 | _,_=>none
def QI (E:Env) (H:Heap) (t:TypeId) (x i:V):Option V:=
 match i,E.ti t with
 | .lit (.int _ n),some ti=>
  match ti.ty,x with
  | .slice q,.sl _ e xs=>if 0<=n/\n<xs.length/\E.size q=some e then some (.CX e xs n.toNat 0) else none
  | .slice q,.DT _ e xs=>if 0<=n/\n<xs.length/\E.size q=some e then some (.CX e xs n.toNat 0) else none
  | .slice q,.Bl id off len tot=>match Dt H id tot with
   | some b=>if 0<=n/\n<len/\E.size q=some b.BA then some (.ptr id (off+n.toNat) 0 tot) else none
   | none=>none
  | .array len e,.ptr id j off tot=>match E.size e with
   | some sz=>if 0<=n/\n<len then some (.ptr id j (off+n.toNat*sz) tot) else none
   | none=>none
  | .array len e,.CX d xs j off=>match E.size e with
   | some sz=>if 0<=n/\n<len then some (.CX d xs j (off+n.toNat*sz)) else none
   | none=>none
  | _,_=>none
 | _,_=>none
def WQ (E:Env) (s:TypeId) (x:V) (f:Nat):Option V:=
 match E.ti s with
 | some ⟨.struct fs,_,_,_⟩=>match fs[f]? with
  | some (o,t)=>match E.size t with
   | some sz=>if sz=0 then none else match x with
    | .ptr id j off tot=>some (.ptr id j (off+o) tot)
    | .CX d xs j off=>some (.CX d xs j (off+o))
    | _=>none
   | none=>none
  | none=>none
 | _=>none
def XK (E:Env) (s:TypeId) (x:V) (f:Nat):Option V:=
 match E.ti s,x with
 | some ⟨.struct fs,_,_,_⟩,.agg cs=>match fs[f]? with
  | some (o,t)=>match E.ti t with|some i=>partOf cs o i.size i.isAgg|none=>none
  | none=>none
 | _,_=>none
def XF (E:Env) (t:TypeId) (x i:V):Option V:=
 match i with
 | .lit (.int _ n)=>
  match E.ti t,x with
  | some ⟨.array len e,_,_,_⟩,.agg cs=>match E.ti e with
   | some q=>if 0<=n/\n<len then partOf cs (n.toNat*q.size) q.size q.isAgg else none
   | none=>none
  | some ⟨.scalar,_,_,_⟩,.lit (.string s)=>if E.isStr t then (if 0<=n then (s[n.toNat]?).map fun b=>V.lit (.int .u8 b.toNat) else none) else none
  | _,_=>none
 | _=>none
def byteOf:V->Option UInt8
 | .lit (.int .u8 n)=>some (UInt8.ofNat n.toNat)
 | _=>none
def bytesOf:List V->Option (List UInt8)
 | []=>some []
 | v::vs=>match byteOf v,bytesOf vs with|some b,some q=>some (b::q)|_,_=>none
def Iz (E:Env) (H:Heap) (q dst:TypeId) (x:V):Option (V×Heap):=
 match x with
 | .lit (.int _ n)=>match E.kind dst with
  | some k=>if (E.ti q).isSome then some (.lit (.int k (k.wrap n)),H) else none
  | none=>none
 | .lit (.string s)=>if E.isStr q&&E.isStr dst then some (.lit (.string s),H) else none
 | x=>if E.isStr dst&&E.isBytes q&&FD H x 1 then
   match elemsOf H x with
   | some xs=>match bytesOf xs with|some z=>if z.length<=maxLen then some (.lit (.string ⟨z.toArray⟩),H) else none|none=>none
   | none=>none
  else none
def bytesV (st:ByteArray):List V:=st.data.toList.map fun c=>.lit (.int .u8 c.toNat)
def NY (E:Env) (k:Nat) (H:Heap) (dst:TypeId) (x:V):Option (V×Heap):=
 match x,E.ti dst with
 | .lit (.string st),some ⟨.slice e,_,_,_⟩=>if E.size e=some 1 then some (.Bl k 0 st.size st.size,place H k (CJ true false e 1 (bytesV st))) else none
 | _,_=>none
def mm (q:Bool) (k:IntKind):Int->List V->Option V
 | a,[]=>some (.lit (.int k a))
 | a,.lit (.int j b)::z=>if k=j then mm q k (if q then (if b>a then b else a) else (if b<a then b else a)) z else none
 | _,_=>none
def Qa (q:Bool):List V->Option V
 | .lit (.int k a)::z=>mm q k a z
 | _=>none
def evs (E:Env) (s:List V) (xs:Array Operand):List V:=xs.toList.map (ev E s)
def wH (E:Env) (t:TypeId) (x:V):Bool:=
 match x with
 | .lit (.string s)=>E.isStr t
 | _=>match E.ti t with|some ⟨.slice _,_,_,_⟩=>true|_=>false
def QS (E:Env) (k:Nat) (H:Heap) (s:List V) (b:Builtin) (args:List V) (q:List TypeId):Option (V×Heap):=
 match b,args,q with
 | .len,[x],[t]=>if wH E t x then (lenOf H x).map fun n=>(V.lit (.int .i64 n),H) else none
 | .append,[a,x],[t,u]=>NL E k H t u a x
 | .copy,[d,x],[t,u]=>jV E H t u d x
 | .min,args,_=>(Qa false args).map (·,H)
 | .max,args,_=>(Qa true args).map (·,H)
 | _,_,_=>none
def QF (E:Env) (k:Nat) (H:Heap) (t:TypeId) (n:Nat) (q:List (Nat×V)):Option (V×Heap):=
 match E.ti t with
 | some ⟨.slice e,_,_,_⟩=>match E.ti e with
  | some A=>match A.zero,Fp H (q.map (·.2)) with
   | some z,some vs=>
    if n*A.size<=16777216/\0<A.size/\z.cells.length=A.size/\okV z=true/\(n==0 && !q.isEmpty)=false then
     match N7 (List.replicate n (EU (E.rows e) z)) A.size ((q.map (·.1)).zip (vs.map (EU (E.rows e)))) with
     | some xs=>some (.Bl k 0 n n,place (bump H ((q.map (·.2)).flatMap EH)) k (CJ true false e A.size xs))
     | none=>none
    else none
   | _,_=>none
  | none=>none
 | _=>none
def BU (call:EO) (E:Env) (k:Nat) (H:Heap) (s:List V) (o:Oper):Option (V×Heap):=
 match o.op with
 | .move x=>some (ev E s x,H)
 | .assign (.const (.slice none 0 0))=>match E.ti o.type with
  | some ⟨.slice e,_,_,_⟩=>some (.Bl k 0 0 0,place H k (CJ true false e ((E.size e).getD 0) []))
  | _=>none
 | .assign x=>some (ev E s x,H)
 | .pick c a b=>match ev E s c with | .lit (.bool t)=>some (if t then ev E s a else ev E s b,H)|_=>none
 | .alloc t=>match E.ti t with
  | some i=>match i.zero with|some z=>if z.cells.length=i.size/\okV z=true then some (.ptr k 0 0 1,place H k (CJ false false t i.size [z])) else none|none=>none
  | none=>none
 | .box t x=>match E.ti t with
  | some i=>if (ev E s x).cells.length=i.size/\okV (ev E s x)=true then some (.ptr k 0 0 1,place H k (CJ false false t i.size [ev E s x])) else none
  | none=>none
 | .build t q=>(XM E t (q.toList.map fun(i,x)=>(i,ev E s x))).map (·,H)
 | .buildSlice t n q=>QF E k H t n (q.toList.map fun(i,x)=>(i,ev E s x))
 | .load t a=>(Nb E H t (ev E s a)).map (·,H)
 | .store t a v=>(NP E H t (ev E s a) (ev E s v)).map (Ef,·)
 | .nilCheck x=>match Uo (ev E s x) with|some false=>some (ev E s x,H)|_=>none
 | .binOp op t x y _=>(Nr E op t (ev E s x) (ev E s y)).map (·,H)
 | .unOp op _ x=>(kX op (ev E s x)).map (·,H)
 | .convert C dst x=>if E.isStr C&&E.isBytes dst then NY E k H dst (ev E s x) else Iz E H C dst (ev E s x)
 | .makeSlice t l c=>match E.ti t,ev E s l,ev E s c with
  | some ⟨.slice e,_,_,_⟩,.lit (.int _ n),.lit (.int _ m)=>match E.ti e with
   | some A=>match A.zero with
    | some z=>if 0<=n/\n<=m/\m.toNat*A.bytes<=lim/\m<=maxLen/\0<A.size/\z.cells.length=A.size/\okV z=true then
      some (.Bl k 0 n.toNat n.toNat,place H k (CJ true false e A.size (List.replicate n.toNat (EU (E.rows e) z)))) else none
    | none=>none
   | none=>none
  | _,_,_=>none
 | .slice t x F D G=>match E.ti t with
  | some ⟨.array n e,_,_,_⟩=>PK E H n e (ev E s x) (F.map (ev E s)) (D.map (ev E s)) (G.map (ev E s))
  | _=>Jp E H t (ev E s x) (F.map (ev E s)) (D.map (ev E s)) (G.map (ev E s))
 | .sliceToArrayPointer t x=>(X9 E t (ev E s x)).map (·,H)
 | .fieldAddr t x f=>(WQ E t (ev E s x) f).map (·,H)
 | .field t x f=>(XK E t (ev E s x) f).map (·,H)
 | .indexAddr t x i=>(QI E H t (ev E s x) (ev E s i)).map (·,H)
 | .index t x i=>(XF E t (ev E s x) (ev E s i)).map (·,H)
 | .extract x i=>match ev E s x with | .BK vs=>(vs[i]?).map (·,H)|_=>none
 | .lookup t m x ok=>(XU E t ok (ev E s m) (ev E s x)).map (·,H)
 | .makeFunc (.func f) first caps=>some (.fn f (evs E s first) (evs E s caps),H)
 | .call c=>match c.callee with
  | .builtin b=>QS E k H s b (evs E s c.args) c.argTypes.toList
  | .value f=>match ev E s f with
   | .fn g first caps=>call g (first++evs E s c.args++caps) H
   | _=>none
  | _=>none
 | _=>none
def GV (call:EO) (E:Env) (ops:Array Oper) (k:Nat) (o:Oper) (st:St):Option (V×Heap):=
 match o.guard with
 | none=>BU call E k st.H st.s o
 | some (j,q)=>
  match (ops[j]?).bind (·.dst) with
  | none=>none
  | some d=>match PI (st.s.getD d .und) q with
   | none=>none
   | some false=>some (Ef,st.H)
   | some true=>BU call E k st.H st.s o
def KT (call:EO) (E:Env) (ops:Array Oper) (k:Nat) (i:Nat) (st:St):Option St:=
 match ops[i]? with
 | none=>some st
 | some o=>match GV call E ops k o st with
  | some (v,H)=>some ⟨setSlot st.s o.dst v,H⟩
  | none=>none
def stepD (call:EO) (E:Env) (ops:Array Oper) (i:Nat) (st:St):Option St:=KT call E ops st.H.length i st
def Nl (call:EO) (E:Env) (ops:Array Oper):List Nat->St->Option St
 | [],st=>some st
 | i::q,st=>match stepD call E ops i st with
  | some st' =>Nl call E ops q st'
  | none=>none
def Ec:V->List Nat
 | .Bl id _ _ _=>[id]
 | .ptr id _ _ _=>[id]
 | _=>[]
def jX:V->List Nat
 | .agg cs=>cs.flatMap Ec
 | v=>Ec v
def D5:V->List Nat
 | .agg cs=>cs.flatMap Ec
 | .fn _ a b=>(a++b).flatMap jX
 | v=>Ec v
def yM:V->Bool | .fn _ _ _=>true|_=>false
def Xg (E:Env) (f:FuncId):Bool:=(E.pure f||(E.env f).isSome||(E.maps f).isSome)&&(E.own f).isNone
def mkV (l:List (Int×FuncId)) (x:V):V:=.Gf (l.flatMap fun q=>[.lit (.int .i64 q.1),.fn q.2 [x] []])
def wZ (E:Env):V->Bool
 | .fn g a b=>Xg E g&&(a++b).all (fun v=>!yM v)
 | _=>false
def quietAt (E:Env) (s:List V) (o:Oper):Bool:=
 match o.op with
 | .call c=>(match c.callee with
  | .value (.tmp t)=>!(E.quiet&&o.type != 0)||wZ E (s.getD t .und)
  | _=>true)
 | _=>true
def Ea (E:Env) (s:List V) (o:Oper):List Nat:=o.op.operands.toList.flatMap fun x=>D5 (ev E s x)
inductive Cls where
 | s|n|f|a|c|w
 deriving DecidableEq
def Qk (E:Env) (f:FuncId):Bool:=(E.maps f).isNone&&(E.env f).isNone && !E.pure f&&(match E.hm f [] with|some hs=>hs.fb.isEmpty|none=>false)
def CS (E:Env) (o:Oper):Cls:=
 match o.op with
 | .move _ | .pick .. | .build .. | .binOp .. | .unOp .. | .field .. | .fieldAddr .. | .extract .. | .lookup .. | .makeFunc .. | .index .. | .nilCheck _ | .sliceToArrayPointer ..=>.s
 | .assign (.const (.slice none 0 0))=>.a
 | .assign _=>.s
 | .load .. | .indexAddr ..=>.n
 | .convert q dst _=>if E.isStr q&&E.isBytes dst then .a else .n
 | .slice ..=>.n
 | .alloc _ | .box .. | .buildSlice .. | .makeSlice ..=>.a
 | .call c=>match c.callee with
  | .builtin .len=>.n
  | .builtin .min=>.s
  | .builtin .max=>.s
  | .value (.func f)=>if Xg E f then .f else if Qk E f then .c else .w
  | .value (.tmp _)=>if E.quiet&&o.type != 0 then .f else .w
  | _=>.w
 | _=>.w
def Z4G:Cls->Cls->Bool
 | .w,.s=>true
 | .s,.w=>true
 | .w,_=>false
 | _,.w=>false
 | .c,.c=>false
 | _,_=>true
def XG (acc:List Nat) (o:Oper):Nat:=
 o.after.toList.foldl (fun m e=>if Region.binds .any e then m ||| (1 <<< e.on) ||| acc.getD e.on 0 else m) 0
def Gj:List Nat->List Oper->List Nat
 | acc,[]=>acc
 | acc,o::os=>Gj (acc++[XG acc o]) os
def jD (E:Env) (ops:Array Oper) (x y:Oper):Bool:=Z4G (CS E x) (CS E y)&&x.apart ops y
def QT (o:Oper):Option Operand:=
 match o.op with
 | .store _ a _=>some a
 | .call c=>(match c.callee,c.args.toList with
  | .builtin .append,[a,_]=>some a
  | _,_=>none)
 | _=>none
def ZId (ops:Array Oper) (d:Tmp):Option Nat:=(List.range ops.size).find? fun j=>match ops[j]? with|some q=>q.dst==some d|none=>false
def rootOf (E:Env) (ops:Array Oper):Nat->Tmp->Option (Nat⊕Nat)
 | 0,_=>none
 | n+1,d=>match ZId ops d with
  | none=>some (.inr d)
  | some j=>match ops[j]? with
   | none=>none
   | some q=>if CS E q = .a then some (.inl j) else match q.op with
    | .fieldAddr _ (.tmp e) _=>rootOf E ops n e
    | .nilCheck (.tmp e)=>rootOf E ops n e
    | .move (.tmp e)=>rootOf E ops n e
    | .indexAddr _ (.tmp e) _=>rootOf E ops n e
    | .call _=>(match QT q with|some (.tmp e)=>rootOf E ops n e|_=>none)
    | _=>none
def X7 (E:Env) (ops:Array Oper) (o:Oper):Option (Nat⊕Nat):=
 match o.guard,QT o with
 | none,some (.tmp d)=>rootOf E ops 12 d
 | _,_=>none
def needs (E:Env) (o:Oper):Bool:=match CS E o with | .n=>true | .f=>true | .a=>true | .c=>true|_=>false
def linked (ms:List Nat) (x y:Nat):Bool:=(ms.getD x 0).testBit y||(ms.getD y 0).testBit x
def Qh (E:Env) (ops:Array Oper):List (Nat×(Nat⊕Nat)):=
 let ms:=Gj [] ops.toList
 (List.range ops.size).filterMap fun x=>match ops[x]? with
  | some ox=>(match X7 E ops ox with
   | some t=>if (List.range ops.size).any (fun y=>!linked ms x y&&(match ops[y]? with|some oy=>needs E oy|none=>false)) then some (x,t) else none
   | none=>none)
  | none=>none
def S9 (base:Nat) (s0:List V):Nat⊕Nat->Option Nat
 | .inl j=>some (base+j)
 | .inr d=>match s0.getD d .und with | .ptr id _ _ _=>some id | .Bl id _ _ _=>some id|_=>none
def addrOf (E:Env) (s:List V) (o:Oper):V:=match QT o with|some a=>ev E s a|_=>.no
def PH (H:Heap) (a:V) (k:Nat):Bool:=match a with
 | .ptr id _ _ tot=>id==k&&(match Dt H id tot with|some b=>!b.row|none=>false)
 | .Bl id _ _ _=>id==k&&(match H[id]? with|some b=>b.row|none=>false)
 | _=>false
def Ho (E:Env) (ms:List Nat) (lt:List (Nat×(Nat⊕Nat))) (s0:List V) (base i:Nat) (s:List V) (H:Heap) (o:Oper):Bool:=
 lt.all fun p=>match S9 base s0 p.2 with
  | none=>false
  | some k=>if p.1=i then PH H (addrOf E s o) k else !needs E o||(linked ms p.1 i || !(Ea E s o).contains k)
def OI (E:Env) (ops:Array Oper) (lt:List (Nat×(Nat⊕Nat))) (x:Nat) (ox oy:Oper):Bool:=
 ox.apart ops oy&&(needs E oy&&lt.any fun p=>p.1==x)
def xW (E:Env) (ops:Array Oper):Bool:=
 let ms:=Gj [] ops.toList
 (List.range ops.size).all fun y=>match ops[y]? with
  | some oy=>oy.after.all (fun e=>!Region.binds .any e||decide (e.on<y)) &&
   (List.range y).all fun x=>(ms.getD y 0).testBit x||(match ops[x]? with|some ox=>jD E ops ox oy||(OI E ops (Qh E ops) x ox oy||OI E ops (Qh E ops) y oy ox)|none=>true)
  | none=>true
def Eo (E:Env) (f:FuncId):Code->Bool
 | .region id ops true=>!E.calm f id||xW E ops
 | .seq a b=>Eo E f a&&Eo E f b
 | .cond _ a b=>Eo E f a&&Eo E f b
 | .block _ b=>Eo E f b
 | .loop b=>Eo E f b
 | .scope b=>Eo E f b
 | _=>true
def SB:Box:={ live:=false,row:=false,Ey:=false,elem:=0,BA:=0,xs:=[],floor:=0 }
def XL (E:Env) (ops:Array Oper) (ms:List Nat) (i:Nat):Bool:=
 (List.range ops.size).all fun j=>j==i||(linked ms i j||(match ops[j]? with|some q=>!decide (CS E q = .c)|none=>true))
def Ik (call:EO) (E:Env) (ops:Array Oper) (ms:List Nat) (lt:List (Nat×(Nat⊕Nat))) (s0:List V) (base m:Nat) (i:Nat) (st:St):Option St:=
 match ops[i]? with
 | none=>some st
 | some o=>
  if ((Ea E st.s o).all fun id=>decide (id<base)||(decide (base+m<=id)&&XL E ops ms i)||(decide (id<base+m)&&(ms.getD i 0).testBit (id - base)))&&quietAt E st.s o&&(Ho E ms lt s0 base i st.s st.H o&&(!decide (CS E o = .c)||decide (base+m<=st.H.length))) then
   (if CS E o = .a then
    match st.H[base+i]? with
    | some b=>if b.live then none else KT call E ops (base+i) i st
    | none=>none
    else KT call E ops st.H.length i st)
  else none
def NR (call:EO) (E:Env) (ops:Array Oper) (ms:List Nat) (lt:List (Nat×(Nat⊕Nat))) (s0:List V) (base m:Nat):List Nat->St->Option St
 | [],st=>some st
 | i::q,st=>match Ik call E ops ms lt s0 base m i st with
  | some st' =>NR call E ops ms lt s0 base m q st'
  | none=>none
def Ut (call:EO) (E:Env) (ops:Array Oper) (st:St):Option St:=
 let m:=if ops.any (fun o=>decide (CS E o = .a)) then ops.size else 0
 NR call E ops (Gj [] ops.toList) (Qh E ops) st.s st.H.length m (List.range ops.size) ⟨st.s,st.H++List.replicate m SB⟩
def Gu (call:EO) (q:Code->St->Option (Ex×St)) (E:Env) (f:FuncId):Code->St->Option (Ex×St)
 | .skip,st=>some (.normal,st)
 | .region _ ops false,st=>(Nl call E ops (List.range ops.size) st).map (.normal,·)
 | .region id ops true,st=>if E.calm f id then (Ut call E ops st).map (.normal,·) else none
 | .seq a b,st=>match Gu call q E f a st with
  | some (.normal,st')=>Gu call q E f b st'
  | r=>r
 | .cond c a b,st=>match ev E st.s c with
  | .lit (.bool t)=>if t then Gu call q E f a st else Gu call q E f b st
  | _=>none
 | .block id b,st=>match Gu call q E f b st with
  | some (.exit i,st')=>if i=id then some (.normal,st') else some (.exit i,st')
  | r=>r
 | .loop b,st=>q b st
 | .scope b,st=>Gu call q E f b st
 | .label _,st=>some (.normal,st)
 | .exit id,st=>some (.exit id,st)
 | .ret,st=>some (.ret,st)
 | _,_=>none
def Ux (call:EO) (E:Env) (f:FuncId):Nat->Code->St->Option (Ex×St)
 | 0,_,_=>none
 | n+1,b,st=>match Gu call (Ux call E f n) E f b st with
  | some (.normal,st')=>Ux call E f n b st'
  | r=>r
def resD (E:Env) (H:Heap) (s:List V):ResultVar->Option V
 | .tmp t=>some (s.getD t .und)
 | .cell a t=>Nb E H t (s.getD a .und)
def Lc (E:Env) (H:Heap) (s:List V) (rs:List ResultVar):Option V:=
 match rs.mapM (resD E H s) with
 | some [v]=>some v
 | some vs=>some (.BK vs)
 | none=>none
def Ql (call:EO) (n:Nat) (E:Env) (f:FuncId) (fn:Func) (args:List V) (H:Heap):Option (V×Heap):=
 match fn.body with
 | none=>none
 | some c=>match Gu call (Ux call E f n) E f c ⟨args++List.replicate (fn.ntmps - args.length) Ef,H⟩ with
  | some (.normal,st)|some (.ret,st)=>(Lc E st.H st.s fn.results.toList).map (·,st.H)
  | _=>none
mutual
def Ei:V->List Nat
 | .Bl id _ _ _=>[id]
 | .ptr id _ _ _=>[id]
 | .agg cs=>Dx cs
 | .BK cs=>Dx cs
 | .fn _ a b=>Dx a++Dx b
 | .IV _ v=>Ei v
 | .Gf cs=>Dx cs
 | _=>[]
def Dx:List V->List Nat
 | []=>[]
 | x::xs=>Ei x++Dx xs
end
mutual
def GI (q:Nat->Nat):V->V
 | .Bl id off len tot=>.Bl (q id) off len tot
 | .ptr id i off tot=>.ptr (q id) i off tot
 | .agg cs=>.agg (IC q cs)
 | .BK cs=>.BK (IC q cs)
 | .fn f a b=>.fn f (IC q a) (IC q b)
 | .IV t v=>.IV t (GI q v)
 | .Gf cs=>.Gf (IC q cs)
 | v=>v
def IC (q:Nat->Nat):List V->List V
 | []=>[]
 | x::xs=>GI q x::IC q xs
end
def jY (e:TypeId) (sz:Nat) (H:Heap) (x:V):Option (V×Heap):=
 match x with
 | .sl true _ []=>some (.Bl H.length 0 0 0,H++[CJ true false e sz []])
 | .DT true _ []=>some (.Bl H.length 0 0 0,H++[CJ true false e sz []])
 | .Bl id off len tot=>if off=0/\len=tot then some (.Bl id off len tot,H) else none
 | _=>none
def I9:Fk->Heap->V->Option (V×Heap)
 | .s _ sz,H,x=>(Ia H x).map fun y=>(Gz sz y,bump H (Fb x))
 | .own e sz,H,x=>jY e sz H x
 | .keep,H,x=>some (x,H)
 | .drop,H,_=>some (.und,H)
def I8:List Fk->Heap->List V->Option (List V×Heap)
 | [],H,[]=>some ([],H)
 | f::fs,H,x::xs=>match I9 f H x with
  | some (y,H1)=>match I8 fs H1 xs with
   | some (ys,q)=>some (y::ys,q)
   | none=>none
  | none=>none
 | _,_,_=>none
def KU (fl:List Fk) (H:Heap) (x:V):Option (V×Heap):=
 match x with
 | .agg cs=>(I8 fl H cs).map fun r=>(.agg r.1,r.2)
 | x=>match fl with
  | [f]=>I9 f H x
  | _=>none
def Ih:List (List Fk)->Heap->List V->Option (List V×Heap)
 | [],H,[]=>some ([],H)
 | f::fs,H,x::xs=>match KU f H x with
  | some (y,H1)=>match Ih fs H1 xs with
   | some (ys,q)=>some (y::ys,q)
   | none=>none
  | none=>none
 | _,_,_=>none
def KY:Nat->List Bf->Heap->List Nat->List Nat->Option (Heap×List Nat)
 | 0,_,_,_,_=>none
 | _+1,_,H,[],seen=>some (H,seen)
 | n+1,fb,H,id::q,seen=>
  if seen.contains id then KY n fb H q seen else
  match H[id]?,fb with
  | some b,.row fresh::z =>if b.live&&b.row then KY n z (if fresh then H else bump H [id]) q (seen++[id]) else none
  | some b,.var fl::z =>if b.live && !b.row then
    (match b.xs with
     | [x]=>match KU fl H x with
      | some (y,H1)=>(match H1[id]? with
       | some b1=>if okV y then KY n z (H1.set id { b1 with xs:=[y] }) (q++Ei y) (seen++[id]) else none
       | none=>none)
      | none=>none
     | _=>none)
    else none
  | _,_=>none
def Gs (q:Nat->Nat) (b:Box):Box:=if b.row then b else { b with xs:=IC q b.xs }
def JP (H:Heap) (ids:List Nat):Heap:=ids.map fun id=>Gs (ids.idxOf ·) ((H[id]?).getD SB)
def pack (fa:List (List Fk)) (fb:List Bf) (k:Nat) (args:List V) (H:Heap):Option (List Nat×List V×Heap):=
 match Ih fa H args with
 | some (as,H1)=>match KY 1000 fb H1 (List.range k++Dx as) [] with
  | some (q,ids)=>some (ids,as,q)
  | none=>none
 | none=>none
def Jr (ids:List Nat) (n j:Nat):Nat:=if j<ids.length then ids.getD j 0 else n+(j - ids.length)
def Qr:Heap->List Nat->Heap->Heap
 | H,[],q=>H++q
 | H,id::ids,b::q=>Qr (H.set id b) ids q
 | H,_::_,[]=>H
def Ov (H:Heap) (ids:List Nat) (q:Heap):Heap:=Qr H ids (q.map (Gs (Jr ids H.length)))
def PW (hs:XR) (args:List V) (H:Heap):Option (V×Heap):=
 match pack hs.fa hs.fb 0 args H with
 | some (ids,as,q)=>match hs.run (IC (ids.idxOf ·) as) (JP q ids) with
  | some (r,z)=>if ids.length<=z.length then some (GI (Jr ids q.length) r,Ov q ids z) else none
  | none=>none
 | none=>none
def N8:List V->List FuncId
 | []=>[]
 | .fn f _ _::vs=>f::N8 vs
 | _::vs=>N8 vs
def yO (fa:List (List Fk)) (fb:List Bf) (k:Nat) (z:V) (H:Heap):Option (V×Heap):=
 match z with
 | .BK vs=>match pack fa fb k vs H with
  | some (ids,as,q)=>if ids.take k=List.range k then some (.BK (IC (ids.idxOf ·) as),JP q ids) else none
  | none=>none
 | v=>match pack fa fb k [v] H with
  | some (ids,[a],q)=>if ids.take k=List.range k then some (GI (ids.idxOf ·) a,JP q ids) else none
  | _=>none
def FI (E:Env):Nat->EO
 | 0,_,_,_=>none
 | n+1,f,args,H=>
  match E.maps f with
  | some l=>(match args with|[x]=>if (EH x).isEmpty then some (mkV l x,H) else none|_=>none)
  | none=>
  match E.env f with
  | some F=>if args.any Ur then (match E.own f,Lj H args with
    | none,some as=>(match F (Gy E.rows (E.par f) as) with
     | some r=>if PL r then some (r,bump H (args.flatMap EH)) else none
     | none=>none)
    | _,_=>none)
   else match Fp H args with
   | some as=>(match E.own f with
    | none=>(F (Gy E.rows (E.par f) as)).map (·,bump H (args.flatMap EH))
    | some e=>match F (Gy E.rows (E.par f) as) with
     | some (.sl false sz xs)=>some (.Bl H.length 0 xs.length xs.length,place (bump H (args.flatMap EH)) H.length (CJ true false e sz xs))
     | _=>none)
   | none=>none
  | none=>
   if E.pure f then
    match E.func f with
    | none=>none
    | some fn=>match Fp H args with
     | some as=>match Ql (FI E n) n E f fn as [] with
      | some (r,H')=>(Jz H' r).map (·,bump H (args.flatMap EH))
      | none=>none
     | none=>none
   else match E.hm f (if Qk E f then [] else N8 args) with
    | some hs=>PW hs args H
    | none=>match E.func f with
     | none=>none
     | some fn=>Ql (FI E n) n E f fn args H
def wY (P:Program) (t:TypeId):Option (List FK):=
 match P.underlying t with
 | some (.struct _)|some (.array _ _)=>if P.keyTypeAt 20 t && !P.eqGuardType P.depth t then PZ P 20 t else none
 | _=>none
def Z4L (P:Program):Nat->TypeId->List Nat
 | 0,_=>[]
 | d+1,t=>match P.underlying t with
  | some (.slice e)=>[P.cellsOf e]
  | some (.struct fs)=>fs.toList.flatMap fun f=>Z4L P d f.type
  | some (.array n e)=>(List.replicate n (Z4L P d e)).flatten
  | _=>[0]
def rowsOf (P:Program) (t:TypeId):List Nat:=Z4L P 20 t
def Om (P:Program) (pure:FuncId->Bool) (env:FuncId->Option (List V->Option V)):Env where
 P:=P
 ti:=KZ P
 func:=fun f=>P.funcs[f]?
 env:=env
 FM:=fun _=>none
 pure:=pure
 flat:=wY P
 kind:=fun t=>match P.underlying t with|some (.int k)=>some k|_=>none
 isStr:=fun t=>P.underlying t matches some .string
 isBool:=fun t=>P.underlying t matches some .bool
 isBytes:=fun t=>match P.underlying t with|some (.slice e)=>(P.underlying e matches some (.int .u8))|_=>false
 calm:=fun _ _=>true
 rows:=rowsOf P
 par:=fun f=>match P.funcs[f]? with|some fn=>fn.params.toList|none=>[]
 own:=fun _=>none
 hm:=fun _ _=>none
end Go.Proofs.YtjodhcdmhobmoaaGreatDoor.Le
namespace Go.Proofs.YtjodhcdmhobmoaaGreatDoor.Le
open Go.RowKit (Below)
structure Loc where
 v:Value
 tot:Nat
 BA:Nat
structure Sg where
 box:Nat->Option Loc
 fz:Nat->Nat->Prop
def flat (us:List Value):List Value:=us.flatMap fun u=>u.cells.toList
def Lies (σ:Sg) (w:World) (b o:Nat) (us:List Value):Prop:=
 ∀j u,(flat us)[j]? = some u->σ.fz b (o+j)/\w.cell? ⟨b,o+j,none⟩=some u
def Ziq (L:Value) (BA off len:Nat) (v:Value):Prop:=
 ∃a n c k,L = .slice a n c/\v = .slice (a.map (·.add (k*BA))) len (c - off)/\off<=c/\k<=off/\(off<c->k=off)
inductive AV (σ:Sg) (w:World):List V->List Value->Prop where
 | nil:AV σ w [] []
 | und (u:Value) {xs vs}:AV σ w xs vs->AV σ w (.und::xs) (u::vs)
 | no {xs vs}:AV σ w xs vs->AV σ w (.no::xs) (undef::vs)
 | lit {v:Value} {xs vs}:leaf v=true->AV σ w xs vs->AV σ w (.lit v::xs) (v::vs)
 | agg {cs ws xs vs}:AV σ w cs ws->(∀u∈ws,u.oneCell' = true)->AV σ w xs vs->AV σ w (.agg cs::xs) (.agg ws.toArray::vs)
 | BK {cs ws xs vs}:AV σ w cs ws->AV σ w xs vs->AV σ w (.BK cs::xs) (.tuple ws.toArray::vs)
 | Ew {b e xs vs}:AV σ w xs vs->AV σ w (.sl b e []::xs) (.slice none 0 0::vs)
 | GL {e xs vs} (a:Addr):AV σ w xs vs->AV σ w (.sl false e []::xs) (.slice (some a) 0 0::vs)
 | Hf {e xs vs} (a:Addr):AV σ w xs vs->AV σ w (.DT false e []::xs) (.slice (some a) 0 0::vs)
 | Gq {b e xs vs}:AV σ w xs vs->AV σ w (.DT b e []::xs) (.slice none 0 0::vs)
 | sl {es us xs vs} (b o c e:Nat):AV σ w es us->(∀x∈es,FW x=true)->(∀u∈us,u.cells.size=e)->(∀u∈flat us,u.oneCell' = true)->es.length<=c->c<=maxLen->Lies σ w b o us->AV σ w xs vs ->
   AV σ w (.sl false e es::xs) (.slice (some ⟨b,o,none⟩) es.length c::vs)
 | DT {es us xs vs} (b o e:Nat):AV σ w es us->(∀x∈es,FW x=true)->(∀u∈us,u.cells.size=e)->(∀u∈flat us,u.oneCell' = true)->es.length<=maxLen->Lies σ w b o us->AV σ w xs vs ->
   AV σ w (.DT false e es::xs) (.slice (some ⟨b,o,none⟩) es.length es.length::vs)
 | Bl {id off len tot L v xs vs}:σ.box id=some L->tot<=L.tot->(L.tot=tot->off+len<=tot/\Ziq L.v L.BA off len v)->(∃a n c,v = .slice a n c)->AV σ w xs vs ->
   AV σ w (.Bl id off len tot::xs) (v::vs)
 | ptr {id i off tot L v xs vs} (g:Nat):σ.box id=some L->tot<=L.tot->(L.tot=tot->∃n c,L.v = .slice (some ⟨g,0,none⟩) n c)->v = .pointer (some ⟨g,i*L.BA+off,none⟩)->AV σ w xs vs ->
   AV σ w (.ptr id i off tot::xs) (v::vs)
 | CX {es us xs vs} (b o e i off:Nat):AV σ w es us->(∀x∈es,FW x=true)->(∀u∈us,u.cells.size=e)->(∀u∈flat us,u.oneCell' = true)->Lies σ w b o us->AV σ w xs vs ->
   AV σ w (.CX e es i off::xs) (.pointer (some ⟨b,o+i*e+off,none⟩)::vs)
 | fn {f first caps us ws xs vs}:AV σ w first us->AV σ w caps ws->AV σ w xs vs->AV σ w (.fn f first caps::xs) (.func (.func f) us.toArray ws.toArray::vs)
 | IV {t x u xs vs}:AV σ w [x] [u]->AV σ w xs vs->AV σ w (.IV t x::xs) (.iface t u::vs)
 | Gf {kvs us xs vs} (g:Nat) (es:Array MapEntry) (c:Nat):AV σ w kvs us->w.heap[g]? = some (.map es c)->us=es.toList.flatMap (fun e=>[e.key,e.val])->AV σ w xs vs->AV σ w (.Gf kvs::xs) (.map (some g)::vs)
def En (w w' : World):Prop:=∀(g:Nat) (es:Array MapEntry) (c:Nat),w.heap[g]? = some (Obj.map es c)->w'.heap[g]? = some (Obj.map es c)
theorem En.refl (w:World):En w w:=fun _ _ _ h=>h
theorem En.trans {w w' w'' : World} (h:En w w') (k:En w' w''):En w w'' :=fun g es c q=>k g es c (h g es c q)
structure Ext (σ:Sg) (w:World) (σ' : Sg) (w' : World):Prop where
 box:∀id L,σ.box id=some L->∃L',σ'.box id=some L' /\ L'.BA=L.BA/\(L' = L\/L.tot<L'.tot)
 fz:∀b c,σ.fz b c->σ'.fz b c/\w'.cell? ⟨b,c,none⟩=w.cell? ⟨b,c,none⟩
 mp:En w w'
theorem Ext.refl (σ:Sg) (w:World):Ext σ w σ w:=⟨fun id L h=>⟨L,h,rfl,.inl rfl⟩,fun b c h=>⟨h,rfl⟩,En.refl w⟩
theorem Ext.trans {σ w σ' w' σ'' w''} (h:Ext σ w σ' w') (k:Ext σ' w' σ'' w''):Ext σ w σ'' w'' :=by
 refine⟨fun id L D=>?_,fun b c hc=>?_,h.mp.trans k.mp⟩
 ·obtain⟨q,C,G,I⟩:=h.box id L D;obtain⟨z,k1,k2,k3⟩:=k.box id q C
  grind
 ·obtain⟨A,F⟩:=h.fz b c hc;obtain⟨b1,b2⟩:=k.fz b c A
  simp_all
theorem Lies.ext {σ w σ' w' b o us} (h:Lies σ w b o us) (e:Ext σ w σ' w'):Lies σ' w' b o us:=fun j u hu=>by
 obtain⟨q,C⟩:=h j u hu;obtain⟨z,A⟩:=e.fz _ _ q
 simp_all
theorem AV.ext {σ w σ' w' xs vs} (h:AV σ w xs vs) (e:Ext σ w σ' w'):AV σ' w' xs vs:=by
 induction h with
 | nil=>exact .nil
 | und u _ A=>exact .und u A
 | no _ A=>exact .no A
 | lit hl _ A=>exact .lit hl A
 | agg _ S _ q z=>exact .agg q S z
 | BK _ _ q z=>exact .BK q z
 | Ew _ A=>exact .Ew A
 | Gq _ A=>exact .Gq A
 | GL a _ A=>exact .GL a A
 | Hf a _ A=>exact .Hf a A
 | sl b o c I _ J C D F G O _ q z=>exact .sl b o c I q J C D F G (O.ext e) z
 | DT b o I _ J C D F G _ q z=>exact .DT b o I q J C D F (G.ext e) z
 | Bl C D F G _ A=>
  obtain⟨N,k1,k2,k3⟩:=e.box _ _ C;rcases k3 with rfl|k3
  ·exact .Bl k1 D F G A
  ·exact .Bl k1 (by omega) (fun Q=>by omega) G A
 | ptr g C D F G _ A=>
  obtain⟨N,k1,k2,k3⟩:=e.box _ _ C;rcases k3 with rfl|k3
  ·exact .ptr g k1 D F G A
  ·exact .ptr g k1 (by omega) (fun Q=>by omega) (by rw[k2];exact G) A
 | CX b o I i off _ J C D F _ q z=>exact .CX b o I i off q J C D (F.ext e) z
 | fn _ _ _ q z M=>exact .fn q z M
 | IV _ _ q z=>exact .IV q z
 | Gf g es c _ C D _ q z=>exact .Gf g es c q (e.mp _ _ _ C) D z
theorem AV.length {σ w xs vs} (h:AV σ w xs vs):xs.length=vs.length:=by
 induction h<;>simp_all
theorem LX (xs:List V):CY xs=true↔∀x∈xs,DF x=true:=by
 induction xs with
 | nil=>simp[CY]
 | cons x xs q=>simp[CY,q]
theorem wU {x:V} (h:FW x=true):okV x=true:=by simp[FW]at h;exact h.1
theorem Rk {x:V} (h:FW x=true):DF x=true:=by simp[FW]at h;exact h.2
theorem Z3Y {xs:List V} (h:∀x∈xs,FW x=true):∀x∈xs,okV x=true:=fun x q=>wU (h x q)
theorem QG {xs:List V} (h:∀x∈xs,FW x=true):CY xs=true:=(LX xs).2 fun x q=>Rk (h x q)
theorem Zvt {x:V} (h:DF x=true):CY x.cells=true:=by
 cases x<;>simp_all [V.cells,DF,CY]
theorem AV.F8 {σ w x xs v vs}:AV σ w (x::xs) (v::vs)↔AV σ w [x] [v]/\AV σ w xs vs:=by
 constructor
 ·intro h;cases h with
  | und _ h=>exact⟨.und _ .nil,h⟩
  | no h=>exact⟨.no .nil,h⟩
  | lit hl h=>exact⟨.lit hl .nil,h⟩
  | agg q I h=>exact⟨.agg q I .nil,h⟩
  | BK q h=>exact⟨.BK q .nil,h⟩
  | Ew h=>exact⟨.Ew .nil,h⟩
  | Gq h=>exact⟨.Gq .nil,h⟩
  | GL a h=>exact⟨.GL a .nil,h⟩
  | Hf a h=>exact⟨.Hf a .nil,h⟩
  | sl b o c e D q z A C F G h=>exact⟨.sl b o c e D q z A C F G .nil,h⟩
  | DT b o e D q z A C F h=>exact⟨.DT b o e D q z A C F .nil,h⟩
  | Bl q z A C h=>exact⟨.Bl q z A C .nil,h⟩
  | ptr g q z A C h=>exact⟨.ptr g q z A C .nil,h⟩
  | CX b o e i off D q z A C h=>exact⟨.CX b o e i off D q z A C .nil,h⟩
  | fn q z h=>exact⟨.fn q z .nil,h⟩
  | IV q h=>exact⟨.IV q .nil,h⟩
  | Gf g es c D q z h=>exact⟨.Gf g es c D q z .nil,h⟩
 ·rintro ⟨h,k⟩
  cases h with
  | und _ h=>exact .und _ k
  | no h=>exact .no k
  | lit hl h=>exact .lit hl k
  | agg q I h=>exact .agg q I k
  | BK q h=>exact .BK q k
  | Ew h=>exact .Ew k
  | Gq h=>exact .Gq k
  | GL a h=>exact .GL a k
  | Hf a h=>exact .Hf a k
  | sl b o c e D q z A C F G h=>exact .sl b o c e D q z A C F G k
  | DT b o e D q z A C F h=>exact .DT b o e D q z A C F k
  | Bl q z A C h=>exact .Bl q z A C k
  | ptr g q z A C h=>exact .ptr g q z A C k
  | CX b o e i off D q z A C h=>exact .CX b o e i off D q z A C k
  | fn q z h=>exact .fn q z k
  | IV q h=>exact .IV q k
  | Gf g es c D q z h=>exact .Gf g es c D q z k
theorem AV.Fj {σ w vs} (h:AV σ w [] vs):vs=[]:=by cases h;rfl
theorem AV.EP {σ w x xs vs} (h:AV σ w (x::xs) vs):∃v vs',vs=v::vs' /\ AV σ w [x] [v]/\AV σ w xs vs' :=by
 cases vs with
 | nil=>exact absurd h.length (by simp)
 | cons v vs' =>exact⟨v,vs',rfl,(AV.F8.1 h).1,(AV.F8.1 h).2⟩
theorem AV.append {σ w xs vs ys us} (h:AV σ w xs vs) (k:AV σ w ys us):AV σ w (xs++ys) (vs++us):=by
 induction xs generalizing vs with
 | nil=>cases h.Fj;exact k
 | cons x xs A=>
  obtain⟨v,C,rfl,q,z⟩:=h.EP;exact AV.F8.2 ⟨q,A z⟩
theorem AV.get {σ w xs vs} (h:AV σ w xs vs) {i:Nat} {x:V} (q:xs[i]? = some x):∃v,vs[i]? = some v/\AV σ w [x] [v]:=by
 induction xs generalizing vs i with
 | nil=>simp at q
 | cons y ys D=>
  obtain⟨v,z,rfl,A,C⟩:=h.EP
  grind
theorem AV.take {σ w xs vs} (h:AV σ w xs vs) (n:Nat):AV σ w (xs.take n) (vs.take n):=by
 induction xs generalizing vs n with
 | nil=>cases h.Fj;simp;exact .nil
 | cons y ys A=>
  obtain⟨v,C,rfl,q,z⟩:=h.EP;cases n with
  | zero=>exact .nil
  | succ n=>exact AV.F8.2 ⟨q,A z n⟩
theorem AV.drop {σ w xs vs} (h:AV σ w xs vs) (n:Nat):AV σ w (xs.drop n) (vs.drop n):=by
 induction xs generalizing vs n with
 | nil=>cases h.Fj;simp;exact .nil
 | cons y ys z=>
  obtain⟨v,A,rfl,C,q⟩:=h.EP;cases n with
  | zero=>exact h
  | succ n=>exact z q n
theorem AV.set {σ w xs vs x v} (h:AV σ w xs vs) (i:Nat) (k:AV σ w [x] [v]):AV σ w (xs.set i x) (vs.set i v):=by
 induction xs generalizing vs i with
 | nil=>cases h.Fj;simp;exact .nil
 | cons y ys A=>
  obtain⟨u,C,rfl,z,q⟩:=h.EP;cases i with
  | zero=>exact AV.F8.2 ⟨k,q⟩
  | succ i=>exact AV.F8.2 ⟨z,A q i⟩
theorem AV.replicate {σ w x v} (n:Nat) (k:AV σ w [x] [v]):AV σ w (List.replicate n x) (List.replicate n v):=by
 induction n with
 | zero=>exact .nil
 | succ n q=>exact AV.F8.2 ⟨k,q⟩
def noMark (q:Nat×Nat) (n:Nat):Prop:=q=(0,0)\/n<=q.1
def GZ (w:World) (base:Nat) (e:TypeId) (size:Nat) (v:Value) (n:Nat) (xs:List Value):Prop:=
 xs.length=n*size /\
 ((v = .slice none 0 0/\n=0) \/
  ∃g cap q z,v = .slice (some ⟨g,0,none⟩) n cap/\base<=g/\w.heap[g]? = some (.cells q e z)/\noMark z q.size/\n<=cap/\cap<=maxLen/\q.size=cap*size/\q.toList.take (n*size)=xs)
section
variable {w:World} {base:Nat} {e:TypeId} {size:Nat} {v:Value} {n:Nat} {xs:List Value}
theorem GZ.of (h:w.ownsRow base e size v n xs):GZ w base e size v n xs:=by
 refine⟨h.1,?_⟩;rcases h.2 with h|⟨g,cap,q,z,A,C,D⟩
 ·exact .inl h
 ·exact .inr ⟨g,cap,q,(0,0),z,A,C,.inl rfl,D⟩
theorem Wx (w:World) (base:Nat) (e:TypeId) (size:Nat):GZ w base e size (.slice none 0 0) 0 []:=.of (World.ownsRow_nil w base e size)
theorem GZ.lt (h:GZ w base e size v n xs):∀k,v.ownBlock=some k->base<=k/\k<w.heap.size:=by
 intro k hk;rcases h.2 with ⟨rfl,_⟩|⟨g,cap,q,A,rfl,hb,z,_⟩
 ·simp[Value.ownBlock]at hk
 ·simp[Value.ownBlock]at hk
  grind
theorem GZ.kept {w' : World} {row:Option Nat} (h:GZ w base e size v n xs) (D:w.grownBy w' row) (C:v.ownBlock=none\/v.ownBlock≠row):GZ w' base e size v n xs:=by
 refine⟨h.1,?_⟩;rcases h.2 with F|⟨g,cap,A,G,rfl,hb,q,z⟩
 ·exact .inl F
 ·refine .inr ⟨g,cap,A,G,rfl,hb,?_,z⟩;rw[D.block g (Array.getElem?_eq_some_iff.1 q).1 (by simpa[Value.ownBlock]using C)];exact q
theorem GZ.cells (h:GZ w base e size v n xs) {g:Nat} (q:v.ownBlock=some g):∀j u,xs[j]? = some u->w.cell? ((⟨g,0,none⟩:Addr).add j)=some u:=by
 intro j u hu;rcases h.2 with ⟨rfl,_⟩|⟨D,cap,A,G,rfl,hb,z,hm,F,hc,hs,C⟩
 ·simp[Value.ownBlock]at q
 ·simp only[Value.ownBlock,Option.some.injEq]at q;subst q;rw[Addr.add_mid,Nat.zero_add];rw[<- C,List.getElem?_take]at hu;split at hu
  ·simp only[World.cell?,z];simpa using hu
  ·cases hu
end
theorem mZ (P:Program) (g o:Nat) (t:TypeId) (D:Nat×Nat):∀(vs:List Value) (i:Nat) (q:Array Value) (w:World),w.heap[g]? = some (.cells q t D)->noMark D q.size->o+i+vs.length<=q.size->(∀v∈vs,v.oneCell' = true) ->
  (storeCells ⟨g,o,none⟩ vs i).run P w = .ok () (w.setRow g (q.toList.take (o+i)++vs++q.toList.drop (o+i+vs.length)).toArray)
 | [],i,q,w,C,_,_,_=>by
  simp only[storeCells,List.append_nil,List.length_nil,Nat.add_zero,List.take_append_drop,Array.toArray_toList];rw[setRow_self w g q t D C];rfl
 | v::z,i,q,w,C,hm,hl,J=>by
  have M:o+i<q.size:=by simp at hl;omega
  have F:(⟨g,o,none⟩:Addr).add i=⟨g,o+i,none⟩:=by unfold Addr.add;split<;>simp_all
  have A:w.cell? ⟨g,o+i,none⟩=some q[o+i]:=by simp[World.cell?,C,M]
  have G:w.frozen? ⟨g,o+i,none⟩=false:=by
   obtain⟨Q,hi'⟩:=D;rcases hm with hm|hm
   ·cases hm;simp[World.frozen?,C]
   ·simp only at hm;have:¬Q<=o+i:=by omega
    simp[World.frozen?,C,this]
  have I:(store ((⟨g,o,none⟩:Addr).add i) v).run P w = .ok () (w.setRow g (q.setIfInBounds (o+i) v)):=by
   rw[F,run_store P w _ v _ (J v (by simp)),A];simp[G,setCell_eq_setRow w g (o+i) q t D v C]
  have O:=mZ P g o t D z (i+1) (q.setIfInBounds (o+i) v) (w.setRow g (q.setIfInBounds (o+i) v)) (setRow_heap w g q _ t _ C) (by simpa using hm) (by simp at hl ⊢;omega) (fun x N=>J x (by simp[N]));simp only[storeCells,Sem.run_bind,I,Result.andThen_ok,O,setRow_setRow];congr 3;have e:=list_seg_step q.toList (o+i) v z (by simp at hl ⊢;omega)
  simp_all<;>omega
theorem Z7i {P:Program} {w:World} (t ty e:TypeId) (i:TypeInfo) (Q:P.underlying t=some (.slice e)) (O:P.info? e=some i)
  (g z C:Nat) (A:Array Value) (J:Nat×Nat) (N:w.heap[g]? = some (.cells A e J)) (hm:noMark J A.size)
  (a:Addr) (m c:Nat) (q:List Value) (hl:q.length=m*i.size) (D:∀j u,q[j]? = some u->w.cell? (a.add j)=some u) (M:∀u∈q,u.oneCell' = true)
  (F:z+m<=C) (G:z*i.size+q.length<=A.size) :
  (Builtin.append_ #[t,t] ty #[.slice (some ⟨g,0,none⟩) z C,.slice (some a) m c]).run P w =
   .ok (.slice (some ⟨g,0,none⟩) (z+m) C) (w.setRow g (A.toList.take (z*i.size)++q++A.toList.drop (z*i.size+q.length)).toArray):=by
 have hf:=run_firstCells_some (P:=P) w i.size m a m c q hl D;have I:=mZ P g (z*i.size) e J q 0 A w N hm (by simpa using G) M;simp only[Nat.add_zero]at I;simp[Builtin.append_,run_underlying Q,sizeOf,typeInfo,O,Builtin.lenOf,F,hf,Addr.add_lit,I]
end Go.Proofs.YtjodhcdmhobmoaaGreatDoor.Le
namespace Go.Proofs.YtjodhcdmhobmoaaGreatDoor.Le
open Go.RowKit (Below)
structure KX (σ:Sg) (w:World) (B:Nat) (bx:Box) (L:Loc):Prop where
 tot:L.tot=bx.xs.length
 EF:∃us,AV σ w bx.xs us/\(∀u∈us,u.cells.size=L.BA)/\(∀u∈flat us,u.oneCell' = true)/\GZ w B bx.elem L.BA L.v bx.xs.length (flat us)
 Ey:bx.Ey=true->L.v = .slice none 0 0
 BA:bx.BA=L.BA
 oks:∀x∈bx.xs,okV x=true
 I5:bx.row=true->∀x∈bx.xs,DF x=true
structure Start where
 w:World
 fz:Nat->Nat->Prop
 keep:Nat->Prop
abbrev Start.of (w:World) (fz:Nat->Nat->Prop):Start:=⟨w,fz,fun _=>False⟩
structure Inv (B:Nat) (w0:Start) (σ:Sg) (H:Heap) (w:World):Prop where
 below:Below B w0.w w
 size:B<=w.heap.size
 dom:∀id L,σ.box id=some L->∃bx,H[id]? = some bx/\bx.live=true
 boxes:∀id bx,H[id]? = some bx->bx.live=true->∃L,σ.box id=some L/\KX σ w B bx L
 apart:∀id id' bx bx' L L' g,H[id]? = some bx->H[id']? = some bx' -> bx.live=true->bx'.live=true->σ.box id=some L->σ.box id' = some L' ->
  L.v.ownBlock=some g->L'.v.ownBlock=some g->id=id'
 cells:∀b c,σ.fz b c->∃u,w.cell? ⟨b,c,none⟩=some u
 floor:∀b c,σ.fz b c->∀id bx L,H[id]? = some bx->bx.live=true->σ.box id=some L->L.v.ownBlock=some b->c<bx.floor*L.BA
 low:∀(id:Nat) (bx:Box),H[id]? = some bx->bx.live=true->bx.floor<=bx.xs.length
 old:∀b c,σ.fz b c->b<B->w0.fz b c
 kept:∀b,w0.keep b->b<w.heap.size/\w.heap[b]? = w0.w.heap[b]? /\ (∀id L,σ.box id=some L->L.v.ownBlock≠some b)/\∀c,σ.fz b c->w0.fz b c
theorem Inv.Z4C {B w0 σ H w} (h:Inv B w0 σ H w) {id L} (hb:σ.box id=some L):id<H.length:=by
 obtain⟨bx,q,_⟩:=h.dom id L hb
 grind
theorem Z3m {H:Heap} {k:Nat} (h:GH H k=true):(H[k]? = none/\k=H.length)\/∃b,H[k]? = some b/\b.live=false:=by
 unfold GH at h
 grind
theorem gK (H:Heap):GH H H.length=true:=by simp[GH]
theorem WZ {H:Heap} {k:Nat} (h:GH H k=true) (b:Box) (id:Nat):(place H k b)[id]? = if id=k then some b else H[id]?:=by
 unfold place;rcases Z3m h with ⟨_,hk⟩|⟨b0,hb,_⟩
 ·grind
 grind
theorem ZBC (H:Heap) (b:Box):place H H.length b=H++[b]:=by simp[place]
theorem cell_lt {w:World} {b c:Nat} {u:Value} (h:w.cell? ⟨b,c,none⟩=some u):b<w.heap.size:=block_lt_of_cell h
theorem KX.kept {σ w B bx L σ' w'} {row:Option Nat} (h:KX σ w B bx L) (e:Ext σ w σ' w') (F:w.grownBy w' row) (q:L.v.ownBlock=none\/L.v.ownBlock≠row):KX σ' w' B bx L:=by
 obtain⟨us,z,A,C,D⟩:=h.EF;exact⟨h.tot,⟨us,z.ext e,A,C,D.kept F q⟩,h.Ey,h.BA,h.oks,h.I5⟩
theorem KX.block_lt {σ w B bx L g} (h:KX σ w B bx L) (z:L.v.ownBlock=some g):B<=g/\g<w.heap.size:=by
 obtain⟨us,A,C,D,q⟩:=h.EF;exact q.lt g z
theorem Zyc {w:World} {base:Nat} {e:TypeId} {size:Nat} {v:Value} {n:Nat} {xs:List Value} (h:GZ w base e size v n xs) {g:Nat} (z:v.ownBlock=some g):∃q t A,w.heap[g]? = some (.cells q t A):=by
 rcases h.2 with ⟨rfl,_⟩|⟨D,cap,q,A,rfl,_,C,_⟩
 ·simp[Value.ownBlock]at z
 ·simp[Value.ownBlock]at z
  simp_all
theorem KX.ZGN {σ w B bx L g} (h:KX σ w B bx L) (A:L.v.ownBlock=some g) {es:Array MapEntry} {c:Nat} (hm:w.heap[g]? = some (.map es c)):False:=by
 obtain⟨us,C,D,F,z⟩:=h.EF;obtain⟨q,t,G,hc⟩:=Zyc z A
 simp_all
theorem Inv.grown {B w0 σ H w w'} (h:Inv B w0 σ H w) (z:w.grownBy w' none):Inv B w0 σ H w' /\ Ext σ w σ w' :=by
 have q:∀b c,b<w.heap.size->w'.cell? ⟨b,c,none⟩=w.cell? ⟨b,c,none⟩:=fun b c hb=>
  World.cell?_of_block (z.block b hb (by simp))
 have e:Ext σ w σ w' :=⟨fun id L A=>⟨L,A,rfl,.inl rfl⟩,fun b c hc=>⟨hc,by
  obtain⟨u,hu⟩:=h.cells b c hc;exact q b c (cell_lt hu)⟩,fun g es c hm=>(z.block g (Array.getElem?_eq_some_iff.1 hm).1 (by simp)).trans hm⟩
 refine⟨⟨h.below.grown z h.size (by simp),Nat.le_trans h.size z.size,h.dom,?_,h.apart,?_,h.floor,h.low,h.old,fun b hb=>?_⟩,e⟩
 ·intro id bx hb hl;obtain⟨L,A,C⟩:=h.boxes id bx hb hl;refine⟨L,A,C.kept e z ?_⟩
  grind
 ·intro b c hc;obtain⟨u,hu⟩:=h.cells b c hc;exact⟨u,(q b c (cell_lt hu)).trans hu⟩
 ·obtain⟨k1,k2,k3,k4⟩:=h.kept b hb;exact⟨Nat.lt_of_lt_of_le k1 z.size,(z.block b k1 (by simp)).trans k2,k3,k4⟩
def Sg.put (σ:Sg) (id:Nat) (L:Loc):Sg:={ σ with box:=fun i=>if i=id then some L else σ.box i }
theorem Inv.push {B w0 σ H w w'} (h:Inv B w0 σ H w) (hg:w.grownBy w' none) {k:Nat} (hk:GH H k=true) (bx:Box) (hlive:bx.live=true) (L:Loc) (hlow:bx.floor<=bx.xs.length)
  (hnew:∀g,L.v.ownBlock=some g->w.heap.size<=g) (hok:Ext σ w (σ.put k L) w' -> KX (σ.put k L) w' B bx L) :
  Inv B w0 (σ.put k L) (place H k bx) w' /\ Ext σ w (σ.put k L) w' :=by
 have hnone:σ.box k=none:=by
  cases hb:σ.box k with
  | none=>rfl
  | some J =>
   exfalso;obtain⟨b1,c1,c2⟩:=h.dom _ _ hb;rcases Z3m hk with ⟨hn,_⟩|⟨b0,hb0,hl0⟩
   ·rw[hn]at c1;cases c1
   simp_all
 obtain⟨Q,e0⟩:=h.grown hg;have e:Ext σ w (σ.put k L) w' :=by
  refine⟨fun id J z =>⟨J,?_,rfl,.inl rfl⟩,e0.fz,e0.mp⟩;have:id≠k:=fun hh=>by simp_all
  simp[Sg.put,this,z]
 have e' : Ext σ w' (σ.put k L) w' :=by
  refine⟨e.box,fun b c hc=>⟨hc,rfl⟩,En.refl _⟩
 have D:∀id bx',id≠k->(place H k bx)[id]? = some bx' -> H[id]? = some bx' :=by
  intro id bx' q hh;rw[WZ hk,if_neg q]at hh;exact hh
 have hget:(place H k bx)[k]? = some bx:=by rw[WZ hk,if_pos rfl]
 refine⟨⟨Q.below,Q.size,?_,?_,?_,Q.cells,?_,?_,Q.old,fun b hb=>?_⟩,e⟩
 ·intro id J z
  by_cases q:id=k
  ·simp_all
  ·simp only[Sg.put,q,if_false]at z;obtain⟨b1,c1,c2⟩:=h.dom id J z;exact⟨b1,by rw[WZ hk,if_neg q];exact c1,c2⟩
 ·intro id bx' hb hl
  by_cases q:id=k
  ·subst q;rw[hget]at hb;cases hb;exact⟨L,by simp[Sg.put],hok e⟩
  ·obtain⟨J,z,A⟩:=Q.boxes id bx' (D id bx' q hb) hl;refine⟨J,by simp[Sg.put,q,z],?_⟩;obtain⟨us,h1,h2,h3,h4⟩:=A.EF;exact⟨A.tot,⟨us,h1.ext e',h2,h3,h4⟩,A.Ey,A.BA,A.oks,A.I5⟩
 ·intro id I M N L1 L2 g S hb2 hl1 hl2 F G hg1 hg2
  by_cases q:id=k
  ·by_cases C : I = k
   ·rw[q,C]
   ·exfalso;subst q;simp only[Sg.put,if_true]at F;cases F;simp only[Sg.put,C,if_false]at G;have hb2' :=D I N C hb2;obtain⟨J,z,A⟩:=h.boxes I N hb2' hl2;rw[G]at z;cases z;have:=(A.block_lt hg2).2
    grind
  ·by_cases C : I = k
   ·exfalso;subst C;simp only[Sg.put,if_true]at G;cases G;simp only[Sg.put,q,if_false]at F;have Y :=D id M q S;obtain⟨J,z,A⟩:=h.boxes id M Y hl1;rw[F]at z;cases z;have:=(A.block_lt hg1).2
    grind
   ·simp only[Sg.put,q,C,if_false]at F G;exact h.apart id I M N L1 L2 g (D id M q S) (D I N C hb2) hl1 hl2 F G hg1 hg2
 ·intro b c hc id bx' J hb hl z O
  by_cases q:id=k
  ·exfalso;subst q;simp only[Sg.put,if_true]at z;cases z;obtain⟨u,hu⟩:=h.cells b c hc;have:=cell_lt hu
   grind
  ·simp only[Sg.put,q,if_false]at z;exact h.floor b c hc id bx' J (D id bx' q hb) hl z O
 ·intro id bx' hb hl
  by_cases q:id=k
  ·simp_all
  ·exact h.low id bx' (D id bx' q hb) hl
 ·obtain⟨k1,k2,k3,k4⟩:=Q.kept b hb;refine⟨k1,k2,fun id J z O =>?_,k4⟩
  by_cases q:id=k
  ·subst q;simp only[Sg.put,if_true]at z;cases z;have:=(h.kept b hb).1
   grind
  ·simp only[Sg.put,q,if_false]at z;exact k3 id J z O
theorem Inv.ZFl {B w0 σ H w} (h:Inv B w0 σ H w) {k:Nat} (hk:GH H k=true) (bx:Box) (hlive:bx.live=true) (L:Loc) (hlow:bx.floor<=bx.xs.length)
  (hap:∀id bx' F g,H[id]? = some bx' -> bx'.live=true->σ.box id=some F -> F.v.ownBlock=some g->L.v.ownBlock≠some g) (hfz:∀g c,L.v.ownBlock=some g->¬σ.fz g c) (hkp:∀g,L.v.ownBlock=some g->¬w0.keep g)
  (hok:KX (σ.put k L) w B bx L):Inv B w0 (σ.put k L) (place H k bx) w/\Ext σ w (σ.put k L) w:=by
 have hnone:σ.box k=none:=by
  cases hb:σ.box k with
  | none=>rfl
  | some F =>
   exfalso;obtain⟨b1,S,c2⟩:=h.dom _ _ hb;rcases Z3m hk with ⟨hn,_⟩|⟨b0,hb0,hl0⟩
   ·rw[hn]at S;cases S
   simp_all
 have e:Ext σ w (σ.put k L) w:=by
  refine⟨fun id F z =>⟨F,?_,rfl,.inl rfl⟩,fun b c hc=>⟨hc,rfl⟩,En.refl _⟩;have:id≠k:=fun hh=>by simp_all
  simp[Sg.put,this,z]
 have D:∀id bx',id≠k->(place H k bx)[id]? = some bx' -> H[id]? = some bx' :=by
  intro id bx' q hh;rw[WZ hk,if_neg q]at hh;exact hh
 have Q:(place H k bx)[k]? = some bx:=by rw[WZ hk,if_pos rfl]
 refine⟨⟨h.below,h.size,?_,?_,?_,h.cells,?_,?_,h.old,fun b hb=>?_⟩,e⟩
 ·intro id F z
  by_cases q:id=k
  ·simp_all
  ·simp only[Sg.put,q,if_false]at z;obtain⟨b1,S,c2⟩:=h.dom id F z;exact⟨b1,by rw[WZ hk,if_neg q];exact S,c2⟩
 ·intro id bx' hb hl
  by_cases q:id=k
  ·subst q;rw[Q]at hb;cases hb;exact⟨L,by simp[Sg.put],hok⟩
  ·obtain⟨F,z,C⟩:=h.boxes id bx' (D id bx' q hb) hl;refine⟨F,by simp[Sg.put,q,z],?_⟩;obtain⟨us,h1,h2,h3,h4⟩:=C.EF;exact⟨C.tot,⟨us,h1.ext e,h2,h3,h4⟩,C.Ey,C.BA,C.oks,C.I5⟩
 ·intro id M N O L1 L2 g Y hb2 hl1 hl2 G I hg1 hg2
  by_cases q:id=k
  ·by_cases A : M = k
   ·rw[q,A]
   ·exfalso;subst q;simp only[Sg.put,if_true]at G;cases G;simp only[Sg.put,A,if_false]at I
    grind
  ·by_cases A : M = k
   ·exfalso;subst A;simp only[Sg.put,if_true]at I;cases I;simp only[Sg.put,q,if_false]at G
    grind
   ·simp only[Sg.put,q,A,if_false]at G I;exact h.apart id M N O L1 L2 g (D id N q Y) (D M O A hb2) hl1 hl2 G I hg1 hg2
 ·intro b c hc id bx' F hb hl z J
  by_cases q:id=k
  ·exfalso;subst q;simp only[Sg.put,if_true]at z;cases z;exact hfz b c J hc
  ·simp only[Sg.put,q,if_false]at z;exact h.floor b c hc id bx' F (D id bx' q hb) hl z J
 ·intro id bx' hb hl
  by_cases q:id=k
  ·simp_all
  ·exact h.low id bx' (D id bx' q hb) hl
 ·obtain⟨k1,k2,k3,k4⟩:=h.kept b hb;refine⟨k1,k2,fun id F z J =>?_,k4⟩
  by_cases q:id=k
  ·subst q;simp only[Sg.put,if_true]at z
   simp_all
  ·simp only[Sg.put,q,if_false]at z;exact k3 id F z J
theorem Inv.upd {B w0 σ H w w'} (h:Inv B w0 σ H w) {id:Nat} {bx:Box} {L:Loc} (hb:H[id]? = some bx) (hl:bx.live=true) (S:σ.box id=some L)
  (hg:w.grownBy w' L.v.ownBlock) (bx' : Box) (hlive:bx'.live=true) (F : Loc) (hesz:F.BA=L.BA) (htot:F = L\/L.tot<F.tot) (hfl:bx'.floor=bx.floor) (hlen' : bx.xs.length<=bx'.xs.length)
  (N:∀g,F.v.ownBlock=some g->L.v.ownBlock=some g\/w.heap.size<=g)
  (hkeep:∀g c,L.v.ownBlock=some g->c<bx.floor*L.BA->w'.cell? ⟨g,c,none⟩=w.cell? ⟨g,c,none⟩)
  (hok:Ext σ w (σ.put id F) w' -> KX (σ.put id F) w' B bx' F) :
  Inv B w0 (σ.put id F) (H.set id bx') w' /\ Ext σ w (σ.put id F) w' :=by
 have hlen:id<H.length:=h.Z4C S;obtain⟨L0,hL0,hok0⟩:=h.boxes id bx hb hl;rw[S]at hL0;cases hL0;have J:∀b c,σ.fz b c->w'.cell? ⟨b,c,none⟩=w.cell? ⟨b,c,none⟩:=by
  intro b c hc;obtain⟨u,hu⟩:=h.cells b c hc
  by_cases Q:L.v.ownBlock=some b
  ·exact hkeep b c Q (h.floor b c hc id bx L hb hl S Q)
  ·exact World.cell?_of_block (hg.block b (cell_lt hu) (fun hh=>Q hh.symm))
 have e:Ext σ w (σ.put id F) w' :=by
  refine⟨fun i G q=>?_,fun b c hc=>⟨hc,J b c hc⟩,fun g es c hm=>(hg.block g (Array.getElem?_eq_some_iff.1 hm).1 (fun hh=>hok0.ZGN hh.symm hm)).trans hm⟩
  by_cases z:i=id
  ·subst z;rw[S]at q;cases q;exact⟨F,by simp[Sg.put],hesz,htot⟩
  ·exact⟨G,by simp[Sg.put,z,q],rfl,.inl rfl⟩
 have C:∀i b,i≠id->(H.set id bx')[i]? = some b->H[i]? = some b:=by
  intro i b z hh;rw[List.getElem?_set_ne (fun e=>z e.symm)]at hh;exact hh
 have M:(H.set id bx')[id]? = some bx' :=by simp[hlen]
 refine⟨⟨?_,Nat.le_trans h.size hg.size,?_,?_,?_,?_,?_,?_,h.old,fun b hb=>?_⟩,e⟩
 ·exact h.below.grown hg h.size (fun k hk=>(hok0.block_lt hk).1)
 ·intro i G q
  by_cases z:i=id
  ·simp_all
  ·simp only[Sg.put,z,if_false]at q;obtain⟨b1,c1,c2⟩:=h.dom i G q
   grind
 ·intro i b A D
  by_cases z:i=id
  ·subst z;rw[M]at A;cases A;exact⟨F,by simp[Sg.put],hok e⟩
  ·have hib' :=C i b z A;obtain⟨G,q,hoki⟩:=h.boxes i b hib' D;refine⟨G,by simp[Sg.put,z,q],hoki.kept e hg ?_⟩;cases hLb:G.v.ownBlock with
   | none=>exact .inl rfl
   | some g=>
    right;intro hh;exact z (h.apart i id b bx G L g hib' hb D hl q S hLb hh.symm)
 ·intro i j b1 b2 L1 L2 g h1 h2 l1 l2 s1 s2 g1 g2
  by_cases z:i=id
  ·by_cases hj:j=id
   ·rw[z,hj]
   ·exfalso;subst z;simp only[Sg.put,if_true]at s1;cases s1;simp only[Sg.put,hj,if_false]at s2;have h2' :=C j b2 hj h2;obtain⟨L3,I,O⟩:=h.boxes j b2 h2' l2;rw[s2]at I;cases I;rcases N g g1 with hh|hh
    ·exact hj (h.apart j i b2 bx L2 L g h2' hb l2 hl s2 S g2 hh)
    ·have:=(O.block_lt g2).2;omega
  ·by_cases hj:j=id
   ·exfalso;subst hj;simp only[Sg.put,if_true]at s2;cases s2;simp only[Sg.put,z,if_false]at s1;have h1' :=C i b1 z h1;obtain⟨L3,I,O⟩:=h.boxes i b1 h1' l1;rw[s1]at I;cases I;rcases N g g2 with hh|hh
    ·exact z (h.apart i j b1 bx L1 L g h1' hb l1 hl s1 S g1 hh)
    ·have:=(O.block_lt g1).2;omega
   ·simp only[Sg.put,z,hj,if_false]at s1 s2;exact h.apart i j b1 b2 L1 L2 g (C i b1 z h1) (C j b2 hj h2) l1 l2 s1 s2 g1 g2
 ·intro b c hc;obtain⟨u,hu⟩:=h.cells b c hc;exact⟨u,(J b c hc).trans hu⟩
 ·intro b c hc i b' G A D q Y
  by_cases z:i=id
  ·subst z;rw[M]at A;cases A;simp only[Sg.put,if_true]at q;cases q;rw[hfl,hesz];rcases N b Y with hh|hh
   ·exact h.floor b c hc i bx L hb hl S hh
   ·obtain⟨u,hu⟩:=h.cells b c hc;have:=cell_lt hu;omega
  ·simp only[Sg.put,z,if_false]at q;exact h.floor b c hc i b' G (C i b' z A) D q Y
 ·intro i b' A D
  by_cases z:i=id
  ·subst z;rw[M]at A;cases A;rw[hfl];exact Nat.le_trans (h.low i bx hb hl) hlen'
  ·exact h.low i b' (C i b' z A) D
 ·obtain⟨k1,k2,k3,k4⟩:=h.kept b hb;refine⟨Nat.lt_of_lt_of_le k1 hg.size,(hg.block b k1 (fun hh=>k3 id L S hh.symm)).trans k2,fun i G q Y=>?_,k4⟩
  by_cases z:i=id
  ·subst z;simp only[Sg.put,if_true]at q
   grind
  ·simp only[Sg.put,z,if_false]at q;exact k3 i G q Y
end Go.Proofs.YtjodhcdmhobmoaaGreatDoor.Le
namespace Go.Proofs.YtjodhcdmhobmoaaGreatDoor.Le
open Go.RowKit (Below)
theorem flat_nil:flat []=[]:=rfl
theorem L9 (u:Value) (us:List Value):flat (u::us)=u.cells.toList++flat us:=rfl
theorem Og (us vs:List Value):flat (us++vs)=flat us++flat vs:=by simp[flat]
theorem flat_length {us:List Value} {e:Nat} (h:∀u∈us,u.cells.size=e):(flat us).length=us.length*e:=by
 induction us with
 | nil=>simp[flat_nil]
 | cons u us z=>
  rw[L9,List.length_append,z (fun v q=>h v (by simp[q]))]
  grind
theorem sO {us:List Value} {e:Nat} (h:∀u∈us,u.cells.size=e) (k:Nat):∀u∈us.drop k,u.cells.size=e:=fun u hu=>h u (List.mem_of_mem_drop hu)
theorem eH {us:List Value} {e:Nat} (h:∀u∈us,u.cells.size=e) (k:Nat):∀u∈us.take k,u.cells.size=e:=fun u hu=>h u (List.mem_of_mem_take hu)
theorem Z3g {us:List Value} {e:Nat} (h:∀u∈us,u.cells.size=e) (k:Nat):flat (us.drop k)=(flat us).drop (k*e):=by
 induction us generalizing k with
 | nil=>simp[flat_nil]
 | cons u us C=>
  cases k with
  | zero=>simp
  | succ k=>
   have hu:=h u (by simp);rw[List.drop_succ_cons,C (fun v A=>h v (by simp[A])),L9,Nat.add_mul,Nat.one_mul,List.drop_append];have q:k*e+e - u.cells.toList.length=k*e:=by simp[hu]
   have z:u.cells.toList.drop (k*e+e)=[]:=by apply List.drop_eq_nil_of_le;simp[hu]
   rw[q,z,List.nil_append]
theorem iG {us:List Value} {e:Nat} (h:∀u∈us,u.cells.size=e) (k:Nat):flat (us.take k)=(flat us).take (k*e):=by
 induction us generalizing k with
 | nil=>simp[flat_nil]
 | cons u us z=>
  cases k with
  | zero=>simp[flat_nil]
  | succ k=>
   have hu:=h u (by simp);rw[List.take_succ_cons,L9,z (fun v q=>h v (by simp[q])),L9,Nat.add_mul,Nat.one_mul,List.take_append]
   grind
theorem Z3s {us:List Value} {e:Nat} (h:∀u∈us,u.cells.size=e) (off len:Nat):flat ((us.drop off).take len)=((flat us).drop (off*e)).take (len*e):=by
 rw[iG (sO h off),Z3g h]
theorem ZF9 {us:List Value} {e:Nat} (h:∀u∈us,u.cells.size=e) {i:Nat} {u:Value} (hu:us[i]? = some u):∀j,j<e->(flat us)[i*e+j]? = u.cells.toList[j]?:=by
 induction us generalizing i with
 | nil=>simp at hu
 | cons v us A=>
  intro j z;have q:=h v (by simp);cases i with
  | zero=>
   simp at hu;subst hu;rw[L9,Nat.zero_mul,Nat.zero_add,List.getElem?_append_left (by simp[q];exact z)]
  | succ i=>
   simp at hu;have:=A (fun v q=>h v (by simp[q])) hu j z;rw[L9,List.getElem?_append_right (by simp[q,Nat.add_mul];omega),<- this]
   grind
theorem Z3G {us:List Value} {e:Nat} (h:∀u∈us,u.cells.size=e) {i:Nat} {u z : Value} (hu:us[i]? = some u) (A : z.cells.size=e) :
  flat (us.set i z)=(flat us).take (i*e)++z.cells.toList++(flat us).drop (i*e+e):=by
 induction us generalizing i with
 | nil=>simp at hu
 | cons v us C=>
  have q:=h v (by simp);cases i with
  | zero=>
   simp at hu;subst hu;rw[List.set_cons_zero,L9,L9];simp[q]
  | succ i=>
   simp at hu;rw[List.set_cons_succ,L9,C (fun v q=>h v (by simp[q])) hu,L9,Nat.add_mul,Nat.one_mul];rw[List.take_append,List.drop_append];have D:i*e+e - v.cells.toList.length=i*e:=by simp[q]
   have F:v.cells.toList.take (i*e+e)=v.cells.toList:=by apply List.take_of_length_le;simp[q]
   simp_all
theorem Z3F {us:List Value} (h:∀u∈flat us,u.oneCell' = true) (k:Nat):∀u∈flat (us.drop k),u.oneCell' = true:=by
 intro u hu;apply h;simp only[flat,List.mem_flatMap]at hu ⊢
 grind
theorem vK {us:List Value} (h:∀u∈flat us,u.oneCell' = true) (k:Nat):∀u∈flat (us.take k),u.oneCell' = true:=by
 intro u hu;apply h;simp only[flat,List.mem_flatMap]at hu ⊢
 grind
def fzOf (σ:Sg) (H:Heap) (ids:List Nat) (b c:Nat):Prop:=
 ∃id bx L,id∈ids/\H[id]? = some bx/\bx.live=true/\σ.box id=some L/\L.v.ownBlock=some b/\c<bx.xs.length*L.BA
def Sg.freeze (σ:Sg) (H:Heap) (ids:List Nat):Sg:={ σ with fz:=fun b c=>σ.fz b c\/fzOf σ H ids b c }
theorem Ld (H:Heap) (ids:List Nat) (i:Nat):(bump H ids)[i]? = (H[i]?).map fun b=>if i∈ids then { b with floor:=b.xs.length } else b:=by
 induction ids generalizing H with
 | nil=>simp[bump]
 | cons k ks q=>
  rw[bump,q,List.getElem?_modify]
  grind
theorem bump_length (H:Heap) (ids:List Nat):(bump H ids).length=H.length:=by
 induction ids generalizing H with
 | nil=>rfl
 | cons k ks q=>rw[bump,q];simp
theorem Zzf (H:Heap) (ids:List Nat) (k:Nat):GH (bump H ids) k=GH H k:=by
 unfold GH;rw[Ld,bump_length]
 grind
theorem Zb8 {w:World} {B:Nat} {e:TypeId} {BA:Nat} {v:Value} {n:Nat} {xs:List Value} {g:Nat} (h:GZ w B e BA v n xs) (q:v.ownBlock=some g) :
  ∀j u,xs[j]? = some u->w.cell? ⟨g,j,none⟩=some u:=by
 intro j u hu;have:=h.cells q j u hu;rw[Addr.add_mid,Nat.zero_add]at this;exact this
theorem Inv.freeze {B w0 σ H w} (h:Inv B w0 σ H w) (ids:List Nat):Inv B w0 (σ.freeze H ids) (bump H ids) w/\Ext σ w (σ.freeze H ids) w:=by
 have e:Ext σ w (σ.freeze H ids) w:=⟨fun id L D=>⟨L,D,rfl,.inl rfl⟩,fun b c hc=>⟨.inl hc,rfl⟩,En.refl _⟩;have A:∀i b,(bump H ids)[i]? = some b->∃b0,H[i]? = some b0/\b.live=b0.live/\b.xs=b0.xs/\b.elem=b0.elem/\b.BA=b0.BA/\b.Ey=b0.Ey/\b.row=b0.row/\(b.floor=if i∈ids then b0.xs.length else b0.floor):=by
  intro i b hb;rw[Ld]at hb;cases hh:H[i]? with
  | none=>simp[hh]at hb
  | some b0=>
   grind
 refine⟨⟨h.below,h.size,fun id L D=>by
  obtain⟨b1,c1,c2⟩:=h.dom id L D;exact⟨if id∈ids then { b1 with floor:=b1.xs.length } else b1,by rw[Ld,c1];rfl,by split<;>exact c2⟩,?_,?_,?_,?_,?_,?_,?_⟩,e⟩
 ·intro id bx hb hl;obtain⟨b0,J,S,M,h3,h4,h5,h6,_⟩:=A id bx hb;obtain⟨L,D,q⟩:=h.boxes id b0 J (by rw[<- S];exact hl);obtain⟨us,r1,r2,r3,r4⟩:=q.EF;refine⟨L,D,⟨by rw[M];exact q.tot,⟨us,?_,r2,r3,?_⟩,by rw[h5];exact q.Ey,by rw[h4];exact q.BA,by rw[M];exact q.oks,fun hr=>by rw[M];exact q.I5 (by rw[<- h6];exact hr)⟩⟩
  ·rw[M];exact r1.ext e
  simp_all
 ·intro i j b1 b2 L1 L2 g S M l1 l2 s1 s2 g1 g2;obtain⟨c1,k1,k2,_⟩:=A i b1 S;obtain⟨c2,m1,m2,_⟩:=A j b2 M;exact h.apart i j c1 c2 L1 L2 g k1 m1 (by rw[<- k2];exact l1) (by rw[<- m2];exact l2) s1 s2 g1 g2
 ·intro b c hc;rcases hc with hc|⟨id,bx,L,_,hb,hl,D,hg,G⟩
  ·exact h.cells b c hc
  ·obtain⟨L',z,q⟩:=h.boxes id bx hb hl;rw[D]at z;cases z;obtain⟨us,r1,r2,r3,r4⟩:=q.EF;have hlen:c<(flat us).length:=by rw[r4.1];exact G
   exact⟨_,Zb8 r4 hg c _ (List.getElem?_eq_getElem hlen)⟩
 ·intro b c hc i bx L hb hl D hg;obtain⟨b0,J,S,M,h3,h4,h5,_,h6⟩:=A i bx hb;have Q:b0.live=true:=by rw[<- S];exact hl
  rcases hc with hc|⟨id,I,L',Y,C,O,z,N,G⟩
  ·have:=h.floor b c hc i b0 L J Q D hg;rw[h6];split
   ·obtain⟨L2,F,q⟩:=h.boxes i b0 J Q;rw[show σ.box i=some L from D]at F;cases F;obtain⟨u,hu⟩:=h.cells b c hc;exact Nat.lt_of_lt_of_le this (Nat.mul_le_mul_right _ (h.low i b0 J Q))
   ·exact this
  ·have hi:id=i:=h.apart id i I b0 L' L b C J O Q z D N hg;subst hi;rw[J]at C;cases C;rw[show σ.box id=some L from D]at z;cases z;rw[h6,if_pos Y];exact G
 ·intro i bx hb hl;obtain⟨b0,J,S,M,h3,h4,h5,_,h6⟩:=A i bx hb;rw[h6,M];split
  ·exact Nat.le_refl _
  ·exact h.low i b0 J (by rw[<- S];exact hl)
 ·intro b c hc G;rcases hc with hc|⟨id,I,L',Y,C,O,z,N,hlt'⟩
  ·exact h.old b c hc G
  ·obtain⟨L2,F,q⟩:=h.boxes id I C O;rw[show σ.box id=some L' from z]at F;cases F;have:=(q.block_lt N).1;omega
 ·intro b hb;obtain⟨k1,k2,k3,k4⟩:=h.kept b hb;refine⟨k1,k2,k3,fun c hc=>?_⟩;rcases hc with hc|⟨id,I,L',Y,C,O,z,N,hlt'⟩
  ·exact k4 c hc
  grind
end Go.Proofs.YtjodhcdmhobmoaaGreatDoor.Le
namespace Go.Proofs.YtjodhcdmhobmoaaGreatDoor.Le
open Go.RowKit (Below)
theorem WR {H:Heap} {id tot:Nat} {b:Box} (h:Dt H id tot=some b):H[id]? = some b/\b.live=true/\b.xs.length=tot:=by
 unfold Dt at h
 grind
structure Met (B:Nat) (w0:Start) (σ:Sg) (H:Heap) (w:World) (id:Nat) (b:Box) (L:Loc) (us:List Value):Prop where
 hb:H[id]? = some b
 live:b.live=true
 box:σ.box id=some L
 tot:L.tot=b.xs.length
 EF:AV σ w b.xs us
 sizes:∀u∈us,u.cells.size=L.BA
 ones:∀u∈flat us,u.oneCell' = true
 own:GZ w B b.elem L.BA L.v b.xs.length (flat us)
 Ey:b.Ey=true->L.v = .slice none 0 0
 BA:b.BA=L.BA
 oks:∀x∈b.xs,okV x=true
 I5:b.row=true->∀x∈b.xs,DF x=true
 shape:(L.v = .slice none 0 0/\b.xs=[]/\us=[])\/∃g cap cur tg,L.v = .slice (some ⟨g,0,none⟩) b.xs.length cap/\B<=g/\w.heap[g]? = some (.cells cur b.elem tg)/\noMark tg cur.size/\b.xs.length<=cap/\cap<=maxLen/\cur.size=cap*L.BA/\cur.toList.take (b.xs.length*L.BA)=flat us
theorem Inv.meet {B w0 σ H w} (h:Inv B w0 σ H w) {id:Nat} {b:Box} (hb:H[id]? = some b) (hl:b.live=true):∃L us,Met B w0 σ H w id b L us:=by
 obtain⟨L,J,q⟩:=h.boxes id b hb hl;obtain⟨us,F,Q,S,I⟩:=q.EF;refine⟨L,us,hb,hl,J,q.tot,F,Q,S,I,q.Ey,q.BA,q.oks,q.I5,?_⟩;rcases I.2 with ⟨D,A⟩|⟨g,cap,z,Y,D,M,N,C,A,hm,hs,O⟩
 ·have G:b.xs=[]:=List.eq_nil_of_length_eq_zero A;refine .inl ⟨D,G,?_⟩;rw[G]at F;exact F.Fj
 ·exact .inr ⟨g,cap,z,Y,D,M,N,C,A,hm,hs,O⟩
theorem Met.fz {B w0 σ H w id b L us} (m:Met B w0 σ H w id b L us) (z:b.row=true):∀x∈b.xs,FW x=true:=fun x q=>by
 simp[FW,m.oks x q,m.I5 z x q]
theorem Met.len {B w0 σ H w id b L us} (m:Met B w0 σ H w id b L us):us.length=b.xs.length:=m.EF.length.symm
theorem Met.cell {B w0 σ H w id b L us} (m:Met B w0 σ H w id b L us) {g:Nat} (q:L.v.ownBlock=some g):∀j u,(flat us)[j]? = some u->w.cell? ⟨g,j,none⟩=some u:=
 Zb8 m.own q
theorem Oo {B w0 σ H w} (h:Inv B w0 σ H w) {id off len tot:Nat} {v:Value} {b:Box} (Q:AV σ w [.Bl id off len tot] [v]) (hb:Dt H id tot=some b) :
  ∃L us,Met B w0 σ H w id b L us/\b.xs.length=tot/\off+len<=tot/\Ziq L.v L.BA off len v /\
   ((L.v = .slice none 0 0/\v = .slice none 0 0/\off=0/\len=0/\tot=0) \/
    ∃g cap k,L.v = .slice (some ⟨g,0,none⟩) tot cap/\v = .slice (some ⟨g,k*L.BA,none⟩) len (cap - off)/\tot<=cap/\cap<=maxLen/\k<=off/\(off<cap->k=off)):=by
 obtain⟨N,O,A⟩:=WR hb;obtain⟨L,us,m⟩:=h.meet N O;cases Q with
 | Bl k1 k2 k3 k4 _=>
  rename_i L';rw[m.box]at k1;cases k1;have q:L.tot=tot:=m.tot.trans A;obtain⟨C,hs⟩:=k3 q;refine⟨L,us,m,A,C,hs,?_⟩;obtain⟨a,n,c,k,D,I,e3,J,M⟩:=hs;rcases m.shape with ⟨z,hx,hu⟩|⟨g,cap,G,tg,z,hg,hh,Y,F,hm,S,ht⟩
  ·grind
  ·right;rw[z]at D;cases D;rw[A]at z F;refine⟨g,_,k,z,?_,F,hm,J,M⟩;rw[I];simp[Addr.add_mid]
theorem vM {σ w es us} (h:AV σ w es us) (off len:Nat):AV σ w ((es.drop off).take len) ((us.drop off).take len):=(h.drop off).take len
theorem uX {B w0 σ H w} (h:Inv B w0 σ H w) {x Q : V} {v:Value} (C:AV σ w [x] [v]) (hf:Ia H x=some Q) (ids:List Nat) (D:∀i∈Fb x,i∈ids) :
  AV (σ.freeze H ids) w [Q] [v]:=by
 have e:=(h.freeze ids).2;unfold Ia at hf;split at hf
 ·cases hf;exact C.ext e
 ·cases hf;exact C.ext e
 ·cases hf;refine AV.ext ?_ e;cases C with
  | Gq _=>exact .Ew .nil
  | Hf a _=>exact .GL a .nil
  | DT b o _ k0 k1 k2 k3 k4 k5 _=>exact .sl b o _ _ k0 k1 k2 k3 (Nat.le_refl _) k4 k5 .nil
 ·rename_i id off len tot;split at hf
  ·rename_i b hb;split at hf
   ·rename_i hc;simp only[Bool.and_eq_true,decide_eq_true_eq]at hc;simp only[Option.some.injEq]at hf;subst hf;obtain⟨L,us,m,hxl,hol,hs,z⟩:=Oo h C hb;rcases z with ⟨O,A,ho,hl,ht⟩|⟨g,cap,k,O,A,Y,hmx,S,I⟩
    ·have M:b.xs=[]:=List.eq_nil_of_length_eq_zero (by omega);rw[M,A];simp only[List.drop_nil,List.take_nil];exact .Ew .nil
    ·rw[m.BA,A];have F:((b.xs.drop off).take len).length=len:=by simp;omega
     have G:=AV.sl (σ:=σ.freeze H ids) (w:=w) (xs:=[]) (vs:=[]) (es:=(b.xs.drop off).take len) (us:=(us.drop off).take len) g (k*L.BA) (cap - off) L.BA
      ((vM m.EF off len).ext e) (fun x M=>m.fz hc.1 x (List.mem_of_mem_drop (List.mem_of_mem_take M))) (eH (sO m.sizes off) len) (vK (Z3F m.ones off) len) (by rw[F];omega) (by omega) ?_ .nil
     ·simp_all
     ·intro j u hu;rw[Z3s m.sizes]at hu;have N:j<len*L.BA:=by
       have:=(List.getElem?_eq_some_iff.1 hu).1;simp at this;omega
      rw[List.getElem?_take,if_pos N,List.getElem?_drop]at hu;have J:0<len:=by
       cases len with
       | zero=>simp at N
       | succ n=>omega
      have hk:k=off:=I (by omega);subst hk;have q:L.v.ownBlock=some g:=by rw[O];rfl
      refine⟨.inr ⟨id,b,L,D id (by simp[Fb]),m.hb,m.live,m.box,q,?_⟩,m.cell q _ _ hu⟩;have:=(List.getElem?_eq_some_iff.1 hu).1;rw[flat_length m.sizes,m.len]at this;exact this
   ·cases hf
  ·cases hf
 ·cases hf;exact C.ext e
 ·cases hf;exact C.ext e
 ·cases hf
theorem ZeU {B w0 σ H w} (h:Inv B w0 σ H w) {x A : V} {v:Value} (z:AV σ w [x] [v]) (hf:Ia H x=some A):DF A = true:=by
 unfold Ia at hf;split at hf
 ·cases hf;rfl
 ·cases hf;cases z with
  | Ew _=>rfl
  | GL a _=>rfl
  | sl b o c C _ q D F G I M _=>exact QG q
 ·cases hf;cases z with
  | Gq _=>rfl
  | Hf a _=>rfl
  | DT b o C _ q D F G I _=>exact QG q
 ·rename_i id off len tot;split at hf
  ·rename_i b hb;split at hf
   ·rename_i hc;simp only[Bool.and_eq_true,decide_eq_true_eq]at hc;simp only[Option.some.injEq]at hf;subst hf;obtain⟨L,us,m,_⟩:=Oo h z hb;exact(LX _).2 fun x J=>m.I5 hc.1 x (List.mem_of_mem_drop (List.mem_of_mem_take J))
   ·cases hf
  ·cases hf
 ·cases hf;rfl
 ·cases hf;rfl
 ·cases hf
theorem ZyF {B w0 σ H w} (h:Inv B w0 σ H w) {xs q : List V} {vs:List Value} (D:AV σ w xs vs) (hf:Jw H xs=some q):CY q = true:=by
 induction xs generalizing q vs with
 | nil=>simp only[Jw,Option.some.injEq]at hf;subst hf;rfl
 | cons x xs G=>
  obtain⟨v,I,rfl,A,C⟩:=D.EP;simp only[Jw]at hf;split at hf
  ·rename_i J ws F z;simp only[Option.some.injEq]at hf;subst hf;simp[CY,ZeU h A F,G C z]
  ·cases hf
theorem uN {B w0 σ H w} (h:Inv B w0 σ H w) {x z : V} {v:Value} (q:AV σ w [x] [v]) (hf:Ie H x=some z):DF z = true:=by
 unfold Ie at hf;split at hf
 ·rename_i cs;cases q with
  | agg C D _=>
   cases hl:Jw H cs with
   | none=>simp[hl]at hf
   | some A =>
    simp only[hl,Option.map_some,Option.some.injEq]at hf;subst hf;exact ZyF h C hl
 ·exact ZeU h q hf
theorem aZ {B w0 σ H w} (h:Inv B w0 σ H w) {xs q : List V} {vs:List Value} (D:AV σ w xs vs) (hf:Fp H xs=some q):CY q = true:=by
 induction xs generalizing q vs with
 | nil=>simp only[Fp,Option.some.injEq]at hf;subst hf;rfl
 | cons x xs G=>
  obtain⟨v,I,rfl,A,C⟩:=D.EP;simp only[Fp]at hf;split at hf
  ·rename_i J ws F z;simp only[Option.some.injEq]at hf;subst hf;simp[CY,uN h A F,G C z]
  ·cases hf
theorem ZAU {B w0 σ H w} (h:Inv B w0 σ H w) {xs z : List V} {vs:List Value} (D:AV σ w xs vs) (hf:Jw H xs=some z) (ids:List Nat) (q:∀i∈xs.flatMap Fb,i∈ids) :
  AV (σ.freeze H ids) w z vs:=by
 induction xs generalizing z vs with
 | nil=>
  cases D.Fj;simp only[Jw,Option.some.injEq]at hf;subst hf;exact .nil
 | cons x xs J=>
  obtain⟨v,M,rfl,F,G⟩:=D.EP;simp only[Jw]at hf;split at hf
  ·rename_i N ws I A;simp only[Option.some.injEq]at hf;subst hf;refine AV.F8.2 ⟨uX h F I ids (fun i C=>q i (by simp[C])),J G A (fun i C=>q i ?_)⟩
   simp_all
  ·cases hf
theorem vN {B w0 σ H w} (h:Inv B w0 σ H w) {x A : V} {v:Value} (z:AV σ w [x] [v]) (hf:Ie H x=some A) (ids:List Nat) (q:∀i∈EH x,i∈ids) :
  AV (σ.freeze H ids) w [A] [v]:=by
 unfold Ie at hf;split at hf
 ·rename_i cs;cases z with
  | agg D G _=>
   cases hl:Jw H cs with
   | none=>simp[hl]at hf
   | some C =>
    simp only[hl,Option.map_some,Option.some.injEq]at hf;subst hf;exact .agg (ZAU h D hl ids (by simpa[EH]using q)) G .nil
 ·rename_i F;refine uX h z hf ids (fun i I=>q i ?_);cases x<;>simp_all [EH,Fb]
theorem rY {B w0 σ H w} (h:Inv B w0 σ H w) {xs z : List V} {vs:List Value} (D:AV σ w xs vs) (hf:Fp H xs=some z) (ids:List Nat) (q:∀i∈xs.flatMap EH,i∈ids) :
  AV (σ.freeze H ids) w z vs:=by
 induction xs generalizing z vs with
 | nil=>
  cases D.Fj;simp only[Fp,Option.some.injEq]at hf;subst hf;exact .nil
 | cons x xs J=>
  obtain⟨v,M,rfl,F,G⟩:=D.EP;simp only[Fp]at hf;split at hf
  ·rename_i N ws I A;simp only[Option.some.injEq]at hf;subst hf;refine AV.F8.2 ⟨vN h F I ids (fun i C=>q i (by simp[C])),J G A (fun i C=>q i ?_)⟩
   simp_all
  ·cases hf
theorem Z1D {σ w x v} (e:Nat) (h:AV σ w [x] [v]):AV σ w [Gz e x] [v]:=by
 unfold Gz;split
 ·cases h with
  | Ew _=>exact .Ew .nil
 ·exact h
theorem Zuc {σ w}:∀(es:List Nat) {xs:List V} {vs:List Value},AV σ w xs vs->AV σ w (Gp es xs) vs:=by
 intro es;induction es with
 | nil=>intro xs vs h;simpa[Gp]using h
 | cons e es A=>
  intro xs vs h;cases xs with
  | nil=>simpa[Gp]using h
  | cons x xs=>
   obtain⟨v,C,rfl,q,z⟩:=h.EP;exact AV.F8.2 ⟨Z1D e q,A z⟩
theorem UR {σ w x v} (es:List Nat) (h:AV σ w [x] [v]):AV σ w [EU es x] [v]:=by
 unfold EU;split
 ·cases h with
  | agg q z _=>exact .agg (Zuc es q) z .nil
 ·exact Z1D _ h
theorem ZtT {σ w} (es:List Nat) {xs:List V} {vs:List Value} (h:AV σ w xs vs):AV σ w (xs.map (EU es)) vs:=by
 induction xs generalizing vs with
 | nil=>simpa using h
 | cons x xs A=>
  obtain⟨v,C,rfl,q,z⟩:=h.EP;exact AV.F8.2 ⟨UR es q,A z⟩
theorem Z0E {σ w} (rows:TypeId->List Nat):∀(ts:List TypeId) {xs:List V} {vs:List Value},AV σ w xs vs->AV σ w (Gy rows ts xs) vs:=by
 intro ts;induction ts with
 | nil=>intro xs vs h;simpa[Gy]using h
 | cons t ts A=>
  intro xs vs h;cases xs with
  | nil=>simpa[Gy]using h
  | cons x xs=>
   obtain⟨v,C,rfl,q,z⟩:=h.EP;exact AV.F8.2 ⟨UR _ q,A z⟩
theorem Zau (e:Nat) (x:V):DF (Gz e x)=DF x:=by
 unfold Gz;split<;>simp[DF]
theorem Zrt:∀(es:List Nat) (xs:List V),CY (Gp es xs)=CY xs:=by
 intro es;induction es with
 | nil=>intro xs;simp[Gp]
 | cons e es q=>intro xs;cases xs<;>simp[Gp,CY,Zau,q]
theorem UQ (es:List Nat) (x:V):DF (EU es x)=DF x:=by
 unfold EU;split
 ·simp[DF,Zrt]
 ·exact Zau _ _
theorem oH (rows:TypeId->List Nat):∀(ts:List TypeId) (xs:List V),CY (Gy rows ts xs)=CY xs:=by
 intro ts;induction ts with
 | nil=>intro xs;simp[Gy]
 | cons t ts q=>intro xs;cases xs<;>simp[Gy,CY,UQ,q]
theorem Zy1 (e:Nat) (x:V):okV (Gz e x)=okV x:=by
 unfold Gz;split<;>simp[okV]
theorem uK (es:List Nat) (x:V):okV (EU es x)=okV x:=by
 unfold EU;split
 ·simp[okV]
 ·exact Zy1 _ _
theorem Zqo:∀(es:List Nat) (xs:List V),(Gp es xs).length=xs.length:=by
 intro es;induction es with
 | nil=>intro xs;simp[Gp]
 | cons e es q=>intro xs;cases xs<;>simp[Gp,q]
theorem ZvH (e:Nat) (x:V):(Gz e x).cells.length=x.cells.length:=by
 unfold Gz;split<;>simp[V.cells]
theorem Zyi (es:List Nat) (x:V):(EU es x).cells.length=x.cells.length:=by
 unfold EU;split
 ·simp[V.cells,Zqo]
 ·exact ZvH _ _
theorem AV.cells {σ w x v} (h:AV σ w [x] [v]) (F:okV x=true):AV σ w x.cells v.cells.toList/\(∀u∈v.cells.toList,u.oneCell' = true):=by
 cases h with
 | und u h=>simp[okV]at F
 | no h=>simp[okV]at F
 | BK _ h=>simp[okV]at F
 | Gf _ _ _ _ _ _ _=>simp[okV]at F
 | agg q z _=>exact⟨by simpa[V.cells,Value.cells]using q,by simpa[Value.cells]using z⟩
 | lit hl _=>
  cases v<;>simp[leaf]at hl<;>simp[V.cells,Value.cells,Value.oneCell']<;>exact .lit (by simp[leaf,hl]) .nil
 | Ew h=>exact⟨.Ew .nil,by simp[Value.cells,Value.oneCell']⟩
 | Gq h=>exact⟨.Gq .nil,by simp[Value.cells,Value.oneCell']⟩
 | GL a h=>exact⟨.GL a .nil,by simp[Value.cells,Value.oneCell']⟩
 | Hf a h=>exact⟨.Hf a .nil,by simp[Value.cells,Value.oneCell']⟩
 | sl b o c e D q z A C G I _=>exact⟨.sl b o c e D q z A C G I .nil,by simp[Value.cells,Value.oneCell']⟩
 | DT b o e D q z A C G _=>exact⟨.DT b o e D q z A C G .nil,by simp[Value.cells,Value.oneCell']⟩
 | Bl q z A C _=>
  obtain⟨a,n,c,rfl⟩:=C;exact⟨.Bl q z A ⟨a,n,c,rfl⟩ .nil,by simp[Value.cells,Value.oneCell']⟩
 | ptr g q z A C _=>
  subst C;exact⟨.ptr g q z A rfl .nil,by simp[Value.cells,Value.oneCell']⟩
 | CX b o e i off D q z A C _=>exact⟨.CX b o e i off D q z A C .nil,by simp[Value.cells,Value.oneCell']⟩
 | fn q z _=>exact⟨.fn q z .nil,by simp[Value.cells,Value.oneCell']⟩
 | IV q _=>exact⟨.IV q .nil,by simp[Value.cells,Value.oneCell']⟩
theorem AV.Ro {σ w x v} (h:AV σ w [x] [v]) (q:okV x=true):x.cells.length=v.cells.size:=by
 have:=(h.cells q).1.length;simpa using this
end Go.Proofs.YtjodhcdmhobmoaaGreatDoor.Le
namespace Go.Proofs.YtjodhcdmhobmoaaGreatDoor.Le
open Go.RowKit (Below)
structure DV (E:Env):Prop where
 ti:∀t i,E.ti t=some i->KZ E.P t=some i
 func:∀f fn,E.func f=some fn->E.P.funcs[f]? = some fn/\(fn.name == "runtime.NumGoroutine")=false
 mix:E.P.follows .mixedOrders=true
 calm:∀f fn c,E.func f=some fn->fn.body=some c->Eo E f c=true
 kind:∀t k,E.kind t=some k->E.P.underlying t=some (.int k)
 isStr:∀t,E.isStr t=true->E.P.underlying t=some .string
 isBool:∀t,E.isBool t=true->E.P.underlying t=some .bool
 flat:∀t ks,E.flat t=some ks->wY E.P t=some ks
 isBytes:∀t,E.isBytes t=true->∃e,E.P.underlying t=some (.slice e)/\E.P.underlying e=some (.int .u8)
def EK (E:Env) (σ:Sg) (w:World):Prop:=∀g r,E.FM g=some r->AV σ w [.CX r.length [.agg r] 0 0] [.pointer (some ⟨g,0,none⟩)]
theorem EK.ext {E σ w σ' w'} (h:EK E σ w) (e:Ext σ w σ' w'):EK E σ' w' :=fun g r q=>(h g r q).ext e
theorem Zds (σ:Sg) (w:World) (v:Value) (h:XJ v=true):AV σ w [PG v] [v]/\v.oneCell' = true:=by
 unfold PG;split
 ·exact⟨.Ew .nil,rfl⟩
 ·rename_i q;have hl:leaf v=true:=by
   unfold XJ at h;split at h
   ·exact absurd rfl q
   ·exact h
  rw[if_pos hl];exact⟨.lit hl .nil,by cases v<;>simp_all [leaf,Value.oneCell']⟩
theorem ZuV (σ:Sg) (w:World) (vs:List Value) (h:vs.all XJ=true):AV σ w (vs.map PG) vs/\∀u∈vs,u.oneCell' = true:=by
 induction vs with
 | nil=>exact⟨.nil,by simp⟩
 | cons v vs A=>
  simp only[List.all_cons,Bool.and_eq_true]at h;obtain⟨q,C⟩:=Zds σ w v h.1;obtain⟨z,D⟩:=A h.2;exact⟨AV.F8.2 ⟨q,z⟩,by simp_all⟩
theorem bY (σ:Sg) (w:World) (v:Value):AV σ w [QW v] [v]:=by
 have q:∀u:Value,AV σ w [if XJ u then PG u else .und] [u]:=by
  intro u;split
  ·rename_i h;exact(Zds σ w u h).1
  ·exact .und _ .nil
 cases v with
 | agg cs=>
  simp only[QW];split
  ·rename_i h;obtain⟨z,A⟩:=ZuV σ w cs.toList h;have:=AV.agg z A (xs:=[]) (vs:=[]) .nil;simpa using this
  ·exact .und _ .nil
 | tuple vs=>
  simp only[QW];split
  ·rename_i h;have:vs = #[]:=by simpa using h
   subst this;exact .no .nil
  ·exact .und _ .nil
 | bool b=>exact q (.bool b)
 | int k n=>exact q (.int k n)
 | float k b=>exact q (.float k b)
 | complex k a b=>exact q (.complex k a b)
 | string s=>exact q (.string s)
 | pointer a=>exact q (.pointer a)
 | slice a n c=>exact q (.slice a n c)
 | map r=>exact q (.map r)
 | chan r=>exact q (.chan r)
 | func f a b=>exact q (.func f a b)
 | nilFunc=>exact q .nilFunc
 | iface t v=>exact q (.iface t v)
 | nilIface=>exact q .nilIface
theorem ZfL {σ w s vs} (h:AV σ w s vs) (t:Nat):AV σ w [s.getD t .und] [vs.getD t undef]:=by
 cases hs:s[t]? with
 | none=>simp only[List.getD,hs,Option.getD_none];exact .und _ .nil
 | some x=>
  obtain⟨v,z,q⟩:=h.get hs
  simp_all
theorem Et {E σ w s} {a:Act} (q:EK E σ w) (h:AV σ w s a.tmps.toList) (x:Operand):AV σ w [ev E s x] [a.eval x]:=by
 cases x with
 | tmp t=>
  have:=ZfL h t;simpa[ev,Act.eval,Array.getD_eq_getD_getElem?,List.getD_eq_getElem?_getD]using this
 | const v=>exact bY σ w v
 | func f=>exact .fn .nil .nil .nil
 | global g=>
  simp only[ev,Act.eval];cases z:E.FM g with
  | none=>exact .und _ .nil
  | some r=>exact q g r z
theorem vW {E σ w s} {a:Act} (q:EK E σ w) (h:AV σ w s a.tmps.toList) (xs:List Operand):AV σ w (xs.map (ev E s)) (xs.map a.eval):=by
 induction xs with
 | nil=>exact .nil
 | cons x xs z=>exact AV.F8.2 ⟨Et q h x,z⟩
theorem Fg {P:Program} {t:TypeId} {i:TI} (h:KZ P t=some i):∃q d,P.info? t=some q/\P.underlying t=some d/\i.ty=Lr d/\i.size=q.size/\i.bytes=q.bytes/\i.zero=q.zero.map QW:=by
 unfold KZ at h
 grind
theorem Z37 {P:Program} {t:TypeId} {d:TypeDesc} (w:World) (h:P.underlying t=some d):(isAgg t).run P w = .ok d.isRow w:=by
 unfold isAgg;rw[Sem.run_bind,run_underlying h w];cases d<;>rfl
theorem Zgv {i:TI} {d:TypeDesc} (h:i.ty=Lr d):i.isAgg=d.isRow:=by
 unfold TI.isAgg;rw[h];cases d<;>rfl
theorem run_sizeOf {P:Program} {t:TypeId} {q:TypeInfo} (w:World) (h:P.info? t=some q):(sizeOf t).run P w = .ok q.size w:=by
 simp[sizeOf,typeInfo,h]
theorem Zfg {σ w} {cs:List V} {ws:List Value} (h:AV σ w cs ws) (D:∀u∈ws,u.oneCell' = true) {off n:Nat} {z:Bool} {C : V} (hp:partOf cs off n z=some C) :
  (z=true/\off+n<=ws.length/\AV σ w [C] [.agg ((ws.drop off).take n).toArray])\/(z=false/\∃u,ws[off]? = some u/\AV σ w [C] [u]):=by
 unfold partOf at hp;split at hp
 ·rename_i q;split at hp
  ·rename_i A;simp only[Option.some.injEq]at hp;subst hp;refine .inl ⟨q,by rw[<- h.length];exact A,.agg (vM h off n) ?_ .nil⟩
   grind
  ·cases hp
 ·rename_i q;obtain⟨u,hu,F⟩:=h.get hp
  simp_all
theorem Zfh {E σ w} {P:Program} (hE:DV E) (hP:E.P=P) {t:TypeId} {ti:TI} (S:E.ti t=some ti) {xs:List V} {us:List Value} {e b o i off:Nat} {x' : V}
  (h:AV σ w xs us) (hk:∀x∈xs,okV x=true) (hs:∀u∈us,u.cells.size=e) (ho:∀u∈flat us,u.oneCell' = true)
  (hc:∀j u,(flat us)[j]? = some u->w.cell? ⟨b,o+j,none⟩=some u) (F:Oy xs i off ti.size ti.isAgg=some x') :
  ∃u,(loadVar t ⟨b,o+i*e+off,none⟩).run P w = .ok u w/\AV σ w [x'] [u]:=by
 unfold Oy at F;split at F
 ·rename_i x hx;obtain⟨uu,hu,hxr⟩:=h.get hx;have O:=hk x (List.mem_of_getElem? hx);obtain⟨J,I⟩:=hxr.cells O;have Q:uu.cells.size=e:=hs uu (List.mem_of_getElem? hu);obtain⟨inf,d,hi,M,h1,h2,h3,h4⟩:=Fg (hE.ti t ti S);rw[hP]at hi M;have C:=Zgv h1;have A:∀j u,uu.cells.toList[j]? = some u->w.cell? ⟨b,o+(i*e+j),none⟩=some u:=by
   intro j u hj;have N:j<e:=by
    have:=(List.getElem?_eq_some_iff.1 hj).1;simpa[Q]using this
   exact hc _ _ (by rw[ZF9 hs hu j N];exact hj)
  rcases Zfg J I F with ⟨G,hle,q⟩|⟨G,u,Y,q⟩
  ·refine⟨_,run_loadVar_mid (P:=P) w b (o+i*e+off) t _ d ?_ M (by rw[<- C];exact G) ?_,q⟩
   ·intro j v hv
    grind
   grind
  ·refine⟨u,?_,q⟩;have D:d.isRow=false:=by rw[<- C];exact G
   have:=A _ _ Y;have z : w.cell? ⟨b,o+i*e+off,none⟩=some u:=by rw[<- this];congr 2;omega
   unfold loadVar;rw[Sem.run_bind,Z37 w M,D];simp[load,Sem.run,z]
 ·cases F
theorem Zha {E B w0 σ H w} {P:Program} (F:DV E) (G:E.P=P) (h:Inv B w0 σ H w) {t:TypeId} {a J : V} {D:Value} (I:AV σ w [a] [D]) (hl:Nb E H t a=some J) :
  ∃u,(Instr.loadAt t D).run P w = .ok u w/\AV σ w [J] [u]:=by
 unfold Nb at hl;split at hl
 ·cases hl
 ·rename_i ti z;split at hl
  ·rename_i e xs j off;cases I with
   | CX b o e i off k0 k1 k2 k3 k4 _=>
    rename_i us;obtain⟨u,hu,C⟩:=Zfh F G z (o:=o) k0 (Z3Y k1) k2 k3 (fun j u A=>(k4 j u A).2) hl;exact⟨u,by simp only[Instr.loadAt,Instr.sureAddr,Sem.run_bind,Sem.run_pure,Result.andThen_ok,hu],C⟩
  ·rename_i id j off tot;split at hl
   ·rename_i b hb;obtain⟨M,N,O⟩:=WR hb;obtain⟨L,us,m⟩:=h.meet M N;cases I with
    | ptr g k1 k2 k3 k4 _=>
     rename_i S;rw[m.box]at k1;cases k1;obtain⟨n,c,Q⟩:=k3 (m.tot.trans O);have q:L.v.ownBlock=some g:=by rw[Q];rfl
     subst k4;obtain⟨u,hu,C⟩:=Zfh F G z (o:=0) (b:=g) m.EF m.oks m.sizes m.ones (fun j u A=>by rw[Nat.zero_add];exact m.cell q j u A) hl;rw[Nat.zero_add]at hu;exact⟨u,by simp only[Instr.loadAt,Instr.sureAddr,Sem.run_bind,Sem.run_pure,Result.andThen_ok,hu],C⟩
   ·cases hl
  ·cases hl
end Go.Proofs.YtjodhcdmhobmoaaGreatDoor.Le
namespace Go.Proofs.YtjodhcdmhobmoaaGreatDoor.Le
open Go.RowKit (Below)
theorem ZwT {α:Type} (A U C R q:List α) (off k:Nat) (hk:q.length=k) (F:off+k<=U.length) :
  (A++U++C++R).take (A.length+off)++q++(A++U++C++R).drop (A.length+off+k)=A++(U.take off++q++U.drop (off+k))++C++R:=by
 have z:(A++U++C++R).take (A.length+off)=A++U.take off:=by
  rw[List.append_assoc,List.append_assoc,List.take_append,List.take_of_length_le (by omega)];congr 1;rw[show A.length+off - A.length=off from by omega,List.take_append];rw[show off - U.length=0 from by omega];simp
 have D:(A++U++C++R).drop (A.length+off+k)=U.drop (off+k)++C++R:=by
  rw[List.append_assoc,List.append_assoc,List.drop_append,List.drop_eq_nil_of_le (by omega),List.nil_append];rw[show A.length+off+k - A.length=off+k from by omega,List.drop_append];rw[show off+k - U.length=0 from by omega];simp
 simp_all
theorem Zw5 {σ w} {x O : V} {C:Value} {cs:List V} {q:List Value} {off:Nat} (N:AV σ w [x] [C]) (I:okV x=true) (hc:AV σ w cs q) (Y:∀u∈q,u.oneCell' = true)
  (h:NK x off cs=some O) :
  off+q.length<=C.cells.size/\∃F,AV σ w [O] [F]/\F.cells.toList=C.cells.toList.take off++q++C.cells.toList.drop (off+q.length):=by
 unfold NK at h;split at h
 ·rename_i ds;split at h
  ·rename_i Q;simp only[Option.some.injEq]at h;subst h;cases N with
   | agg D J h3=>
    rename_i ws;have M:=D.length;have G:=hc.length;refine⟨by simp[Value.cells];omega,.agg (ws.take off++q++ws.drop (off+q.length)).toArray,?_,by simp[Value.cells]⟩;rw[G];refine .agg ((D.take off).append hc |>.append (D.drop _)) ?_ .nil
    grind
  ·cases h
 ·rename_i S;split at h
  ·rename_i c;simp only[Option.some.injEq]at h;subst h;obtain⟨v,vs',rfl,D,J⟩:=hc.EP;cases J.Fj;have z:C.cells.size=1:=by
    have:=N.Ro I;cases x<;>simp_all [V.cells]
   have A:v.cells = #[v]:=by
    have:=Y v (by simp);cases v<;>simp_all [Value.cells,Value.oneCell']
   refine⟨by simp[z],v,D,?_⟩;rw[A];have:C.cells.toList.drop (0+[v].length)=[]:=by apply List.drop_eq_nil_of_le;simp[z]
   rw[this];simp
  ·cases h
theorem Zgl {B w0 σ H w} {P:Program} (h:Inv B w0 σ H w) {id:Nat} {b:Box} {L:Loc} {us:List Value} (m:Met B w0 σ H w id b L us) {g n c:Nat} (hv:L.v = .slice (some ⟨g,0,none⟩) n c)
  {j off:Nat} {x x' M : V} {cs:List V} {q:List Value} (hx:b.xs[j]? = some x) (hc:AV σ w cs q) (ho:∀u∈q,u.oneCell' = true) (hs:NK x off cs=some x') (hxx:∀σ w v,AV σ w [x'] [v]->AV σ w [M] [v]) (hok:okV M = true) (hnr:b.row=true->DF M = true) (hfl:b.floor<=j) :
  ∃w',(storeCells ⟨g,j*L.BA+off,none⟩ q).run P w = .ok () w' /\ Inv B w0 (σ.put id L) (H.set id { b with xs:=b.xs.set j M }) w' /\ Ext σ w (σ.put id L) w' :=by
 obtain⟨uu,hu,hxr⟩:=m.EF.get hx;have J:=m.oks x (List.mem_of_getElem? hx);obtain⟨hle,D,hr',F⟩:=Zw5 hxr J hc ho hs;have hsz:uu.cells.size=L.BA:=m.sizes uu (List.mem_of_getElem? hu);have Y : D.cells.size=L.BA:=by
  have:=congrArg List.length F;simp at this;omega
 rcases m.shape with ⟨hn,_,_⟩|⟨g',cap,z,tg,hv',hB,hh,htg,hn,hm,hcs,ht⟩
 ·rw[hn]at hv;cases hv
 ·rw[hv']at hv;cases hv;have hjlen:j<b.xs.length:=(List.getElem?_eq_some_iff.1 hx).1;have hje:j*L.BA+L.BA<=b.xs.length*L.BA:=by
   rw[<- Nat.succ_mul];exact Nat.mul_le_mul_right _ hjlen
  have hce:b.xs.length*L.BA<=c*L.BA:=Nat.mul_le_mul_right _ hn;have hfit:j*L.BA+off+0+q.length<=z.size:=by omega
  have G:=mZ P g (j*L.BA+off) b.elem tg q 0 z w hh htg hfit ho;simp only[Nat.add_zero]at G;have hF:flat us=(flat us).take (j*L.BA)++uu.cells.toList++(flat us).drop (j*L.BA+L.BA):=by
   have:=Z3G m.sizes hu hsz;rw[<- this];congr 1;apply List.ext_getElem?;intro i;rw[List.getElem?_set];split
   ·grind
   ·rfl
  have hA:((flat us).take (j*L.BA)).length=j*L.BA:=by
   rw[List.length_take,flat_length m.sizes,m.len];omega
  have O:z.toList=(flat us).take (j*L.BA)++uu.cells.toList++(flat us).drop (j*L.BA+L.BA)++z.toList.drop (b.xs.length*L.BA):=by
   rw[<- hF,<- ht,List.take_append_drop]
  have hsp:=ZwT ((flat us).take (j*L.BA)) uu.cells.toList ((flat us).drop (j*L.BA+L.BA)) (z.toList.drop (b.xs.length*L.BA)) q off q.length rfl (by simpa using hle);rw[hA,<- O]at hsp;rw[hsp]at G;have A : flat (us.set j D)=(flat us).take (j*L.BA)++(uu.cells.toList.take off++q++uu.cells.toList.drop (off+q.length))++(flat us).drop (j*L.BA+L.BA):=by
   rw[Z3G m.sizes hu Y,F]
  rw[<- A]at G;have C : ∀u∈us.set j D,u.cells.size=L.BA:=by
   intro u hu';rcases List.mem_or_eq_of_mem_set hu' with hu' | hu'
   ·exact m.sizes u hu'
   ·rw[hu'];exact Y
  have I : (flat (us.set j D)).length=b.xs.length*L.BA:=by
   rw[flat_length C,List.length_set,m.len]
  have hheap:=setRow_heap w g z (flat (us.set j D)++z.toList.drop (b.xs.length*L.BA)).toArray b.elem tg hh;have S:L.v.ownBlock=some g:=by rw[hv'];rfl
  have hgb:w.grownBy (w.setRow g (flat (us.set j D)++z.toList.drop (b.xs.length*L.BA)).toArray) L.v.ownBlock:=
   ⟨rfl,rfl,rfl,by simp,fun k _ hk=>setRow_other w g k _ (fun e=>hk (by rw[S,e]))⟩
  refine⟨_,G,?_⟩;refine h.upd m.hb m.live m.box hgb { b with xs:=b.xs.set j M } m.live L rfl (.inl rfl) rfl (by simp) (fun g' N =>.inl N) ?_ ?_
  ·intro g' c' N hc';rw[S]at N;cases N;have hlt:c' < j*L.BA:=Nat.lt_of_lt_of_le hc' (Nat.mul_le_mul_right _ hfl);rw[cell_setRow_same w g c' z _ b.elem tg hh,cell_of_row w g c' z b.elem tg hh];rw[List.getElem?_toArray,<- Array.getElem?_toList,O,A];have Q : c' < ((flat us).take (j*L.BA)).length:=by rw[hA];exact hlt
   rw[List.append_assoc,List.append_assoc,List.getElem?_append_left Q,List.append_assoc,List.append_assoc,List.getElem?_append_left Q]
  ·intro e;refine⟨by simpa using m.tot,⟨us.set j D,(m.EF.ext e).set j (hxx _ _ _ (hr'.ext e)),C,?_,?_⟩,m.Ey,m.BA,?_,fun hrow=>?_⟩
   ·intro u hu';rw[A]at hu';simp only[List.mem_append]at hu';rcases hu' with (hu' | (hu' | hu')|hu')|hu'
    ·exact m.ones u (List.mem_of_mem_take hu')
    ·have:=(hxr.cells J).2 u (List.mem_of_mem_take hu');exact this
    ·exact ho u hu'
    ·exact(hxr.cells J).2 u (List.mem_of_mem_drop hu')
    ·exact m.ones u (List.mem_of_mem_drop hu')
   ·refine⟨by simpa using I,.inr ⟨g,c,_,tg,by simpa using hv',hB,hheap,?_,by simpa using hn,hm,?_,?_⟩⟩
    ·have:(flat (us.set j D)++z.toList.drop (b.xs.length*L.BA)).toArray.size=z.size:=by
      simp only[List.size_toArray,List.length_append,I,List.length_drop,Array.length_toList,hcs];omega
     grind
    ·grind
    ·simp only[List.length_set];rw[List.take_append_of_le_length (by omega),List.take_of_length_le (by omega)]
   ·intro y hy;rcases List.mem_or_eq_of_mem_set hy with hy|hy
    ·exact m.oks y hy
    ·rw[hy];exact hok
   ·intro y hy;rcases List.mem_or_eq_of_mem_set hy with hy|hy
    ·exact m.I5 hrow y hy
    grind
theorem ZuT {x z : V} {off:Nat} {cs:List V} (C:DF x=true) (hc:CY cs=true) (hs:NK x off cs=some z):DF z = true:=by
 unfold NK at hs;split at hs
 ·rename_i q;split at hs
  ·simp only[Option.some.injEq]at hs;subst hs;rw[show DF (.agg (q.take off++cs++q.drop (off+cs.length)))=CY (q.take off++cs++q.drop (off+cs.length)) from rfl,LX];have D:∀y∈q,DF y=true:=(LX q).1 C;have A :=(LX cs).1 hc
   grind
  ·cases hs
 ·split at hs
  ·simp only[Option.some.injEq]at hs;subst hs;simpa[CY]using hc
  ·cases hs
theorem Zd2 {P:Program} {t:TypeId} {b o:Nat} {v:Value} {q:TypeInfo} {w w' : World} (z:P.info? t=some q) (hs:v.cells.size=q.size)
  (h:(storeCells ⟨b,o,none⟩ v.cells.toList).run P w = .ok () w'):(Instr.storeAt t (.pointer (some ⟨b,o,none⟩)) v).run P w = .ok () w' :=by
 simp[Instr.storeAt,Instr.sureAddr,storeVar,sizeOf,typeInfo,z,hs,h]
theorem ZDY {E B w0 σ H w} {P:Program} (hE:DV E) (hP:E.P=P) (h:Inv B w0 σ H w) {t:TypeId} {a x:V} {av xv:Value} {H' : Heap}
  (ha:AV σ w [a] [av]) (O:AV σ w [x] [xv]) (hs:NP E H t a x=some H') :
  ∃w' σ',(Instr.storeAt t av xv).run P w = .ok () w' /\ Inv B w0 σ' H' w' /\ Ext σ w σ' w' :=by
 unfold NP at hs;split at hs
 ·cases hs
 ·rename_i ti hti;obtain⟨inf,d,J,hd,h1,h2,h3,h4⟩:=Fg (hE.ti t ti hti);rw[hP]at J hd;split at hs
  ·rename_i id j off tot;split at hs
   ·rename_i b hb;obtain⟨b1,b2,b3⟩:=WR hb;split at hs
    ·rename_i y hy;split at hs
     ·rename_i hc;simp only[Bool.and_eq_true,beq_iff_eq,decide_eq_true_eq]at hc;obtain⟨⟨c1,c2⟩,c3⟩:=hc;have M:xv.cells.size=inf.size:=by rw[<- O.Ro c3,c1,h2]
      cases ha with
      | ptr g k1 k2 k3 k4 k5=>
       rename_i L';subst k4;split at hs
       ·
        split at hs
        ·rename_i x' hf;split at hs
         ·rename_i y1 hy1;obtain⟨Q,C,N⟩:∃Q,NK y off x'.cells=some Q /\ EU (E.rows b.elem) Q = y1:=by
           simp_all
          split at hs
          ·cases hs
          ·rename_i I;simp only[Option.some.injEq]at hs;subst hs;simp only[Bool.or_eq_true,Bool.not_eq_true',List.contains_eq_mem,decide_eq_true_eq,not_or,Bool.not_eq_false]at I;obtain⟨⟨n1,n2⟩,n3⟩:=I;obtain⟨hI,S⟩:=h.freeze (EH x);have hxr:=vN h O hf (EH x) (fun i J=>J);have hb' : (bump H (EH x))[id]? = some b:=by rw[Ld,b1];simp[n1]
           obtain⟨L,us,m⟩:=hI.meet hb' b2;have Y:L' = L:=by
            have:=m.box;simp only[Sg.freeze]at this;rw[k1]at this;cases this;rfl
           subst Y;obtain⟨n,c,hv⟩:=k3 (m.tot.trans b3);obtain⟨G,F⟩:=hxr.cells n2;obtain⟨w',A,D,q⟩:=Zgl (P:=P) hI m hv hy G F C (fun σ w v hq=>by rw[<- N];exact UR _ hq) n3 (fun z=>by rw[<- N,UQ];exact ZuT (m.I5 z _ (List.mem_of_getElem? hy)) (Zvt (uN h O hf)) C) c2;exact⟨w',_,Zd2 J M A,D,S.trans q⟩
         ·cases hs
        ·cases hs
       ·split at hs
        ·rename_i Q C;split at hs
         ·rename_i n3;simp only[Option.some.injEq]at hs;subst hs;obtain⟨L,us,m⟩:=h.meet b1 b2;have Y:L' = L:=by
           have:=m.box;rw[k1]at this;cases this;rfl
          subst Y;obtain⟨n,c,hv⟩:=k3 (m.tot.trans b3);obtain⟨G,F⟩:=O.cells c3;obtain⟨w',A,D,q⟩:=Zgl (P:=P) h m hv hy G F C (fun _ _ _ hq=>hq) n3 (fun z=>absurd z (by assumption)) c2;exact⟨w',_,Zd2 J M A,D,q⟩
         ·cases hs
        ·cases hs
     ·cases hs
    ·cases hs
   ·cases hs
  ·cases hs
theorem grownBy_refl (w:World) (row:Option Nat):w.grownBy w row:=⟨rfl,rfl,rfl,Nat.le_refl _,fun _ _ _=>rfl⟩
theorem Zfx {B w0 σ H w} (h:Inv B w0 σ H w) {k:Nat} (A:GH H k=true) {xs:List V} {us:List Value} {e n:Nat} (t:TypeId) (row:Bool) (F:AV σ w xs us) (C:row=true->∀x∈xs,DF x=true) (hk:∀x∈xs,okV x=true) (hs:∀u∈us,u.cells.size=e)
  (O:∀u∈flat us,u.oneCell' = true) (N:xs.length<=maxLen) :
  ∃σ',Inv B w0 σ' (place H k (CJ row false t e xs)) (w.alloc (.cells (flat us).toArray t))/\Ext σ w σ' (w.alloc (.cells (flat us).toArray t)) /\
   σ'.box k=some ⟨.slice (some ⟨w.heap.size,0,none⟩) xs.length xs.length,xs.length,e⟩:=by
 have q:us.length=xs.length:=F.length.symm;have D:(flat us).toArray.size=xs.length*e:=by simp[flat_length hs,q]
 have z:=GZ.of (World.ownsRow_lit (base:=B) (e:=t) (size:=e) w (flat us).toArray xs.length h.size N D);obtain⟨I,J⟩:=h.push (w.grownBy_alloc (.cells (flat us).toArray t) none) A (CJ row false t e xs) rfl ⟨.slice (some ⟨w.heap.size,0,none⟩) xs.length xs.length,xs.length,e⟩ (by simp[CJ])
  (fun g M=>by simp[Value.ownBlock]at M;omega) (fun G=>⟨rfl,⟨us,F.ext G,hs,O,by simpa[CJ]using z⟩,by simp[CJ],rfl,hk,C⟩)
 exact⟨_,I,J,by simp[Sg.put]⟩
theorem OD (u:Value):flat [u]=u.cells.toList:=by simp[flat]
theorem ZzK {P:Program} (w:World) (t:TypeId) (v:Value):(newVar t v).run P w = .ok ⟨w.heap.size,0,none⟩ (w.alloc (.cells v.cells t)):=by
 rfl
theorem Zfr {B w0 σ H w} {P:Program} (h:Inv B w0 σ H w) {k:Nat} (A:GH H k=true) {x:V} {u:Value} {e:Nat} (t:TypeId) (C:AV σ w [x] [u]) (hk:okV x=true) (hs:x.cells.length=e) :
  ∃w' σ',(newVar t u).run P w = .ok ⟨w.heap.size,0,none⟩ w' /\ Inv B w0 σ' (place H k (CJ false false t e [x])) w' /\ Ext σ w σ' w' /\ AV σ' w' [.ptr k 0 0 1] [.pointer (some ⟨w.heap.size,0,none⟩)]:=by
 have D:u.cells.size=e:=by rw[<- C.Ro hk];exact hs
 obtain⟨σ',q,z,F⟩:=Zfx (xs:=[x]) (us:=[u]) (e:=e) (n:=1) h A t false C (by simp) (by simpa using hk) (by simpa using D) (by rw[OD];exact(C.cells hk).2) (by simp[maxLen]);rw[OD]at q z;simp only[Array.toArray_toList]at q z;exact⟨_,σ',ZzK w t u,q,z,.ptr w.heap.size F (Nat.le_refl _) (fun _=>⟨_,_,rfl⟩) (by simp) .nil⟩
end Go.Proofs.YtjodhcdmhobmoaaGreatDoor.Le
