/- A part of it. -/
import Derived.WalkKit
import GoSem.ClaimData
import GoSem.ClaimKeys
import Derived.Below
import Derived.Deep.MidRow
import Derived.Laws.MakeOwn
import Derived.Laws.OwnMore
import Derived.Maps.Keyed
set_option linter.unusedVariables false
set_option linter.unusedSimpArgs false
namespace Go.Proofs.YtlabamnhpgoekaaGreatDoor.Le
inductive V where
 | lit (v:Value)
 | agg (cs:List V)
 | Aw (vs:List V)
 | sl (isNil:Bool) (e:Nat) (xs:List V)
 | BR (isNil:Bool) (e:Nat) (xs:List V)
 | Az (id off len tot:Nat)
 | ptr (id i off tot:Nat)
 | BK (e:Nat) (xs:List V) (i off:Nat)
 | fn (f:FuncId) (first caps:List V)
 | FD (t:TypeId) (v:V)
 | FI (kvs:List V)
 | no
 | und
 deriving Inhabited
def V.cells:V->List V
 | .agg cs=>cs
 | v=>[v]
def okV:V->Bool
 | .und | .no | .Aw _ | .FI _=>false
 | _=>true
mutual
def BQ:V->Bool
 | .Az _ _ _ _=>false
 | .ptr _ _ _ _=>false
 | .BK _ xs _ _=>BJ xs
 | .agg cs=>BJ cs
 | .Aw cs=>BJ cs
 | .sl _ _ xs=>BJ xs
 | .BR _ _ xs=>BJ xs
 | .fn _ a b=>BJ a&&BJ b
 | .FD _ v=>BQ v
 | .FI cs=>BJ cs
 | .lit _=>true
 | .no=>true
 | .und=>true
def BJ:List V->Bool
 | []=>true
 | x::xs=>BQ x&&BJ xs
end
def Dp (v:V):Bool:=okV v&&BQ v
structure Box where
 live:Bool
 row:Bool
 DZ:Bool
 elem:TypeId
 AZ:Nat
 xs:List V
 floor:Nat
 deriving Inhabited
abbrev Heap:=List Box
inductive Ty where
 | scalar
 | slice (elem:Nat)
 | array (len elem:Nat)
 | struct (fields:List (Nat×Nat))
 | map (key elem:Nat)
 | other
 deriving Inhabited,DecidableEq
structure TI where
 ty:Ty
 size:Nat
 bytes:Nat
 zero:Option V
 deriving Inhabited
def TI.isAgg (i:TI):Bool:=match i.ty with | .struct _ | .array _ _=>true|_=>false
def TI.QL (i:TI):Bool:=match i.zero with|some z=>okV z&&z.cells.length==i.size|none=>false
def leaf:Value->Bool
 | .int k n=>(Lit.int k n).wf
 | .bool _=>true
 | .string s=>decide (s.size<=maxLen)
 | .pointer none=>true
 | .map none=>true
 | .nilFunc=>true
 | .nilIface=>true
 | _=>false
def Lm:Value->V
 | .slice none 0 0=>.sl true 0 []
 | v=>if leaf v then .lit v else .und
def RS:Value->Bool
 | .slice none 0 0=>true
 | v=>leaf v
def NI:Value->V
 | .agg cs=>if cs.toList.all RS then .agg (cs.toList.map Lm) else .und
 | .tuple vs=>if vs.isEmpty then .no else .und
 | v=>if RS v then Lm v else .und
def Ce:V:=.no
def JM (d:TypeDesc):Ty:=
 match d with
 | .bool | .int _ | .string | .pointer _ | .func _ _ _ | .interface _=>.scalar
 | .slice e=>.slice e
 | .array n e=>.array n e
 | .struct fs=>.struct (fs.toList.map fun f=>(f.offset,f.type))
 | .map k e=>.map k e
 | _=>.other
def Ip (P:Program) (t:TypeId):Option TI:=
 match P.info? t,P.underlying t with
 | some i,some d=>some { ty:=JM d,size:=i.size,bytes:=i.bytes,zero:=i.zero.map NI }
 | _,_=>none
inductive FK where
 | b|i (k:IntKind)|s
 deriving DecidableEq
inductive Fk where
 | s (e:TypeId) (sz:Nat)
 | own (e:TypeId) (sz:Nat)
 | keep
 | drop
inductive Bf where
 | var (fl:List Fk)
 | row (fresh:Bool)
structure Ph where
 fa:List (List Fk)
 fb:List Bf
 run:List V->Heap->Option (V×Heap)
structure Env where
 P:Program
 ti:TypeId->Option TI
 func:FuncId->Option Func
 env:FuncId->Option (List V->Option V)
 Ci:Nat->Option (List V)
 pure:FuncId->Bool
 flat:TypeId->Option (List FK)
 kind:TypeId->Option IntKind
 isStr:TypeId->Bool
 isBool:TypeId->Bool
 isBytes:TypeId->Bool
 calm:FuncId->Nat->Bool
 rows:TypeId->List Nat
 par:FuncId->List TypeId
 own:FuncId->Option TypeId
 hm:FuncId->List FuncId->Option Ph
 quiet:Bool:=false
 maps:FuncId->Option (List (Int×FuncId)):=fun _=>none
structure St where
 s:List V
 H:Heap
inductive Ex where
 | normal|ret|exit (id:Nat)
def ev (E:Env) (s:List V):Operand->V
 | .tmp t=>s.getD t .und
 | .const v=>NI v
 | .func f=>.fn f [] []
 | .global g=>match E.Ci g with|some r=>.BK r.length [.agg r] 0 0|none=>.und
def Ig (v:V) (want:Bool):Option Bool:=
 match v with
 | .lit (.bool b)=>some (b==want)
 | .no=>some false
 | _=>none
def setSlot (s:List V) (d:Option Tmp) (v:V):List V:=match d with|some t=>s.set t v|none=>s
def CB (H:Heap) (id tot:Nat):Option Box:=
 match H[id]? with
 | some b=>if b.live&&b.xs.length==tot then some b else none
 | none=>none
def partOf (cs:List V) (off n:Nat) (isAgg:Bool):Option V:=
 if isAgg then (if off+n<=cs.length then some (.agg ((cs.drop off).take n)) else none) else cs[off]?
def Lh (xs:List V) (i off n:Nat) (isAgg:Bool):Option V:=
 match xs[i]? with
 | some x=>partOf x.cells off n isAgg
 | none=>none
def Ee (H:Heap):V->Option V
 | .lit v=>some (.lit v)
 | .sl b e xs=>some (.sl b e xs)
 | .BR b e xs=>some (.sl false e xs)
 | .Az id off len tot=>match CB H id tot with
  | some b=>if b.row&&decide (off+len<=tot) then some (.sl false b.AZ ((b.xs.drop off).take len)) else none
  | none=>none
 | .fn f [] []=>some (.fn f [] [])
 | .FD t (.lit v)=>some (.FD t (.lit v))
 | _=>none
def I4 (H:Heap):List V->Option (List V)
 | []=>some []
 | v::vs=>match Ee H v,I4 H vs with|some w,some ws=>some (w::ws)|_,_=>none
def Fp (H:Heap):V->Option V
 | .agg cs=>(I4 H cs).map .agg
 | v=>Ee H v
def EE (H:Heap):List V->Option (List V)
 | []=>some []
 | v::vs=>match Fp H v,EE H vs with|some w,some ws=>some (w::ws)|_,_=>none
def IB (H:Heap):V->Option V
 | .Aw vs=>(EE H vs).map .Aw
 | v=>Fp H v
def Fb (e:Nat):V->V
 | .sl true _ xs=>.sl false e xs
 | v=>v
def FQ:List Nat->List V->List V
 | e::es,v::vs=>Fb e v::FQ es vs
 | [],vs=>vs
 | _,[]=>[]
def DJ (es:List Nat):V->V
 | .agg cs=>.agg (FQ es cs)
 | v=>Fb (es.headD 0) v
def Eo (rows:TypeId->List Nat):List TypeId->List V->List V
 | t::ts,v::vs=>DJ (rows t) v::Eo rows ts vs
 | [],vs=>vs
 | _,[]=>[]
def P8:V->Bool | .ptr _ _ _ _=>true|_=>false
def Pm:V->V
 | .lit v=>.lit v
 | .sl b e []=>.sl b e []
 | _=>.und
def MG (H:Heap) (v:V):Option V:=
 match v with
 | .ptr id i off tot=>if i=0/\off=0 then (match CB H id tot with
   | some b=>(match b.row,b.xs with
    | false,[.agg cs]=>some (.BK b.AZ [.agg (cs.map Pm)] 0 0)
    | false,[.lit z]=>some (.BK b.AZ [.lit z] 0 0)
    | _,_=>none)
   | none=>none) else none
 | v=>Fp H v
def JE (H:Heap):List V->Option (List V)
 | []=>some []
 | v::vs=>match MG H v,JE H vs with|some w,some ws=>some (w::ws)|_,_=>none
def HY:V->Bool | .lit _=>true|_=>false
def Kw:V->Bool
 | .lit _=>true
 | .agg cs=>cs.all HY
 | .sl _ _ []=>true
 | _=>false
def OU:V->Bool
 | .Aw vs=>vs.all Kw
 | v=>Kw v
def Dn:V->List Nat
 | .Az id _ _ _=>[id]
 | _=>[]
def CV:V->List Nat
 | .agg cs=>cs.flatMap Dn
 | v=>Dn v
def MK:V->List Nat
 | .Aw vs=>vs.flatMap CV
 | v=>CV v
def bump (H:Heap):List Nat->Heap
 | []=>H
 | i::is=>bump (H.modify i fun b=>{ b with floor:=b.xs.length }) is
def place (H:Heap) (k:Nat) (b:Box):Heap:=if k<H.length then H.set k b else H++[b]
def EL (H:Heap) (k:Nat):Bool:=match H[k]? with|some b=>!b.live && !b.row|none=>k==H.length
def elemsOf (H:Heap):V->Option (List V)
 | .sl _ _ xs=>some xs
 | .BR _ _ xs=>some xs
 | .Az id off len tot=>match CB H id tot with
  | some b=>if b.row&&decide (off+len<=tot) then some ((b.xs.drop off).take len) else none
  | none=>none
 | .lit (.string s)=>some (s.data.toList.map fun c=>.lit (.int .u8 c.toNat))
 | _=>none
def Df (H:Heap) (x:V) (n:Nat):Bool:=
 match x with
 | .sl b e _=>b||e==n
 | .BR b e _=>b||e==n
 | .Az id _ _ tot=>match CB H id tot with|some b=>b.AZ==n|none=>false
 | _=>false
def lenOf (H:Heap):V->Option Nat
 | .sl _ _ xs=>some xs.length
 | .BR _ _ xs=>some xs.length
 | .Az id _ len tot=>match CB H id tot with|some _=>some len|none=>none
 | .lit (.string s)=>some s.size
 | _=>none
def intOf:V->Option Int | .lit (.int _ n)=>some n|_=>none
def Lr (op:BinOp) (k:IntKind) (a b:Int):Option Value:=
 match op with
 | .add=>some (.int k (k.wrap (a+b)))
 | .sub=>some (.int k (k.wrap (a - b)))
 | .mul=>some (.int k (k.wrap (a*b)))
 | .quo=>if b=0 then none else some (.int k (k.wrap (a.tdiv b)))
 | .rem=>if b=0 then none else some (.int k (a.tmod b))
 | .and | .or | .xor | .andNot=>some (.int k (bits op k a b))
 | .eql=>some (.bool (a==b))
 | .neq=>some (.bool (a != b))
 | .lss=>some (.bool (decide (a<b)))
 | .leq=>some (.bool (decide (a<=b)))
 | .gtr=>some (.bool (decide (a>b)))
 | .geq=>some (.bool (decide (a>=b)))
 | _=>none
def NP (op:BinOp) (k:IntKind) (a b:Int):Option Value:=
 if b<0 then none else
 match op with
 | .shl=>some (.int k (k.wrap (a*2 ^ min b.toNat k.bits)))
 | .shr=>some (.int k (a.fdiv (2 ^ min b.toNat k.bits)))
 | _=>none
def Rj (op:BinOp) (x y:ByteArray):Option Value:=
 match op with
 | .add=>if decide (x.size+y.size<=maxLen) then some (.string (x++y)) else none
 | .eql=>some (.bool (x.toList==y.toList))
 | .neq=>some (.bool !(x.toList==y.toList))
 | .lss=>some (.bool (Op.bytesLess x.toList y.toList))
 | .leq=>some (.bool (Op.bytesLess x.toList y.toList||x.toList==y.toList))
 | .gtr=>some (.bool !(Op.bytesLess x.toList y.toList||x.toList==y.toList))
 | .geq=>some (.bool !(Op.bytesLess x.toList y.toList))
 | _=>none
def Hm:List FK->List V->List V->Option Bool
 | [],[],[]=>some true
 | .b::ks,.lit (.bool a)::xs,.lit (.bool b)::ys=>match Hm ks xs ys with|some r=>some (a==b&&r)|none=>none
 | .i k::ks,.lit (.int k1 a)::xs,.lit (.int k2 b)::ys=>if k1=k/\k2=k then (match Hm ks xs ys with|some r=>some (a==b&&r)|none=>none) else none
 | .s::ks,.lit (.string a)::xs,.lit (.string b)::ys=>match Hm ks xs ys with|some r=>some (a==b&&r)|none=>none
 | _,_,_=>none
def UL (P:Program) (go:TypeId->Option (List FK)):Nat->List Field->Option (List FK)
 | _,[]=>some []
 | off,f::fs=>
  if f.offset=off/\f.name != "_" then
   match go f.type with
   | some ks=>if P.cellsOf f.type=ks.length then (match UL P go (off+ks.length) fs with|some rest=>some (ks++rest)|none=>none) else none
   | none=>none
  else none
def MM (P:Program):Nat->TypeId->Option (List FK)
 | 0,_=>none
 | d+1,t=>
  match P.underlying t with
  | some .bool=>some [.b]
  | some (.int k)=>some [.i k]
  | some .string=>some [.s]
  | some (.array n e)=>match MM P d e with
   | some ks=>if P.cellsOf e=ks.length/\P.cellsOf t=n*ks.length then some (List.replicate n ks).flatten else none
   | none=>none
  | some (.struct fs)=>match UL P (MM P d) 0 fs.toList with
   | some ks=>if P.cellsOf t=ks.length then some ks else none
   | none=>none
  | _=>none
def P9:V->Option Bool
 | .sl true _ _=>some true
 | .ptr _ _ _ _=>some false
 | .BK _ _ _ _=>some false
 | .fn _ _ _=>some false
 | .FD _ _=>some false
 | .lit (.pointer none)=>some true
 | .lit .nilFunc=>some true
 | .lit .nilIface=>some true
 | .lit (.map none)=>some true
 | _=>none
def Ry (E:Env) (t:TypeId):Bool:=match E.P.underlying t with|some (.pointer _)=>true|_=>false
def Ju (E:Env) (op:BinOp) (t:TypeId) (x y:V):Option V:=
 match op,x,y with
 | .shl,.lit (.int k a),.lit (.int _ b)=>(NP .shl k a b).map .lit
 | .shr,.lit (.int k a),.lit (.int _ b)=>(NP .shr k a b).map .lit
 | op,.lit (.int k a),.lit (.int j b)=>if k=j then (Lr op k a b).map .lit else none
 | op,.lit (.string a),.lit (.string b)=>(Rj op a b).map V.lit
 | .eql,.lit (.bool a),.lit (.bool b)=>if E.isBool t then some (.lit (.bool (a==b))) else none
 | .neq,.lit (.bool a),.lit (.bool b)=>if E.isBool t then some (.lit (.bool (!(a==b)))) else none
 | .eql,.agg xs,.agg ys=>match E.flat t with|some ks=>(Hm ks xs ys).map fun b=>V.lit (.bool b)|none=>none
 | .neq,.agg xs,.agg ys=>match E.flat t with|some ks=>(Hm ks xs ys).map fun b=>V.lit (.bool !b)|none=>none
 | .eql,.lit (.pointer none),.lit (.pointer none)=>if Ry E t then some (.lit (.bool true)) else none
 | .neq,.lit (.pointer none),.lit (.pointer none)=>if Ry E t then some (.lit (.bool false)) else none
 | .eql,.ptr _ _ _ _,.lit (.pointer none)=>if Ry E t then some (.lit (.bool false)) else none
 | .neq,.ptr _ _ _ _,.lit (.pointer none)=>if Ry E t then some (.lit (.bool true)) else none
 | _,_,_=>none
def VZ (op:UnOp) (x:V):Option V:=
 match op,x with
 | .neg,.lit (.int k n)=>some (.lit (.int k (k.wrap (0 - n))))
 | .xor,.lit (.int k n)=>some (.lit (.int k (bits .xor k (if k.signed then -1 else k.max) n)))
 | .not,.lit (.bool b)=>some (.lit (.bool !b))
 | _,_=>none
def MF (cs:List V):List (Nat×V)->(Nat->Option (Nat×Nat))->Option (List V)
 | [],_=>some cs
 | (i,v)::rest,place=>
  match place i with
  | none=>none
  | some (off,size)=>if v.cells.length==size&&decide (off+size<=cs.length)&&okV v then MF (cs.take off++v.cells++cs.drop (off+size)) rest place else none
def placesOf (E:Env) (fs:List (Nat×Nat)) (i:Nat):Option (Nat×Nat):=
 match fs[i]? with
 | some (off,t)=>match E.ti t with|some ti=>some (off,ti.size)|none=>none
 | none=>none
def Rh (E:Env) (t:TypeId) (parts:List (Nat×V)):Option V:=
 match E.ti t with
 | some i=>match i.zero with
  | some z=>
   if okV z then
    match i.ty with
    | .struct fs=>if fs.all fun x=>(E.ti x.2).isSome then (MF z.cells parts (placesOf E fs)).map .agg else none
    | .array _ e=>match E.ti e with
     | some ei=>(MF z.cells parts (fun i=>some (i*ei.size,ei.size))).map .agg
     | none=>none
    | _=>none
   else none
  | none=>none
 | none=>none
def Jo (xs:List V) (size:Nat):List (Nat×V)->Option (List V)
 | []=>some xs
 | (i,v)::rest=>if v.cells.length==size&&decide (i<xs.length)&&okV v then Jo (xs.set i v) size rest else none
abbrev CS:=FuncId->List V->Heap->Option (V×Heap)
def BH (row DZ:Bool) (elem:TypeId) (AZ:Nat) (xs:List V):Box:={ live:=true,row,DZ,elem,AZ,xs,floor:=0 }
def Env.size (E:Env) (t:TypeId):Option Nat:=(E.ti t).map (·.size)
def Jf (E:Env) (H:Heap) (t:TypeId) (a:V):Option V:=
 match E.ti t with
 | none=>none
 | some i=>
  match a with
  | .BK _ xs j off=>Lh xs j off i.size i.isAgg
  | .ptr id j off tot=>match CB H id tot with|some b=>Lh b.xs j off i.size i.isAgg|none=>none
  | _=>none
def JY (x:V) (off:Nat) (cs:List V):Option V:=
 match x with
 | .agg ds=>if off+cs.length<=ds.length then some (.agg (ds.take off++cs++ds.drop (off+cs.length))) else none
 | _=>match off,cs with|0,[c]=>some c|_,_=>none
def JZ (E:Env) (H:Heap) (t:TypeId) (a v:V):Option Heap:=
 match E.ti t with
 | none=>none
 | some i=>
  match a with
  | .ptr id j off tot=>match CB H id tot with
   | some b=>match b.xs[j]? with
    | some x=>
     if v.cells.length==i.size&&decide (b.floor<=j)&&okV v then
      (if b.row then
       match Fp H v with
       | some v' =>match (JY x off v'.cells).map (DJ (E.rows b.elem)) with
        | some x' =>if (CV v).contains id || !(okV v') || !(okV x') then none else some ((bump H (CV v)).set id { b with xs:=b.xs.set j x' })
        | none=>none
       | none=>none
       else match JY x off v.cells with
        | some x' =>if okV x' then some (H.set id { b with xs:=b.xs.set j x' }) else none
        | none=>none)
     else none
    | none=>none
   | none=>none
  | _=>none
def lim:Nat:=140737488355328
def Ib (E:Env) (k:Nat) (H:Heap) (t u:TypeId) (s x:V):Option (V×Heap):=
 match E.ti t with
 | some ⟨.slice e,_,_,_⟩=>
  match E.ti e,(u==t),elemsOf H x with
  | some ei,true,some ys=>
   if decide (0<ei.size)&&Df H x ei.size&&ei.QL then
    match s with
    | .Az id off len tot=>match CB H id tot with
     | some b=>
      if b.row&&b.elem==e&&decide (off=0)&&decide (len=tot)&&b.AZ==ei.size then
       (if decide ((tot+ys.length)*ei.bytes<=lim)&&decide (tot+ys.length<=maxLen) then
        some (.Az id 0 (tot+ys.length) (tot+ys.length),H.set id { b with xs:=b.xs++ys,DZ:=b.DZ&&ys.isEmpty })
        else none)
      else if b.row&&b.elem==e&&decide (off=0)&&b.AZ==ei.size&&decide (b.floor<=len)&&decide (len<tot)&&decide (len+ys.length<=tot) then
       some (.Az id 0 (len+ys.length) tot,H.set id { b with xs:=b.xs.take len++ys++b.xs.drop (len+ys.length) })
      else none
     | none=>none
    | .sl true _ [] | .BR true _ []=>
     (if decide (ys.length*ei.bytes<=lim)&&decide (ys.length<=maxLen) then
      some (.Az k 0 ys.length ys.length,place H k (BH true false e ei.size ys))
      else none)
    | .BR false es xs=>
     (if es==ei.size&&decide ((xs.length+ys.length)*ei.bytes<=lim)&&decide (xs.length+ys.length<=maxLen) then
      (if ys.isEmpty then some (.BR false es xs,H)
       else some (.Az k 0 (xs.length+ys.length) (xs.length+ys.length),place H k (BH true false e ei.size (xs++ys))))
      else none)
    | _=>none
   else none
  | _,_,_=>none
 | _=>none
def Jh (kd:IntKind) (n:Int):List V->Option (Option V)
 | []=>some none
 | .lit (.int k a)::v::r=>if k=kd then (if n=a then some (some v) else Jh kd n r) else none
 | _=>none
def Rl (E:Env) (t:TypeId) (ok:Bool) (m x:V):Option V:=
 match E.ti t,m,x with
 | some ⟨.map k e,_,_,_⟩,.FI kvs,.lit (.int kd n)=>
  if E.kind k=some kd then
   match Jh kd n kvs with
   | some (some v)=>some (if ok then .Aw [v,.lit (.bool true)] else v)
   | some none=>match E.ti e with
    | some ei=>ei.zero.map fun z=>if ok then .Aw [z,.lit (.bool false)] else z
    | none=>none
   | none=>none
  else none
 | _,_,_=>none
def Uy (E:Env) (H:Heap) (t u:TypeId) (d x:V):Option (V×Heap):=
 match E.ti t with
 | some ⟨.slice e,_,_,_⟩=>
  match E.ti e,elemsOf H x,d with
  | some ei,some ys,.Az id off len tot=>match CB H id tot with
   | some b=>
    if b.row&&decide (off=0)&&decide (len=tot)&&b.AZ==ei.size&&Df H x ei.size&&decide (b.floor=0) then
     some (.lit (.int .i64 (min ys.length tot:Nat)),H.set id { b with xs:=ys.take tot++b.xs.drop ys.length })
    else none
   | none=>none
  | _,_,_=>none
 | _=>none
def Gz (v:V) (hi:Nat):Option Nat:=
 match v with
 | .lit (.int _ n)=>if 0<=n/\n<=hi then some n.toNat else none
 | _=>none
def G7 (x:Option V) (hi dflt:Nat):Option Nat:=match x with|some v=>Gz v hi|none=>some dflt
def NC (E:Env) (H:Heap) (t:TypeId) (x:V):Bool:=
 match x with
 | .lit (.string _)=>E.isStr t
 | _=>match E.ti t with
  | some ⟨.slice e,_,_,_⟩=>match E.ti e with|some ei=>Df H x ei.size|none=>false
  | _=>false
def IQ (E:Env) (H:Heap) (t:TypeId) (x:V) (lo hi mx:Option V):Option (V×Heap):=
 if NC E H t x then
  match lenOf H x with
  | none=>none
  | some n=>
   match G7 hi n n with
   | none=>none
   | some h=>
    match G7 lo h 0 with
    | none=>none
    | some l=>
     match mx with
     | some m=>
      (match hi,Gz m n,elemsOf H x,x with
       | some _,some k,some xs,.sl b e _=>if k=h then some (.BR false e ((xs.drop l).take (h - l)),H) else none
       | some _,some k,some xs,.BR b e _=>if k=h then some (.BR false e ((xs.drop l).take (h - l)),H) else none
       | some _,some k,some xs,.Az id _ _ _=>if k=h then some (.BR false ((H.getD id default).AZ) ((xs.drop l).take (h - l)),bump H [id]) else none
       | _,_,_,_=>none)
     | none=>
      match x with
      | .lit (.string s)=>some (.lit (.string (s.extract l h)),H)
      | .sl b e xs=>some (.sl b e ((xs.drop l).take (h - l)),H)
      | .BR b e xs=>some (.sl b e ((xs.drop l).take (h - l)),H)
      | .Az id off _ tot=>some (.Az id (off+l) (h - l) tot,H)
      | _=>none
 else none
def Ll (E:Env) (H:Heap) (n:Nat) (e:TypeId) (x:V) (lo hi mx:Option V):Option (V×Heap):=
 match x,lo,G7 hi n n,mx with
 | .ptr id i off tot,none,some m,none=>match CB H id tot with
  | some b=>(match b.row,b.xs with
   | false,[.agg cs]=>if i=0/\off=0/\cs.length=n/\n<=maxLen/\E.size e=some 1/\cs.all HY=true then some (.sl false 1 (cs.take m),bump H [id]) else none
   | _,_=>none)
  | none=>none
 | _,_,_,_=>none
def SS (E:Env) (t:TypeId) (x:V):Option V:=
 match E.ti t,x with
 | some ⟨.array n e,_,_,_⟩,.sl false sz xs=>if E.size e=some 1/\sz=1/\0<n/\n<=xs.length/\(xs.take n).all HY=true then some (.BK n [.agg (xs.take n)] 0 0) else none
 | _,_=>none
def MX (E:Env) (H:Heap) (t:TypeId) (x i:V):Option V:=
 match i,E.ti t with
 | .lit (.int _ n),some ti=>
  match ti.ty,x with
  | .slice el,.sl _ e xs=>if 0<=n/\n<xs.length/\E.size el=some e then some (.BK e xs n.toNat 0) else none
  | .slice el,.BR _ e xs=>if 0<=n/\n<xs.length/\E.size el=some e then some (.BK e xs n.toNat 0) else none
  | .slice el,.Az id off len tot=>match CB H id tot with
   | some b=>if 0<=n/\n<len/\E.size el=some b.AZ then some (.ptr id (off+n.toNat) 0 tot) else none
   | none=>none
  | .array len e,.ptr id j off tot=>match E.size e with
   | some sz=>if 0<=n/\n<len then some (.ptr id j (off+n.toNat*sz) tot) else none
   | none=>none
  | .array len e,.BK d xs j off=>match E.size e with
   | some sz=>if 0<=n/\n<len then some (.BK d xs j (off+n.toNat*sz)) else none
   | none=>none
  | _,_=>none
 | _,_=>none
def Qe (E:Env) (s:TypeId) (x:V) (f:Nat):Option V:=
 match E.ti s with
 | some ⟨.struct fs,_,_,_⟩=>match fs[f]? with
  | some (o,t)=>match E.size t with
   | some sz=>if sz=0 then none else match x with
    | .ptr id j off tot=>some (.ptr id j (off+o) tot)
    | .BK d xs j off=>some (.BK d xs j (off+o))
    | _=>none
   | none=>none
  | none=>none
 | _=>none
def RN (E:Env) (s:TypeId) (x:V) (f:Nat):Option V:=
 match E.ti s,x with
 | some ⟨.struct fs,_,_,_⟩,.agg cs=>match fs[f]? with
  | some (o,t)=>match E.ti t with|some i=>partOf cs o i.size i.isAgg|none=>none
  | none=>none
 | _,_=>none
def RH (E:Env) (t:TypeId) (x i:V):Option V:=
 match i with
 | .lit (.int _ n)=>
  match E.ti t,x with
  | some ⟨.array len e,_,_,_⟩,.agg cs=>match E.ti e with
   | some ei=>if 0<=n/\n<len then partOf cs (n.toNat*ei.size) ei.size ei.isAgg else none
   | none=>none
  | some ⟨.scalar,_,_,_⟩,.lit (.string s)=>if E.isStr t then (if 0<=n then (s[n.toNat]?).map fun b=>V.lit (.int .u8 b.toNat) else none) else none
  | _,_=>none
 | _=>none
def byteOf:V->Option UInt8
 | .lit (.int .u8 n)=>some (UInt8.ofNat n.toNat)
 | _=>none
def bytesOf:List V->Option (List UInt8)
 | []=>some []
 | v::vs=>match byteOf v,bytesOf vs with|some b,some bs=>some (b::bs)|_,_=>none
def Gf (E:Env) (H:Heap) (src dst:TypeId) (x:V):Option (V×Heap):=
 match x with
 | .lit (.int _ n)=>match E.kind dst with
  | some k=>if (E.ti src).isSome then some (.lit (.int k (k.wrap n)),H) else none
  | none=>none
 | .lit (.string s)=>if E.isStr src&&E.isStr dst then some (.lit (.string s),H) else none
 | x=>if E.isStr dst&&E.isBytes src&&Df H x 1 then
   match elemsOf H x with
   | some xs=>match bytesOf xs with|some bs=>if bs.length<=maxLen then some (.lit (.string ⟨bs.toArray⟩),H) else none|none=>none
   | none=>none
  else none
def bytesV (st:ByteArray):List V:=st.data.toList.map fun c=>.lit (.int .u8 c.toNat)
def Jn (E:Env) (k:Nat) (H:Heap) (dst:TypeId) (x:V):Option (V×Heap):=
 match x,E.ti dst with
 | .lit (.string st),some ⟨.slice e,_,_,_⟩=>if E.size e=some 1 then some (.Az k 0 st.size st.size,place H k (BH true false e 1 (bytesV st))) else none
 | _,_=>none
def mm (isMax:Bool) (k:IntKind):Int->List V->Option V
 | a,[]=>some (.lit (.int k a))
 | a,.lit (.int j b)::rest=>if k=j then mm isMax k (if isMax then (if b>a then b else a) else (if b<a then b else a)) rest else none
 | _,_=>none
def NU (isMax:Bool):List V->Option V
 | .lit (.int k a)::rest=>mm isMax k a rest
 | _=>none
def evs (E:Env) (s:List V) (xs:Array Operand):List V:=xs.toList.map (ev E s)
def Xh (E:Env) (t:TypeId) (x:V):Bool:=
 match x with
 | .lit (.string s)=>E.isStr t
 | _=>match E.ti t with|some ⟨.slice _,_,_,_⟩=>true|_=>false
def LZ (E:Env) (k:Nat) (H:Heap) (s:List V) (b:Builtin) (args:List V) (tys:List TypeId):Option (V×Heap):=
 match b,args,tys with
 | .len,[x],[t]=>if Xh E t x then (lenOf H x).map fun n=>(V.lit (.int .i64 n),H) else none
 | .append,[a,x],[t,u]=>Ib E k H t u a x
 | .copy,[d,x],[t,u]=>Uy E H t u d x
 | .min,args,_=>(NU false args).map (·,H)
 | .max,args,_=>(NU true args).map (·,H)
 | _,_,_=>none
def MV (E:Env) (k:Nat) (H:Heap) (t:TypeId) (n:Nat) (parts:List (Nat×V)):Option (V×Heap):=
 match E.ti t with
 | some ⟨.slice e,_,_,_⟩=>match E.ti e with
  | some ei=>match ei.zero,EE H (parts.map (·.2)) with
   | some z,some vs=>
    if n*ei.size<=16777216/\0<ei.size/\z.cells.length=ei.size/\okV z=true/\(n==0 && !parts.isEmpty)=false then
     match Jo (List.replicate n (DJ (E.rows e) z)) ei.size ((parts.map (·.1)).zip (vs.map (DJ (E.rows e)))) with
     | some xs=>some (.Az k 0 n n,place (bump H ((parts.map (·.2)).flatMap CV)) k (BH true false e ei.size xs))
     | none=>none
    else none
   | _,_=>none
  | none=>none
 | _=>none
def Ak (call:CS) (E:Env) (k:Nat) (H:Heap) (s:List V) (o:Oper):Option (V×Heap):=
 match o.op with
 | .move x=>some (ev E s x,H)
 | .assign (.const (.slice none 0 0))=>match E.ti o.type with
  | some ⟨.slice e,_,_,_⟩=>some (.Az k 0 0 0,place H k (BH true false e ((E.size e).getD 0) []))
  | _=>none
 | .assign x=>some (ev E s x,H)
 | .pick c a b=>match ev E s c with | .lit (.bool t)=>some (if t then ev E s a else ev E s b,H)|_=>none
 | .alloc t=>match E.ti t with
  | some i=>match i.zero with|some z=>if z.cells.length=i.size/\okV z=true then some (.ptr k 0 0 1,place H k (BH false false t i.size [z])) else none|none=>none
  | none=>none
 | .box t x=>match E.ti t with
  | some i=>if (ev E s x).cells.length=i.size/\okV (ev E s x)=true then some (.ptr k 0 0 1,place H k (BH false false t i.size [ev E s x])) else none
  | none=>none
 | .build t parts=>(Rh E t (parts.toList.map fun(i,x)=>(i,ev E s x))).map (·,H)
 | .buildSlice t n parts=>MV E k H t n (parts.toList.map fun(i,x)=>(i,ev E s x))
 | .load t a=>(Jf E H t (ev E s a)).map (·,H)
 | .store t a v=>(JZ E H t (ev E s a) (ev E s v)).map (Ce,·)
 | .nilCheck x=>match P9 (ev E s x) with|some false=>some (ev E s x,H)|_=>none
 | .binOp op t x y _=>(Ju E op t (ev E s x) (ev E s y)).map (·,H)
 | .unOp op _ x=>(VZ op (ev E s x)).map (·,H)
 | .convert src dst x=>if E.isStr src&&E.isBytes dst then Jn E k H dst (ev E s x) else Gf E H src dst (ev E s x)
 | .makeSlice t l c=>match E.ti t,ev E s l,ev E s c with
  | some ⟨.slice e,_,_,_⟩,.lit (.int _ n),.lit (.int _ m)=>match E.ti e with
   | some ei=>match ei.zero with
    | some z=>if 0<=n/\n<=m/\m.toNat*ei.bytes<=lim/\m<=maxLen/\0<ei.size/\z.cells.length=ei.size/\okV z=true then
      some (.Az k 0 n.toNat n.toNat,place H k (BH true false e ei.size (List.replicate n.toNat (DJ (E.rows e) z)))) else none
    | none=>none
   | none=>none
  | _,_,_=>none
 | .slice t x lo hi mx=>match E.ti t with
  | some ⟨.array n e,_,_,_⟩=>Ll E H n e (ev E s x) (lo.map (ev E s)) (hi.map (ev E s)) (mx.map (ev E s))
  | _=>IQ E H t (ev E s x) (lo.map (ev E s)) (hi.map (ev E s)) (mx.map (ev E s))
 | .sliceToArrayPointer t x=>(SS E t (ev E s x)).map (·,H)
 | .fieldAddr t x f=>(Qe E t (ev E s x) f).map (·,H)
 | .field t x f=>(RN E t (ev E s x) f).map (·,H)
 | .indexAddr t x i=>(MX E H t (ev E s x) (ev E s i)).map (·,H)
 | .index t x i=>(RH E t (ev E s x) (ev E s i)).map (·,H)
 | .extract x i=>match ev E s x with | .Aw vs=>(vs[i]?).map (·,H)|_=>none
 | .lookup t m x ok=>(Rl E t ok (ev E s m) (ev E s x)).map (·,H)
 | .makeFunc (.func f) first caps=>some (.fn f (evs E s first) (evs E s caps),H)
 | .call c=>match c.callee with
  | .builtin b=>LZ E k H s b (evs E s c.args) c.argTypes.toList
  | .value f=>match ev E s f with
   | .fn g first caps=>call g (first++evs E s c.args++caps) H
   | _=>none
  | _=>none
 | _=>none
def DW (call:CS) (E:Env) (ops:Array Oper) (k:Nat) (o:Oper) (st:St):Option (V×Heap):=
 match o.guard with
 | none=>Ak call E k st.H st.s o
 | some (j,want)=>
  match (ops[j]?).bind (·.dst) with
  | none=>none
  | some d=>match Ig (st.s.getD d .und) want with
   | none=>none
   | some false=>some (Ce,st.H)
   | some true=>Ak call E k st.H st.s o
def Ic (call:CS) (E:Env) (ops:Array Oper) (k:Nat) (i:Nat) (st:St):Option St:=
 match ops[i]? with
 | none=>some st
 | some o=>match DW call E ops k o st with
  | some (v,H)=>some ⟨setSlot st.s o.dst v,H⟩
  | none=>none
def stepD (call:CS) (E:Env) (ops:Array Oper) (i:Nat) (st:St):Option St:=Ic call E ops st.H.length i st
def Js (call:CS) (E:Env) (ops:Array Oper):List Nat->St->Option St
 | [],st=>some st
 | i::rest,st=>match stepD call E ops i st with
  | some st' =>Js call E ops rest st'
  | none=>none
def Cj:V->List Nat
 | .Az id _ _ _=>[id]
 | .ptr id _ _ _=>[id]
 | _=>[]
def Us:V->List Nat
 | .agg cs=>cs.flatMap Cj
 | v=>Cj v
def Ba:V->List Nat
 | .agg cs=>cs.flatMap Cj
 | .fn _ a b=>(a++b).flatMap Us
 | v=>Cj v
def YW:V->Bool | .fn _ _ _=>true|_=>false
def Ob (E:Env) (f:FuncId):Bool:=(E.pure f||(E.env f).isSome||(E.maps f).isSome)&&(E.own f).isNone
def mkV (l:List (Int×FuncId)) (x:V):V:=.FI (l.flatMap fun q=>[.lit (.int .i64 q.1),.fn q.2 [x] []])
def YH (E:Env):V->Bool
 | .fn g a b=>Ob E g&&(a++b).all (fun v=>!YW v)
 | _=>false
def quietAt (E:Env) (s:List V) (o:Oper):Bool:=
 match o.op with
 | .call c=>(match c.callee with
  | .value (.tmp t)=>!(E.quiet&&o.type != 0)||YH E (s.getD t .und)
  | _=>true)
 | _=>true
def CY (E:Env) (s:List V) (o:Oper):List Nat:=o.op.operands.toList.flatMap fun x=>Ba (ev E s x)
inductive Cls where
 | s|n|f|a|c|w
 deriving DecidableEq
def O1 (E:Env) (f:FuncId):Bool:=(E.maps f).isNone&&(E.env f).isNone && !E.pure f&&(match E.hm f [] with|some hs=>hs.fb.isEmpty|none=>false)
def Bf.isRow:Bf->Bool | .row _=>true|_=>false
def MJ (E:Env) (f:FuncId):Bool:=(E.maps f).isNone&&(E.env f).isNone && !E.pure f&&(match E.hm f [] with|some hs=>hs.fb.all Bf.isRow|none=>false)
def BF (E:Env) (o:Oper):Cls:=
 match o.op with
 | .move _ | .pick .. | .build .. | .binOp .. | .unOp .. | .field .. | .fieldAddr .. | .extract .. | .lookup .. | .makeFunc .. | .index .. | .nilCheck _ | .sliceToArrayPointer ..=>.s
 | .assign (.const (.slice none 0 0))=>.a
 | .assign _=>.s
 | .load .. | .indexAddr ..=>.n
 | .convert src dst _=>if E.isStr src&&E.isBytes dst then .a else .n
 | .slice ..=>.n
 | .alloc _ | .box .. | .buildSlice .. | .makeSlice ..=>.a
 | .call c=>match c.callee with
  | .builtin .len=>.n
  | .builtin .min=>.s
  | .builtin .max=>.s
  | .value (.func f)=>if Ob E f then .f else if O1 E f then .c else .w
  | .value (.tmp _)=>if E.quiet&&o.type != 0 then .f else .w
  | _=>.w
 | _=>.w
def Fj (E:Env) (o:Oper):Bool:=match o.op with
 | .call c=>(match c.callee with | .value (.func f)=>!Ob E f&&(!O1 E f&&MJ E f)|_=>false)
 | _=>false
def MI (o:Oper):Bool:=match o.op with | .alloc _=>true|_=>false
def H9 (o:Oper):Bool:=match o.op with | .load ..=>true|_=>false
def isApp (o:Oper):Bool:=match o.op with | .call c=>(match c.callee with | .builtin .append=>true|_=>false)|_=>false
def GM (E:Env) (o:Oper):Bool:=decide (BF E o = .c)||Fj E o
def qX:Cls->Cls->Bool
 | .w,.s=>true
 | .s,.w=>true
 | .w,_=>false
 | _,.w=>false
 | .c,.c=>false
 | _,_=>true
def RJ (acc:List Nat) (o:Oper):Nat:=
 o.after.toList.foldl (fun m e=>if Region.binds .any e then m ||| (1 <<< e.on) ||| acc.getD e.on 0 else m) 0
def Ec:List Nat->List Oper->List Nat
 | acc,[]=>acc
 | acc,o::os=>Ec (acc++[RJ acc o]) os
def UY (E:Env) (ops:Array Oper) (x y:Oper):Bool:=(qX (BF E x) (BF E y)||(Fj E x&&MI y||Fj E y&&MI x)||(isApp x&&H9 y||isApp y&&H9 x))&&x.apart ops y
def I9 (o:Oper):Option Operand:=
 match o.op with
 | .store _ a _=>some a
 | .call c=>(match c.callee,c.args.toList with
  | .builtin .append,[a,_]=>some a
  | _,_=>none)
 | _=>none
def Zk6 (ops:Array Oper) (d:Tmp):Option Nat:=(List.range ops.size).find? fun j=>match ops[j]? with|some oj=>oj.dst==some d|none=>false
def rootOf (E:Env) (ops:Array Oper):Nat->Tmp->Option (Nat⊕Nat)
 | 0,_=>none
 | n+1,d=>match Zk6 ops d with
  | none=>some (.inr d)
  | some j=>match ops[j]? with
   | none=>none
   | some oj=>if BF E oj = .a then some (.inl j) else match oj.op with
    | .fieldAddr _ (.tmp e) _=>rootOf E ops n e
    | .nilCheck (.tmp e)=>rootOf E ops n e
    | .move (.tmp e)=>rootOf E ops n e
    | .indexAddr _ (.tmp e) _=>rootOf E ops n e
    | .call _=>(match I9 oj with|some (.tmp e)=>rootOf E ops n e|_=>none)
    | _=>none
def Pe (E:Env) (ops:Array Oper) (o:Oper):Option (Nat⊕Nat):=
 match o.guard,I9 o with
 | none,some (.tmp d)=>rootOf E ops 12 d
 | _,_=>none
def needs (E:Env) (o:Oper):Bool:=match BF E o with | .n=>true | .f=>true | .a=>true | .c=>true|_=>false
def linked (ms:List Nat) (x y:Nat):Bool:=(ms.getD x 0).testBit y||(ms.getD y 0).testBit x
def Nc (E:Env) (ops:Array Oper):List (Nat×(Nat⊕Nat)):=
 let ms:=Ec [] ops.toList
 (List.range ops.size).filterMap fun x=>match ops[x]? with
  | some ox=>(match Pe E ops ox with
   | some t=>if (List.range ops.size).any (fun y=>!linked ms x y&&(match ops[y]? with|some oy=>needs E oy|none=>false)) then some (x,t) else none
   | none=>none)
  | none=>none
def Na (base:Nat) (s0:List V):Nat⊕Nat->Option Nat
 | .inl j=>some (base+j)
 | .inr d=>match s0.getD d .und with | .ptr id _ _ _=>some id | .Az id _ _ _=>some id|_=>none
def addrOf (E:Env) (s:List V) (o:Oper):V:=match I9 o with|some a=>ev E s a|_=>.no
def S9 (E:Env) (ops:Array Oper) (base:Nat) (s0:List V) (o:Oper):Option Nat:=match o.op with
 | .load _ (.tmp d)=>(rootOf E ops 12 d).bind (Na base s0)
 | _=>none
def JK (E:Env) (ops:Array Oper) (ms:List Nat) (lt:List (Nat×(Nat⊕Nat))) (s0:List V) (base i:Nat) (s:List V) (o:Oper):Bool:=
 (List.range ops.size).all fun j=>match ops[j]? with
  | none=>true
  | some oj=>linked ms i j||((!(isApp o&&H9 oj)||(lt.any (fun p=>p.1==i)||(match S9 E ops base s0 oj,addrOf E s o with|some n,.Az id _ _ _=>id != n|_,_=>false))) &&
    (!(H9 o&&isApp oj)||(lt.any (fun p=>p.1==j)||(match S9 E ops base s0 o with|some n=>(CY E s o).all (fun i=>i==n)|none=>false))))
def Ld (H:Heap) (a:V) (k:Nat):Bool:=match a with
 | .ptr id _ _ tot=>id==k&&(match CB H id tot with|some b=>!b.row|none=>false)
 | .Az id _ _ _=>id==k&&(match H[id]? with|some b=>b.row|none=>false)
 | _=>false
def Eu (E:Env) (ms:List Nat) (lt:List (Nat×(Nat⊕Nat))) (s0:List V) (base i:Nat) (s:List V) (H:Heap) (o:Oper):Bool:=
 lt.all fun p=>match Na base s0 p.2 with
  | none=>false
  | some k=>if p.1=i then Ld H (addrOf E s o) k else !needs E o||(linked ms p.1 i || !(CY E s o).contains k)
def IM (E:Env) (ops:Array Oper) (lt:List (Nat×(Nat⊕Nat))) (x:Nat) (ox oy:Oper):Bool:=
 ox.apart ops oy&&(needs E oy&&lt.any fun p=>p.1==x)
def YE (E:Env) (ops:Array Oper):Bool:=
 let ms:=Ec [] ops.toList
 (List.range ops.size).all fun y=>match ops[y]? with
  | some oy=>oy.after.all (fun e=>!Region.binds .any e||decide (e.on<y)) &&
   (List.range y).all fun x=>(ms.getD y 0).testBit x||(match ops[x]? with|some ox=>UY E ops ox oy||(IM E ops (Nc E ops) x ox oy||IM E ops (Nc E ops) y oy ox)|none=>true)
  | none=>true
def DD (E:Env) (f:FuncId):Code->Bool
 | .region id ops true=>!E.calm f id||YE E ops
 | .seq a b=>DD E f a&&DD E f b
 | .cond _ a b=>DD E f a&&DD E f b
 | .block _ b=>DD E f b
 | .loop b=>DD E f b
 | .scope b=>DD E f b
 | _=>true
def Qz:Box:={ live:=false,row:=true,DZ:=false,elem:=0,AZ:=0,xs:=[],floor:=0 }
def NQ:Box:={ live:=false,row:=false,DZ:=false,elem:=0,AZ:=0,xs:=[],floor:=0 }
def RZ (E:Env) (ops:Array Oper) (ms:List Nat) (i:Nat):Bool:=
 (List.range ops.size).all fun j=>j==i||(linked ms i j||(match ops[j]? with|some oj=>!decide (BF E oj = .c)|none=>true))
def Jy (ops:Array Oper) (base:Nat) (H:Heap):Bool:=
 (List.range ops.size).all fun j=>match ops[j]? with|some oj=>!MI oj||(match H[base+j]? with|some b=>!b.row|none=>false)|none=>true
def GL (call:CS) (E:Env) (ops:Array Oper) (ms:List Nat) (lt:List (Nat×(Nat⊕Nat))) (s0:List V) (base m:Nat) (i:Nat) (st:St):Option St:=
 match ops[i]? with
 | none=>some st
 | some o=>
  if ((CY E st.s o).all fun id=>decide (id<base)||(decide (base+m<=id)&&RZ E ops ms i)||(decide (id<base+m)&&(ms.getD i 0).testBit (id - base)))&&(quietAt E st.s o&&JK E ops ms lt s0 base i st.s o)&&(Eu E ms lt s0 base i st.s st.H o&&(!GM E o||(decide (base+m<=st.H.length)&&(!Fj E o||Jy ops base st.H)))) then
   (if BF E o = .a then
    match st.H[base+i]? with
    | some b=>if b.live||b.row then none else Ic call E ops (base+i) i st
    | none=>none
    else Ic call E ops st.H.length i st)
  else none
def J4 (call:CS) (E:Env) (ops:Array Oper) (ms:List Nat) (lt:List (Nat×(Nat⊕Nat))) (s0:List V) (base m:Nat):List Nat->St->Option St
 | [],st=>some st
 | i::rest,st=>match GL call E ops ms lt s0 base m i st with
  | some st' =>J4 call E ops ms lt s0 base m rest st'
  | none=>none
def Po (call:CS) (E:Env) (ops:Array Oper) (st:St):Option St:=
 let m:=if ops.any (fun o=>decide (BF E o = .a)) then ops.size else 0
 J4 call E ops (Ec [] ops.toList) (Nc E ops) st.s st.H.length m (List.range ops.size) ⟨st.s,st.H++List.replicate m NQ⟩
def Em (call:CS) (lp:Code->St->Option (Ex×St)) (E:Env) (f:FuncId):Code->St->Option (Ex×St)
 | .skip,st=>some (.normal,st)
 | .region _ ops false,st=>(Js call E ops (List.range ops.size) st).map (.normal,·)
 | .region id ops true,st=>if E.calm f id then (Po call E ops st).map (.normal,·) else none
 | .seq a b,st=>match Em call lp E f a st with
  | some (.normal,st')=>Em call lp E f b st'
  | r=>r
 | .cond c a b,st=>match ev E st.s c with
  | .lit (.bool t)=>if t then Em call lp E f a st else Em call lp E f b st
  | _=>none
 | .block id b,st=>match Em call lp E f b st with
  | some (.exit i,st')=>if i=id then some (.normal,st') else some (.exit i,st')
  | r=>r
 | .loop b,st=>lp b st
 | .scope b,st=>Em call lp E f b st
 | .label _,st=>some (.normal,st)
 | .exit id,st=>some (.exit id,st)
 | .ret,st=>some (.ret,st)
 | _,_=>none
def Pj (call:CS) (E:Env) (f:FuncId):Nat->Code->St->Option (Ex×St)
 | 0,_,_=>none
 | n+1,b,st=>match Em call (Pj call E f n) E f b st with
  | some (.normal,st')=>Pj call E f n b st'
  | r=>r
def resD (E:Env) (H:Heap) (s:List V):ResultVar->Option V
 | .tmp t=>some (s.getD t .und)
 | .cell a t=>Jf E H t (s.getD a .und)
def JD (E:Env) (H:Heap) (s:List V) (rs:List ResultVar):Option V:=
 match rs.mapM (resD E H s) with
 | some [v]=>some v
 | some vs=>some (.Aw vs)
 | none=>none
def Kt (call:CS) (n:Nat) (E:Env) (f:FuncId) (fn:Func) (args:List V) (H:Heap):Option (V×Heap):=
 match fn.body with
 | none=>none
 | some c=>match Em call (Pj call E f n) E f c ⟨args++List.replicate (fn.ntmps - args.length) Ce,H⟩ with
  | some (.normal,st)|some (.ret,st)=>(JD E st.H st.s fn.results.toList).map (·,st.H)
  | _=>none
mutual
def DU:V->List Nat
 | .Az id _ _ _=>[id]
 | .ptr id _ _ _=>[id]
 | .agg cs=>CJ cs
 | .Aw cs=>CJ cs
 | .fn _ a b=>CJ a++CJ b
 | .FD _ v=>DU v
 | .FI cs=>CJ cs
 | _=>[]
def CJ:List V->List Nat
 | []=>[]
 | x::xs=>DU x++CJ xs
end
mutual
def Du (ρ:Nat->Nat):V->V
 | .Az id off len tot=>.Az (ρ id) off len tot
 | .ptr id i off tot=>.ptr (ρ id) i off tot
 | .agg cs=>.agg (Eh ρ cs)
 | .Aw cs=>.Aw (Eh ρ cs)
 | .fn f a b=>.fn f (Eh ρ a) (Eh ρ b)
 | .FD t v=>.FD t (Du ρ v)
 | .FI cs=>.FI (Eh ρ cs)
 | v=>v
def Eh (ρ:Nat->Nat):List V->List V
 | []=>[]
 | x::xs=>Du ρ x::Eh ρ xs
end
def Rt (e:TypeId) (sz:Nat) (H:Heap) (x:V):Option (V×Heap):=
 match x with
 | .sl true _ []=>some (.Az H.length 0 0 0,H++[BH true false e sz []])
 | .BR true _ []=>some (.Az H.length 0 0 0,H++[BH true false e sz []])
 | .Az id off len tot=>if off=0/\len=tot then some (.Az id off len tot,H) else none
 | _=>none
def EW:Fk->Heap->V->Option (V×Heap)
 | .s _ sz,H,x=>(Ee H x).map fun y=>(Fb sz y,bump H (Dn x))
 | .own e sz,H,x=>Rt e sz H x
 | .keep,H,x=>some (x,H)
 | .drop,H,_=>some (.und,H)
def ER:List Fk->Heap->List V->Option (List V×Heap)
 | [],H,[]=>some ([],H)
 | f::fs,H,x::xs=>match EW f H x with
  | some (y,H1)=>match ER fs H1 xs with
   | some (ys,H2)=>some (y::ys,H2)
   | none=>none
  | none=>none
 | _,_,_=>none
def Gg (fl:List Fk) (H:Heap) (x:V):Option (V×Heap):=
 match x with
 | .agg cs=>(ER fl H cs).map fun r=>(.agg r.1,r.2)
 | x=>match fl with
  | [f]=>EW f H x
  | _=>none
def EU:List (List Fk)->Heap->List V->Option (List V×Heap)
 | [],H,[]=>some ([],H)
 | f::fs,H,x::xs=>match Gg f H x with
  | some (y,H1)=>match EU fs H1 xs with
   | some (ys,H2)=>some (y::ys,H2)
   | none=>none
  | none=>none
 | _,_,_=>none
def GK:Nat->List Bf->Heap->List Nat->List Nat->Option (Heap×List Nat)
 | 0,_,_,_,_=>none
 | _+1,_,H,[],seen=>some (H,seen)
 | n+1,fb,H,id::todo,seen=>
  if seen.contains id then GK n fb H todo seen else
  match H[id]?,fb with
  | some b,.row fresh::fb' =>if b.live&&b.row then GK n fb' (if fresh then H else bump H [id]) todo (seen++[id]) else none
  | some b,.var fl::fb' =>if b.live && !b.row then
    (match b.xs with
     | [x]=>match Gg fl H x with
      | some (y,H1)=>(match H1[id]? with
       | some b1=>if okV y then GK n fb' (H1.set id { b1 with xs:=[y] }) (todo++DU y) (seen++[id]) else none
       | none=>none)
      | none=>none
     | _=>none)
    else none
  | _,_=>none
def EF (ρ:Nat->Nat) (b:Box):Box:=if b.row then b else { b with xs:=Eh ρ b.xs }
def FW (H:Heap) (ids:List Nat):Heap:=ids.map fun id=>EF (ids.idxOf ·) ((H[id]?).getD NQ)
def pack (fa:List (List Fk)) (fb:List Bf) (k:Nat) (args:List V) (H:Heap):Option (List Nat×List V×Heap):=
 match EU fa H args with
 | some (as,H1)=>match GK 1000 fb H1 (List.range k++CJ as) [] with
  | some (H2,ids)=>some (ids,as,H2)
  | none=>none
 | none=>none
def Hw (ids:List Nat) (n j:Nat):Nat:=if j<ids.length then ids.getD j 0 else n+(j - ids.length)
def Iq:Heap->List Nat->Heap->Heap
 | H,[],bs=>H++bs
 | H,id::ids,b::bs=>Iq (H.set id b) ids bs
 | H,_::_,[]=>H
def KT (H:Heap) (ids:List Nat) (H3:Heap):Heap:=Iq H ids (H3.map (EF (Hw ids H.length)))
def Ij (hs:Ph) (args:List V) (H:Heap):Option (V×Heap):=
 match pack hs.fa hs.fb 0 args H with
 | some (ids,as,H2)=>match hs.run (Eh (ids.idxOf ·) as) (FW H2 ids) with
  | some (r,H3)=>if ids.length<=H3.length then some (Du (Hw ids H2.length) r,KT H2 ids H3) else none
  | none=>none
 | none=>none
def Jl:List V->List FuncId
 | []=>[]
 | .fn f _ _::vs=>f::Jl vs
 | _::vs=>Jl vs
def VB (fa:List (List Fk)) (fb:List Bf) (k:Nat) (r0:V) (H:Heap):Option (V×Heap):=
 match r0 with
 | .Aw vs=>match pack fa fb k vs H with
  | some (ids,as,H2)=>if ids.take k=List.range k then some (.Aw (Eh (ids.idxOf ·) as),FW H2 ids) else none
  | none=>none
 | v=>match pack fa fb k [v] H with
  | some (ids,[a],H2)=>if ids.take k=List.range k then some (Du (ids.idxOf ·) a,FW H2 ids) else none
  | _=>none
def Cm (E:Env):Nat->CS
 | 0,_,_,_=>none
 | n+1,f,args,H=>
  match E.maps f with
  | some l=>(match args with|[x]=>if (CV x).isEmpty then some (mkV l x,H) else none|_=>none)
  | none=>
  match E.env f with
  | some F=>if args.any P8 then (match E.own f,JE H args with
    | none,some as=>(match F (Eo E.rows (E.par f) as) with
     | some r=>if OU r then some (r,bump H (args.flatMap CV)) else none
     | none=>none)
    | _,_=>none)
   else match EE H args with
   | some as=>(match E.own f with
    | none=>(F (Eo E.rows (E.par f) as)).map (·,bump H (args.flatMap CV))
    | some e=>match F (Eo E.rows (E.par f) as) with
     | some (.sl false sz xs)=>some (.Az H.length 0 xs.length xs.length,place (bump H (args.flatMap CV)) H.length (BH true false e sz xs))
     | _=>none)
   | none=>none
  | none=>
   if E.pure f then
    match E.func f with
    | none=>none
    | some fn=>match EE H args with
     | some as=>match Kt (Cm E n) n E f fn as [] with
      | some (r,H')=>(IB H' r).map (·,bump H (args.flatMap CV))
      | none=>none
     | none=>none
   else match E.hm f (if MJ E f then [] else Jl args) with
    | some hs=>Ij hs args H
    | none=>match E.func f with
     | none=>none
     | some fn=>Kt (Cm E n) n E f fn args H
def YT (P:Program) (t:TypeId):Option (List FK):=
 match P.underlying t with
 | some (.struct _)|some (.array _ _)=>if P.keyTypeAt 20 t && !P.eqGuardType P.depth t then MM P 20 t else none
 | _=>none
def sH (P:Program):Nat->TypeId->List Nat
 | 0,_=>[]
 | d+1,t=>match P.underlying t with
  | some (.slice e)=>[P.cellsOf e]
  | some (.struct fs)=>fs.toList.flatMap fun f=>sH P d f.type
  | some (.array n e)=>(List.replicate n (sH P d e)).flatten
  | _=>[0]
def rowsOf (P:Program) (t:TypeId):List Nat:=sH P 20 t
def IP (P:Program) (pure:FuncId->Bool) (env:FuncId->Option (List V->Option V)):Env where
 P:=P
 ti:=Ip P
 func:=fun f=>P.funcs[f]?
 env:=env
 Ci:=fun _=>none
 pure:=pure
 flat:=YT P
 kind:=fun t=>match P.underlying t with|some (.int k)=>some k|_=>none
 isStr:=fun t=>P.underlying t matches some .string
 isBool:=fun t=>P.underlying t matches some .bool
 isBytes:=fun t=>match P.underlying t with|some (.slice e)=>(P.underlying e matches some (.int .u8))|_=>false
 calm:=fun _ _=>true
 rows:=rowsOf P
 par:=fun f=>match P.funcs[f]? with|some fn=>fn.params.toList|none=>[]
 own:=fun _=>none
 hm:=fun _ _=>none
end Go.Proofs.YtlabamnhpgoekaaGreatDoor.Le
namespace Go.Proofs.YtlabamnhpgoekaaGreatDoor.Le
open Go.RowKit (Below)
structure Loc where
 v:Value
 tot:Nat
 AZ:Nat
structure Sg where
 box:Nat->Option Loc
 fz:Nat->Nat->Prop
def flat (us:List Value):List Value:=us.flatMap fun u=>u.cells.toList
def Lies (σ:Sg) (w:World) (b o:Nat) (us:List Value):Prop:=
 ∀j u,(flat us)[j]? = some u->σ.fz b (o+j)/\w.cell? ⟨b,o+j,none⟩=some u
def Z4I (L:Value) (AZ off len:Nat) (v:Value):Prop:=
 ∃a n c k,L = .slice a n c/\v = .slice (a.map (·.add (k*AZ))) len (c - off)/\off<=c/\k<=off/\(off<c->k=off)
inductive AL (σ:Sg) (w:World):List V->List Value->Prop where
 | nil:AL σ w [] []
 | und (u:Value) {xs vs}:AL σ w xs vs->AL σ w (.und::xs) (u::vs)
 | no {xs vs}:AL σ w xs vs->AL σ w (.no::xs) (undef::vs)
 | lit {v:Value} {xs vs}:leaf v=true->AL σ w xs vs->AL σ w (.lit v::xs) (v::vs)
 | agg {cs ws xs vs}:AL σ w cs ws->(∀u∈ws,u.oneCell' = true)->AL σ w xs vs->AL σ w (.agg cs::xs) (.agg ws.toArray::vs)
 | Aw {cs ws xs vs}:AL σ w cs ws->AL σ w xs vs->AL σ w (.Aw cs::xs) (.tuple ws.toArray::vs)
 | Dj {b e xs vs}:AL σ w xs vs->AL σ w (.sl b e []::xs) (.slice none 0 0::vs)
 | EG {e xs vs} (a:Addr):AL σ w xs vs->AL σ w (.sl false e []::xs) (.slice (some a) 0 0::vs)
 | Es {e xs vs} (a:Addr):AL σ w xs vs->AL σ w (.BR false e []::xs) (.slice (some a) 0 0::vs)
 | Eg {b e xs vs}:AL σ w xs vs->AL σ w (.BR b e []::xs) (.slice none 0 0::vs)
 | sl {es us xs vs} (b o c e:Nat):AL σ w es us->(∀x∈es,Dp x=true)->(∀u∈us,u.cells.size=e)->(∀u∈flat us,u.oneCell' = true)->es.length<=c->c<=maxLen->Lies σ w b o us->AL σ w xs vs ->
   AL σ w (.sl false e es::xs) (.slice (some ⟨b,o,none⟩) es.length c::vs)
 | BR {es us xs vs} (b o e:Nat):AL σ w es us->(∀x∈es,Dp x=true)->(∀u∈us,u.cells.size=e)->(∀u∈flat us,u.oneCell' = true)->es.length<=maxLen->Lies σ w b o us->AL σ w xs vs ->
   AL σ w (.BR false e es::xs) (.slice (some ⟨b,o,none⟩) es.length es.length::vs)
 | Az {id off len tot L v xs vs}:σ.box id=some L->tot<=L.tot->(L.tot=tot->off+len<=tot/\Z4I L.v L.AZ off len v)->(∃a n c,v = .slice a n c)->AL σ w xs vs ->
   AL σ w (.Az id off len tot::xs) (v::vs)
 | ptr {id i off tot L v xs vs} (g:Nat):σ.box id=some L->tot<=L.tot->(L.tot=tot->∃n c,L.v = .slice (some ⟨g,0,none⟩) n c)->v = .pointer (some ⟨g,i*L.AZ+off,none⟩)->AL σ w xs vs ->
   AL σ w (.ptr id i off tot::xs) (v::vs)
 | BK {es us xs vs} (b o e i off:Nat):AL σ w es us->(∀x∈es,Dp x=true)->(∀u∈us,u.cells.size=e)->(∀u∈flat us,u.oneCell' = true)->Lies σ w b o us->AL σ w xs vs ->
   AL σ w (.BK e es i off::xs) (.pointer (some ⟨b,o+i*e+off,none⟩)::vs)
 | fn {f first caps us ws xs vs}:AL σ w first us->AL σ w caps ws->AL σ w xs vs->AL σ w (.fn f first caps::xs) (.func (.func f) us.toArray ws.toArray::vs)
 | FD {t x u xs vs}:AL σ w [x] [u]->AL σ w xs vs->AL σ w (.FD t x::xs) (.iface t u::vs)
 | FI {kvs us xs vs} (g:Nat) (es:Array MapEntry) (c:Nat):AL σ w kvs us->w.heap[g]? = some (.map es c)->us=es.toList.flatMap (fun e=>[e.key,e.val])->AL σ w xs vs->AL σ w (.FI kvs::xs) (.map (some g)::vs)
def DF (w w' : World):Prop:=∀(g:Nat) (es:Array MapEntry) (c:Nat),w.heap[g]? = some (Obj.map es c)->w'.heap[g]? = some (Obj.map es c)
theorem DF.refl (w:World):DF w w:=fun _ _ _ h=>h
theorem DF.trans {w w' w'' : World} (h:DF w w') (k:DF w' w''):DF w w'' :=fun g es c hg=>k g es c (h g es c hg)
structure Ext (σ:Sg) (w:World) (σ' : Sg) (w' : World):Prop where
 box:∀id L,σ.box id=some L->∃L',σ'.box id=some L' /\ L'.AZ=L.AZ/\(L' = L\/L.tot<L'.tot)
 fz:∀b c,σ.fz b c->σ'.fz b c/\w'.cell? ⟨b,c,none⟩=w.cell? ⟨b,c,none⟩
 mp:DF w w'
theorem Ext.refl (σ:Sg) (w:World):Ext σ w σ w:=⟨fun id L h=>⟨L,h,rfl,.inl rfl⟩,fun b c h=>⟨h,rfl⟩,DF.refl w⟩
theorem Ext.trans {σ w σ' w' σ'' w''} (h:Ext σ w σ' w') (k:Ext σ' w' σ'' w''):Ext σ w σ'' w'' :=by
 refine⟨fun id L hL=>?_,fun b c hc=>?_,h.mp.trans k.mp⟩
 ·obtain⟨L',h1,h2,h3⟩:=h.box id L hL
  obtain⟨L'',k1,k2,k3⟩:=k.box id L' h1
  grind
 ·obtain⟨a1,a2⟩:=h.fz b c hc
  obtain⟨b1,b2⟩:=k.fz b c a1
  simp_all
theorem Lies.ext {σ w σ' w' b o us} (h:Lies σ w b o us) (e:Ext σ w σ' w'):Lies σ' w' b o us:=fun j u hu=>by
 obtain⟨h1,h2⟩:=h j u hu
 obtain⟨e1,e2⟩:=e.fz _ _ h1
 simp_all
theorem AL.ext {σ w σ' w' xs vs} (h:AL σ w xs vs) (e:Ext σ w σ' w'):AL σ' w' xs vs:=by
 induction h with
 | nil=>exact .nil
 | und u _ ih=>exact .und u ih
 | no _ ih=>exact .no ih
 | lit hl _ ih=>exact .lit hl ih
 | agg _ ho _ ih1 ih2=>exact .agg ih1 ho ih2
 | Aw _ _ ih1 ih2=>exact .Aw ih1 ih2
 | Dj _ ih=>exact .Dj ih
 | Eg _ ih=>exact .Eg ih
 | EG a _ ih=>exact .EG a ih
 | Es a _ ih=>exact .Es a ih
 | sl b o c e' _ h0 h1 h2 h3 h4 h5 _ ih1 ih2=>exact .sl b o c e' ih1 h0 h1 h2 h3 h4 (h5.ext e) ih2
 | BR b o e' _ h0 h1 h2 h3 h4 _ ih1 ih2=>exact .BR b o e' ih1 h0 h1 h2 h3 (h4.ext e) ih2
 | Az h1 h2 h3 h4 _ ih=>
  obtain⟨L',k1,k2,k3⟩:=e.box _ _ h1
  rcases k3 with rfl|k3
  ·exact .Az k1 h2 h3 h4 ih
  ·exact .Az k1 (by omega) (fun hh=>by omega) h4 ih
 | ptr g h1 h2 h3 h4 _ ih=>
  obtain⟨L',k1,k2,k3⟩:=e.box _ _ h1
  rcases k3 with rfl|k3
  ·exact .ptr g k1 h2 h3 h4 ih
  ·exact .ptr g k1 (by omega) (fun hh=>by omega) (by rw [k2];exact h4) ih
 | BK b o e' i off _ h0 h1 h2 h3 _ ih1 ih2=>exact .BK b o e' i off ih1 h0 h1 h2 (h3.ext e) ih2
 | fn _ _ _ ih1 ih2 ih3=>exact .fn ih1 ih2 ih3
 | FD _ _ ih1 ih2=>exact .FD ih1 ih2
 | FI g es c _ h1 h2 _ ih1 ih2=>exact .FI g es c ih1 (e.mp _ _ _ h1) h2 ih2
theorem AL.length {σ w xs vs} (h:AL σ w xs vs):xs.length=vs.length:=by
 induction h<;>simp_all
theorem JA (xs:List V):BJ xs=true↔∀x∈xs,BQ x=true:=by
 induction xs with
 | nil=>simp [BJ]
 | cons x xs ih=>simp [BJ,ih]
theorem YD {x:V} (h:Dp x=true):okV x=true:=by simp [Dp] at h;exact h.1
theorem OE {x:V} (h:Dp x=true):BQ x=true:=by simp [Dp] at h;exact h.2
theorem o8 {xs:List V} (h:∀x∈xs,Dp x=true):∀x∈xs,okV x=true:=fun x hx=>YD (h x hx)
theorem MZ {xs:List V} (h:∀x∈xs,Dp x=true):BJ xs=true:=(JA xs).2 fun x hx=>OE (h x hx)
theorem Zb2 {x:V} (h:BQ x=true):BJ x.cells=true:=by
 cases x<;>simp_all [V.cells,BQ,BJ]
theorem AL.ED {σ w x xs v vs}:AL σ w (x::xs) (v::vs)↔AL σ w [x] [v]/\AL σ w xs vs:=by
 constructor
 ·intro h
  cases h with
  | und _ h=>exact⟨.und _ .nil,h⟩
  | no h=>exact⟨.no .nil,h⟩
  | lit hl h=>exact⟨.lit hl .nil,h⟩
  | agg h1 ho h=>exact⟨.agg h1 ho .nil,h⟩
  | Aw h1 h=>exact⟨.Aw h1 .nil,h⟩
  | Dj h=>exact⟨.Dj .nil,h⟩
  | Eg h=>exact⟨.Eg .nil,h⟩
  | EG a h=>exact⟨.EG a .nil,h⟩
  | Es a h=>exact⟨.Es a .nil,h⟩
  | sl b o c e h0 h1 h2 h3 h4 h5 h6 h=>exact⟨.sl b o c e h0 h1 h2 h3 h4 h5 h6 .nil,h⟩
  | BR b o e h0 h1 h2 h3 h4 h5 h=>exact⟨.BR b o e h0 h1 h2 h3 h4 h5 .nil,h⟩
  | Az h1 h2 h3 h4 h=>exact⟨.Az h1 h2 h3 h4 .nil,h⟩
  | ptr g h1 h2 h3 h4 h=>exact⟨.ptr g h1 h2 h3 h4 .nil,h⟩
  | BK b o e i off h0 h1 h2 h3 h4 h=>exact⟨.BK b o e i off h0 h1 h2 h3 h4 .nil,h⟩
  | fn h1 h2 h=>exact⟨.fn h1 h2 .nil,h⟩
  | FD h1 h=>exact⟨.FD h1 .nil,h⟩
  | FI g es c h0 h1 h2 h=>exact⟨.FI g es c h0 h1 h2 .nil,h⟩
 ·rintro ⟨h,k⟩
  cases h with
  | und _ h=>exact .und _ k
  | no h=>exact .no k
  | lit hl h=>exact .lit hl k
  | agg h1 ho h=>exact .agg h1 ho k
  | Aw h1 h=>exact .Aw h1 k
  | Dj h=>exact .Dj k
  | Eg h=>exact .Eg k
  | EG a h=>exact .EG a k
  | Es a h=>exact .Es a k
  | sl b o c e h0 h1 h2 h3 h4 h5 h6 h=>exact .sl b o c e h0 h1 h2 h3 h4 h5 h6 k
  | BR b o e h0 h1 h2 h3 h4 h5 h=>exact .BR b o e h0 h1 h2 h3 h4 h5 k
  | Az h1 h2 h3 h4 h=>exact .Az h1 h2 h3 h4 k
  | ptr g h1 h2 h3 h4 h=>exact .ptr g h1 h2 h3 h4 k
  | BK b o e i off h0 h1 h2 h3 h4 h=>exact .BK b o e i off h0 h1 h2 h3 h4 k
  | fn h1 h2 h=>exact .fn h1 h2 k
  | FD h1 h=>exact .FD h1 k
  | FI g es c h0 h1 h2 h=>exact .FI g es c h0 h1 h2 k
theorem AL.EN {σ w vs} (h:AL σ w [] vs):vs=[]:=by cases h;rfl
theorem AL.Cf {σ w x xs vs} (h:AL σ w (x::xs) vs):∃v vs',vs=v::vs' /\ AL σ w [x] [v]/\AL σ w xs vs' :=by
 cases vs with
 | nil=>exact absurd h.length (by simp)
 | cons v vs' =>exact⟨v,vs',rfl,(AL.ED.1 h).1,(AL.ED.1 h).2⟩
theorem AL.append {σ w xs vs ys us} (h:AL σ w xs vs) (k:AL σ w ys us):AL σ w (xs++ys) (vs++us):=by
 induction xs generalizing vs with
 | nil=>cases h.EN;exact k
 | cons x xs ih=>
  obtain⟨v,vs',rfl,h1,h2⟩:=h.Cf
  exact AL.ED.2 ⟨h1,ih h2⟩
theorem AL.get {σ w xs vs} (h:AL σ w xs vs) {i:Nat} {x:V} (hx:xs[i]? = some x):∃v,vs[i]? = some v/\AL σ w [x] [v]:=by
 induction xs generalizing vs i with
 | nil=>simp at hx
 | cons y ys ih=>
  obtain⟨v,vs',rfl,h1,h2⟩:=h.Cf
  grind
theorem AL.take {σ w xs vs} (h:AL σ w xs vs) (n:Nat):AL σ w (xs.take n) (vs.take n):=by
 induction xs generalizing vs n with
 | nil=>cases h.EN;simp;exact .nil
 | cons y ys ih=>
  obtain⟨v,vs',rfl,h1,h2⟩:=h.Cf
  cases n with
  | zero=>exact .nil
  | succ n=>exact AL.ED.2 ⟨h1,ih h2 n⟩
theorem AL.drop {σ w xs vs} (h:AL σ w xs vs) (n:Nat):AL σ w (xs.drop n) (vs.drop n):=by
 induction xs generalizing vs n with
 | nil=>cases h.EN;simp;exact .nil
 | cons y ys ih=>
  obtain⟨v,vs',rfl,h1,h2⟩:=h.Cf
  cases n with
  | zero=>exact h
  | succ n=>exact ih h2 n
theorem AL.set {σ w xs vs x v} (h:AL σ w xs vs) (i:Nat) (k:AL σ w [x] [v]):AL σ w (xs.set i x) (vs.set i v):=by
 induction xs generalizing vs i with
 | nil=>cases h.EN;simp;exact .nil
 | cons y ys ih=>
  obtain⟨u,vs',rfl,h1,h2⟩:=h.Cf
  cases i with
  | zero=>exact AL.ED.2 ⟨k,h2⟩
  | succ i=>exact AL.ED.2 ⟨h1,ih h2 i⟩
theorem AL.replicate {σ w x v} (n:Nat) (k:AL σ w [x] [v]):AL σ w (List.replicate n x) (List.replicate n v):=by
 induction n with
 | zero=>exact .nil
 | succ n ih=>exact AL.ED.2 ⟨k,ih⟩
def noMark (tg:Nat×Nat) (n:Nat):Prop:=tg=(0,0)\/n<=tg.1
def E5 (w:World) (base:Nat) (e:TypeId) (size:Nat) (v:Value) (n:Nat) (xs:List Value):Prop:=
 xs.length=n*size /\
 ((v = .slice none 0 0/\n=0) \/
  ∃g cap cur tg,v = .slice (some ⟨g,0,none⟩) n cap/\base<=g/\w.heap[g]? = some (.cells cur e tg)/\noMark tg cur.size/\n<=cap/\cap<=maxLen/\cur.size=cap*size/\cur.toList.take (n*size)=xs)
section
variable {w:World} {base:Nat} {e:TypeId} {size:Nat} {v:Value} {n:Nat} {xs:List Value}
theorem E5.of (h:w.ownsRow base e size v n xs):E5 w base e size v n xs:=by
 refine⟨h.1,?_⟩
 rcases h.2 with h|⟨g,cap,cur,h1,h2,h3,h4⟩
 ·exact .inl h
 ·exact .inr ⟨g,cap,cur,(0,0),h1,h2,h3,.inl rfl,h4⟩
theorem Qw (w:World) (base:Nat) (e:TypeId) (size:Nat):E5 w base e size (.slice none 0 0) 0 []:=.of (World.ownsRow_nil w base e size)
theorem E5.lt (h:E5 w base e size v n xs):∀k,v.ownBlock=some k->base<=k/\k<w.heap.size:=by
 intro k hk
 rcases h.2 with ⟨rfl,_⟩|⟨g,cap,cur,tg,rfl,hb,hg,_⟩
 ·simp [Value.ownBlock] at hk
 ·simp [Value.ownBlock] at hk
  grind
theorem E5.kept {w' : World} {row:Option Nat} (h:E5 w base e size v n xs) (hg:w.grownBy w' row) (hne:v.ownBlock=none\/v.ownBlock≠row):E5 w' base e size v n xs:=by
 refine⟨h.1,?_⟩
 rcases h.2 with hn|⟨g,cap,cur,tg,rfl,hb,hgg,rest⟩
 ·exact .inl hn
 ·refine .inr ⟨g,cap,cur,tg,rfl,hb,?_,rest⟩
  rw [hg.block g (Array.getElem?_eq_some_iff.1 hgg).1 (by simpa [Value.ownBlock] using hne)]
  exact hgg
theorem E5.cells (h:E5 w base e size v n xs) {g:Nat} (hg:v.ownBlock=some g):∀j u,xs[j]? = some u->w.cell? ((⟨g,0,none⟩:Addr).add j)=some u:=by
 intro j u hu
 rcases h.2 with ⟨rfl,_⟩|⟨g',cap,cur,tg,rfl,hb,hgg,hm,hn,hc,hs,ht⟩
 ·simp [Value.ownBlock] at hg
 ·simp only [Value.ownBlock,Option.some.injEq] at hg
  subst hg
  rw [Addr.add_mid,Nat.zero_add]
  rw [<- ht,List.getElem?_take] at hu
  split at hu
  ·simp only [World.cell?,hgg]
   simpa using hu
  ·cases hu
end
theorem Vp (P:Program) (g o:Nat) (t:TypeId) (tg:Nat×Nat):∀(vs:List Value) (i:Nat) (cur:Array Value) (w:World),w.heap[g]? = some (.cells cur t tg)->noMark tg cur.size->o+i+vs.length<=cur.size->(∀v∈vs,v.oneCell' = true) ->
  (storeCells ⟨g,o,none⟩ vs i).run P w = .ok () (w.setRow g (cur.toList.take (o+i)++vs++cur.toList.drop (o+i+vs.length)).toArray)
 | [],i,cur,w,hg,_,_,_=>by
  simp only [storeCells,List.append_nil,List.length_nil,Nat.add_zero,List.take_append_drop,Array.toArray_toList]
  rw [setRow_self w g cur t tg hg]
  rfl
 | v::rest,i,cur,w,hg,hm,hl,h1=>by
  have hi:o+i<cur.size:=by simp at hl;omega
  have hadd:(⟨g,o,none⟩:Addr).add i=⟨g,o+i,none⟩:=by unfold Addr.add;split<;>simp_all
  have hcell:w.cell? ⟨g,o+i,none⟩=some cur[o+i]:=by simp [World.cell?,hg,hi]
  have hfro:w.frozen? ⟨g,o+i,none⟩=false:=by
   obtain⟨lo,hi'⟩:=tg
   rcases hm with hm|hm
   ·cases hm;simp [World.frozen?,hg]
   ·simp only at hm
    have:¬lo<=o+i:=by omega
    simp [World.frozen?,hg,this]
  have hst:(store ((⟨g,o,none⟩:Addr).add i) v).run P w = .ok () (w.setRow g (cur.setIfInBounds (o+i) v)):=by
   rw [hadd,run_store P w _ v _ (h1 v (by simp)),hcell]
   simp [hfro,setCell_eq_setRow w g (o+i) cur t tg v hg]
  have ih:=Vp P g o t tg rest (i+1) (cur.setIfInBounds (o+i) v) (w.setRow g (cur.setIfInBounds (o+i) v)) (setRow_heap w g cur _ t _ hg) (by simpa using hm) (by simp at hl ⊢;omega) (fun x hx=>h1 x (by simp [hx]))
  simp only [storeCells,Sem.run_bind,hst,Result.andThen_ok,ih,setRow_setRow]
  congr 3
  have e:=list_seg_step cur.toList (o+i) v rest (by simp at hl ⊢;omega)
  simp_all<;>omega
theorem xK {P:Program} {w:World} (t ty e:TypeId) (i:TypeInfo) (ht:P.underlying t=some (.slice e)) (hi:P.info? e=some i)
  (g sLen sCap:Nat) (cur:Array Value) (tg:Nat×Nat) (hg:w.heap[g]? = some (.cells cur e tg)) (hm:noMark tg cur.size)
  (a:Addr) (m c:Nat) (news:List Value) (hl:news.length=m*i.size) (hnews:∀j u,news[j]? = some u->w.cell? (a.add j)=some u) (h1:∀u∈news,u.oneCell' = true)
  (hroom:sLen+m<=sCap) (hfit:sLen*i.size+news.length<=cur.size) :
  (Builtin.append_ #[t,t] ty #[.slice (some ⟨g,0,none⟩) sLen sCap,.slice (some a) m c]).run P w =
   .ok (.slice (some ⟨g,0,none⟩) (sLen+m) sCap) (w.setRow g (cur.toList.take (sLen*i.size)++news++cur.toList.drop (sLen*i.size+news.length)).toArray):=by
 have hf:=run_firstCells_some (P:=P) w i.size m a m c news hl hnews
 have hst:=Vp P g (sLen*i.size) e tg news 0 cur w hg hm (by simpa using hfit) h1
 simp only [Nat.add_zero] at hst
 simp [Builtin.append_,run_underlying ht,sizeOf,typeInfo,hi,Builtin.lenOf,hroom,hf,Addr.add_lit,hst]
end Go.Proofs.YtlabamnhpgoekaaGreatDoor.Le
namespace Go.Proofs.YtlabamnhpgoekaaGreatDoor.Le
open Go.RowKit (Below)
structure Ik (σ:Sg) (w:World) (B:Nat) (bx:Box) (L:Loc):Prop where
 tot:L.tot=bx.xs.length
 CU:∃us,AL σ w bx.xs us/\(∀u∈us,u.cells.size=L.AZ)/\(∀u∈flat us,u.oneCell' = true)/\E5 w B bx.elem L.AZ L.v bx.xs.length (flat us)
 DZ:bx.DZ=true->L.v = .slice none 0 0
 AZ:bx.AZ=L.AZ
 oks:∀x∈bx.xs,okV x=true
 F7:bx.row=true->∀x∈bx.xs,BQ x=true
structure Start where
 w:World
 fz:Nat->Nat->Prop
 keep:Nat->Prop
abbrev Start.of (w:World) (fz:Nat->Nat->Prop):Start:=⟨w,fz,fun _=>False⟩
structure Inv (B:Nat) (w0:Start) (σ:Sg) (H:Heap) (w:World):Prop where
 below:Below B w0.w w
 size:B<=w.heap.size
 dom:∀id L,σ.box id=some L->∃bx,H[id]? = some bx/\(bx.live=true\/bx.row=true)
 boxes:∀id bx,H[id]? = some bx->bx.live=true->∃L,σ.box id=some L/\Ik σ w B bx L
 apart:∀id id' bx bx' L L' g,H[id]? = some bx->H[id']? = some bx' -> bx.live=true->bx'.live=true->σ.box id=some L->σ.box id' = some L' ->
  L.v.ownBlock=some g->L'.v.ownBlock=some g->id=id'
 cells:∀b c,σ.fz b c->∃u,w.cell? ⟨b,c,none⟩=some u
 floor:∀b c,σ.fz b c->∀id bx L,H[id]? = some bx->bx.live=true->σ.box id=some L->L.v.ownBlock=some b->c<bx.floor*L.AZ
 low:∀(id:Nat) (bx:Box),H[id]? = some bx->bx.live=true->bx.floor<=bx.xs.length
 old:∀b c,σ.fz b c->b<B->w0.fz b c
 kept:∀b,w0.keep b->b<w.heap.size/\w.heap[b]? = w0.w.heap[b]? /\ (∀id L,σ.box id=some L->L.v.ownBlock≠some b)/\∀c,σ.fz b c->w0.fz b c
theorem Inv.Xy {B w0 σ H w} (h:Inv B w0 σ H w) {id L} (hb:σ.box id=some L):id<H.length:=by
 obtain⟨bx,h1,_⟩:=h.dom id L hb
 grind
theorem nM {H:Heap} {k:Nat} (h:EL H k=true):(H[k]? = none/\k=H.length)\/∃b,H[k]? = some b/\(b.live=false/\b.row=false):=by
 unfold EL at h
 grind
theorem UB (H:Heap):EL H H.length=true:=by simp [EL]
theorem Qo {H:Heap} {k:Nat} (h:EL H k=true) (b:Box) (id:Nat):(place H k b)[id]? = if id=k then some b else H[id]?:=by
 unfold place
 rcases nM h with ⟨_,hk⟩|⟨b0,hb,_⟩
 ·grind
 grind
theorem Zft (H:Heap) (b:Box):place H H.length b=H++[b]:=by simp [place]
theorem cell_lt {w:World} {b c:Nat} {u:Value} (h:w.cell? ⟨b,c,none⟩=some u):b<w.heap.size:=block_lt_of_cell h
theorem Ik.kept {σ w B bx L σ' w'} {row:Option Nat} (h:Ik σ w B bx L) (e:Ext σ w σ' w') (hg:w.grownBy w' row) (hne:L.v.ownBlock=none\/L.v.ownBlock≠row):Ik σ' w' B bx L:=by
 obtain⟨us,h1,h2,h3,h4⟩:=h.CU
 exact⟨h.tot,⟨us,h1.ext e,h2,h3,h4.kept hg hne⟩,h.DZ,h.AZ,h.oks,h.F7⟩
theorem Ik.block_lt {σ w B bx L g} (h:Ik σ w B bx L) (hg:L.v.ownBlock=some g):B<=g/\g<w.heap.size:=by
 obtain⟨us,h1,h2,h3,h4⟩:=h.CU
 exact h4.lt g hg
theorem Zdv {w:World} {base:Nat} {e:TypeId} {size:Nat} {v:Value} {n:Nat} {xs:List Value} (h:E5 w base e size v n xs) {g:Nat} (hg:v.ownBlock=some g):∃cur t tg,w.heap[g]? = some (.cells cur t tg):=by
 rcases h.2 with ⟨rfl,_⟩|⟨g',cap,cur,tg,rfl,_,hgg,_⟩
 ·simp [Value.ownBlock] at hg
 ·simp [Value.ownBlock] at hg
  simp_all
theorem Ik.Zlb {σ w B bx L g} (h:Ik σ w B bx L) (hg:L.v.ownBlock=some g) {es:Array MapEntry} {c:Nat} (hm:w.heap[g]? = some (.map es c)):False:=by
 obtain⟨us,h1,h2,h3,h4⟩:=h.CU
 obtain⟨cur,t,tg,hc⟩:=Zdv h4 hg
 simp_all
theorem Inv.grown {B w0 σ H w w'} (h:Inv B w0 σ H w) (hg:w.grownBy w' none):Inv B w0 σ H w' /\ Ext σ w σ w' :=by
 have hcell:∀b c,b<w.heap.size->w'.cell? ⟨b,c,none⟩=w.cell? ⟨b,c,none⟩:=fun b c hb=>
  World.cell?_of_block (hg.block b hb (by simp))
 have e:Ext σ w σ w' :=⟨fun id L hL=>⟨L,hL,rfl,.inl rfl⟩,fun b c hc=>⟨hc,by
  obtain⟨u,hu⟩:=h.cells b c hc
  exact hcell b c (cell_lt hu)⟩,fun g es c hm=>(hg.block g (Array.getElem?_eq_some_iff.1 hm).1 (by simp)).trans hm⟩
 refine⟨⟨h.below.grown hg h.size (by simp),Nat.le_trans h.size hg.size,h.dom,?_,h.apart,?_,h.floor,h.low,h.old,fun b hb=>?_⟩,e⟩
 ·intro id bx hb hl
  obtain⟨L,hL,hok⟩:=h.boxes id bx hb hl
  refine⟨L,hL,hok.kept e hg ?_⟩
  grind
 ·intro b c hc
  obtain⟨u,hu⟩:=h.cells b c hc
  exact⟨u,(hcell b c (cell_lt hu)).trans hu⟩
 ·obtain⟨k1,k2,k3,k4⟩:=h.kept b hb
  exact⟨Nat.lt_of_lt_of_le k1 hg.size,(hg.block b k1 (by simp)).trans k2,k3,k4⟩
def Sg.put (σ:Sg) (id:Nat) (L:Loc):Sg:={ σ with box:=fun i=>if i=id then some L else σ.box i }
theorem Inv.push {B w0 σ H w w'} (h:Inv B w0 σ H w) (hg:w.grownBy w' none) {k:Nat} (hk:EL H k=true) (bx:Box) (hlive:bx.live=true) (L:Loc) (hlow:bx.floor<=bx.xs.length)
  (hnew:∀g,L.v.ownBlock=some g->w.heap.size<=g) (hok:Ext σ w (σ.put k L) w' -> Ik (σ.put k L) w' B bx L) :
  Inv B w0 (σ.put k L) (place H k bx) w' /\ Ext σ w (σ.put k L) w' :=by
 have hnone:σ.box k=none:=by
  cases hb:σ.box k with
  | none=>rfl
  | some L' =>
   exfalso
   obtain⟨b1,c1,c2⟩:=h.dom _ _ hb
   rcases nM hk with ⟨hn,_⟩|⟨b0,hb0,hl0⟩
   ·rw [hn] at c1;cases c1
   simp_all
 obtain⟨h',e0⟩:=h.grown hg
 have e:Ext σ w (σ.put k L) w' :=by
  refine⟨fun id L' hL' =>⟨L',?_,rfl,.inl rfl⟩,e0.fz,e0.mp⟩
  have:id≠k:=fun hh=>by simp_all
  simp [Sg.put,this,hL']
 have e' : Ext σ w' (σ.put k L) w' :=by
  refine⟨e.box,fun b c hc=>⟨hc,rfl⟩,DF.refl _⟩
 have hold:∀id bx',id≠k->(place H k bx)[id]? = some bx' -> H[id]? = some bx' :=by
  intro id bx' hid hh
  rw [Qo hk,if_neg hid] at hh
  exact hh
 have hget:(place H k bx)[k]? = some bx:=by rw [Qo hk,if_pos rfl]
 refine⟨⟨h'.below,h'.size,?_,?_,?_,h'.cells,?_,?_,h'.old,fun b hb=>?_⟩,e⟩
 ·intro id L' hL'
  by_cases hid:id=k
  ·simp_all
  ·simp only [Sg.put,hid,if_false] at hL'
   obtain⟨b1,c1,c2⟩:=h.dom id L' hL'
   exact⟨b1,by rw [Qo hk,if_neg hid];exact c1,c2⟩
 ·intro id bx' hb hl
  by_cases hid:id=k
  ·subst hid
   rw [hget] at hb
   cases hb
   exact⟨L,by simp [Sg.put],hok e⟩
  ·obtain⟨L',hL',hok'⟩:=h'.boxes id bx' (hold id bx' hid hb) hl
   refine⟨L',by simp [Sg.put,hid,hL'],?_⟩
   obtain⟨us,h1,h2,h3,h4⟩:=hok'.CU
   exact⟨hok'.tot,⟨us,h1.ext e',h2,h3,h4⟩,hok'.DZ,hok'.AZ,hok'.oks,hok'.F7⟩
 ·intro id id' bx1 bx2 L1 L2 g hb1 hb2 hl1 hl2 hL1 hL2 hg1 hg2
  by_cases hid:id=k
  ·by_cases hid' : id' = k
   ·rw [hid,hid']
   ·exfalso
    subst hid
    simp only [Sg.put,if_true] at hL1
    cases hL1
    simp only [Sg.put,hid',if_false] at hL2
    have hb2' :=hold id' bx2 hid' hb2
    obtain⟨L',hL',hok'⟩:=h.boxes id' bx2 hb2' hl2
    rw [hL2] at hL'
    cases hL'
    have:=(hok'.block_lt hg2).2
    grind
  ·by_cases hid' : id' = k
   ·exfalso
    subst hid'
    simp only [Sg.put,if_true] at hL2
    cases hL2
    simp only [Sg.put,hid,if_false] at hL1
    have hb1' :=hold id bx1 hid hb1
    obtain⟨L',hL',hok'⟩:=h.boxes id bx1 hb1' hl1
    rw [hL1] at hL'
    cases hL'
    have:=(hok'.block_lt hg1).2
    grind
   ·simp only [Sg.put,hid,hid',if_false] at hL1 hL2
    exact h.apart id id' bx1 bx2 L1 L2 g (hold id bx1 hid hb1) (hold id' bx2 hid' hb2) hl1 hl2 hL1 hL2 hg1 hg2
 ·intro b c hc id bx' L' hb hl hL' hg'
  by_cases hid:id=k
  ·exfalso
   subst hid
   simp only [Sg.put,if_true] at hL'
   cases hL'
   obtain⟨u,hu⟩:=h.cells b c hc
   have:=cell_lt hu
   grind
  ·simp only [Sg.put,hid,if_false] at hL'
   exact h.floor b c hc id bx' L' (hold id bx' hid hb) hl hL' hg'
 ·intro id bx' hb hl
  by_cases hid:id=k
  ·simp_all
  ·exact h.low id bx' (hold id bx' hid hb) hl
 ·obtain⟨k1,k2,k3,k4⟩:=h'.kept b hb
  refine⟨k1,k2,fun id L' hL' hg' =>?_,k4⟩
  by_cases hid:id=k
  ·subst hid
   simp only [Sg.put,if_true] at hL'
   cases hL'
   have:=(h.kept b hb).1
   grind
  ·simp only [Sg.put,hid,if_false] at hL'
   exact k3 id L' hL' hg'
theorem Inv.Zij {B w0 σ H w} (h:Inv B w0 σ H w) {k:Nat} (hk:EL H k=true) (bx:Box) (hlive:bx.live=true) (L:Loc) (hlow:bx.floor<=bx.xs.length)
  (hap:∀id bx' L' g,H[id]? = some bx' -> bx'.live=true->σ.box id=some L' -> L'.v.ownBlock=some g->L.v.ownBlock≠some g) (hfz:∀g c,L.v.ownBlock=some g->¬σ.fz g c) (hkp:∀g,L.v.ownBlock=some g->¬w0.keep g)
  (hok:Ik (σ.put k L) w B bx L):Inv B w0 (σ.put k L) (place H k bx) w/\Ext σ w (σ.put k L) w:=by
 have hnone:σ.box k=none:=by
  cases hb:σ.box k with
  | none=>rfl
  | some L' =>
   exfalso
   obtain⟨b1,c1,c2⟩:=h.dom _ _ hb
   rcases nM hk with ⟨hn,_⟩|⟨b0,hb0,hl0⟩
   ·rw [hn] at c1;cases c1
   simp_all
 have e:Ext σ w (σ.put k L) w:=by
  refine⟨fun id L' hL' =>⟨L',?_,rfl,.inl rfl⟩,fun b c hc=>⟨hc,rfl⟩,DF.refl _⟩
  have:id≠k:=fun hh=>by simp_all
  simp [Sg.put,this,hL']
 have hold:∀id bx',id≠k->(place H k bx)[id]? = some bx' -> H[id]? = some bx' :=by
  intro id bx' hid hh
  rw [Qo hk,if_neg hid] at hh
  exact hh
 have hget:(place H k bx)[k]? = some bx:=by rw [Qo hk,if_pos rfl]
 refine⟨⟨h.below,h.size,?_,?_,?_,h.cells,?_,?_,h.old,fun b hb=>?_⟩,e⟩
 ·intro id L' hL'
  by_cases hid:id=k
  ·simp_all
  ·simp only [Sg.put,hid,if_false] at hL'
   obtain⟨b1,c1,c2⟩:=h.dom id L' hL'
   exact⟨b1,by rw [Qo hk,if_neg hid];exact c1,c2⟩
 ·intro id bx' hb hl
  by_cases hid:id=k
  ·subst hid
   rw [hget] at hb
   cases hb
   exact⟨L,by simp [Sg.put],hok⟩
  ·obtain⟨L',hL',hok'⟩:=h.boxes id bx' (hold id bx' hid hb) hl
   refine⟨L',by simp [Sg.put,hid,hL'],?_⟩
   obtain⟨us,h1,h2,h3,h4⟩:=hok'.CU
   exact⟨hok'.tot,⟨us,h1.ext e,h2,h3,h4⟩,hok'.DZ,hok'.AZ,hok'.oks,hok'.F7⟩
 ·intro id id' bx1 bx2 L1 L2 g hb1 hb2 hl1 hl2 hL1 hL2 hg1 hg2
  by_cases hid:id=k
  ·by_cases hid' : id' = k
   ·rw [hid,hid']
   ·exfalso
    subst hid
    simp only [Sg.put,if_true] at hL1
    cases hL1
    simp only [Sg.put,hid',if_false] at hL2
    grind
  ·by_cases hid' : id' = k
   ·exfalso
    subst hid'
    simp only [Sg.put,if_true] at hL2
    cases hL2
    simp only [Sg.put,hid,if_false] at hL1
    grind
   ·simp only [Sg.put,hid,hid',if_false] at hL1 hL2
    exact h.apart id id' bx1 bx2 L1 L2 g (hold id bx1 hid hb1) (hold id' bx2 hid' hb2) hl1 hl2 hL1 hL2 hg1 hg2
 ·intro b c hc id bx' L' hb hl hL' hg'
  by_cases hid:id=k
  ·exfalso
   subst hid
   simp only [Sg.put,if_true] at hL'
   cases hL'
   exact hfz b c hg' hc
  ·simp only [Sg.put,hid,if_false] at hL'
   exact h.floor b c hc id bx' L' (hold id bx' hid hb) hl hL' hg'
 ·intro id bx' hb hl
  by_cases hid:id=k
  ·simp_all
  ·exact h.low id bx' (hold id bx' hid hb) hl
 ·obtain⟨k1,k2,k3,k4⟩:=h.kept b hb
  refine⟨k1,k2,fun id L' hL' hg' =>?_,k4⟩
  by_cases hid:id=k
  ·subst hid
   simp only [Sg.put,if_true] at hL'
   simp_all
  ·simp only [Sg.put,hid,if_false] at hL'
   exact k3 id L' hL' hg'
theorem Inv.upd {B w0 σ H w w'} (h:Inv B w0 σ H w) {id:Nat} {bx:Box} {L:Loc} (hb:H[id]? = some bx) (hl:bx.live=true) (hL:σ.box id=some L)
  (hg:w.grownBy w' L.v.ownBlock) (bx' : Box) (hlive:bx'.live=true) (L' : Loc) (hesz:L'.AZ=L.AZ) (htot:L' = L\/L.tot<L'.tot) (hfl:bx'.floor=bx.floor) (hlen' : bx.xs.length<=bx'.xs.length)
  (hnew:∀g,L'.v.ownBlock=some g->L.v.ownBlock=some g\/w.heap.size<=g)
  (hkeep:∀g c,L.v.ownBlock=some g->c<bx.floor*L.AZ->w'.cell? ⟨g,c,none⟩=w.cell? ⟨g,c,none⟩)
  (hok:Ext σ w (σ.put id L') w' -> Ik (σ.put id L') w' B bx' L') :
  Inv B w0 (σ.put id L') (H.set id bx') w' /\ Ext σ w (σ.put id L') w' :=by
 have hlen:id<H.length:=h.Xy hL
 obtain⟨L0,hL0,hok0⟩:=h.boxes id bx hb hl
 rw [hL] at hL0
 cases hL0
 have hcell:∀b c,σ.fz b c->w'.cell? ⟨b,c,none⟩=w.cell? ⟨b,c,none⟩:=by
  intro b c hc
  obtain⟨u,hu⟩:=h.cells b c hc
  by_cases hown:L.v.ownBlock=some b
  ·exact hkeep b c hown (h.floor b c hc id bx L hb hl hL hown)
  ·exact World.cell?_of_block (hg.block b (cell_lt hu) (fun hh=>hown hh.symm))
 have e:Ext σ w (σ.put id L') w' :=by
  refine⟨fun i Li hLi=>?_,fun b c hc=>⟨hc,hcell b c hc⟩,fun g es c hm=>(hg.block g (Array.getElem?_eq_some_iff.1 hm).1 (fun hh=>hok0.Zlb hh.symm hm)).trans hm⟩
  by_cases hi:i=id
  ·subst hi
   rw [hL] at hLi
   cases hLi
   exact⟨L',by simp [Sg.put],hesz,htot⟩
  ·exact⟨Li,by simp [Sg.put,hi,hLi],rfl,.inl rfl⟩
 have hold:∀i b,i≠id->(H.set id bx')[i]? = some b->H[i]? = some b:=by
  intro i b hi hh
  rw [List.getElem?_set_ne (fun e=>hi e.symm)] at hh
  exact hh
 have hget:(H.set id bx')[id]? = some bx' :=by simp [hlen]
 refine⟨⟨?_,Nat.le_trans h.size hg.size,?_,?_,?_,?_,?_,?_,h.old,fun b hb=>?_⟩,e⟩
 ·exact h.below.grown hg h.size (fun k hk=>(hok0.block_lt hk).1)
 ·intro i Li hLi
  by_cases hi:i=id
  ·simp_all
  ·simp only [Sg.put,hi,if_false] at hLi
   obtain⟨b1,c1,c2⟩:=h.dom i Li hLi
   grind
 ·intro i b hib hlb
  by_cases hi:i=id
  ·subst hi
   rw [hget] at hib
   cases hib
   exact⟨L',by simp [Sg.put],hok e⟩
  ·have hib' :=hold i b hi hib
   obtain⟨Li,hLi,hoki⟩:=h.boxes i b hib' hlb
   refine⟨Li,by simp [Sg.put,hi,hLi],hoki.kept e hg ?_⟩
   cases hLb:Li.v.ownBlock with
   | none=>exact .inl rfl
   | some g=>
    right
    intro hh
    exact hi (h.apart i id b bx Li L g hib' hb hlb hl hLi hL hLb hh.symm)
 ·intro i j b1 b2 L1 L2 g h1 h2 l1 l2 s1 s2 g1 g2
  by_cases hi:i=id
  ·by_cases hj:j=id
   ·rw [hi,hj]
   ·exfalso
    subst hi
    simp only [Sg.put,if_true] at s1
    cases s1
    simp only [Sg.put,hj,if_false] at s2
    have h2' :=hold j b2 hj h2
    obtain⟨L3,hL3,hok3⟩:=h.boxes j b2 h2' l2
    rw [s2] at hL3
    cases hL3
    rcases hnew g g1 with hh|hh
    ·exact hj (h.apart j i b2 bx L2 L g h2' hb l2 hl s2 hL g2 hh)
    ·have:=(hok3.block_lt g2).2;omega
  ·by_cases hj:j=id
   ·exfalso
    subst hj
    simp only [Sg.put,if_true] at s2
    cases s2
    simp only [Sg.put,hi,if_false] at s1
    have h1' :=hold i b1 hi h1
    obtain⟨L3,hL3,hok3⟩:=h.boxes i b1 h1' l1
    rw [s1] at hL3
    cases hL3
    rcases hnew g g2 with hh|hh
    ·exact hi (h.apart i j b1 bx L1 L g h1' hb l1 hl s1 hL g1 hh)
    ·have:=(hok3.block_lt g1).2;omega
   ·simp only [Sg.put,hi,hj,if_false] at s1 s2
    exact h.apart i j b1 b2 L1 L2 g (hold i b1 hi h1) (hold j b2 hj h2) l1 l2 s1 s2 g1 g2
 ·intro b c hc
  obtain⟨u,hu⟩:=h.cells b c hc
  exact⟨u,(hcell b c hc).trans hu⟩
 ·intro b c hc i b' Li hib hlb hLi hgi
  by_cases hi:i=id
  ·subst hi
   rw [hget] at hib
   cases hib
   simp only [Sg.put,if_true] at hLi
   cases hLi
   rw [hfl,hesz]
   rcases hnew b hgi with hh|hh
   ·exact h.floor b c hc i bx L hb hl hL hh
   ·obtain⟨u,hu⟩:=h.cells b c hc
    have:=cell_lt hu
    omega
  ·simp only [Sg.put,hi,if_false] at hLi
   exact h.floor b c hc i b' Li (hold i b' hi hib) hlb hLi hgi
 ·intro i b' hib hlb
  by_cases hi:i=id
  ·subst hi
   rw [hget] at hib
   cases hib
   rw [hfl]
   exact Nat.le_trans (h.low i bx hb hl) hlen'
  ·exact h.low i b' (hold i b' hi hib) hlb
 ·obtain⟨k1,k2,k3,k4⟩:=h.kept b hb
  refine⟨Nat.lt_of_lt_of_le k1 hg.size,(hg.block b k1 (fun hh=>k3 id L hL hh.symm)).trans k2,fun i Li hLi hgi=>?_,k4⟩
  by_cases hi:i=id
  ·subst hi
   simp only [Sg.put,if_true] at hLi
   grind
  ·simp only [Sg.put,hi,if_false] at hLi
   exact k3 i Li hLi hgi
end Go.Proofs.YtlabamnhpgoekaaGreatDoor.Le
namespace Go.Proofs.YtlabamnhpgoekaaGreatDoor.Le
open Go.RowKit (Below)
theorem flat_nil:flat []=[]:=rfl
theorem JC (u:Value) (us:List Value):flat (u::us)=u.cells.toList++flat us:=rfl
theorem LQ (us vs:List Value):flat (us++vs)=flat us++flat vs:=by simp [flat]
theorem flat_length {us:List Value} {e:Nat} (h:∀u∈us,u.cells.size=e):(flat us).length=us.length*e:=by
 induction us with
 | nil=>simp [flat_nil]
 | cons u us ih=>
  rw [JC,List.length_append,ih (fun v hv=>h v (by simp [hv]))]
  grind
theorem Wv {us:List Value} {e:Nat} (h:∀u∈us,u.cells.size=e) (k:Nat):∀u∈us.drop k,u.cells.size=e:=fun u hu=>h u (List.mem_of_mem_drop hu)
theorem Tq {us:List Value} {e:Nat} (h:∀u∈us,u.cells.size=e) (k:Nat):∀u∈us.take k,u.cells.size=e:=fun u hu=>h u (List.mem_of_mem_take hu)
theorem lW {us:List Value} {e:Nat} (h:∀u∈us,u.cells.size=e) (k:Nat):flat (us.drop k)=(flat us).drop (k*e):=by
 induction us generalizing k with
 | nil=>simp [flat_nil]
 | cons u us ih=>
  cases k with
  | zero=>simp
  | succ k=>
   have hu:=h u (by simp)
   rw [List.drop_succ_cons,ih (fun v hv=>h v (by simp [hv])),JC,Nat.add_mul,Nat.one_mul,List.drop_append]
   have h1:k*e+e - u.cells.toList.length=k*e:=by simp [hu]
   have h2:u.cells.toList.drop (k*e+e)=[]:=by apply List.drop_eq_nil_of_le;simp [hu]
   rw [h1,h2,List.nil_append]
theorem Tz {us:List Value} {e:Nat} (h:∀u∈us,u.cells.size=e) (k:Nat):flat (us.take k)=(flat us).take (k*e):=by
 induction us generalizing k with
 | nil=>simp [flat_nil]
 | cons u us ih=>
  cases k with
  | zero=>simp [flat_nil]
  | succ k=>
   have hu:=h u (by simp)
   rw [List.take_succ_cons,JC,ih (fun v hv=>h v (by simp [hv])),JC,Nat.add_mul,Nat.one_mul,List.take_append]
   grind
theorem nY {us:List Value} {e:Nat} (h:∀u∈us,u.cells.size=e) (off len:Nat):flat ((us.drop off).take len)=((flat us).drop (off*e)).take (len*e):=by
 rw [Tz (Wv h off),lW h]
theorem ZhM {us:List Value} {e:Nat} (h:∀u∈us,u.cells.size=e) {i:Nat} {u:Value} (hu:us[i]? = some u):∀j,j<e->(flat us)[i*e+j]? = u.cells.toList[j]?:=by
 induction us generalizing i with
 | nil=>simp at hu
 | cons v us ih=>
  intro j hj
  have hv:=h v (by simp)
  cases i with
  | zero=>
   simp at hu
   subst hu
   rw [JC,Nat.zero_mul,Nat.zero_add,List.getElem?_append_left (by simp [hv];exact hj)]
  | succ i=>
   simp at hu
   have:=ih (fun v hv=>h v (by simp [hv])) hu j hj
   rw [JC,List.getElem?_append_right (by simp [hv,Nat.add_mul];omega),<- this]
   grind
theorem oH {us:List Value} {e:Nat} (h:∀u∈us,u.cells.size=e) {i:Nat} {u u' : Value} (hu:us[i]? = some u) (hu' : u'.cells.size=e) :
  flat (us.set i u')=(flat us).take (i*e)++u'.cells.toList++(flat us).drop (i*e+e):=by
 induction us generalizing i with
 | nil=>simp at hu
 | cons v us ih=>
  have hv:=h v (by simp)
  cases i with
  | zero=>
   simp at hu
   subst hu
   rw [List.set_cons_zero,JC,JC]
   simp [hv]
  | succ i=>
   simp at hu
   rw [List.set_cons_succ,JC,ih (fun v hv=>h v (by simp [hv])) hu,JC,Nat.add_mul,Nat.one_mul]
   rw [List.take_append,List.drop_append]
   have h1:i*e+e - v.cells.toList.length=i*e:=by simp [hv]
   have h2:v.cells.toList.take (i*e+e)=v.cells.toList:=by apply List.take_of_length_le;simp [hv]
   simp_all
theorem nX {us:List Value} (h:∀u∈flat us,u.oneCell' = true) (k:Nat):∀u∈flat (us.drop k),u.oneCell' = true:=by
 intro u hu
 apply h
 simp only [flat,List.mem_flatMap] at hu ⊢
 grind
theorem XX {us:List Value} (h:∀u∈flat us,u.oneCell' = true) (k:Nat):∀u∈flat (us.take k),u.oneCell' = true:=by
 intro u hu
 apply h
 simp only [flat,List.mem_flatMap] at hu ⊢
 grind
def fzOf (σ:Sg) (H:Heap) (ids:List Nat) (b c:Nat):Prop:=
 ∃id bx L,id∈ids/\H[id]? = some bx/\bx.live=true/\σ.box id=some L/\L.v.ownBlock=some b/\c<bx.xs.length*L.AZ
def Sg.freeze (σ:Sg) (H:Heap) (ids:List Nat):Sg:={ σ with fz:=fun b c=>σ.fz b c\/fzOf σ H ids b c }
theorem Hl (H:Heap) (ids:List Nat) (i:Nat):(bump H ids)[i]? = (H[i]?).map fun b=>if i∈ids then { b with floor:=b.xs.length } else b:=by
 induction ids generalizing H with
 | nil=>simp [bump]
 | cons k ks ih=>
  rw [bump,ih,List.getElem?_modify]
  grind
theorem bump_length (H:Heap) (ids:List Nat):(bump H ids).length=H.length:=by
 induction ids generalizing H with
 | nil=>rfl
 | cons k ks ih=>rw [bump,ih];simp
theorem Zd4 (H:Heap) (ids:List Nat) (k:Nat):EL (bump H ids) k=EL H k:=by
 unfold EL
 rw [Hl,bump_length]
 grind
theorem Zq {w:World} {B:Nat} {e:TypeId} {AZ:Nat} {v:Value} {n:Nat} {xs:List Value} {g:Nat} (h:E5 w B e AZ v n xs) (hg:v.ownBlock=some g) :
  ∀j u,xs[j]? = some u->w.cell? ⟨g,j,none⟩=some u:=by
 intro j u hu
 have:=h.cells hg j u hu
 rw [Addr.add_mid,Nat.zero_add] at this
 exact this
theorem Inv.freeze {B w0 σ H w} (h:Inv B w0 σ H w) (ids:List Nat):Inv B w0 (σ.freeze H ids) (bump H ids) w/\Ext σ w (σ.freeze H ids) w:=by
 have e:Ext σ w (σ.freeze H ids) w:=⟨fun id L hL=>⟨L,hL,rfl,.inl rfl⟩,fun b c hc=>⟨.inl hc,rfl⟩,DF.refl _⟩
 have hget:∀i b,(bump H ids)[i]? = some b->∃b0,H[i]? = some b0/\b.live=b0.live/\b.xs=b0.xs/\b.elem=b0.elem/\b.AZ=b0.AZ/\b.DZ=b0.DZ/\b.row=b0.row/\(b.floor=if i∈ids then b0.xs.length else b0.floor):=by
  intro i b hb
  rw [Hl] at hb
  cases hh:H[i]? with
  | none=>simp [hh] at hb
  | some b0=>
   grind
 refine⟨⟨h.below,h.size,fun id L hL=>by
  obtain⟨b1,c1,c2⟩:=h.dom id L hL
  exact⟨if id∈ids then { b1 with floor:=b1.xs.length } else b1,by rw [Hl,c1];rfl,by split<;>exact c2⟩,?_,?_,?_,?_,?_,?_,?_⟩,e⟩
 ·intro id bx hb hl
  obtain⟨b0,h0,h1,h2,h3,h4,h5,h6,_⟩:=hget id bx hb
  obtain⟨L,hL,hok⟩:=h.boxes id b0 h0 (by rw [<- h1];exact hl)
  obtain⟨us,r1,r2,r3,r4⟩:=hok.CU
  refine⟨L,hL,⟨by rw [h2];exact hok.tot,⟨us,?_,r2,r3,?_⟩,by rw [h5];exact hok.DZ,by rw [h4];exact hok.AZ,by rw [h2];exact hok.oks,fun hr=>by rw [h2];exact hok.F7 (by rw [<- h6];exact hr)⟩⟩
  ·rw [h2];exact r1.ext e
  simp_all
 ·intro i j b1 b2 L1 L2 g h1 h2 l1 l2 s1 s2 g1 g2
  obtain⟨c1,k1,k2,_⟩:=hget i b1 h1
  obtain⟨c2,m1,m2,_⟩:=hget j b2 h2
  exact h.apart i j c1 c2 L1 L2 g k1 m1 (by rw [<- k2];exact l1) (by rw [<- m2];exact l2) s1 s2 g1 g2
 ·intro b c hc
  rcases hc with hc|⟨id,bx,L,_,hb,hl,hL,hg,hlt⟩
  ·exact h.cells b c hc
  ·obtain⟨L',hL',hok⟩:=h.boxes id bx hb hl
   rw [hL] at hL'
   cases hL'
   obtain⟨us,r1,r2,r3,r4⟩:=hok.CU
   have hlen:c<(flat us).length:=by rw [r4.1];exact hlt
   exact⟨_,Zq r4 hg c _ (List.getElem?_eq_getElem hlen)⟩
 ·intro b c hc i bx L hb hl hL hg
  obtain⟨b0,h0,h1,h2,h3,h4,h5,_,h6⟩:=hget i bx hb
  have hl0:b0.live=true:=by rw [<- h1];exact hl
  rcases hc with hc|⟨id,bx',L',hid,hb',hl',hL',hg',hlt⟩
  ·have:=h.floor b c hc i b0 L h0 hl0 hL hg
   rw [h6]
   split
   ·obtain⟨L2,hL2,hok⟩:=h.boxes i b0 h0 hl0
    rw [show σ.box i=some L from hL] at hL2
    cases hL2
    obtain⟨u,hu⟩:=h.cells b c hc
    exact Nat.lt_of_lt_of_le this (Nat.mul_le_mul_right _ (h.low i b0 h0 hl0))
   ·exact this
  ·have hi:id=i:=h.apart id i bx' b0 L' L b hb' h0 hl' hl0 hL' hL hg' hg
   subst hi
   rw [h0] at hb'
   cases hb'
   rw [show σ.box id=some L from hL] at hL'
   cases hL'
   rw [h6,if_pos hid]
   exact hlt
 ·intro i bx hb hl
  obtain⟨b0,h0,h1,h2,h3,h4,h5,_,h6⟩:=hget i bx hb
  rw [h6,h2]
  split
  ·exact Nat.le_refl _
  ·exact h.low i b0 h0 (by rw [<- h1];exact hl)
 ·intro b c hc hlt
  rcases hc with hc|⟨id,bx',L',hid,hb',hl',hL',hg',hlt'⟩
  ·exact h.old b c hc hlt
  ·obtain⟨L2,hL2,hok⟩:=h.boxes id bx' hb' hl'
   rw [show σ.box id=some L' from hL'] at hL2
   cases hL2
   have:=(hok.block_lt hg').1
   omega
 ·intro b hb
  obtain⟨k1,k2,k3,k4⟩:=h.kept b hb
  refine⟨k1,k2,k3,fun c hc=>?_⟩
  rcases hc with hc|⟨id,bx',L',hid,hb',hl',hL',hg',hlt'⟩
  ·exact k4 c hc
  grind
end Go.Proofs.YtlabamnhpgoekaaGreatDoor.Le
namespace Go.Proofs.YtlabamnhpgoekaaGreatDoor.Le
open Go.RowKit (Below)
theorem Qc {H:Heap} {id tot:Nat} {b:Box} (h:CB H id tot=some b):H[id]? = some b/\b.live=true/\b.xs.length=tot:=by
 unfold CB at h
 grind
structure Met (B:Nat) (w0:Start) (σ:Sg) (H:Heap) (w:World) (id:Nat) (b:Box) (L:Loc) (us:List Value):Prop where
 hb:H[id]? = some b
 live:b.live=true
 box:σ.box id=some L
 tot:L.tot=b.xs.length
 CU:AL σ w b.xs us
 sizes:∀u∈us,u.cells.size=L.AZ
 ones:∀u∈flat us,u.oneCell' = true
 own:E5 w B b.elem L.AZ L.v b.xs.length (flat us)
 DZ:b.DZ=true->L.v = .slice none 0 0
 AZ:b.AZ=L.AZ
 oks:∀x∈b.xs,okV x=true
 F7:b.row=true->∀x∈b.xs,BQ x=true
 shape:(L.v = .slice none 0 0/\b.xs=[]/\us=[])\/∃g cap cur tg,L.v = .slice (some ⟨g,0,none⟩) b.xs.length cap/\B<=g/\w.heap[g]? = some (.cells cur b.elem tg)/\noMark tg cur.size/\b.xs.length<=cap/\cap<=maxLen/\cur.size=cap*L.AZ/\cur.toList.take (b.xs.length*L.AZ)=flat us
theorem Inv.meet {B w0 σ H w} (h:Inv B w0 σ H w) {id:Nat} {b:Box} (hb:H[id]? = some b) (hl:b.live=true):∃L us,Met B w0 σ H w id b L us:=by
 obtain⟨L,hL,hok⟩:=h.boxes id b hb hl
 obtain⟨us,r1,r2,r3,r4⟩:=hok.CU
 refine⟨L,us,hb,hl,hL,hok.tot,r1,r2,r3,r4,hok.DZ,hok.AZ,hok.oks,hok.F7,?_⟩
 rcases r4.2 with ⟨hv,hn⟩|⟨g,cap,cur,tg,hv,hg,hh,htg,hn,hm,hs,ht⟩
 ·have hx:b.xs=[]:=List.eq_nil_of_length_eq_zero hn
  refine .inl ⟨hv,hx,?_⟩
  rw [hx] at r1
  exact r1.EN
 ·exact .inr ⟨g,cap,cur,tg,hv,hg,hh,htg,hn,hm,hs,ht⟩
theorem Met.fz {B w0 σ H w id b L us} (m:Met B w0 σ H w id b L us) (hr:b.row=true):∀x∈b.xs,Dp x=true:=fun x hx=>by
 simp [Dp,m.oks x hx,m.F7 hr x hx]
theorem Met.len {B w0 σ H w id b L us} (m:Met B w0 σ H w id b L us):us.length=b.xs.length:=m.CU.length.symm
theorem Met.cell {B w0 σ H w id b L us} (m:Met B w0 σ H w id b L us) {g:Nat} (hg:L.v.ownBlock=some g):∀j u,(flat us)[j]? = some u->w.cell? ⟨g,j,none⟩=some u:=
 Zq m.own hg
theorem L6 {B w0 σ H w} (h:Inv B w0 σ H w) {id off len tot:Nat} {v:Value} {b:Box} (hr:AL σ w [.Az id off len tot] [v]) (hb:CB H id tot=some b) :
  ∃L us,Met B w0 σ H w id b L us/\b.xs.length=tot/\off+len<=tot/\Z4I L.v L.AZ off len v /\
   ((L.v = .slice none 0 0/\v = .slice none 0 0/\off=0/\len=0/\tot=0) \/
    ∃g cap k,L.v = .slice (some ⟨g,0,none⟩) tot cap/\v = .slice (some ⟨g,k*L.AZ,none⟩) len (cap - off)/\tot<=cap/\cap<=maxLen/\k<=off/\(off<cap->k=off)):=by
 obtain⟨h1,h2,h3⟩:=Qc hb
 obtain⟨L,us,m⟩:=h.meet h1 h2
 cases hr with
 | Az k1 k2 k3 k4 _=>
  rename_i L'
  rw [m.box] at k1
  cases k1
  have htot:L.tot=tot:=m.tot.trans h3
  obtain⟨hol,hs⟩:=k3 htot
  refine⟨L,us,m,h3,hol,hs,?_⟩
  obtain⟨a,n,c,k,e1,e2,e3,e4,e5⟩:=hs
  rcases m.shape with ⟨hv,hx,hu⟩|⟨g,cap,cur,tg,hv,hg,hh,htg,hn,hm,hsz,ht⟩
  ·grind
  ·right
   rw [hv] at e1
   cases e1
   rw [h3] at hv hn
   refine⟨g,_,k,hv,?_,hn,hm,e4,e5⟩
   rw [e2]
   simp [Addr.add_mid]
theorem Xe {σ w es us} (h:AL σ w es us) (off len:Nat):AL σ w ((es.drop off).take len) ((us.drop off).take len):=(h.drop off).take len
theorem XN {B w0 σ H w} (h:Inv B w0 σ H w) {x x' : V} {v:Value} (hr:AL σ w [x] [v]) (hf:Ee H x=some x') (ids:List Nat) (hids:∀i∈Dn x,i∈ids) :
  AL (σ.freeze H ids) w [x'] [v]:=by
 have e:=(h.freeze ids).2
 unfold Ee at hf
 split at hf
 ·cases hf;exact hr.ext e
 ·cases hf;exact hr.ext e
 ·cases hf
  refine AL.ext ?_ e
  cases hr with
  | Eg _=>exact .Dj .nil
  | Es a _=>exact .EG a .nil
  | BR b o _ k0 k1 k2 k3 k4 k5 _=>exact .sl b o _ _ k0 k1 k2 k3 (Nat.le_refl _) k4 k5 .nil
 ·rename_i id off len tot
  split at hf
  ·rename_i b hb
   split at hf
   ·rename_i hc
    simp only [Bool.and_eq_true,decide_eq_true_eq] at hc
    simp only [Option.some.injEq] at hf
    subst hf
    obtain⟨L,us,m,hxl,hol,hs,hview⟩:=L6 h hr hb
    rcases hview with ⟨hv,hvv,ho,hl,ht⟩|⟨g,cap,k,hv,hvv,hle,hmx,hk1,hk2⟩
    ·have hx:b.xs=[]:=List.eq_nil_of_length_eq_zero (by omega)
     rw [hx,hvv]
     simp only [List.drop_nil,List.take_nil]
     exact .Dj .nil
    ·rw [m.AZ,hvv]
     have hlen:((b.xs.drop off).take len).length=len:=by simp;omega
     have hgoal:=AL.sl (σ:=σ.freeze H ids) (w:=w) (xs:=[]) (vs:=[]) (es:=(b.xs.drop off).take len) (us:=(us.drop off).take len) g (k*L.AZ) (cap - off) L.AZ
      ((Xe m.CU off len).ext e) (fun x hx=>m.fz hc.1 x (List.mem_of_mem_drop (List.mem_of_mem_take hx))) (Tq (Wv m.sizes off) len) (XX (nX m.ones off) len) (by rw [hlen];omega) (by omega) ?_ .nil
     ·simp_all
     ·intro j u hu
      rw [nY m.sizes] at hu
      have hj:j<len*L.AZ:=by
       have:=(List.getElem?_eq_some_iff.1 hu).1
       simp at this
       omega
      rw [List.getElem?_take,if_pos hj,List.getElem?_drop] at hu
      have hlpos:0<len:=by
       cases len with
       | zero=>simp at hj
       | succ n=>omega
      have hk:k=off:=hk2 (by omega)
      subst hk
      have hown:L.v.ownBlock=some g:=by rw [hv];rfl
      refine⟨.inr ⟨id,b,L,hids id (by simp [Dn]),m.hb,m.live,m.box,hown,?_⟩,m.cell hown _ _ hu⟩
      have:=(List.getElem?_eq_some_iff.1 hu).1
      rw [flat_length m.sizes,m.len] at this
      exact this
   ·cases hf
  ·cases hf
 ·cases hf;exact hr.ext e
 ·cases hf;exact hr.ext e
 ·cases hf
theorem Z1p {B w0 σ H w} (h:Inv B w0 σ H w) {x x' : V} {v:Value} (hr:AL σ w [x] [v]) (hf:Ee H x=some x'):BQ x' = true:=by
 unfold Ee at hf
 split at hf
 ·cases hf;rfl
 ·cases hf
  cases hr with
  | Dj _=>rfl
  | EG a _=>rfl
  | sl b o c e' _ h0 h1 h2 h3 h4 h5 _=>exact MZ h0
 ·cases hf
  cases hr with
  | Eg _=>rfl
  | Es a _=>rfl
  | BR b o e' _ h0 h1 h2 h3 h4 _=>exact MZ h0
 ·rename_i id off len tot
  split at hf
  ·rename_i b hb
   split at hf
   ·rename_i hc
    simp only [Bool.and_eq_true,decide_eq_true_eq] at hc
    simp only [Option.some.injEq] at hf
    subst hf
    obtain⟨L,us,m,_⟩:=L6 h hr hb
    exact(JA _).2 fun x hx=>m.F7 hc.1 x (List.mem_of_mem_drop (List.mem_of_mem_take hx))
   ·cases hf
  ·cases hf
 ·cases hf;rfl
 ·cases hf;rfl
 ·cases hf
theorem Zck {B w0 σ H w} (h:Inv B w0 σ H w) {xs xs' : List V} {vs:List Value} (hr:AL σ w xs vs) (hf:I4 H xs=some xs'):BJ xs' = true:=by
 induction xs generalizing xs' vs with
 | nil=>simp only [I4,Option.some.injEq] at hf;subst hf;rfl
 | cons x xs ih=>
  obtain⟨v,vs',rfl,h1,h2⟩:=hr.Cf
  simp only [I4] at hf
  split at hf
  ·rename_i w1 ws hw hws
   simp only [Option.some.injEq] at hf
   subst hf
   simp [BJ,Z1p h h1 hw,ih h2 hws]
  ·cases hf
theorem XL {B w0 σ H w} (h:Inv B w0 σ H w) {x x' : V} {v:Value} (hr:AL σ w [x] [v]) (hf:Fp H x=some x'):BQ x' = true:=by
 unfold Fp at hf
 split at hf
 ·rename_i cs
  cases hr with
  | agg h1 ho _=>
   cases hl:I4 H cs with
   | none=>simp [hl] at hf
   | some cs' =>
    simp only [hl,Option.map_some,Option.some.injEq] at hf
    subst hf
    exact Zck h h1 hl
 ·exact Z1p h hr hf
theorem TZ {B w0 σ H w} (h:Inv B w0 σ H w) {xs xs' : List V} {vs:List Value} (hr:AL σ w xs vs) (hf:EE H xs=some xs'):BJ xs' = true:=by
 induction xs generalizing xs' vs with
 | nil=>simp only [EE,Option.some.injEq] at hf;subst hf;rfl
 | cons x xs ih=>
  obtain⟨v,vs',rfl,h1,h2⟩:=hr.Cf
  simp only [EE] at hf
  split at hf
  ·rename_i w1 ws hw hws
   simp only [Option.some.injEq] at hf
   subst hf
   simp [BJ,XL h h1 hw,ih h2 hws]
  ·cases hf
theorem Zea {B w0 σ H w} (h:Inv B w0 σ H w) {xs xs' : List V} {vs:List Value} (hr:AL σ w xs vs) (hf:I4 H xs=some xs') (ids:List Nat) (hids:∀i∈xs.flatMap Dn,i∈ids) :
  AL (σ.freeze H ids) w xs' vs:=by
 induction xs generalizing xs' vs with
 | nil=>
  cases hr.EN
  simp only [I4,Option.some.injEq] at hf
  subst hf
  exact .nil
 | cons x xs ih=>
  obtain⟨v,vs',rfl,h1,h2⟩:=hr.Cf
  simp only [I4] at hf
  split at hf
  ·rename_i w1 ws hw hws
   simp only [Option.some.injEq] at hf
   subst hf
   refine AL.ED.2 ⟨XN h h1 hw ids (fun i hi=>hids i (by simp [hi])),ih h2 hws (fun i hi=>hids i ?_)⟩
   simp_all
  ·cases hf
theorem Xf {B w0 σ H w} (h:Inv B w0 σ H w) {x x' : V} {v:Value} (hr:AL σ w [x] [v]) (hf:Fp H x=some x') (ids:List Nat) (hids:∀i∈CV x,i∈ids) :
  AL (σ.freeze H ids) w [x'] [v]:=by
 unfold Fp at hf
 split at hf
 ·rename_i cs
  cases hr with
  | agg h1 ho _=>
   cases hl:I4 H cs with
   | none=>simp [hl] at hf
   | some cs' =>
    simp only [hl,Option.map_some,Option.some.injEq] at hf
    subst hf
    exact .agg (Zea h h1 hl ids (by simpa [CV] using hids)) ho .nil
 ·rename_i hne
  refine XN h hr hf ids (fun i hi=>hids i ?_)
  cases x<;>simp_all [CV,Dn]
theorem Wi {B w0 σ H w} (h:Inv B w0 σ H w) {xs xs' : List V} {vs:List Value} (hr:AL σ w xs vs) (hf:EE H xs=some xs') (ids:List Nat) (hids:∀i∈xs.flatMap CV,i∈ids) :
  AL (σ.freeze H ids) w xs' vs:=by
 induction xs generalizing xs' vs with
 | nil=>
  cases hr.EN
  simp only [EE,Option.some.injEq] at hf
  subst hf
  exact .nil
 | cons x xs ih=>
  obtain⟨v,vs',rfl,h1,h2⟩:=hr.Cf
  simp only [EE] at hf
  split at hf
  ·rename_i w1 ws hw hws
   simp only [Option.some.injEq] at hf
   subst hf
   refine AL.ED.2 ⟨Xf h h1 hw ids (fun i hi=>hids i (by simp [hi])),ih h2 hws (fun i hi=>hids i ?_)⟩
   simp_all
  ·cases hf
theorem iZ {σ w x v} (e:Nat) (h:AL σ w [x] [v]):AL σ w [Fb e x] [v]:=by
 unfold Fb
 split
 ·cases h with
  | Dj _=>exact .Dj .nil
 ·exact h
theorem ZaX {σ w}:∀(es:List Nat) {xs:List V} {vs:List Value},AL σ w xs vs->AL σ w (FQ es xs) vs:=by
 intro es
 induction es with
 | nil=>intro xs vs h;simpa [FQ] using h
 | cons e es ih=>
  intro xs vs h
  cases xs with
  | nil=>simpa [FQ] using h
  | cons x xs=>
   obtain⟨v,vs',rfl,h1,h2⟩:=h.Cf
   exact AL.ED.2 ⟨iZ e h1,ih h2⟩
theorem Ol {σ w x v} (es:List Nat) (h:AL σ w [x] [v]):AL σ w [DJ es x] [v]:=by
 unfold DJ
 split
 ·cases h with
  | agg h1 ho _=>exact .agg (ZaX es h1) ho .nil
 ·exact iZ _ h
theorem ZaZ {σ w} (es:List Nat) {xs:List V} {vs:List Value} (h:AL σ w xs vs):AL σ w (xs.map (DJ es)) vs:=by
 induction xs generalizing vs with
 | nil=>simpa using h
 | cons x xs ih=>
  obtain⟨v,vs',rfl,h1,h2⟩:=h.Cf
  exact AL.ED.2 ⟨Ol es h1,ih h2⟩
theorem fB {σ w} (rows:TypeId->List Nat):∀(ts:List TypeId) {xs:List V} {vs:List Value},AL σ w xs vs->AL σ w (Eo rows ts xs) vs:=by
 intro ts
 induction ts with
 | nil=>intro xs vs h;simpa [Eo] using h
 | cons t ts ih=>
  intro xs vs h
  cases xs with
  | nil=>simpa [Eo] using h
  | cons x xs=>
   obtain⟨v,vs',rfl,h1,h2⟩:=h.Cf
   exact AL.ED.2 ⟨Ol _ h1,ih h2⟩
theorem ZR (e:Nat) (x:V):BQ (Fb e x)=BQ x:=by
 unfold Fb;split<;>simp [BQ]
theorem Z9j:∀(es:List Nat) (xs:List V),BJ (FQ es xs)=BJ xs:=by
 intro es
 induction es with
 | nil=>intro xs;simp [FQ]
 | cons e es ih=>intro xs;cases xs<;>simp [FQ,BJ,ZR,ih]
theorem Oi (es:List Nat) (x:V):BQ (DJ es x)=BQ x:=by
 unfold DJ;split
 ·simp [BQ,Z9j]
 ·exact ZR _ _
theorem WC (rows:TypeId->List Nat):∀(ts:List TypeId) (xs:List V),BJ (Eo rows ts xs)=BJ xs:=by
 intro ts
 induction ts with
 | nil=>intro xs;simp [Eo]
 | cons t ts ih=>intro xs;cases xs<;>simp [Eo,BJ,Oi,ih]
theorem Zd2 (e:Nat) (x:V):okV (Fb e x)=okV x:=by
 unfold Fb;split<;>simp [okV]
theorem XW (es:List Nat) (x:V):okV (DJ es x)=okV x:=by
 unfold DJ;split
 ·simp [okV]
 ·exact Zd2 _ _
theorem Z8u:∀(es:List Nat) (xs:List V),(FQ es xs).length=xs.length:=by
 intro es
 induction es with
 | nil=>intro xs;simp [FQ]
 | cons e es ih=>intro xs;cases xs<;>simp [FQ,ih]
theorem ZbQ (e:Nat) (x:V):(Fb e x).cells.length=x.cells.length:=by
 unfold Fb;split<;>simp [V.cells]
theorem ZdP (es:List Nat) (x:V):(DJ es x).cells.length=x.cells.length:=by
 unfold DJ;split
 ·simp [V.cells,Z8u]
 ·exact ZbQ _ _
theorem AL.cells {σ w x v} (h:AL σ w [x] [v]) (ho:okV x=true):AL σ w x.cells v.cells.toList/\(∀u∈v.cells.toList,u.oneCell' = true):=by
 cases h with
 | und u h=>simp [okV] at ho
 | no h=>simp [okV] at ho
 | Aw _ h=>simp [okV] at ho
 | FI _ _ _ _ _ _ _=>simp [okV] at ho
 | agg h1 h2 _=>exact⟨by simpa [V.cells,Value.cells] using h1,by simpa [Value.cells] using h2⟩
 | lit hl _=>
  cases v<;>simp [leaf] at hl<;>simp [V.cells,Value.cells,Value.oneCell']<;>exact .lit (by simp [leaf,hl]) .nil
 | Dj h=>exact⟨.Dj .nil,by simp [Value.cells,Value.oneCell']⟩
 | Eg h=>exact⟨.Eg .nil,by simp [Value.cells,Value.oneCell']⟩
 | EG a h=>exact⟨.EG a .nil,by simp [Value.cells,Value.oneCell']⟩
 | Es a h=>exact⟨.Es a .nil,by simp [Value.cells,Value.oneCell']⟩
 | sl b o c e h0 h1 h2 h3 h4 h5 h6 _=>exact⟨.sl b o c e h0 h1 h2 h3 h4 h5 h6 .nil,by simp [Value.cells,Value.oneCell']⟩
 | BR b o e h0 h1 h2 h3 h4 h5 _=>exact⟨.BR b o e h0 h1 h2 h3 h4 h5 .nil,by simp [Value.cells,Value.oneCell']⟩
 | Az h1 h2 h3 h4 _=>
  obtain⟨a,n,c,rfl⟩:=h4
  exact⟨.Az h1 h2 h3 ⟨a,n,c,rfl⟩ .nil,by simp [Value.cells,Value.oneCell']⟩
 | ptr g h1 h2 h3 h4 _=>
  subst h4
  exact⟨.ptr g h1 h2 h3 rfl .nil,by simp [Value.cells,Value.oneCell']⟩
 | BK b o e i off h0 h1 h2 h3 h4 _=>exact⟨.BK b o e i off h0 h1 h2 h3 h4 .nil,by simp [Value.cells,Value.oneCell']⟩
 | fn h1 h2 _=>exact⟨.fn h1 h2 .nil,by simp [Value.cells,Value.oneCell']⟩
 | FD h1 _=>exact⟨.FD h1 .nil,by simp [Value.cells,Value.oneCell']⟩
theorem AL.OG {σ w x v} (h:AL σ w [x] [v]) (ho:okV x=true):x.cells.length=v.cells.size:=by
 have:=(h.cells ho).1.length
 simpa using this
end Go.Proofs.YtlabamnhpgoekaaGreatDoor.Le
namespace Go.Proofs.YtlabamnhpgoekaaGreatDoor.Le
open Go.RowKit (Below)
structure BP (E:Env):Prop where
 ti:∀t i,E.ti t=some i->Ip E.P t=some i
 func:∀f fn,E.func f=some fn->E.P.funcs[f]? = some fn/\(fn.name == "runtime.NumGoroutine")=false
 mix:E.P.follows .mixedOrders=true
 calm:∀f fn c,E.func f=some fn->fn.body=some c->DD E f c=true
 kind:∀t k,E.kind t=some k->E.P.underlying t=some (.int k)
 isStr:∀t,E.isStr t=true->E.P.underlying t=some .string
 isBool:∀t,E.isBool t=true->E.P.underlying t=some .bool
 flat:∀t ks,E.flat t=some ks->YT E.P t=some ks
 isBytes:∀t,E.isBytes t=true->∃e,E.P.underlying t=some (.slice e)/\E.P.underlying e=some (.int .u8)
def CW (E:Env) (σ:Sg) (w:World):Prop:=∀g r,E.Ci g=some r->AL σ w [.BK r.length [.agg r] 0 0] [.pointer (some ⟨g,0,none⟩)]
theorem CW.ext {E σ w σ' w'} (h:CW E σ w) (e:Ext σ w σ' w'):CW E σ' w' :=fun g r hg=>(h g r hg).ext e
theorem Z0F (σ:Sg) (w:World) (v:Value) (h:RS v=true):AL σ w [Lm v] [v]/\v.oneCell' = true:=by
 unfold Lm
 split
 ·exact⟨.Dj .nil,rfl⟩
 ·rename_i hne
  have hl:leaf v=true:=by
   unfold RS at h
   split at h
   ·exact absurd rfl hne
   ·exact h
  rw [if_pos hl]
  exact⟨.lit hl .nil,by cases v<;>simp_all [leaf,Value.oneCell']⟩
theorem ZaT (σ:Sg) (w:World) (vs:List Value) (h:vs.all RS=true):AL σ w (vs.map Lm) vs/\∀u∈vs,u.oneCell' = true:=by
 induction vs with
 | nil=>exact⟨.nil,by simp⟩
 | cons v vs ih=>
  simp only [List.all_cons,Bool.and_eq_true] at h
  obtain⟨h1,h2⟩:=Z0F σ w v h.1
  obtain⟨h3,h4⟩:=ih h.2
  exact⟨AL.ED.2 ⟨h1,h3⟩,by simp_all⟩
theorem TU (σ:Sg) (w:World) (v:Value):AL σ w [NI v] [v]:=by
 have hcell:∀u:Value,AL σ w [if RS u then Lm u else .und] [u]:=by
  intro u
  split
  ·rename_i h;exact(Z0F σ w u h).1
  ·exact .und _ .nil
 cases v with
 | agg cs=>
  simp only [NI]
  split
  ·rename_i h
   obtain⟨h1,h2⟩:=ZaT σ w cs.toList h
   have:=AL.agg h1 h2 (xs:=[]) (vs:=[]) .nil
   simpa using this
  ·exact .und _ .nil
 | tuple vs=>
  simp only [NI]
  split
  ·rename_i h
   have:vs = #[]:=by simpa using h
   subst this
   exact .no .nil
  ·exact .und _ .nil
 | bool b=>exact hcell (.bool b)
 | int k n=>exact hcell (.int k n)
 | float k b=>exact hcell (.float k b)
 | complex k a b=>exact hcell (.complex k a b)
 | string s=>exact hcell (.string s)
 | pointer a=>exact hcell (.pointer a)
 | slice a n c=>exact hcell (.slice a n c)
 | map r=>exact hcell (.map r)
 | chan r=>exact hcell (.chan r)
 | func f a b=>exact hcell (.func f a b)
 | nilFunc=>exact hcell .nilFunc
 | iface t v=>exact hcell (.iface t v)
 | nilIface=>exact hcell .nilIface
theorem Z1K {σ w s vs} (h:AL σ w s vs) (t:Nat):AL σ w [s.getD t .und] [vs.getD t undef]:=by
 cases hs:s[t]? with
 | none=>simp only [List.getD,hs,Option.getD_none];exact .und _ .nil
 | some x=>
  obtain⟨v,hv,hr⟩:=h.get hs
  simp_all
theorem D8 {E σ w s} {a:Act} (hg:CW E σ w) (h:AL σ w s a.tmps.toList) (x:Operand):AL σ w [ev E s x] [a.eval x]:=by
 cases x with
 | tmp t=>
  have:=Z1K h t
  simpa [ev,Act.eval,Array.getD_eq_getD_getElem?,List.getD_eq_getElem?_getD] using this
 | const v=>exact TU σ w v
 | func f=>exact .fn .nil .nil .nil
 | global g=>
  simp only [ev,Act.eval]
  cases hh:E.Ci g with
  | none=>exact .und _ .nil
  | some r=>exact hg g r hh
theorem XZ {E σ w s} {a:Act} (hg:CW E σ w) (h:AL σ w s a.tmps.toList) (xs:List Operand):AL σ w (xs.map (ev E s)) (xs.map a.eval):=by
 induction xs with
 | nil=>exact .nil
 | cons x xs ih=>exact AL.ED.2 ⟨D8 hg h x,ih⟩
theorem Dz {P:Program} {t:TypeId} {i:TI} (h:Ip P t=some i):∃inf d,P.info? t=some inf/\P.underlying t=some d/\i.ty=JM d/\i.size=inf.size/\i.bytes=inf.bytes/\i.zero=inf.zero.map NI:=by
 unfold Ip at h
 grind
theorem lZ {P:Program} {t:TypeId} {d:TypeDesc} (w:World) (h:P.underlying t=some d):(isAgg t).run P w = .ok d.isRow w:=by
 unfold isAgg
 rw [Sem.run_bind,run_underlying h w]
 cases d<;>rfl
theorem Z31 {i:TI} {d:TypeDesc} (h:i.ty=JM d):i.isAgg=d.isRow:=by
 unfold TI.isAgg
 rw [h]
 cases d<;>rfl
theorem run_sizeOf {P:Program} {t:TypeId} {inf:TypeInfo} (w:World) (h:P.info? t=some inf):(sizeOf t).run P w = .ok inf.size w:=by
 simp [sizeOf,typeInfo,h]
theorem Z1I {σ w} {cs:List V} {ws:List Value} (h:AL σ w cs ws) (ho:∀u∈ws,u.oneCell' = true) {off n:Nat} {ag:Bool} {x' : V} (hp:partOf cs off n ag=some x') :
  (ag=true/\off+n<=ws.length/\AL σ w [x'] [.agg ((ws.drop off).take n).toArray])\/(ag=false/\∃u,ws[off]? = some u/\AL σ w [x'] [u]):=by
 unfold partOf at hp
 split at hp
 ·rename_i hag
  split at hp
  ·rename_i hle
   simp only [Option.some.injEq] at hp
   subst hp
   refine .inl ⟨hag,by rw [<- h.length];exact hle,.agg (Xe h off n) ?_ .nil⟩
   grind
  ·cases hp
 ·rename_i hag
  obtain⟨u,hu,hr⟩:=h.get hp
  simp_all
theorem Z2l {E σ w} {P:Program} (hE:BP E) (hP:E.P=P) {t:TypeId} {ti:TI} (hti:E.ti t=some ti) {xs:List V} {us:List Value} {e b o i off:Nat} {x' : V}
  (h:AL σ w xs us) (hk:∀x∈xs,okV x=true) (hs:∀u∈us,u.cells.size=e) (ho:∀u∈flat us,u.oneCell' = true)
  (hc:∀j u,(flat us)[j]? = some u->w.cell? ⟨b,o+j,none⟩=some u) (hr:Lh xs i off ti.size ti.isAgg=some x') :
  ∃u,(loadVar t ⟨b,o+i*e+off,none⟩).run P w = .ok u w/\AL σ w [x'] [u]:=by
 unfold Lh at hr
 split at hr
 ·rename_i x hx
  obtain⟨uu,hu,hxr⟩:=h.get hx
  have hok:=hk x (List.mem_of_getElem? hx)
  obtain⟨hcr,hco⟩:=hxr.cells hok
  have hsz:uu.cells.size=e:=hs uu (List.mem_of_getElem? hu)
  obtain⟨inf,d,hi,hd,h1,h2,h3,h4⟩:=Dz (hE.ti t ti hti)
  rw [hP] at hi hd
  have hag:=Z31 h1
  have hcell:∀j u,uu.cells.toList[j]? = some u->w.cell? ⟨b,o+(i*e+j),none⟩=some u:=by
   intro j u hj
   have hlt:j<e:=by
    have:=(List.getElem?_eq_some_iff.1 hj).1
    simpa [hsz] using this
   exact hc _ _ (by rw [ZhM hs hu j hlt];exact hj)
  rcases Z1I hcr hco hr with ⟨ha,hle,hres⟩|⟨ha,u,hu',hres⟩
  ·refine⟨_,run_loadVar_mid (P:=P) w b (o+i*e+off) t _ d ?_ hd (by rw [<- hag];exact ha) ?_,hres⟩
   ·intro j v hv
    grind
   grind
  ·refine⟨u,?_,hres⟩
   have hnag:d.isRow=false:=by rw [<- hag];exact ha
   have:=hcell _ _ hu'
   have hcell' : w.cell? ⟨b,o+i*e+off,none⟩=some u:=by rw [<- this];congr 2;omega
   unfold loadVar
   rw [Sem.run_bind,lZ w hd,hnag]
   simp [load,Sem.run,hcell']
 ·cases hr
theorem Z3n {E B w0 σ H w} {P:Program} (hE:BP E) (hP:E.P=P) (h:Inv B w0 σ H w) {t:TypeId} {a x' : V} {av:Value} (ha:AL σ w [a] [av]) (hl:Jf E H t a=some x') :
  ∃u,(Instr.loadAt t av).run P w = .ok u w/\AL σ w [x'] [u]:=by
 unfold Jf at hl
 split at hl
 ·cases hl
 ·rename_i ti hti
  split at hl
  ·rename_i e xs j off
   cases ha with
   | BK b o e i off k0 k1 k2 k3 k4 _=>
    rename_i us
    obtain⟨u,hu,hr⟩:=Z2l hE hP hti (o:=o) k0 (o8 k1) k2 k3 (fun j u hj=>(k4 j u hj).2) hl
    exact⟨u,by simp only [Instr.loadAt,Instr.sureAddr,Sem.run_bind,Sem.run_pure,Result.andThen_ok,hu],hr⟩
  ·rename_i id j off tot
   split at hl
   ·rename_i b hb
    obtain⟨h1,h2,h3⟩:=Qc hb
    obtain⟨L,us,m⟩:=h.meet h1 h2
    cases ha with
    | ptr g k1 k2 k3 k4 _=>
     rename_i L'
     rw [m.box] at k1
     cases k1
     obtain⟨n,c,hv⟩:=k3 (m.tot.trans h3)
     have hown:L.v.ownBlock=some g:=by rw [hv];rfl
     subst k4
     obtain⟨u,hu,hr⟩:=Z2l hE hP hti (o:=0) (b:=g) m.CU m.oks m.sizes m.ones (fun j u hj=>by rw [Nat.zero_add];exact m.cell hown j u hj) hl
     rw [Nat.zero_add] at hu
     exact⟨u,by simp only [Instr.loadAt,Instr.sureAddr,Sem.run_bind,Sem.run_pure,Result.andThen_ok,hu],hr⟩
   ·cases hl
  ·cases hl
end Go.Proofs.YtlabamnhpgoekaaGreatDoor.Le
namespace Go.Proofs.YtlabamnhpgoekaaGreatDoor.Le
open Go.RowKit (Below)
theorem Zbs {α:Type} (A U C R vals:List α) (off k:Nat) (hk:vals.length=k) (hU:off+k<=U.length) :
  (A++U++C++R).take (A.length+off)++vals++(A++U++C++R).drop (A.length+off+k)=A++(U.take off++vals++U.drop (off+k))++C++R:=by
 have h1:(A++U++C++R).take (A.length+off)=A++U.take off:=by
  rw [List.append_assoc,List.append_assoc,List.take_append,List.take_of_length_le (by omega)]
  congr 1
  rw [show A.length+off - A.length=off from by omega,List.take_append]
  rw [show off - U.length=0 from by omega]
  simp
 have h2:(A++U++C++R).drop (A.length+off+k)=U.drop (off+k)++C++R:=by
  rw [List.append_assoc,List.append_assoc,List.drop_append,List.drop_eq_nil_of_le (by omega),List.nil_append]
  rw [show A.length+off+k - A.length=off+k from by omega,List.drop_append]
  rw [show off+k - U.length=0 from by omega]
  simp
 simp_all
theorem ZbV {σ w} {x x' : V} {uu:Value} {cs:List V} {vals:List Value} {off:Nat} (hx:AL σ w [x] [uu]) (hok:okV x=true) (hc:AL σ w cs vals) (ho:∀u∈vals,u.oneCell' = true)
  (h:JY x off cs=some x') :
  off+vals.length<=uu.cells.size/\∃uu',AL σ w [x'] [uu']/\uu'.cells.toList=uu.cells.toList.take off++vals++uu.cells.toList.drop (off+vals.length):=by
 unfold JY at h
 split at h
 ·rename_i ds
  split at h
  ·rename_i hle
   simp only [Option.some.injEq] at h
   subst h
   cases hx with
   | agg h1 h2 h3=>
    rename_i ws
    have hlen:=h1.length
    have hcl:=hc.length
    refine⟨by simp [Value.cells];omega,.agg (ws.take off++vals++ws.drop (off+vals.length)).toArray,?_,by simp [Value.cells]⟩
    rw [hcl]
    refine .agg ((h1.take off).append hc |>.append (h1.drop _)) ?_ .nil
    grind
  ·cases h
 ·rename_i hna
  split at h
  ·rename_i c
   simp only [Option.some.injEq] at h
   subst h
   obtain⟨v,vs',rfl,h1,h2⟩:=hc.Cf
   cases h2.EN
   have hone:uu.cells.size=1:=by
    have:=hx.OG hok
    cases x<;>simp_all [V.cells]
   have hvone:v.cells = #[v]:=by
    have:=ho v (by simp)
    cases v<;>simp_all [Value.cells,Value.oneCell']
   refine⟨by simp [hone],v,h1,?_⟩
   rw [hvone]
   have:uu.cells.toList.drop (0+[v].length)=[]:=by apply List.drop_eq_nil_of_le;simp [hone]
   rw [this]
   simp
  ·cases h
theorem Z2H {B w0 σ H w} {P:Program} (h:Inv B w0 σ H w) {id:Nat} {b:Box} {L:Loc} {us:List Value} (m:Met B w0 σ H w id b L us) {g n c:Nat} (hv:L.v = .slice (some ⟨g,0,none⟩) n c)
  {j off:Nat} {x x' x'' : V} {cs:List V} {vals:List Value} (hx:b.xs[j]? = some x) (hc:AL σ w cs vals) (ho:∀u∈vals,u.oneCell' = true) (hs:JY x off cs=some x') (hxx:∀σ w v,AL σ w [x'] [v]->AL σ w [x''] [v]) (hok:okV x'' = true) (hnr:b.row=true->BQ x'' = true) (hfl:b.floor<=j) :
  ∃w',(storeCells ⟨g,j*L.AZ+off,none⟩ vals).run P w = .ok () w' /\ Inv B w0 (σ.put id L) (H.set id { b with xs:=b.xs.set j x'' }) w' /\ Ext σ w (σ.put id L) w' :=by
 obtain⟨uu,hu,hxr⟩:=m.CU.get hx
 have hokx:=m.oks x (List.mem_of_getElem? hx)
 obtain⟨hle,uu',hr',hcells⟩:=ZbV hxr hokx hc ho hs
 have hsz:uu.cells.size=L.AZ:=m.sizes uu (List.mem_of_getElem? hu)
 have hsz' : uu'.cells.size=L.AZ:=by
  have:=congrArg List.length hcells
  simp at this
  omega
 rcases m.shape with ⟨hn,_,_⟩|⟨g',cap,cur,tg,hv',hB,hh,htg,hn,hm,hcs,ht⟩
 ·rw [hn] at hv;cases hv
 ·rw [hv'] at hv
  cases hv
  have hjlen:j<b.xs.length:=(List.getElem?_eq_some_iff.1 hx).1
  have hje:j*L.AZ+L.AZ<=b.xs.length*L.AZ:=by
   rw [<- Nat.succ_mul];exact Nat.mul_le_mul_right _ hjlen
  have hce:b.xs.length*L.AZ<=c*L.AZ:=Nat.mul_le_mul_right _ hn
  have hfit:j*L.AZ+off+0+vals.length<=cur.size:=by omega
  have hrun:=Vp P g (j*L.AZ+off) b.elem tg vals 0 cur w hh htg hfit ho
  simp only [Nat.add_zero] at hrun
  have hF:flat us=(flat us).take (j*L.AZ)++uu.cells.toList++(flat us).drop (j*L.AZ+L.AZ):=by
   have:=oH m.sizes hu hsz
   rw [<- this]
   congr 1
   apply List.ext_getElem?
   intro i
   rw [List.getElem?_set]
   split
   ·grind
   ·rfl
  have hA:((flat us).take (j*L.AZ)).length=j*L.AZ:=by
   rw [List.length_take,flat_length m.sizes,m.len];omega
  have hcur:cur.toList=(flat us).take (j*L.AZ)++uu.cells.toList++(flat us).drop (j*L.AZ+L.AZ)++cur.toList.drop (b.xs.length*L.AZ):=by
   rw [<- hF,<- ht,List.take_append_drop]
  have hsp:=Zbs ((flat us).take (j*L.AZ)) uu.cells.toList ((flat us).drop (j*L.AZ+L.AZ)) (cur.toList.drop (b.xs.length*L.AZ)) vals off vals.length rfl (by simpa using hle)
  rw [hA,<- hcur] at hsp
  rw [hsp] at hrun
  have hflat' : flat (us.set j uu')=(flat us).take (j*L.AZ)++(uu.cells.toList.take off++vals++uu.cells.toList.drop (off+vals.length))++(flat us).drop (j*L.AZ+L.AZ):=by
   rw [oH m.sizes hu hsz',hcells]
  rw [<- hflat'] at hrun
  have hsizes' : ∀u∈us.set j uu',u.cells.size=L.AZ:=by
   intro u hu'
   rcases List.mem_or_eq_of_mem_set hu' with hu' | hu'
   ·exact m.sizes u hu'
   ·rw [hu'];exact hsz'
  have hlen' : (flat (us.set j uu')).length=b.xs.length*L.AZ:=by
   rw [flat_length hsizes',List.length_set,m.len]
  have hheap:=setRow_heap w g cur (flat (us.set j uu')++cur.toList.drop (b.xs.length*L.AZ)).toArray b.elem tg hh
  have hown:L.v.ownBlock=some g:=by rw [hv'];rfl
  have hgb:w.grownBy (w.setRow g (flat (us.set j uu')++cur.toList.drop (b.xs.length*L.AZ)).toArray) L.v.ownBlock:=
   ⟨rfl,rfl,rfl,by simp,fun k _ hk=>setRow_other w g k _ (fun e=>hk (by rw [hown,e]))⟩
  refine⟨_,hrun,?_⟩
  refine h.upd m.hb m.live m.box hgb { b with xs:=b.xs.set j x'' } m.live L rfl (.inl rfl) rfl (by simp) (fun g' hg' =>.inl hg') ?_ ?_
  ·intro g' c' hg' hc'
   rw [hown] at hg'
   cases hg'
   have hlt:c' < j*L.AZ:=Nat.lt_of_lt_of_le hc' (Nat.mul_le_mul_right _ hfl)
   rw [cell_setRow_same w g c' cur _ b.elem tg hh,cell_of_row w g c' cur b.elem tg hh]
   rw [List.getElem?_toArray,<- Array.getElem?_toList,hcur,hflat']
   have hlt' : c' < ((flat us).take (j*L.AZ)).length:=by rw [hA];exact hlt
   rw [List.append_assoc,List.append_assoc,List.getElem?_append_left hlt',List.append_assoc,List.append_assoc,List.getElem?_append_left hlt']
  ·intro e
   refine⟨by simpa using m.tot,⟨us.set j uu',(m.CU.ext e).set j (hxx _ _ _ (hr'.ext e)),hsizes',?_,?_⟩,m.DZ,m.AZ,?_,fun hrow=>?_⟩
   ·intro u hu'
    rw [hflat'] at hu'
    simp only [List.mem_append] at hu'
    rcases hu' with (hu' | (hu' | hu')|hu')|hu'
    ·exact m.ones u (List.mem_of_mem_take hu')
    ·have:=(hxr.cells hokx).2 u (List.mem_of_mem_take hu');exact this
    ·exact ho u hu'
    ·exact(hxr.cells hokx).2 u (List.mem_of_mem_drop hu')
    ·exact m.ones u (List.mem_of_mem_drop hu')
   ·refine⟨by simpa using hlen',.inr ⟨g,c,_,tg,by simpa using hv',hB,hheap,?_,by simpa using hn,hm,?_,?_⟩⟩
    ·have:(flat (us.set j uu')++cur.toList.drop (b.xs.length*L.AZ)).toArray.size=cur.size:=by
      simp only [List.size_toArray,List.length_append,hlen',List.length_drop,Array.length_toList,hcs]
      omega
     grind
    ·grind
    ·simp only [List.length_set]
     rw [List.take_append_of_le_length (by omega),List.take_of_length_le (by omega)]
   ·intro y hy
    rcases List.mem_or_eq_of_mem_set hy with hy|hy
    ·exact m.oks y hy
    ·rw [hy];exact hok
   ·intro y hy
    rcases List.mem_or_eq_of_mem_set hy with hy|hy
    ·exact m.F7 hrow y hy
    grind
theorem Z9Y {x x' : V} {off:Nat} {cs:List V} (hx:BQ x=true) (hc:BJ cs=true) (hs:JY x off cs=some x'):BQ x' = true:=by
 unfold JY at hs
 split at hs
 ·rename_i ds
  split at hs
  ·simp only [Option.some.injEq] at hs
   subst hs
   rw [show BQ (.agg (ds.take off++cs++ds.drop (off+cs.length)))=BJ (ds.take off++cs++ds.drop (off+cs.length)) from rfl,JA]
   have hd:∀y∈ds,BQ y=true:=(JA ds).1 hx
   have hc' :=(JA cs).1 hc
   grind
  ·cases hs
 ·split at hs
  ·simp only [Option.some.injEq] at hs
   subst hs
   simpa [BJ] using hc
  ·cases hs
theorem Z0x {P:Program} {t:TypeId} {b o:Nat} {v:Value} {inf:TypeInfo} {w w' : World} (hi:P.info? t=some inf) (hs:v.cells.size=inf.size)
  (h:(storeCells ⟨b,o,none⟩ v.cells.toList).run P w = .ok () w'):(Instr.storeAt t (.pointer (some ⟨b,o,none⟩)) v).run P w = .ok () w' :=by
 simp [Instr.storeAt,Instr.sureAddr,storeVar,sizeOf,typeInfo,hi,hs,h]
theorem ZgE {E B w0 σ H w} {P:Program} (hE:BP E) (hP:E.P=P) (h:Inv B w0 σ H w) {t:TypeId} {a x:V} {av xv:Value} {H' : Heap}
  (ha:AL σ w [a] [av]) (hx:AL σ w [x] [xv]) (hs:JZ E H t a x=some H') :
  ∃w' σ',(Instr.storeAt t av xv).run P w = .ok () w' /\ Inv B w0 σ' H' w' /\ Ext σ w σ' w' :=by
 unfold JZ at hs
 split at hs
 ·cases hs
 ·rename_i ti hti
  obtain⟨inf,d,hi,hd,h1,h2,h3,h4⟩:=Dz (hE.ti t ti hti)
  rw [hP] at hi hd
  split at hs
  ·rename_i id j off tot
   split at hs
   ·rename_i b hb
    obtain⟨b1,b2,b3⟩:=Qc hb
    split at hs
    ·rename_i y hy
     split at hs
     ·rename_i hc
      simp only [Bool.and_eq_true,beq_iff_eq,decide_eq_true_eq] at hc
      obtain⟨⟨c1,c2⟩,c3⟩:=hc
      have hsz:xv.cells.size=inf.size:=by rw [<- hx.OG c3,c1,h2]
      cases ha with
      | ptr g k1 k2 k3 k4 k5=>
       rename_i L'
       subst k4
       split at hs
       ·
        split at hs
        ·rename_i x' hf
         split at hs
         ·rename_i y1 hy1
          obtain⟨y',hy',hyy⟩:∃y',JY y off x'.cells=some y' /\ DJ (E.rows b.elem) y' = y1:=by
           simp_all
          split at hs
          ·cases hs
          ·rename_i hcc
           simp only [Option.some.injEq] at hs
           subst hs
           simp only [Bool.or_eq_true,Bool.not_eq_true',List.contains_eq_mem,decide_eq_true_eq,not_or,Bool.not_eq_false] at hcc
           obtain⟨⟨n1,n2⟩,n3⟩:=hcc
           obtain⟨hI,hEx⟩:=h.freeze (CV x)
           have hxr:=Xf h hx hf (CV x) (fun i hi=>hi)
           have hb' : (bump H (CV x))[id]? = some b:=by rw [Hl,b1];simp [n1]
           obtain⟨L,us,m⟩:=hI.meet hb' b2
           have hL:L' = L:=by
            have:=m.box
            simp only [Sg.freeze] at this
            rw [k1] at this
            cases this
            rfl
           subst hL
           obtain⟨n,c,hv⟩:=k3 (m.tot.trans b3)
           obtain⟨hcr,hco⟩:=hxr.cells n2
           obtain⟨w',hrun,hI',hEx'⟩:=Z2H (P:=P) hI m hv hy hcr hco hy' (fun σ w v hq=>by rw [<- hyy];exact Ol _ hq) n3 (fun hrow=>by rw [<- hyy,Oi];exact Z9Y (m.F7 hrow _ (List.mem_of_getElem? hy)) (Zb2 (XL h hx hf)) hy') c2
           exact⟨w',_,Z0x hi hsz hrun,hI',hEx.trans hEx'⟩
         ·cases hs
        ·cases hs
       ·split at hs
        ·rename_i y' hy'
         split at hs
         ·rename_i n3
          simp only [Option.some.injEq] at hs
          subst hs
          obtain⟨L,us,m⟩:=h.meet b1 b2
          have hL:L' = L:=by
           have:=m.box
           rw [k1] at this
           cases this
           rfl
          subst hL
          obtain⟨n,c,hv⟩:=k3 (m.tot.trans b3)
          obtain⟨hcr,hco⟩:=hx.cells c3
          obtain⟨w',hrun,hI',hEx'⟩:=Z2H (P:=P) h m hv hy hcr hco hy' (fun _ _ _ hq=>hq) n3 (fun hrow=>absurd hrow (by assumption)) c2
          exact⟨w',_,Z0x hi hsz hrun,hI',hEx'⟩
         ·cases hs
        ·cases hs
     ·cases hs
    ·cases hs
   ·cases hs
  ·cases hs
theorem grownBy_refl (w:World) (row:Option Nat):w.grownBy w row:=⟨rfl,rfl,rfl,Nat.le_refl _,fun _ _ _=>rfl⟩
theorem Z2n {B w0 σ H w} (h:Inv B w0 σ H w) {k:Nat} (hk0:EL H k=true) {xs:List V} {us:List Value} {e n:Nat} (t:TypeId) (row:Bool) (hr:AL σ w xs us) (hnr:row=true->∀x∈xs,BQ x=true) (hk:∀x∈xs,okV x=true) (hs:∀u∈us,u.cells.size=e)
  (ho:∀u∈flat us,u.oneCell' = true) (hn:xs.length<=maxLen) :
  ∃σ',Inv B w0 σ' (place H k (BH row false t e xs)) (w.alloc (.cells (flat us).toArray t))/\Ext σ w σ' (w.alloc (.cells (flat us).toArray t)) /\
   σ'.box k=some ⟨.slice (some ⟨w.heap.size,0,none⟩) xs.length xs.length,xs.length,e⟩:=by
 have hlen:us.length=xs.length:=hr.length.symm
 have hsz:(flat us).toArray.size=xs.length*e:=by simp [flat_length hs,hlen]
 have hown:=E5.of (World.ownsRow_lit (base:=B) (e:=t) (size:=e) w (flat us).toArray xs.length h.size hn hsz)
 obtain⟨h1,h2⟩:=h.push (w.grownBy_alloc (.cells (flat us).toArray t) none) hk0 (BH row false t e xs) rfl ⟨.slice (some ⟨w.heap.size,0,none⟩) xs.length xs.length,xs.length,e⟩ (by simp [BH])
  (fun g hg=>by simp [Value.ownBlock] at hg;omega) (fun ex=>⟨rfl,⟨us,hr.ext ex,hs,ho,by simpa [BH] using hown⟩,by simp [BH],rfl,hk,hnr⟩)
 exact⟨_,h1,h2,by simp [Sg.put]⟩
theorem KI (u:Value):flat [u]=u.cells.toList:=by simp [flat]
theorem ZcH {P:Program} (w:World) (t:TypeId) (v:Value):(newVar t v).run P w = .ok ⟨w.heap.size,0,none⟩ (w.alloc (.cells v.cells t)):=by
 rfl
theorem Z1B {B w0 σ H w} {P:Program} (h:Inv B w0 σ H w) {k:Nat} (hk0:EL H k=true) {x:V} {u:Value} {e:Nat} (t:TypeId) (hr:AL σ w [x] [u]) (hk:okV x=true) (hs:x.cells.length=e) :
  ∃w' σ',(newVar t u).run P w = .ok ⟨w.heap.size,0,none⟩ w' /\ Inv B w0 σ' (place H k (BH false false t e [x])) w' /\ Ext σ w σ' w' /\ AL σ' w' [.ptr k 0 0 1] [.pointer (some ⟨w.heap.size,0,none⟩)]:=by
 have hsz:u.cells.size=e:=by rw [<- hr.OG hk];exact hs
 obtain⟨σ',h1,h2,h3⟩:=Z2n (xs:=[x]) (us:=[u]) (e:=e) (n:=1) h hk0 t false hr (by simp) (by simpa using hk) (by simpa using hsz) (by rw [KI];exact(hr.cells hk).2) (by simp [maxLen])
 rw [KI] at h1 h2
 simp only [Array.toArray_toList] at h1 h2
 exact⟨_,σ',ZcH w t u,h1,h2,.ptr w.heap.size h3 (Nat.le_refl _) (fun _=>⟨_,_,rfl⟩) (by simp) .nil⟩
end Go.Proofs.YtlabamnhpgoekaaGreatDoor.Le
