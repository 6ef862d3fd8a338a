/- A part of it. -/
import Derived.WalkKit
import GoSem.ClaimData
import GoSem.ClaimKeys
import Derived.Below
import Derived.Deep.MidRow
import Derived.Laws.MakeOwn
import Derived.Laws.OwnMore
import Derived.Maps.Keyed
set_option linter.unusedVariables false
set_option linter.unusedSimpArgs false
namespace Go.Proofs.YtjodhcdmhobmoaaGreatDoor.Le
inductive V where
 | lit (v:Value)
 | agg (cs:List V)
 | BF (vs:List V)
 | sl (isNil:Bool) (e:Nat) (xs:List V)
 | Cb (isNil:Bool) (e:Nat) (xs:List V)
 | Ba (id off len tot:Nat)
 | ptr (id i off tot:Nat)
 | CG (e:Nat) (xs:List V) (i off:Nat)
 | fn (f:FuncId) (first caps:List V)
 | Gv (t:TypeId) (v:V)
 | GV (kvs:List V)
 | no
 | und
 deriving Inhabited
def V.cells:V->List V
 | .agg cs=>cs
 | v=>[v]
def okV:V->Bool
 | .und | .no | .BF _ | .GV _=>false
 | _=>true
mutual
def CU:V->Bool
 | .Ba _ _ _ _=>false
 | .ptr _ _ _ _=>false
 | .CG _ xs _ _=>CJ xs
 | .agg cs=>CJ cs
 | .BF cs=>CJ cs
 | .sl _ _ xs=>CJ xs
 | .Cb _ _ xs=>CJ xs
 | .fn _ a b=>CJ a&&CJ b
 | .Gv _ v=>CU v
 | .GV cs=>CJ cs
 | .lit _=>true
 | .no=>true
 | .und=>true
def CJ:List V->Bool
 | []=>true
 | x::xs=>CU x&&CJ xs
end
def Em (v:V):Bool:=okV v&&CU v
structure Box where
 live:Bool
 row:Bool
 EX:Bool
 elem:TypeId
 Ap:Nat
 xs:List V
 floor:Nat
 deriving Inhabited
abbrev Heap:=List Box
inductive Ty where
 | scalar
 | slice (elem:Nat)
 | array (len elem:Nat)
 | struct (fields:List (Nat×Nat))
 | map (key elem:Nat)
 | other
 deriving Inhabited,DecidableEq
structure TI where
 ty:Ty
 size:Nat
 bytes:Nat
 zero:Option V
 deriving Inhabited
def TI.isAgg (i:TI):Bool:=match i.ty with | .struct _ | .array _ _=>true|_=>false
def TI.TB (i:TI):Bool:=match i.zero with|some z=>okV z&&z.cells.length==i.size|none=>false
def leaf:Value->Bool
 | .int k n=>(Lit.int k n).wf
 | .bool _=>true
 | .string s=>decide (s.size<=maxLen)
 | .pointer none=>true
 | .map none=>true
 | .nilFunc=>true
 | .nilIface=>true
 | _=>false
def OT:Value->V
 | .slice none 0 0=>.sl true 0 []
 | v=>if leaf v then .lit v else .und
def Uz:Value->Bool
 | .slice none 0 0=>true
 | v=>leaf v
def PD:Value->V
 | .agg cs=>if cs.toList.all Uz then .agg (cs.toList.map OT) else .und
 | .tuple vs=>if vs.isEmpty then .no else .und
 | v=>if Uz v then OT v else .und
def EE:V:=.no
def Ko (d:TypeDesc):Ty:=
 match d with
 | .bool | .int _ | .string | .pointer _ | .func _ _ _ | .interface _=>.scalar
 | .slice e=>.slice e
 | .array n e=>.array n e
 | .struct fs=>.struct (fs.toList.map fun f=>(f.offset,f.type))
 | .map k e=>.map k e
 | _=>.other
def Jq (P:Program) (t:TypeId):Option TI:=
 match P.info? t,P.underlying t with
 | some i,some d=>some { ty:=Ko d,size:=i.size,bytes:=i.bytes,zero:=i.zero.map PD }
 | _,_=>none
inductive FK where
 | b|i (k:IntKind)|s
 deriving DecidableEq
inductive Fk where
 | s (e:TypeId) (sz:Nat)
 | own (e:TypeId) (sz:Nat)
 | keep
 | drop
inductive Bf where
 | var (fl:List Fk)
 | row (fresh:Bool)
structure VK where
 fa:List (List Fk)
 fb:List Bf
 run:List V->Heap->Option (V×Heap)
structure Env where
 P:Program
 ti:TypeId->Option TI
 func:FuncId->Option Func
 env:FuncId->Option (List V->Option V)
 Ea:Nat->Option (List V)
 pure:FuncId->Bool
 flat:TypeId->Option (List FK)
 kind:TypeId->Option IntKind
 isStr:TypeId->Bool
 isBool:TypeId->Bool
 isBytes:TypeId->Bool
 calm:FuncId->Nat->Bool
 rows:TypeId->List Nat
 par:FuncId->List TypeId
 own:FuncId->Option TypeId
 hm:FuncId->List FuncId->Option VK
 quiet:Bool:=false
structure St where
 s:List V
 H:Heap
inductive Ex where
 | normal|ret|exit (id:Nat)
def ev (E:Env) (s:List V):Operand->V
 | .tmp t=>s.getD t .und
 | .const v=>PD v
 | .func f=>.fn f [] []
 | .global g=>match E.Ea g with|some r=>.CG r.length [.agg r] 0 0|none=>.und
def OJ (v:V) (want:Bool):Option Bool:=
 match v with
 | .lit (.bool b)=>some (b==want)
 | .no=>some false
 | _=>none
def setSlot (s:List V) (d:Option Tmp) (v:V):List V:=match d with|some t=>s.set t v|none=>s
def DW (H:Heap) (id tot:Nat):Option Box:=
 match H[id]? with
 | some b=>if b.live&&b.xs.length==tot then some b else none
 | none=>none
def partOf (cs:List V) (off n:Nat) (isAgg:Bool):Option V:=
 if isAgg then (if off+n<=cs.length then some (.agg ((cs.drop off).take n)) else none) else cs[off]?
def OM (xs:List V) (i off n:Nat) (isAgg:Bool):Option V:=
 match xs[i]? with
 | some x=>partOf x.cells off n isAgg
 | none=>none
def IA (H:Heap):V->Option V
 | .lit v=>some (.lit v)
 | .sl b e xs=>some (.sl b e xs)
 | .Cb b e xs=>some (.sl false e xs)
 | .Ba id off len tot=>match DW H id tot with
  | some b=>if b.row&&decide (off+len<=tot) then some (.sl false b.Ap ((b.xs.drop off).take len)) else none
  | none=>none
 | .fn f [] []=>some (.fn f [] [])
 | .Gv t (.lit v)=>some (.Gv t (.lit v))
 | _=>none
def JF (H:Heap):List V->Option (List V)
 | []=>some []
 | v::vs=>match IA H v,JF H vs with|some w,some ws=>some (w::ws)|_,_=>none
def IB (H:Heap):V->Option V
 | .agg cs=>(JF H cs).map .agg
 | v=>IA H v
def FN (H:Heap):List V->Option (List V)
 | []=>some []
 | v::vs=>match IB H v,FN H vs with|some w,some ws=>some (w::ws)|_,_=>none
def JU (H:Heap):V->Option V
 | .BF vs=>(FN H vs).map .BF
 | v=>IB H v
def GI (e:Nat):V->V
 | .sl true _ xs=>.sl false e xs
 | v=>v
def F9:List Nat->List V->List V
 | e::es,v::vs=>GI e v::F9 es vs
 | [],vs=>vs
 | _,[]=>[]
def Du (es:List Nat):V->V
 | .agg cs=>.agg (F9 es cs)
 | v=>GI (es.headD 0) v
def GG (rows:TypeId->List Nat):List TypeId->List V->List V
 | t::ts,v::vs=>Du (rows t) v::GG rows ts vs
 | [],vs=>vs
 | _,[]=>[]
def SE:V->Bool | .ptr _ _ _ _=>true|_=>false
def VP:V->V | .lit v=>.lit v|_=>.und
def O5 (H:Heap) (v:V):Option V:=
 match v with
 | .ptr id i off tot=>if i=0/\off=0 then (match DW H id tot with
   | some b=>(match b.row,b.xs with
    | false,[.agg cs]=>some (.CG b.Ap [.agg (cs.map VP)] 0 0)
    | false,[.lit z]=>some (.CG b.Ap [.lit z] 0 0)
    | _,_=>none)
   | none=>none) else none
 | v=>IB H v
def KU (H:Heap):List V->Option (List V)
 | []=>some []
 | v::vs=>match O5 H v,KU H vs with|some w,some ws=>some (w::ws)|_,_=>none
def Ic:V->Bool | .lit _=>true|_=>false
def Jo:V->Bool
 | .lit _=>true
 | .agg cs=>cs.all Ic
 | _=>false
def O1:V->Bool
 | .BF vs=>vs.all Jo
 | v=>Jo v
def FB:V->List Nat
 | .Ba id _ _ _=>[id]
 | _=>[]
def Dj:V->List Nat
 | .agg cs=>cs.flatMap FB
 | v=>FB v
def O6:V->List Nat
 | .BF vs=>vs.flatMap Dj
 | v=>Dj v
def bump (H:Heap):List Nat->Heap
 | []=>H
 | i::is=>bump (H.modify i fun b=>{ b with floor:=b.xs.length }) is
def place (H:Heap) (k:Nat) (b:Box):Heap:=if k<H.length then H.set k b else H++[b]
def FP (H:Heap) (k:Nat):Bool:=match H[k]? with|some b=>!b.live|none=>k==H.length
def elemsOf (H:Heap):V->Option (List V)
 | .sl _ _ xs=>some xs
 | .Cb _ _ xs=>some xs
 | .Ba id off len tot=>match DW H id tot with
  | some b=>if b.row&&decide (off+len<=tot) then some ((b.xs.drop off).take len) else none
  | none=>none
 | .lit (.string s)=>some (s.data.toList.map fun c=>.lit (.int .u8 c.toNat))
 | _=>none
def E5 (H:Heap) (x:V) (n:Nat):Bool:=
 match x with
 | .sl b e _=>b||e==n
 | .Cb b e _=>b||e==n
 | .Ba id _ _ tot=>match DW H id tot with|some b=>b.Ap==n|none=>false
 | _=>false
def lenOf (H:Heap):V->Option Nat
 | .sl _ _ xs=>some xs.length
 | .Cb _ _ xs=>some xs.length
 | .Ba id _ len tot=>match DW H id tot with|some _=>some len|none=>none
 | .lit (.string s)=>some s.size
 | _=>none
def intOf:V->Option Int | .lit (.int _ n)=>some n|_=>none
def OW (op:BinOp) (k:IntKind) (a b:Int):Option Value:=
 match op with
 | .add=>some (.int k (k.wrap (a+b)))
 | .sub=>some (.int k (k.wrap (a - b)))
 | .mul=>some (.int k (k.wrap (a*b)))
 | .quo=>if b=0 then none else some (.int k (k.wrap (a.tdiv b)))
 | .rem=>if b=0 then none else some (.int k (a.tmod b))
 | .and | .or | .xor | .andNot=>some (.int k (bits op k a b))
 | .eql=>some (.bool (a==b))
 | .neq=>some (.bool (a != b))
 | .lss=>some (.bool (decide (a<b)))
 | .leq=>some (.bool (decide (a<=b)))
 | .gtr=>some (.bool (decide (a>b)))
 | .geq=>some (.bool (decide (a>=b)))
 | _=>none
def PH (op:BinOp) (k:IntKind) (a b:Int):Option Value:=
 if b<0 then none else
 match op with
 | .shl=>some (.int k (k.wrap (a*2 ^ min b.toNat k.bits)))
 | .shr=>some (.int k (a.fdiv (2 ^ min b.toNat k.bits)))
 | _=>none
def VX (op:BinOp) (x y:ByteArray):Option Value:=
 match op with
 | .add=>if decide (x.size+y.size<=maxLen) then some (.string (x++y)) else none
 | .eql=>some (.bool (x.toList==y.toList))
 | .neq=>some (.bool !(x.toList==y.toList))
 | .lss=>some (.bool (Op.bytesLess x.toList y.toList))
 | .leq=>some (.bool (Op.bytesLess x.toList y.toList||x.toList==y.toList))
 | .gtr=>some (.bool !(Op.bytesLess x.toList y.toList||x.toList==y.toList))
 | .geq=>some (.bool !(Op.bytesLess x.toList y.toList))
 | _=>none
def Iu:List FK->List V->List V->Option Bool
 | [],[],[]=>some true
 | .b::ks,.lit (.bool a)::xs,.lit (.bool b)::ys=>match Iu ks xs ys with|some r=>some (a==b&&r)|none=>none
 | .i k::ks,.lit (.int k1 a)::xs,.lit (.int k2 b)::ys=>if k1=k/\k2=k then (match Iu ks xs ys with|some r=>some (a==b&&r)|none=>none) else none
 | .s::ks,.lit (.string a)::xs,.lit (.string b)::ys=>match Iu ks xs ys with|some r=>some (a==b&&r)|none=>none
 | _,_,_=>none
def dV (P:Program) (go:TypeId->Option (List FK)):Nat->List Field->Option (List FK)
 | _,[]=>some []
 | off,f::fs=>
  if f.offset=off/\f.name != "_" then
   match go f.type with
   | some ks=>if P.cellsOf f.type=ks.length then (match dV P go (off+ks.length) fs with|some rest=>some (ks++rest)|none=>none) else none
   | none=>none
  else none
def Oa (P:Program):Nat->TypeId->Option (List FK)
 | 0,_=>none
 | d+1,t=>
  match P.underlying t with
  | some .bool=>some [.b]
  | some (.int k)=>some [.i k]
  | some .string=>some [.s]
  | some (.array n e)=>match Oa P d e with
   | some ks=>if P.cellsOf e=ks.length/\P.cellsOf t=n*ks.length then some (List.replicate n ks).flatten else none
   | none=>none
  | some (.struct fs)=>match dV P (Oa P d) 0 fs.toList with
   | some ks=>if P.cellsOf t=ks.length then some ks else none
   | none=>none
  | _=>none
def Ry:V->Option Bool
 | .sl true _ _=>some true
 | .ptr _ _ _ _=>some false
 | .CG _ _ _ _=>some false
 | .fn _ _ _=>some false
 | .Gv _ _=>some false
 | .lit (.pointer none)=>some true
 | .lit .nilFunc=>some true
 | .lit .nilIface=>some true
 | .lit (.map none)=>some true
 | _=>none
def MQ (E:Env) (op:BinOp) (t:TypeId) (x y:V):Option V:=
 match op,x,y with
 | .shl,.lit (.int k a),.lit (.int _ b)=>(PH .shl k a b).map .lit
 | .shr,.lit (.int k a),.lit (.int _ b)=>(PH .shr k a b).map .lit
 | op,.lit (.int k a),.lit (.int j b)=>if k=j then (OW op k a b).map .lit else none
 | op,.lit (.string a),.lit (.string b)=>(VX op a b).map V.lit
 | .eql,.lit (.bool a),.lit (.bool b)=>if E.isBool t then some (.lit (.bool (a==b))) else none
 | .neq,.lit (.bool a),.lit (.bool b)=>if E.isBool t then some (.lit (.bool (!(a==b)))) else none
 | .eql,.agg xs,.agg ys=>match E.flat t with|some ks=>(Iu ks xs ys).map fun b=>V.lit (.bool b)|none=>none
 | .neq,.agg xs,.agg ys=>match E.flat t with|some ks=>(Iu ks xs ys).map fun b=>V.lit (.bool !b)|none=>none
 | _,_,_=>none
def iI (op:UnOp) (x:V):Option V:=
 match op,x with
 | .neg,.lit (.int k n)=>some (.lit (.int k (k.wrap (0 - n))))
 | .xor,.lit (.int k n)=>some (.lit (.int k (bits .xor k (if k.signed then -1 else k.max) n)))
 | .not,.lit (.bool b)=>some (.lit (.bool !b))
 | _,_=>none
def OY (cs:List V):List (Nat×V)->(Nat->Option (Nat×Nat))->Option (List V)
 | [],_=>some cs
 | (i,v)::rest,place=>
  match place i with
  | none=>none
  | some (off,size)=>if v.cells.length==size&&decide (off+size<=cs.length)&&okV v then OY (cs.take off++v.cells++cs.drop (off+size)) rest place else none
def placesOf (E:Env) (fs:List (Nat×Nat)) (i:Nat):Option (Nat×Nat):=
 match fs[i]? with
 | some (off,t)=>match E.ti t with|some ti=>some (off,ti.size)|none=>none
 | none=>none
def VI (E:Env) (t:TypeId) (parts:List (Nat×V)):Option V:=
 match E.ti t with
 | some i=>match i.zero with
  | some z=>
   if okV z then
    match i.ty with
    | .struct fs=>if fs.all fun x=>(E.ti x.2).isSome then (OY z.cells parts (placesOf E fs)).map .agg else none
    | .array _ e=>match E.ti e with
     | some ei=>(OY z.cells parts (fun i=>some (i*ei.size,ei.size))).map .agg
     | none=>none
    | _=>none
   else none
  | none=>none
 | none=>none
def MF (xs:List V) (size:Nat):List (Nat×V)->Option (List V)
 | []=>some xs
 | (i,v)::rest=>if v.cells.length==size&&decide (i<xs.length)&&okV v then MF (xs.set i v) size rest else none
abbrev Dl:=FuncId->List V->Heap->Option (V×Heap)
def Bg (row EX:Bool) (elem:TypeId) (Ap:Nat) (xs:List V):Box:={ live:=true,row,EX,elem,Ap,xs,floor:=0 }
def Env.size (E:Env) (t:TypeId):Option Nat:=(E.ti t).map (·.size)
def MK (E:Env) (H:Heap) (t:TypeId) (a:V):Option V:=
 match E.ti t with
 | none=>none
 | some i=>
  match a with
  | .CG _ xs j off=>OM xs j off i.size i.isAgg
  | .ptr id j off tot=>match DW H id tot with|some b=>OM b.xs j off i.size i.isAgg|none=>none
  | _=>none
def KT (x:V) (off:Nat) (cs:List V):Option V:=
 match x with
 | .agg ds=>if off+cs.length<=ds.length then some (.agg (ds.take off++cs++ds.drop (off+cs.length))) else none
 | _=>match off,cs with|0,[c]=>some c|_,_=>none
def Lu (E:Env) (H:Heap) (t:TypeId) (a v:V):Option Heap:=
 match E.ti t with
 | none=>none
 | some i=>
  match a with
  | .ptr id j off tot=>match DW H id tot with
   | some b=>match b.xs[j]? with
    | some x=>
     if v.cells.length==i.size&&decide (b.floor<=j)&&okV v then
      (if b.row then
       match IB H v with
       | some v' =>match (KT x off v'.cells).map (Du (E.rows b.elem)) with
        | some x' =>if (Dj v).contains id || !(okV v') || !(okV x') then none else some ((bump H (Dj v)).set id { b with xs:=b.xs.set j x' })
        | none=>none
       | none=>none
       else match KT x off v.cells with
        | some x' =>if okV x' then some (H.set id { b with xs:=b.xs.set j x' }) else none
        | none=>none)
     else none
    | none=>none
   | none=>none
  | _=>none
def lim:Nat:=140737488355328
def Lm (E:Env) (k:Nat) (H:Heap) (t u:TypeId) (s x:V):Option (V×Heap):=
 match E.ti t with
 | some ⟨.slice e,_,_,_⟩=>
  match E.ti e,(u==t),elemsOf H x with
  | some ei,true,some ys=>
   if decide (0<ei.size)&&E5 H x ei.size&&ei.TB then
    match s with
    | .Ba id off len tot=>match DW H id tot with
     | some b=>
      if b.row&&b.elem==e&&decide (off=0)&&decide (len=tot)&&b.Ap==ei.size then
       (if decide ((tot+ys.length)*ei.bytes<=lim)&&decide (tot+ys.length<=maxLen) then
        some (.Ba id 0 (tot+ys.length) (tot+ys.length),H.set id { b with xs:=b.xs++ys,EX:=b.EX&&ys.isEmpty })
        else none)
      else if b.row&&b.elem==e&&decide (off=0)&&b.Ap==ei.size&&decide (b.floor<=len)&&decide (len<tot)&&decide (len+ys.length<=tot) then
       some (.Ba id 0 (len+ys.length) tot,H.set id { b with xs:=b.xs.take len++ys++b.xs.drop (len+ys.length) })
      else none
     | none=>none
    | .sl true _ [] | .Cb true _ []=>
     (if decide (ys.length*ei.bytes<=lim)&&decide (ys.length<=maxLen) then
      some (.Ba k 0 ys.length ys.length,place H k (Bg true false e ei.size ys))
      else none)
    | .Cb false es xs=>
     (if es==ei.size&&decide ((xs.length+ys.length)*ei.bytes<=lim)&&decide (xs.length+ys.length<=maxLen) then
      (if ys.isEmpty then some (.Cb false es xs,H)
       else some (.Ba k 0 (xs.length+ys.length) (xs.length+ys.length),place H k (Bg true false e ei.size (xs++ys))))
      else none)
    | _=>none
   else none
  | _,_,_=>none
 | _=>none
def MC (kd:IntKind) (n:Int):List V->Option (Option V)
 | []=>some none
 | .lit (.int k a)::v::r=>if k=kd then (if n=a then some (some v) else MC kd n r) else none
 | _=>none
def VQ (E:Env) (t:TypeId) (ok:Bool) (m x:V):Option V:=
 match E.ti t,m,x with
 | some ⟨.map k e,_,_,_⟩,.GV kvs,.lit (.int kd n)=>
  if E.kind k=some kd then
   match MC kd n kvs with
   | some (some v)=>some (if ok then .BF [v,.lit (.bool true)] else v)
   | some none=>match E.ti e with
    | some ei=>ei.zero.map fun z=>if ok then .BF [z,.lit (.bool false)] else z
    | none=>none
   | none=>none
  else none
 | _,_,_=>none
def gU (E:Env) (H:Heap) (t u:TypeId) (d x:V):Option (V×Heap):=
 match E.ti t with
 | some ⟨.slice e,_,_,_⟩=>
  match E.ti e,elemsOf H x,d with
  | some ei,some ys,.Ba id off len tot=>match DW H id tot with
   | some b=>
    if b.row&&decide (off=0)&&decide (len=tot)&&b.Ap==ei.size&&E5 H x ei.size&&decide (b.floor=0) then
     some (.lit (.int .i64 (min ys.length tot:Nat)),H.set id { b with xs:=ys.take tot++b.xs.drop ys.length })
    else none
   | none=>none
  | _,_,_=>none
 | _=>none
def Ie (v:V) (hi:Nat):Option Nat:=
 match v with
 | .lit (.int _ n)=>if 0<=n/\n<=hi then some n.toNat else none
 | _=>none
def IV (x:Option V) (hi dflt:Nat):Option Nat:=match x with|some v=>Ie v hi|none=>some dflt
def Oq (E:Env) (H:Heap) (t:TypeId) (x:V):Bool:=
 match x with
 | .lit (.string _)=>E.isStr t
 | _=>match E.ti t with
  | some ⟨.slice e,_,_,_⟩=>match E.ti e with|some ei=>E5 H x ei.size|none=>false
  | _=>false
def JO (E:Env) (H:Heap) (t:TypeId) (x:V) (lo hi mx:Option V):Option (V×Heap):=
 if Oq E H t x then
  match lenOf H x with
  | none=>none
  | some n=>
   match IV hi n n with
   | none=>none
   | some h=>
    match IV lo h 0 with
    | none=>none
    | some l=>
     match mx with
     | some m=>
      (match hi,Ie m n,elemsOf H x,x with
       | some _,some k,some xs,.sl b e _=>if k=h then some (.Cb false e ((xs.drop l).take (h - l)),H) else none
       | some _,some k,some xs,.Cb b e _=>if k=h then some (.Cb false e ((xs.drop l).take (h - l)),H) else none
       | some _,some k,some xs,.Ba id _ _ _=>if k=h then some (.Cb false ((H.getD id default).Ap) ((xs.drop l).take (h - l)),bump H [id]) else none
       | _,_,_,_=>none)
     | none=>
      match x with
      | .lit (.string s)=>some (.lit (.string (s.extract l h)),H)
      | .sl b e xs=>some (.sl b e ((xs.drop l).take (h - l)),H)
      | .Cb b e xs=>some (.sl b e ((xs.drop l).take (h - l)),H)
      | .Ba id off _ tot=>some (.Ba id (off+l) (h - l) tot,H)
      | _=>none
 else none
def OI (E:Env) (H:Heap) (n:Nat) (e:TypeId) (x:V) (lo hi mx:Option V):Option (V×Heap):=
 match x,lo,IV hi n n,mx with
 | .ptr id i off tot,none,some m,none=>match DW H id tot with
  | some b=>(match b.row,b.xs with
   | false,[.agg cs]=>if i=0/\off=0/\cs.length=n/\n<=maxLen/\E.size e=some 1/\cs.all Ic=true then some (.sl false 1 (cs.take m),bump H [id]) else none
   | _,_=>none)
  | none=>none
 | _,_,_,_=>none
def VZ (E:Env) (t:TypeId) (x:V):Option V:=
 match E.ti t,x with
 | some ⟨.array n e,_,_,_⟩,.sl false sz xs=>if E.size e=some 1/\sz=1/\0<n/\n<=xs.length/\(xs.take n).all Ic=true then some (.CG n [.agg (xs.take n)] 0 0) else none
 | _,_=>none
def Oj (E:Env) (H:Heap) (t:TypeId) (x i:V):Option V:=
 match i,E.ti t with
 | .lit (.int _ n),some ti=>
  match ti.ty,x with
  | .slice el,.sl _ e xs=>if 0<=n/\n<xs.length/\E.size el=some e then some (.CG e xs n.toNat 0) else none
  | .slice el,.Cb _ e xs=>if 0<=n/\n<xs.length/\E.size el=some e then some (.CG e xs n.toNat 0) else none
  | .slice el,.Ba id off len tot=>match DW H id tot with
   | some b=>if 0<=n/\n<len/\E.size el=some b.Ap then some (.ptr id (off+n.toNat) 0 tot) else none
   | none=>none
  | .array len e,.ptr id j off tot=>match E.size e with
   | some sz=>if 0<=n/\n<len then some (.ptr id j (off+n.toNat*sz) tot) else none
   | none=>none
  | .array len e,.CG d xs j off=>match E.size e with
   | some sz=>if 0<=n/\n<len then some (.CG d xs j (off+n.toNat*sz)) else none
   | none=>none
  | _,_=>none
 | _,_=>none
def U0 (E:Env) (s:TypeId) (x:V) (f:Nat):Option V:=
 match E.ti s with
 | some ⟨.struct fs,_,_,_⟩=>match fs[f]? with
  | some (o,t)=>match E.size t with
   | some sz=>if sz=0 then none else match x with
    | .ptr id j off tot=>some (.ptr id j (off+o) tot)
    | .CG d xs j off=>some (.CG d xs j (off+o))
    | _=>none
   | none=>none
  | none=>none
 | _=>none
def VE (E:Env) (s:TypeId) (x:V) (f:Nat):Option V:=
 match E.ti s,x with
 | some ⟨.struct fs,_,_,_⟩,.agg cs=>match fs[f]? with
  | some (o,t)=>match E.ti t with|some i=>partOf cs o i.size i.isAgg|none=>none
  | none=>none
 | _,_=>none
def Uu (E:Env) (t:TypeId) (x i:V):Option V:=
 match i with
 | .lit (.int _ n)=>
  match E.ti t,x with
  | some ⟨.array len e,_,_,_⟩,.agg cs=>match E.ti e with
   | some ei=>if 0<=n/\n<len then partOf cs (n.toNat*ei.size) ei.size ei.isAgg else none
   | none=>none
  | some ⟨.scalar,_,_,_⟩,.lit (.string s)=>if E.isStr t then (if 0<=n then (s[n.toNat]?).map fun b=>V.lit (.int .u8 b.toNat) else none) else none
  | _,_=>none
 | _=>none
def byteOf:V->Option UInt8
 | .lit (.int .u8 n)=>some (UInt8.ofNat n.toNat)
 | _=>none
def bytesOf:List V->Option (List UInt8)
 | []=>some []
 | v::vs=>match byteOf v,bytesOf vs with|some b,some bs=>some (b::bs)|_,_=>none
def IY (E:Env) (H:Heap) (src dst:TypeId) (x:V):Option (V×Heap):=
 match x with
 | .lit (.int _ n)=>match E.kind dst with
  | some k=>if (E.ti src).isSome then some (.lit (.int k (k.wrap n)),H) else none
  | none=>none
 | .lit (.string s)=>if E.isStr src&&E.isStr dst then some (.lit (.string s),H) else none
 | x=>if E.isStr dst&&E.isBytes src&&E5 H x 1 then
   match elemsOf H x with
   | some xs=>match bytesOf xs with|some bs=>if bs.length<=maxLen then some (.lit (.string ⟨bs.toArray⟩),H) else none|none=>none
   | none=>none
  else none
def bytesV (st:ByteArray):List V:=st.data.toList.map fun c=>.lit (.int .u8 c.toNat)
def ML (E:Env) (k:Nat) (H:Heap) (dst:TypeId) (x:V):Option (V×Heap):=
 match x,E.ti dst with
 | .lit (.string st),some ⟨.slice e,_,_,_⟩=>if E.size e=some 1 then some (.Ba k 0 st.size st.size,place H k (Bg true false e 1 (bytesV st))) else none
 | _,_=>none
def mm (isMax:Bool) (k:IntKind):Int->List V->Option V
 | a,[]=>some (.lit (.int k a))
 | a,.lit (.int j b)::rest=>if k=j then mm isMax k (if isMax then (if b>a then b else a) else (if b<a then b else a)) rest else none
 | _,_=>none
def PS (isMax:Bool):List V->Option V
 | .lit (.int k a)::rest=>mm isMax k a rest
 | _=>none
def evs (E:Env) (s:List V) (xs:Array Operand):List V:=xs.toList.map (ev E s)
def rP (E:Env) (t:TypeId) (x:V):Bool:=
 match x with
 | .lit (.string s)=>E.isStr t
 | _=>match E.ti t with|some ⟨.slice _,_,_,_⟩=>true|_=>false
def Ox (E:Env) (k:Nat) (H:Heap) (s:List V) (b:Builtin) (args:List V) (tys:List TypeId):Option (V×Heap):=
 match b,args,tys with
 | .len,[x],[t]=>if rP E t x then (lenOf H x).map fun n=>(V.lit (.int .i64 n),H) else none
 | .append,[a,x],[t,u]=>Lm E k H t u a x
 | .copy,[d,x],[t,u]=>gU E H t u d x
 | .min,args,_=>(PS false args).map (·,H)
 | .max,args,_=>(PS true args).map (·,H)
 | _,_,_=>none
def Oh (E:Env) (k:Nat) (H:Heap) (t:TypeId) (n:Nat) (parts:List (Nat×V)):Option (V×Heap):=
 match E.ti t with
 | some ⟨.slice e,_,_,_⟩=>match E.ti e with
  | some ei=>match ei.zero,FN H (parts.map (·.2)) with
   | some z,some vs=>
    if n*ei.size<=16777216/\0<ei.size/\z.cells.length=ei.size/\okV z=true/\(n==0 && !parts.isEmpty)=false then
     match MF (List.replicate n (Du (E.rows e) z)) ei.size ((parts.map (·.1)).zip (vs.map (Du (E.rows e)))) with
     | some xs=>some (.Ba k 0 n n,place (bump H ((parts.map (·.2)).flatMap Dj)) k (Bg true false e ei.size xs))
     | none=>none
    else none
   | _,_=>none
  | none=>none
 | _=>none
def BO (call:Dl) (E:Env) (k:Nat) (H:Heap) (s:List V) (o:Oper):Option (V×Heap):=
 match o.op with
 | .move x=>some (ev E s x,H)
 | .assign (.const (.slice none 0 0))=>match E.ti o.type with
  | some ⟨.slice e,_,_,_⟩=>some (.Ba k 0 0 0,place H k (Bg true false e ((E.size e).getD 0) []))
  | _=>none
 | .assign x=>some (ev E s x,H)
 | .pick c a b=>match ev E s c with | .lit (.bool t)=>some (if t then ev E s a else ev E s b,H)|_=>none
 | .alloc t=>match E.ti t with
  | some i=>match i.zero with|some z=>if z.cells.length=i.size/\okV z=true then some (.ptr k 0 0 1,place H k (Bg false false t i.size [z])) else none|none=>none
  | none=>none
 | .box t x=>match E.ti t with
  | some i=>if (ev E s x).cells.length=i.size/\okV (ev E s x)=true then some (.ptr k 0 0 1,place H k (Bg false false t i.size [ev E s x])) else none
  | none=>none
 | .build t parts=>(VI E t (parts.toList.map fun(i,x)=>(i,ev E s x))).map (·,H)
 | .buildSlice t n parts=>Oh E k H t n (parts.toList.map fun(i,x)=>(i,ev E s x))
 | .load t a=>(MK E H t (ev E s a)).map (·,H)
 | .store t a v=>(Lu E H t (ev E s a) (ev E s v)).map (EE,·)
 | .nilCheck x=>match Ry (ev E s x) with|some false=>some (ev E s x,H)|_=>none
 | .binOp op t x y _=>(MQ E op t (ev E s x) (ev E s y)).map (·,H)
 | .unOp op _ x=>(iI op (ev E s x)).map (·,H)
 | .convert src dst x=>if E.isStr src&&E.isBytes dst then ML E k H dst (ev E s x) else IY E H src dst (ev E s x)
 | .makeSlice t l c=>match E.ti t,ev E s l,ev E s c with
  | some ⟨.slice e,_,_,_⟩,.lit (.int _ n),.lit (.int _ m)=>match E.ti e with
   | some ei=>match ei.zero with
    | some z=>if 0<=n/\n<=m/\m.toNat*ei.bytes<=lim/\m<=maxLen/\0<ei.size/\z.cells.length=ei.size/\okV z=true then
      some (.Ba k 0 n.toNat n.toNat,place H k (Bg true false e ei.size (List.replicate n.toNat (Du (E.rows e) z)))) else none
    | none=>none
   | none=>none
  | _,_,_=>none
 | .slice t x lo hi mx=>match E.ti t with
  | some ⟨.array n e,_,_,_⟩=>OI E H n e (ev E s x) (lo.map (ev E s)) (hi.map (ev E s)) (mx.map (ev E s))
  | _=>JO E H t (ev E s x) (lo.map (ev E s)) (hi.map (ev E s)) (mx.map (ev E s))
 | .sliceToArrayPointer t x=>(VZ E t (ev E s x)).map (·,H)
 | .fieldAddr t x f=>(U0 E t (ev E s x) f).map (·,H)
 | .field t x f=>(VE E t (ev E s x) f).map (·,H)
 | .indexAddr t x i=>(Oj E H t (ev E s x) (ev E s i)).map (·,H)
 | .index t x i=>(Uu E t (ev E s x) (ev E s i)).map (·,H)
 | .extract x i=>match ev E s x with | .BF vs=>(vs[i]?).map (·,H)|_=>none
 | .lookup t m x ok=>(VQ E t ok (ev E s m) (ev E s x)).map (·,H)
 | .makeFunc (.func f) first caps=>some (.fn f (evs E s first) (evs E s caps),H)
 | .call c=>match c.callee with
  | .builtin b=>Ox E k H s b (evs E s c.args) c.argTypes.toList
  | .value f=>match ev E s f with
   | .fn g first caps=>call g (first++evs E s c.args++caps) H
   | _=>none
  | _=>none
 | _=>none
def F5 (call:Dl) (E:Env) (ops:Array Oper) (k:Nat) (o:Oper) (st:St):Option (V×Heap):=
 match o.guard with
 | none=>BO call E k st.H st.s o
 | some (j,want)=>
  match (ops[j]?).bind (·.dst) with
  | none=>none
  | some d=>match OJ (st.s.getD d .und) want with
   | none=>none
   | some false=>some (EE,st.H)
   | some true=>BO call E k st.H st.s o
def Jk (call:Dl) (E:Env) (ops:Array Oper) (k:Nat) (i:Nat) (st:St):Option St:=
 match ops[i]? with
 | none=>some st
 | some o=>match F5 call E ops k o st with
  | some (v,H)=>some ⟨setSlot st.s o.dst v,H⟩
  | none=>none
def stepD (call:Dl) (E:Env) (ops:Array Oper) (i:Nat) (st:St):Option St:=Jk call E ops st.H.length i st
def MM (call:Dl) (E:Env) (ops:Array Oper):List Nat->St->Option St
 | [],st=>some st
 | i::rest,st=>match stepD call E ops i st with
  | some st' =>MM call E ops rest st'
  | none=>none
def Dz:V->List Nat
 | .Ba id _ _ _=>[id]
 | .ptr id _ _ _=>[id]
 | _=>[]
def fP:V->List Nat
 | .agg cs=>cs.flatMap Dz
 | v=>Dz v
def Cj:V->List Nat
 | .agg cs=>cs.flatMap Dz
 | .fn _ a b=>(a++b).flatMap fP
 | v=>Dz v
def uO:V->Bool | .fn _ _ _=>true|_=>false
def sZ (E:Env):V->Bool
 | .fn g a b=>((E.pure g||(E.env g).isSome)&&(E.own g).isNone)&&(a++b).all (fun v=>!uO v)
 | _=>false
def quietAt (E:Env) (s:List V) (o:Oper):Bool:=
 match o.op with
 | .call c=>(match c.callee with
  | .value (.tmp t)=>!(E.quiet&&o.type != 0)||sZ E (s.getD t .und)
  | _=>true)
 | _=>true
def Dy (E:Env) (s:List V) (o:Oper):List Nat:=o.op.operands.toList.flatMap fun x=>Cj (ev E s x)
inductive Cls where
 | s|n|f|a|c|w
 deriving DecidableEq
def PW (E:Env) (f:FuncId):Bool:=(E.env f).isNone && !E.pure f&&(match E.hm f [] with|some hs=>hs.fb.isEmpty|none=>false)
def Bi (E:Env) (o:Oper):Cls:=
 match o.op with
 | .move _ | .pick .. | .build .. | .binOp .. | .unOp .. | .field .. | .fieldAddr .. | .extract .. | .lookup .. | .makeFunc .. | .index .. | .nilCheck _ | .sliceToArrayPointer ..=>.s
 | .assign (.const (.slice none 0 0))=>.a
 | .assign _=>.s
 | .load .. | .indexAddr ..=>.n
 | .convert src dst _=>if E.isStr src&&E.isBytes dst then .a else .n
 | .slice ..=>.n
 | .alloc _ | .box .. | .buildSlice .. | .makeSlice ..=>.a
 | .call c=>match c.callee with
  | .builtin .len=>.n
  | .builtin .min=>.s
  | .builtin .max=>.s
  | .value (.func f)=>if (E.pure f||(E.env f).isSome)&&(E.own f).isNone then .f else if PW E f then .c else .w
  | .value (.tmp _)=>if E.quiet&&o.type != 0 then .f else .w
  | _=>.w
 | _=>.w
def Z43:Cls->Cls->Bool
 | .w,.s=>true
 | .s,.w=>true
 | .w,_=>false
 | _,.w=>false
 | .c,.c=>false
 | _,_=>true
def VG (acc:List Nat) (o:Oper):Nat:=
 o.after.toList.foldl (fun m e=>if Region.binds .any e then m ||| (1 <<< e.on) ||| acc.getD e.on 0 else m) 0
def Fa:List Nat->List Oper->List Nat
 | acc,[]=>acc
 | acc,o::os=>Fa (acc++[VG acc o]) os
def eX (E:Env) (ops:Array Oper) (x y:Oper):Bool:=Z43 (Bi E x) (Bi E y)&&x.apart ops y
def Oy (o:Oper):Option Operand:=
 match o.op with
 | .store _ a _=>some a
 | .call c=>(match c.callee,c.args.toList with
  | .builtin .append,[a,_]=>some a
  | _,_=>none)
 | _=>none
def ZFn (ops:Array Oper) (d:Tmp):Option Nat:=(List.range ops.size).find? fun j=>match ops[j]? with|some oj=>oj.dst==some d|none=>false
def rootOf (E:Env) (ops:Array Oper):Nat->Tmp->Option (Nat⊕Nat)
 | 0,_=>none
 | n+1,d=>match ZFn ops d with
  | none=>some (.inr d)
  | some j=>match ops[j]? with
   | none=>none
   | some oj=>if Bi E oj = .a then some (.inl j) else match oj.op with
    | .fieldAddr _ (.tmp e) _=>rootOf E ops n e
    | .nilCheck (.tmp e)=>rootOf E ops n e
    | .move (.tmp e)=>rootOf E ops n e
    | .indexAddr _ (.tmp e) _=>rootOf E ops n e
    | .call _=>(match Oy oj with|some (.tmp e)=>rootOf E ops n e|_=>none)
    | _=>none
def VO (E:Env) (ops:Array Oper) (o:Oper):Option (Nat⊕Nat):=
 match o.guard,Oy o with
 | none,some (.tmp d)=>rootOf E ops 12 d
 | _,_=>none
def needs (E:Env) (o:Oper):Bool:=match Bi E o with | .n=>true | .f=>true | .a=>true | .c=>true|_=>false
def linked (ms:List Nat) (x y:Nat):Bool:=(ms.getD x 0).testBit y||(ms.getD y 0).testBit x
def PY (E:Env) (ops:Array Oper):List (Nat×(Nat⊕Nat)):=
 let ms:=Fa [] ops.toList
 (List.range ops.size).filterMap fun x=>match ops[x]? with
  | some ox=>(match VO E ops ox with
   | some t=>if (List.range ops.size).any (fun y=>!linked ms x y&&(match ops[y]? with|some oy=>needs E oy|none=>false)) then some (x,t) else none
   | none=>none)
  | none=>none
def PZ (base:Nat) (s0:List V):Nat⊕Nat->Option Nat
 | .inl j=>some (base+j)
 | .inr d=>match s0.getD d .und with | .ptr id _ _ _=>some id | .Ba id _ _ _=>some id|_=>none
def addrOf (E:Env) (s:List V) (o:Oper):V:=match Oy o with|some a=>ev E s a|_=>.no
def OQ (H:Heap) (a:V) (k:Nat):Bool:=match a with
 | .ptr id _ _ tot=>id==k&&(match DW H id tot with|some b=>!b.row|none=>false)
 | .Ba id _ _ _=>id==k&&(match H[id]? with|some b=>b.row|none=>false)
 | _=>false
def GU (E:Env) (ms:List Nat) (lt:List (Nat×(Nat⊕Nat))) (s0:List V) (base i:Nat) (s:List V) (H:Heap) (o:Oper):Bool:=
 lt.all fun p=>match PZ base s0 p.2 with
  | none=>false
  | some k=>if p.1=i then OQ H (addrOf E s o) k else !needs E o||(linked ms p.1 i || !(Dy E s o).contains k)
def NH (E:Env) (ops:Array Oper) (lt:List (Nat×(Nat⊕Nat))) (x:Nat) (ox oy:Oper):Bool:=
 ox.apart ops oy&&(needs E oy&&lt.any fun p=>p.1==x)
def sU (E:Env) (ops:Array Oper):Bool:=
 let ms:=Fa [] ops.toList
 (List.range ops.size).all fun y=>match ops[y]? with
  | some oy=>oy.after.all (fun e=>!Region.binds .any e||decide (e.on<y)) &&
   (List.range y).all fun x=>(ms.getD y 0).testBit x||(match ops[x]? with|some ox=>eX E ops ox oy||(NH E ops (PY E ops) x ox oy||NH E ops (PY E ops) y oy ox)|none=>true)
  | none=>true
def E8 (E:Env) (f:FuncId):Code->Bool
 | .region id ops true=>!E.calm f id||sU E ops
 | .seq a b=>E8 E f a&&E8 E f b
 | .cond _ a b=>E8 E f a&&E8 E f b
 | .block _ b=>E8 E f b
 | .loop b=>E8 E f b
 | .scope b=>E8 E f b
 | _=>true
def QX:Box:={ live:=false,row:=false,EX:=false,elem:=0,Ap:=0,xs:=[],floor:=0 }
def VB (E:Env) (ops:Array Oper) (ms:List Nat) (i:Nat):Bool:=
 (List.range ops.size).all fun j=>j==i||(linked ms i j||(match ops[j]? with|some oj=>!decide (Bi E oj = .c)|none=>true))
def Hz (call:Dl) (E:Env) (ops:Array Oper) (ms:List Nat) (lt:List (Nat×(Nat⊕Nat))) (s0:List V) (base m:Nat) (i:Nat) (st:St):Option St:=
 match ops[i]? with
 | none=>some st
 | some o=>
  if ((Dy E st.s o).all fun id=>decide (id<base)||(decide (base+m<=id)&&VB E ops ms i)||(decide (id<base+m)&&(ms.getD i 0).testBit (id - base)))&&quietAt E st.s o&&(GU E ms lt s0 base i st.s st.H o&&(!decide (Bi E o = .c)||decide (base+m<=st.H.length))) then
   (if Bi E o = .a then
    match st.H[base+i]? with
    | some b=>if b.live then none else Jk call E ops (base+i) i st
    | none=>none
    else Jk call E ops st.H.length i st)
  else none
def Lt (call:Dl) (E:Env) (ops:Array Oper) (ms:List Nat) (lt:List (Nat×(Nat⊕Nat))) (s0:List V) (base m:Nat):List Nat->St->Option St
 | [],st=>some st
 | i::rest,st=>match Hz call E ops ms lt s0 base m i st with
  | some st' =>Lt call E ops ms lt s0 base m rest st'
  | none=>none
def SS (call:Dl) (E:Env) (ops:Array Oper) (st:St):Option St:=
 let m:=if ops.any (fun o=>decide (Bi E o = .a)) then ops.size else 0
 Lt call E ops (Fa [] ops.toList) (PY E ops) st.s st.H.length m (List.range ops.size) ⟨st.s,st.H++List.replicate m QX⟩
def Fq (call:Dl) (lp:Code->St->Option (Ex×St)) (E:Env) (f:FuncId):Code->St->Option (Ex×St)
 | .skip,st=>some (.normal,st)
 | .region _ ops false,st=>(MM call E ops (List.range ops.size) st).map (.normal,·)
 | .region id ops true,st=>if E.calm f id then (SS call E ops st).map (.normal,·) else none
 | .seq a b,st=>match Fq call lp E f a st with
  | some (.normal,st')=>Fq call lp E f b st'
  | r=>r
 | .cond c a b,st=>match ev E st.s c with
  | .lit (.bool t)=>if t then Fq call lp E f a st else Fq call lp E f b st
  | _=>none
 | .block id b,st=>match Fq call lp E f b st with
  | some (.exit i,st')=>if i=id then some (.normal,st') else some (.exit i,st')
  | r=>r
 | .loop b,st=>lp b st
 | .scope b,st=>Fq call lp E f b st
 | .label _,st=>some (.normal,st)
 | .exit id,st=>some (.exit id,st)
 | .ret,st=>some (.ret,st)
 | _,_=>none
def Si (call:Dl) (E:Env) (f:FuncId):Nat->Code->St->Option (Ex×St)
 | 0,_,_=>none
 | n+1,b,st=>match Fq call (Si call E f n) E f b st with
  | some (.normal,st')=>Si call E f n b st'
  | r=>r
def resD (E:Env) (H:Heap) (s:List V):ResultVar->Option V
 | .tmp t=>some (s.getD t .und)
 | .cell a t=>MK E H t (s.getD a .und)
def KO (E:Env) (H:Heap) (s:List V) (rs:List ResultVar):Option V:=
 match rs.mapM (resD E H s) with
 | some [v]=>some v
 | some vs=>some (.BF vs)
 | none=>none
def P6 (call:Dl) (n:Nat) (E:Env) (f:FuncId) (fn:Func) (args:List V) (H:Heap):Option (V×Heap):=
 match fn.body with
 | none=>none
 | some c=>match Fq call (Si call E f n) E f c ⟨args++List.replicate (fn.ntmps - args.length) EE,H⟩ with
  | some (.normal,st)|some (.ret,st)=>(KO E st.H st.s fn.results.toList).map (·,st.H)
  | _=>none
mutual
def EL:V->List Nat
 | .Ba id _ _ _=>[id]
 | .ptr id _ _ _=>[id]
 | .agg cs=>D5 cs
 | .BF cs=>D5 cs
 | .fn _ a b=>D5 a++D5 b
 | .Gv _ v=>EL v
 | .GV cs=>D5 cs
 | _=>[]
def D5:List V->List Nat
 | []=>[]
 | x::xs=>EL x++D5 xs
end
mutual
def FQ (ρ:Nat->Nat):V->V
 | .Ba id off len tot=>.Ba (ρ id) off len tot
 | .ptr id i off tot=>.ptr (ρ id) i off tot
 | .agg cs=>.agg (Gi ρ cs)
 | .BF cs=>.BF (Gi ρ cs)
 | .fn f a b=>.fn f (Gi ρ a) (Gi ρ b)
 | .Gv t v=>.Gv t (FQ ρ v)
 | .GV cs=>.GV (Gi ρ cs)
 | v=>v
def Gi (ρ:Nat->Nat):List V->List V
 | []=>[]
 | x::xs=>FQ ρ x::Gi ρ xs
end
def gJ (e:TypeId) (sz:Nat) (H:Heap) (x:V):Option (V×Heap):=
 match x with
 | .sl true _ []=>some (.Ba H.length 0 0 0,H++[Bg true false e sz []])
 | .Cb true _ []=>some (.Ba H.length 0 0 0,H++[Bg true false e sz []])
 | .Ba id off len tot=>if off=0/\len=tot then some (.Ba id off len tot,H) else none
 | _=>none
def Ht:Fk->Heap->V->Option (V×Heap)
 | .s _ sz,H,x=>(IA H x).map fun y=>(GI sz y,bump H (FB x))
 | .own e sz,H,x=>gJ e sz H x
 | .keep,H,x=>some (x,H)
 | .drop,H,_=>some (.und,H)
def Hu:List Fk->Heap->List V->Option (List V×Heap)
 | [],H,[]=>some ([],H)
 | f::fs,H,x::xs=>match Ht f H x with
  | some (y,H1)=>match Hu fs H1 xs with
   | some (ys,H2)=>some (y::ys,H2)
   | none=>none
  | none=>none
 | _,_,_=>none
def Jm (fl:List Fk) (H:Heap) (x:V):Option (V×Heap):=
 match x with
 | .agg cs=>(Hu fl H cs).map fun r=>(.agg r.1,r.2)
 | x=>match fl with
  | [f]=>Ht f H x
  | _=>none
def IE:List (List Fk)->Heap->List V->Option (List V×Heap)
 | [],H,[]=>some ([],H)
 | f::fs,H,x::xs=>match Jm f H x with
  | some (y,H1)=>match IE fs H1 xs with
   | some (ys,H2)=>some (y::ys,H2)
   | none=>none
  | none=>none
 | _,_,_=>none
def Jl:Nat->List Bf->Heap->List Nat->List Nat->Option (Heap×List Nat)
 | 0,_,_,_,_=>none
 | _+1,_,H,[],seen=>some (H,seen)
 | n+1,fb,H,id::todo,seen=>
  if seen.contains id then Jl n fb H todo seen else
  match H[id]?,fb with
  | some b,.row fresh::fb' =>if b.live&&b.row then Jl n fb' (if fresh then H else bump H [id]) todo (seen++[id]) else none
  | some b,.var fl::fb' =>if b.live && !b.row then
    (match b.xs with
     | [x]=>match Jm fl H x with
      | some (y,H1)=>(match H1[id]? with
       | some b1=>if okV y then Jl n fb' (H1.set id { b1 with xs:=[y] }) (todo++EL y) (seen++[id]) else none
       | none=>none)
      | none=>none
     | _=>none)
    else none
  | _,_=>none
def Fg (ρ:Nat->Nat) (b:Box):Box:=if b.row then b else { b with xs:=Gi ρ b.xs }
def Ih (H:Heap) (ids:List Nat):Heap:=ids.map fun id=>Fg (ids.idxOf ·) ((H[id]?).getD QX)
def pack (fa:List (List Fk)) (fb:List Bf) (k:Nat) (args:List V) (H:Heap):Option (List Nat×List V×Heap):=
 match IE fa H args with
 | some (as,H1)=>match Jl 1000 fb H1 (List.range k++D5 as) [] with
  | some (H2,ids)=>some (ids,as,H2)
  | none=>none
 | none=>none
def JP (ids:List Nat) (n j:Nat):Nat:=if j<ids.length then ids.getD j 0 else n+(j - ids.length)
def P8:Heap->List Nat->Heap->Heap
 | H,[],bs=>H++bs
 | H,id::ids,b::bs=>P8 (H.set id b) ids bs
 | H,_::_,[]=>H
def OA (H:Heap) (ids:List Nat) (H3:Heap):Heap:=P8 H ids (H3.map (Fg (JP ids H.length)))
def OX (hs:VK) (args:List V) (H:Heap):Option (V×Heap):=
 match pack hs.fa hs.fb 0 args H with
 | some (ids,as,H2)=>match hs.run (Gi (ids.idxOf ·) as) (Ih H2 ids) with
  | some (r,H3)=>if ids.length<=H3.length then some (FQ (JP ids H2.length) r,OA H2 ids H3) else none
  | none=>none
 | none=>none
def MJ:List V->List FuncId
 | []=>[]
 | .fn f _ _::vs=>f::MJ vs
 | _::vs=>MJ vs
def uQ (fa:List (List Fk)) (fb:List Bf) (k:Nat) (r0:V) (H:Heap):Option (V×Heap):=
 match r0 with
 | .BF vs=>match pack fa fb k vs H with
  | some (ids,as,H2)=>if ids.take k=List.range k then some (.BF (Gi (ids.idxOf ·) as),Ih H2 ids) else none
  | none=>none
 | v=>match pack fa fb k [v] H with
  | some (ids,[a],H2)=>if ids.take k=List.range k then some (FQ (ids.idxOf ·) a,Ih H2 ids) else none
  | _=>none
def Eh (E:Env):Nat->Dl
 | 0,_,_,_=>none
 | n+1,f,args,H=>
  match E.env f with
  | some F=>if args.any SE then (match E.own f,KU H args with
    | none,some as=>(match F (GG E.rows (E.par f) as) with
     | some r=>if O1 r then some (r,bump H (args.flatMap Dj)) else none
     | none=>none)
    | _,_=>none)
   else match FN H args with
   | some as=>(match E.own f with
    | none=>(F (GG E.rows (E.par f) as)).map (·,bump H (args.flatMap Dj))
    | some e=>match F (GG E.rows (E.par f) as) with
     | some (.sl false sz xs)=>some (.Ba H.length 0 xs.length xs.length,place (bump H (args.flatMap Dj)) H.length (Bg true false e sz xs))
     | _=>none)
   | none=>none
  | none=>
   if E.pure f then
    match E.func f with
    | none=>none
    | some fn=>match FN H args with
     | some as=>match P6 (Eh E n) n E f fn as [] with
      | some (r,H')=>(JU H' r).map (·,bump H (args.flatMap Dj))
      | none=>none
     | none=>none
   else match E.hm f (if PW E f then [] else MJ args) with
    | some hs=>OX hs args H
    | none=>match E.func f with
     | none=>none
     | some fn=>P6 (Eh E n) n E f fn args H
def sH (P:Program) (t:TypeId):Option (List FK):=
 match P.underlying t with
 | some (.struct _)|some (.array _ _)=>if P.keyTypeAt 20 t && !P.eqGuardType P.depth t then Oa P 20 t else none
 | _=>none
def Z4f (P:Program):Nat->TypeId->List Nat
 | 0,_=>[]
 | d+1,t=>match P.underlying t with
  | some (.slice e)=>[P.cellsOf e]
  | some (.struct fs)=>fs.toList.flatMap fun f=>Z4f P d f.type
  | some (.array n e)=>(List.replicate n (Z4f P d e)).flatten
  | _=>[0]
def rowsOf (P:Program) (t:TypeId):List Nat:=Z4f P 20 t
def Nw (P:Program) (pure:FuncId->Bool) (env:FuncId->Option (List V->Option V)):Env where
 P:=P
 ti:=Jq P
 func:=fun f=>P.funcs[f]?
 env:=env
 Ea:=fun _=>none
 pure:=pure
 flat:=sH P
 kind:=fun t=>match P.underlying t with|some (.int k)=>some k|_=>none
 isStr:=fun t=>P.underlying t matches some .string
 isBool:=fun t=>P.underlying t matches some .bool
 isBytes:=fun t=>match P.underlying t with|some (.slice e)=>(P.underlying e matches some (.int .u8))|_=>false
 calm:=fun _ _=>true
 rows:=rowsOf P
 par:=fun f=>match P.funcs[f]? with|some fn=>fn.params.toList|none=>[]
 own:=fun _=>none
 hm:=fun _ _=>none
open Go.RowKit (Below)
structure Loc where
 v:Value
 tot:Nat
 Ap:Nat
structure Sg where
 box:Nat->Option Loc
 fz:Nat->Nat->Prop
def flat (us:List Value):List Value:=us.flatMap fun u=>u.cells.toList
def Lies (σ:Sg) (w:World) (b o:Nat) (us:List Value):Prop:=
 ∀j u,(flat us)[j]? = some u->σ.fz b (o+j)/\w.cell? ⟨b,o+j,none⟩=some u
def Zf2 (L:Value) (Ap off len:Nat) (v:Value):Prop:=
 ∃a n c k,L = .slice a n c/\v = .slice (a.map (·.add (k*Ap))) len (c - off)/\off<=c/\k<=off/\(off<c->k=off)
inductive AQ (σ:Sg) (w:World):List V->List Value->Prop where
 | nil:AQ σ w [] []
 | und (u:Value) {xs vs}:AQ σ w xs vs->AQ σ w (.und::xs) (u::vs)
 | no {xs vs}:AQ σ w xs vs->AQ σ w (.no::xs) (undef::vs)
 | lit {v:Value} {xs vs}:leaf v=true->AQ σ w xs vs->AQ σ w (.lit v::xs) (v::vs)
 | agg {cs ws xs vs}:AQ σ w cs ws->(∀u∈ws,u.oneCell' = true)->AQ σ w xs vs->AQ σ w (.agg cs::xs) (.agg ws.toArray::vs)
 | BF {cs ws xs vs}:AQ σ w cs ws->AQ σ w xs vs->AQ σ w (.BF cs::xs) (.tuple ws.toArray::vs)
 | EW {b e xs vs}:AQ σ w xs vs->AQ σ w (.sl b e []::xs) (.slice none 0 0::vs)
 | FV {e xs vs} (a:Addr):AQ σ w xs vs->AQ σ w (.sl false e []::xs) (.slice (some a) 0 0::vs)
 | GL {e xs vs} (a:Addr):AQ σ w xs vs->AQ σ w (.Cb false e []::xs) (.slice (some a) 0 0::vs)
 | Fh {b e xs vs}:AQ σ w xs vs->AQ σ w (.Cb b e []::xs) (.slice none 0 0::vs)
 | sl {es us xs vs} (b o c e:Nat):AQ σ w es us->(∀x∈es,Em x=true)->(∀u∈us,u.cells.size=e)->(∀u∈flat us,u.oneCell' = true)->es.length<=c->c<=maxLen->Lies σ w b o us->AQ σ w xs vs ->
   AQ σ w (.sl false e es::xs) (.slice (some ⟨b,o,none⟩) es.length c::vs)
 | Cb {es us xs vs} (b o e:Nat):AQ σ w es us->(∀x∈es,Em x=true)->(∀u∈us,u.cells.size=e)->(∀u∈flat us,u.oneCell' = true)->es.length<=maxLen->Lies σ w b o us->AQ σ w xs vs ->
   AQ σ w (.Cb false e es::xs) (.slice (some ⟨b,o,none⟩) es.length es.length::vs)
 | Ba {id off len tot L v xs vs}:σ.box id=some L->tot<=L.tot->(L.tot=tot->off+len<=tot/\Zf2 L.v L.Ap off len v)->(∃a n c,v = .slice a n c)->AQ σ w xs vs ->
   AQ σ w (.Ba id off len tot::xs) (v::vs)
 | ptr {id i off tot L v xs vs} (g:Nat):σ.box id=some L->tot<=L.tot->(L.tot=tot->∃n c,L.v = .slice (some ⟨g,0,none⟩) n c)->v = .pointer (some ⟨g,i*L.Ap+off,none⟩)->AQ σ w xs vs ->
   AQ σ w (.ptr id i off tot::xs) (v::vs)
 | CG {es us xs vs} (b o e i off:Nat):AQ σ w es us->(∀x∈es,Em x=true)->(∀u∈us,u.cells.size=e)->(∀u∈flat us,u.oneCell' = true)->Lies σ w b o us->AQ σ w xs vs ->
   AQ σ w (.CG e es i off::xs) (.pointer (some ⟨b,o+i*e+off,none⟩)::vs)
 | fn {f first caps us ws xs vs}:AQ σ w first us->AQ σ w caps ws->AQ σ w xs vs->AQ σ w (.fn f first caps::xs) (.func (.func f) us.toArray ws.toArray::vs)
 | Gv {t x u xs vs}:AQ σ w [x] [u]->AQ σ w xs vs->AQ σ w (.Gv t x::xs) (.iface t u::vs)
 | GV {kvs us xs vs} (g:Nat) (es:Array MapEntry) (c:Nat):AQ σ w kvs us->w.heap[g]? = some (.map es c)->us=es.toList.flatMap (fun e=>[e.key,e.val])->AQ σ w xs vs->AQ σ w (.GV kvs::xs) (.map (some g)::vs)
def EM (w w' : World):Prop:=∀(g:Nat) (es:Array MapEntry) (c:Nat),w.heap[g]? = some (Obj.map es c)->w'.heap[g]? = some (Obj.map es c)
theorem EM.refl (w:World):EM w w:=fun _ _ _ h=>h
theorem EM.trans {w w' w'' : World} (h:EM w w') (k:EM w' w''):EM w w'' :=fun g es c hg=>k g es c (h g es c hg)
structure Ext (σ:Sg) (w:World) (σ' : Sg) (w' : World):Prop where
 box:∀id L,σ.box id=some L->∃L',σ'.box id=some L' /\ L'.Ap=L.Ap/\(L' = L\/L.tot<L'.tot)
 fz:∀b c,σ.fz b c->σ'.fz b c/\w'.cell? ⟨b,c,none⟩=w.cell? ⟨b,c,none⟩
 mp:EM w w'
theorem Ext.refl (σ:Sg) (w:World):Ext σ w σ w:=⟨fun id L h=>⟨L,h,rfl,.inl rfl⟩,fun b c h=>⟨h,rfl⟩,EM.refl w⟩
theorem Ext.trans {σ w σ' w' σ'' w''} (h:Ext σ w σ' w') (k:Ext σ' w' σ'' w''):Ext σ w σ'' w'' :=by
 refine⟨fun id L hL=>?_,fun b c hc=>?_,h.mp.trans k.mp⟩
 ·obtain⟨L',h1,h2,h3⟩:=h.box id L hL
  obtain⟨L'',k1,k2,k3⟩:=k.box id L' h1
  refine⟨L'',k1,k2.trans h2,?_⟩
  rcases h3 with rfl|h3
  ·exact k3
  ·rcases k3 with rfl|k3
   ·exact .inr h3
   ·exact .inr (Nat.lt_trans h3 k3)
 ·obtain⟨a1,a2⟩:=h.fz b c hc
  obtain⟨b1,b2⟩:=k.fz b c a1
  exact⟨b1,b2.trans a2⟩
theorem Lies.ext {σ w σ' w' b o us} (h:Lies σ w b o us) (e:Ext σ w σ' w'):Lies σ' w' b o us:=fun j u hu=>by
 obtain⟨h1,h2⟩:=h j u hu
 obtain⟨e1,e2⟩:=e.fz _ _ h1
 exact⟨e1,e2.trans h2⟩
theorem AQ.ext {σ w σ' w' xs vs} (h:AQ σ w xs vs) (e:Ext σ w σ' w'):AQ σ' w' xs vs:=by
 induction h with
 | nil=>exact .nil
 | und u _ ih=>exact .und u ih
 | no _ ih=>exact .no ih
 | lit hl _ ih=>exact .lit hl ih
 | agg _ ho _ ih1 ih2=>exact .agg ih1 ho ih2
 | BF _ _ ih1 ih2=>exact .BF ih1 ih2
 | EW _ ih=>exact .EW ih
 | Fh _ ih=>exact .Fh ih
 | FV a _ ih=>exact .FV a ih
 | GL a _ ih=>exact .GL a ih
 | sl b o c e' _ h0 h1 h2 h3 h4 h5 _ ih1 ih2=>exact .sl b o c e' ih1 h0 h1 h2 h3 h4 (h5.ext e) ih2
 | Cb b o e' _ h0 h1 h2 h3 h4 _ ih1 ih2=>exact .Cb b o e' ih1 h0 h1 h2 h3 (h4.ext e) ih2
 | Ba h1 h2 h3 h4 _ ih=>
  obtain⟨L',k1,k2,k3⟩:=e.box _ _ h1
  rcases k3 with rfl|k3
  ·exact .Ba k1 h2 h3 h4 ih
  ·exact .Ba k1 (by omega) (fun hh=>by omega) h4 ih
 | ptr g h1 h2 h3 h4 _ ih=>
  obtain⟨L',k1,k2,k3⟩:=e.box _ _ h1
  rcases k3 with rfl|k3
  ·exact .ptr g k1 h2 h3 h4 ih
  ·exact .ptr g k1 (by omega) (fun hh=>by omega) (by rw [k2];exact h4) ih
 | CG b o e' i off _ h0 h1 h2 h3 _ ih1 ih2=>exact .CG b o e' i off ih1 h0 h1 h2 (h3.ext e) ih2
 | fn _ _ _ ih1 ih2 ih3=>exact .fn ih1 ih2 ih3
 | Gv _ _ ih1 ih2=>exact .Gv ih1 ih2
 | GV g es c _ h1 h2 _ ih1 ih2=>exact .GV g es c ih1 (e.mp _ _ _ h1) h2 ih2
theorem AQ.length {σ w xs vs} (h:AQ σ w xs vs):xs.length=vs.length:=by
 induction h<;>simp_all
theorem KG (xs:List V):CJ xs=true↔∀x∈xs,CU x=true:=by
 induction xs with
 | nil=>simp [CJ]
 | cons x xs ih=>simp [CJ,ih]
theorem sV {x:V} (h:Em x=true):okV x=true:=by simp [Em] at h;exact h.1
theorem QQ {x:V} (h:Em x=true):CU x=true:=by simp [Em] at h;exact h.2
theorem Z3I {xs:List V} (h:∀x∈xs,Em x=true):∀x∈xs,okV x=true:=fun x hx=>sV (h x hx)
theorem Ol {xs:List V} (h:∀x∈xs,Em x=true):CJ xs=true:=(KG xs).2 fun x hx=>QQ (h x hx)
theorem Zt0 {x:V} (h:CU x=true):CJ x.cells=true:=by
 cases x<;>simp_all [V.cells,CU,CJ]
theorem AQ.FH {σ w x xs v vs}:AQ σ w (x::xs) (v::vs)↔AQ σ w [x] [v]/\AQ σ w xs vs:=by
 constructor
 ·intro h
  cases h with
  | und _ h=>exact⟨.und _ .nil,h⟩
  | no h=>exact⟨.no .nil,h⟩
  | lit hl h=>exact⟨.lit hl .nil,h⟩
  | agg h1 ho h=>exact⟨.agg h1 ho .nil,h⟩
  | BF h1 h=>exact⟨.BF h1 .nil,h⟩
  | EW h=>exact⟨.EW .nil,h⟩
  | Fh h=>exact⟨.Fh .nil,h⟩
  | FV a h=>exact⟨.FV a .nil,h⟩
  | GL a h=>exact⟨.GL a .nil,h⟩
  | sl b o c e h0 h1 h2 h3 h4 h5 h6 h=>exact⟨.sl b o c e h0 h1 h2 h3 h4 h5 h6 .nil,h⟩
  | Cb b o e h0 h1 h2 h3 h4 h5 h=>exact⟨.Cb b o e h0 h1 h2 h3 h4 h5 .nil,h⟩
  | Ba h1 h2 h3 h4 h=>exact⟨.Ba h1 h2 h3 h4 .nil,h⟩
  | ptr g h1 h2 h3 h4 h=>exact⟨.ptr g h1 h2 h3 h4 .nil,h⟩
  | CG b o e i off h0 h1 h2 h3 h4 h=>exact⟨.CG b o e i off h0 h1 h2 h3 h4 .nil,h⟩
  | fn h1 h2 h=>exact⟨.fn h1 h2 .nil,h⟩
  | Gv h1 h=>exact⟨.Gv h1 .nil,h⟩
  | GV g es c h0 h1 h2 h=>exact⟨.GV g es c h0 h1 h2 .nil,h⟩
 ·rintro ⟨h,k⟩
  cases h with
  | und _ h=>exact .und _ k
  | no h=>exact .no k
  | lit hl h=>exact .lit hl k
  | agg h1 ho h=>exact .agg h1 ho k
  | BF h1 h=>exact .BF h1 k
  | EW h=>exact .EW k
  | Fh h=>exact .Fh k
  | FV a h=>exact .FV a k
  | GL a h=>exact .GL a k
  | sl b o c e h0 h1 h2 h3 h4 h5 h6 h=>exact .sl b o c e h0 h1 h2 h3 h4 h5 h6 k
  | Cb b o e h0 h1 h2 h3 h4 h5 h=>exact .Cb b o e h0 h1 h2 h3 h4 h5 k
  | Ba h1 h2 h3 h4 h=>exact .Ba h1 h2 h3 h4 k
  | ptr g h1 h2 h3 h4 h=>exact .ptr g h1 h2 h3 h4 k
  | CG b o e i off h0 h1 h2 h3 h4 h=>exact .CG b o e i off h0 h1 h2 h3 h4 k
  | fn h1 h2 h=>exact .fn h1 h2 k
  | Gv h1 h=>exact .Gv h1 k
  | GV g es c h0 h1 h2 h=>exact .GV g es c h0 h1 h2 k
theorem AQ.FM {σ w vs} (h:AQ σ w [] vs):vs=[]:=by cases h;rfl
theorem AQ.Dq {σ w x xs vs} (h:AQ σ w (x::xs) vs):∃v vs',vs=v::vs' /\ AQ σ w [x] [v]/\AQ σ w xs vs' :=by
 cases vs with
 | nil=>exact absurd h.length (by simp)
 | cons v vs' =>exact⟨v,vs',rfl,(AQ.FH.1 h).1,(AQ.FH.1 h).2⟩
theorem AQ.append {σ w xs vs ys us} (h:AQ σ w xs vs) (k:AQ σ w ys us):AQ σ w (xs++ys) (vs++us):=by
 induction xs generalizing vs with
 | nil=>cases h.FM;exact k
 | cons x xs ih=>
  obtain⟨v,vs',rfl,h1,h2⟩:=h.Dq
  exact AQ.FH.2 ⟨h1,ih h2⟩
theorem AQ.get {σ w xs vs} (h:AQ σ w xs vs) {i:Nat} {x:V} (hx:xs[i]? = some x):∃v,vs[i]? = some v/\AQ σ w [x] [v]:=by
 induction xs generalizing vs i with
 | nil=>simp at hx
 | cons y ys ih=>
  obtain⟨v,vs',rfl,h1,h2⟩:=h.Dq
  cases i with
  | zero=>simp at hx;subst hx;exact⟨v,rfl,h1⟩
  | succ i=>simp at hx ⊢;exact ih h2 hx
theorem AQ.take {σ w xs vs} (h:AQ σ w xs vs) (n:Nat):AQ σ w (xs.take n) (vs.take n):=by
 induction xs generalizing vs n with
 | nil=>cases h.FM;simp;exact .nil
 | cons y ys ih=>
  obtain⟨v,vs',rfl,h1,h2⟩:=h.Dq
  cases n with
  | zero=>exact .nil
  | succ n=>exact AQ.FH.2 ⟨h1,ih h2 n⟩
theorem AQ.drop {σ w xs vs} (h:AQ σ w xs vs) (n:Nat):AQ σ w (xs.drop n) (vs.drop n):=by
 induction xs generalizing vs n with
 | nil=>cases h.FM;simp;exact .nil
 | cons y ys ih=>
  obtain⟨v,vs',rfl,h1,h2⟩:=h.Dq
  cases n with
  | zero=>exact h
  | succ n=>exact ih h2 n
theorem AQ.set {σ w xs vs x v} (h:AQ σ w xs vs) (i:Nat) (k:AQ σ w [x] [v]):AQ σ w (xs.set i x) (vs.set i v):=by
 induction xs generalizing vs i with
 | nil=>cases h.FM;simp;exact .nil
 | cons y ys ih=>
  obtain⟨u,vs',rfl,h1,h2⟩:=h.Dq
  cases i with
  | zero=>exact AQ.FH.2 ⟨k,h2⟩
  | succ i=>exact AQ.FH.2 ⟨h1,ih h2 i⟩
theorem AQ.replicate {σ w x v} (n:Nat) (k:AQ σ w [x] [v]):AQ σ w (List.replicate n x) (List.replicate n v):=by
 induction n with
 | zero=>exact .nil
 | succ n ih=>exact AQ.FH.2 ⟨k,ih⟩
def noMark (tg:Nat×Nat) (n:Nat):Prop:=tg=(0,0)\/n<=tg.1
def FZ (w:World) (base:Nat) (e:TypeId) (size:Nat) (v:Value) (n:Nat) (xs:List Value):Prop:=
 xs.length=n*size /\
 ((v = .slice none 0 0/\n=0) \/
  ∃g cap cur tg,v = .slice (some ⟨g,0,none⟩) n cap/\base<=g/\w.heap[g]? = some (.cells cur e tg)/\noMark tg cur.size/\n<=cap/\cap<=maxLen/\cur.size=cap*size/\cur.toList.take (n*size)=xs)
section
variable {w:World} {base:Nat} {e:TypeId} {size:Nat} {v:Value} {n:Nat} {xs:List Value}
theorem FZ.of (h:w.ownsRow base e size v n xs):FZ w base e size v n xs:=by
 refine⟨h.1,?_⟩
 rcases h.2 with h|⟨g,cap,cur,h1,h2,h3,h4⟩
 ·exact .inl h
 ·exact .inr ⟨g,cap,cur,(0,0),h1,h2,h3,.inl rfl,h4⟩
theorem Um (w:World) (base:Nat) (e:TypeId) (size:Nat):FZ w base e size (.slice none 0 0) 0 []:=.of (World.ownsRow_nil w base e size)
theorem FZ.lt (h:FZ w base e size v n xs):∀k,v.ownBlock=some k->base<=k/\k<w.heap.size:=by
 intro k hk
 rcases h.2 with ⟨rfl,_⟩|⟨g,cap,cur,tg,rfl,hb,hg,_⟩
 ·simp [Value.ownBlock] at hk
 ·simp [Value.ownBlock] at hk
  subst hk
  exact⟨hb,(Array.getElem?_eq_some_iff.1 hg).1⟩
theorem FZ.kept {w' : World} {row:Option Nat} (h:FZ w base e size v n xs) (hg:w.grownBy w' row) (hne:v.ownBlock=none\/v.ownBlock≠row):FZ w' base e size v n xs:=by
 refine⟨h.1,?_⟩
 rcases h.2 with hn|⟨g,cap,cur,tg,rfl,hb,hgg,rest⟩
 ·exact .inl hn
 ·refine .inr ⟨g,cap,cur,tg,rfl,hb,?_,rest⟩
  rw [hg.block g (Array.getElem?_eq_some_iff.1 hgg).1 (by simpa [Value.ownBlock] using hne)]
  exact hgg
theorem FZ.cells (h:FZ w base e size v n xs) {g:Nat} (hg:v.ownBlock=some g):∀j u,xs[j]? = some u->w.cell? ((⟨g,0,none⟩:Addr).add j)=some u:=by
 intro j u hu
 rcases h.2 with ⟨rfl,_⟩|⟨g',cap,cur,tg,rfl,hb,hgg,hm,hn,hc,hs,ht⟩
 ·simp [Value.ownBlock] at hg
 ·simp only [Value.ownBlock,Option.some.injEq] at hg
  subst hg
  rw [Addr.add_mid,Nat.zero_add]
  rw [<- ht,List.getElem?_take] at hu
  split at hu
  ·simp only [World.cell?,hgg]
   simpa using hu
  ·cases hu
end
theorem jJ (P:Program) (g o:Nat) (t:TypeId) (tg:Nat×Nat):∀(vs:List Value) (i:Nat) (cur:Array Value) (w:World),w.heap[g]? = some (.cells cur t tg)->noMark tg cur.size->o+i+vs.length<=cur.size->(∀v∈vs,v.oneCell' = true) ->
  (storeCells ⟨g,o,none⟩ vs i).run P w = .ok () (w.setRow g (cur.toList.take (o+i)++vs++cur.toList.drop (o+i+vs.length)).toArray)
 | [],i,cur,w,hg,_,_,_=>by
  simp only [storeCells,List.append_nil,List.length_nil,Nat.add_zero,List.take_append_drop,Array.toArray_toList]
  rw [setRow_self w g cur t tg hg]
  rfl
 | v::rest,i,cur,w,hg,hm,hl,h1=>by
  have hi:o+i<cur.size:=by simp at hl;omega
  have hadd:(⟨g,o,none⟩:Addr).add i=⟨g,o+i,none⟩:=by unfold Addr.add;split<;>simp_all
  have hcell:w.cell? ⟨g,o+i,none⟩=some cur[o+i]:=by simp [World.cell?,hg,hi]
  have hfro:w.frozen? ⟨g,o+i,none⟩=false:=by
   obtain⟨lo,hi'⟩:=tg
   rcases hm with hm|hm
   ·cases hm;simp [World.frozen?,hg]
   ·simp only at hm
    have:¬lo<=o+i:=by omega
    simp [World.frozen?,hg,this]
  have hst:(store ((⟨g,o,none⟩:Addr).add i) v).run P w = .ok () (w.setRow g (cur.setIfInBounds (o+i) v)):=by
   rw [hadd,run_store P w _ v _ (h1 v (by simp)),hcell]
   simp [hfro,setCell_eq_setRow w g (o+i) cur t tg v hg]
  have ih:=jJ P g o t tg rest (i+1) (cur.setIfInBounds (o+i) v) (w.setRow g (cur.setIfInBounds (o+i) v)) (setRow_heap w g cur _ t _ hg) (by simpa using hm) (by simp at hl ⊢;omega) (fun x hx=>h1 x (by simp [hx]))
  simp only [storeCells,Sem.run_bind,hst,Result.andThen_ok,ih,setRow_setRow]
  congr 3
  have e:=list_seg_step cur.toList (o+i) v rest (by simp at hl ⊢;omega)
  simpa [Array.toList_setIfInBounds,Nat.add_assoc] using e
theorem Z5Q {P:Program} {w:World} (t ty e:TypeId) (i:TypeInfo) (ht:P.underlying t=some (.slice e)) (hi:P.info? e=some i)
  (g sLen sCap:Nat) (cur:Array Value) (tg:Nat×Nat) (hg:w.heap[g]? = some (.cells cur e tg)) (hm:noMark tg cur.size)
  (a:Addr) (m c:Nat) (news:List Value) (hl:news.length=m*i.size) (hnews:∀j u,news[j]? = some u->w.cell? (a.add j)=some u) (h1:∀u∈news,u.oneCell' = true)
  (hroom:sLen+m<=sCap) (hfit:sLen*i.size+news.length<=cur.size) :
  (Builtin.append_ #[t,t] ty #[.slice (some ⟨g,0,none⟩) sLen sCap,.slice (some a) m c]).run P w =
   .ok (.slice (some ⟨g,0,none⟩) (sLen+m) sCap) (w.setRow g (cur.toList.take (sLen*i.size)++news++cur.toList.drop (sLen*i.size+news.length)).toArray):=by
 have hf:=run_firstCells_some (P:=P) w i.size m a m c news hl hnews
 have hst:=jJ P g (sLen*i.size) e tg news 0 cur w hg hm (by simpa using hfit) h1
 simp only [Nat.add_zero] at hst
 simp [Builtin.append_,run_underlying ht,sizeOf,typeInfo,hi,Builtin.lenOf,hroom,hf,Addr.add_lit,hst]
structure Jn (σ:Sg) (w:World) (B:Nat) (bx:Box) (L:Loc):Prop where
 tot:L.tot=bx.xs.length
 D9:∃us,AQ σ w bx.xs us/\(∀u∈us,u.cells.size=L.Ap)/\(∀u∈flat us,u.oneCell' = true)/\FZ w B bx.elem L.Ap L.v bx.xs.length (flat us)
 EX:bx.EX=true->L.v = .slice none 0 0
 Ap:bx.Ap=L.Ap
 oks:∀x∈bx.xs,okV x=true
 Ho:bx.row=true->∀x∈bx.xs,CU x=true
structure Start where
 w:World
 fz:Nat->Nat->Prop
 keep:Nat->Prop
abbrev Start.of (w:World) (fz:Nat->Nat->Prop):Start:=⟨w,fz,fun _=>False⟩
structure Inv (B:Nat) (w0:Start) (σ:Sg) (H:Heap) (w:World):Prop where
 below:Below B w0.w w
 size:B<=w.heap.size
 dom:∀id L,σ.box id=some L->∃bx,H[id]? = some bx/\bx.live=true
 boxes:∀id bx,H[id]? = some bx->bx.live=true->∃L,σ.box id=some L/\Jn σ w B bx L
 apart:∀id id' bx bx' L L' g,H[id]? = some bx->H[id']? = some bx' -> bx.live=true->bx'.live=true->σ.box id=some L->σ.box id' = some L' ->
  L.v.ownBlock=some g->L'.v.ownBlock=some g->id=id'
 cells:∀b c,σ.fz b c->∃u,w.cell? ⟨b,c,none⟩=some u
 floor:∀b c,σ.fz b c->∀id bx L,H[id]? = some bx->bx.live=true->σ.box id=some L->L.v.ownBlock=some b->c<bx.floor*L.Ap
 low:∀(id:Nat) (bx:Box),H[id]? = some bx->bx.live=true->bx.floor<=bx.xs.length
 old:∀b c,σ.fz b c->b<B->w0.fz b c
 kept:∀b,w0.keep b->b<w.heap.size/\w.heap[b]? = w0.w.heap[b]? /\ (∀id L,σ.box id=some L->L.v.ownBlock≠some b)/\∀c,σ.fz b c->w0.fz b c
theorem Inv.Z4c {B w0 σ H w} (h:Inv B w0 σ H w) {id L} (hb:σ.box id=some L):id<H.length:=by
 obtain⟨bx,h1,_⟩:=h.dom id L hb
 exact(List.getElem?_eq_some_iff.1 h1).1
theorem Z2N {H:Heap} {k:Nat} (h:FP H k=true):(H[k]? = none/\k=H.length)\/∃b,H[k]? = some b/\b.live=false:=by
 unfold FP at h
 split at h
 ·rename_i b hb;exact .inr ⟨b,hb,by simpa using h⟩
 ·rename_i hb;exact .inl ⟨hb,by simpa using h⟩
theorem dG (H:Heap):FP H H.length=true:=by simp [FP]
theorem Ug {H:Heap} {k:Nat} (h:FP H k=true) (b:Box) (id:Nat):(place H k b)[id]? = if id=k then some b else H[id]?:=by
 unfold place
 rcases Z2N h with ⟨_,hk⟩|⟨b0,hb,_⟩
 ·subst hk
  rw [if_neg (Nat.lt_irrefl _),List.getElem?_append]
  by_cases hid:id=H.length
  ·subst hid;simp
  ·by_cases hlt:id<H.length
   ·simp [hid,hlt]
   ·rw [if_neg hlt,if_neg hid,List.getElem?_eq_none (by simp;omega),List.getElem?_eq_none (by omega)]
 ·have hlt:=(List.getElem?_eq_some_iff.1 hb).1
  rw [if_pos hlt,List.getElem?_set]
  by_cases hid:k=id
  ·subst hid;simp [hlt]
  ·rw [if_neg hid,if_neg (fun e=>hid e.symm)]
theorem ZzR (H:Heap) (b:Box):place H H.length b=H++[b]:=by simp [place]
theorem cell_lt {w:World} {b c:Nat} {u:Value} (h:w.cell? ⟨b,c,none⟩=some u):b<w.heap.size:=block_lt_of_cell h
theorem Jn.kept {σ w B bx L σ' w'} {row:Option Nat} (h:Jn σ w B bx L) (e:Ext σ w σ' w') (hg:w.grownBy w' row) (hne:L.v.ownBlock=none\/L.v.ownBlock≠row):Jn σ' w' B bx L:=by
 obtain⟨us,h1,h2,h3,h4⟩:=h.D9
 exact⟨h.tot,⟨us,h1.ext e,h2,h3,h4.kept hg hne⟩,h.EX,h.Ap,h.oks,h.Ho⟩
theorem Jn.block_lt {σ w B bx L g} (h:Jn σ w B bx L) (hg:L.v.ownBlock=some g):B<=g/\g<w.heap.size:=by
 obtain⟨us,h1,h2,h3,h4⟩:=h.D9
 exact h4.lt g hg
theorem Zuw {w:World} {base:Nat} {e:TypeId} {size:Nat} {v:Value} {n:Nat} {xs:List Value} (h:FZ w base e size v n xs) {g:Nat} (hg:v.ownBlock=some g):∃cur t tg,w.heap[g]? = some (.cells cur t tg):=by
 rcases h.2 with ⟨rfl,_⟩|⟨g',cap,cur,tg,rfl,_,hgg,_⟩
 ·simp [Value.ownBlock] at hg
 ·simp [Value.ownBlock] at hg
  subst hg
  exact⟨_,_,_,hgg⟩
theorem Jn.ZF9 {σ w B bx L g} (h:Jn σ w B bx L) (hg:L.v.ownBlock=some g) {es:Array MapEntry} {c:Nat} (hm:w.heap[g]? = some (.map es c)):False:=by
 obtain⟨us,h1,h2,h3,h4⟩:=h.D9
 obtain⟨cur,t,tg,hc⟩:=Zuw h4 hg
 rw [hc] at hm
 cases hm
theorem Inv.grown {B w0 σ H w w'} (h:Inv B w0 σ H w) (hg:w.grownBy w' none):Inv B w0 σ H w' /\ Ext σ w σ w' :=by
 have hcell:∀b c,b<w.heap.size->w'.cell? ⟨b,c,none⟩=w.cell? ⟨b,c,none⟩:=fun b c hb=>
  World.cell?_of_block (hg.block b hb (by simp))
 have e:Ext σ w σ w' :=⟨fun id L hL=>⟨L,hL,rfl,.inl rfl⟩,fun b c hc=>⟨hc,by
  obtain⟨u,hu⟩:=h.cells b c hc
  exact hcell b c (cell_lt hu)⟩,fun g es c hm=>(hg.block g (Array.getElem?_eq_some_iff.1 hm).1 (by simp)).trans hm⟩
 refine⟨⟨h.below.grown hg h.size (by simp),Nat.le_trans h.size hg.size,h.dom,?_,h.apart,?_,h.floor,h.low,h.old,fun b hb=>?_⟩,e⟩
 ·intro id bx hb hl
  obtain⟨L,hL,hok⟩:=h.boxes id bx hb hl
  refine⟨L,hL,hok.kept e hg ?_⟩
  cases L.v.ownBlock with
  | none=>exact .inl rfl
  | some g=>exact .inr (by simp)
 ·intro b c hc
  obtain⟨u,hu⟩:=h.cells b c hc
  exact⟨u,(hcell b c (cell_lt hu)).trans hu⟩
 ·obtain⟨k1,k2,k3,k4⟩:=h.kept b hb
  exact⟨Nat.lt_of_lt_of_le k1 hg.size,(hg.block b k1 (by simp)).trans k2,k3,k4⟩
def Sg.put (σ:Sg) (id:Nat) (L:Loc):Sg:={ σ with box:=fun i=>if i=id then some L else σ.box i }
theorem Inv.push {B w0 σ H w w'} (h:Inv B w0 σ H w) (hg:w.grownBy w' none) {k:Nat} (hk:FP H k=true) (bx:Box) (hlive:bx.live=true) (L:Loc) (hlow:bx.floor<=bx.xs.length)
  (hnew:∀g,L.v.ownBlock=some g->w.heap.size<=g) (hok:Ext σ w (σ.put k L) w' -> Jn (σ.put k L) w' B bx L) :
  Inv B w0 (σ.put k L) (place H k bx) w' /\ Ext σ w (σ.put k L) w' :=by
 have hnone:σ.box k=none:=by
  cases hb:σ.box k with
  | none=>rfl
  | some L' =>
   exfalso
   obtain⟨b1,c1,c2⟩:=h.dom _ _ hb
   rcases Z2N hk with ⟨hn,_⟩|⟨b0,hb0,hl0⟩
   ·rw [hn] at c1;cases c1
   ·rw [hb0] at c1;cases c1;rw [hl0] at c2;cases c2
 obtain⟨h',e0⟩:=h.grown hg
 have e:Ext σ w (σ.put k L) w' :=by
  refine⟨fun id L' hL' =>⟨L',?_,rfl,.inl rfl⟩,e0.fz,e0.mp⟩
  have:id≠k:=fun hh=>by rw [hh,hnone] at hL';cases hL'
  simp [Sg.put,this,hL']
 have e' : Ext σ w' (σ.put k L) w' :=by
  refine⟨e.box,fun b c hc=>⟨hc,rfl⟩,EM.refl _⟩
 have hold:∀id bx',id≠k->(place H k bx)[id]? = some bx' -> H[id]? = some bx' :=by
  intro id bx' hid hh
  rw [Ug hk,if_neg hid] at hh
  exact hh
 have hget:(place H k bx)[k]? = some bx:=by rw [Ug hk,if_pos rfl]
 refine⟨⟨h'.below,h'.size,?_,?_,?_,h'.cells,?_,?_,h'.old,fun b hb=>?_⟩,e⟩
 ·intro id L' hL'
  by_cases hid:id=k
  ·subst hid;exact⟨bx,hget,hlive⟩
  ·simp only [Sg.put,hid,if_false] at hL'
   obtain⟨b1,c1,c2⟩:=h.dom id L' hL'
   exact⟨b1,by rw [Ug hk,if_neg hid];exact c1,c2⟩
 ·intro id bx' hb hl
  by_cases hid:id=k
  ·subst hid
   rw [hget] at hb
   cases hb
   exact⟨L,by simp [Sg.put],hok e⟩
  ·obtain⟨L',hL',hok'⟩:=h'.boxes id bx' (hold id bx' hid hb) hl
   refine⟨L',by simp [Sg.put,hid,hL'],?_⟩
   obtain⟨us,h1,h2,h3,h4⟩:=hok'.D9
   exact⟨hok'.tot,⟨us,h1.ext e',h2,h3,h4⟩,hok'.EX,hok'.Ap,hok'.oks,hok'.Ho⟩
 ·intro id id' bx1 bx2 L1 L2 g hb1 hb2 hl1 hl2 hL1 hL2 hg1 hg2
  by_cases hid:id=k
  ·by_cases hid' : id' = k
   ·rw [hid,hid']
   ·exfalso
    subst hid
    simp only [Sg.put,if_true] at hL1
    cases hL1
    simp only [Sg.put,hid',if_false] at hL2
    have hb2' :=hold id' bx2 hid' hb2
    obtain⟨L',hL',hok'⟩:=h.boxes id' bx2 hb2' hl2
    rw [hL2] at hL'
    cases hL'
    have:=(hok'.block_lt hg2).2
    have:=hnew g hg1
    omega
  ·by_cases hid' : id' = k
   ·exfalso
    subst hid'
    simp only [Sg.put,if_true] at hL2
    cases hL2
    simp only [Sg.put,hid,if_false] at hL1
    have hb1' :=hold id bx1 hid hb1
    obtain⟨L',hL',hok'⟩:=h.boxes id bx1 hb1' hl1
    rw [hL1] at hL'
    cases hL'
    have:=(hok'.block_lt hg1).2
    have:=hnew g hg2
    omega
   ·simp only [Sg.put,hid,hid',if_false] at hL1 hL2
    exact h.apart id id' bx1 bx2 L1 L2 g (hold id bx1 hid hb1) (hold id' bx2 hid' hb2) hl1 hl2 hL1 hL2 hg1 hg2
 ·intro b c hc id bx' L' hb hl hL' hg'
  by_cases hid:id=k
  ·exfalso
   subst hid
   simp only [Sg.put,if_true] at hL'
   cases hL'
   obtain⟨u,hu⟩:=h.cells b c hc
   have:=cell_lt hu
   have:=hnew b hg'
   omega
  ·simp only [Sg.put,hid,if_false] at hL'
   exact h.floor b c hc id bx' L' (hold id bx' hid hb) hl hL' hg'
 ·intro id bx' hb hl
  by_cases hid:id=k
  ·subst hid
   rw [hget] at hb
   cases hb
   exact hlow
  ·exact h.low id bx' (hold id bx' hid hb) hl
 ·obtain⟨k1,k2,k3,k4⟩:=h'.kept b hb
  refine⟨k1,k2,fun id L' hL' hg' =>?_,k4⟩
  by_cases hid:id=k
  ·subst hid
   simp only [Sg.put,if_true] at hL'
   cases hL'
   have:=(h.kept b hb).1
   have:=hnew b hg'
   omega
  ·simp only [Sg.put,hid,if_false] at hL'
   exact k3 id L' hL' hg'
theorem Inv.ZCK {B w0 σ H w} (h:Inv B w0 σ H w) {k:Nat} (hk:FP H k=true) (bx:Box) (hlive:bx.live=true) (L:Loc) (hlow:bx.floor<=bx.xs.length)
  (hap:∀id bx' L' g,H[id]? = some bx' -> bx'.live=true->σ.box id=some L' -> L'.v.ownBlock=some g->L.v.ownBlock≠some g) (hfz:∀g c,L.v.ownBlock=some g->¬σ.fz g c) (hkp:∀g,L.v.ownBlock=some g->¬w0.keep g)
  (hok:Jn (σ.put k L) w B bx L):Inv B w0 (σ.put k L) (place H k bx) w/\Ext σ w (σ.put k L) w:=by
 have hnone:σ.box k=none:=by
  cases hb:σ.box k with
  | none=>rfl
  | some L' =>
   exfalso
   obtain⟨b1,c1,c2⟩:=h.dom _ _ hb
   rcases Z2N hk with ⟨hn,_⟩|⟨b0,hb0,hl0⟩
   ·rw [hn] at c1;cases c1
   ·rw [hb0] at c1;cases c1;rw [hl0] at c2;cases c2
 have e:Ext σ w (σ.put k L) w:=by
  refine⟨fun id L' hL' =>⟨L',?_,rfl,.inl rfl⟩,fun b c hc=>⟨hc,rfl⟩,EM.refl _⟩
  have:id≠k:=fun hh=>by rw [hh,hnone] at hL';cases hL'
  simp [Sg.put,this,hL']
 have hold:∀id bx',id≠k->(place H k bx)[id]? = some bx' -> H[id]? = some bx' :=by
  intro id bx' hid hh
  rw [Ug hk,if_neg hid] at hh
  exact hh
 have hget:(place H k bx)[k]? = some bx:=by rw [Ug hk,if_pos rfl]
 refine⟨⟨h.below,h.size,?_,?_,?_,h.cells,?_,?_,h.old,fun b hb=>?_⟩,e⟩
 ·intro id L' hL'
  by_cases hid:id=k
  ·subst hid;exact⟨bx,hget,hlive⟩
  ·simp only [Sg.put,hid,if_false] at hL'
   obtain⟨b1,c1,c2⟩:=h.dom id L' hL'
   exact⟨b1,by rw [Ug hk,if_neg hid];exact c1,c2⟩
 ·intro id bx' hb hl
  by_cases hid:id=k
  ·subst hid
   rw [hget] at hb
   cases hb
   exact⟨L,by simp [Sg.put],hok⟩
  ·obtain⟨L',hL',hok'⟩:=h.boxes id bx' (hold id bx' hid hb) hl
   refine⟨L',by simp [Sg.put,hid,hL'],?_⟩
   obtain⟨us,h1,h2,h3,h4⟩:=hok'.D9
   exact⟨hok'.tot,⟨us,h1.ext e,h2,h3,h4⟩,hok'.EX,hok'.Ap,hok'.oks,hok'.Ho⟩
 ·intro id id' bx1 bx2 L1 L2 g hb1 hb2 hl1 hl2 hL1 hL2 hg1 hg2
  by_cases hid:id=k
  ·by_cases hid' : id' = k
   ·rw [hid,hid']
   ·exfalso
    subst hid
    simp only [Sg.put,if_true] at hL1
    cases hL1
    simp only [Sg.put,hid',if_false] at hL2
    exact hap id' bx2 L2 g (hold id' bx2 hid' hb2) hl2 hL2 hg2 hg1
  ·by_cases hid' : id' = k
   ·exfalso
    subst hid'
    simp only [Sg.put,if_true] at hL2
    cases hL2
    simp only [Sg.put,hid,if_false] at hL1
    exact hap id bx1 L1 g (hold id bx1 hid hb1) hl1 hL1 hg1 hg2
   ·simp only [Sg.put,hid,hid',if_false] at hL1 hL2
    exact h.apart id id' bx1 bx2 L1 L2 g (hold id bx1 hid hb1) (hold id' bx2 hid' hb2) hl1 hl2 hL1 hL2 hg1 hg2
 ·intro b c hc id bx' L' hb hl hL' hg'
  by_cases hid:id=k
  ·exfalso
   subst hid
   simp only [Sg.put,if_true] at hL'
   cases hL'
   exact hfz b c hg' hc
  ·simp only [Sg.put,hid,if_false] at hL'
   exact h.floor b c hc id bx' L' (hold id bx' hid hb) hl hL' hg'
 ·intro id bx' hb hl
  by_cases hid:id=k
  ·subst hid
   rw [hget] at hb
   cases hb
   exact hlow
  ·exact h.low id bx' (hold id bx' hid hb) hl
 ·obtain⟨k1,k2,k3,k4⟩:=h.kept b hb
  refine⟨k1,k2,fun id L' hL' hg' =>?_,k4⟩
  by_cases hid:id=k
  ·subst hid
   simp only [Sg.put,if_true] at hL'
   cases hL'
   exact hkp b hg' hb
  ·simp only [Sg.put,hid,if_false] at hL'
   exact k3 id L' hL' hg'
theorem Inv.upd {B w0 σ H w w'} (h:Inv B w0 σ H w) {id:Nat} {bx:Box} {L:Loc} (hb:H[id]? = some bx) (hl:bx.live=true) (hL:σ.box id=some L)
  (hg:w.grownBy w' L.v.ownBlock) (bx' : Box) (hlive:bx'.live=true) (L' : Loc) (hesz:L'.Ap=L.Ap) (htot:L' = L\/L.tot<L'.tot) (hfl:bx'.floor=bx.floor) (hlen' : bx.xs.length<=bx'.xs.length)
  (hnew:∀g,L'.v.ownBlock=some g->L.v.ownBlock=some g\/w.heap.size<=g)
  (hkeep:∀g c,L.v.ownBlock=some g->c<bx.floor*L.Ap->w'.cell? ⟨g,c,none⟩=w.cell? ⟨g,c,none⟩)
  (hok:Ext σ w (σ.put id L') w' -> Jn (σ.put id L') w' B bx' L') :
  Inv B w0 (σ.put id L') (H.set id bx') w' /\ Ext σ w (σ.put id L') w' :=by
 have hlen:id<H.length:=h.Z4c hL
 obtain⟨L0,hL0,hok0⟩:=h.boxes id bx hb hl
 rw [hL] at hL0
 cases hL0
 have hcell:∀b c,σ.fz b c->w'.cell? ⟨b,c,none⟩=w.cell? ⟨b,c,none⟩:=by
  intro b c hc
  obtain⟨u,hu⟩:=h.cells b c hc
  by_cases hown:L.v.ownBlock=some b
  ·exact hkeep b c hown (h.floor b c hc id bx L hb hl hL hown)
  ·exact World.cell?_of_block (hg.block b (cell_lt hu) (fun hh=>hown hh.symm))
 have e:Ext σ w (σ.put id L') w' :=by
  refine⟨fun i Li hLi=>?_,fun b c hc=>⟨hc,hcell b c hc⟩,fun g es c hm=>(hg.block g (Array.getElem?_eq_some_iff.1 hm).1 (fun hh=>hok0.ZF9 hh.symm hm)).trans hm⟩
  by_cases hi:i=id
  ·subst hi
   rw [hL] at hLi
   cases hLi
   exact⟨L',by simp [Sg.put],hesz,htot⟩
  ·exact⟨Li,by simp [Sg.put,hi,hLi],rfl,.inl rfl⟩
 have hold:∀i b,i≠id->(H.set id bx')[i]? = some b->H[i]? = some b:=by
  intro i b hi hh
  rw [List.getElem?_set_ne (fun e=>hi e.symm)] at hh
  exact hh
 have hget:(H.set id bx')[id]? = some bx' :=by simp [hlen]
 refine⟨⟨?_,Nat.le_trans h.size hg.size,?_,?_,?_,?_,?_,?_,h.old,fun b hb=>?_⟩,e⟩
 ·exact h.below.grown hg h.size (fun k hk=>(hok0.block_lt hk).1)
 ·intro i Li hLi
  by_cases hi:i=id
  ·subst hi;exact⟨bx',hget,hlive⟩
  ·simp only [Sg.put,hi,if_false] at hLi
   obtain⟨b1,c1,c2⟩:=h.dom i Li hLi
   exact⟨b1,by rw [List.getElem?_set_ne (fun e=>hi e.symm)];exact c1,c2⟩
 ·intro i b hib hlb
  by_cases hi:i=id
  ·subst hi
   rw [hget] at hib
   cases hib
   exact⟨L',by simp [Sg.put],hok e⟩
  ·have hib' :=hold i b hi hib
   obtain⟨Li,hLi,hoki⟩:=h.boxes i b hib' hlb
   refine⟨Li,by simp [Sg.put,hi,hLi],hoki.kept e hg ?_⟩
   cases hLb:Li.v.ownBlock with
   | none=>exact .inl rfl
   | some g=>
    right
    intro hh
    exact hi (h.apart i id b bx Li L g hib' hb hlb hl hLi hL hLb hh.symm)
 ·intro i j b1 b2 L1 L2 g h1 h2 l1 l2 s1 s2 g1 g2
  by_cases hi:i=id
  ·by_cases hj:j=id
   ·rw [hi,hj]
   ·exfalso
    subst hi
    simp only [Sg.put,if_true] at s1
    cases s1
    simp only [Sg.put,hj,if_false] at s2
    have h2' :=hold j b2 hj h2
    obtain⟨L3,hL3,hok3⟩:=h.boxes j b2 h2' l2
    rw [s2] at hL3
    cases hL3
    rcases hnew g g1 with hh|hh
    ·exact hj (h.apart j i b2 bx L2 L g h2' hb l2 hl s2 hL g2 hh)
    ·have:=(hok3.block_lt g2).2;omega
  ·by_cases hj:j=id
   ·exfalso
    subst hj
    simp only [Sg.put,if_true] at s2
    cases s2
    simp only [Sg.put,hi,if_false] at s1
    have h1' :=hold i b1 hi h1
    obtain⟨L3,hL3,hok3⟩:=h.boxes i b1 h1' l1
    rw [s1] at hL3
    cases hL3
    rcases hnew g g2 with hh|hh
    ·exact hi (h.apart i j b1 bx L1 L g h1' hb l1 hl s1 hL g1 hh)
    ·have:=(hok3.block_lt g1).2;omega
   ·simp only [Sg.put,hi,hj,if_false] at s1 s2
    exact h.apart i j b1 b2 L1 L2 g (hold i b1 hi h1) (hold j b2 hj h2) l1 l2 s1 s2 g1 g2
 ·intro b c hc
  obtain⟨u,hu⟩:=h.cells b c hc
  exact⟨u,(hcell b c hc).trans hu⟩
 ·intro b c hc i b' Li hib hlb hLi hgi
  by_cases hi:i=id
  ·subst hi
   rw [hget] at hib
   cases hib
   simp only [Sg.put,if_true] at hLi
   cases hLi
   rw [hfl,hesz]
   rcases hnew b hgi with hh|hh
   ·exact h.floor b c hc i bx L hb hl hL hh
   ·obtain⟨u,hu⟩:=h.cells b c hc
    have:=cell_lt hu
    omega
  ·simp only [Sg.put,hi,if_false] at hLi
   exact h.floor b c hc i b' Li (hold i b' hi hib) hlb hLi hgi
 ·intro i b' hib hlb
  by_cases hi:i=id
  ·subst hi
   rw [hget] at hib
   cases hib
   rw [hfl]
   exact Nat.le_trans (h.low i bx hb hl) hlen'
  ·exact h.low i b' (hold i b' hi hib) hlb
 ·obtain⟨k1,k2,k3,k4⟩:=h.kept b hb
  refine⟨Nat.lt_of_lt_of_le k1 hg.size,(hg.block b k1 (fun hh=>k3 id L hL hh.symm)).trans k2,fun i Li hLi hgi=>?_,k4⟩
  by_cases hi:i=id
  ·subst hi
   simp only [Sg.put,if_true] at hLi
   cases hLi
   rcases hnew b hgi with hh|hh
   ·exact k3 i L hL hh
   ·omega
  ·simp only [Sg.put,hi,if_false] at hLi
   exact k3 i Li hLi hgi
theorem flat_nil:flat []=[]:=rfl
theorem KI (u:Value) (us:List Value):flat (u::us)=u.cells.toList++flat us:=rfl
theorem Nl (us vs:List Value):flat (us++vs)=flat us++flat vs:=by simp [flat]
theorem flat_length {us:List Value} {e:Nat} (h:∀u∈us,u.cells.size=e):(flat us).length=us.length*e:=by
 induction us with
 | nil=>simp [flat_nil]
 | cons u us ih=>
  rw [KI,List.length_append,ih (fun v hv=>h v (by simp [hv]))]
  have:=h u (by simp)
  simp [this,Nat.add_mul,Nat.add_comm]
theorem oO {us:List Value} {e:Nat} (h:∀u∈us,u.cells.size=e) (k:Nat):∀u∈us.drop k,u.cells.size=e:=fun u hu=>h u (List.mem_of_mem_drop hu)
theorem Yl {us:List Value} {e:Nat} (h:∀u∈us,u.cells.size=e) (k:Nat):∀u∈us.take k,u.cells.size=e:=fun u hu=>h u (List.mem_of_mem_take hu)
theorem Z2n {us:List Value} {e:Nat} (h:∀u∈us,u.cells.size=e) (k:Nat):flat (us.drop k)=(flat us).drop (k*e):=by
 induction us generalizing k with
 | nil=>simp [flat_nil]
 | cons u us ih=>
  cases k with
  | zero=>simp
  | succ k=>
   have hu:=h u (by simp)
   rw [List.drop_succ_cons,ih (fun v hv=>h v (by simp [hv])),KI,Nat.add_mul,Nat.one_mul,List.drop_append]
   have h1:k*e+e - u.cells.toList.length=k*e:=by simp [hu]
   have h2:u.cells.toList.drop (k*e+e)=[]:=by apply List.drop_eq_nil_of_le;simp [hu]
   rw [h1,h2,List.nil_append]
theorem bJ {us:List Value} {e:Nat} (h:∀u∈us,u.cells.size=e) (k:Nat):flat (us.take k)=(flat us).take (k*e):=by
 induction us generalizing k with
 | nil=>simp [flat_nil]
 | cons u us ih=>
  cases k with
  | zero=>simp [flat_nil]
  | succ k=>
   have hu:=h u (by simp)
   rw [List.take_succ_cons,KI,ih (fun v hv=>h v (by simp [hv])),KI,Nat.add_mul,Nat.one_mul,List.take_append]
   have h1:k*e+e - u.cells.toList.length=k*e:=by simp [hu]
   have h2:u.cells.toList.take (k*e+e)=u.cells.toList:=by apply List.take_of_length_le;simp [hu]
   rw [h1,h2]
theorem Z30 {us:List Value} {e:Nat} (h:∀u∈us,u.cells.size=e) (off len:Nat):flat ((us.drop off).take len)=((flat us).drop (off*e)).take (len*e):=by
 rw [bJ (oO h off),Z2n h]
theorem ZCj {us:List Value} {e:Nat} (h:∀u∈us,u.cells.size=e) {i:Nat} {u:Value} (hu:us[i]? = some u):∀j,j<e->(flat us)[i*e+j]? = u.cells.toList[j]?:=by
 induction us generalizing i with
 | nil=>simp at hu
 | cons v us ih=>
  intro j hj
  have hv:=h v (by simp)
  cases i with
  | zero=>
   simp at hu
   subst hu
   rw [KI,Nat.zero_mul,Nat.zero_add,List.getElem?_append_left (by simp [hv];exact hj)]
  | succ i=>
   simp at hu
   have:=ih (fun v hv=>h v (by simp [hv])) hu j hj
   rw [KI,List.getElem?_append_right (by simp [hv,Nat.add_mul];omega),<- this]
   congr 1
   simp [hv,Nat.add_mul]
   omega
theorem Z2X {us:List Value} {e:Nat} (h:∀u∈us,u.cells.size=e) {i:Nat} {u u' : Value} (hu:us[i]? = some u) (hu' : u'.cells.size=e) :
  flat (us.set i u')=(flat us).take (i*e)++u'.cells.toList++(flat us).drop (i*e+e):=by
 induction us generalizing i with
 | nil=>simp at hu
 | cons v us ih=>
  have hv:=h v (by simp)
  cases i with
  | zero=>
   simp at hu
   subst hu
   rw [List.set_cons_zero,KI,KI]
   simp [hv]
  | succ i=>
   simp at hu
   rw [List.set_cons_succ,KI,ih (fun v hv=>h v (by simp [hv])) hu,KI,Nat.add_mul,Nat.one_mul]
   rw [List.take_append,List.drop_append]
   have h1:i*e+e - v.cells.toList.length=i*e:=by simp [hv]
   have h2:v.cells.toList.take (i*e+e)=v.cells.toList:=by apply List.take_of_length_le;simp [hv]
   have h3:i*e+e+e - v.cells.toList.length=i*e+e:=by simp [hv]
   have h4:v.cells.toList.drop (i*e+e+e)=[]:=by apply List.drop_eq_nil_of_le;simp [hv];try omega
   rw [h1,h2,h3,h4]
   simp [List.append_assoc]
theorem Z32 {us:List Value} (h:∀u∈flat us,u.oneCell' = true) (k:Nat):∀u∈flat (us.drop k),u.oneCell' = true:=by
 intro u hu
 apply h
 simp only [flat,List.mem_flatMap] at hu ⊢
 obtain⟨a,ha,hb⟩:=hu
 exact⟨a,List.mem_of_mem_drop ha,hb⟩
theorem rC {us:List Value} (h:∀u∈flat us,u.oneCell' = true) (k:Nat):∀u∈flat (us.take k),u.oneCell' = true:=by
 intro u hu
 apply h
 simp only [flat,List.mem_flatMap] at hu ⊢
 obtain⟨a,ha,hb⟩:=hu
 exact⟨a,List.mem_of_mem_take ha,hb⟩
def fzOf (σ:Sg) (H:Heap) (ids:List Nat) (b c:Nat):Prop:=
 ∃id bx L,id∈ids/\H[id]? = some bx/\bx.live=true/\σ.box id=some L/\L.v.ownBlock=some b/\c<bx.xs.length*L.Ap
def Sg.freeze (σ:Sg) (H:Heap) (ids:List Nat):Sg:={ σ with fz:=fun b c=>σ.fz b c\/fzOf σ H ids b c }
theorem KR (H:Heap) (ids:List Nat) (i:Nat):(bump H ids)[i]? = (H[i]?).map fun b=>if i∈ids then { b with floor:=b.xs.length } else b:=by
 induction ids generalizing H with
 | nil=>simp [bump]
 | cons k ks ih=>
  rw [bump,ih,List.getElem?_modify]
  cases hh:H[i]? with
  | none=>simp
  | some b=>
   by_cases hk:k=i
   ·subst hk;simp
   ·by_cases hm:i∈ks
    ·simp [hm,hk]
    ·have hk' : ¬i=k:=fun h=>hk h.symm
     simp [hm,hk,hk']
theorem bump_length (H:Heap) (ids:List Nat):(bump H ids).length=H.length:=by
 induction ids generalizing H with
 | nil=>rfl
 | cons k ks ih=>rw [bump,ih];simp
theorem ZuA (H:Heap) (ids:List Nat) (k:Nat):FP (bump H ids) k=FP H k:=by
 unfold FP
 rw [KR,bump_length]
 cases H[k]? with
 | none=>rfl
 | some b=>simp only [Option.map_some];split<;>rfl
theorem Z8r {w:World} {B:Nat} {e:TypeId} {Ap:Nat} {v:Value} {n:Nat} {xs:List Value} {g:Nat} (h:FZ w B e Ap v n xs) (hg:v.ownBlock=some g) :
  ∀j u,xs[j]? = some u->w.cell? ⟨g,j,none⟩=some u:=by
 intro j u hu
 have:=h.cells hg j u hu
 rw [Addr.add_mid,Nat.zero_add] at this
 exact this
theorem Inv.freeze {B w0 σ H w} (h:Inv B w0 σ H w) (ids:List Nat):Inv B w0 (σ.freeze H ids) (bump H ids) w/\Ext σ w (σ.freeze H ids) w:=by
 have e:Ext σ w (σ.freeze H ids) w:=⟨fun id L hL=>⟨L,hL,rfl,.inl rfl⟩,fun b c hc=>⟨.inl hc,rfl⟩,EM.refl _⟩
 have hget:∀i b,(bump H ids)[i]? = some b->∃b0,H[i]? = some b0/\b.live=b0.live/\b.xs=b0.xs/\b.elem=b0.elem/\b.Ap=b0.Ap/\b.EX=b0.EX/\b.row=b0.row/\(b.floor=if i∈ids then b0.xs.length else b0.floor):=by
  intro i b hb
  rw [KR] at hb
  cases hh:H[i]? with
  | none=>simp [hh] at hb
  | some b0=>
   simp only [hh,Option.map_some,Option.some.injEq] at hb
   refine⟨b0,rfl,?_⟩
   subst hb
   split<;>simp
 refine⟨⟨h.below,h.size,fun id L hL=>by
  obtain⟨b1,c1,c2⟩:=h.dom id L hL
  exact⟨if id∈ids then { b1 with floor:=b1.xs.length } else b1,by rw [KR,c1];rfl,by split<;>exact c2⟩,?_,?_,?_,?_,?_,?_,?_⟩,e⟩
 ·intro id bx hb hl
  obtain⟨b0,h0,h1,h2,h3,h4,h5,h6,_⟩:=hget id bx hb
  obtain⟨L,hL,hok⟩:=h.boxes id b0 h0 (by rw [<- h1];exact hl)
  obtain⟨us,r1,r2,r3,r4⟩:=hok.D9
  refine⟨L,hL,⟨by rw [h2];exact hok.tot,⟨us,?_,r2,r3,?_⟩,by rw [h5];exact hok.EX,by rw [h4];exact hok.Ap,by rw [h2];exact hok.oks,fun hr=>by rw [h2];exact hok.Ho (by rw [<- h6];exact hr)⟩⟩
  ·rw [h2];exact r1.ext e
  ·rw [h2,h3];exact r4
 ·intro i j b1 b2 L1 L2 g h1 h2 l1 l2 s1 s2 g1 g2
  obtain⟨c1,k1,k2,_⟩:=hget i b1 h1
  obtain⟨c2,m1,m2,_⟩:=hget j b2 h2
  exact h.apart i j c1 c2 L1 L2 g k1 m1 (by rw [<- k2];exact l1) (by rw [<- m2];exact l2) s1 s2 g1 g2
 ·intro b c hc
  rcases hc with hc|⟨id,bx,L,_,hb,hl,hL,hg,hlt⟩
  ·exact h.cells b c hc
  ·obtain⟨L',hL',hok⟩:=h.boxes id bx hb hl
   rw [hL] at hL'
   cases hL'
   obtain⟨us,r1,r2,r3,r4⟩:=hok.D9
   have hlen:c<(flat us).length:=by rw [r4.1];exact hlt
   exact⟨_,Z8r r4 hg c _ (List.getElem?_eq_getElem hlen)⟩
 ·intro b c hc i bx L hb hl hL hg
  obtain⟨b0,h0,h1,h2,h3,h4,h5,_,h6⟩:=hget i bx hb
  have hl0:b0.live=true:=by rw [<- h1];exact hl
  rcases hc with hc|⟨id,bx',L',hid,hb',hl',hL',hg',hlt⟩
  ·have:=h.floor b c hc i b0 L h0 hl0 hL hg
   rw [h6]
   split
   ·obtain⟨L2,hL2,hok⟩:=h.boxes i b0 h0 hl0
    rw [show σ.box i=some L from hL] at hL2
    cases hL2
    obtain⟨u,hu⟩:=h.cells b c hc
    exact Nat.lt_of_lt_of_le this (Nat.mul_le_mul_right _ (h.low i b0 h0 hl0))
   ·exact this
  ·have hi:id=i:=h.apart id i bx' b0 L' L b hb' h0 hl' hl0 hL' hL hg' hg
   subst hi
   rw [h0] at hb'
   cases hb'
   rw [show σ.box id=some L from hL] at hL'
   cases hL'
   rw [h6,if_pos hid]
   exact hlt
 ·intro i bx hb hl
  obtain⟨b0,h0,h1,h2,h3,h4,h5,_,h6⟩:=hget i bx hb
  rw [h6,h2]
  split
  ·exact Nat.le_refl _
  ·exact h.low i b0 h0 (by rw [<- h1];exact hl)
 ·intro b c hc hlt
  rcases hc with hc|⟨id,bx',L',hid,hb',hl',hL',hg',hlt'⟩
  ·exact h.old b c hc hlt
  ·obtain⟨L2,hL2,hok⟩:=h.boxes id bx' hb' hl'
   rw [show σ.box id=some L' from hL'] at hL2
   cases hL2
   have:=(hok.block_lt hg').1
   omega
 ·intro b hb
  obtain⟨k1,k2,k3,k4⟩:=h.kept b hb
  refine⟨k1,k2,k3,fun c hc=>?_⟩
  rcases hc with hc|⟨id,bx',L',hid,hb',hl',hL',hg',hlt'⟩
  ·exact k4 c hc
  ·exact absurd hg' (k3 id L' hL')
theorem U2 {H:Heap} {id tot:Nat} {b:Box} (h:DW H id tot=some b):H[id]? = some b/\b.live=true/\b.xs.length=tot:=by
 unfold DW at h
 split at h
 ·rename_i b' hb
  split at h
  ·rename_i hc
   simp only [Option.some.injEq] at h
   subst h
   simp only [Bool.and_eq_true,beq_iff_eq] at hc
   exact⟨hb,hc.1,hc.2⟩
  ·cases h
 ·cases h
structure Met (B:Nat) (w0:Start) (σ:Sg) (H:Heap) (w:World) (id:Nat) (b:Box) (L:Loc) (us:List Value):Prop where
 hb:H[id]? = some b
 live:b.live=true
 box:σ.box id=some L
 tot:L.tot=b.xs.length
 D9:AQ σ w b.xs us
 sizes:∀u∈us,u.cells.size=L.Ap
 ones:∀u∈flat us,u.oneCell' = true
 own:FZ w B b.elem L.Ap L.v b.xs.length (flat us)
 EX:b.EX=true->L.v = .slice none 0 0
 Ap:b.Ap=L.Ap
 oks:∀x∈b.xs,okV x=true
 Ho:b.row=true->∀x∈b.xs,CU x=true
 shape:(L.v = .slice none 0 0/\b.xs=[]/\us=[])\/∃g cap cur tg,L.v = .slice (some ⟨g,0,none⟩) b.xs.length cap/\B<=g/\w.heap[g]? = some (.cells cur b.elem tg)/\noMark tg cur.size/\b.xs.length<=cap/\cap<=maxLen/\cur.size=cap*L.Ap/\cur.toList.take (b.xs.length*L.Ap)=flat us
theorem Inv.meet {B w0 σ H w} (h:Inv B w0 σ H w) {id:Nat} {b:Box} (hb:H[id]? = some b) (hl:b.live=true):∃L us,Met B w0 σ H w id b L us:=by
 obtain⟨L,hL,hok⟩:=h.boxes id b hb hl
 obtain⟨us,r1,r2,r3,r4⟩:=hok.D9
 refine⟨L,us,hb,hl,hL,hok.tot,r1,r2,r3,r4,hok.EX,hok.Ap,hok.oks,hok.Ho,?_⟩
 rcases r4.2 with ⟨hv,hn⟩|⟨g,cap,cur,tg,hv,hg,hh,htg,hn,hm,hs,ht⟩
 ·have hx:b.xs=[]:=List.eq_nil_of_length_eq_zero hn
  refine .inl ⟨hv,hx,?_⟩
  rw [hx] at r1
  exact r1.FM
 ·exact .inr ⟨g,cap,cur,tg,hv,hg,hh,htg,hn,hm,hs,ht⟩
theorem Met.fz {B w0 σ H w id b L us} (m:Met B w0 σ H w id b L us) (hr:b.row=true):∀x∈b.xs,Em x=true:=fun x hx=>by
 simp [Em,m.oks x hx,m.Ho hr x hx]
theorem Met.len {B w0 σ H w id b L us} (m:Met B w0 σ H w id b L us):us.length=b.xs.length:=m.D9.length.symm
theorem Met.cell {B w0 σ H w id b L us} (m:Met B w0 σ H w id b L us) {g:Nat} (hg:L.v.ownBlock=some g):∀j u,(flat us)[j]? = some u->w.cell? ⟨g,j,none⟩=some u:=
 Z8r m.own hg
theorem Nz {B w0 σ H w} (h:Inv B w0 σ H w) {id off len tot:Nat} {v:Value} {b:Box} (hr:AQ σ w [.Ba id off len tot] [v]) (hb:DW H id tot=some b) :
  ∃L us,Met B w0 σ H w id b L us/\b.xs.length=tot/\off+len<=tot/\Zf2 L.v L.Ap off len v /\
   ((L.v = .slice none 0 0/\v = .slice none 0 0/\off=0/\len=0/\tot=0) \/
    ∃g cap k,L.v = .slice (some ⟨g,0,none⟩) tot cap/\v = .slice (some ⟨g,k*L.Ap,none⟩) len (cap - off)/\tot<=cap/\cap<=maxLen/\k<=off/\(off<cap->k=off)):=by
 obtain⟨h1,h2,h3⟩:=U2 hb
 obtain⟨L,us,m⟩:=h.meet h1 h2
 cases hr with
 | Ba k1 k2 k3 k4 _=>
  rename_i L'
  rw [m.box] at k1
  cases k1
  have htot:L.tot=tot:=m.tot.trans h3
  obtain⟨hol,hs⟩:=k3 htot
  refine⟨L,us,m,h3,hol,hs,?_⟩
  obtain⟨a,n,c,k,e1,e2,e3,e4,e5⟩:=hs
  rcases m.shape with ⟨hv,hx,hu⟩|⟨g,cap,cur,tg,hv,hg,hh,htg,hn,hm,hsz,ht⟩
  ·left
   rw [hv] at e1
   cases e1
   have:tot=0:=by rw [<- h3,hx];rfl
   have hoff:off=0:=by omega
   subst hoff
   refine⟨hv,?_,rfl,by omega,this⟩
   rw [e2]
   have:len=0:=by omega
   subst this
   rfl
  ·right
   rw [hv] at e1
   cases e1
   rw [h3] at hv hn
   refine⟨g,_,k,hv,?_,hn,hm,e4,e5⟩
   rw [e2]
   simp [Addr.add_mid]
theorem qO {σ w es us} (h:AQ σ w es us) (off len:Nat):AQ σ w ((es.drop off).take len) ((us.drop off).take len):=(h.drop off).take len
theorem qG {B w0 σ H w} (h:Inv B w0 σ H w) {x x' : V} {v:Value} (hr:AQ σ w [x] [v]) (hf:IA H x=some x') (ids:List Nat) (hids:∀i∈FB x,i∈ids) :
  AQ (σ.freeze H ids) w [x'] [v]:=by
 have e:=(h.freeze ids).2
 unfold IA at hf
 split at hf
 ·cases hf;exact hr.ext e
 ·cases hf;exact hr.ext e
 ·cases hf
  refine AQ.ext ?_ e
  cases hr with
  | Fh _=>exact .EW .nil
  | GL a _=>exact .FV a .nil
  | Cb b o _ k0 k1 k2 k3 k4 k5 _=>exact .sl b o _ _ k0 k1 k2 k3 (Nat.le_refl _) k4 k5 .nil
 ·rename_i id off len tot
  split at hf
  ·rename_i b hb
   split at hf
   ·rename_i hc
    simp only [Bool.and_eq_true,decide_eq_true_eq] at hc
    simp only [Option.some.injEq] at hf
    subst hf
    obtain⟨L,us,m,hxl,hol,hs,hview⟩:=Nz h hr hb
    rcases hview with ⟨hv,hvv,ho,hl,ht⟩|⟨g,cap,k,hv,hvv,hle,hmx,hk1,hk2⟩
    ·have hx:b.xs=[]:=List.eq_nil_of_length_eq_zero (by omega)
     rw [hx,hvv]
     simp only [List.drop_nil,List.take_nil]
     exact .EW .nil
    ·rw [m.Ap,hvv]
     have hlen:((b.xs.drop off).take len).length=len:=by simp;omega
     have hgoal:=AQ.sl (σ:=σ.freeze H ids) (w:=w) (xs:=[]) (vs:=[]) (es:=(b.xs.drop off).take len) (us:=(us.drop off).take len) g (k*L.Ap) (cap - off) L.Ap
      ((qO m.D9 off len).ext e) (fun x hx=>m.fz hc.1 x (List.mem_of_mem_drop (List.mem_of_mem_take hx))) (Yl (oO m.sizes off) len) (rC (Z32 m.ones off) len) (by rw [hlen];omega) (by omega) ?_ .nil
     ·rw [hlen] at hgoal;exact hgoal
     ·intro j u hu
      rw [Z30 m.sizes] at hu
      have hj:j<len*L.Ap:=by
       have:=(List.getElem?_eq_some_iff.1 hu).1
       simp at this
       omega
      rw [List.getElem?_take,if_pos hj,List.getElem?_drop] at hu
      have hlpos:0<len:=by
       cases len with
       | zero=>simp at hj
       | succ n=>omega
      have hk:k=off:=hk2 (by omega)
      subst hk
      have hown:L.v.ownBlock=some g:=by rw [hv];rfl
      refine⟨.inr ⟨id,b,L,hids id (by simp [FB]),m.hb,m.live,m.box,hown,?_⟩,m.cell hown _ _ hu⟩
      have:=(List.getElem?_eq_some_iff.1 hu).1
      rw [flat_length m.sizes,m.len] at this
      exact this
   ·cases hf
  ·cases hf
 ·cases hf;exact hr.ext e
 ·cases hf;exact hr.ext e
 ·cases hf
theorem Zbf {B w0 σ H w} (h:Inv B w0 σ H w) {x x' : V} {v:Value} (hr:AQ σ w [x] [v]) (hf:IA H x=some x'):CU x' = true:=by
 unfold IA at hf
 split at hf
 ·cases hf;rfl
 ·cases hf
  cases hr with
  | EW _=>rfl
  | FV a _=>rfl
  | sl b o c e' _ h0 h1 h2 h3 h4 h5 _=>exact Ol h0
 ·cases hf
  cases hr with
  | Fh _=>rfl
  | GL a _=>rfl
  | Cb b o e' _ h0 h1 h2 h3 h4 _=>exact Ol h0
 ·rename_i id off len tot
  split at hf
  ·rename_i b hb
   split at hf
   ·rename_i hc
    simp only [Bool.and_eq_true,decide_eq_true_eq] at hc
    simp only [Option.some.injEq] at hf
    subst hf
    obtain⟨L,us,m,_⟩:=Nz h hr hb
    exact(KG _).2 fun x hx=>m.Ho hc.1 x (List.mem_of_mem_drop (List.mem_of_mem_take hx))
   ·cases hf
  ·cases hf
 ·cases hf;rfl
 ·cases hf;rfl
 ·cases hf
theorem Zv8 {B w0 σ H w} (h:Inv B w0 σ H w) {xs xs' : List V} {vs:List Value} (hr:AQ σ w xs vs) (hf:JF H xs=some xs'):CJ xs' = true:=by
 induction xs generalizing xs' vs with
 | nil=>simp only [JF,Option.some.injEq] at hf;subst hf;rfl
 | cons x xs ih=>
  obtain⟨v,vs',rfl,h1,h2⟩:=hr.Dq
  simp only [JF] at hf
  split at hf
  ·rename_i w1 ws hw hws
   simp only [Option.some.injEq] at hf
   subst hf
   simp [CJ,Zbf h h1 hw,ih h2 hws]
  ·cases hf
theorem qL {B w0 σ H w} (h:Inv B w0 σ H w) {x x' : V} {v:Value} (hr:AQ σ w [x] [v]) (hf:IB H x=some x'):CU x' = true:=by
 unfold IB at hf
 split at hf
 ·rename_i cs
  cases hr with
  | agg h1 ho _=>
   cases hl:JF H cs with
   | none=>simp [hl] at hf
   | some cs' =>
    simp only [hl,Option.map_some,Option.some.injEq] at hf
    subst hf
    exact Zv8 h h1 hl
 ·exact Zbf h hr hf
theorem Xb {B w0 σ H w} (h:Inv B w0 σ H w) {xs xs' : List V} {vs:List Value} (hr:AQ σ w xs vs) (hf:FN H xs=some xs'):CJ xs' = true:=by
 induction xs generalizing xs' vs with
 | nil=>simp only [FN,Option.some.injEq] at hf;subst hf;rfl
 | cons x xs ih=>
  obtain⟨v,vs',rfl,h1,h2⟩:=hr.Dq
  simp only [FN] at hf
  split at hf
  ·rename_i w1 ws hw hws
   simp only [Option.some.injEq] at hf
   subst hf
   simp [CJ,qL h h1 hw,ih h2 hws]
  ·cases hf
theorem ZyK {B w0 σ H w} (h:Inv B w0 σ H w) {xs xs' : List V} {vs:List Value} (hr:AQ σ w xs vs) (hf:JF H xs=some xs') (ids:List Nat) (hids:∀i∈xs.flatMap FB,i∈ids) :
  AQ (σ.freeze H ids) w xs' vs:=by
 induction xs generalizing xs' vs with
 | nil=>
  cases hr.FM
  simp only [JF,Option.some.injEq] at hf
  subst hf
  exact .nil
 | cons x xs ih=>
  obtain⟨v,vs',rfl,h1,h2⟩:=hr.Dq
  simp only [JF] at hf
  split at hf
  ·rename_i w1 ws hw hws
   simp only [Option.some.injEq] at hf
   subst hf
   refine AQ.FH.2 ⟨qG h h1 hw ids (fun i hi=>hids i (by simp [hi])),ih h2 hws (fun i hi=>hids i ?_)⟩
   simp only [List.flatMap_cons,List.mem_append]
   exact .inr hi
  ·cases hf
theorem qX {B w0 σ H w} (h:Inv B w0 σ H w) {x x' : V} {v:Value} (hr:AQ σ w [x] [v]) (hf:IB H x=some x') (ids:List Nat) (hids:∀i∈Dj x,i∈ids) :
  AQ (σ.freeze H ids) w [x'] [v]:=by
 unfold IB at hf
 split at hf
 ·rename_i cs
  cases hr with
  | agg h1 ho _=>
   cases hl:JF H cs with
   | none=>simp [hl] at hf
   | some cs' =>
    simp only [hl,Option.map_some,Option.some.injEq] at hf
    subst hf
    exact .agg (ZyK h h1 hl ids (by simpa [Dj] using hids)) ho .nil
 ·rename_i hne
  refine qG h hr hf ids (fun i hi=>hids i ?_)
  cases x<;>simp_all [Dj,FB]
theorem nY {B w0 σ H w} (h:Inv B w0 σ H w) {xs xs' : List V} {vs:List Value} (hr:AQ σ w xs vs) (hf:FN H xs=some xs') (ids:List Nat) (hids:∀i∈xs.flatMap Dj,i∈ids) :
  AQ (σ.freeze H ids) w xs' vs:=by
 induction xs generalizing xs' vs with
 | nil=>
  cases hr.FM
  simp only [FN,Option.some.injEq] at hf
  subst hf
  exact .nil
 | cons x xs ih=>
  obtain⟨v,vs',rfl,h1,h2⟩:=hr.Dq
  simp only [FN] at hf
  split at hf
  ·rename_i w1 ws hw hws
   simp only [Option.some.injEq] at hf
   subst hf
   refine AQ.FH.2 ⟨qX h h1 hw ids (fun i hi=>hids i (by simp [hi])),ih h2 hws (fun i hi=>hids i ?_)⟩
   simp only [List.flatMap_cons,List.mem_append]
   exact .inr hi
  ·cases hf
theorem Z0C {σ w x v} (e:Nat) (h:AQ σ w [x] [v]):AQ σ w [GI e x] [v]:=by
 unfold GI
 split
 ·cases h with
  | EW _=>exact .EW .nil
 ·exact h
theorem ZoH {σ w}:∀(es:List Nat) {xs:List V} {vs:List Value},AQ σ w xs vs->AQ σ w (F9 es xs) vs:=by
 intro es
 induction es with
 | nil=>intro xs vs h;simpa [F9] using h
 | cons e es ih=>
  intro xs vs h
  cases xs with
  | nil=>simpa [F9] using h
  | cons x xs=>
   obtain⟨v,vs',rfl,h1,h2⟩:=h.Dq
   exact AQ.FH.2 ⟨Z0C e h1,ih h2⟩
theorem RU {σ w x v} (es:List Nat) (h:AQ σ w [x] [v]):AQ σ w [Du es x] [v]:=by
 unfold Du
 split
 ·cases h with
  | agg h1 ho _=>exact .agg (ZoH es h1) ho .nil
 ·exact Z0C _ h
theorem Zp9 {σ w} (es:List Nat) {xs:List V} {vs:List Value} (h:AQ σ w xs vs):AQ σ w (xs.map (Du es)) vs:=by
 induction xs generalizing vs with
 | nil=>simpa using h
 | cons x xs ih=>
  obtain⟨v,vs',rfl,h1,h2⟩:=h.Dq
  exact AQ.FH.2 ⟨RU es h1,ih h2⟩
theorem ZN {σ w} (rows:TypeId->List Nat):∀(ts:List TypeId) {xs:List V} {vs:List Value},AQ σ w xs vs->AQ σ w (GG rows ts xs) vs:=by
 intro ts
 induction ts with
 | nil=>intro xs vs h;simpa [GG] using h
 | cons t ts ih=>
  intro xs vs h
  cases xs with
  | nil=>simpa [GG] using h
  | cons x xs=>
   obtain⟨v,vs',rfl,h1,h2⟩:=h.Dq
   exact AQ.FH.2 ⟨RU _ h1,ih h2⟩
theorem Z8C (e:Nat) (x:V):CU (GI e x)=CU x:=by
 unfold GI;split<;>simp [CU]
theorem Zny:∀(es:List Nat) (xs:List V),CJ (F9 es xs)=CJ xs:=by
 intro es
 induction es with
 | nil=>intro xs;simp [F9]
 | cons e es ih=>intro xs;cases xs<;>simp [F9,CJ,Z8C,ih]
theorem RN (es:List Nat) (x:V):CU (Du es x)=CU x:=by
 unfold Du;split
 ·simp [CU,Zny]
 ·exact Z8C _ _
theorem kK (rows:TypeId->List Nat):∀(ts:List TypeId) (xs:List V),CJ (GG rows ts xs)=CJ xs:=by
 intro ts
 induction ts with
 | nil=>intro xs;simp [GG]
 | cons t ts ih=>intro xs;cases xs<;>simp [GG,CJ,RN,ih]
theorem Zx1 (e:Nat) (x:V):okV (GI e x)=okV x:=by
 unfold GI;split<;>simp [okV]
theorem qK (es:List Nat) (x:V):okV (Du es x)=okV x:=by
 unfold Du;split
 ·simp [okV]
 ·exact Zx1 _ _
theorem Zlu:∀(es:List Nat) (xs:List V),(F9 es xs).length=xs.length:=by
 intro es
 induction es with
 | nil=>intro xs;simp [F9]
 | cons e es ih=>intro xs;cases xs<;>simp [F9,ih]
theorem ZtE (e:Nat) (x:V):(GI e x).cells.length=x.cells.length:=by
 unfold GI;split<;>simp [V.cells]
theorem Zue (es:List Nat) (x:V):(Du es x).cells.length=x.cells.length:=by
 unfold Du;split
 ·simp [V.cells,Zlu]
 ·exact ZtE _ _
theorem AQ.cells {σ w x v} (h:AQ σ w [x] [v]) (ho:okV x=true):AQ σ w x.cells v.cells.toList/\(∀u∈v.cells.toList,u.oneCell' = true):=by
 cases h with
 | und u h=>simp [okV] at ho
 | no h=>simp [okV] at ho
 | BF _ h=>simp [okV] at ho
 | GV _ _ _ _ _ _ _=>simp [okV] at ho
 | agg h1 h2 _=>exact⟨by simpa [V.cells,Value.cells] using h1,by simpa [Value.cells] using h2⟩
 | lit hl _=>
  cases v<;>simp [leaf] at hl<;>simp [V.cells,Value.cells,Value.oneCell']<;>exact .lit (by simp [leaf,hl]) .nil
 | EW h=>exact⟨.EW .nil,by simp [Value.cells,Value.oneCell']⟩
 | Fh h=>exact⟨.Fh .nil,by simp [Value.cells,Value.oneCell']⟩
 | FV a h=>exact⟨.FV a .nil,by simp [Value.cells,Value.oneCell']⟩
 | GL a h=>exact⟨.GL a .nil,by simp [Value.cells,Value.oneCell']⟩
 | sl b o c e h0 h1 h2 h3 h4 h5 h6 _=>exact⟨.sl b o c e h0 h1 h2 h3 h4 h5 h6 .nil,by simp [Value.cells,Value.oneCell']⟩
 | Cb b o e h0 h1 h2 h3 h4 h5 _=>exact⟨.Cb b o e h0 h1 h2 h3 h4 h5 .nil,by simp [Value.cells,Value.oneCell']⟩
 | Ba h1 h2 h3 h4 _=>
  obtain⟨a,n,c,rfl⟩:=h4
  exact⟨.Ba h1 h2 h3 ⟨a,n,c,rfl⟩ .nil,by simp [Value.cells,Value.oneCell']⟩
 | ptr g h1 h2 h3 h4 _=>
  subst h4
  exact⟨.ptr g h1 h2 h3 rfl .nil,by simp [Value.cells,Value.oneCell']⟩
 | CG b o e i off h0 h1 h2 h3 h4 _=>exact⟨.CG b o e i off h0 h1 h2 h3 h4 .nil,by simp [Value.cells,Value.oneCell']⟩
 | fn h1 h2 _=>exact⟨.fn h1 h2 .nil,by simp [Value.cells,Value.oneCell']⟩
 | Gv h1 _=>exact⟨.Gv h1 .nil,by simp [Value.cells,Value.oneCell']⟩
theorem AQ.QO {σ w x v} (h:AQ σ w [x] [v]) (ho:okV x=true):x.cells.length=v.cells.size:=by
 have:=(h.cells ho).1.length
 simpa using this
structure Ci (E:Env):Prop where
 ti:∀t i,E.ti t=some i->Jq E.P t=some i
 func:∀f fn,E.func f=some fn->E.P.funcs[f]? = some fn/\(fn.name == "runtime.NumGoroutine")=false
 mix:E.P.follows .mixedOrders=true
 calm:∀f fn c,E.func f=some fn->fn.body=some c->E8 E f c=true
 kind:∀t k,E.kind t=some k->E.P.underlying t=some (.int k)
 isStr:∀t,E.isStr t=true->E.P.underlying t=some .string
 isBool:∀t,E.isBool t=true->E.P.underlying t=some .bool
 flat:∀t ks,E.flat t=some ks->sH E.P t=some ks
 isBytes:∀t,E.isBytes t=true->∃e,E.P.underlying t=some (.slice e)/\E.P.underlying e=some (.int .u8)
def Di (E:Env) (σ:Sg) (w:World):Prop:=∀g r,E.Ea g=some r->AQ σ w [.CG r.length [.agg r] 0 0] [.pointer (some ⟨g,0,none⟩)]
theorem Di.ext {E σ w σ' w'} (h:Di E σ w) (e:Ext σ w σ' w'):Di E σ' w' :=fun g r hg=>(h g r hg).ext e
theorem ZaN (σ:Sg) (w:World) (v:Value) (h:Uz v=true):AQ σ w [OT v] [v]/\v.oneCell' = true:=by
 unfold OT
 split
 ·exact⟨.EW .nil,rfl⟩
 ·rename_i hne
  have hl:leaf v=true:=by
   unfold Uz at h
   split at h
   ·exact absurd rfl hne
   ·exact h
  rw [if_pos hl]
  exact⟨.lit hl .nil,by cases v<;>simp_all [leaf,Value.oneCell']⟩
theorem ZoX (σ:Sg) (w:World) (vs:List Value) (h:vs.all Uz=true):AQ σ w (vs.map OT) vs/\∀u∈vs,u.oneCell' = true:=by
 induction vs with
 | nil=>exact⟨.nil,by simp⟩
 | cons v vs ih=>
  simp only [List.all_cons,Bool.and_eq_true] at h
  obtain⟨h1,h2⟩:=ZaN σ w v h.1
  obtain⟨h3,h4⟩:=ih h.2
  exact⟨AQ.FH.2 ⟨h1,h3⟩,by simpa using ⟨h2,h4⟩⟩
theorem Xk (σ:Sg) (w:World) (v:Value):AQ σ w [PD v] [v]:=by
 have hcell:∀u:Value,AQ σ w [if Uz u then OT u else .und] [u]:=by
  intro u
  split
  ·rename_i h;exact(ZaN σ w u h).1
  ·exact .und _ .nil
 cases v with
 | agg cs=>
  simp only [PD]
  split
  ·rename_i h
   obtain⟨h1,h2⟩:=ZoX σ w cs.toList h
   have:=AQ.agg h1 h2 (xs:=[]) (vs:=[]) .nil
   simpa using this
  ·exact .und _ .nil
 | tuple vs=>
  simp only [PD]
  split
  ·rename_i h
   have:vs = #[]:=by simpa using h
   subst this
   exact .no .nil
  ·exact .und _ .nil
 | bool b=>exact hcell (.bool b)
 | int k n=>exact hcell (.int k n)
 | float k b=>exact hcell (.float k b)
 | complex k a b=>exact hcell (.complex k a b)
 | string s=>exact hcell (.string s)
 | pointer a=>exact hcell (.pointer a)
 | slice a n c=>exact hcell (.slice a n c)
 | map r=>exact hcell (.map r)
 | chan r=>exact hcell (.chan r)
 | func f a b=>exact hcell (.func f a b)
 | nilFunc=>exact hcell .nilFunc
 | iface t v=>exact hcell (.iface t v)
 | nilIface=>exact hcell .nilIface
theorem ZcB {σ w s vs} (h:AQ σ w s vs) (t:Nat):AQ σ w [s.getD t .und] [vs.getD t undef]:=by
 cases hs:s[t]? with
 | none=>simp only [List.getD,hs,Option.getD_none];exact .und _ .nil
 | some x=>
  obtain⟨v,hv,hr⟩:=h.get hs
  simp only [List.getD,hs,hv,Option.getD_some]
  exact hr
theorem EU {E σ w s} {a:Act} (hg:Di E σ w) (h:AQ σ w s a.tmps.toList) (x:Operand):AQ σ w [ev E s x] [a.eval x]:=by
 cases x with
 | tmp t=>
  have:=ZcB h t
  simpa [ev,Act.eval,Array.getD_eq_getD_getElem?,List.getD_eq_getElem?_getD] using this
 | const v=>exact Xk σ w v
 | func f=>exact .fn .nil .nil .nil
 | global g=>
  simp only [ev,Act.eval]
  cases hh:E.Ea g with
  | none=>exact .und _ .nil
  | some r=>exact hg g r hh
theorem qW {E σ w s} {a:Act} (hg:Di E σ w) (h:AQ σ w s a.tmps.toList) (xs:List Operand):AQ σ w (xs.map (ev E s)) (xs.map a.eval):=by
 induction xs with
 | nil=>exact .nil
 | cons x xs ih=>exact AQ.FH.2 ⟨EU hg h x,ih⟩
theorem FI {P:Program} {t:TypeId} {i:TI} (h:Jq P t=some i):∃inf d,P.info? t=some inf/\P.underlying t=some d/\i.ty=Ko d/\i.size=inf.size/\i.bytes=inf.bytes/\i.zero=inf.zero.map PD:=by
 unfold Jq at h
 split at h
 ·rename_i inf d h1 h2
  simp only [Option.some.injEq] at h
  subst h
  exact⟨inf,d,h1,h2,rfl,rfl,rfl,rfl⟩
 ·cases h
theorem Z2K {P:Program} {t:TypeId} {d:TypeDesc} (w:World) (h:P.underlying t=some d):(isAgg t).run P w = .ok d.isRow w:=by
 unfold isAgg
 rw [Sem.run_bind,run_underlying h w]
 cases d<;>rfl
theorem ZdB {i:TI} {d:TypeDesc} (h:i.ty=Ko d):i.isAgg=d.isRow:=by
 unfold TI.isAgg
 rw [h]
 cases d<;>rfl
theorem run_sizeOf {P:Program} {t:TypeId} {inf:TypeInfo} (w:World) (h:P.info? t=some inf):(sizeOf t).run P w = .ok inf.size w:=by
 simp [sizeOf,typeInfo,h]
theorem Zcu {σ w} {cs:List V} {ws:List Value} (h:AQ σ w cs ws) (ho:∀u∈ws,u.oneCell' = true) {off n:Nat} {ag:Bool} {x' : V} (hp:partOf cs off n ag=some x') :
  (ag=true/\off+n<=ws.length/\AQ σ w [x'] [.agg ((ws.drop off).take n).toArray])\/(ag=false/\∃u,ws[off]? = some u/\AQ σ w [x'] [u]):=by
 unfold partOf at hp
 split at hp
 ·rename_i hag
  split at hp
  ·rename_i hle
   simp only [Option.some.injEq] at hp
   subst hp
   refine .inl ⟨hag,by rw [<- h.length];exact hle,.agg (qO h off n) ?_ .nil⟩
   intro u hu
   exact ho u (List.mem_of_mem_drop (List.mem_of_mem_take hu))
  ·cases hp
 ·rename_i hag
  obtain⟨u,hu,hr⟩:=h.get hp
  exact .inr ⟨by simpa using hag,u,hu,hr⟩
theorem Zda {E σ w} {P:Program} (hE:Ci E) (hP:E.P=P) {t:TypeId} {ti:TI} (hti:E.ti t=some ti) {xs:List V} {us:List Value} {e b o i off:Nat} {x' : V}
  (h:AQ σ w xs us) (hk:∀x∈xs,okV x=true) (hs:∀u∈us,u.cells.size=e) (ho:∀u∈flat us,u.oneCell' = true)
  (hc:∀j u,(flat us)[j]? = some u->w.cell? ⟨b,o+j,none⟩=some u) (hr:OM xs i off ti.size ti.isAgg=some x') :
  ∃u,(loadVar t ⟨b,o+i*e+off,none⟩).run P w = .ok u w/\AQ σ w [x'] [u]:=by
 unfold OM at hr
 split at hr
 ·rename_i x hx
  obtain⟨uu,hu,hxr⟩:=h.get hx
  have hok:=hk x (List.mem_of_getElem? hx)
  obtain⟨hcr,hco⟩:=hxr.cells hok
  have hsz:uu.cells.size=e:=hs uu (List.mem_of_getElem? hu)
  obtain⟨inf,d,hi,hd,h1,h2,h3,h4⟩:=FI (hE.ti t ti hti)
  rw [hP] at hi hd
  have hag:=ZdB h1
  have hcell:∀j u,uu.cells.toList[j]? = some u->w.cell? ⟨b,o+(i*e+j),none⟩=some u:=by
   intro j u hj
   have hlt:j<e:=by
    have:=(List.getElem?_eq_some_iff.1 hj).1
    simpa [hsz] using this
   exact hc _ _ (by rw [ZCj hs hu j hlt];exact hj)
  rcases Zcu hcr hco hr with ⟨ha,hle,hres⟩|⟨ha,u,hu',hres⟩
  ·refine⟨_,run_loadVar_mid (P:=P) w b (o+i*e+off) t _ d ?_ hd (by rw [<- hag];exact ha) ?_,hres⟩
   ·intro j v hv
    have hj:j<ti.size:=by
     have:=(List.getElem?_eq_some_iff.1 hv).1
     simp at this
     omega
    rw [List.getElem?_take,if_pos hj,List.getElem?_drop] at hv
    have:=hcell _ _ hv
    rw [<- this]
    congr 2
    omega
   ·simp only [hi,Option.map_some,Option.some.injEq]
    simp at hle ⊢
    omega
  ·refine⟨u,?_,hres⟩
   have hnag:d.isRow=false:=by rw [<- hag];exact ha
   have:=hcell _ _ hu'
   have hcell' : w.cell? ⟨b,o+i*e+off,none⟩=some u:=by rw [<- this];congr 2;omega
   unfold loadVar
   rw [Sem.run_bind,Z2K w hd,hnag]
   simp [load,Sem.run,hcell']
 ·cases hr
theorem Zea {E B w0 σ H w} {P:Program} (hE:Ci E) (hP:E.P=P) (h:Inv B w0 σ H w) {t:TypeId} {a x' : V} {av:Value} (ha:AQ σ w [a] [av]) (hl:MK E H t a=some x') :
  ∃u,(Instr.loadAt t av).run P w = .ok u w/\AQ σ w [x'] [u]:=by
 unfold MK at hl
 split at hl
 ·cases hl
 ·rename_i ti hti
  split at hl
  ·rename_i e xs j off
   cases ha with
   | CG b o e i off k0 k1 k2 k3 k4 _=>
    rename_i us
    obtain⟨u,hu,hr⟩:=Zda hE hP hti (o:=o) k0 (Z3I k1) k2 k3 (fun j u hj=>(k4 j u hj).2) hl
    exact⟨u,by simp only [Instr.loadAt,Instr.sureAddr,Sem.run_bind,Sem.run_pure,Result.andThen_ok,hu],hr⟩
  ·rename_i id j off tot
   split at hl
   ·rename_i b hb
    obtain⟨h1,h2,h3⟩:=U2 hb
    obtain⟨L,us,m⟩:=h.meet h1 h2
    cases ha with
    | ptr g k1 k2 k3 k4 _=>
     rename_i L'
     rw [m.box] at k1
     cases k1
     obtain⟨n,c,hv⟩:=k3 (m.tot.trans h3)
     have hown:L.v.ownBlock=some g:=by rw [hv];rfl
     subst k4
     obtain⟨u,hu,hr⟩:=Zda hE hP hti (o:=0) (b:=g) m.D9 m.oks m.sizes m.ones (fun j u hj=>by rw [Nat.zero_add];exact m.cell hown j u hj) hl
     rw [Nat.zero_add] at hu
     exact⟨u,by simp only [Instr.loadAt,Instr.sureAddr,Sem.run_bind,Sem.run_pure,Result.andThen_ok,hu],hr⟩
   ·cases hl
  ·cases hl
theorem ZtR {α:Type} (A U C R vals:List α) (off k:Nat) (hk:vals.length=k) (hU:off+k<=U.length) :
  (A++U++C++R).take (A.length+off)++vals++(A++U++C++R).drop (A.length+off+k)=A++(U.take off++vals++U.drop (off+k))++C++R:=by
 have h1:(A++U++C++R).take (A.length+off)=A++U.take off:=by
  rw [List.append_assoc,List.append_assoc,List.take_append,List.take_of_length_le (by omega)]
  congr 1
  rw [show A.length+off - A.length=off from by omega,List.take_append]
  rw [show off - U.length=0 from by omega]
  simp
 have h2:(A++U++C++R).drop (A.length+off+k)=U.drop (off+k)++C++R:=by
  rw [List.append_assoc,List.append_assoc,List.drop_append,List.drop_eq_nil_of_le (by omega),List.nil_append]
  rw [show A.length+off+k - A.length=off+k from by omega,List.drop_append]
  rw [show off+k - U.length=0 from by omega]
  simp
 rw [h1,h2]
 simp [List.append_assoc]
theorem Zsw {σ w} {x x' : V} {uu:Value} {cs:List V} {vals:List Value} {off:Nat} (hx:AQ σ w [x] [uu]) (hok:okV x=true) (hc:AQ σ w cs vals) (ho:∀u∈vals,u.oneCell' = true)
  (h:KT x off cs=some x') :
  off+vals.length<=uu.cells.size/\∃uu',AQ σ w [x'] [uu']/\uu'.cells.toList=uu.cells.toList.take off++vals++uu.cells.toList.drop (off+vals.length):=by
 unfold KT at h
 split at h
 ·rename_i ds
  split at h
  ·rename_i hle
   simp only [Option.some.injEq] at h
   subst h
   cases hx with
   | agg h1 h2 h3=>
    rename_i ws
    have hlen:=h1.length
    have hcl:=hc.length
    refine⟨by simp [Value.cells];omega,.agg (ws.take off++vals++ws.drop (off+vals.length)).toArray,?_,by simp [Value.cells]⟩
    rw [hcl]
    refine .agg ((h1.take off).append hc |>.append (h1.drop _)) ?_ .nil
    intro u hu
    simp only [List.mem_append] at hu
    rcases hu with (hu|hu)|hu
    ·exact h2 u (List.mem_of_mem_take hu)
    ·exact ho u hu
    ·exact h2 u (List.mem_of_mem_drop hu)
  ·cases h
 ·rename_i hna
  split at h
  ·rename_i c
   simp only [Option.some.injEq] at h
   subst h
   obtain⟨v,vs',rfl,h1,h2⟩:=hc.Dq
   cases h2.FM
   have hone:uu.cells.size=1:=by
    have:=hx.QO hok
    cases x<;>simp_all [V.cells]
   have hvone:v.cells = #[v]:=by
    have:=ho v (by simp)
    cases v<;>simp_all [Value.cells,Value.oneCell']
   refine⟨by simp [hone],v,h1,?_⟩
   rw [hvone]
   have:uu.cells.toList.drop (0+[v].length)=[]:=by apply List.drop_eq_nil_of_le;simp [hone]
   rw [this]
   simp
  ·cases h
theorem ZdC {B w0 σ H w} {P:Program} (h:Inv B w0 σ H w) {id:Nat} {b:Box} {L:Loc} {us:List Value} (m:Met B w0 σ H w id b L us) {g n c:Nat} (hv:L.v = .slice (some ⟨g,0,none⟩) n c)
  {j off:Nat} {x x' x'' : V} {cs:List V} {vals:List Value} (hx:b.xs[j]? = some x) (hc:AQ σ w cs vals) (ho:∀u∈vals,u.oneCell' = true) (hs:KT x off cs=some x') (hxx:∀σ w v,AQ σ w [x'] [v]->AQ σ w [x''] [v]) (hok:okV x'' = true) (hnr:b.row=true->CU x'' = true) (hfl:b.floor<=j) :
  ∃w',(storeCells ⟨g,j*L.Ap+off,none⟩ vals).run P w = .ok () w' /\ Inv B w0 (σ.put id L) (H.set id { b with xs:=b.xs.set j x'' }) w' /\ Ext σ w (σ.put id L) w' :=by
 obtain⟨uu,hu,hxr⟩:=m.D9.get hx
 have hokx:=m.oks x (List.mem_of_getElem? hx)
 obtain⟨hle,uu',hr',hcells⟩:=Zsw hxr hokx hc ho hs
 have hsz:uu.cells.size=L.Ap:=m.sizes uu (List.mem_of_getElem? hu)
 have hsz' : uu'.cells.size=L.Ap:=by
  have:=congrArg List.length hcells
  simp at this
  omega
 rcases m.shape with ⟨hn,_,_⟩|⟨g',cap,cur,tg,hv',hB,hh,htg,hn,hm,hcs,ht⟩
 ·rw [hn] at hv;cases hv
 ·rw [hv'] at hv
  cases hv
  have hjlen:j<b.xs.length:=(List.getElem?_eq_some_iff.1 hx).1
  have hje:j*L.Ap+L.Ap<=b.xs.length*L.Ap:=by
   rw [<- Nat.succ_mul];exact Nat.mul_le_mul_right _ hjlen
  have hce:b.xs.length*L.Ap<=c*L.Ap:=Nat.mul_le_mul_right _ hn
  have hfit:j*L.Ap+off+0+vals.length<=cur.size:=by omega
  have hrun:=jJ P g (j*L.Ap+off) b.elem tg vals 0 cur w hh htg hfit ho
  simp only [Nat.add_zero] at hrun
  have hF:flat us=(flat us).take (j*L.Ap)++uu.cells.toList++(flat us).drop (j*L.Ap+L.Ap):=by
   have:=Z2X m.sizes hu hsz
   rw [<- this]
   congr 1
   apply List.ext_getElem?
   intro i
   rw [List.getElem?_set]
   split
   ·rename_i e;subst e;split
    ·exact hu
    ·rename_i hge;rw [List.getElem?_eq_none (by omega)]
   ·rfl
  have hA:((flat us).take (j*L.Ap)).length=j*L.Ap:=by
   rw [List.length_take,flat_length m.sizes,m.len];omega
  have hcur:cur.toList=(flat us).take (j*L.Ap)++uu.cells.toList++(flat us).drop (j*L.Ap+L.Ap)++cur.toList.drop (b.xs.length*L.Ap):=by
   rw [<- hF,<- ht,List.take_append_drop]
  have hsp:=ZtR ((flat us).take (j*L.Ap)) uu.cells.toList ((flat us).drop (j*L.Ap+L.Ap)) (cur.toList.drop (b.xs.length*L.Ap)) vals off vals.length rfl (by simpa using hle)
  rw [hA,<- hcur] at hsp
  rw [hsp] at hrun
  have hflat' : flat (us.set j uu')=(flat us).take (j*L.Ap)++(uu.cells.toList.take off++vals++uu.cells.toList.drop (off+vals.length))++(flat us).drop (j*L.Ap+L.Ap):=by
   rw [Z2X m.sizes hu hsz',hcells]
  rw [<- hflat'] at hrun
  have hsizes' : ∀u∈us.set j uu',u.cells.size=L.Ap:=by
   intro u hu'
   rcases List.mem_or_eq_of_mem_set hu' with hu' | hu'
   ·exact m.sizes u hu'
   ·rw [hu'];exact hsz'
  have hlen' : (flat (us.set j uu')).length=b.xs.length*L.Ap:=by
   rw [flat_length hsizes',List.length_set,m.len]
  have hheap:=setRow_heap w g cur (flat (us.set j uu')++cur.toList.drop (b.xs.length*L.Ap)).toArray b.elem tg hh
  have hown:L.v.ownBlock=some g:=by rw [hv'];rfl
  have hgb:w.grownBy (w.setRow g (flat (us.set j uu')++cur.toList.drop (b.xs.length*L.Ap)).toArray) L.v.ownBlock:=
   ⟨rfl,rfl,rfl,by simp,fun k _ hk=>setRow_other w g k _ (fun e=>hk (by rw [hown,e]))⟩
  refine⟨_,hrun,?_⟩
  refine h.upd m.hb m.live m.box hgb { b with xs:=b.xs.set j x'' } m.live L rfl (.inl rfl) rfl (by simp) (fun g' hg' =>.inl hg') ?_ ?_
  ·intro g' c' hg' hc'
   rw [hown] at hg'
   cases hg'
   have hlt:c' < j*L.Ap:=Nat.lt_of_lt_of_le hc' (Nat.mul_le_mul_right _ hfl)
   rw [cell_setRow_same w g c' cur _ b.elem tg hh,cell_of_row w g c' cur b.elem tg hh]
   rw [List.getElem?_toArray,<- Array.getElem?_toList,hcur,hflat']
   have hlt' : c' < ((flat us).take (j*L.Ap)).length:=by rw [hA];exact hlt
   rw [List.append_assoc,List.append_assoc,List.getElem?_append_left hlt',List.append_assoc,List.append_assoc,List.getElem?_append_left hlt']
  ·intro e
   refine⟨by simpa using m.tot,⟨us.set j uu',(m.D9.ext e).set j (hxx _ _ _ (hr'.ext e)),hsizes',?_,?_⟩,m.EX,m.Ap,?_,fun hrow=>?_⟩
   ·intro u hu'
    rw [hflat'] at hu'
    simp only [List.mem_append] at hu'
    rcases hu' with (hu' | (hu' | hu')|hu')|hu'
    ·exact m.ones u (List.mem_of_mem_take hu')
    ·have:=(hxr.cells hokx).2 u (List.mem_of_mem_take hu');exact this
    ·exact ho u hu'
    ·exact(hxr.cells hokx).2 u (List.mem_of_mem_drop hu')
    ·exact m.ones u (List.mem_of_mem_drop hu')
   ·refine⟨by simpa using hlen',.inr ⟨g,c,_,tg,by simpa using hv',hB,hheap,?_,by simpa using hn,hm,?_,?_⟩⟩
    ·have:(flat (us.set j uu')++cur.toList.drop (b.xs.length*L.Ap)).toArray.size=cur.size:=by
      simp only [List.size_toArray,List.length_append,hlen',List.length_drop,Array.length_toList,hcs]
      omega
     rw [this]
     exact htg
    ·simp only [List.size_toArray,List.length_append,hlen',List.length_drop,Array.length_toList,hcs]
     omega
    ·simp only [List.length_set]
     rw [List.take_append_of_le_length (by omega),List.take_of_length_le (by omega)]
   ·intro y hy
    rcases List.mem_or_eq_of_mem_set hy with hy|hy
    ·exact m.oks y hy
    ·rw [hy];exact hok
   ·intro y hy
    rcases List.mem_or_eq_of_mem_set hy with hy|hy
    ·exact m.Ho hrow y hy
    ·rw [hy];exact hnr hrow
theorem Zon {x x' : V} {off:Nat} {cs:List V} (hx:CU x=true) (hc:CJ cs=true) (hs:KT x off cs=some x'):CU x' = true:=by
 unfold KT at hs
 split at hs
 ·rename_i ds
  split at hs
  ·simp only [Option.some.injEq] at hs
   subst hs
   rw [show CU (.agg (ds.take off++cs++ds.drop (off+cs.length)))=CJ (ds.take off++cs++ds.drop (off+cs.length)) from rfl,KG]
   have hd:∀y∈ds,CU y=true:=(KG ds).1 hx
   have hc' :=(KG cs).1 hc
   intro y hy
   simp only [List.mem_append] at hy
   rcases hy with (hy|hy)|hy
   ·exact hd y (List.mem_of_mem_take hy)
   ·exact hc' y hy
   ·exact hd y (List.mem_of_mem_drop hy)
  ·cases hs
 ·split at hs
  ·simp only [Option.some.injEq] at hs
   subst hs
   simpa [CJ] using hc
  ·cases hs
theorem Zah {P:Program} {t:TypeId} {b o:Nat} {v:Value} {inf:TypeInfo} {w w' : World} (hi:P.info? t=some inf) (hs:v.cells.size=inf.size)
  (h:(storeCells ⟨b,o,none⟩ v.cells.toList).run P w = .ok () w'):(Instr.storeAt t (.pointer (some ⟨b,o,none⟩)) v).run P w = .ok () w' :=by
 simp [Instr.storeAt,Instr.sureAddr,storeVar,sizeOf,typeInfo,hi,hs,h]
theorem ZB5 {E B w0 σ H w} {P:Program} (hE:Ci E) (hP:E.P=P) (h:Inv B w0 σ H w) {t:TypeId} {a x:V} {av xv:Value} {H' : Heap}
  (ha:AQ σ w [a] [av]) (hx:AQ σ w [x] [xv]) (hs:Lu E H t a x=some H') :
  ∃w' σ',(Instr.storeAt t av xv).run P w = .ok () w' /\ Inv B w0 σ' H' w' /\ Ext σ w σ' w' :=by
 unfold Lu at hs
 split at hs
 ·cases hs
 ·rename_i ti hti
  obtain⟨inf,d,hi,hd,h1,h2,h3,h4⟩:=FI (hE.ti t ti hti)
  rw [hP] at hi hd
  split at hs
  ·rename_i id j off tot
   split at hs
   ·rename_i b hb
    obtain⟨b1,b2,b3⟩:=U2 hb
    split at hs
    ·rename_i y hy
     split at hs
     ·rename_i hc
      simp only [Bool.and_eq_true,beq_iff_eq,decide_eq_true_eq] at hc
      obtain⟨⟨c1,c2⟩,c3⟩:=hc
      have hsz:xv.cells.size=inf.size:=by rw [<- hx.QO c3,c1,h2]
      cases ha with
      | ptr g k1 k2 k3 k4 k5=>
       rename_i L'
       subst k4
       split at hs
       ·
        split at hs
        ·rename_i x' hf
         split at hs
         ·rename_i y1 hy1
          obtain⟨y',hy',hyy⟩:∃y',KT y off x'.cells=some y' /\ Du (E.rows b.elem) y' = y1:=by
           cases hq:KT y off x'.cells with
           | none=>simp [hq] at hy1
           | some y' =>exact⟨y',rfl,by simpa [hq] using hy1⟩
          split at hs
          ·cases hs
          ·rename_i hcc
           simp only [Option.some.injEq] at hs
           subst hs
           simp only [Bool.or_eq_true,Bool.not_eq_true',List.contains_eq_mem,decide_eq_true_eq,not_or,Bool.not_eq_false] at hcc
           obtain⟨⟨n1,n2⟩,n3⟩:=hcc
           obtain⟨hI,hEx⟩:=h.freeze (Dj x)
           have hxr:=qX h hx hf (Dj x) (fun i hi=>hi)
           have hb' : (bump H (Dj x))[id]? = some b:=by rw [KR,b1];simp [n1]
           obtain⟨L,us,m⟩:=hI.meet hb' b2
           have hL:L' = L:=by
            have:=m.box
            simp only [Sg.freeze] at this
            rw [k1] at this
            cases this
            rfl
           subst hL
           obtain⟨n,c,hv⟩:=k3 (m.tot.trans b3)
           obtain⟨hcr,hco⟩:=hxr.cells n2
           obtain⟨w',hrun,hI',hEx'⟩:=ZdC (P:=P) hI m hv hy hcr hco hy' (fun σ w v hq=>by rw [<- hyy];exact RU _ hq) n3 (fun hrow=>by rw [<- hyy,RN];exact Zon (m.Ho hrow _ (List.mem_of_getElem? hy)) (Zt0 (qL h hx hf)) hy') c2
           exact⟨w',_,Zah hi hsz hrun,hI',hEx.trans hEx'⟩
         ·cases hs
        ·cases hs
       ·split at hs
        ·rename_i y' hy'
         split at hs
         ·rename_i n3
          simp only [Option.some.injEq] at hs
          subst hs
          obtain⟨L,us,m⟩:=h.meet b1 b2
          have hL:L' = L:=by
           have:=m.box
           rw [k1] at this
           cases this
           rfl
          subst hL
          obtain⟨n,c,hv⟩:=k3 (m.tot.trans b3)
          obtain⟨hcr,hco⟩:=hx.cells c3
          obtain⟨w',hrun,hI',hEx'⟩:=ZdC (P:=P) h m hv hy hcr hco hy' (fun _ _ _ hq=>hq) n3 (fun hrow=>absurd hrow (by assumption)) c2
          exact⟨w',_,Zah hi hsz hrun,hI',hEx'⟩
         ·cases hs
        ·cases hs
     ·cases hs
    ·cases hs
   ·cases hs
  ·cases hs
theorem grownBy_refl (w:World) (row:Option Nat):w.grownBy w row:=⟨rfl,rfl,rfl,Nat.le_refl _,fun _ _ _=>rfl⟩
theorem Zch {B w0 σ H w} (h:Inv B w0 σ H w) {k:Nat} (hk0:FP H k=true) {xs:List V} {us:List Value} {e n:Nat} (t:TypeId) (row:Bool) (hr:AQ σ w xs us) (hnr:row=true->∀x∈xs,CU x=true) (hk:∀x∈xs,okV x=true) (hs:∀u∈us,u.cells.size=e)
  (ho:∀u∈flat us,u.oneCell' = true) (hn:xs.length<=maxLen) :
  ∃σ',Inv B w0 σ' (place H k (Bg row false t e xs)) (w.alloc (.cells (flat us).toArray t))/\Ext σ w σ' (w.alloc (.cells (flat us).toArray t)) /\
   σ'.box k=some ⟨.slice (some ⟨w.heap.size,0,none⟩) xs.length xs.length,xs.length,e⟩:=by
 have hlen:us.length=xs.length:=hr.length.symm
 have hsz:(flat us).toArray.size=xs.length*e:=by simp [flat_length hs,hlen]
 have hown:=FZ.of (World.ownsRow_lit (base:=B) (e:=t) (size:=e) w (flat us).toArray xs.length h.size hn hsz)
 obtain⟨h1,h2⟩:=h.push (w.grownBy_alloc (.cells (flat us).toArray t) none) hk0 (Bg row false t e xs) rfl ⟨.slice (some ⟨w.heap.size,0,none⟩) xs.length xs.length,xs.length,e⟩ (by simp [Bg])
  (fun g hg=>by simp [Value.ownBlock] at hg;omega) (fun ex=>⟨rfl,⟨us,hr.ext ex,hs,ho,by simpa [Bg] using hown⟩,by simp [Bg],rfl,hk,hnr⟩)
 exact⟨_,h1,h2,by simp [Sg.put]⟩
theorem NC (u:Value):flat [u]=u.cells.toList:=by simp [flat]
theorem Zuj {P:Program} (w:World) (t:TypeId) (v:Value):(newVar t v).run P w = .ok ⟨w.heap.size,0,none⟩ (w.alloc (.cells v.cells t)):=by
 rfl
theorem ZcP {B w0 σ H w} {P:Program} (h:Inv B w0 σ H w) {k:Nat} (hk0:FP H k=true) {x:V} {u:Value} {e:Nat} (t:TypeId) (hr:AQ σ w [x] [u]) (hk:okV x=true) (hs:x.cells.length=e) :
  ∃w' σ',(newVar t u).run P w = .ok ⟨w.heap.size,0,none⟩ w' /\ Inv B w0 σ' (place H k (Bg false false t e [x])) w' /\ Ext σ w σ' w' /\ AQ σ' w' [.ptr k 0 0 1] [.pointer (some ⟨w.heap.size,0,none⟩)]:=by
 have hsz:u.cells.size=e:=by rw [<- hr.QO hk];exact hs
 obtain⟨σ',h1,h2,h3⟩:=Zch (xs:=[x]) (us:=[u]) (e:=e) (n:=1) h hk0 t false hr (by simp) (by simpa using hk) (by simpa using hsz) (by rw [NC];exact(hr.cells hk).2) (by simp [maxLen])
 rw [NC] at h1 h2
 simp only [Array.toArray_toList] at h1 h2
 exact⟨_,σ',Zuj w t u,h1,h2,.ptr w.heap.size h3 (Nat.le_refl _) (fun _=>⟨_,_,rfl⟩) (by simp) .nil⟩
end Go.Proofs.YtjodhcdmhobmoaaGreatDoor.Le
