/- A part of it. -/
import Derived.WalkKit
import GoSem.ClaimData
import GoSem.ClaimKeys
import Derived.Below
import Derived.Deep.MidRow
import Derived.Laws.MakeOwn
import Derived.Laws.OwnMore
import Derived.Maps.Keyed
set_option linter.unusedVariables false
set_option linter.unusedSimpArgs false
namespace Go.Proofs.YtjodhcdmhobmoaaGreatDoor.Le
inductive V where
 | lit (v:Value)
 | agg (cs:List V)
 | BH (vs:List V)
 | sl (isNil:Bool) (e:Nat) (xs:List V)
 | DU (isNil:Bool) (e:Nat) (xs:List V)
 | Bi (id off len tot:Nat)
 | ptr (id i off tot:Nat)
 | CQ (e:Nat) (xs:List V) (i off:Nat)
 | fn (f:FuncId) (first caps:List V)
 | IG (t:TypeId) (v:V)
 | GU (kvs:List V)
 | no
 | und
 deriving Inhabited
def V.cells:V->List V
 | .agg cs=>cs
 | v=>[v]
def okV:V->Bool
 | .und | .no | .BH _ | .GU _=>false
 | _=>true
mutual
def DC:V->Bool
 | .Bi _ _ _ _=>false
 | .ptr _ _ _ _=>false
 | .CQ _ xs _ _=>CS xs
 | .agg cs=>CS cs
 | .BH cs=>CS cs
 | .sl _ _ xs=>CS xs
 | .DU _ _ xs=>CS xs
 | .fn _ a b=>CS a&&CS b
 | .IG _ v=>DC v
 | .GU cs=>CS cs
 | .lit _=>true
 | .no=>true
 | .und=>true
def CS:List V->Bool
 | []=>true
 | x::xs=>DC x&&CS xs
end
def FM (v:V):Bool:=okV v&&DC v
structure Box where
 live:Bool
 row:Bool
 Ep:Bool
 elem:TypeId
 Au:Nat
 xs:List V
 floor:Nat
 deriving Inhabited
abbrev Heap:=List Box
inductive Ty where
 | scalar
 | slice (elem:Nat)
 | array (len elem:Nat)
 | struct (fields:List (Nat×Nat))
 | map (key elem:Nat)
 | other
 deriving Inhabited,DecidableEq
structure TI where
 ty:Ty
 size:Nat
 bytes:Nat
 zero:Option V
 deriving Inhabited
def TI.isAgg (i:TI):Bool:=match i.ty with | .struct _ | .array _ _=>true|_=>false
def TI.Vu (i:TI):Bool:=match i.zero with|some z=>okV z&&z.cells.length==i.size|none=>false
def leaf:Value->Bool
 | .int k n=>(Lit.int k n).wf
 | .bool _=>true
 | .string s=>decide (s.size<=maxLen)
 | .pointer none=>true
 | .map none=>true
 | .nilFunc=>true
 | .nilIface=>true
 | _=>false
def P5:Value->V
 | .slice none 0 0=>.sl true 0 []
 | v=>if leaf v then .lit v else .und
def YA:Value->Bool
 | .slice none 0 0=>true
 | v=>leaf v
def Qm:Value->V
 | .agg cs=>if cs.toList.all YA then .agg (cs.toList.map P5) else .und
 | .tuple vs=>if vs.isEmpty then .no else .und
 | v=>if YA v then P5 v else .und
def EZ:V:=.no
def MX (d:TypeDesc):Ty:=
 match d with
 | .bool | .int _ | .string | .pointer _ | .func _ _ _ | .interface _=>.scalar
 | .slice e=>.slice e
 | .array n e=>.array n e
 | .struct fs=>.struct (fs.toList.map fun f=>(f.offset,f.type))
 | .map k e=>.map k e
 | _=>.other
def LK (P:Program) (t:TypeId):Option TI:=
 match P.info? t,P.underlying t with
 | some i,some d=>some { ty:=MX d,size:=i.size,bytes:=i.bytes,zero:=i.zero.map Qm }
 | _,_=>none
inductive FK where
 | b|i (k:IntKind)|s
 deriving DecidableEq
inductive Fk where
 | s (e:TypeId) (sz:Nat)
 | own (e:TypeId) (sz:Nat)
 | keep
 | drop
inductive Bf where
 | var (fl:List Fk)
 | row (fresh:Bool)
structure YS where
 fa:List (List Fk)
 fb:List Bf
 run:List V->Heap->Option (V×Heap)
structure Env where
 P:Program
 ti:TypeId->Option TI
 func:FuncId->Option Func
 env:FuncId->Option (List V->Option V)
 Ey:Nat->Option (List V)
 pure:FuncId->Bool
 flat:TypeId->Option (List FK)
 kind:TypeId->Option IntKind
 isStr:TypeId->Bool
 isBool:TypeId->Bool
 isBytes:TypeId->Bool
 calm:FuncId->Nat->Bool
 rows:TypeId->List Nat
 par:FuncId->List TypeId
 own:FuncId->Option TypeId
 hm:FuncId->List FuncId->Option YS
 quiet:Bool:=false
 maps:FuncId->Option (List (Int×FuncId)):=fun _=>none
structure St where
 s:List V
 H:Heap
inductive Ex where
 | normal|ret|exit (id:Nat)
def ev (E:Env) (s:List V):Operand->V
 | .tmp t=>s.getD t .und
 | .const v=>Qm v
 | .func f=>.fn f [] []
 | .global g=>match E.Ey g with|some r=>.CQ r.length [.agg r] 0 0|none=>.und
def Pg (v:V) (q:Bool):Option Bool:=
 match v with
 | .lit (.bool b)=>some (b==q)
 | .no=>some false
 | _=>none
def setSlot (s:List V) (d:Option Tmp) (v:V):List V:=match d with|some t=>s.set t v|none=>s
def Dn (H:Heap) (id tot:Nat):Option Box:=
 match H[id]? with
 | some b=>if b.live&&b.xs.length==tot then some b else none
 | none=>none
def partOf (cs:List V) (off n:Nat) (isAgg:Bool):Option V:=
 if isAgg then (if off+n<=cs.length then some (.agg ((cs.drop off).take n)) else none) else cs[off]?
def P7 (xs:List V) (i off n:Nat) (isAgg:Bool):Option V:=
 match xs[i]? with
 | some x=>partOf x.cells off n isAgg
 | none=>none
def Ia (H:Heap):V->Option V
 | .lit v=>some (.lit v)
 | .sl b e xs=>some (.sl b e xs)
 | .DU b e xs=>some (.sl false e xs)
 | .Bi id off len tot=>match Dn H id tot with
  | some b=>if b.row&&decide (off+len<=tot) then some (.sl false b.Au ((b.xs.drop off).take len)) else none
  | none=>none
 | .fn f [] []=>some (.fn f [] [])
 | .IG t (.lit v)=>some (.IG t (.lit v))
 | _=>none
def KE (H:Heap):List V->Option (List V)
 | []=>some []
 | v::vs=>match Ia H v,KE H vs with|some w,some ws=>some (w::ws)|_,_=>none
def Ic (H:Heap):V->Option V
 | .agg cs=>(KE H cs).map .agg
 | v=>Ia H v
def Fg (H:Heap):List V->Option (List V)
 | []=>some []
 | v::vs=>match Ic H v,Fg H vs with|some w,some ws=>some (w::ws)|_,_=>none
def KG (H:Heap):V->Option V
 | .BH vs=>(Fg H vs).map .BH
 | v=>Ic H v
def Gt (e:Nat):V->V
 | .sl true _ xs=>.sl false e xs
 | v=>v
def Gg:List Nat->List V->List V
 | e::es,v::vs=>Gt e v::Gg es vs
 | [],vs=>vs
 | _,[]=>[]
def ES (es:List Nat):V->V
 | .agg cs=>.agg (Gg es cs)
 | v=>Gt (es.headD 0) v
def Gs (rows:TypeId->List Nat):List TypeId->List V->List V
 | t::ts,v::vs=>ES (rows t) v::Gs rows ts vs
 | [],vs=>vs
 | _,[]=>[]
def VR:V->Bool | .ptr _ _ _ _=>true|_=>false
def YQ:V->V | .lit v=>.lit v|_=>.und
def Py (H:Heap) (v:V):Option V:=
 match v with
 | .ptr id i off tot=>if i=0/\off=0 then (match Dn H id tot with
   | some b=>(match b.row,b.xs with
    | false,[.agg cs]=>some (.CQ b.Au [.agg (cs.map YQ)] 0 0)
    | false,[.lit z]=>some (.CQ b.Au [.lit z] 0 0)
    | _,_=>none)
   | none=>none) else none
 | v=>Ic H v
def MM (H:Heap):List V->Option (List V)
 | []=>some []
 | v::vs=>match Py H v,MM H vs with|some w,some ws=>some (w::ws)|_,_=>none
def JU:V->Bool | .lit _=>true|_=>false
def Kv:V->Bool
 | .lit _=>true
 | .agg cs=>cs.all JU
 | _=>false
def Pj:V->Bool
 | .BH vs=>vs.all Kv
 | v=>Kv v
def F7:V->List Nat
 | .Bi id _ _ _=>[id]
 | _=>[]
def EF:V->List Nat
 | .agg cs=>cs.flatMap F7
 | v=>F7 v
def QH:V->List Nat
 | .BH vs=>vs.flatMap EF
 | v=>EF v
def bump (H:Heap):List Nat->Heap
 | []=>H
 | i::q=>bump (H.modify i fun b=>{ b with floor:=b.xs.length }) q
def place (H:Heap) (k:Nat) (b:Box):Heap:=if k<H.length then H.set k b else H++[b]
def Fv (H:Heap) (k:Nat):Bool:=match H[k]? with|some b=>!b.live|none=>k==H.length
def elemsOf (H:Heap):V->Option (List V)
 | .sl _ _ xs=>some xs
 | .DU _ _ xs=>some xs
 | .Bi id off len tot=>match Dn H id tot with
  | some b=>if b.row&&decide (off+len<=tot) then some ((b.xs.drop off).take len) else none
  | none=>none
 | .lit (.string s)=>some (s.data.toList.map fun c=>.lit (.int .u8 c.toNat))
 | _=>none
def Ew (H:Heap) (x:V) (n:Nat):Bool:=
 match x with
 | .sl b e _=>b||e==n
 | .DU b e _=>b||e==n
 | .Bi id _ _ tot=>match Dn H id tot with|some b=>b.Au==n|none=>false
 | _=>false
def lenOf (H:Heap):V->Option Nat
 | .sl _ _ xs=>some xs.length
 | .DU _ _ xs=>some xs.length
 | .Bi id _ len tot=>match Dn H id tot with|some _=>some len|none=>none
 | .lit (.string s)=>some s.size
 | _=>none
def intOf:V->Option Int | .lit (.int _ n)=>some n|_=>none
def Po (op:BinOp) (k:IntKind) (a b:Int):Option Value:=
 match op with
 | .add=>some (.int k (k.wrap (a+b)))
 | .sub=>some (.int k (k.wrap (a - b)))
 | .mul=>some (.int k (k.wrap (a*b)))
 | .quo=>if b=0 then none else some (.int k (k.wrap (a.tdiv b)))
 | .rem=>if b=0 then none else some (.int k (a.tmod b))
 | .and | .or | .xor | .andNot=>some (.int k (bits op k a b))
 | .eql=>some (.bool (a==b))
 | .neq=>some (.bool (a != b))
 | .lss=>some (.bool (decide (a<b)))
 | .leq=>some (.bool (decide (a<=b)))
 | .gtr=>some (.bool (decide (a>b)))
 | .geq=>some (.bool (decide (a>=b)))
 | _=>none
def Qj (op:BinOp) (k:IntKind) (a b:Int):Option Value:=
 if b<0 then none else
 match op with
 | .shl=>some (.int k (k.wrap (a*2 ^ min b.toNat k.bits)))
 | .shr=>some (.int k (a.fdiv (2 ^ min b.toNat k.bits)))
 | _=>none
def YL (op:BinOp) (x y:ByteArray):Option Value:=
 match op with
 | .add=>if decide (x.size+y.size<=maxLen) then some (.string (x++y)) else none
 | .eql=>some (.bool (x.toList==y.toList))
 | .neq=>some (.bool !(x.toList==y.toList))
 | .lss=>some (.bool (Op.bytesLess x.toList y.toList))
 | .leq=>some (.bool (Op.bytesLess x.toList y.toList||x.toList==y.toList))
 | .gtr=>some (.bool !(Op.bytesLess x.toList y.toList||x.toList==y.toList))
 | .geq=>some (.bool !(Op.bytesLess x.toList y.toList))
 | _=>none
def Jl:List FK->List V->List V->Option Bool
 | [],[],[]=>some true
 | .b::ks,.lit (.bool a)::xs,.lit (.bool b)::ys=>match Jl ks xs ys with|some r=>some (a==b&&r)|none=>none
 | .i k::ks,.lit (.int k1 a)::xs,.lit (.int k2 b)::ys=>if k1=k/\k2=k then (match Jl ks xs ys with|some r=>some (a==b&&r)|none=>none) else none
 | .s::ks,.lit (.string a)::xs,.lit (.string b)::ys=>match Jl ks xs ys with|some r=>some (a==b&&r)|none=>none
 | _,_,_=>none
def jM (P:Program) (z:TypeId->Option (List FK)):Nat->List Field->Option (List FK)
 | _,[]=>some []
 | off,f::fs=>
  if f.offset=off/\f.name != "_" then
   match z f.type with
   | some ks=>if P.cellsOf f.type=ks.length then (match jM P z (off+ks.length) fs with|some q=>some (ks++q)|none=>none) else none
   | none=>none
  else none
def QF (P:Program):Nat->TypeId->Option (List FK)
 | 0,_=>none
 | d+1,t=>
  match P.underlying t with
  | some .bool=>some [.b]
  | some (.int k)=>some [.i k]
  | some .string=>some [.s]
  | some (.array n e)=>match QF P d e with
   | some ks=>if P.cellsOf e=ks.length/\P.cellsOf t=n*ks.length then some (List.replicate n ks).flatten else none
   | none=>none
  | some (.struct fs)=>match jM P (QF P d) 0 fs.toList with
   | some ks=>if P.cellsOf t=ks.length then some ks else none
   | none=>none
  | _=>none
def VN:V->Option Bool
 | .sl true _ _=>some true
 | .ptr _ _ _ _=>some false
 | .CQ _ _ _ _=>some false
 | .fn _ _ _=>some false
 | .IG _ _=>some false
 | .lit (.pointer none)=>some true
 | .lit .nilFunc=>some true
 | .lit .nilIface=>some true
 | .lit (.map none)=>some true
 | _=>none
def OL (E:Env) (op:BinOp) (t:TypeId) (x y:V):Option V:=
 match op,x,y with
 | .shl,.lit (.int k a),.lit (.int _ b)=>(Qj .shl k a b).map .lit
 | .shr,.lit (.int k a),.lit (.int _ b)=>(Qj .shr k a b).map .lit
 | op,.lit (.int k a),.lit (.int j b)=>if k=j then (Po op k a b).map .lit else none
 | op,.lit (.string a),.lit (.string b)=>(YL op a b).map V.lit
 | .eql,.lit (.bool a),.lit (.bool b)=>if E.isBool t then some (.lit (.bool (a==b))) else none
 | .neq,.lit (.bool a),.lit (.bool b)=>if E.isBool t then some (.lit (.bool (!(a==b)))) else none
 | .eql,.agg xs,.agg ys=>match E.flat t with|some ks=>(Jl ks xs ys).map fun b=>V.lit (.bool b)|none=>none
 | .neq,.agg xs,.agg ys=>match E.flat t with|some ks=>(Jl ks xs ys).map fun b=>V.lit (.bool !b)|none=>none
 | _,_,_=>none
def mZ (op:UnOp) (x:V):Option V:=
 match op,x with
 | .neg,.lit (.int k n)=>some (.lit (.int k (k.wrap (0 - n))))
 | .xor,.lit (.int k n)=>some (.lit (.int k (bits .xor k (if k.signed then -1 else k.max) n)))
 | .not,.lit (.bool b)=>some (.lit (.bool !b))
 | _,_=>none
def QB (cs:List V):List (Nat×V)->(Nat->Option (Nat×Nat))->Option (List V)
 | [],_=>some cs
 | (i,v)::q,place=>
  match place i with
  | none=>none
  | some (off,size)=>if v.cells.length==size&&decide (off+size<=cs.length)&&okV v then QB (cs.take off++v.cells++cs.drop (off+size)) q place else none
def placesOf (E:Env) (fs:List (Nat×Nat)) (i:Nat):Option (Nat×Nat):=
 match fs[i]? with
 | some (off,t)=>match E.ti t with|some ti=>some (off,ti.size)|none=>none
 | none=>none
def YE (E:Env) (t:TypeId) (q:List (Nat×V)):Option V:=
 match E.ti t with
 | some i=>match i.zero with
  | some z=>
   if okV z then
    match i.ty with
    | .struct fs=>if fs.all fun x=>(E.ti x.2).isSome then (QB z.cells q (placesOf E fs)).map .agg else none
    | .array _ e=>match E.ti e with
     | some A=>(QB z.cells q (fun i=>some (i*A.size,A.size))).map .agg
     | none=>none
    | _=>none
   else none
  | none=>none
 | none=>none
def Ns (xs:List V) (size:Nat):List (Nat×V)->Option (List V)
 | []=>some xs
 | (i,v)::q=>if v.cells.length==size&&decide (i<xs.length)&&okV v then Ns (xs.set i v) size q else none
abbrev EM:=FuncId->List V->Heap->Option (V×Heap)
def CB (row Ep:Bool) (elem:TypeId) (Au:Nat) (xs:List V):Box:={ live:=true,row,Ep,elem,Au,xs,floor:=0 }
def Env.size (E:Env) (t:TypeId):Option Nat:=(E.ti t).map (·.size)
def Nz (E:Env) (H:Heap) (t:TypeId) (a:V):Option V:=
 match E.ti t with
 | none=>none
 | some i=>
  match a with
  | .CQ _ xs j off=>P7 xs j off i.size i.isAgg
  | .ptr id j off tot=>match Dn H id tot with|some b=>P7 b.xs j off i.size i.isAgg|none=>none
  | _=>none
def Nk (x:V) (off:Nat) (cs:List V):Option V:=
 match x with
 | .agg q=>if off+cs.length<=q.length then some (.agg (q.take off++cs++q.drop (off+cs.length))) else none
 | _=>match off,cs with|0,[c]=>some c|_,_=>none
def Nl (E:Env) (H:Heap) (t:TypeId) (a v:V):Option Heap:=
 match E.ti t with
 | none=>none
 | some i=>
  match a with
  | .ptr id j off tot=>match Dn H id tot with
   | some b=>match b.xs[j]? with
    | some x=>
     if v.cells.length==i.size&&decide (b.floor<=j)&&okV v then
      (if b.row then
       match Ic H v with
       | some v' =>match (Nk x off v'.cells).map (ES (E.rows b.elem)) with
        | some q =>if (EF v).contains id || !(okV v') || !(okV q) then none else some ((bump H (EF v)).set id { b with xs:=b.xs.set j q })
        | none=>none
       | none=>none
       else match Nk x off v.cells with
        | some q =>if okV q then some (H.set id { b with xs:=b.xs.set j q }) else none
        | none=>none)
     else none
    | none=>none
   | none=>none
  | _=>none
def lim:Nat:=140737488355328
def Nh (E:Env) (k:Nat) (H:Heap) (t u:TypeId) (s x:V):Option (V×Heap):=
 match E.ti t with
 | some ⟨.slice e,_,_,_⟩=>
  match E.ti e,(u==t),elemsOf H x with
  | some q,true,some ys=>
   if decide (0<q.size)&&Ew H x q.size&&q.Vu then
    match s with
    | .Bi id off len tot=>match Dn H id tot with
     | some b=>
      if b.row&&b.elem==e&&decide (off=0)&&decide (len=tot)&&b.Au==q.size then
       (if decide ((tot+ys.length)*q.bytes<=lim)&&decide (tot+ys.length<=maxLen) then
        some (.Bi id 0 (tot+ys.length) (tot+ys.length),H.set id { b with xs:=b.xs++ys,Ep:=b.Ep&&ys.isEmpty })
        else none)
      else if b.row&&b.elem==e&&decide (off=0)&&b.Au==q.size&&decide (b.floor<=len)&&decide (len<tot)&&decide (len+ys.length<=tot) then
       some (.Bi id 0 (len+ys.length) tot,H.set id { b with xs:=b.xs.take len++ys++b.xs.drop (len+ys.length) })
      else none
     | none=>none
    | .sl true _ [] | .DU true _ []=>
     (if decide (ys.length*q.bytes<=lim)&&decide (ys.length<=maxLen) then
      some (.Bi k 0 ys.length ys.length,place H k (CB true false e q.size ys))
      else none)
    | .DU false es xs=>
     (if es==q.size&&decide ((xs.length+ys.length)*q.bytes<=lim)&&decide (xs.length+ys.length<=maxLen) then
      (if ys.isEmpty then some (.DU false es xs,H)
       else some (.Bi k 0 (xs.length+ys.length) (xs.length+ys.length),place H k (CB true false e q.size (xs++ys))))
      else none)
    | _=>none
   else none
  | _,_,_=>none
 | _=>none
def OB (kd:IntKind) (n:Int):List V->Option (Option V)
 | []=>some none
 | .lit (.int k a)::v::r=>if k=kd then (if n=a then some (some v) else OB kd n r) else none
 | _=>none
def YO (E:Env) (t:TypeId) (ok:Bool) (m x:V):Option V:=
 match E.ti t,m,x with
 | some ⟨.map k e,_,_,_⟩,.GU kvs,.lit (.int kd n)=>
  if E.kind k=some kd then
   match OB kd n kvs with
   | some (some v)=>some (if ok then .BH [v,.lit (.bool true)] else v)
   | some none=>match E.ti e with
    | some q=>q.zero.map fun z=>if ok then .BH [z,.lit (.bool false)] else z
    | none=>none
   | none=>none
  else none
 | _,_,_=>none
def lJ (E:Env) (H:Heap) (t u:TypeId) (d x:V):Option (V×Heap):=
 match E.ti t with
 | some ⟨.slice e,_,_,_⟩=>
  match E.ti e,elemsOf H x,d with
  | some q,some ys,.Bi id off len tot=>match Dn H id tot with
   | some b=>
    if b.row&&decide (off=0)&&decide (len=tot)&&b.Au==q.size&&Ew H x q.size&&decide (b.floor=0) then
     some (.lit (.int .i64 (min ys.length tot:Nat)),H.set id { b with xs:=ys.take tot++b.xs.drop ys.length })
    else none
   | none=>none
  | _,_,_=>none
 | _=>none
def JY (v:V) (q:Nat):Option Nat:=
 match v with
 | .lit (.int _ n)=>if 0<=n/\n<=q then some n.toNat else none
 | _=>none
def JF (x:Option V) (z q:Nat):Option Nat:=match x with|some v=>JY v z|none=>some q
def Qb (E:Env) (H:Heap) (t:TypeId) (x:V):Bool:=
 match x with
 | .lit (.string _)=>E.isStr t
 | _=>match E.ti t with
  | some ⟨.slice e,_,_,_⟩=>match E.ti e with|some q=>Ew H x q.size|none=>false
  | _=>false
def Jz (E:Env) (H:Heap) (t:TypeId) (x:V) (z q A:Option V):Option (V×Heap):=
 if Qb E H t x then
  match lenOf H x with
  | none=>none
  | some n=>
   match JF q n n with
   | none=>none
   | some h=>
    match JF z h 0 with
    | none=>none
    | some l=>
     match A with
     | some m=>
      (match q,JY m n,elemsOf H x,x with
       | some _,some k,some xs,.sl b e _=>if k=h then some (.DU false e ((xs.drop l).take (h - l)),H) else none
       | some _,some k,some xs,.DU b e _=>if k=h then some (.DU false e ((xs.drop l).take (h - l)),H) else none
       | some _,some k,some xs,.Bi id _ _ _=>if k=h then some (.DU false ((H.getD id default).Au) ((xs.drop l).take (h - l)),bump H [id]) else none
       | _,_,_,_=>none)
     | none=>
      match x with
      | .lit (.string s)=>some (.lit (.string (s.extract l h)),H)
      | .sl b e xs=>some (.sl b e ((xs.drop l).take (h - l)),H)
      | .DU b e xs=>some (.sl b e ((xs.drop l).take (h - l)),H)
      | .Bi id off _ tot=>some (.Bi id (off+l) (h - l) tot,H)
      | _=>none
 else none
def P8 (E:Env) (H:Heap) (n:Nat) (e:TypeId) (x:V) (z q A:Option V):Option (V×Heap):=
 match x,z,JF q n n,A with
 | .ptr id i off tot,none,some m,none=>match Dn H id tot with
  | some b=>(match b.row,b.xs with
   | false,[.agg cs]=>if i=0/\off=0/\cs.length=n/\n<=maxLen/\E.size e=some 1/\cs.all JU=true then some (.sl false 1 (cs.take m),bump H [id]) else none
   | _,_=>none)
  | none=>none
 | _,_,_,_=>none
def Yg (E:Env) (t:TypeId) (x:V):Option V:=
 match E.ti t,x with
 | some ⟨.array n e,_,_,_⟩,.sl false sz xs=>if E.size e=some 1/\sz=1/\0<n/\n<=xs.length/\(xs.take n).all JU=true then some (.CQ n [.agg (xs.take n)] 0 0) else none
 | _,_=>none
def Q3 (E:Env) (H:Heap) (t:TypeId) (x i:V):Option V:=
 match i,E.ti t with
 | .lit (.int _ n),some ti=>
  match ti.ty,x with
  | .slice q,.sl _ e xs=>if 0<=n/\n<xs.length/\E.size q=some e then some (.CQ e xs n.toNat 0) else none
  | .slice q,.DU _ e xs=>if 0<=n/\n<xs.length/\E.size q=some e then some (.CQ e xs n.toNat 0) else none
  | .slice q,.Bi id off len tot=>match Dn H id tot with
   | some b=>if 0<=n/\n<len/\E.size q=some b.Au then some (.ptr id (off+n.toNat) 0 tot) else none
   | none=>none
  | .array len e,.ptr id j off tot=>match E.size e with
   | some sz=>if 0<=n/\n<len then some (.ptr id j (off+n.toNat*sz) tot) else none
   | none=>none
  | .array len e,.CQ d xs j off=>match E.size e with
   | some sz=>if 0<=n/\n<len then some (.CQ d xs j (off+n.toNat*sz)) else none
   | none=>none
  | _,_=>none
 | _,_=>none
def X5 (E:Env) (s:TypeId) (x:V) (f:Nat):Option V:=
 match E.ti s with
 | some ⟨.struct fs,_,_,_⟩=>match fs[f]? with
  | some (o,t)=>match E.size t with
   | some sz=>if sz=0 then none else match x with
    | .ptr id j off tot=>some (.ptr id j (off+o) tot)
    | .CQ d xs j off=>some (.CQ d xs j (off+o))
    | _=>none
   | none=>none
  | none=>none
 | _=>none
def YK (E:Env) (s:TypeId) (x:V) (f:Nat):Option V:=
 match E.ti s,x with
 | some ⟨.struct fs,_,_,_⟩,.agg cs=>match fs[f]? with
  | some (o,t)=>match E.ti t with|some i=>partOf cs o i.size i.isAgg|none=>none
  | none=>none
 | _,_=>none
def YD (E:Env) (t:TypeId) (x i:V):Option V:=
 match i with
 | .lit (.int _ n)=>
  match E.ti t,x with
  | some ⟨.array len e,_,_,_⟩,.agg cs=>match E.ti e with
   | some q=>if 0<=n/\n<len then partOf cs (n.toNat*q.size) q.size q.isAgg else none
   | none=>none
  | some ⟨.scalar,_,_,_⟩,.lit (.string s)=>if E.isStr t then (if 0<=n then (s[n.toNat]?).map fun b=>V.lit (.int .u8 b.toNat) else none) else none
  | _,_=>none
 | _=>none
def byteOf:V->Option UInt8
 | .lit (.int .u8 n)=>some (UInt8.ofNat n.toNat)
 | _=>none
def bytesOf:List V->Option (List UInt8)
 | []=>some []
 | v::vs=>match byteOf v,bytesOf vs with|some b,some q=>some (b::q)|_,_=>none
def JH (E:Env) (H:Heap) (q dst:TypeId) (x:V):Option (V×Heap):=
 match x with
 | .lit (.int _ n)=>match E.kind dst with
  | some k=>if (E.ti q).isSome then some (.lit (.int k (k.wrap n)),H) else none
  | none=>none
 | .lit (.string s)=>if E.isStr q&&E.isStr dst then some (.lit (.string s),H) else none
 | x=>if E.isStr dst&&E.isBytes q&&Ew H x 1 then
   match elemsOf H x with
   | some xs=>match bytesOf xs with|some z=>if z.length<=maxLen then some (.lit (.string ⟨z.toArray⟩),H) else none|none=>none
   | none=>none
  else none
def bytesV (st:ByteArray):List V:=st.data.toList.map fun c=>.lit (.int .u8 c.toNat)
def OC (E:Env) (k:Nat) (H:Heap) (dst:TypeId) (x:V):Option (V×Heap):=
 match x,E.ti dst with
 | .lit (.string st),some ⟨.slice e,_,_,_⟩=>if E.size e=some 1 then some (.Bi k 0 st.size st.size,place H k (CB true false e 1 (bytesV st))) else none
 | _,_=>none
def mm (q:Bool) (k:IntKind):Int->List V->Option V
 | a,[]=>some (.lit (.int k a))
 | a,.lit (.int j b)::z=>if k=j then mm q k (if q then (if b>a then b else a) else (if b<a then b else a)) z else none
 | _,_=>none
def Qq (q:Bool):List V->Option V
 | .lit (.int k a)::z=>mm q k a z
 | _=>none
def evs (E:Env) (s:List V) (xs:Array Operand):List V:=xs.toList.map (ev E s)
def xE (E:Env) (t:TypeId) (x:V):Bool:=
 match x with
 | .lit (.string s)=>E.isStr t
 | _=>match E.ti t with|some ⟨.slice _,_,_,_⟩=>true|_=>false
def Qd (E:Env) (k:Nat) (H:Heap) (s:List V) (b:Builtin) (args:List V) (q:List TypeId):Option (V×Heap):=
 match b,args,q with
 | .len,[x],[t]=>if xE E t x then (lenOf H x).map fun n=>(V.lit (.int .i64 n),H) else none
 | .append,[a,x],[t,u]=>Nh E k H t u a x
 | .copy,[d,x],[t,u]=>lJ E H t u d x
 | .min,args,_=>(Qq false args).map (·,H)
 | .max,args,_=>(Qq true args).map (·,H)
 | _,_,_=>none
def QW (E:Env) (k:Nat) (H:Heap) (t:TypeId) (n:Nat) (q:List (Nat×V)):Option (V×Heap):=
 match E.ti t with
 | some ⟨.slice e,_,_,_⟩=>match E.ti e with
  | some A=>match A.zero,Fg H (q.map (·.2)) with
   | some z,some vs=>
    if n*A.size<=16777216/\0<A.size/\z.cells.length=A.size/\okV z=true/\(n==0 && !q.isEmpty)=false then
     match Ns (List.replicate n (ES (E.rows e) z)) A.size ((q.map (·.1)).zip (vs.map (ES (E.rows e)))) with
     | some xs=>some (.Bi k 0 n n,place (bump H ((q.map (·.2)).flatMap EF)) k (CB true false e A.size xs))
     | none=>none
    else none
   | _,_=>none
  | none=>none
 | _=>none
def BO (call:EM) (E:Env) (k:Nat) (H:Heap) (s:List V) (o:Oper):Option (V×Heap):=
 match o.op with
 | .move x=>some (ev E s x,H)
 | .assign (.const (.slice none 0 0))=>match E.ti o.type with
  | some ⟨.slice e,_,_,_⟩=>some (.Bi k 0 0 0,place H k (CB true false e ((E.size e).getD 0) []))
  | _=>none
 | .assign x=>some (ev E s x,H)
 | .pick c a b=>match ev E s c with | .lit (.bool t)=>some (if t then ev E s a else ev E s b,H)|_=>none
 | .alloc t=>match E.ti t with
  | some i=>match i.zero with|some z=>if z.cells.length=i.size/\okV z=true then some (.ptr k 0 0 1,place H k (CB false false t i.size [z])) else none|none=>none
  | none=>none
 | .box t x=>match E.ti t with
  | some i=>if (ev E s x).cells.length=i.size/\okV (ev E s x)=true then some (.ptr k 0 0 1,place H k (CB false false t i.size [ev E s x])) else none
  | none=>none
 | .build t q=>(YE E t (q.toList.map fun(i,x)=>(i,ev E s x))).map (·,H)
 | .buildSlice t n q=>QW E k H t n (q.toList.map fun(i,x)=>(i,ev E s x))
 | .load t a=>(Nz E H t (ev E s a)).map (·,H)
 | .store t a v=>(Nl E H t (ev E s a) (ev E s v)).map (EZ,·)
 | .nilCheck x=>match VN (ev E s x) with|some false=>some (ev E s x,H)|_=>none
 | .binOp op t x y _=>(OL E op t (ev E s x) (ev E s y)).map (·,H)
 | .unOp op _ x=>(mZ op (ev E s x)).map (·,H)
 | .convert C dst x=>if E.isStr C&&E.isBytes dst then OC E k H dst (ev E s x) else JH E H C dst (ev E s x)
 | .makeSlice t l c=>match E.ti t,ev E s l,ev E s c with
  | some ⟨.slice e,_,_,_⟩,.lit (.int _ n),.lit (.int _ m)=>match E.ti e with
   | some A=>match A.zero with
    | some z=>if 0<=n/\n<=m/\m.toNat*A.bytes<=lim/\m<=maxLen/\0<A.size/\z.cells.length=A.size/\okV z=true then
      some (.Bi k 0 n.toNat n.toNat,place H k (CB true false e A.size (List.replicate n.toNat (ES (E.rows e) z)))) else none
    | none=>none
   | none=>none
  | _,_,_=>none
 | .slice t x F D G=>match E.ti t with
  | some ⟨.array n e,_,_,_⟩=>P8 E H n e (ev E s x) (F.map (ev E s)) (D.map (ev E s)) (G.map (ev E s))
  | _=>Jz E H t (ev E s x) (F.map (ev E s)) (D.map (ev E s)) (G.map (ev E s))
 | .sliceToArrayPointer t x=>(Yg E t (ev E s x)).map (·,H)
 | .fieldAddr t x f=>(X5 E t (ev E s x) f).map (·,H)
 | .field t x f=>(YK E t (ev E s x) f).map (·,H)
 | .indexAddr t x i=>(Q3 E H t (ev E s x) (ev E s i)).map (·,H)
 | .index t x i=>(YD E t (ev E s x) (ev E s i)).map (·,H)
 | .extract x i=>match ev E s x with | .BH vs=>(vs[i]?).map (·,H)|_=>none
 | .lookup t m x ok=>(YO E t ok (ev E s m) (ev E s x)).map (·,H)
 | .makeFunc (.func f) first caps=>some (.fn f (evs E s first) (evs E s caps),H)
 | .call c=>match c.callee with
  | .builtin b=>Qd E k H s b (evs E s c.args) c.argTypes.toList
  | .value f=>match ev E s f with
   | .fn g first caps=>call g (first++evs E s c.args++caps) H
   | _=>none
  | _=>none
 | _=>none
def GM (call:EM) (E:Env) (ops:Array Oper) (k:Nat) (o:Oper) (st:St):Option (V×Heap):=
 match o.guard with
 | none=>BO call E k st.H st.s o
 | some (j,q)=>
  match (ops[j]?).bind (·.dst) with
  | none=>none
  | some d=>match Pg (st.s.getD d .und) q with
   | none=>none
   | some false=>some (EZ,st.H)
   | some true=>BO call E k st.H st.s o
def Ku (call:EM) (E:Env) (ops:Array Oper) (k:Nat) (i:Nat) (st:St):Option St:=
 match ops[i]? with
 | none=>some st
 | some o=>match GM call E ops k o st with
  | some (v,H)=>some ⟨setSlot st.s o.dst v,H⟩
  | none=>none
def stepD (call:EM) (E:Env) (ops:Array Oper) (i:Nat) (st:St):Option St:=Ku call E ops st.H.length i st
def OJ (call:EM) (E:Env) (ops:Array Oper):List Nat->St->Option St
 | [],st=>some st
 | i::q,st=>match stepD call E ops i st with
  | some st' =>OJ call E ops q st'
  | none=>none
def EY:V->List Nat
 | .Bi id _ _ _=>[id]
 | .ptr id _ _ _=>[id]
 | _=>[]
def lK:V->List Nat
 | .agg cs=>cs.flatMap EY
 | v=>EY v
def DW:V->List Nat
 | .agg cs=>cs.flatMap EY
 | .fn _ a b=>(a++b).flatMap lK
 | v=>EY v
def zB:V->Bool | .fn _ _ _=>true|_=>false
def Y5 (E:Env) (f:FuncId):Bool:=(E.pure f||(E.env f).isSome||(E.maps f).isSome)&&(E.own f).isNone
def mkV (l:List (Int×FuncId)) (x:V):V:=.GU (l.flatMap fun q=>[.lit (.int .i64 q.1),.fn q.2 [x] []])
def yC (E:Env):V->Bool
 | .fn g a b=>Y5 E g&&(a++b).all (fun v=>!zB v)
 | _=>false
def quietAt (E:Env) (s:List V) (o:Oper):Bool:=
 match o.op with
 | .call c=>(match c.callee with
  | .value (.tmp t)=>!(E.quiet&&o.type != 0)||yC E (s.getD t .und)
  | _=>true)
 | _=>true
def EX (E:Env) (s:List V) (o:Oper):List Nat:=o.op.operands.toList.flatMap fun x=>DW (ev E s x)
inductive Cls where
 | s|n|f|a|c|w
 deriving DecidableEq
def Qw (E:Env) (f:FuncId):Bool:=(E.maps f).isNone&&(E.env f).isNone && !E.pure f&&(match E.hm f [] with|some hs=>hs.fb.isEmpty|none=>false)
def CG (E:Env) (o:Oper):Cls:=
 match o.op with
 | .move _ | .pick .. | .build .. | .binOp .. | .unOp .. | .field .. | .fieldAddr .. | .extract .. | .lookup .. | .makeFunc .. | .index .. | .nilCheck _ | .sliceToArrayPointer ..=>.s
 | .assign (.const (.slice none 0 0))=>.a
 | .assign _=>.s
 | .load .. | .indexAddr ..=>.n
 | .convert q dst _=>if E.isStr q&&E.isBytes dst then .a else .n
 | .slice ..=>.n
 | .alloc _ | .box .. | .buildSlice .. | .makeSlice ..=>.a
 | .call c=>match c.callee with
  | .builtin .len=>.n
  | .builtin .min=>.s
  | .builtin .max=>.s
  | .value (.func f)=>if Y5 E f then .f else if Qw E f then .c else .w
  | .value (.tmp _)=>if E.quiet&&o.type != 0 then .f else .w
  | _=>.w
 | _=>.w
def Z5p:Cls->Cls->Bool
 | .w,.s=>true
 | .s,.w=>true
 | .w,_=>false
 | _,.w=>false
 | .c,.c=>false
 | _,_=>true
def Xx (acc:List Nat) (o:Oper):Nat:=
 o.after.toList.foldl (fun m e=>if Region.binds .any e then m ||| (1 <<< e.on) ||| acc.getD e.on 0 else m) 0
def GY:List Nat->List Oper->List Nat
 | acc,[]=>acc
 | acc,o::os=>GY (acc++[Xx acc o]) os
def kD (E:Env) (ops:Array Oper) (x y:Oper):Bool:=Z5p (CG E x) (CG E y)&&x.apart ops y
def Qc (o:Oper):Option Operand:=
 match o.op with
 | .store _ a _=>some a
 | .call c=>(match c.callee,c.args.toList with
  | .builtin .append,[a,_]=>some a
  | _,_=>none)
 | _=>none
def ZGk (ops:Array Oper) (d:Tmp):Option Nat:=(List.range ops.size).find? fun j=>match ops[j]? with|some q=>q.dst==some d|none=>false
def rootOf (E:Env) (ops:Array Oper):Nat->Tmp->Option (Nat⊕Nat)
 | 0,_=>none
 | n+1,d=>match ZGk ops d with
  | none=>some (.inr d)
  | some j=>match ops[j]? with
   | none=>none
   | some q=>if CG E q = .a then some (.inl j) else match q.op with
    | .fieldAddr _ (.tmp e) _=>rootOf E ops n e
    | .nilCheck (.tmp e)=>rootOf E ops n e
    | .move (.tmp e)=>rootOf E ops n e
    | .indexAddr _ (.tmp e) _=>rootOf E ops n e
    | .call _=>(match Qc q with|some (.tmp e)=>rootOf E ops n e|_=>none)
    | _=>none
def YN (E:Env) (ops:Array Oper) (o:Oper):Option (Nat⊕Nat):=
 match o.guard,Qc o with
 | none,some (.tmp d)=>rootOf E ops 12 d
 | _,_=>none
def needs (E:Env) (o:Oper):Bool:=match CG E o with | .n=>true | .f=>true | .a=>true | .c=>true|_=>false
def linked (ms:List Nat) (x y:Nat):Bool:=(ms.getD x 0).testBit y||(ms.getD y 0).testBit x
def Qx (E:Env) (ops:Array Oper):List (Nat×(Nat⊕Nat)):=
 let ms:=GY [] ops.toList
 (List.range ops.size).filterMap fun x=>match ops[x]? with
  | some ox=>(match YN E ops ox with
   | some t=>if (List.range ops.size).any (fun y=>!linked ms x y&&(match ops[y]? with|some oy=>needs E oy|none=>false)) then some (x,t) else none
   | none=>none)
  | none=>none
def TW (base:Nat) (s0:List V):Nat⊕Nat->Option Nat
 | .inl j=>some (base+j)
 | .inr d=>match s0.getD d .und with | .ptr id _ _ _=>some id | .Bi id _ _ _=>some id|_=>none
def addrOf (E:Env) (s:List V) (o:Oper):V:=match Qc o with|some a=>ev E s a|_=>.no
def Ph (H:Heap) (a:V) (k:Nat):Bool:=match a with
 | .ptr id _ _ tot=>id==k&&(match Dn H id tot with|some b=>!b.row|none=>false)
 | .Bi id _ _ _=>id==k&&(match H[id]? with|some b=>b.row|none=>false)
 | _=>false
def Gy (E:Env) (ms:List Nat) (lt:List (Nat×(Nat⊕Nat))) (s0:List V) (base i:Nat) (s:List V) (H:Heap) (o:Oper):Bool:=
 lt.all fun p=>match TW base s0 p.2 with
  | none=>false
  | some k=>if p.1=i then Ph H (addrOf E s o) k else !needs E o||(linked ms p.1 i || !(EX E s o).contains k)
def O7 (E:Env) (ops:Array Oper) (lt:List (Nat×(Nat⊕Nat))) (x:Nat) (ox oy:Oper):Bool:=
 ox.apart ops oy&&(needs E oy&&lt.any fun p=>p.1==x)
def yF (E:Env) (ops:Array Oper):Bool:=
 let ms:=GY [] ops.toList
 (List.range ops.size).all fun y=>match ops[y]? with
  | some oy=>oy.after.all (fun e=>!Region.binds .any e||decide (e.on<y)) &&
   (List.range y).all fun x=>(ms.getD y 0).testBit x||(match ops[x]? with|some ox=>kD E ops ox oy||(O7 E ops (Qx E ops) x ox oy||O7 E ops (Qx E ops) y oy ox)|none=>true)
  | none=>true
def Ef (E:Env) (f:FuncId):Code->Bool
 | .region id ops true=>!E.calm f id||yF E ops
 | .seq a b=>Ef E f a&&Ef E f b
 | .cond _ a b=>Ef E f a&&Ef E f b
 | .block _ b=>Ef E f b
 | .loop b=>Ef E f b
 | .scope b=>Ef E f b
 | _=>true
def Sv:Box:={ live:=false,row:=false,Ep:=false,elem:=0,Au:=0,xs:=[],floor:=0 }
def Xy (E:Env) (ops:Array Oper) (ms:List Nat) (i:Nat):Bool:=
 (List.range ops.size).all fun j=>j==i||(linked ms i j||(match ops[j]? with|some q=>!decide (CG E q = .c)|none=>true))
def Ip (call:EM) (E:Env) (ops:Array Oper) (ms:List Nat) (lt:List (Nat×(Nat⊕Nat))) (s0:List V) (base m:Nat) (i:Nat) (st:St):Option St:=
 match ops[i]? with
 | none=>some st
 | some o=>
  if ((EX E st.s o).all fun id=>decide (id<base)||(decide (base+m<=id)&&Xy E ops ms i)||(decide (id<base+m)&&(ms.getD i 0).testBit (id - base)))&&quietAt E st.s o&&(Gy E ms lt s0 base i st.s st.H o&&(!decide (CG E o = .c)||decide (base+m<=st.H.length))) then
   (if CG E o = .a then
    match st.H[base+i]? with
    | some b=>if b.live then none else Ku call E ops (base+i) i st
    | none=>none
    else Ku call E ops st.H.length i st)
  else none
def Np (call:EM) (E:Env) (ops:Array Oper) (ms:List Nat) (lt:List (Nat×(Nat⊕Nat))) (s0:List V) (base m:Nat):List Nat->St->Option St
 | [],st=>some st
 | i::q,st=>match Ip call E ops ms lt s0 base m i st with
  | some st' =>Np call E ops ms lt s0 base m q st'
  | none=>none
def V6 (call:EM) (E:Env) (ops:Array Oper) (st:St):Option St:=
 let m:=if ops.any (fun o=>decide (CG E o = .a)) then ops.size else 0
 Np call E ops (GY [] ops.toList) (Qx E ops) st.s st.H.length m (List.range ops.size) ⟨st.s,st.H++List.replicate m Sv⟩
def Gp (call:EM) (q:Code->St->Option (Ex×St)) (E:Env) (f:FuncId):Code->St->Option (Ex×St)
 | .skip,st=>some (.normal,st)
 | .region _ ops false,st=>(OJ call E ops (List.range ops.size) st).map (.normal,·)
 | .region id ops true,st=>if E.calm f id then (V6 call E ops st).map (.normal,·) else none
 | .seq a b,st=>match Gp call q E f a st with
  | some (.normal,st')=>Gp call q E f b st'
  | r=>r
 | .cond c a b,st=>match ev E st.s c with
  | .lit (.bool t)=>if t then Gp call q E f a st else Gp call q E f b st
  | _=>none
 | .block id b,st=>match Gp call q E f b st with
  | some (.exit i,st')=>if i=id then some (.normal,st') else some (.exit i,st')
  | r=>r
 | .loop b,st=>q b st
 | .scope b,st=>Gp call q E f b st
 | .label _,st=>some (.normal,st)
 | .exit id,st=>some (.exit id,st)
 | .ret,st=>some (.ret,st)
 | _,_=>none
def V5 (call:EM) (E:Env) (f:FuncId):Nat->Code->St->Option (Ex×St)
 | 0,_,_=>none
 | n+1,b,st=>match Gp call (V5 call E f n) E f b st with
  | some (.normal,st')=>V5 call E f n b st'
  | r=>r
def resD (E:Env) (H:Heap) (s:List V):ResultVar->Option V
 | .tmp t=>some (s.getD t .und)
 | .cell a t=>Nz E H t (s.getD a .und)
def MK (E:Env) (H:Heap) (s:List V) (rs:List ResultVar):Option V:=
 match rs.mapM (resD E H s) with
 | some [v]=>some v
 | some vs=>some (.BH vs)
 | none=>none
def Qu (call:EM) (n:Nat) (E:Env) (f:FuncId) (fn:Func) (args:List V) (H:Heap):Option (V×Heap):=
 match fn.body with
 | none=>none
 | some c=>match Gp call (V5 call E f n) E f c ⟨args++List.replicate (fn.ntmps - args.length) EZ,H⟩ with
  | some (.normal,st)|some (.ret,st)=>(MK E st.H st.s fn.results.toList).map (·,st.H)
  | _=>none
mutual
def Eb:V->List Nat
 | .Bi id _ _ _=>[id]
 | .ptr id _ _ _=>[id]
 | .agg cs=>Dv cs
 | .BH cs=>Dv cs
 | .fn _ a b=>Dv a++Dv b
 | .IG _ v=>Eb v
 | .GU cs=>Dv cs
 | _=>[]
def Dv:List V->List Nat
 | []=>[]
 | x::xs=>Eb x++Dv xs
end
mutual
def Fz (q:Nat->Nat):V->V
 | .Bi id off len tot=>.Bi (q id) off len tot
 | .ptr id i off tot=>.ptr (q id) i off tot
 | .agg cs=>.agg (Ho q cs)
 | .BH cs=>.BH (Ho q cs)
 | .fn f a b=>.fn f (Ho q a) (Ho q b)
 | .IG t v=>.IG t (Fz q v)
 | .GU cs=>.GU (Ho q cs)
 | v=>v
def Ho (q:Nat->Nat):List V->List V
 | []=>[]
 | x::xs=>Fz q x::Ho q xs
end
def lF (e:TypeId) (sz:Nat) (H:Heap) (x:V):Option (V×Heap):=
 match x with
 | .sl true _ []=>some (.Bi H.length 0 0 0,H++[CB true false e sz []])
 | .DU true _ []=>some (.Bi H.length 0 0 0,H++[CB true false e sz []])
 | .Bi id off len tot=>if off=0/\len=tot then some (.Bi id off len tot,H) else none
 | _=>none
def I9:Fk->Heap->V->Option (V×Heap)
 | .s _ sz,H,x=>(Ia H x).map fun y=>(Gt sz y,bump H (F7 x))
 | .own e sz,H,x=>lF e sz H x
 | .keep,H,x=>some (x,H)
 | .drop,H,_=>some (.und,H)
def I8:List Fk->Heap->List V->Option (List V×Heap)
 | [],H,[]=>some ([],H)
 | f::fs,H,x::xs=>match I9 f H x with
  | some (y,H1)=>match I8 fs H1 xs with
   | some (ys,q)=>some (y::ys,q)
   | none=>none
  | none=>none
 | _,_,_=>none
def Kw (fl:List Fk) (H:Heap) (x:V):Option (V×Heap):=
 match x with
 | .agg cs=>(I8 fl H cs).map fun r=>(.agg r.1,r.2)
 | x=>match fl with
  | [f]=>I9 f H x
  | _=>none
def Io:List (List Fk)->Heap->List V->Option (List V×Heap)
 | [],H,[]=>some ([],H)
 | f::fs,H,x::xs=>match Kw f H x with
  | some (y,H1)=>match Io fs H1 xs with
   | some (ys,q)=>some (y::ys,q)
   | none=>none
  | none=>none
 | _,_,_=>none
def LC:Nat->List Bf->Heap->List Nat->List Nat->Option (Heap×List Nat)
 | 0,_,_,_,_=>none
 | _+1,_,H,[],seen=>some (H,seen)
 | n+1,fb,H,id::q,seen=>
  if seen.contains id then LC n fb H q seen else
  match H[id]?,fb with
  | some b,.row fresh::z =>if b.live&&b.row then LC n z (if fresh then H else bump H [id]) q (seen++[id]) else none
  | some b,.var fl::z =>if b.live && !b.row then
    (match b.xs with
     | [x]=>match Kw fl H x with
      | some (y,H1)=>(match H1[id]? with
       | some b1=>if okV y then LC n z (H1.set id { b1 with xs:=[y] }) (q++Eb y) (seen++[id]) else none
       | none=>none)
      | none=>none
     | _=>none)
    else none
  | _,_=>none
def Gi (q:Nat->Nat) (b:Box):Box:=if b.row then b else { b with xs:=Ho q b.xs }
def J9 (H:Heap) (ids:List Nat):Heap:=ids.map fun id=>Gi (ids.idxOf ·) ((H[id]?).getD Sv)
def pack (fa:List (List Fk)) (fb:List Bf) (k:Nat) (args:List V) (H:Heap):Option (List Nat×List V×Heap):=
 match Io fa H args with
 | some (as,H1)=>match LC 1000 fb H1 (List.range k++Dv as) [] with
  | some (q,ids)=>some (ids,as,q)
  | none=>none
 | none=>none
def KC (ids:List Nat) (n j:Nat):Nat:=if j<ids.length then ids.getD j 0 else n+(j - ids.length)
def Qz:Heap->List Nat->Heap->Heap
 | H,[],q=>H++q
 | H,id::ids,b::q=>Qz (H.set id b) ids q
 | H,_::_,[]=>H
def PY (H:Heap) (ids:List Nat) (q:Heap):Heap:=Qz H ids (q.map (Gi (KC ids H.length)))
def Pz (hs:YS) (args:List V) (H:Heap):Option (V×Heap):=
 match pack hs.fa hs.fb 0 args H with
 | some (ids,as,q)=>match hs.run (Ho (ids.idxOf ·) as) (J9 q ids) with
  | some (r,z)=>if ids.length<=z.length then some (Fz (KC ids q.length) r,PY q ids z) else none
  | none=>none
 | none=>none
def Nw:List V->List FuncId
 | []=>[]
 | .fn f _ _::vs=>f::Nw vs
 | _::vs=>Nw vs
def zD (fa:List (List Fk)) (fb:List Bf) (k:Nat) (z:V) (H:Heap):Option (V×Heap):=
 match z with
 | .BH vs=>match pack fa fb k vs H with
  | some (ids,as,q)=>if ids.take k=List.range k then some (.BH (Ho (ids.idxOf ·) as),J9 q ids) else none
  | none=>none
 | v=>match pack fa fb k [v] H with
  | some (ids,[a],q)=>if ids.take k=List.range k then some (Fz (ids.idxOf ·) a,J9 q ids) else none
  | _=>none
def Eu (E:Env):Nat->EM
 | 0,_,_,_=>none
 | n+1,f,args,H=>
  match E.maps f with
  | some l=>(match args with|[x]=>if (EF x).isEmpty then some (mkV l x,H) else none|_=>none)
  | none=>
  match E.env f with
  | some F=>if args.any VR then (match E.own f,MM H args with
    | none,some as=>(match F (Gs E.rows (E.par f) as) with
     | some r=>if Pj r then some (r,bump H (args.flatMap EF)) else none
     | none=>none)
    | _,_=>none)
   else match Fg H args with
   | some as=>(match E.own f with
    | none=>(F (Gs E.rows (E.par f) as)).map (·,bump H (args.flatMap EF))
    | some e=>match F (Gs E.rows (E.par f) as) with
     | some (.sl false sz xs)=>some (.Bi H.length 0 xs.length xs.length,place (bump H (args.flatMap EF)) H.length (CB true false e sz xs))
     | _=>none)
   | none=>none
  | none=>
   if E.pure f then
    match E.func f with
    | none=>none
    | some fn=>match Fg H args with
     | some as=>match Qu (Eu E n) n E f fn as [] with
      | some (r,H')=>(KG H' r).map (·,bump H (args.flatMap EF))
      | none=>none
     | none=>none
   else match E.hm f (if Qw E f then [] else Nw args) with
    | some hs=>Pz hs args H
    | none=>match E.func f with
     | none=>none
     | some fn=>Qu (Eu E n) n E f fn args H
def yL (P:Program) (t:TypeId):Option (List FK):=
 match P.underlying t with
 | some (.struct _)|some (.array _ _)=>if P.keyTypeAt 20 t && !P.eqGuardType P.depth t then QF P 20 t else none
 | _=>none
def Z5C (P:Program):Nat->TypeId->List Nat
 | 0,_=>[]
 | d+1,t=>match P.underlying t with
  | some (.slice e)=>[P.cellsOf e]
  | some (.struct fs)=>fs.toList.flatMap fun f=>Z5C P d f.type
  | some (.array n e)=>(List.replicate n (Z5C P d e)).flatten
  | _=>[0]
def rowsOf (P:Program) (t:TypeId):List Nat:=Z5C P 20 t
def PR (P:Program) (pure:FuncId->Bool) (env:FuncId->Option (List V->Option V)):Env where
 P:=P
 ti:=LK P
 func:=fun f=>P.funcs[f]?
 env:=env
 Ey:=fun _=>none
 pure:=pure
 flat:=yL P
 kind:=fun t=>match P.underlying t with|some (.int k)=>some k|_=>none
 isStr:=fun t=>P.underlying t matches some .string
 isBool:=fun t=>P.underlying t matches some .bool
 isBytes:=fun t=>match P.underlying t with|some (.slice e)=>(P.underlying e matches some (.int .u8))|_=>false
 calm:=fun _ _=>true
 rows:=rowsOf P
 par:=fun f=>match P.funcs[f]? with|some fn=>fn.params.toList|none=>[]
 own:=fun _=>none
 hm:=fun _ _=>none
end Go.Proofs.YtjodhcdmhobmoaaGreatDoor.Le
namespace Go.Proofs.YtjodhcdmhobmoaaGreatDoor.Le
open Go.RowKit (Below)
structure Loc where
 v:Value
 tot:Nat
 Au:Nat
structure Sg where
 box:Nat->Option Loc
 fz:Nat->Nat->Prop
def flat (us:List Value):List Value:=us.flatMap fun u=>u.cells.toList
def Lies (σ:Sg) (w:World) (b o:Nat) (us:List Value):Prop:=
 ∀j u,(flat us)[j]? = some u->σ.fz b (o+j)/\w.cell? ⟨b,o+j,none⟩=some u
def ZhP (L:Value) (Au off len:Nat) (v:Value):Prop:=
 ∃a n c k,L = .slice a n c/\v = .slice (a.map (·.add (k*Au))) len (c - off)/\off<=c/\k<=off/\(off<c->k=off)
inductive AV (σ:Sg) (w:World):List V->List Value->Prop where
 | nil:AV σ w [] []
 | und (u:Value) {xs vs}:AV σ w xs vs->AV σ w (.und::xs) (u::vs)
 | no {xs vs}:AV σ w xs vs->AV σ w (.no::xs) (undef::vs)
 | lit {v:Value} {xs vs}:leaf v=true->AV σ w xs vs->AV σ w (.lit v::xs) (v::vs)
 | agg {cs ws xs vs}:AV σ w cs ws->(∀u∈ws,u.oneCell' = true)->AV σ w xs vs->AV σ w (.agg cs::xs) (.agg ws.toArray::vs)
 | BH {cs ws xs vs}:AV σ w cs ws->AV σ w xs vs->AV σ w (.BH cs::xs) (.tuple ws.toArray::vs)
 | Eo {b e xs vs}:AV σ w xs vs->AV σ w (.sl b e []::xs) (.slice none 0 0::vs)
 | GI {e xs vs} (a:Addr):AV σ w xs vs->AV σ w (.sl false e []::xs) (.slice (some a) 0 0::vs)
 | Gv {e xs vs} (a:Addr):AV σ w xs vs->AV σ w (.DU false e []::xs) (.slice (some a) 0 0::vs)
 | Gl {b e xs vs}:AV σ w xs vs->AV σ w (.DU b e []::xs) (.slice none 0 0::vs)
 | sl {es us xs vs} (b o c e:Nat):AV σ w es us->(∀x∈es,FM x=true)->(∀u∈us,u.cells.size=e)->(∀u∈flat us,u.oneCell' = true)->es.length<=c->c<=maxLen->Lies σ w b o us->AV σ w xs vs ->
   AV σ w (.sl false e es::xs) (.slice (some ⟨b,o,none⟩) es.length c::vs)
 | DU {es us xs vs} (b o e:Nat):AV σ w es us->(∀x∈es,FM x=true)->(∀u∈us,u.cells.size=e)->(∀u∈flat us,u.oneCell' = true)->es.length<=maxLen->Lies σ w b o us->AV σ w xs vs ->
   AV σ w (.DU false e es::xs) (.slice (some ⟨b,o,none⟩) es.length es.length::vs)
 | Bi {id off len tot L v xs vs}:σ.box id=some L->tot<=L.tot->(L.tot=tot->off+len<=tot/\ZhP L.v L.Au off len v)->(∃a n c,v = .slice a n c)->AV σ w xs vs ->
   AV σ w (.Bi id off len tot::xs) (v::vs)
 | ptr {id i off tot L v xs vs} (g:Nat):σ.box id=some L->tot<=L.tot->(L.tot=tot->∃n c,L.v = .slice (some ⟨g,0,none⟩) n c)->v = .pointer (some ⟨g,i*L.Au+off,none⟩)->AV σ w xs vs ->
   AV σ w (.ptr id i off tot::xs) (v::vs)
 | CQ {es us xs vs} (b o e i off:Nat):AV σ w es us->(∀x∈es,FM x=true)->(∀u∈us,u.cells.size=e)->(∀u∈flat us,u.oneCell' = true)->Lies σ w b o us->AV σ w xs vs ->
   AV σ w (.CQ e es i off::xs) (.pointer (some ⟨b,o+i*e+off,none⟩)::vs)
 | fn {f first caps us ws xs vs}:AV σ w first us->AV σ w caps ws->AV σ w xs vs->AV σ w (.fn f first caps::xs) (.func (.func f) us.toArray ws.toArray::vs)
 | IG {t x u xs vs}:AV σ w [x] [u]->AV σ w xs vs->AV σ w (.IG t x::xs) (.iface t u::vs)
 | GU {kvs us xs vs} (g:Nat) (es:Array MapEntry) (c:Nat):AV σ w kvs us->w.heap[g]? = some (.map es c)->us=es.toList.flatMap (fun e=>[e.key,e.val])->AV σ w xs vs->AV σ w (.GU kvs::xs) (.map (some g)::vs)
def Ec (w w' : World):Prop:=∀(g:Nat) (es:Array MapEntry) (c:Nat),w.heap[g]? = some (Obj.map es c)->w'.heap[g]? = some (Obj.map es c)
theorem Ec.refl (w:World):Ec w w:=fun _ _ _ h=>h
theorem Ec.trans {w w' w'' : World} (h:Ec w w') (k:Ec w' w''):Ec w w'' :=fun g es c q=>k g es c (h g es c q)
structure Ext (σ:Sg) (w:World) (σ' : Sg) (w' : World):Prop where
 box:∀id L,σ.box id=some L->∃L',σ'.box id=some L' /\ L'.Au=L.Au/\(L' = L\/L.tot<L'.tot)
 fz:∀b c,σ.fz b c->σ'.fz b c/\w'.cell? ⟨b,c,none⟩=w.cell? ⟨b,c,none⟩
 mp:Ec w w'
theorem Ext.refl (σ:Sg) (w:World):Ext σ w σ w:=⟨fun id L h=>⟨L,h,rfl,.inl rfl⟩,fun b c h=>⟨h,rfl⟩,Ec.refl w⟩
theorem Ext.trans {σ w σ' w' σ'' w''} (h:Ext σ w σ' w') (k:Ext σ' w' σ'' w''):Ext σ w σ'' w'' :=by
 refine⟨fun id L D=>?_,fun b c hc=>?_,h.mp.trans k.mp⟩
 ·obtain⟨q,C,G,I⟩:=h.box id L D;obtain⟨z,k1,k2,k3⟩:=k.box id q C
  grind
 ·obtain⟨A,F⟩:=h.fz b c hc;obtain⟨b1,b2⟩:=k.fz b c A
  simp_all
theorem Lies.ext {σ w σ' w' b o us} (h:Lies σ w b o us) (e:Ext σ w σ' w'):Lies σ' w' b o us:=fun j u hu=>by
 obtain⟨q,C⟩:=h j u hu;obtain⟨z,A⟩:=e.fz _ _ q
 simp_all
theorem AV.ext {σ w σ' w' xs vs} (h:AV σ w xs vs) (e:Ext σ w σ' w'):AV σ' w' xs vs:=by
 induction h with
 | nil=>exact .nil
 | und u _ A=>exact .und u A
 | no _ A=>exact .no A
 | lit hl _ A=>exact .lit hl A
 | agg _ S _ q z=>exact .agg q S z
 | BH _ _ q z=>exact .BH q z
 | Eo _ A=>exact .Eo A
 | Gl _ A=>exact .Gl A
 | GI a _ A=>exact .GI a A
 | Gv a _ A=>exact .Gv a A
 | sl b o c I _ J C D F G O _ q z=>exact .sl b o c I q J C D F G (O.ext e) z
 | DU b o I _ J C D F G _ q z=>exact .DU b o I q J C D F (G.ext e) z
 | Bi C D F G _ A=>
  obtain⟨N,k1,k2,k3⟩:=e.box _ _ C;rcases k3 with rfl|k3
  ·exact .Bi k1 D F G A
  ·exact .Bi k1 (by omega) (fun Q=>by omega) G A
 | ptr g C D F G _ A=>
  obtain⟨N,k1,k2,k3⟩:=e.box _ _ C;rcases k3 with rfl|k3
  ·exact .ptr g k1 D F G A
  ·exact .ptr g k1 (by omega) (fun Q=>by omega) (by rw[k2];exact G) A
 | CQ b o I i off _ J C D F _ q z=>exact .CQ b o I i off q J C D (F.ext e) z
 | fn _ _ _ q z M=>exact .fn q z M
 | IG _ _ q z=>exact .IG q z
 | GU g es c _ C D _ q z=>exact .GU g es c q (e.mp _ _ _ C) D z
theorem AV.length {σ w xs vs} (h:AV σ w xs vs):xs.length=vs.length:=by
 induction h<;>simp_all
theorem Lm (xs:List V):CS xs=true↔∀x∈xs,DC x=true:=by
 induction xs with
 | nil=>simp[CS]
 | cons x xs q=>simp[CS,q]
theorem yK {x:V} (h:FM x=true):okV x=true:=by simp[FM]at h;exact h.1
theorem SY {x:V} (h:FM x=true):DC x=true:=by simp[FM]at h;exact h.2
theorem Z4S {xs:List V} (h:∀x∈xs,FM x=true):∀x∈xs,okV x=true:=fun x hx=>yK (h x hx)
theorem QZ {xs:List V} (h:∀x∈xs,FM x=true):CS xs=true:=(Lm xs).2 fun x hx=>SY (h x hx)
theorem Zut {x:V} (h:DC x=true):CS x.cells=true:=by
 cases x<;>simp_all [V.cells,DC,CS]
theorem AV.FZ {σ w x xs v vs}:AV σ w (x::xs) (v::vs)↔AV σ w [x] [v]/\AV σ w xs vs:=by
 constructor
 ·intro h;cases h with
  | und _ h=>exact⟨.und _ .nil,h⟩
  | no h=>exact⟨.no .nil,h⟩
  | lit hl h=>exact⟨.lit hl .nil,h⟩
  | agg q I h=>exact⟨.agg q I .nil,h⟩
  | BH q h=>exact⟨.BH q .nil,h⟩
  | Eo h=>exact⟨.Eo .nil,h⟩
  | Gl h=>exact⟨.Gl .nil,h⟩
  | GI a h=>exact⟨.GI a .nil,h⟩
  | Gv a h=>exact⟨.Gv a .nil,h⟩
  | sl b o c e D q z A C F G h=>exact⟨.sl b o c e D q z A C F G .nil,h⟩
  | DU b o e D q z A C F h=>exact⟨.DU b o e D q z A C F .nil,h⟩
  | Bi q z A C h=>exact⟨.Bi q z A C .nil,h⟩
  | ptr g q z A C h=>exact⟨.ptr g q z A C .nil,h⟩
  | CQ b o e i off D q z A C h=>exact⟨.CQ b o e i off D q z A C .nil,h⟩
  | fn q z h=>exact⟨.fn q z .nil,h⟩
  | IG q h=>exact⟨.IG q .nil,h⟩
  | GU g es c D q z h=>exact⟨.GU g es c D q z .nil,h⟩
 ·rintro ⟨h,k⟩
  cases h with
  | und _ h=>exact .und _ k
  | no h=>exact .no k
  | lit hl h=>exact .lit hl k
  | agg q I h=>exact .agg q I k
  | BH q h=>exact .BH q k
  | Eo h=>exact .Eo k
  | Gl h=>exact .Gl k
  | GI a h=>exact .GI a k
  | Gv a h=>exact .Gv a k
  | sl b o c e D q z A C F G h=>exact .sl b o c e D q z A C F G k
  | DU b o e D q z A C F h=>exact .DU b o e D q z A C F k
  | Bi q z A C h=>exact .Bi q z A C k
  | ptr g q z A C h=>exact .ptr g q z A C k
  | CQ b o e i off D q z A C h=>exact .CQ b o e i off D q z A C k
  | fn q z h=>exact .fn q z k
  | IG q h=>exact .IG q k
  | GU g es c D q z h=>exact .GU g es c D q z k
theorem AV.Fa {σ w vs} (h:AV σ w [] vs):vs=[]:=by cases h;rfl
theorem AV.EN {σ w x xs vs} (h:AV σ w (x::xs) vs):∃v vs',vs=v::vs' /\ AV σ w [x] [v]/\AV σ w xs vs' :=by
 cases vs with
 | nil=>exact absurd h.length (by simp)
 | cons v vs' =>exact⟨v,vs',rfl,(AV.FZ.1 h).1,(AV.FZ.1 h).2⟩
theorem AV.append {σ w xs vs ys us} (h:AV σ w xs vs) (k:AV σ w ys us):AV σ w (xs++ys) (vs++us):=by
 induction xs generalizing vs with
 | nil=>cases h.Fa;exact k
 | cons x xs A=>
  obtain⟨v,C,rfl,q,z⟩:=h.EN;exact AV.FZ.2 ⟨q,A z⟩
theorem AV.get {σ w xs vs} (h:AV σ w xs vs) {i:Nat} {x:V} (hx:xs[i]? = some x):∃v,vs[i]? = some v/\AV σ w [x] [v]:=by
 induction xs generalizing vs i with
 | nil=>simp at hx
 | cons y ys C=>
  obtain⟨v,q,rfl,z,A⟩:=h.EN
  grind
theorem AV.take {σ w xs vs} (h:AV σ w xs vs) (n:Nat):AV σ w (xs.take n) (vs.take n):=by
 induction xs generalizing vs n with
 | nil=>cases h.Fa;simp;exact .nil
 | cons y ys A=>
  obtain⟨v,C,rfl,q,z⟩:=h.EN;cases n with
  | zero=>exact .nil
  | succ n=>exact AV.FZ.2 ⟨q,A z n⟩
theorem AV.drop {σ w xs vs} (h:AV σ w xs vs) (n:Nat):AV σ w (xs.drop n) (vs.drop n):=by
 induction xs generalizing vs n with
 | nil=>cases h.Fa;simp;exact .nil
 | cons y ys z=>
  obtain⟨v,A,rfl,C,q⟩:=h.EN;cases n with
  | zero=>exact h
  | succ n=>exact z q n
theorem AV.set {σ w xs vs x v} (h:AV σ w xs vs) (i:Nat) (k:AV σ w [x] [v]):AV σ w (xs.set i x) (vs.set i v):=by
 induction xs generalizing vs i with
 | nil=>cases h.Fa;simp;exact .nil
 | cons y ys A=>
  obtain⟨u,C,rfl,z,q⟩:=h.EN;cases i with
  | zero=>exact AV.FZ.2 ⟨k,q⟩
  | succ i=>exact AV.FZ.2 ⟨z,A q i⟩
theorem AV.replicate {σ w x v} (n:Nat) (k:AV σ w [x] [v]):AV σ w (List.replicate n x) (List.replicate n v):=by
 induction n with
 | zero=>exact .nil
 | succ n q=>exact AV.FZ.2 ⟨k,q⟩
def noMark (q:Nat×Nat) (n:Nat):Prop:=q=(0,0)\/n<=q.1
def GR (w:World) (base:Nat) (e:TypeId) (size:Nat) (v:Value) (n:Nat) (xs:List Value):Prop:=
 xs.length=n*size /\
 ((v = .slice none 0 0/\n=0) \/
  ∃g cap q z,v = .slice (some ⟨g,0,none⟩) n cap/\base<=g/\w.heap[g]? = some (.cells q e z)/\noMark z q.size/\n<=cap/\cap<=maxLen/\q.size=cap*size/\q.toList.take (n*size)=xs)
section
variable {w:World} {base:Nat} {e:TypeId} {size:Nat} {v:Value} {n:Nat} {xs:List Value}
theorem GR.of (h:w.ownsRow base e size v n xs):GR w base e size v n xs:=by
 refine⟨h.1,?_⟩;rcases h.2 with h|⟨g,cap,q,z,A,C,D⟩
 ·exact .inl h
 ·exact .inr ⟨g,cap,q,(0,0),z,A,C,.inl rfl,D⟩
theorem Xr (w:World) (base:Nat) (e:TypeId) (size:Nat):GR w base e size (.slice none 0 0) 0 []:=.of (World.ownsRow_nil w base e size)
theorem GR.lt (h:GR w base e size v n xs):∀k,v.ownBlock=some k->base<=k/\k<w.heap.size:=by
 intro k hk;rcases h.2 with ⟨rfl,_⟩|⟨g,cap,q,A,rfl,hb,z,_⟩
 ·simp[Value.ownBlock]at hk
 ·simp[Value.ownBlock]at hk
  grind
theorem GR.kept {w' : World} {row:Option Nat} (h:GR w base e size v n xs) (D:w.grownBy w' row) (C:v.ownBlock=none\/v.ownBlock≠row):GR w' base e size v n xs:=by
 refine⟨h.1,?_⟩;rcases h.2 with F|⟨g,cap,A,G,rfl,hb,q,z⟩
 ·exact .inl F
 ·refine .inr ⟨g,cap,A,G,rfl,hb,?_,z⟩;rw[D.block g (Array.getElem?_eq_some_iff.1 q).1 (by simpa[Value.ownBlock]using C)];exact q
theorem GR.cells (h:GR w base e size v n xs) {g:Nat} (q:v.ownBlock=some g):∀j u,xs[j]? = some u->w.cell? ((⟨g,0,none⟩:Addr).add j)=some u:=by
 intro j u hu;rcases h.2 with ⟨rfl,_⟩|⟨D,cap,A,G,rfl,hb,z,hm,F,hc,hs,C⟩
 ·simp[Value.ownBlock]at q
 ·simp only[Value.ownBlock,Option.some.injEq]at q;subst q;rw[Addr.add_mid,Nat.zero_add];rw[<- C,List.getElem?_take]at hu;split at hu
  ·simp only[World.cell?,z];simpa using hu
  ·cases hu
end
theorem oZ (P:Program) (g o:Nat) (t:TypeId) (D:Nat×Nat):∀(vs:List Value) (i:Nat) (q:Array Value) (w:World),w.heap[g]? = some (.cells q t D)->noMark D q.size->o+i+vs.length<=q.size->(∀v∈vs,v.oneCell' = true) ->
  (storeCells ⟨g,o,none⟩ vs i).run P w = .ok () (w.setRow g (q.toList.take (o+i)++vs++q.toList.drop (o+i+vs.length)).toArray)
 | [],i,q,w,C,_,_,_=>by
  simp only[storeCells,List.append_nil,List.length_nil,Nat.add_zero,List.take_append_drop,Array.toArray_toList];rw[setRow_self w g q t D C];rfl
 | v::z,i,q,w,C,hm,hl,J=>by
  have M:o+i<q.size:=by simp at hl;omega
  have F:(⟨g,o,none⟩:Addr).add i=⟨g,o+i,none⟩:=by unfold Addr.add;split<;>simp_all
  have A:w.cell? ⟨g,o+i,none⟩=some q[o+i]:=by simp[World.cell?,C,M]
  have G:w.frozen? ⟨g,o+i,none⟩=false:=by
   obtain⟨O,hi'⟩:=D;rcases hm with hm|hm
   ·cases hm;simp[World.frozen?,C]
   ·simp only at hm;have:¬O<=o+i:=by omega
    simp[World.frozen?,C,this]
  have I:(store ((⟨g,o,none⟩:Addr).add i) v).run P w = .ok () (w.setRow g (q.setIfInBounds (o+i) v)):=by
   rw[F,run_store P w _ v _ (J v (by simp)),A];simp[G,setCell_eq_setRow w g (o+i) q t D v C]
  have N:=oZ P g o t D z (i+1) (q.setIfInBounds (o+i) v) (w.setRow g (q.setIfInBounds (o+i) v)) (setRow_heap w g q _ t _ C) (by simpa using hm) (by simp at hl ⊢;omega) (fun x hx=>J x (by simp[hx]));simp only[storeCells,Sem.run_bind,I,Result.andThen_ok,N,setRow_setRow];congr 3;have e:=list_seg_step q.toList (o+i) v z (by simp at hl ⊢;omega)
  simp_all<;>omega
theorem Z86 {P:Program} {w:World} (t ty e:TypeId) (i:TypeInfo) (Q:P.underlying t=some (.slice e)) (O:P.info? e=some i)
  (g z C:Nat) (A:Array Value) (J:Nat×Nat) (N:w.heap[g]? = some (.cells A e J)) (hm:noMark J A.size)
  (a:Addr) (m c:Nat) (q:List Value) (hl:q.length=m*i.size) (D:∀j u,q[j]? = some u->w.cell? (a.add j)=some u) (M:∀u∈q,u.oneCell' = true)
  (F:z+m<=C) (G:z*i.size+q.length<=A.size) :
  (Builtin.append_ #[t,t] ty #[.slice (some ⟨g,0,none⟩) z C,.slice (some a) m c]).run P w =
   .ok (.slice (some ⟨g,0,none⟩) (z+m) C) (w.setRow g (A.toList.take (z*i.size)++q++A.toList.drop (z*i.size+q.length)).toArray):=by
 have hf:=run_firstCells_some (P:=P) w i.size m a m c q hl D;have I:=oZ P g (z*i.size) e J q 0 A w N hm (by simpa using G) M;simp only[Nat.add_zero]at I;simp[Builtin.append_,run_underlying Q,sizeOf,typeInfo,O,Builtin.lenOf,F,hf,Addr.add_lit,I]
end Go.Proofs.YtjodhcdmhobmoaaGreatDoor.Le
namespace Go.Proofs.YtjodhcdmhobmoaaGreatDoor.Le
open Go.RowKit (Below)
structure Ky (σ:Sg) (w:World) (B:Nat) (bx:Box) (L:Loc):Prop where
 tot:L.tot=bx.xs.length
 ED:∃us,AV σ w bx.xs us/\(∀u∈us,u.cells.size=L.Au)/\(∀u∈flat us,u.oneCell' = true)/\GR w B bx.elem L.Au L.v bx.xs.length (flat us)
 Ep:bx.Ep=true->L.v = .slice none 0 0
 Au:bx.Au=L.Au
 oks:∀x∈bx.xs,okV x=true
 IZ:bx.row=true->∀x∈bx.xs,DC x=true
structure Start where
 w:World
 fz:Nat->Nat->Prop
 keep:Nat->Prop
abbrev Start.of (w:World) (fz:Nat->Nat->Prop):Start:=⟨w,fz,fun _=>False⟩
structure Inv (B:Nat) (w0:Start) (σ:Sg) (H:Heap) (w:World):Prop where
 below:Below B w0.w w
 size:B<=w.heap.size
 dom:∀id L,σ.box id=some L->∃bx,H[id]? = some bx/\bx.live=true
 boxes:∀id bx,H[id]? = some bx->bx.live=true->∃L,σ.box id=some L/\Ky σ w B bx L
 apart:∀id id' bx bx' L L' g,H[id]? = some bx->H[id']? = some bx' -> bx.live=true->bx'.live=true->σ.box id=some L->σ.box id' = some L' ->
  L.v.ownBlock=some g->L'.v.ownBlock=some g->id=id'
 cells:∀b c,σ.fz b c->∃u,w.cell? ⟨b,c,none⟩=some u
 floor:∀b c,σ.fz b c->∀id bx L,H[id]? = some bx->bx.live=true->σ.box id=some L->L.v.ownBlock=some b->c<bx.floor*L.Au
 low:∀(id:Nat) (bx:Box),H[id]? = some bx->bx.live=true->bx.floor<=bx.xs.length
 old:∀b c,σ.fz b c->b<B->w0.fz b c
 kept:∀b,w0.keep b->b<w.heap.size/\w.heap[b]? = w0.w.heap[b]? /\ (∀id L,σ.box id=some L->L.v.ownBlock≠some b)/\∀c,σ.fz b c->w0.fz b c
theorem Inv.Z5a {B w0 σ H w} (h:Inv B w0 σ H w) {id L} (hb:σ.box id=some L):id<H.length:=by
 obtain⟨bx,q,_⟩:=h.dom id L hb
 grind
theorem Z3B {H:Heap} {k:Nat} (h:Fv H k=true):(H[k]? = none/\k=H.length)\/∃b,H[k]? = some b/\b.live=false:=by
 unfold Fv at h
 grind
theorem jI (H:Heap):Fv H H.length=true:=by simp[Fv]
theorem Xm {H:Heap} {k:Nat} (h:Fv H k=true) (b:Box) (id:Nat):(place H k b)[id]? = if id=k then some b else H[id]?:=by
 unfold place;rcases Z3B h with ⟨_,hk⟩|⟨b0,hb,_⟩
 ·grind
 grind
theorem Zzq (H:Heap) (b:Box):place H H.length b=H++[b]:=by simp[place]
theorem cell_lt {w:World} {b c:Nat} {u:Value} (h:w.cell? ⟨b,c,none⟩=some u):b<w.heap.size:=block_lt_of_cell h
theorem Ky.kept {σ w B bx L σ' w'} {row:Option Nat} (h:Ky σ w B bx L) (e:Ext σ w σ' w') (F:w.grownBy w' row) (q:L.v.ownBlock=none\/L.v.ownBlock≠row):Ky σ' w' B bx L:=by
 obtain⟨us,z,A,C,D⟩:=h.ED;exact⟨h.tot,⟨us,z.ext e,A,C,D.kept F q⟩,h.Ep,h.Au,h.oks,h.IZ⟩
theorem Ky.block_lt {σ w B bx L g} (h:Ky σ w B bx L) (z:L.v.ownBlock=some g):B<=g/\g<w.heap.size:=by
 obtain⟨us,A,C,D,q⟩:=h.ED;exact q.lt g z
theorem Zyj {w:World} {base:Nat} {e:TypeId} {size:Nat} {v:Value} {n:Nat} {xs:List Value} (h:GR w base e size v n xs) {g:Nat} (z:v.ownBlock=some g):∃q t A,w.heap[g]? = some (.cells q t A):=by
 rcases h.2 with ⟨rfl,_⟩|⟨D,cap,q,A,rfl,_,C,_⟩
 ·simp[Value.ownBlock]at z
 ·simp[Value.ownBlock]at z
  simp_all
theorem Ky.ZFs {σ w B bx L g} (h:Ky σ w B bx L) (A:L.v.ownBlock=some g) {es:Array MapEntry} {c:Nat} (hm:w.heap[g]? = some (.map es c)):False:=by
 obtain⟨us,C,D,F,z⟩:=h.ED;obtain⟨q,t,G,hc⟩:=Zyj z A
 simp_all
theorem Inv.grown {B w0 σ H w w'} (h:Inv B w0 σ H w) (z:w.grownBy w' none):Inv B w0 σ H w' /\ Ext σ w σ w' :=by
 have q:∀b c,b<w.heap.size->w'.cell? ⟨b,c,none⟩=w.cell? ⟨b,c,none⟩:=fun b c hb=>
  World.cell?_of_block (z.block b hb (by simp))
 have e:Ext σ w σ w' :=⟨fun id L A=>⟨L,A,rfl,.inl rfl⟩,fun b c hc=>⟨hc,by
  obtain⟨u,hu⟩:=h.cells b c hc;exact q b c (cell_lt hu)⟩,fun g es c hm=>(z.block g (Array.getElem?_eq_some_iff.1 hm).1 (by simp)).trans hm⟩
 refine⟨⟨h.below.grown z h.size (by simp),Nat.le_trans h.size z.size,h.dom,?_,h.apart,?_,h.floor,h.low,h.old,fun b hb=>?_⟩,e⟩
 ·intro id bx hb hl;obtain⟨L,A,C⟩:=h.boxes id bx hb hl;refine⟨L,A,C.kept e z ?_⟩
  grind
 ·intro b c hc;obtain⟨u,hu⟩:=h.cells b c hc;exact⟨u,(q b c (cell_lt hu)).trans hu⟩
 ·obtain⟨k1,k2,k3,k4⟩:=h.kept b hb;exact⟨Nat.lt_of_lt_of_le k1 z.size,(z.block b k1 (by simp)).trans k2,k3,k4⟩
def Sg.put (σ:Sg) (id:Nat) (L:Loc):Sg:={ σ with box:=fun i=>if i=id then some L else σ.box i }
theorem Inv.push {B w0 σ H w w'} (h:Inv B w0 σ H w) (hg:w.grownBy w' none) {k:Nat} (hk:Fv H k=true) (bx:Box) (hlive:bx.live=true) (L:Loc) (hlow:bx.floor<=bx.xs.length)
  (hnew:∀g,L.v.ownBlock=some g->w.heap.size<=g) (hok:Ext σ w (σ.put k L) w' -> Ky (σ.put k L) w' B bx L) :
  Inv B w0 (σ.put k L) (place H k bx) w' /\ Ext σ w (σ.put k L) w' :=by
 have hnone:σ.box k=none:=by
  cases hb:σ.box k with
  | none=>rfl
  | some J =>
   exfalso;obtain⟨b1,c1,c2⟩:=h.dom _ _ hb;rcases Z3B hk with ⟨hn,_⟩|⟨b0,hb0,hl0⟩
   ·rw[hn]at c1;cases c1
   simp_all
 obtain⟨Q,e0⟩:=h.grown hg;have e:Ext σ w (σ.put k L) w' :=by
  refine⟨fun id J z =>⟨J,?_,rfl,.inl rfl⟩,e0.fz,e0.mp⟩;have:id≠k:=fun hh=>by simp_all
  simp[Sg.put,this,z]
 have e' : Ext σ w' (σ.put k L) w' :=by
  refine⟨e.box,fun b c hc=>⟨hc,rfl⟩,Ec.refl _⟩
 have D:∀id bx',id≠k->(place H k bx)[id]? = some bx' -> H[id]? = some bx' :=by
  intro id bx' q hh;rw[Xm hk,if_neg q]at hh;exact hh
 have hget:(place H k bx)[k]? = some bx:=by rw[Xm hk,if_pos rfl]
 refine⟨⟨Q.below,Q.size,?_,?_,?_,Q.cells,?_,?_,Q.old,fun b hb=>?_⟩,e⟩
 ·intro id J z
  by_cases q:id=k
  ·simp_all
  ·simp only[Sg.put,q,if_false]at z;obtain⟨b1,c1,c2⟩:=h.dom id J z;exact⟨b1,by rw[Xm hk,if_neg q];exact c1,c2⟩
 ·intro id bx' hb hl
  by_cases q:id=k
  ·subst q;rw[hget]at hb;cases hb;exact⟨L,by simp[Sg.put],hok e⟩
  ·obtain⟨J,z,A⟩:=Q.boxes id bx' (D id bx' q hb) hl;refine⟨J,by simp[Sg.put,q,z],?_⟩;obtain⟨us,h1,h2,h3,h4⟩:=A.ED;exact⟨A.tot,⟨us,h1.ext e',h2,h3,h4⟩,A.Ep,A.Au,A.oks,A.IZ⟩
 ·intro id I M N L1 L2 g S hb2 hl1 hl2 F G hg1 hg2
  by_cases q:id=k
  ·by_cases C : I = k
   ·rw[q,C]
   ·exfalso;subst q;simp only[Sg.put,if_true]at F;cases F;simp only[Sg.put,C,if_false]at G;have hb2' :=D I N C hb2;obtain⟨J,z,A⟩:=h.boxes I N hb2' hl2;rw[G]at z;cases z;have:=(A.block_lt hg2).2
    grind
  ·by_cases C : I = k
   ·exfalso;subst C;simp only[Sg.put,if_true]at G;cases G;simp only[Sg.put,q,if_false]at F;have Y :=D id M q S;obtain⟨J,z,A⟩:=h.boxes id M Y hl1;rw[F]at z;cases z;have:=(A.block_lt hg1).2
    grind
   ·simp only[Sg.put,q,C,if_false]at F G;exact h.apart id I M N L1 L2 g (D id M q S) (D I N C hb2) hl1 hl2 F G hg1 hg2
 ·intro b c hc id bx' J hb hl z O
  by_cases q:id=k
  ·exfalso;subst q;simp only[Sg.put,if_true]at z;cases z;obtain⟨u,hu⟩:=h.cells b c hc;have:=cell_lt hu
   grind
  ·simp only[Sg.put,q,if_false]at z;exact h.floor b c hc id bx' J (D id bx' q hb) hl z O
 ·intro id bx' hb hl
  by_cases q:id=k
  ·simp_all
  ·exact h.low id bx' (D id bx' q hb) hl
 ·obtain⟨k1,k2,k3,k4⟩:=Q.kept b hb;refine⟨k1,k2,fun id J z O =>?_,k4⟩
  by_cases q:id=k
  ·subst q;simp only[Sg.put,if_true]at z;cases z;have:=(h.kept b hb).1
   grind
  ·simp only[Sg.put,q,if_false]at z;exact k3 id J z O
theorem Inv.ZCP {B w0 σ H w} (h:Inv B w0 σ H w) {k:Nat} (hk:Fv H k=true) (bx:Box) (hlive:bx.live=true) (L:Loc) (hlow:bx.floor<=bx.xs.length)
  (hap:∀id bx' F g,H[id]? = some bx' -> bx'.live=true->σ.box id=some F -> F.v.ownBlock=some g->L.v.ownBlock≠some g) (hfz:∀g c,L.v.ownBlock=some g->¬σ.fz g c) (hkp:∀g,L.v.ownBlock=some g->¬w0.keep g)
  (hok:Ky (σ.put k L) w B bx L):Inv B w0 (σ.put k L) (place H k bx) w/\Ext σ w (σ.put k L) w:=by
 have hnone:σ.box k=none:=by
  cases hb:σ.box k with
  | none=>rfl
  | some F =>
   exfalso;obtain⟨b1,S,c2⟩:=h.dom _ _ hb;rcases Z3B hk with ⟨hn,_⟩|⟨b0,hb0,hl0⟩
   ·rw[hn]at S;cases S
   simp_all
 have e:Ext σ w (σ.put k L) w:=by
  refine⟨fun id F z =>⟨F,?_,rfl,.inl rfl⟩,fun b c hc=>⟨hc,rfl⟩,Ec.refl _⟩;have:id≠k:=fun hh=>by simp_all
  simp[Sg.put,this,z]
 have D:∀id bx',id≠k->(place H k bx)[id]? = some bx' -> H[id]? = some bx' :=by
  intro id bx' q hh;rw[Xm hk,if_neg q]at hh;exact hh
 have Q:(place H k bx)[k]? = some bx:=by rw[Xm hk,if_pos rfl]
 refine⟨⟨h.below,h.size,?_,?_,?_,h.cells,?_,?_,h.old,fun b hb=>?_⟩,e⟩
 ·intro id F z
  by_cases q:id=k
  ·simp_all
  ·simp only[Sg.put,q,if_false]at z;obtain⟨b1,S,c2⟩:=h.dom id F z;exact⟨b1,by rw[Xm hk,if_neg q];exact S,c2⟩
 ·intro id bx' hb hl
  by_cases q:id=k
  ·subst q;rw[Q]at hb;cases hb;exact⟨L,by simp[Sg.put],hok⟩
  ·obtain⟨F,z,C⟩:=h.boxes id bx' (D id bx' q hb) hl;refine⟨F,by simp[Sg.put,q,z],?_⟩;obtain⟨us,h1,h2,h3,h4⟩:=C.ED;exact⟨C.tot,⟨us,h1.ext e,h2,h3,h4⟩,C.Ep,C.Au,C.oks,C.IZ⟩
 ·intro id M N O L1 L2 g Y hb2 hl1 hl2 G I hg1 hg2
  by_cases q:id=k
  ·by_cases A : M = k
   ·rw[q,A]
   ·exfalso;subst q;simp only[Sg.put,if_true]at G;cases G;simp only[Sg.put,A,if_false]at I
    grind
  ·by_cases A : M = k
   ·exfalso;subst A;simp only[Sg.put,if_true]at I;cases I;simp only[Sg.put,q,if_false]at G
    grind
   ·simp only[Sg.put,q,A,if_false]at G I;exact h.apart id M N O L1 L2 g (D id N q Y) (D M O A hb2) hl1 hl2 G I hg1 hg2
 ·intro b c hc id bx' F hb hl z J
  by_cases q:id=k
  ·exfalso;subst q;simp only[Sg.put,if_true]at z;cases z;exact hfz b c J hc
  ·simp only[Sg.put,q,if_false]at z;exact h.floor b c hc id bx' F (D id bx' q hb) hl z J
 ·intro id bx' hb hl
  by_cases q:id=k
  ·simp_all
  ·exact h.low id bx' (D id bx' q hb) hl
 ·obtain⟨k1,k2,k3,k4⟩:=h.kept b hb;refine⟨k1,k2,fun id F z J =>?_,k4⟩
  by_cases q:id=k
  ·subst q;simp only[Sg.put,if_true]at z
   simp_all
  ·simp only[Sg.put,q,if_false]at z;exact k3 id F z J
theorem Inv.upd {B w0 σ H w w'} (h:Inv B w0 σ H w) {id:Nat} {bx:Box} {L:Loc} (hb:H[id]? = some bx) (hl:bx.live=true) (S:σ.box id=some L)
  (hg:w.grownBy w' L.v.ownBlock) (bx' : Box) (hlive:bx'.live=true) (F : Loc) (hesz:F.Au=L.Au) (htot:F = L\/L.tot<F.tot) (hfl:bx'.floor=bx.floor) (hlen' : bx.xs.length<=bx'.xs.length)
  (N:∀g,F.v.ownBlock=some g->L.v.ownBlock=some g\/w.heap.size<=g)
  (hkeep:∀g c,L.v.ownBlock=some g->c<bx.floor*L.Au->w'.cell? ⟨g,c,none⟩=w.cell? ⟨g,c,none⟩)
  (hok:Ext σ w (σ.put id F) w' -> Ky (σ.put id F) w' B bx' F) :
  Inv B w0 (σ.put id F) (H.set id bx') w' /\ Ext σ w (σ.put id F) w' :=by
 have hlen:id<H.length:=h.Z5a S;obtain⟨L0,hL0,hok0⟩:=h.boxes id bx hb hl;rw[S]at hL0;cases hL0;have J:∀b c,σ.fz b c->w'.cell? ⟨b,c,none⟩=w.cell? ⟨b,c,none⟩:=by
  intro b c hc;obtain⟨u,hu⟩:=h.cells b c hc
  by_cases Q:L.v.ownBlock=some b
  ·exact hkeep b c Q (h.floor b c hc id bx L hb hl S Q)
  ·exact World.cell?_of_block (hg.block b (cell_lt hu) (fun hh=>Q hh.symm))
 have e:Ext σ w (σ.put id F) w' :=by
  refine⟨fun i G q=>?_,fun b c hc=>⟨hc,J b c hc⟩,fun g es c hm=>(hg.block g (Array.getElem?_eq_some_iff.1 hm).1 (fun hh=>hok0.ZFs hh.symm hm)).trans hm⟩
  by_cases z:i=id
  ·subst z;rw[S]at q;cases q;exact⟨F,by simp[Sg.put],hesz,htot⟩
  ·exact⟨G,by simp[Sg.put,z,q],rfl,.inl rfl⟩
 have C:∀i b,i≠id->(H.set id bx')[i]? = some b->H[i]? = some b:=by
  intro i b z hh;rw[List.getElem?_set_ne (fun e=>z e.symm)]at hh;exact hh
 have M:(H.set id bx')[id]? = some bx' :=by simp[hlen]
 refine⟨⟨?_,Nat.le_trans h.size hg.size,?_,?_,?_,?_,?_,?_,h.old,fun b hb=>?_⟩,e⟩
 ·exact h.below.grown hg h.size (fun k hk=>(hok0.block_lt hk).1)
 ·intro i G q
  by_cases z:i=id
  ·simp_all
  ·simp only[Sg.put,z,if_false]at q;obtain⟨b1,c1,c2⟩:=h.dom i G q
   grind
 ·intro i b A D
  by_cases z:i=id
  ·subst z;rw[M]at A;cases A;exact⟨F,by simp[Sg.put],hok e⟩
  ·have hib' :=C i b z A;obtain⟨G,q,hoki⟩:=h.boxes i b hib' D;refine⟨G,by simp[Sg.put,z,q],hoki.kept e hg ?_⟩;cases hLb:G.v.ownBlock with
   | none=>exact .inl rfl
   | some g=>
    right;intro hh;exact z (h.apart i id b bx G L g hib' hb D hl q S hLb hh.symm)
 ·intro i j b1 b2 L1 L2 g h1 h2 l1 l2 s1 s2 g1 g2
  by_cases z:i=id
  ·by_cases hj:j=id
   ·rw[z,hj]
   ·exfalso;subst z;simp only[Sg.put,if_true]at s1;cases s1;simp only[Sg.put,hj,if_false]at s2;have h2' :=C j b2 hj h2;obtain⟨L3,I,O⟩:=h.boxes j b2 h2' l2;rw[s2]at I;cases I;rcases N g g1 with hh|hh
    ·exact hj (h.apart j i b2 bx L2 L g h2' hb l2 hl s2 S g2 hh)
    ·have:=(O.block_lt g2).2;omega
  ·by_cases hj:j=id
   ·exfalso;subst hj;simp only[Sg.put,if_true]at s2;cases s2;simp only[Sg.put,z,if_false]at s1;have h1' :=C i b1 z h1;obtain⟨L3,I,O⟩:=h.boxes i b1 h1' l1;rw[s1]at I;cases I;rcases N g g2 with hh|hh
    ·exact z (h.apart i j b1 bx L1 L g h1' hb l1 hl s1 S g1 hh)
    ·have:=(O.block_lt g1).2;omega
   ·simp only[Sg.put,z,hj,if_false]at s1 s2;exact h.apart i j b1 b2 L1 L2 g (C i b1 z h1) (C j b2 hj h2) l1 l2 s1 s2 g1 g2
 ·intro b c hc;obtain⟨u,hu⟩:=h.cells b c hc;exact⟨u,(J b c hc).trans hu⟩
 ·intro b c hc i b' G A D q Y
  by_cases z:i=id
  ·subst z;rw[M]at A;cases A;simp only[Sg.put,if_true]at q;cases q;rw[hfl,hesz];rcases N b Y with hh|hh
   ·exact h.floor b c hc i bx L hb hl S hh
   ·obtain⟨u,hu⟩:=h.cells b c hc;have:=cell_lt hu;omega
  ·simp only[Sg.put,z,if_false]at q;exact h.floor b c hc i b' G (C i b' z A) D q Y
 ·intro i b' A D
  by_cases z:i=id
  ·subst z;rw[M]at A;cases A;rw[hfl];exact Nat.le_trans (h.low i bx hb hl) hlen'
  ·exact h.low i b' (C i b' z A) D
 ·obtain⟨k1,k2,k3,k4⟩:=h.kept b hb;refine⟨Nat.lt_of_lt_of_le k1 hg.size,(hg.block b k1 (fun hh=>k3 id L S hh.symm)).trans k2,fun i G q Y=>?_,k4⟩
  by_cases z:i=id
  ·subst z;simp only[Sg.put,if_true]at q
   grind
  ·simp only[Sg.put,z,if_false]at q;exact k3 i G q Y
end Go.Proofs.YtjodhcdmhobmoaaGreatDoor.Le
namespace Go.Proofs.YtjodhcdmhobmoaaGreatDoor.Le
open Go.RowKit (Below)
theorem flat_nil:flat []=[]:=rfl
theorem MF (u:Value) (us:List Value):flat (u::us)=u.cells.toList++flat us:=rfl
theorem PI (us vs:List Value):flat (us++vs)=flat us++flat vs:=by simp[flat]
theorem flat_length {us:List Value} {e:Nat} (h:∀u∈us,u.cells.size=e):(flat us).length=us.length*e:=by
 induction us with
 | nil=>simp[flat_nil]
 | cons u us q=>
  rw[MF,List.length_append,q (fun v hv=>h v (by simp[hv]))]
  grind
theorem vN {us:List Value} {e:Nat} (h:∀u∈us,u.cells.size=e) (k:Nat):∀u∈us.drop k,u.cells.size=e:=fun u hu=>h u (List.mem_of_mem_drop hu)
theorem iD {us:List Value} {e:Nat} (h:∀u∈us,u.cells.size=e) (k:Nat):∀u∈us.take k,u.cells.size=e:=fun u hu=>h u (List.mem_of_mem_take hu)
theorem Z3J {us:List Value} {e:Nat} (h:∀u∈us,u.cells.size=e) (k:Nat):flat (us.drop k)=(flat us).drop (k*e):=by
 induction us generalizing k with
 | nil=>simp[flat_nil]
 | cons u us A=>
  cases k with
  | zero=>simp
  | succ k=>
   have hu:=h u (by simp);rw[List.drop_succ_cons,A (fun v hv=>h v (by simp[hv])),MF,Nat.add_mul,Nat.one_mul,List.drop_append];have q:k*e+e - u.cells.toList.length=k*e:=by simp[hu]
   have z:u.cells.toList.drop (k*e+e)=[]:=by apply List.drop_eq_nil_of_le;simp[hu]
   rw[q,z,List.nil_append]
theorem jH {us:List Value} {e:Nat} (h:∀u∈us,u.cells.size=e) (k:Nat):flat (us.take k)=(flat us).take (k*e):=by
 induction us generalizing k with
 | nil=>simp[flat_nil]
 | cons u us q=>
  cases k with
  | zero=>simp[flat_nil]
  | succ k=>
   have hu:=h u (by simp);rw[List.take_succ_cons,MF,q (fun v hv=>h v (by simp[hv])),MF,Nat.add_mul,Nat.one_mul,List.take_append]
   grind
theorem Z4w {us:List Value} {e:Nat} (h:∀u∈us,u.cells.size=e) (off len:Nat):flat ((us.drop off).take len)=((flat us).drop (off*e)).take (len*e):=by
 rw[jH (vN h off),Z3J h]
theorem ZDl {us:List Value} {e:Nat} (h:∀u∈us,u.cells.size=e) {i:Nat} {u:Value} (hu:us[i]? = some u):∀j,j<e->(flat us)[i*e+j]? = u.cells.toList[j]?:=by
 induction us generalizing i with
 | nil=>simp at hu
 | cons v us z=>
  intro j q;have hv:=h v (by simp);cases i with
  | zero=>
   simp at hu;subst hu;rw[MF,Nat.zero_mul,Nat.zero_add,List.getElem?_append_left (by simp[hv];exact q)]
  | succ i=>
   simp at hu;have:=z (fun v hv=>h v (by simp[hv])) hu j q;rw[MF,List.getElem?_append_right (by simp[hv,Nat.add_mul];omega),<- this]
   grind
theorem Z4z {us:List Value} {e:Nat} (h:∀u∈us,u.cells.size=e) {i:Nat} {u q : Value} (hu:us[i]? = some u) (z : q.cells.size=e) :
  flat (us.set i q)=(flat us).take (i*e)++q.cells.toList++(flat us).drop (i*e+e):=by
 induction us generalizing i with
 | nil=>simp at hu
 | cons v us A=>
  have hv:=h v (by simp);cases i with
  | zero=>
   simp at hu;subst hu;rw[List.set_cons_zero,MF,MF];simp[hv]
  | succ i=>
   simp at hu;rw[List.set_cons_succ,MF,A (fun v hv=>h v (by simp[hv])) hu,MF,Nat.add_mul,Nat.one_mul];rw[List.take_append,List.drop_append];have C:i*e+e - v.cells.toList.length=i*e:=by simp[hv]
   have D:v.cells.toList.take (i*e+e)=v.cells.toList:=by apply List.take_of_length_le;simp[hv]
   simp_all
theorem Z4b {us:List Value} (h:∀u∈flat us,u.oneCell' = true) (k:Nat):∀u∈flat (us.drop k),u.oneCell' = true:=by
 intro u hu;apply h;simp only[flat,List.mem_flatMap]at hu ⊢
 grind
theorem xB {us:List Value} (h:∀u∈flat us,u.oneCell' = true) (k:Nat):∀u∈flat (us.take k),u.oneCell' = true:=by
 intro u hu;apply h;simp only[flat,List.mem_flatMap]at hu ⊢
 grind
def fzOf (σ:Sg) (H:Heap) (ids:List Nat) (b c:Nat):Prop:=
 ∃id bx L,id∈ids/\H[id]? = some bx/\bx.live=true/\σ.box id=some L/\L.v.ownBlock=some b/\c<bx.xs.length*L.Au
def Sg.freeze (σ:Sg) (H:Heap) (ids:List Nat):Sg:={ σ with fz:=fun b c=>σ.fz b c\/fzOf σ H ids b c }
theorem ML (H:Heap) (ids:List Nat) (i:Nat):(bump H ids)[i]? = (H[i]?).map fun b=>if i∈ids then { b with floor:=b.xs.length } else b:=by
 induction ids generalizing H with
 | nil=>simp[bump]
 | cons k ks q=>
  rw[bump,q,List.getElem?_modify]
  grind
theorem bump_length (H:Heap) (ids:List Nat):(bump H ids).length=H.length:=by
 induction ids generalizing H with
 | nil=>rfl
 | cons k ks q=>rw[bump,q];simp
theorem ZwQ (H:Heap) (ids:List Nat) (k:Nat):Fv (bump H ids) k=Fv H k:=by
 unfold Fv;rw[ML,bump_length]
 grind
theorem Zb2 {w:World} {B:Nat} {e:TypeId} {Au:Nat} {v:Value} {n:Nat} {xs:List Value} {g:Nat} (h:GR w B e Au v n xs) (q:v.ownBlock=some g) :
  ∀j u,xs[j]? = some u->w.cell? ⟨g,j,none⟩=some u:=by
 intro j u hu;have:=h.cells q j u hu;rw[Addr.add_mid,Nat.zero_add]at this;exact this
theorem Inv.freeze {B w0 σ H w} (h:Inv B w0 σ H w) (ids:List Nat):Inv B w0 (σ.freeze H ids) (bump H ids) w/\Ext σ w (σ.freeze H ids) w:=by
 have e:Ext σ w (σ.freeze H ids) w:=⟨fun id L D=>⟨L,D,rfl,.inl rfl⟩,fun b c hc=>⟨.inl hc,rfl⟩,Ec.refl _⟩;have A:∀i b,(bump H ids)[i]? = some b->∃b0,H[i]? = some b0/\b.live=b0.live/\b.xs=b0.xs/\b.elem=b0.elem/\b.Au=b0.Au/\b.Ep=b0.Ep/\b.row=b0.row/\(b.floor=if i∈ids then b0.xs.length else b0.floor):=by
  intro i b hb;rw[ML]at hb;cases hh:H[i]? with
  | none=>simp[hh]at hb
  | some b0=>
   grind
 refine⟨⟨h.below,h.size,fun id L D=>by
  obtain⟨b1,c1,c2⟩:=h.dom id L D;exact⟨if id∈ids then { b1 with floor:=b1.xs.length } else b1,by rw[ML,c1];rfl,by split<;>exact c2⟩,?_,?_,?_,?_,?_,?_,?_⟩,e⟩
 ·intro id bx hb hl;obtain⟨b0,J,S,M,h3,h4,h5,h6,_⟩:=A id bx hb;obtain⟨L,D,q⟩:=h.boxes id b0 J (by rw[<- S];exact hl);obtain⟨us,r1,r2,r3,r4⟩:=q.ED;refine⟨L,D,⟨by rw[M];exact q.tot,⟨us,?_,r2,r3,?_⟩,by rw[h5];exact q.Ep,by rw[h4];exact q.Au,by rw[M];exact q.oks,fun hr=>by rw[M];exact q.IZ (by rw[<- h6];exact hr)⟩⟩
  ·rw[M];exact r1.ext e
  simp_all
 ·intro i j b1 b2 L1 L2 g S M l1 l2 s1 s2 g1 g2;obtain⟨c1,k1,k2,_⟩:=A i b1 S;obtain⟨c2,m1,m2,_⟩:=A j b2 M;exact h.apart i j c1 c2 L1 L2 g k1 m1 (by rw[<- k2];exact l1) (by rw[<- m2];exact l2) s1 s2 g1 g2
 ·intro b c hc;rcases hc with hc|⟨id,bx,L,_,hb,hl,D,hg,G⟩
  ·exact h.cells b c hc
  ·obtain⟨L',z,q⟩:=h.boxes id bx hb hl;rw[D]at z;cases z;obtain⟨us,r1,r2,r3,r4⟩:=q.ED;have hlen:c<(flat us).length:=by rw[r4.1];exact G
   exact⟨_,Zb2 r4 hg c _ (List.getElem?_eq_getElem hlen)⟩
 ·intro b c hc i bx L hb hl D hg;obtain⟨b0,J,S,M,h3,h4,h5,_,h6⟩:=A i bx hb;have Q:b0.live=true:=by rw[<- S];exact hl
  rcases hc with hc|⟨id,I,L',Y,C,O,z,N,G⟩
  ·have:=h.floor b c hc i b0 L J Q D hg;rw[h6];split
   ·obtain⟨L2,F,q⟩:=h.boxes i b0 J Q;rw[show σ.box i=some L from D]at F;cases F;obtain⟨u,hu⟩:=h.cells b c hc;exact Nat.lt_of_lt_of_le this (Nat.mul_le_mul_right _ (h.low i b0 J Q))
   ·exact this
  ·have hi:id=i:=h.apart id i I b0 L' L b C J O Q z D N hg;subst hi;rw[J]at C;cases C;rw[show σ.box id=some L from D]at z;cases z;rw[h6,if_pos Y];exact G
 ·intro i bx hb hl;obtain⟨b0,J,S,M,h3,h4,h5,_,h6⟩:=A i bx hb;rw[h6,M];split
  ·exact Nat.le_refl _
  ·exact h.low i b0 J (by rw[<- S];exact hl)
 ·intro b c hc G;rcases hc with hc|⟨id,I,L',Y,C,O,z,N,hlt'⟩
  ·exact h.old b c hc G
  ·obtain⟨L2,F,q⟩:=h.boxes id I C O;rw[show σ.box id=some L' from z]at F;cases F;have:=(q.block_lt N).1;omega
 ·intro b hb;obtain⟨k1,k2,k3,k4⟩:=h.kept b hb;refine⟨k1,k2,k3,fun c hc=>?_⟩;rcases hc with hc|⟨id,I,L',Y,C,O,z,N,hlt'⟩
  ·exact k4 c hc
  grind
end Go.Proofs.YtjodhcdmhobmoaaGreatDoor.Le
namespace Go.Proofs.YtjodhcdmhobmoaaGreatDoor.Le
open Go.RowKit (Below)
theorem X4 {H:Heap} {id tot:Nat} {b:Box} (h:Dn H id tot=some b):H[id]? = some b/\b.live=true/\b.xs.length=tot:=by
 unfold Dn at h
 grind
structure Met (B:Nat) (w0:Start) (σ:Sg) (H:Heap) (w:World) (id:Nat) (b:Box) (L:Loc) (us:List Value):Prop where
 hb:H[id]? = some b
 live:b.live=true
 box:σ.box id=some L
 tot:L.tot=b.xs.length
 ED:AV σ w b.xs us
 sizes:∀u∈us,u.cells.size=L.Au
 ones:∀u∈flat us,u.oneCell' = true
 own:GR w B b.elem L.Au L.v b.xs.length (flat us)
 Ep:b.Ep=true->L.v = .slice none 0 0
 Au:b.Au=L.Au
 oks:∀x∈b.xs,okV x=true
 IZ:b.row=true->∀x∈b.xs,DC x=true
 shape:(L.v = .slice none 0 0/\b.xs=[]/\us=[])\/∃g cap cur tg,L.v = .slice (some ⟨g,0,none⟩) b.xs.length cap/\B<=g/\w.heap[g]? = some (.cells cur b.elem tg)/\noMark tg cur.size/\b.xs.length<=cap/\cap<=maxLen/\cur.size=cap*L.Au/\cur.toList.take (b.xs.length*L.Au)=flat us
theorem Inv.meet {B w0 σ H w} (h:Inv B w0 σ H w) {id:Nat} {b:Box} (hb:H[id]? = some b) (hl:b.live=true):∃L us,Met B w0 σ H w id b L us:=by
 obtain⟨L,G,q⟩:=h.boxes id b hb hl;obtain⟨us,D,N,O,F⟩:=q.ED;refine⟨L,us,hb,hl,G,q.tot,D,N,O,F,q.Ep,q.Au,q.oks,q.IZ,?_⟩;rcases F.2 with ⟨hv,A⟩|⟨g,cap,z,Q,hv,I,J,C,A,hm,hs,M⟩
 ·have hx:b.xs=[]:=List.eq_nil_of_length_eq_zero A;refine .inl ⟨hv,hx,?_⟩;rw[hx]at D;exact D.Fa
 ·exact .inr ⟨g,cap,z,Q,hv,I,J,C,A,hm,hs,M⟩
theorem Met.fz {B w0 σ H w id b L us} (m:Met B w0 σ H w id b L us) (hr:b.row=true):∀x∈b.xs,FM x=true:=fun x hx=>by
 simp[FM,m.oks x hx,m.IZ hr x hx]
theorem Met.len {B w0 σ H w id b L us} (m:Met B w0 σ H w id b L us):us.length=b.xs.length:=m.ED.length.symm
theorem Met.cell {B w0 σ H w id b L us} (m:Met B w0 σ H w id b L us) {g:Nat} (q:L.v.ownBlock=some g):∀j u,(flat us)[j]? = some u->w.cell? ⟨g,j,none⟩=some u:=
 Zb2 m.own q
theorem PT {B w0 σ H w} (h:Inv B w0 σ H w) {id off len tot:Nat} {v:Value} {b:Box} (hr:AV σ w [.Bi id off len tot] [v]) (hb:Dn H id tot=some b) :
  ∃L us,Met B w0 σ H w id b L us/\b.xs.length=tot/\off+len<=tot/\ZhP L.v L.Au off len v /\
   ((L.v = .slice none 0 0/\v = .slice none 0 0/\off=0/\len=0/\tot=0) \/
    ∃g cap k,L.v = .slice (some ⟨g,0,none⟩) tot cap/\v = .slice (some ⟨g,k*L.Au,none⟩) len (cap - off)/\tot<=cap/\cap<=maxLen/\k<=off/\(off<cap->k=off)):=by
 obtain⟨M,N,z⟩:=X4 hb;obtain⟨L,us,m⟩:=h.meet M N;cases hr with
 | Bi k1 k2 k3 k4 _=>
  rename_i S;rw[m.box]at k1;cases k1;have q:L.tot=tot:=m.tot.trans z;obtain⟨A,hs⟩:=k3 q;refine⟨L,us,m,z,A,hs,?_⟩;obtain⟨a,n,c,k,C,G,Y,I,J⟩:=hs;rcases m.shape with ⟨hv,hx,hu⟩|⟨g,cap,F,tg,hv,hg,hh,Q,D,hm,O,ht⟩
  ·grind
  ·right;rw[hv]at C;cases C;rw[z]at hv D;refine⟨g,_,k,hv,?_,D,hm,I,J⟩;rw[G];simp[Addr.add_mid]
theorem wS {σ w es us} (h:AV σ w es us) (off len:Nat):AV σ w ((es.drop off).take len) ((us.drop off).take len):=(h.drop off).take len
theorem wL {B w0 σ H w} (h:Inv B w0 σ H w) {x M : V} {v:Value} (hr:AV σ w [x] [v]) (hf:Ia H x=some M) (ids:List Nat) (C:∀i∈F7 x,i∈ids) :
  AV (σ.freeze H ids) w [M] [v]:=by
 have e:=(h.freeze ids).2;unfold Ia at hf;split at hf
 ·cases hf;exact hr.ext e
 ·cases hf;exact hr.ext e
 ·cases hf;refine AV.ext ?_ e;cases hr with
  | Gl _=>exact .Eo .nil
  | Gv a _=>exact .GI a .nil
  | DU b o _ k0 k1 k2 k3 k4 k5 _=>exact .sl b o _ _ k0 k1 k2 k3 (Nat.le_refl _) k4 k5 .nil
 ·rename_i id off len tot;split at hf
  ·rename_i b hb;split at hf
   ·rename_i hc;simp only[Bool.and_eq_true,decide_eq_true_eq]at hc;simp only[Option.some.injEq]at hf;subst hf;obtain⟨L,us,m,Y,S,hs,z⟩:=PT h hr hb;rcases z with ⟨hv,A,ho,hl,ht⟩|⟨g,cap,k,hv,A,O,Q,N,G⟩
    ·have hx:b.xs=[]:=List.eq_nil_of_length_eq_zero (by omega);rw[hx,A];simp only[List.drop_nil,List.take_nil];exact .Eo .nil
    ·rw[m.Au,A];have D:((b.xs.drop off).take len).length=len:=by simp;omega
     have F:=AV.sl (σ:=σ.freeze H ids) (w:=w) (xs:=[]) (vs:=[]) (es:=(b.xs.drop off).take len) (us:=(us.drop off).take len) g (k*L.Au) (cap - off) L.Au
      ((wS m.ED off len).ext e) (fun x hx=>m.fz hc.1 x (List.mem_of_mem_drop (List.mem_of_mem_take hx))) (iD (vN m.sizes off) len) (xB (Z4b m.ones off) len) (by rw[D];omega) (by omega) ?_ .nil
     ·simp_all
     ·intro j u hu;rw[Z4w m.sizes]at hu;have J:j<len*L.Au:=by
       have:=(List.getElem?_eq_some_iff.1 hu).1;simp at this;omega
      rw[List.getElem?_take,if_pos J,List.getElem?_drop]at hu;have I:0<len:=by
       cases len with
       | zero=>simp at J
       | succ n=>omega
      have hk:k=off:=G (by omega);subst hk;have q:L.v.ownBlock=some g:=by rw[hv];rfl
      refine⟨.inr ⟨id,b,L,C id (by simp[F7]),m.hb,m.live,m.box,q,?_⟩,m.cell q _ _ hu⟩;have:=(List.getElem?_eq_some_iff.1 hu).1;rw[flat_length m.sizes,m.len]at this;exact this
   ·cases hf
  ·cases hf
 ·cases hf;exact hr.ext e
 ·cases hf;exact hr.ext e
 ·cases hf
theorem Ze3 {B w0 σ H w} (h:Inv B w0 σ H w) {x z : V} {v:Value} (hr:AV σ w [x] [v]) (hf:Ia H x=some z):DC z = true:=by
 unfold Ia at hf;split at hf
 ·cases hf;rfl
 ·cases hf;cases hr with
  | Eo _=>rfl
  | GI a _=>rfl
  | sl b o c A _ q C D F G I _=>exact QZ q
 ·cases hf;cases hr with
  | Gl _=>rfl
  | Gv a _=>rfl
  | DU b o A _ q C D F G _=>exact QZ q
 ·rename_i id off len tot;split at hf
  ·rename_i b hb;split at hf
   ·rename_i hc;simp only[Bool.and_eq_true,decide_eq_true_eq]at hc;simp only[Option.some.injEq]at hf;subst hf;obtain⟨L,us,m,_⟩:=PT h hr hb;exact(Lm _).2 fun x hx=>m.IZ hc.1 x (List.mem_of_mem_drop (List.mem_of_mem_take hx))
   ·cases hf
  ·cases hf
 ·cases hf;rfl
 ·cases hf;rfl
 ·cases hf
theorem Zyh {B w0 σ H w} (h:Inv B w0 σ H w) {xs q : List V} {vs:List Value} (hr:AV σ w xs vs) (hf:KE H xs=some q):CS q = true:=by
 induction xs generalizing q vs with
 | nil=>simp only[KE,Option.some.injEq]at hf;subst hf;rfl
 | cons x xs D=>
  obtain⟨v,F,rfl,A,C⟩:=hr.EN;simp only[KE]at hf;split at hf
  ·rename_i G ws hw z;simp only[Option.some.injEq]at hf;subst hf;simp[CS,Ze3 h A hw,D C z]
  ·cases hf
theorem vS {B w0 σ H w} (h:Inv B w0 σ H w) {x q : V} {v:Value} (hr:AV σ w [x] [v]) (hf:Ic H x=some q):DC q = true:=by
 unfold Ic at hf;split at hf
 ·rename_i cs;cases hr with
  | agg A C _=>
   cases hl:KE H cs with
   | none=>simp[hl]at hf
   | some z =>
    simp only[hl,Option.map_some,Option.some.injEq]at hf;subst hf;exact Zyh h A hl
 ·exact Ze3 h hr hf
theorem bY {B w0 σ H w} (h:Inv B w0 σ H w) {xs q : List V} {vs:List Value} (hr:AV σ w xs vs) (hf:Fg H xs=some q):CS q = true:=by
 induction xs generalizing q vs with
 | nil=>simp only[Fg,Option.some.injEq]at hf;subst hf;rfl
 | cons x xs D=>
  obtain⟨v,F,rfl,A,C⟩:=hr.EN;simp only[Fg]at hf;split at hf
  ·rename_i G ws hw z;simp only[Option.some.injEq]at hf;subst hf;simp[CS,vS h A hw,D C z]
  ·cases hf
theorem ZAM {B w0 σ H w} (h:Inv B w0 σ H w) {xs z : List V} {vs:List Value} (hr:AV σ w xs vs) (hf:KE H xs=some z) (ids:List Nat) (q:∀i∈xs.flatMap F7,i∈ids) :
  AV (σ.freeze H ids) w z vs:=by
 induction xs generalizing z vs with
 | nil=>
  cases hr.Fa;simp only[KE,Option.some.injEq]at hf;subst hf;exact .nil
 | cons x xs G=>
  obtain⟨v,I,rfl,D,F⟩:=hr.EN;simp only[KE]at hf;split at hf
  ·rename_i J ws hw A;simp only[Option.some.injEq]at hf;subst hf;refine AV.FZ.2 ⟨wL h D hw ids (fun i C=>q i (by simp[C])),G F A (fun i C=>q i ?_)⟩
   simp_all
  ·cases hf
theorem wY {B w0 σ H w} (h:Inv B w0 σ H w) {x z : V} {v:Value} (hr:AV σ w [x] [v]) (hf:Ic H x=some z) (ids:List Nat) (q:∀i∈EF x,i∈ids) :
  AV (σ.freeze H ids) w [z] [v]:=by
 unfold Ic at hf;split at hf
 ·rename_i cs;cases hr with
  | agg C F _=>
   cases hl:KE H cs with
   | none=>simp[hl]at hf
   | some A =>
    simp only[hl,Option.map_some,Option.some.injEq]at hf;subst hf;exact .agg (ZAM h C hl ids (by simpa[EF]using q)) F .nil
 ·rename_i D;refine wL h hr hf ids (fun i G=>q i ?_);cases x<;>simp_all [EF,F7]
theorem tN {B w0 σ H w} (h:Inv B w0 σ H w) {xs z : List V} {vs:List Value} (hr:AV σ w xs vs) (hf:Fg H xs=some z) (ids:List Nat) (q:∀i∈xs.flatMap EF,i∈ids) :
  AV (σ.freeze H ids) w z vs:=by
 induction xs generalizing z vs with
 | nil=>
  cases hr.Fa;simp only[Fg,Option.some.injEq]at hf;subst hf;exact .nil
 | cons x xs G=>
  obtain⟨v,I,rfl,D,F⟩:=hr.EN;simp only[Fg]at hf;split at hf
  ·rename_i J ws hw A;simp only[Option.some.injEq]at hf;subst hf;refine AV.FZ.2 ⟨wY h D hw ids (fun i C=>q i (by simp[C])),G F A (fun i C=>q i ?_)⟩
   simp_all
  ·cases hf
theorem Z23 {σ w x v} (e:Nat) (h:AV σ w [x] [v]):AV σ w [Gt e x] [v]:=by
 unfold Gt;split
 ·cases h with
  | Eo _=>exact .Eo .nil
 ·exact h
theorem Zt5 {σ w}:∀(es:List Nat) {xs:List V} {vs:List Value},AV σ w xs vs->AV σ w (Gg es xs) vs:=by
 intro es;induction es with
 | nil=>intro xs vs h;simpa[Gg]using h
 | cons e es A=>
  intro xs vs h;cases xs with
  | nil=>simpa[Gg]using h
  | cons x xs=>
   obtain⟨v,C,rfl,q,z⟩:=h.EN;exact AV.FZ.2 ⟨Z23 e q,A z⟩
theorem Un {σ w x v} (es:List Nat) (h:AV σ w [x] [v]):AV σ w [ES es x] [v]:=by
 unfold ES;split
 ·cases h with
  | agg q z _=>exact .agg (Zt5 es q) z .nil
 ·exact Z23 _ h
theorem Zrn {σ w} (es:List Nat) {xs:List V} {vs:List Value} (h:AV σ w xs vs):AV σ w (xs.map (ES es)) vs:=by
 induction xs generalizing vs with
 | nil=>simpa using h
 | cons x xs A=>
  obtain⟨v,C,rfl,q,z⟩:=h.EN;exact AV.FZ.2 ⟨Un es q,A z⟩
theorem Z1q {σ w} (rows:TypeId->List Nat):∀(ts:List TypeId) {xs:List V} {vs:List Value},AV σ w xs vs->AV σ w (Gs rows ts xs) vs:=by
 intro ts;induction ts with
 | nil=>intro xs vs h;simpa[Gs]using h
 | cons t ts A=>
  intro xs vs h;cases xs with
  | nil=>simpa[Gs]using h
  | cons x xs=>
   obtain⟨v,C,rfl,q,z⟩:=h.EN;exact AV.FZ.2 ⟨Un _ q,A z⟩
theorem ZaR (e:Nat) (x:V):DC (Gt e x)=DC x:=by
 unfold Gt;split<;>simp[DC]
theorem ZqT:∀(es:List Nat) (xs:List V),CS (Gg es xs)=CS xs:=by
 intro es;induction es with
 | nil=>intro xs;simp[Gg]
 | cons e es q=>intro xs;cases xs<;>simp[Gg,CS,ZaR,q]
theorem Ui (es:List Nat) (x:V):DC (ES es x)=DC x:=by
 unfold ES;split
 ·simp[DC,ZqT]
 ·exact ZaR _ _
theorem qE (rows:TypeId->List Nat):∀(ts:List TypeId) (xs:List V),CS (Gs rows ts xs)=CS xs:=by
 intro ts;induction ts with
 | nil=>intro xs;simp[Gs]
 | cons t ts q=>intro xs;cases xs<;>simp[Gs,CS,Ui,q]
theorem Zwz (e:Nat) (x:V):okV (Gt e x)=okV x:=by
 unfold Gt;split<;>simp[okV]
theorem wH (es:List Nat) (x:V):okV (ES es x)=okV x:=by
 unfold ES;split
 ·simp[okV]
 ·exact Zwz _ _
theorem ZoS:∀(es:List Nat) (xs:List V),(Gg es xs).length=xs.length:=by
 intro es;induction es with
 | nil=>intro xs;simp[Gg]
 | cons e es q=>intro xs;cases xs<;>simp[Gg,q]
theorem ZtH (e:Nat) (x:V):(Gt e x).cells.length=x.cells.length:=by
 unfold Gt;split<;>simp[V.cells]
theorem ZvY (es:List Nat) (x:V):(ES es x).cells.length=x.cells.length:=by
 unfold ES;split
 ·simp[V.cells,ZoS]
 ·exact ZtH _ _
theorem AV.cells {σ w x v} (h:AV σ w [x] [v]) (F:okV x=true):AV σ w x.cells v.cells.toList/\(∀u∈v.cells.toList,u.oneCell' = true):=by
 cases h with
 | und u h=>simp[okV]at F
 | no h=>simp[okV]at F
 | BH _ h=>simp[okV]at F
 | GU _ _ _ _ _ _ _=>simp[okV]at F
 | agg q z _=>exact⟨by simpa[V.cells,Value.cells]using q,by simpa[Value.cells]using z⟩
 | lit hl _=>
  cases v<;>simp[leaf]at hl<;>simp[V.cells,Value.cells,Value.oneCell']<;>exact .lit (by simp[leaf,hl]) .nil
 | Eo h=>exact⟨.Eo .nil,by simp[Value.cells,Value.oneCell']⟩
 | Gl h=>exact⟨.Gl .nil,by simp[Value.cells,Value.oneCell']⟩
 | GI a h=>exact⟨.GI a .nil,by simp[Value.cells,Value.oneCell']⟩
 | Gv a h=>exact⟨.Gv a .nil,by simp[Value.cells,Value.oneCell']⟩
 | sl b o c e D q z A C G I _=>exact⟨.sl b o c e D q z A C G I .nil,by simp[Value.cells,Value.oneCell']⟩
 | DU b o e D q z A C G _=>exact⟨.DU b o e D q z A C G .nil,by simp[Value.cells,Value.oneCell']⟩
 | Bi q z A C _=>
  obtain⟨a,n,c,rfl⟩:=C;exact⟨.Bi q z A ⟨a,n,c,rfl⟩ .nil,by simp[Value.cells,Value.oneCell']⟩
 | ptr g q z A C _=>
  subst C;exact⟨.ptr g q z A rfl .nil,by simp[Value.cells,Value.oneCell']⟩
 | CQ b o e i off D q z A C _=>exact⟨.CQ b o e i off D q z A C .nil,by simp[Value.cells,Value.oneCell']⟩
 | fn q z _=>exact⟨.fn q z .nil,by simp[Value.cells,Value.oneCell']⟩
 | IG q _=>exact⟨.IG q .nil,by simp[Value.cells,Value.oneCell']⟩
theorem AV.Sm {σ w x v} (h:AV σ w [x] [v]) (q:okV x=true):x.cells.length=v.cells.size:=by
 have:=(h.cells q).1.length;simpa using this
end Go.Proofs.YtjodhcdmhobmoaaGreatDoor.Le
namespace Go.Proofs.YtjodhcdmhobmoaaGreatDoor.Le
open Go.RowKit (Below)
structure DV (E:Env):Prop where
 ti:∀t i,E.ti t=some i->LK E.P t=some i
 func:∀f fn,E.func f=some fn->E.P.funcs[f]? = some fn/\(fn.name == "runtime.NumGoroutine")=false
 mix:E.P.follows .mixedOrders=true
 calm:∀f fn c,E.func f=some fn->fn.body=some c->Ef E f c=true
 kind:∀t k,E.kind t=some k->E.P.underlying t=some (.int k)
 isStr:∀t,E.isStr t=true->E.P.underlying t=some .string
 isBool:∀t,E.isBool t=true->E.P.underlying t=some .bool
 flat:∀t ks,E.flat t=some ks->yL E.P t=some ks
 isBytes:∀t,E.isBytes t=true->∃e,E.P.underlying t=some (.slice e)/\E.P.underlying e=some (.int .u8)
def EH (E:Env) (σ:Sg) (w:World):Prop:=∀g r,E.Ey g=some r->AV σ w [.CQ r.length [.agg r] 0 0] [.pointer (some ⟨g,0,none⟩)]
theorem EH.ext {E σ w σ' w'} (h:EH E σ w) (e:Ext σ w σ' w'):EH E σ' w' :=fun g r q=>(h g r q).ext e
theorem ZcR (σ:Sg) (w:World) (v:Value) (h:YA v=true):AV σ w [P5 v] [v]/\v.oneCell' = true:=by
 unfold P5;split
 ·exact⟨.Eo .nil,rfl⟩
 ·rename_i q;have hl:leaf v=true:=by
   unfold YA at h;split at h
   ·exact absurd rfl q
   ·exact h
  rw[if_pos hl];exact⟨.lit hl .nil,by cases v<;>simp_all [leaf,Value.oneCell']⟩
theorem ZrS (σ:Sg) (w:World) (vs:List Value) (h:vs.all YA=true):AV σ w (vs.map P5) vs/\∀u∈vs,u.oneCell' = true:=by
 induction vs with
 | nil=>exact⟨.nil,by simp⟩
 | cons v vs A=>
  simp only[List.all_cons,Bool.and_eq_true]at h;obtain⟨q,C⟩:=ZcR σ w v h.1;obtain⟨z,D⟩:=A h.2;exact⟨AV.FZ.2 ⟨q,z⟩,by simp_all⟩
theorem dH (σ:Sg) (w:World) (v:Value):AV σ w [Qm v] [v]:=by
 have q:∀u:Value,AV σ w [if YA u then P5 u else .und] [u]:=by
  intro u;split
  ·rename_i h;exact(ZcR σ w u h).1
  ·exact .und _ .nil
 cases v with
 | agg cs=>
  simp only[Qm];split
  ·rename_i h;obtain⟨z,A⟩:=ZrS σ w cs.toList h;have:=AV.agg z A (xs:=[]) (vs:=[]) .nil;simpa using this
  ·exact .und _ .nil
 | tuple vs=>
  simp only[Qm];split
  ·rename_i h;have:vs = #[]:=by simpa using h
   subst this;exact .no .nil
  ·exact .und _ .nil
 | bool b=>exact q (.bool b)
 | int k n=>exact q (.int k n)
 | float k b=>exact q (.float k b)
 | complex k a b=>exact q (.complex k a b)
 | string s=>exact q (.string s)
 | pointer a=>exact q (.pointer a)
 | slice a n c=>exact q (.slice a n c)
 | map r=>exact q (.map r)
 | chan r=>exact q (.chan r)
 | func f a b=>exact q (.func f a b)
 | nilFunc=>exact q .nilFunc
 | iface t v=>exact q (.iface t v)
 | nilIface=>exact q .nilIface
theorem Zeq {σ w s vs} (h:AV σ w s vs) (t:Nat):AV σ w [s.getD t .und] [vs.getD t undef]:=by
 cases hs:s[t]? with
 | none=>simp only[List.getD,hs,Option.getD_none];exact .und _ .nil
 | some x=>
  obtain⟨v,hv,hr⟩:=h.get hs
  simp_all
theorem En {E σ w s} {a:Act} (q:EH E σ w) (h:AV σ w s a.tmps.toList) (x:Operand):AV σ w [ev E s x] [a.eval x]:=by
 cases x with
 | tmp t=>
  have:=Zeq h t;simpa[ev,Act.eval,Array.getD_eq_getD_getElem?,List.getD_eq_getElem?_getD]using this
 | const v=>exact dH σ w v
 | func f=>exact .fn .nil .nil .nil
 | global g=>
  simp only[ev,Act.eval];cases z:E.Ey g with
  | none=>exact .und _ .nil
  | some r=>exact q g r z
theorem wZ {E σ w s} {a:Act} (q:EH E σ w) (h:AV σ w s a.tmps.toList) (xs:List Operand):AV σ w (xs.map (ev E s)) (xs.map a.eval):=by
 induction xs with
 | nil=>exact .nil
 | cons x xs z=>exact AV.FZ.2 ⟨En q h x,z⟩
theorem F9 {P:Program} {t:TypeId} {i:TI} (h:LK P t=some i):∃q d,P.info? t=some q/\P.underlying t=some d/\i.ty=MX d/\i.size=q.size/\i.bytes=q.bytes/\i.zero=q.zero.map Qm:=by
 unfold LK at h
 grind
theorem Z46 {P:Program} {t:TypeId} {d:TypeDesc} (w:World) (h:P.underlying t=some d):(isAgg t).run P w = .ok d.isRow w:=by
 unfold isAgg;rw[Sem.run_bind,run_underlying h w];cases d<;>rfl
theorem Zg4 {i:TI} {d:TypeDesc} (h:i.ty=MX d):i.isAgg=d.isRow:=by
 unfold TI.isAgg;rw[h];cases d<;>rfl
theorem run_sizeOf {P:Program} {t:TypeId} {q:TypeInfo} (w:World) (h:P.info? t=some q):(sizeOf t).run P w = .ok q.size w:=by
 simp[sizeOf,typeInfo,h]
theorem ZeZ {σ w} {cs:List V} {ws:List Value} (h:AV σ w cs ws) (D:∀u∈ws,u.oneCell' = true) {off n:Nat} {z:Bool} {C : V} (hp:partOf cs off n z=some C) :
  (z=true/\off+n<=ws.length/\AV σ w [C] [.agg ((ws.drop off).take n).toArray])\/(z=false/\∃u,ws[off]? = some u/\AV σ w [C] [u]):=by
 unfold partOf at hp;split at hp
 ·rename_i q;split at hp
  ·rename_i A;simp only[Option.some.injEq]at hp;subst hp;refine .inl ⟨q,by rw[<- h.length];exact A,.agg (wS h off n) ?_ .nil⟩
   grind
  ·cases hp
 ·rename_i q;obtain⟨u,hu,hr⟩:=h.get hp
  simp_all
theorem ZeT {E σ w} {P:Program} (hE:DV E) (hP:E.P=P) {t:TypeId} {ti:TI} (Q:E.ti t=some ti) {xs:List V} {us:List Value} {e b o i off:Nat} {x' : V}
  (h:AV σ w xs us) (hk:∀x∈xs,okV x=true) (hs:∀u∈us,u.cells.size=e) (ho:∀u∈flat us,u.oneCell' = true)
  (hc:∀j u,(flat us)[j]? = some u->w.cell? ⟨b,o+j,none⟩=some u) (hr:P7 xs i off ti.size ti.isAgg=some x') :
  ∃u,(loadVar t ⟨b,o+i*e+off,none⟩).run P w = .ok u w/\AV σ w [x'] [u]:=by
 unfold P7 at hr;split at hr
 ·rename_i x hx;obtain⟨uu,hu,Y⟩:=h.get hx;have N:=hk x (List.mem_of_getElem? hx);obtain⟨I,G⟩:=Y.cells N;have O:uu.cells.size=e:=hs uu (List.mem_of_getElem? hu);obtain⟨inf,d,hi,J,h1,h2,h3,h4⟩:=F9 (hE.ti t ti Q);rw[hP]at hi J;have C:=Zg4 h1;have A:∀j u,uu.cells.toList[j]? = some u->w.cell? ⟨b,o+(i*e+j),none⟩=some u:=by
   intro j u hj;have M:j<e:=by
    have:=(List.getElem?_eq_some_iff.1 hj).1;simpa[O]using this
   exact hc _ _ (by rw[ZDl hs hu j M];exact hj)
  rcases ZeZ I G hr with ⟨F,hle,q⟩|⟨F,u,S,q⟩
  ·refine⟨_,run_loadVar_mid (P:=P) w b (o+i*e+off) t _ d ?_ J (by rw[<- C];exact F) ?_,q⟩
   ·intro j v hv
    grind
   grind
  ·refine⟨u,?_,q⟩;have D:d.isRow=false:=by rw[<- C];exact F
   have:=A _ _ S;have z : w.cell? ⟨b,o+i*e+off,none⟩=some u:=by rw[<- this];congr 2;omega
   unfold loadVar;rw[Sem.run_bind,Z46 w J,D];simp[load,Sem.run,z]
 ·cases hr
theorem Zgk {E B w0 σ H w} {P:Program} (D:DV E) (hP:E.P=P) (h:Inv B w0 σ H w) {t:TypeId} {a G : V} {C:Value} (F:AV σ w [a] [C]) (hl:Nz E H t a=some G) :
  ∃u,(Instr.loadAt t C).run P w = .ok u w/\AV σ w [G] [u]:=by
 unfold Nz at hl;split at hl
 ·cases hl
 ·rename_i ti z;split at hl
  ·rename_i e xs j off;cases F with
   | CQ b o e i off k0 k1 k2 k3 k4 _=>
    rename_i us;obtain⟨u,hu,hr⟩:=ZeT D hP z (o:=o) k0 (Z4S k1) k2 k3 (fun j u A=>(k4 j u A).2) hl;exact⟨u,by simp only[Instr.loadAt,Instr.sureAddr,Sem.run_bind,Sem.run_pure,Result.andThen_ok,hu],hr⟩
  ·rename_i id j off tot;split at hl
   ·rename_i b hb;obtain⟨I,J,M⟩:=X4 hb;obtain⟨L,us,m⟩:=h.meet I J;cases F with
    | ptr g k1 k2 k3 k4 _=>
     rename_i N;rw[m.box]at k1;cases k1;obtain⟨n,c,hv⟩:=k3 (m.tot.trans M);have q:L.v.ownBlock=some g:=by rw[hv];rfl
     subst k4;obtain⟨u,hu,hr⟩:=ZeT D hP z (o:=0) (b:=g) m.ED m.oks m.sizes m.ones (fun j u A=>by rw[Nat.zero_add];exact m.cell q j u A) hl;rw[Nat.zero_add]at hu;exact⟨u,by simp only[Instr.loadAt,Instr.sureAddr,Sem.run_bind,Sem.run_pure,Result.andThen_ok,hu],hr⟩
   ·cases hl
  ·cases hl
end Go.Proofs.YtjodhcdmhobmoaaGreatDoor.Le
namespace Go.Proofs.YtjodhcdmhobmoaaGreatDoor.Le
open Go.RowKit (Below)
theorem ZuZ {α:Type} (A U C R q:List α) (off k:Nat) (hk:q.length=k) (F:off+k<=U.length) :
  (A++U++C++R).take (A.length+off)++q++(A++U++C++R).drop (A.length+off+k)=A++(U.take off++q++U.drop (off+k))++C++R:=by
 have z:(A++U++C++R).take (A.length+off)=A++U.take off:=by
  rw[List.append_assoc,List.append_assoc,List.take_append,List.take_of_length_le (by omega)];congr 1;rw[show A.length+off - A.length=off from by omega,List.take_append];rw[show off - U.length=0 from by omega];simp
 have D:(A++U++C++R).drop (A.length+off+k)=U.drop (off+k)++C++R:=by
  rw[List.append_assoc,List.append_assoc,List.drop_append,List.drop_eq_nil_of_le (by omega),List.nil_append];rw[show A.length+off+k - A.length=off+k from by omega,List.drop_append];rw[show off+k - U.length=0 from by omega];simp
 simp_all
theorem ZtV {σ w} {x N : V} {C:Value} {cs:List V} {q:List Value} {off:Nat} (hx:AV σ w [x] [C]) (I:okV x=true) (hc:AV σ w cs q) (S:∀u∈q,u.oneCell' = true)
  (h:Nk x off cs=some N) :
  off+q.length<=C.cells.size/\∃F,AV σ w [N] [F]/\F.cells.toList=C.cells.toList.take off++q++C.cells.toList.drop (off+q.length):=by
 unfold Nk at h;split at h
 ·rename_i ds;split at h
  ·rename_i O;simp only[Option.some.injEq]at h;subst h;cases hx with
   | agg D J h3=>
    rename_i ws;have M:=D.length;have G:=hc.length;refine⟨by simp[Value.cells];omega,.agg (ws.take off++q++ws.drop (off+q.length)).toArray,?_,by simp[Value.cells]⟩;rw[G];refine .agg ((D.take off).append hc |>.append (D.drop _)) ?_ .nil
    grind
  ·cases h
 ·rename_i Q;split at h
  ·rename_i c;simp only[Option.some.injEq]at h;subst h;obtain⟨v,Y,rfl,D,J⟩:=hc.EN;cases J.Fa;have z:C.cells.size=1:=by
    have:=hx.Sm I;cases x<;>simp_all [V.cells]
   have A:v.cells = #[v]:=by
    have:=S v (by simp);cases v<;>simp_all [Value.cells,Value.oneCell']
   refine⟨by simp[z],v,D,?_⟩;rw[A];have:C.cells.toList.drop (0+[v].length)=[]:=by apply List.drop_eq_nil_of_le;simp[z]
   rw[this];simp
  ·cases h
theorem Zg0 {B w0 σ H w} {P:Program} (h:Inv B w0 σ H w) {id:Nat} {b:Box} {L:Loc} {us:List Value} (m:Met B w0 σ H w id b L us) {g n c:Nat} (hv:L.v = .slice (some ⟨g,0,none⟩) n c)
  {j off:Nat} {x x' M : V} {cs:List V} {q:List Value} (hx:b.xs[j]? = some x) (hc:AV σ w cs q) (ho:∀u∈q,u.oneCell' = true) (hs:Nk x off cs=some x') (hxx:∀σ w v,AV σ w [x'] [v]->AV σ w [M] [v]) (hok:okV M = true) (hnr:b.row=true->DC M = true) (hfl:b.floor<=j) :
  ∃w',(storeCells ⟨g,j*L.Au+off,none⟩ q).run P w = .ok () w' /\ Inv B w0 (σ.put id L) (H.set id { b with xs:=b.xs.set j M }) w' /\ Ext σ w (σ.put id L) w' :=by
 obtain⟨uu,hu,hxr⟩:=m.ED.get hx;have J:=m.oks x (List.mem_of_getElem? hx);obtain⟨hle,D,hr',F⟩:=ZtV hxr J hc ho hs;have hsz:uu.cells.size=L.Au:=m.sizes uu (List.mem_of_getElem? hu);have Y : D.cells.size=L.Au:=by
  have:=congrArg List.length F;simp at this;omega
 rcases m.shape with ⟨hn,_,_⟩|⟨g',cap,z,tg,hv',hB,hh,htg,hn,hm,hcs,ht⟩
 ·rw[hn]at hv;cases hv
 ·rw[hv']at hv;cases hv;have hjlen:j<b.xs.length:=(List.getElem?_eq_some_iff.1 hx).1;have hje:j*L.Au+L.Au<=b.xs.length*L.Au:=by
   rw[<- Nat.succ_mul];exact Nat.mul_le_mul_right _ hjlen
  have hce:b.xs.length*L.Au<=c*L.Au:=Nat.mul_le_mul_right _ hn;have hfit:j*L.Au+off+0+q.length<=z.size:=by omega
  have G:=oZ P g (j*L.Au+off) b.elem tg q 0 z w hh htg hfit ho;simp only[Nat.add_zero]at G;have hF:flat us=(flat us).take (j*L.Au)++uu.cells.toList++(flat us).drop (j*L.Au+L.Au):=by
   have:=Z4z m.sizes hu hsz;rw[<- this];congr 1;apply List.ext_getElem?;intro i;rw[List.getElem?_set];split
   ·grind
   ·rfl
  have hA:((flat us).take (j*L.Au)).length=j*L.Au:=by
   rw[List.length_take,flat_length m.sizes,m.len];omega
  have O:z.toList=(flat us).take (j*L.Au)++uu.cells.toList++(flat us).drop (j*L.Au+L.Au)++z.toList.drop (b.xs.length*L.Au):=by
   rw[<- hF,<- ht,List.take_append_drop]
  have hsp:=ZuZ ((flat us).take (j*L.Au)) uu.cells.toList ((flat us).drop (j*L.Au+L.Au)) (z.toList.drop (b.xs.length*L.Au)) q off q.length rfl (by simpa using hle);rw[hA,<- O]at hsp;rw[hsp]at G;have A : flat (us.set j D)=(flat us).take (j*L.Au)++(uu.cells.toList.take off++q++uu.cells.toList.drop (off+q.length))++(flat us).drop (j*L.Au+L.Au):=by
   rw[Z4z m.sizes hu Y,F]
  rw[<- A]at G;have C : ∀u∈us.set j D,u.cells.size=L.Au:=by
   intro u hu';rcases List.mem_or_eq_of_mem_set hu' with hu' | hu'
   ·exact m.sizes u hu'
   ·rw[hu'];exact Y
  have I : (flat (us.set j D)).length=b.xs.length*L.Au:=by
   rw[flat_length C,List.length_set,m.len]
  have hheap:=setRow_heap w g z (flat (us.set j D)++z.toList.drop (b.xs.length*L.Au)).toArray b.elem tg hh;have S:L.v.ownBlock=some g:=by rw[hv'];rfl
  have hgb:w.grownBy (w.setRow g (flat (us.set j D)++z.toList.drop (b.xs.length*L.Au)).toArray) L.v.ownBlock:=
   ⟨rfl,rfl,rfl,by simp,fun k _ hk=>setRow_other w g k _ (fun e=>hk (by rw[S,e]))⟩
  refine⟨_,G,?_⟩;refine h.upd m.hb m.live m.box hgb { b with xs:=b.xs.set j M } m.live L rfl (.inl rfl) rfl (by simp) (fun g' N =>.inl N) ?_ ?_
  ·intro g' c' N hc';rw[S]at N;cases N;have hlt:c' < j*L.Au:=Nat.lt_of_lt_of_le hc' (Nat.mul_le_mul_right _ hfl);rw[cell_setRow_same w g c' z _ b.elem tg hh,cell_of_row w g c' z b.elem tg hh];rw[List.getElem?_toArray,<- Array.getElem?_toList,O,A];have Q : c' < ((flat us).take (j*L.Au)).length:=by rw[hA];exact hlt
   rw[List.append_assoc,List.append_assoc,List.getElem?_append_left Q,List.append_assoc,List.append_assoc,List.getElem?_append_left Q]
  ·intro e;refine⟨by simpa using m.tot,⟨us.set j D,(m.ED.ext e).set j (hxx _ _ _ (hr'.ext e)),C,?_,?_⟩,m.Ep,m.Au,?_,fun hrow=>?_⟩
   ·intro u hu';rw[A]at hu';simp only[List.mem_append]at hu';rcases hu' with (hu' | (hu' | hu')|hu')|hu'
    ·exact m.ones u (List.mem_of_mem_take hu')
    ·have:=(hxr.cells J).2 u (List.mem_of_mem_take hu');exact this
    ·exact ho u hu'
    ·exact(hxr.cells J).2 u (List.mem_of_mem_drop hu')
    ·exact m.ones u (List.mem_of_mem_drop hu')
   ·refine⟨by simpa using I,.inr ⟨g,c,_,tg,by simpa using hv',hB,hheap,?_,by simpa using hn,hm,?_,?_⟩⟩
    ·have:(flat (us.set j D)++z.toList.drop (b.xs.length*L.Au)).toArray.size=z.size:=by
      simp only[List.size_toArray,List.length_append,I,List.length_drop,Array.length_toList,hcs];omega
     grind
    ·grind
    ·simp only[List.length_set];rw[List.take_append_of_le_length (by omega),List.take_of_length_le (by omega)]
   ·intro y hy;rcases List.mem_or_eq_of_mem_set hy with hy|hy
    ·exact m.oks y hy
    ·rw[hy];exact hok
   ·intro y hy;rcases List.mem_or_eq_of_mem_set hy with hy|hy
    ·exact m.IZ hrow y hy
    grind
theorem Zro {x z : V} {off:Nat} {cs:List V} (hx:DC x=true) (hc:CS cs=true) (hs:Nk x off cs=some z):DC z = true:=by
 unfold Nk at hs;split at hs
 ·rename_i q;split at hs
  ·simp only[Option.some.injEq]at hs;subst hs;rw[show DC (.agg (q.take off++cs++q.drop (off+cs.length)))=CS (q.take off++cs++q.drop (off+cs.length)) from rfl,Lm];have C:∀y∈q,DC y=true:=(Lm q).1 hx;have A :=(Lm cs).1 hc
   grind
  ·cases hs
 ·split at hs
  ·simp only[Option.some.injEq]at hs;subst hs;simpa[CS]using hc
  ·cases hs
theorem Zc9 {P:Program} {t:TypeId} {b o:Nat} {v:Value} {q:TypeInfo} {w w' : World} (z:P.info? t=some q) (hs:v.cells.size=q.size)
  (h:(storeCells ⟨b,o,none⟩ v.cells.toList).run P w = .ok () w'):(Instr.storeAt t (.pointer (some ⟨b,o,none⟩)) v).run P w = .ok () w' :=by
 simp[Instr.storeAt,Instr.sureAddr,storeVar,sizeOf,typeInfo,z,hs,h]
theorem ZCr {E B w0 σ H w} {P:Program} (hE:DV E) (hP:E.P=P) (h:Inv B w0 σ H w) {t:TypeId} {a x:V} {av xv:Value} {H' : Heap}
  (ha:AV σ w [a] [av]) (hx:AV σ w [x] [xv]) (hs:Nl E H t a x=some H') :
  ∃w' σ',(Instr.storeAt t av xv).run P w = .ok () w' /\ Inv B w0 σ' H' w' /\ Ext σ w σ' w' :=by
 unfold Nl at hs;split at hs
 ·cases hs
 ·rename_i ti hti;obtain⟨inf,d,J,hd,h1,h2,h3,h4⟩:=F9 (hE.ti t ti hti);rw[hP]at J hd;split at hs
  ·rename_i id j off tot;split at hs
   ·rename_i b hb;obtain⟨b1,b2,b3⟩:=X4 hb;split at hs
    ·rename_i y hy;split at hs
     ·rename_i hc;simp only[Bool.and_eq_true,beq_iff_eq,decide_eq_true_eq]at hc;obtain⟨⟨c1,c2⟩,c3⟩:=hc;have M:xv.cells.size=inf.size:=by rw[<- hx.Sm c3,c1,h2]
      cases ha with
      | ptr g k1 k2 k3 k4 k5=>
       rename_i L';subst k4;split at hs
       ·
        split at hs
        ·rename_i x' hf;split at hs
         ·rename_i y1 hy1;obtain⟨O,C,N⟩:∃O,Nk y off x'.cells=some O /\ ES (E.rows b.elem) O = y1:=by
           simp_all
          split at hs
          ·cases hs
          ·rename_i I;simp only[Option.some.injEq]at hs;subst hs;simp only[Bool.or_eq_true,Bool.not_eq_true',List.contains_eq_mem,decide_eq_true_eq,not_or,Bool.not_eq_false]at I;obtain⟨⟨n1,n2⟩,n3⟩:=I;obtain⟨hI,Q⟩:=h.freeze (EF x);have hxr:=wY h hx hf (EF x) (fun i J=>J);have Y : (bump H (EF x))[id]? = some b:=by rw[ML,b1];simp[n1]
           obtain⟨L,us,m⟩:=hI.meet Y b2;have S:L' = L:=by
            have:=m.box;simp only[Sg.freeze]at this;rw[k1]at this;cases this;rfl
           subst S;obtain⟨n,c,hv⟩:=k3 (m.tot.trans b3);obtain⟨G,F⟩:=hxr.cells n2;obtain⟨w',A,D,q⟩:=Zg0 (P:=P) hI m hv hy G F C (fun σ w v hq=>by rw[<- N];exact Un _ hq) n3 (fun z=>by rw[<- N,Ui];exact Zro (m.IZ z _ (List.mem_of_getElem? hy)) (Zut (vS h hx hf)) C) c2;exact⟨w',_,Zc9 J M A,D,Q.trans q⟩
         ·cases hs
        ·cases hs
       ·split at hs
        ·rename_i O C;split at hs
         ·rename_i n3;simp only[Option.some.injEq]at hs;subst hs;obtain⟨L,us,m⟩:=h.meet b1 b2;have S:L' = L:=by
           have:=m.box;rw[k1]at this;cases this;rfl
          subst S;obtain⟨n,c,hv⟩:=k3 (m.tot.trans b3);obtain⟨G,F⟩:=hx.cells c3;obtain⟨w',A,D,q⟩:=Zg0 (P:=P) h m hv hy G F C (fun _ _ _ hq=>hq) n3 (fun z=>absurd z (by assumption)) c2;exact⟨w',_,Zc9 J M A,D,q⟩
         ·cases hs
        ·cases hs
     ·cases hs
    ·cases hs
   ·cases hs
  ·cases hs
theorem grownBy_refl (w:World) (row:Option Nat):w.grownBy w row:=⟨rfl,rfl,rfl,Nat.le_refl _,fun _ _ _=>rfl⟩
theorem Zfl {B w0 σ H w} (h:Inv B w0 σ H w) {k:Nat} (A:Fv H k=true) {xs:List V} {us:List Value} {e n:Nat} (t:TypeId) (row:Bool) (hr:AV σ w xs us) (C:row=true->∀x∈xs,DC x=true) (hk:∀x∈xs,okV x=true) (hs:∀u∈us,u.cells.size=e)
  (N:∀u∈flat us,u.oneCell' = true) (M:xs.length<=maxLen) :
  ∃σ',Inv B w0 σ' (place H k (CB row false t e xs)) (w.alloc (.cells (flat us).toArray t))/\Ext σ w σ' (w.alloc (.cells (flat us).toArray t)) /\
   σ'.box k=some ⟨.slice (some ⟨w.heap.size,0,none⟩) xs.length xs.length,xs.length,e⟩:=by
 have q:us.length=xs.length:=hr.length.symm;have D:(flat us).toArray.size=xs.length*e:=by simp[flat_length hs,q]
 have z:=GR.of (World.ownsRow_lit (base:=B) (e:=t) (size:=e) w (flat us).toArray xs.length h.size M D);obtain⟨G,I⟩:=h.push (w.grownBy_alloc (.cells (flat us).toArray t) none) A (CB row false t e xs) rfl ⟨.slice (some ⟨w.heap.size,0,none⟩) xs.length xs.length,xs.length,e⟩ (by simp[CB])
  (fun g J=>by simp[Value.ownBlock]at J;omega) (fun F=>⟨rfl,⟨us,hr.ext F,hs,N,by simpa[CB]using z⟩,by simp[CB],rfl,hk,C⟩)
 exact⟨_,G,I,by simp[Sg.put]⟩
theorem O3 (u:Value):flat [u]=u.cells.toList:=by simp[flat]
theorem ZxZ {P:Program} (w:World) (t:TypeId) (v:Value):(newVar t v).run P w = .ok ⟨w.heap.size,0,none⟩ (w.alloc (.cells v.cells t)):=by
 rfl
theorem ZeU {B w0 σ H w} {P:Program} (h:Inv B w0 σ H w) {k:Nat} (A:Fv H k=true) {x:V} {u:Value} {e:Nat} (t:TypeId) (hr:AV σ w [x] [u]) (hk:okV x=true) (hs:x.cells.length=e) :
  ∃w' σ',(newVar t u).run P w = .ok ⟨w.heap.size,0,none⟩ w' /\ Inv B w0 σ' (place H k (CB false false t e [x])) w' /\ Ext σ w σ' w' /\ AV σ' w' [.ptr k 0 0 1] [.pointer (some ⟨w.heap.size,0,none⟩)]:=by
 have C:u.cells.size=e:=by rw[<- hr.Sm hk];exact hs
 obtain⟨σ',q,z,D⟩:=Zfl (xs:=[x]) (us:=[u]) (e:=e) (n:=1) h A t false hr (by simp) (by simpa using hk) (by simpa using C) (by rw[O3];exact(hr.cells hk).2) (by simp[maxLen]);rw[O3]at q z;simp only[Array.toArray_toList]at q z;exact⟨_,σ',ZxZ w t u,q,z,.ptr w.heap.size D (Nat.le_refl _) (fun _=>⟨_,_,rfl⟩) (by simp) .nil⟩
end Go.Proofs.YtjodhcdmhobmoaaGreatDoor.Le
