/- A part of it. -/
import Derived.WalkKit
import GoSem.ClaimData
import GoSem.ClaimKeys
import Derived.Below
import Derived.Deep.MidRow
import Derived.Laws.MakeOwn
import Derived.Laws.OwnMore
import Derived.Maps.Keyed
set_option linter.unusedVariables false
set_option linter.unusedSimpArgs false
namespace Go.Proofs.YteinepnbndegdaaGreat.Le
inductive V where
 | lit (v:Value)
 | agg (cs:List V)
 | Ap (vs:List V)
 | sl (isNil:Bool) (e:Nat) (xs:List V)
 | CE (isNil:Bool) (e:Nat) (xs:List V)
 | BK (id off len tot:Nat)
 | ptr (id i off tot:Nat)
 | Bj (e:Nat) (xs:List V) (i off:Nat)
 | fn (f:FuncId) (first caps:List V)
 | GX (t:TypeId) (v:V)
 | Lt (kvs:List V)
 | FQ (id:Nat)
 | no
 | und
 deriving Inhabited
def V.cells:V->List V
 | .agg cs=>cs
 | v=>[v]
def okV:V->Bool
 | .und | .no | .Ap _ | .Lt _=>false
 | _=>true
mutual
def Bz:V->Bool
 | .BK _ _ _ _=>false
 | .ptr _ _ _ _=>false
 | .Bj _ xs _ _=>Be xs
 | .agg cs=>Be cs
 | .Ap cs=>Be cs
 | .sl _ _ xs=>Be xs
 | .CE _ _ xs=>Be xs
 | .fn _ a b=>Be a&&Be b
 | .GX _ v=>Bz v
 | .Lt cs=>Be cs
 | .FQ _=>false
 | .lit _=>true
 | .no=>true
 | .und=>true
def Be:List V->Bool
 | []=>true
 | x::xs=>Bz x&&Be xs
end
def DU (v:V):Bool:=okV v&&Bz v
structure Box where
 live:Bool
 row:Bool
 Dc:Bool
 elem:TypeId
 Ag:Nat
 xs:List V
 floor:Nat
 deriving Inhabited
abbrev Heap:=List Box
inductive Ty where
 | scalar
 | slice (elem:Nat)
 | array (len elem:Nat)
 | struct (fields:List (Nat×Nat))
 | map (key elem:Nat)
 | other
 deriving Inhabited,DecidableEq
structure TI where
 ty:Ty
 size:Nat
 bytes:Nat
 zero:Option V
 deriving Inhabited
def TI.isAgg (i:TI):Bool:=match i.ty with | .struct _ | .array _ _=>true|_=>false
def TI.TQ (i:TI):Bool:=match i.zero with|some z=>okV z&&z.cells.length==i.size|none=>false
def leaf:Value->Bool
 | .int k n=>(Lit.int k n).wf
 | .bool _=>true
 | .string s=>decide (s.size<=maxLen)
 | .pointer none=>true
 | .map none=>true
 | .nilFunc=>true
 | .nilIface=>true
 | _=>false
def Nv:Value->V
 | .slice none 0 0=>.sl true 0 []
 | v=>if leaf v then .lit v else .und
def VZ:Value->Bool
 | .slice none 0 0=>true
 | v=>leaf v
def PH:Value->V
 | .agg cs=>if cs.toList.all VZ then .agg (cs.toList.map Nv) else .und
 | .tuple vs=>if vs.isEmpty then .no else .und
 | v=>if VZ v then Nv v else .und
def DT:V:=.no
def Jw (d:TypeDesc):Ty:=
 match d with
 | .bool | .int _ | .string | .pointer _ | .func _ _ _ | .interface _=>.scalar
 | .slice e=>.slice e
 | .array n e=>.array n e
 | .struct fs=>.struct (fs.toList.map fun f=>(f.offset,f.type))
 | .map k e=>.map k e
 | _=>.other
def Jv (P:Program) (t:TypeId):Option TI:=
 match P.info? t,P.underlying t with
 | some i,some d=>some { ty:=Jw d,size:=i.size,bytes:=i.bytes,zero:=i.zero.map PH }
 | _,_=>none
inductive FK where
 | b|i (k:IntKind)|s
 deriving DecidableEq
inductive Fk where
 | s (e:TypeId) (sz:Nat)
 | own (e:TypeId) (sz:Nat)
 | keep
 | drop
inductive Bf where
 | var (fl:List Fk)
 | row (fresh:Bool)
structure NC where
 fa:List (List Fk)
 fb:List Bf
 run:List V->Heap->Option (V×Heap)
structure Env where
 P:Program
 ti:TypeId->Option TI
 func:FuncId->Option Func
 env:FuncId->Option (List V->Option V)
 D5:Nat->Option (List V)
 pure:FuncId->Bool
 flat:TypeId->Option (List FK)
 kind:TypeId->Option IntKind
 isStr:TypeId->Bool
 isBool:TypeId->Bool
 isBytes:TypeId->Bool
 calm:FuncId->Nat->Bool
 rows:TypeId->List Nat
 par:FuncId->List TypeId
 own:FuncId->Option TypeId
 hm:FuncId->List FuncId->Option NC
 quiet:Bool:=false
 maps:FuncId->Option (List (Int×FuncId)):=fun _=>none
structure St where
 s:List V
 H:Heap
inductive Ex where
 | normal|ret|exit (id:Nat)
def ev (E:Env) (s:List V):Operand->V
 | .tmp t=>s.getD t .und
 | .const v=>PH v
 | .func f=>.fn f [] []
 | .global g=>match E.D5 g with|some r=>.Bj r.length [.agg r] 0 0|none=>.und
def JD (v:V) (z:Bool):Option Bool:=
 match v with
 | .lit (.bool b)=>some (b==z)
 | .no=>some false
 | _=>none
def setSlot (s:List V) (d:Option Tmp) (v:V):List V:=match d with|some t=>s.set t v|none=>s
def Cc (H:Heap) (id tot:Nat):Option Box:=
 match H[id]? with
 | some b=>if b.live&&b.xs.length==tot then some b else none
 | none=>none
def partOf (cs:List V) (off n:Nat) (isAgg:Bool):Option V:=
 if isAgg then (if off+n<=cs.length then some (.agg ((cs.drop off).take n)) else none) else cs[off]?
def OA (xs:List V) (i off n:Nat) (isAgg:Bool):Option V:=
 match xs[i]? with
 | some x=>partOf x.cells off n isAgg
 | none=>none
def F9 (H:Heap):V->Option V
 | .lit v=>some (.lit v)
 | .sl b e xs=>some (.sl b e xs)
 | .CE b e xs=>some (.sl false e xs)
 | .BK id off len tot=>match Cc H id tot with
  | some b=>if b.row&&decide (off+len<=tot) then some (.sl false b.Ag ((b.xs.drop off).take len)) else none
  | none=>none
 | .fn f [] []=>some (.fn f [] [])
 | .GX t (.lit v)=>some (.GX t (.lit v))
 | _=>none
def J8 (H:Heap):List V->Option (List V)
 | []=>some []
 | v::vs=>match F9 H v,J8 H vs with|some w,some ws=>some (w::ws)|_,_=>none
def H9 (H:Heap):V->Option V
 | .agg cs=>(J8 H cs).map .agg
 | v=>F9 H v
def FC (H:Heap):List V->Option (List V)
 | []=>some []
 | v::vs=>match H9 H v,FC H vs with|some w,some ws=>some (w::ws)|_,_=>none
def JJ (H:Heap):V->Option V
 | .Ap vs=>(FC H vs).map .Ap
 | v=>H9 H v
def Gl (e:Nat):V->V
 | .sl true _ xs=>.sl false e xs
 | v=>v
def GK:List Nat->List V->List V
 | e::es,v::vs=>Gl e v::GK es vs
 | [],vs=>vs
 | _,[]=>[]
def DX (es:List Nat):V->V
 | .agg cs=>.agg (GK es cs)
 | v=>Gl (es.headD 0) v
def Ff (rows:TypeId->List Nat):List TypeId->List V->List V
 | t::ts,v::vs=>DX (rows t) v::Ff rows ts vs
 | [],vs=>vs
 | _,[]=>[]
def SC:V->Bool | .ptr _ _ _ _=>true|_=>false
def Sr:V->V
 | .lit v=>.lit v
 | _=>.und
def OJ (H:Heap) (v:V):Option V:=
 match v with
 | .ptr id i off tot=>if i=0/\off=0 then (match Cc H id tot with
   | some b=>(match b.row,b.xs with
    | false,[.agg cs]=>some (.Bj b.Ag [.agg (cs.map Sr)] 0 0)
    | false,[.lit z]=>some (.Bj b.Ag [.lit z] 0 0)
    | _,_=>none)
   | none=>none) else none
 | v=>H9 H v
def KG (H:Heap):List V->Option (List V)
 | []=>some []
 | v::vs=>match OJ H v,KG H vs with|some w,some ws=>some (w::ws)|_,_=>none
def Ih:V->Bool | .lit _=>true|_=>false
def NK:V->Bool
 | .lit _=>true
 | .agg cs=>cs.all Ih
 | .sl _ _ []=>true
 | _=>false
def Ql:V->Bool
 | .Ap vs=>vs.all NK
 | v=>NK v
def Ec:V->List Nat
 | .BK id _ _ _=>[id]
 | _=>[]
def DC:V->List Nat
 | .agg cs=>cs.flatMap Ec
 | v=>Ec v
def OX:V->List Nat
 | .Ap vs=>vs.flatMap DC
 | v=>DC v
def bump (H:Heap):List Nat->Heap
 | []=>H
 | i::z=>bump (H.modify i fun b=>{ b with floor:=b.xs.length }) z
def place (H:Heap) (k:Nat) (b:Box):Heap:=if k<H.length then H.set k b else H++[b]
def Eg (H:Heap) (k:Nat):Bool:=match H[k]? with|some b=>!b.live && !b.row|none=>k==H.length
def elemsOf (H:Heap):V->Option (List V)
 | .sl _ _ xs=>some xs
 | .CE _ _ xs=>some xs
 | .BK id off len tot=>match Cc H id tot with
  | some b=>if b.row&&decide (off+len<=tot) then some ((b.xs.drop off).take len) else none
  | none=>none
 | .lit (.string s)=>some (s.data.toList.map fun c=>.lit (.int .u8 c.toNat))
 | _=>none
def EW (H:Heap) (x:V) (n:Nat):Bool:=
 match x with
 | .sl b e _=>b||e==n
 | .CE b e _=>b||e==n
 | .BK id _ _ tot=>match Cc H id tot with|some b=>b.Ag==n|none=>false
 | _=>false
def lenOf (H:Heap):V->Option Nat
 | .sl _ _ xs=>some xs.length
 | .CE _ _ xs=>some xs.length
 | .BK id _ len tot=>match Cc H id tot with|some _=>some len|none=>none
 | .lit (.string s)=>some s.size
 | _=>none
def intOf:V->Option Int | .lit (.int _ n)=>some n|_=>none
def OI (op:BinOp) (k:IntKind) (a b:Int):Option Value:=
 match op with
 | .add=>some (.int k (k.wrap (a+b)))
 | .sub=>some (.int k (k.wrap (a - b)))
 | .mul=>some (.int k (k.wrap (a*b)))
 | .quo=>if b=0 then none else some (.int k (k.wrap (a.tdiv b)))
 | .rem=>if b=0 then none else some (.int k (a.tmod b))
 | .and | .or | .xor | .andNot=>some (.int k (bits op k a b))
 | .eql=>some (.bool (a==b))
 | .neq=>some (.bool (a != b))
 | .lss=>some (.bool (decide (a<b)))
 | .leq=>some (.bool (decide (a<=b)))
 | .gtr=>some (.bool (decide (a>b)))
 | .geq=>some (.bool (decide (a>=b)))
 | _=>none
def PK (op:BinOp) (k:IntKind) (a b:Int):Option Value:=
 if b<0 then none else
 match op with
 | .shl=>some (.int k (k.wrap (a*2 ^ min b.toNat k.bits)))
 | .shr=>some (.int k (a.fdiv (2 ^ min b.toNat k.bits)))
 | _=>none
def Vf (op:BinOp) (x y:ByteArray):Option Value:=
 match op with
 | .add=>if decide (x.size+y.size<=maxLen) then some (.string (x++y)) else none
 | .eql=>some (.bool (x.toList==y.toList))
 | .neq=>some (.bool !(x.toList==y.toList))
 | .lss=>some (.bool (Op.bytesLess x.toList y.toList))
 | .leq=>some (.bool (Op.bytesLess x.toList y.toList||x.toList==y.toList))
 | .gtr=>some (.bool !(Op.bytesLess x.toList y.toList||x.toList==y.toList))
 | .geq=>some (.bool !(Op.bytesLess x.toList y.toList))
 | _=>none
def JA:List FK->List V->List V->Option Bool
 | [],[],[]=>some true
 | .b::z,.lit (.bool a)::xs,.lit (.bool b)::ys=>match JA z xs ys with|some r=>some (a==b&&r)|none=>none
 | .i k::z,.lit (.int k1 a)::xs,.lit (.int k2 b)::ys=>if k1=k/\k2=k then (match JA z xs ys with|some r=>some (a==b&&r)|none=>none) else none
 | .s::z,.lit (.string a)::xs,.lit (.string b)::ys=>match JA z xs ys with|some r=>some (a==b&&r)|none=>none
 | _,_,_=>none
def Xe (P:Program) (D:TypeId->Option (List FK)):Nat->List Field->Option (List FK)
 | _,[]=>some []
 | off,f::fs=>
  if f.offset=off/\f.name != "_" then
   match D f.type with
   | some C=>if P.cellsOf f.type=C.length then (match Xe P D (off+C.length) fs with|some z=>some (C++z)|none=>none) else none
   | none=>none
  else none
def OW (P:Program):Nat->TypeId->Option (List FK)
 | 0,_=>none
 | d+1,t=>
  match P.underlying t with
  | some .bool=>some [.b]
  | some (.int k)=>some [.i k]
  | some .string=>some [.s]
  | some (.array n e)=>match OW P d e with
   | some z=>if P.cellsOf e=z.length/\P.cellsOf t=n*z.length then some (List.replicate n z).flatten else none
   | none=>none
  | some (.struct fs)=>match Xe P (OW P d) 0 fs.toList with
   | some z=>if P.cellsOf t=z.length then some z else none
   | none=>none
  | _=>none
def SA:V->Option Bool
 | .sl true _ _=>some true
 | .ptr _ _ _ _=>some false
 | .Bj _ _ _ _=>some false
 | .fn _ _ _=>some false
 | .GX _ _=>some false
 | .lit (.pointer none)=>some true
 | .lit .nilFunc=>some true
 | .lit .nilIface=>some true
 | .lit (.map none)=>some true
 | _=>none
def Vs (E:Env) (t:TypeId):Bool:=match E.P.underlying t with|some (.pointer _)=>true|_=>false
def Lj (E:Env) (op:BinOp) (t:TypeId) (x y:V):Option V:=
 match op,x,y with
 | .shl,.lit (.int k a),.lit (.int _ b)=>(PK .shl k a b).map .lit
 | .shr,.lit (.int k a),.lit (.int _ b)=>(PK .shr k a b).map .lit
 | op,.lit (.int k a),.lit (.int j b)=>if k=j then (OI op k a b).map .lit else none
 | op,.lit (.string a),.lit (.string b)=>(Vf op a b).map V.lit
 | .eql,.lit (.bool a),.lit (.bool b)=>if E.isBool t then some (.lit (.bool (a==b))) else none
 | .neq,.lit (.bool a),.lit (.bool b)=>if E.isBool t then some (.lit (.bool (!(a==b)))) else none
 | .eql,.agg xs,.agg ys=>match E.flat t with|some z=>(JA z xs ys).map fun b=>V.lit (.bool b)|none=>none
 | .neq,.agg xs,.agg ys=>match E.flat t with|some z=>(JA z xs ys).map fun b=>V.lit (.bool !b)|none=>none
 | .eql,.lit (.pointer none),.lit (.pointer none)=>if Vs E t then some (.lit (.bool true)) else none
 | .neq,.lit (.pointer none),.lit (.pointer none)=>if Vs E t then some (.lit (.bool false)) else none
 | .eql,.ptr _ _ _ _,.lit (.pointer none)=>if Vs E t then some (.lit (.bool false)) else none
 | .neq,.ptr _ _ _ _,.lit (.pointer none)=>if Vs E t then some (.lit (.bool true)) else none
 | _,_,_=>none
def Yh (op:UnOp) (x:V):Option V:=
 match op,x with
 | .neg,.lit (.int k n)=>some (.lit (.int k (k.wrap (0 - n))))
 | .xor,.lit (.int k n)=>some (.lit (.int k (bits .xor k (if k.signed then -1 else k.max) n)))
 | .not,.lit (.bool b)=>some (.lit (.bool !b))
 | _,_=>none
def OG (cs:List V):List (Nat×V)->(Nat->Option (Nat×Nat))->Option (List V)
 | [],_=>some cs
 | (i,v)::z,place=>
  match place i with
  | none=>none
  | some (off,size)=>if v.cells.length==size&&decide (off+size<=cs.length)&&okV v then OG (cs.take off++v.cells++cs.drop (off+size)) z place else none
def placesOf (E:Env) (fs:List (Nat×Nat)) (i:Nat):Option (Nat×Nat):=
 match fs[i]? with
 | some (off,t)=>match E.ti t with|some ti=>some (off,ti.size)|none=>none
 | none=>none
def VP (E:Env) (t:TypeId) (C:List (Nat×V)):Option V:=
 match E.ti t with
 | some i=>match i.zero with
  | some z=>
   if okV z then
    match i.ty with
    | .struct fs=>if fs.all fun x=>(E.ti x.2).isSome then (OG z.cells C (placesOf E fs)).map .agg else none
    | .array _ e=>match E.ti e with
     | some D=>(OG z.cells C (fun i=>some (i*D.size,D.size))).map .agg
     | none=>none
    | _=>none
   else none
  | none=>none
 | none=>none
def L8 (xs:List V) (size:Nat):List (Nat×V)->Option (List V)
 | []=>some xs
 | (i,v)::z=>if v.cells.length==size&&decide (i<xs.length)&&okV v then L8 (xs.set i v) size z else none
abbrev CV:=FuncId->List V->Heap->Option (V×Heap)
def BO (row Dc:Bool) (elem:TypeId) (Ag:Nat) (xs:List V):Box:={ live:=true,row,Dc,elem,Ag,xs,floor:=0 }
def Env.size (E:Env) (t:TypeId):Option Nat:=(E.ti t).map (·.size)
def LP (E:Env) (H:Heap) (t:TypeId) (a:V):Option V:=
 match E.ti t with
 | none=>none
 | some i=>
  match a with
  | .Bj _ xs j off=>OA xs j off i.size i.isAgg
  | .ptr id j off tot=>match Cc H id tot with|some b=>OA b.xs j off i.size i.isAgg|none=>none
  | _=>none
def Kz (x:V) (off:Nat) (cs:List V):Option V:=
 match x with
 | .agg z=>if off+cs.length<=z.length then some (.agg (z.take off++cs++z.drop (off+cs.length))) else none
 | _=>match off,cs with|0,[c]=>some c|_,_=>none
def J3 (E:Env) (H:Heap) (t:TypeId) (a v:V):Option Heap:=
 match E.ti t with
 | none=>none
 | some i=>
  match a with
  | .ptr id j off tot=>match Cc H id tot with
   | some b=>match b.xs[j]? with
    | some x=>
     if v.cells.length==i.size&&decide (b.floor<=j)&&okV v then
      (if b.row then
       match H9 H v with
       | some v' =>match (Kz x off v'.cells).map (DX (E.rows b.elem)) with
        | some z =>if (DC v).contains id || !(okV v') || !(okV z) then none else some ((bump H (DC v)).set id { b with xs:=b.xs.set j z })
        | none=>none
       | none=>none
       else match Kz x off v.cells with
        | some z =>if okV z then some (H.set id { b with xs:=b.xs.set j z }) else none
        | none=>none)
     else none
    | none=>none
   | none=>none
  | _=>none
def lim:Nat:=140737488355328
def IP (E:Env) (k:Nat) (H:Heap) (t u:TypeId) (s x:V):Option (V×Heap):=
 match E.ti t with
 | some ⟨.slice e,_,_,_⟩=>
  match E.ti e,(u==t),elemsOf H x with
  | some z,true,some ys=>
   if decide (0<z.size)&&EW H x z.size&&z.TQ then
    match s with
    | .BK id off len tot=>match Cc H id tot with
     | some b=>
      if b.row&&b.elem==e&&decide (off=0)&&decide (len=tot)&&b.Ag==z.size then
       (if decide ((tot+ys.length)*z.bytes<=lim)&&decide (tot+ys.length<=maxLen) then
        some (.BK id 0 (tot+ys.length) (tot+ys.length),H.set id { b with xs:=b.xs++ys,Dc:=b.Dc&&ys.isEmpty })
        else none)
      else if b.row&&b.elem==e&&decide (off=0)&&b.Ag==z.size&&decide (b.floor<=len)&&decide (len<tot)&&decide (len+ys.length<=tot) then
       some (.BK id 0 (len+ys.length) tot,H.set id { b with xs:=b.xs.take len++ys++b.xs.drop (len+ys.length) })
      else none
     | none=>none
    | .sl true _ [] | .CE true _ []=>
     (if decide (ys.length*z.bytes<=lim)&&decide (ys.length<=maxLen) then
      some (.BK k 0 ys.length ys.length,place H k (BO true false e z.size ys))
      else none)
    | .CE false es xs=>
     (if es==z.size&&decide ((xs.length+ys.length)*z.bytes<=lim)&&decide (xs.length+ys.length<=maxLen) then
      (if ys.isEmpty then some (.CE false es xs,H)
       else some (.BK k 0 (xs.length+ys.length) (xs.length+ys.length),place H k (BO true false e z.size (xs++ys))))
      else none)
    | _=>none
   else none
  | _,_,_=>none
 | _=>none
def Jq (kd:IntKind) (n:Int):List V->Option (Option V)
 | []=>some none
 | .lit (.int k a)::v::r=>if k=kd then (if n=a then some (some v) else Jq kd n r) else none
 | _=>none
def P5 (E:Env) (t:TypeId) (ok:Bool) (m x:V):Option V:=
 match E.ti t,m,x with
 | some ⟨.map k e,_,_,_⟩,.Lt kvs,.lit (.int kd n)=>
  if E.kind k=some kd then
   match Jq kd n kvs with
   | some (some v)=>some (if ok then .Ap [v,.lit (.bool true)] else v)
   | some none=>match E.ti e with
    | some C=>C.zero.map fun z=>if ok then .Ap [z,.lit (.bool false)] else z
    | none=>none
   | none=>none
  else none
 | _,_,_=>none
def EY (b:Box):Bool:=!b.live&&(b.row&&b.Dc)
def PT (t:TypeId):Box:={ live:=false,row:=true,Dc:=true,elem:=t,Ag:=0,xs:=[],floor:=0 }
def Ph (E:Env) (H:Heap) (t:TypeId) (ok:Bool) (m x:V):Option V:=
 match m with
 | .FQ id=>match H[id]? with
  | some b=>if EY b then P5 E t ok (.Lt b.xs) x else none
  | none=>none
 | m=>P5 E t ok m x
def OQ (kd:IntKind) (n:Int) (y:V):List V->Option (List V)
 | []=>some [.lit (.int kd n),y]
 | .lit (.int k a)::v::r=>if k=kd then (if n=a then some (.lit (.int k a)::y::r) else (OQ kd n y r).map fun q=>.lit (.int k a)::v::q) else none
 | _=>none
def Lh (kd:IntKind) (n:Int):List V->Option (List V)
 | []=>some []
 | .lit (.int k a)::v::r=>if k=kd then (if n=a then some r else (Lh kd n r).map fun q=>.lit (.int k a)::v::q) else none
 | _=>none
def Qp (E:Env) (H:Heap) (t:TypeId) (m x:V) (f:IntKind->Int->List V->Option (List V)):Option Heap:=
 match E.ti t,m,x with
 | some ⟨.map k _,_,_,_⟩,.FQ id,.lit (.int kd n)=>
  if E.kind k=some kd/\(Lit.int kd n).wf=true then
   match H[id]? with
   | some b=>if EY b then (f kd n b.xs).map fun xs=>H.set id { b with xs:=xs } else none
   | none=>none
  else none
 | _,_,_=>none
def Nz (E:Env) (H:Heap) (t:TypeId) (m x v:V):Option Heap:=
 match H9 H v with
 | some y=>if DU y then Qp E (bump H (DC v)) t m x (fun kd n xs=>OQ kd n y xs) else none
 | none=>none
def S9 (E:Env) (H:Heap) (t u:TypeId) (d x:V):Option (V×Heap):=
 match E.ti t with
 | some ⟨.slice e,_,_,_⟩=>
  match E.ti e,elemsOf H x,d with
  | some z,some ys,.BK id off len tot=>match Cc H id tot with
   | some b=>
    if b.row&&decide (off=0)&&decide (len=tot)&&b.Ag==z.size&&EW H x z.size&&decide (b.floor=0) then
     some (.lit (.int .i64 (min ys.length tot:Nat)),H.set id { b with xs:=ys.take tot++b.xs.drop ys.length })
    else none
   | none=>none
  | _,_,_=>none
 | _=>none
def VU (E:Env) (H:Heap) (t:TypeId) (d:V):Option Heap:=
 match E.ti t with
 | some ⟨.slice e,_,_,_⟩=>
  match E.ti e,d with
  | some C,.BK id off len tot=>match Cc H id tot,C.zero with
   | some b,some z=>
    if b.row&&decide (off=0)&&decide (len=tot)&&b.Ag==C.size&&decide (b.floor=0)&&(decide (0<C.size)&&z.cells.length==C.size&&okV z&&decide (0<len)) then
     some (H.set id { b with xs:=List.replicate len (DX (E.rows e) z) })
    else none
   | _,_=>none
  | _,_=>none
 | _=>none
def Ij (v:V) (hi:Nat):Option Nat:=
 match v with
 | .lit (.int _ n)=>if 0<=n/\n<=hi then some n.toNat else none
 | _=>none
def IM (x:Option V) (hi z:Nat):Option Nat:=match x with|some v=>Ij v hi|none=>some z
def PD (E:Env) (H:Heap) (t:TypeId) (x:V):Bool:=
 match x with
 | .lit (.string _)=>E.isStr t
 | _=>match E.ti t with
  | some ⟨.slice e,_,_,_⟩=>match E.ti e with|some z=>EW H x z.size|none=>false
  | _=>false
def Ii (E:Env) (H:Heap) (t:TypeId) (x:V) (lo hi z:Option V):Option (V×Heap):=
 if PD E H t x then
  match lenOf H x with
  | none=>none
  | some n=>
   match IM hi n n with
   | none=>none
   | some h=>
    match IM lo h 0 with
    | none=>none
    | some l=>
     match z with
     | some m=>
      (match hi,Ij m n,elemsOf H x,x with
       | some _,some k,some xs,.sl b e _=>if k=h then some (.CE false e ((xs.drop l).take (h - l)),H) else none
       | some _,some k,some xs,.CE b e _=>if k=h then some (.CE false e ((xs.drop l).take (h - l)),H) else none
       | some _,some k,some xs,.BK id _ _ _=>if k=h then some (.CE false ((H.getD id default).Ag) ((xs.drop l).take (h - l)),bump H [id]) else none
       | _,_,_,_=>none)
     | none=>
      match x with
      | .lit (.string s)=>some (.lit (.string (s.extract l h)),H)
      | .sl b e xs=>some (.sl b e ((xs.drop l).take (h - l)),H)
      | .CE b e xs=>some (.sl b e ((xs.drop l).take (h - l)),H)
      | .BK id off _ tot=>some (.BK id (off+l) (h - l) tot,H)
      | _=>none
 else none
def LH (E:Env) (H:Heap) (n:Nat) (e:TypeId) (x:V) (lo hi z:Option V):Option (V×Heap):=
 match x,lo,IM hi n n,z with
 | .ptr id i off tot,none,some m,none=>match Cc H id tot with
  | some b=>(match b.row,b.xs with
   | false,[.agg cs]=>if i=0/\off=0/\cs.length=n/\n<=maxLen/\E.size e=some 1/\cs.all Ih=true then some (.sl false 1 (cs.take m),bump H [id]) else none
   | _,_=>none)
  | none=>none
 | _,_,_,_=>none
def Vm (E:Env) (t:TypeId) (x:V):Option V:=
 match E.ti t,x with
 | some ⟨.array n e,_,_,_⟩,.sl false sz xs=>if E.size e=some 1/\sz=1/\0<n/\n<=xs.length/\(xs.take n).all Ih=true then some (.Bj n [.agg (xs.take n)] 0 0) else none
 | _,_=>none
def Ol (E:Env) (H:Heap) (t:TypeId) (x i:V):Option V:=
 match i,E.ti t with
 | .lit (.int _ n),some ti=>
  match ti.ty,x with
  | .slice z,.sl _ e xs=>if 0<=n/\n<xs.length/\E.size z=some e then some (.Bj e xs n.toNat 0) else none
  | .slice z,.CE _ e xs=>if 0<=n/\n<xs.length/\E.size z=some e then some (.Bj e xs n.toNat 0) else none
  | .slice z,.BK id off len tot=>match Cc H id tot with
   | some b=>if 0<=n/\n<len/\E.size z=some b.Ag then some (.ptr id (off+n.toNat) 0 tot) else none
   | none=>none
  | .array len e,.ptr id j off tot=>match E.size e with
   | some sz=>if 0<=n/\n<len then some (.ptr id j (off+n.toNat*sz) tot) else none
   | none=>none
  | .array len e,.Bj d xs j off=>match E.size e with
   | some sz=>if 0<=n/\n<len then some (.Bj d xs j (off+n.toNat*sz)) else none
   | none=>none
  | _,_=>none
 | _,_=>none
def Ur (E:Env) (s:TypeId) (x:V) (f:Nat):Option V:=
 match E.ti s with
 | some ⟨.struct fs,_,_,_⟩=>match fs[f]? with
  | some (o,t)=>match E.size t with
   | some sz=>if sz=0 then none else match x with
    | .ptr id j off tot=>some (.ptr id j (off+o) tot)
    | .Bj d xs j off=>some (.Bj d xs j (off+o))
    | _=>none
   | none=>none
  | none=>none
 | _=>none
def V5 (E:Env) (s:TypeId) (x:V) (f:Nat):Option V:=
 match E.ti s,x with
 | some ⟨.struct fs,_,_,_⟩,.agg cs=>match fs[f]? with
  | some (o,t)=>match E.ti t with|some i=>partOf cs o i.size i.isAgg|none=>none
  | none=>none
 | _,_=>none
def VX (E:Env) (t:TypeId) (x i:V):Option V:=
 match i with
 | .lit (.int _ n)=>
  match E.ti t,x with
  | some ⟨.array len e,_,_,_⟩,.agg cs=>match E.ti e with
   | some z=>if 0<=n/\n<len then partOf cs (n.toNat*z.size) z.size z.isAgg else none
   | none=>none
  | some ⟨.scalar,_,_,_⟩,.lit (.string s)=>if E.isStr t then (if 0<=n then (s[n.toNat]?).map fun b=>V.lit (.int .u8 b.toNat) else none) else none
  | _,_=>none
 | _=>none
def byteOf:V->Option UInt8
 | .lit (.int .u8 n)=>some (UInt8.ofNat n.toNat)
 | _=>none
def bytesOf:List V->Option (List UInt8)
 | []=>some []
 | v::vs=>match byteOf v,bytesOf vs with|some b,some bs=>some (b::bs)|_,_=>none
def Hl (E:Env) (H:Heap) (src dst:TypeId) (x:V):Option (V×Heap):=
 match x with
 | .lit (.int _ n)=>match E.kind dst with
  | some k=>if (E.ti src).isSome then some (.lit (.int k (k.wrap n)),H) else none
  | none=>none
 | .lit (.string s)=>if E.isStr src&&E.isStr dst then some (.lit (.string s),H) else none
 | x=>if E.isStr dst&&E.isBytes src&&EW H x 1 then
   match elemsOf H x with
   | some xs=>match bytesOf xs with|some bs=>if bs.length<=maxLen then some (.lit (.string ⟨bs.toArray⟩),H) else none|none=>none
   | none=>none
  else none
def bytesV (st:ByteArray):List V:=st.data.toList.map fun c=>.lit (.int .u8 c.toNat)
def Jm (E:Env) (k:Nat) (H:Heap) (dst:TypeId) (x:V):Option (V×Heap):=
 match x,E.ti dst with
 | .lit (.string st),some ⟨.slice e,_,_,_⟩=>if E.size e=some 1 then some (.BK k 0 st.size st.size,place H k (BO true false e 1 (bytesV st))) else none
 | _,_=>none
def mm (z:Bool) (k:IntKind):Int->List V->Option V
 | a,[]=>some (.lit (.int k a))
 | a,.lit (.int j b)::C=>if k=j then mm z k (if z then (if b>a then b else a) else (if b<a then b else a)) C else none
 | _,_=>none
def PS (z:Bool):List V->Option V
 | .lit (.int k a)::C=>mm z k a C
 | _=>none
def evs (E:Env) (s:List V) (xs:Array Operand):List V:=xs.toList.map (ev E s)
def jO (E:Env) (t:TypeId) (x:V):Bool:=
 match x with
 | .lit (.string s)=>E.isStr t
 | _=>match E.ti t with|some ⟨.slice _,_,_,_⟩=>true|_=>false
def Kw (E:Env) (k:Nat) (H:Heap) (s:List V) (b:Builtin) (args:List V) (z:List TypeId):Option (V×Heap):=
 match b,args,z with
 | .len,[x],[t]=>if jO E t x then (lenOf H x).map fun n=>(V.lit (.int .i64 n),H) else none
 | .append,[a,x],[t,u]=>IP E k H t u a x
 | .copy,[d,x],[t,u]=>S9 E H t u d x
 | .delete,[m,x],[t,_]=>(Qp E H t m x Lh).map (.Ap [],·)
 | .clear,[x],[t]=>(VU E H t x).map (.Ap [],·)
 | .min,args,_=>(PS false args).map (·,H)
 | .max,args,_=>(PS true args).map (·,H)
 | _,_,_=>none
def MM (E:Env) (k:Nat) (H:Heap) (t:TypeId) (n:Nat) (C:List (Nat×V)):Option (V×Heap):=
 match E.ti t with
 | some ⟨.slice e,_,_,_⟩=>match E.ti e with
  | some D=>match D.zero,FC H (C.map (·.2)) with
   | some z,some vs=>
    if n*D.size<=16777216/\0<D.size/\z.cells.length=D.size/\okV z=true/\(n==0 && !C.isEmpty)=false then
     match L8 (List.replicate n (DX (E.rows e) z)) D.size ((C.map (·.1)).zip (vs.map (DX (E.rows e)))) with
     | some xs=>some (.BK k 0 n n,place (bump H ((C.map (·.2)).flatMap DC)) k (BO true false e D.size xs))
     | none=>none
    else none
   | _,_=>none
  | none=>none
 | _=>none
def BI (call:CV) (E:Env) (k:Nat) (H:Heap) (s:List V) (o:Oper):Option (V×Heap):=
 match o.op with
 | .move x=>some (ev E s x,H)
 | .assign (.const (.slice none 0 0))=>match E.ti o.type with
  | some ⟨.slice e,_,_,_⟩=>some (.BK k 0 0 0,place H k (BO true false e ((E.size e).getD 0) []))
  | _=>none
 | .assign x=>some (ev E s x,H)
 | .pick c a b=>match ev E s c with | .lit (.bool t)=>some (if t then ev E s a else ev E s b,H)|_=>none
 | .alloc t=>match E.ti t with
  | some i=>match i.zero with|some z=>if z.cells.length=i.size/\okV z=true then some (.ptr k 0 0 1,place H k (BO false false t i.size [z])) else none|none=>none
  | none=>none
 | .box t x=>match E.ti t with
  | some i=>if (ev E s x).cells.length=i.size/\okV (ev E s x)=true then some (.ptr k 0 0 1,place H k (BO false false t i.size [ev E s x])) else none
  | none=>none
 | .build t C=>(VP E t (C.toList.map fun(i,x)=>(i,ev E s x))).map (·,H)
 | .buildSlice t n C=>MM E k H t n (C.toList.map fun(i,x)=>(i,ev E s x))
 | .load t a=>(LP E H t (ev E s a)).map (·,H)
 | .store t a v=>(J3 E H t (ev E s a) (ev E s v)).map (DT,·)
 | .nilCheck x=>match SA (ev E s x) with|some false=>some (ev E s x,H)|_=>none
 | .binOp op t x y _=>(Lj E op t (ev E s x) (ev E s y)).map (·,H)
 | .unOp op _ x=>(Yh op (ev E s x)).map (·,H)
 | .convert src dst x=>if E.isStr src&&E.isBytes dst then Jm E k H dst (ev E s x) else Hl E H src dst (ev E s x)
 | .makeSlice t l c=>match E.ti t,ev E s l,ev E s c with
  | some ⟨.slice e,_,_,_⟩,.lit (.int _ n),.lit (.int _ m)=>match E.ti e with
   | some D=>match D.zero with
    | some z=>if 0<=n/\n<=m/\m.toNat*D.bytes<=lim/\m<=maxLen/\0<D.size/\z.cells.length=D.size/\okV z=true then
      some (.BK k 0 n.toNat n.toNat,place H k (BO true false e D.size (List.replicate n.toNat (DX (E.rows e) z)))) else none
    | none=>none
   | none=>none
  | _,_,_=>none
 | .slice t x lo hi G=>match E.ti t with
  | some ⟨.array n e,_,_,_⟩=>LH E H n e (ev E s x) (lo.map (ev E s)) (hi.map (ev E s)) (G.map (ev E s))
  | _=>Ii E H t (ev E s x) (lo.map (ev E s)) (hi.map (ev E s)) (G.map (ev E s))
 | .sliceToArrayPointer t x=>(Vm E t (ev E s x)).map (·,H)
 | .fieldAddr t x f=>(Ur E t (ev E s x) f).map (·,H)
 | .field t x f=>(V5 E t (ev E s x) f).map (·,H)
 | .indexAddr t x i=>(Ol E H t (ev E s x) (ev E s i)).map (·,H)
 | .index t x i=>(VX E t (ev E s x) (ev E s i)).map (·,H)
 | .extract x i=>match ev E s x with | .Ap vs=>(vs[i]?).map (·,H)|_=>none
 | .lookup t m x ok=>(Ph E H t ok (ev E s m) (ev E s x)).map (·,H)
 | .makeMap t none=>match E.ti t with
  | some ⟨.map _ _,_,_,_⟩=>some (.FQ k,place H k (PT t))
  | _=>none
 | .makeMap t (some r)=>match E.ti t,ev E s r with
  | some ⟨.map _ _,_,_,_⟩,.lit (.int _ _)=>some (.FQ k,place H k (PT t))
  | _,_=>none
 | .mapUpdate t m x v=>(Nz E H t (ev E s m) (ev E s x) (ev E s v)).map (DT,·)
 | .insert t m x v=>(Nz E H t (ev E s m) (ev E s x) (ev E s v)).map (DT,·)
 | .makeFunc (.func f) first caps=>some (.fn f (evs E s first) (evs E s caps),H)
 | .call c=>match c.callee with
  | .builtin b=>Kw E k H s b (evs E s c.args) c.argTypes.toList
  | .value f=>match ev E s f with
   | .fn g first caps=>call g (first++evs E s c.args++caps) H
   | _=>none
  | _=>none
 | _=>none
def Di (call:CV) (E:Env) (ops:Array Oper) (k:Nat) (o:Oper) (st:St):Option (V×Heap):=
 match o.guard with
 | none=>BI call E k st.H st.s o
 | some (j,z)=>
  match (ops[j]?).bind (·.dst) with
  | none=>none
  | some d=>match JD (st.s.getD d .und) z with
   | none=>none
   | some false=>some (DT,st.H)
   | some true=>BI call E k st.H st.s o
def JC (call:CV) (E:Env) (ops:Array Oper) (k:Nat) (i:Nat) (st:St):Option St:=
 match ops[i]? with
 | none=>some st
 | some o=>match Di call E ops k o st with
  | some (v,H)=>some ⟨setSlot st.s o.dst v,H⟩
  | none=>none
def stepD (call:CV) (E:Env) (ops:Array Oper) (i:Nat) (st:St):Option St:=JC call E ops st.H.length i st
def Jt (call:CV) (E:Env) (ops:Array Oper):List Nat->St->Option St
 | [],st=>some st
 | i::z,st=>match stepD call E ops i st with
  | some st' =>Jt call E ops z st'
  | none=>none
def Dh:V->List Nat
 | .BK id _ _ _=>[id]
 | .ptr id _ _ _=>[id]
 | .FQ id=>[id]
 | _=>[]
def YN:V->List Nat
 | .agg cs=>cs.flatMap Dh
 | v=>Dh v
def CJ:V->List Nat
 | .agg cs=>cs.flatMap Dh
 | .fn _ a b=>(a++b).flatMap YN
 | v=>Dh v
def nH:V->Bool | .fn _ _ _=>true|_=>false
def Qo (E:Env) (f:FuncId):Bool:=(E.pure f||(E.env f).isSome||(E.maps f).isSome)&&(E.own f).isNone
def mkV (l:List (Int×FuncId)) (x:V):V:=.Lt (l.flatMap fun q=>[.lit (.int .i64 q.1),.fn q.2 [x] []])
def kV (E:Env):V->Bool
 | .fn g a b=>Qo E g&&(a++b).all (fun v=>!nH v)
 | _=>false
def quietAt (E:Env) (s:List V) (o:Oper):Bool:=
 match o.op with
 | .call c=>(match c.callee with
  | .value (.tmp t)=>!(E.quiet&&o.type != 0)||kV E (s.getD t .und)
  | _=>true)
 | _=>true
def DR (E:Env) (s:List V) (o:Oper):List Nat:=o.op.operands.toList.flatMap fun x=>CJ (ev E s x)
inductive Cls where
 | s|n|f|a|c|w
 deriving DecidableEq
def Qd (E:Env) (f:FuncId):Bool:=(E.maps f).isNone&&(E.env f).isNone && !E.pure f&&(match E.hm f [] with|some z=>z.fb.isEmpty|none=>false)
def Bf.isRow:Bf->Bool | .row _=>true|_=>false
def OM (E:Env) (f:FuncId):Bool:=(E.maps f).isNone&&(E.env f).isNone && !E.pure f&&(match E.hm f [] with|some z=>z.fb.all Bf.isRow|none=>false)
def BU (E:Env) (o:Oper):Cls:=
 match o.op with
 | .move _ | .pick .. | .build .. | .binOp .. | .unOp .. | .field .. | .fieldAddr .. | .extract .. | .makeFunc .. | .index .. | .nilCheck _ | .sliceToArrayPointer ..=>.s
 | .assign (.const (.slice none 0 0))=>.a
 | .assign _=>.s
 | .load .. | .indexAddr .. | .lookup ..=>.n
 | .convert src dst _=>if E.isStr src&&E.isBytes dst then .a else .n
 | .slice ..=>.n
 | .alloc _ | .box .. | .buildSlice .. | .makeSlice ..=>.a
 | .call c=>match c.callee with
  | .builtin .len=>.n
  | .builtin .min=>.s
  | .builtin .max=>.s
  | .value (.func f)=>if Qo E f then .f else if Qd E f then .c else .w
  | .value (.tmp _)=>if E.quiet&&o.type != 0 then .f else .w
  | _=>.w
 | _=>.w
def Hr (E:Env) (o:Oper):Bool:=match o.op with
 | .call c=>(match c.callee with | .value (.func f)=>!Qo E f&&(!Qd E f&&OM E f)|_=>false)
 | _=>false
def OU (o:Oper):Bool:=match o.op with | .alloc _=>true|_=>false
def Io (o:Oper):Bool:=match o.op with | .load ..=>true|_=>false
def isApp (o:Oper):Bool:=match o.op with | .call c=>(match c.callee with | .builtin .append=>true|_=>false)|_=>false
def IC (E:Env) (o:Oper):Bool:=decide (BU E o = .c)||Hr E o
def Z0J:Cls->Cls->Bool
 | .w,.s=>true
 | .s,.w=>true
 | .w,_=>false
 | _,.w=>false
 | .c,.c=>false
 | _,_=>true
def V7 (acc:List Nat) (o:Oper):Nat:=
 o.after.toList.foldl (fun m e=>if Region.binds .any e then m ||| (1 <<< e.on) ||| acc.getD e.on 0 else m) 0
def F8:List Nat->List Oper->List Nat
 | acc,[]=>acc
 | acc,o::os=>F8 (acc++[V7 acc o]) os
def Xv (E:Env) (ops:Array Oper) (x y:Oper):Bool:=(Z0J (BU E x) (BU E y)||(Hr E x&&OU y||Hr E y&&OU x)||(isApp x&&Io y||isApp y&&Io x))&&x.apart ops y
def Iy (o:Oper):Option Operand:=
 match o.op with
 | .store _ a _=>some a
 | .call c=>(match c.callee,c.args.toList with
  | .builtin .append,[a,_]=>some a
  | _,_=>none)
 | _=>none
def ZtT (ops:Array Oper) (d:Tmp):Option Nat:=(List.range ops.size).find? fun j=>match ops[j]? with|some z=>z.dst==some d|none=>false
def rootOf (E:Env) (ops:Array Oper):Nat->Tmp->Option (Nat⊕Nat)
 | 0,_=>none
 | n+1,d=>match ZtT ops d with
  | none=>some (.inr d)
  | some j=>match ops[j]? with
   | none=>none
   | some z=>if BU E z = .a then some (.inl j) else match z.op with
    | .fieldAddr _ (.tmp e) _=>rootOf E ops n e
    | .nilCheck (.tmp e)=>rootOf E ops n e
    | .move (.tmp e)=>rootOf E ops n e
    | .indexAddr _ (.tmp e) _=>rootOf E ops n e
    | .call _=>(match Iy z with|some (.tmp e)=>rootOf E ops n e|_=>none)
    | _=>none
def Sj (E:Env) (ops:Array Oper) (o:Oper):Option (Nat⊕Nat):=
 match o.guard,Iy o with
 | none,some (.tmp d)=>rootOf E ops 12 d
 | _,_=>none
def needs (E:Env) (o:Oper):Bool:=match BU E o with | .n=>true | .f=>true | .a=>true | .c=>true|_=>false
def linked (ms:List Nat) (x y:Nat):Bool:=(ms.getD x 0).testBit y||(ms.getD y 0).testBit x
def P7 (E:Env) (ops:Array Oper):List (Nat×(Nat⊕Nat)):=
 let ms:=F8 [] ops.toList
 (List.range ops.size).filterMap fun x=>match ops[x]? with
  | some ox=>(match Sj E ops ox with
   | some t=>if (List.range ops.size).any (fun y=>!linked ms x y&&(match ops[y]? with|some oy=>needs E oy|none=>false)) then some (x,t) else none
   | none=>none)
  | none=>none
def Pj (base:Nat) (s0:List V):Nat⊕Nat->Option Nat
 | .inl j=>some (base+j)
 | .inr d=>match s0.getD d .und with | .ptr id _ _ _=>some id | .BK id _ _ _=>some id|_=>none
def addrOf (E:Env) (s:List V) (o:Oper):V:=match Iy o with|some a=>ev E s a|_=>.no
def Vp (E:Env) (ops:Array Oper) (base:Nat) (s0:List V) (o:Oper):Option Nat:=match o.op with
 | .load _ (.tmp d)=>(rootOf E ops 12 d).bind (Pj base s0)
 | _=>none
def KL (E:Env) (ops:Array Oper) (ms:List Nat) (lt:List (Nat×(Nat⊕Nat))) (s0:List V) (base i:Nat) (s:List V) (o:Oper):Bool:=
 (List.range ops.size).all fun j=>match ops[j]? with
  | none=>true
  | some z=>linked ms i j||((!(isApp o&&Io z)||(lt.any (fun p=>p.1==i)||(match Vp E ops base s0 z,addrOf E s o with|some n,.BK id _ _ _=>id != n|some n,.sl _ _ _=>decide (n<base)|_,_=>false))) &&
    (!(Io o&&isApp z)||(lt.any (fun p=>p.1==j)||(match Vp E ops base s0 o with|some n=>(DR E s o).all (fun i=>i==n)|none=>false))))
def OB (H:Heap) (a:V) (k:Nat):Bool:=match a with
 | .ptr id _ _ tot=>id==k&&(match Cc H id tot with|some b=>!b.row|none=>false)
 | .BK id _ _ _=>id==k&&(match H[id]? with|some b=>b.row|none=>false)
 | _=>false
def GR (E:Env) (ms:List Nat) (lt:List (Nat×(Nat⊕Nat))) (s0:List V) (base i:Nat) (s:List V) (H:Heap) (o:Oper):Bool:=
 lt.all fun p=>match Pj base s0 p.2 with
  | none=>false
  | some k=>if p.1=i then OB H (addrOf E s o) k else !needs E o||(linked ms p.1 i || !(DR E s o).contains k)
def JV (E:Env) (ops:Array Oper) (lt:List (Nat×(Nat⊕Nat))) (x:Nat) (ox oy:Oper):Bool:=
 ox.apart ops oy&&(needs E oy&&lt.any fun p=>p.1==x)
def kS (E:Env) (ops:Array Oper):Bool:=
 let ms:=F8 [] ops.toList
 (List.range ops.size).all fun y=>match ops[y]? with
  | some oy=>oy.after.all (fun e=>!Region.binds .any e||decide (e.on<y)) &&
   (List.range y).all fun x=>(ms.getD y 0).testBit x||(match ops[x]? with|some ox=>Xv E ops ox oy||(JV E ops (P7 E ops) x ox oy||JV E ops (P7 E ops) y oy ox)|none=>true)
  | none=>true
def Dy (E:Env) (f:FuncId):Code->Bool
 | .region id ops true=>!E.calm f id||kS E ops
 | .seq a b=>Dy E f a&&Dy E f b
 | .cond _ a b=>Dy E f a&&Dy E f b
 | .block _ b=>Dy E f b
 | .loop b=>Dy E f b
 | .scope b=>Dy E f b
 | _=>true
def Ry:Box:={ live:=false,row:=true,Dc:=false,elem:=0,Ag:=0,xs:=[],floor:=0 }
def PL:Box:={ live:=false,row:=false,Dc:=false,elem:=0,Ag:=0,xs:=[],floor:=0 }
def VO (E:Env) (ops:Array Oper) (ms:List Nat) (i:Nat):Bool:=
 (List.range ops.size).all fun j=>j==i||(linked ms i j||(match ops[j]? with|some z=>!decide (BU E z = .c)|none=>true))
def Lc (ops:Array Oper) (base:Nat) (H:Heap):Bool:=
 (List.range ops.size).all fun j=>match ops[j]? with|some z=>!OU z||(match H[base+j]? with|some b=>!b.row|none=>false)|none=>true
def Gp (call:CV) (E:Env) (ops:Array Oper) (ms:List Nat) (lt:List (Nat×(Nat⊕Nat))) (s0:List V) (base m:Nat) (i:Nat) (st:St):Option St:=
 match ops[i]? with
 | none=>some st
 | some o=>
  if ((DR E st.s o).all fun id=>decide (id<base)||(decide (base+m<=id)&&VO E ops ms i)||(decide (id<base+m)&&(ms.getD i 0).testBit (id - base)))&&(quietAt E st.s o&&KL E ops ms lt s0 base i st.s o)&&(GR E ms lt s0 base i st.s st.H o&&(!IC E o||(decide (base+m<=st.H.length)&&(!Hr E o||Lc ops base st.H)))) then
   (if BU E o = .a then
    match st.H[base+i]? with
    | some b=>if b.live||b.row then none else JC call E ops (base+i) i st
    | none=>none
    else JC call E ops st.H.length i st)
  else none
def Jk (call:CV) (E:Env) (ops:Array Oper) (ms:List Nat) (lt:List (Nat×(Nat⊕Nat))) (s0:List V) (base m:Nat):List Nat->St->Option St
 | [],st=>some st
 | i::z,st=>match Gp call E ops ms lt s0 base m i st with
  | some st' =>Jk call E ops ms lt s0 base m z st'
  | none=>none
def Qa (call:CV) (E:Env) (ops:Array Oper) (st:St):Option St:=
 let m:=if ops.any (fun o=>decide (BU E o = .a)) then ops.size else 0
 Jk call E ops (F8 [] ops.toList) (P7 E ops) st.s st.H.length m (List.range ops.size) ⟨st.s,st.H++List.replicate m PL⟩
def EO (call:CV) (lp:Code->St->Option (Ex×St)) (E:Env) (f:FuncId):Code->St->Option (Ex×St)
 | .skip,st=>some (.normal,st)
 | .region _ ops false,st=>(Jt call E ops (List.range ops.size) st).map (.normal,·)
 | .region id ops true,st=>if E.calm f id then (Qa call E ops st).map (.normal,·) else none
 | .seq a b,st=>match EO call lp E f a st with
  | some (.normal,st')=>EO call lp E f b st'
  | r=>r
 | .cond c a b,st=>match ev E st.s c with
  | .lit (.bool t)=>if t then EO call lp E f a st else EO call lp E f b st
  | _=>none
 | .block id b,st=>match EO call lp E f b st with
  | some (.exit i,st')=>if i=id then some (.normal,st') else some (.exit i,st')
  | r=>r
 | .loop b,st=>lp b st
 | .scope b,st=>EO call lp E f b st
 | .label _,st=>some (.normal,st)
 | .exit id,st=>some (.exit id,st)
 | .ret,st=>some (.ret,st)
 | _,_=>none
def L9 (call:CV) (E:Env) (f:FuncId):Nat->Code->St->Option (Ex×St)
 | 0,_,_=>none
 | n+1,b,st=>match EO call (L9 call E f n) E f b st with
  | some (.normal,st')=>L9 call E f n b st'
  | r=>r
def resD (E:Env) (H:Heap) (s:List V):ResultVar->Option V
 | .tmp t=>some (s.getD t .und)
 | .cell a t=>LP E H t (s.getD a .und)
def KF (E:Env) (H:Heap) (s:List V) (rs:List ResultVar):Option V:=
 match rs.mapM (resD E H s) with
 | some [v]=>some v
 | some vs=>some (.Ap vs)
 | none=>none
def Jp (call:CV) (n:Nat) (E:Env) (f:FuncId) (fn:Func) (args:List V) (H:Heap):Option (V×Heap):=
 match fn.body with
 | none=>none
 | some c=>match EO call (L9 call E f n) E f c ⟨args++List.replicate (fn.ntmps - args.length) DT,H⟩ with
  | some (.normal,st)|some (.ret,st)=>(KF E st.H st.s fn.results.toList).map (·,st.H)
  | _=>none
mutual
def EJ:V->List Nat
 | .BK id _ _ _=>[id]
 | .ptr id _ _ _=>[id]
 | .agg cs=>DD cs
 | .Ap cs=>DD cs
 | .fn _ a b=>DD a++DD b
 | .GX _ v=>EJ v
 | .Lt cs=>DD cs
 | .FQ id=>[id]
 | _=>[]
def DD:List V->List Nat
 | []=>[]
 | x::xs=>EJ x++DD xs
end
mutual
def Ei (z:Nat->Nat):V->V
 | .BK id off len tot=>.BK (z id) off len tot
 | .ptr id i off tot=>.ptr (z id) i off tot
 | .agg cs=>.agg (Fv z cs)
 | .Ap cs=>.Ap (Fv z cs)
 | .fn f a b=>.fn f (Fv z a) (Fv z b)
 | .GX t v=>.GX t (Ei z v)
 | .Lt cs=>.Lt (Fv z cs)
 | .FQ id=>.FQ (z id)
 | v=>v
def Fv (z:Nat->Nat):List V->List V
 | []=>[]
 | x::xs=>Ei z x::Fv z xs
end
def Su (e:TypeId) (sz:Nat) (H:Heap) (x:V):Option (V×Heap):=
 match x with
 | .sl true _ []=>some (.BK H.length 0 0 0,H++[BO true false e sz []])
 | .CE true _ []=>some (.BK H.length 0 0 0,H++[BO true false e sz []])
 | .BK id off len tot=>if off=0/\len=tot then some (.BK id off len tot,H) else none
 | _=>none
def Ew:Fk->Heap->V->Option (V×Heap)
 | .s _ sz,H,x=>(F9 H x).map fun y=>(Gl sz y,bump H (Ec x))
 | .own e sz,H,x=>Su e sz H x
 | .keep,H,x=>some (x,H)
 | .drop,H,_=>some (.und,H)
def Ef:List Fk->Heap->List V->Option (List V×Heap)
 | [],H,[]=>some ([],H)
 | f::fs,H,x::xs=>match Ew f H x with
  | some (y,H1)=>match Ef fs H1 xs with
   | some (ys,z)=>some (y::ys,z)
   | none=>none
  | none=>none
 | _,_,_=>none
def Ho (fl:List Fk) (H:Heap) (x:V):Option (V×Heap):=
 match x with
 | .agg cs=>(Ef fl H cs).map fun r=>(.agg r.1,r.2)
 | x=>match fl with
  | [f]=>Ew f H x
  | _=>none
def Eu:List (List Fk)->Heap->List V->Option (List V×Heap)
 | [],H,[]=>some ([],H)
 | f::fs,H,x::xs=>match Ho f H x with
  | some (y,H1)=>match Eu fs H1 xs with
   | some (ys,z)=>some (y::ys,z)
   | none=>none
  | none=>none
 | _,_,_=>none
def G9:Nat->List Bf->Heap->List Nat->List Nat->Option (Heap×List Nat)
 | 0,_,_,_,_=>none
 | _+1,_,H,[],seen=>some (H,seen)
 | n+1,fb,H,id::z,seen=>
  if seen.contains id then G9 n fb H z seen else
  match H[id]?,fb with
  | some b,.row fresh::C =>if b.live&&b.row then G9 n C (if fresh then H else bump H [id]) z (seen++[id]) else none
  | some b,.var fl::C =>if b.live && !b.row then
    (match b.xs with
     | [x]=>match Ho fl H x with
      | some (y,H1)=>(match H1[id]? with
       | some b1=>if okV y then G9 n C (H1.set id { b1 with xs:=[y] }) (z++EJ y) (seen++[id]) else none
       | none=>none)
      | none=>none
     | _=>none)
    else none
  | _,_=>none
def EN (z:Nat->Nat) (b:Box):Box:=if b.row then b else { b with xs:=Fv z b.xs }
def GU (H:Heap) (ids:List Nat):Heap:=ids.map fun id=>EN (ids.idxOf ·) ((H[id]?).getD PL)
def pack (fa:List (List Fk)) (fb:List Bf) (k:Nat) (args:List V) (H:Heap):Option (List Nat×List V×Heap):=
 match Eu fa H args with
 | some (as,H1)=>match G9 1000 fb H1 (List.range k++DD as) [] with
  | some (z,ids)=>some (ids,as,z)
  | none=>none
 | none=>none
def Gy (ids:List Nat) (n j:Nat):Nat:=if j<ids.length then ids.getD j 0 else n+(j - ids.length)
def IY:Heap->List Nat->Heap->Heap
 | H,[],bs=>H++bs
 | H,id::ids,b::bs=>IY (H.set id b) ids bs
 | H,_::_,[]=>H
def MV (H:Heap) (ids:List Nat) (z:Heap):Heap:=IY H ids (z.map (EN (Gy ids H.length)))
def JE (C:NC) (args:List V) (H:Heap):Option (V×Heap):=
 match pack C.fa C.fb 0 args H with
 | some (ids,as,z)=>match C.run (Fv (ids.idxOf ·) as) (GU z ids) with
  | some (r,D)=>if ids.length<=D.length then some (Ei (Gy ids z.length) r,MV z ids D) else none
  | none=>none
 | none=>none
def La:List V->List FuncId
 | []=>[]
 | .fn f _ _::vs=>f::La vs
 | _::vs=>La vs
def YW (fa:List (List Fk)) (fb:List Bf) (k:Nat) (C:V) (H:Heap):Option (V×Heap):=
 match C with
 | .Ap vs=>match pack fa fb k vs H with
  | some (ids,as,z)=>if ids.take k=List.range k then some (.Ap (Fv (ids.idxOf ·) as),GU z ids) else none
  | none=>none
 | v=>match pack fa fb k [v] H with
  | some (ids,[a],z)=>if ids.take k=List.range k then some (Ei (ids.idxOf ·) a,GU z ids) else none
  | _=>none
def DY (E:Env):Nat->CV
 | 0,_,_,_=>none
 | n+1,f,args,H=>
  match E.maps f with
  | some l=>(match args with|[x]=>if (DC x).isEmpty then some (mkV l x,H) else none|_=>none)
  | none=>
  match E.env f with
  | some F=>if args.any SC then (match E.own f,KG H args with
    | none,some as=>(match F (Ff E.rows (E.par f) as) with
     | some r=>if Ql r then some (r,bump H (args.flatMap DC)) else none
     | none=>none)
    | _,_=>none)
   else match FC H args with
   | some as=>(match E.own f with
    | none=>(F (Ff E.rows (E.par f) as)).map (·,bump H (args.flatMap DC))
    | some e=>match F (Ff E.rows (E.par f) as) with
     | some (.sl false sz xs)=>some (.BK H.length 0 xs.length xs.length,place (bump H (args.flatMap DC)) H.length (BO true false e sz xs))
     | _=>none)
   | none=>none
  | none=>
   if E.pure f then
    match E.func f with
    | none=>none
    | some fn=>match FC H args with
     | some as=>match Jp (DY E n) n E f fn as [] with
      | some (r,H')=>(JJ H' r).map (·,bump H (args.flatMap DC))
      | none=>none
     | none=>none
   else match E.hm f (if OM E f then [] else La args) with
    | some z=>JE z args H
    | none=>match E.func f with
     | none=>none
     | some fn=>Jp (DY E n) n E f fn args H
def kG (P:Program) (t:TypeId):Option (List FK):=
 match P.underlying t with
 | some (.struct _)|some (.array _ _)=>if P.keyTypeAt 20 t && !P.eqGuardType P.depth t then OW P 20 t else none
 | _=>none
def Z1j (P:Program):Nat->TypeId->List Nat
 | 0,_=>[]
 | d+1,t=>match P.underlying t with
  | some (.slice e)=>[P.cellsOf e]
  | some (.struct fs)=>fs.toList.flatMap fun f=>Z1j P d f.type
  | some (.array n e)=>(List.replicate n (Z1j P d e)).flatten
  | _=>[0]
def rowsOf (P:Program) (t:TypeId):List Nat:=Z1j P 20 t
def JW (P:Program) (pure:FuncId->Bool) (env:FuncId->Option (List V->Option V)):Env where
 P:=P
 ti:=Jv P
 func:=fun f=>P.funcs[f]?
 env:=env
 D5:=fun _=>none
 pure:=pure
 flat:=kG P
 kind:=fun t=>match P.underlying t with|some (.int k)=>some k|_=>none
 isStr:=fun t=>P.underlying t matches some .string
 isBool:=fun t=>P.underlying t matches some .bool
 isBytes:=fun t=>match P.underlying t with|some (.slice e)=>(P.underlying e matches some (.int .u8))|_=>false
 calm:=fun _ _=>true
 rows:=rowsOf P
 par:=fun f=>match P.funcs[f]? with|some fn=>fn.params.toList|none=>[]
 own:=fun _=>none
 hm:=fun _ _=>none
end Go.Proofs.YteinepnbndegdaaGreat.Le
namespace Go.Proofs.YteinepnbndegdaaGreat.Le
open Go.RowKit (Below)
structure Loc where
 v:Value
 tot:Nat
 Ag:Nat
structure Sg where
 box:Nat->Option Loc
 fz:Nat->Nat->Prop
 mp:Nat->Option Nat
def flat (us:List Value):List Value:=us.flatMap fun u=>u.cells.toList
def Lies (σ:Sg) (w:World) (b o:Nat) (us:List Value):Prop:=
 ∀j u,(flat us)[j]? = some u->σ.fz b (o+j)/\w.cell? ⟨b,o+j,none⟩=some u
def Zbb (L:Value) (Ag off len:Nat) (v:Value):Prop:=
 ∃a n c k,L = .slice a n c/\v = .slice (a.map (·.add (k*Ag))) len (c - off)/\off<=c/\k<=off/\(off<c->k=off)
inductive AL (σ:Sg) (w:World):List V->List Value->Prop where
 | nil:AL σ w [] []
 | und (u:Value) {xs vs}:AL σ w xs vs->AL σ w (.und::xs) (u::vs)
 | no {xs vs}:AL σ w xs vs->AL σ w (.no::xs) (undef::vs)
 | lit {v:Value} {xs vs}:leaf v=true->AL σ w xs vs->AL σ w (.lit v::xs) (v::vs)
 | agg {cs ws xs vs}:AL σ w cs ws->(∀u∈ws,u.oneCell' = true)->AL σ w xs vs->AL σ w (.agg cs::xs) (.agg ws.toArray::vs)
 | Ap {cs ws xs vs}:AL σ w cs ws->AL σ w xs vs->AL σ w (.Ap cs::xs) (.tuple ws.toArray::vs)
 | EI {b e xs vs}:AL σ w xs vs->AL σ w (.sl b e []::xs) (.slice none 0 0::vs)
 | Et {e xs vs} (a:Addr):AL σ w xs vs->AL σ w (.sl false e []::xs) (.slice (some a) 0 0::vs)
 | GM {e xs vs} (a:Addr):AL σ w xs vs->AL σ w (.CE false e []::xs) (.slice (some a) 0 0::vs)
 | Fh {b e xs vs}:AL σ w xs vs->AL σ w (.CE b e []::xs) (.slice none 0 0::vs)
 | sl {es us xs vs} (b o c e:Nat):AL σ w es us->(∀x∈es,DU x=true)->(∀u∈us,u.cells.size=e)->(∀u∈flat us,u.oneCell' = true)->es.length<=c->c<=maxLen->Lies σ w b o us->AL σ w xs vs ->
   AL σ w (.sl false e es::xs) (.slice (some ⟨b,o,none⟩) es.length c::vs)
 | CE {es us xs vs} (b o e:Nat):AL σ w es us->(∀x∈es,DU x=true)->(∀u∈us,u.cells.size=e)->(∀u∈flat us,u.oneCell' = true)->es.length<=maxLen->Lies σ w b o us->AL σ w xs vs ->
   AL σ w (.CE false e es::xs) (.slice (some ⟨b,o,none⟩) es.length es.length::vs)
 | BK {id off len tot L v xs vs}:σ.box id=some L->tot<=L.tot->(L.tot=tot->off+len<=tot/\Zbb L.v L.Ag off len v)->(∃a n c,v = .slice a n c)->AL σ w xs vs ->
   AL σ w (.BK id off len tot::xs) (v::vs)
 | ptr {id i off tot L v xs vs} (g:Nat):σ.box id=some L->tot<=L.tot->(L.tot=tot->∃n c,L.v = .slice (some ⟨g,0,none⟩) n c)->v = .pointer (some ⟨g,i*L.Ag+off,none⟩)->AL σ w xs vs ->
   AL σ w (.ptr id i off tot::xs) (v::vs)
 | Bj {es us xs vs} (b o e i off:Nat):AL σ w es us->(∀x∈es,DU x=true)->(∀u∈us,u.cells.size=e)->(∀u∈flat us,u.oneCell' = true)->Lies σ w b o us->AL σ w xs vs ->
   AL σ w (.Bj e es i off::xs) (.pointer (some ⟨b,o+i*e+off,none⟩)::vs)
 | fn {f first caps us ws xs vs}:AL σ w first us->AL σ w caps ws->AL σ w xs vs->AL σ w (.fn f first caps::xs) (.func (.func f) us.toArray ws.toArray::vs)
 | GX {t x u xs vs}:AL σ w [x] [u]->AL σ w xs vs->AL σ w (.GX t x::xs) (.iface t u::vs)
 | FQ {id xs vs} (g:Nat):σ.mp id=some g->AL σ w xs vs->AL σ w (.FQ id::xs) (.map (some g)::vs)
def IE (σ σ' : Sg):Prop:=∀id g,σ.mp id=some g->σ'.mp id=some g
theorem IE.same {σ σ' : Sg} (h:σ'.mp=σ.mp):IE σ σ' :=fun id g z=>by rw[h];exact z
theorem IE.refl (σ:Sg):IE σ σ:=fun _ _ h=>h
theorem IE.trans {σ σ' σ'' : Sg} (h:IE σ σ') (k:IE σ' σ''):IE σ σ'' :=fun id g z=>k id g (h id g z)
structure Ext (σ:Sg) (w:World) (σ' : Sg) (w' : World):Prop where
 box:∀id L,σ.box id=some L->∃L',σ'.box id=some L' /\ L'.Ag=L.Ag/\(L' = L\/L.tot<L'.tot)
 fz:∀b c,σ.fz b c->σ'.fz b c/\w'.cell? ⟨b,c,none⟩=w.cell? ⟨b,c,none⟩
 mp:IE σ σ'
theorem Ext.refl (σ:Sg) (w:World):Ext σ w σ w:=⟨fun id L h=>⟨L,h,rfl,.inl rfl⟩,fun b c h=>⟨h,rfl⟩,IE.refl σ⟩
theorem Ext.trans {σ w σ' w' σ'' w''} (h:Ext σ w σ' w') (k:Ext σ' w' σ'' w''):Ext σ w σ'' w'' :=by
 refine⟨fun id L G=>?_,fun b c hc=>?_,h.mp.trans k.mp⟩
 ·obtain⟨z,D,J,M⟩:=h.box id L G;obtain⟨C,k1,k2,k3⟩:=k.box id z D
  grind
 ·obtain⟨a1,I⟩:=h.fz b c hc;obtain⟨b1,b2⟩:=k.fz b c a1
  simp_all
theorem Lies.ext {σ w σ' w' b o us} (h:Lies σ w b o us) (e:Ext σ w σ' w'):Lies σ' w' b o us:=fun j u C=>by
 obtain⟨z,I⟩:=h j u C;obtain⟨D,G⟩:=e.fz _ _ z
 simp_all
theorem AL.ext {σ w σ' w' xs vs} (h:AL σ w xs vs) (e:Ext σ w σ' w'):AL σ' w' xs vs:=by
 induction h with
 | nil=>exact .nil
 | und u _ D=>exact .und u D
 | no _ D=>exact .no D
 | lit hl _ D=>exact .lit hl D
 | agg _ ho _ z C=>exact .agg z ho C
 | Ap _ _ z C=>exact .Ap z C
 | EI _ D=>exact .EI D
 | Fh _ D=>exact .Fh D
 | Et a _ D=>exact .Et a D
 | GM a _ D=>exact .GM a D
 | sl b o c Q _ R G I J M h5 _ z C=>exact .sl b o c Q z R G I J M (h5.ext e) C
 | CE b o Q _ R G I J M _ z C=>exact .CE b o Q z R G I J (M.ext e) C
 | BK G I J M _ D=>
  obtain⟨Y,k1,k2,k3⟩:=e.box _ _ G;rcases k3 with rfl|k3
  ·exact .BK k1 I J M D
  ·exact .BK k1 (by omega) (fun hh=>by omega) M D
 | ptr g G I J M _ D=>
  obtain⟨Y,k1,k2,k3⟩:=e.box _ _ G;rcases k3 with rfl|k3
  ·exact .ptr g k1 I J M D
  ·exact .ptr g k1 (by omega) (fun hh=>by omega) (by rw[k2];exact M) D
 | Bj b o Q i off _ R G I J _ z C=>exact .Bj b o Q i off z R G I (J.ext e) C
 | fn _ _ _ z C S=>exact .fn z C S
 | GX _ _ z C=>exact .GX z C
 | FQ g G _ D=>exact .FQ g (e.mp _ _ G) D
theorem AL.length {σ w xs vs} (h:AL σ w xs vs):xs.length=vs.length:=by
 induction h<;>simp_all
theorem JU (xs:List V):Be xs=true↔∀x∈xs,Bz x=true:=by
 induction xs with
 | nil=>simp[Be]
 | cons x xs z=>simp[Be,z]
theorem lC {x:V} (h:DU x=true):okV x=true:=by simp[DU]at h;exact h.1
theorem Oy {x:V} (h:DU x=true):Bz x=true:=by simp[DU]at h;exact h.2
theorem Z0h {xs:List V} (h:∀x∈xs,DU x=true):∀x∈xs,okV x=true:=fun x z=>lC (h x z)
theorem Ko {xs:List V} (h:∀x∈xs,DU x=true):Be xs=true:=(JU xs).2 fun x z=>Oy (h x z)
theorem Zkp {x:V} (h:Bz x=true):Be x.cells=true:=by
 cases x<;>simp_all [V.cells,Bz,Be]
theorem AL.Dk {σ w x xs v vs}:AL σ w (x::xs) (v::vs)↔AL σ w [x] [v]/\AL σ w xs vs:=by
 constructor
 ·intro h;cases h with
  | und _ h=>exact⟨.und _ .nil,h⟩
  | no h=>exact⟨.no .nil,h⟩
  | lit Q h=>exact⟨.lit Q .nil,h⟩
  | agg z R h=>exact⟨.agg z R .nil,h⟩
  | Ap z h=>exact⟨.Ap z .nil,h⟩
  | EI h=>exact⟨.EI .nil,h⟩
  | Fh h=>exact⟨.Fh .nil,h⟩
  | Et a h=>exact⟨.Et a .nil,h⟩
  | GM a h=>exact⟨.GM a .nil,h⟩
  | sl b o c e I z C D G J M h=>exact⟨.sl b o c e I z C D G J M .nil,h⟩
  | CE b o e I z C D G J h=>exact⟨.CE b o e I z C D G J .nil,h⟩
  | BK z C D G h=>exact⟨.BK z C D G .nil,h⟩
  | ptr g z C D G h=>exact⟨.ptr g z C D G .nil,h⟩
  | Bj b o e i off I z C D G h=>exact⟨.Bj b o e i off I z C D G .nil,h⟩
  | fn z C h=>exact⟨.fn z C .nil,h⟩
  | GX z h=>exact⟨.GX z .nil,h⟩
  | FQ g z h=>exact⟨.FQ g z .nil,h⟩
 ·rintro ⟨h,k⟩
  cases h with
  | und _ h=>exact .und _ k
  | no h=>exact .no k
  | lit Q h=>exact .lit Q k
  | agg z R h=>exact .agg z R k
  | Ap z h=>exact .Ap z k
  | EI h=>exact .EI k
  | Fh h=>exact .Fh k
  | Et a h=>exact .Et a k
  | GM a h=>exact .GM a k
  | sl b o c e I z C D G J M h=>exact .sl b o c e I z C D G J M k
  | CE b o e I z C D G J h=>exact .CE b o e I z C D G J k
  | BK z C D G h=>exact .BK z C D G k
  | ptr g z C D G h=>exact .ptr g z C D G k
  | Bj b o e i off I z C D G h=>exact .Bj b o e i off I z C D G k
  | fn z C h=>exact .fn z C k
  | GX z h=>exact .GX z k
  | FQ g z h=>exact .FQ g z k
theorem AL.Dx {σ w vs} (h:AL σ w [] vs):vs=[]:=by cases h;rfl
theorem AL.Bd {σ w x xs vs} (h:AL σ w (x::xs) vs):∃v vs',vs=v::vs' /\ AL σ w [x] [v]/\AL σ w xs vs' :=by
 cases vs with
 | nil=>exact absurd h.length (by simp)
 | cons v vs' =>exact⟨v,vs',rfl,(AL.Dk.1 h).1,(AL.Dk.1 h).2⟩
theorem AL.append {σ w xs vs ys us} (h:AL σ w xs vs) (k:AL σ w ys us):AL σ w (xs++ys) (vs++us):=by
 induction xs generalizing vs with
 | nil=>cases h.Dx;exact k
 | cons x xs D=>
  obtain⟨v,G,rfl,z,C⟩:=h.Bd;exact AL.Dk.2 ⟨z,D C⟩
theorem AL.get {σ w xs vs} (h:AL σ w xs vs) {i:Nat} {x:V} (z:xs[i]? = some x):∃v,vs[i]? = some v/\AL σ w [x] [v]:=by
 induction xs generalizing vs i with
 | nil=>simp at z
 | cons y ys I=>
  obtain⟨v,C,rfl,D,G⟩:=h.Bd
  grind
theorem AL.take {σ w xs vs} (h:AL σ w xs vs) (n:Nat):AL σ w (xs.take n) (vs.take n):=by
 induction xs generalizing vs n with
 | nil=>cases h.Dx;simp;exact .nil
 | cons y ys D=>
  obtain⟨v,G,rfl,z,C⟩:=h.Bd;cases n with
  | zero=>exact .nil
  | succ n=>exact AL.Dk.2 ⟨z,D C n⟩
theorem AL.drop {σ w xs vs} (h:AL σ w xs vs) (n:Nat):AL σ w (xs.drop n) (vs.drop n):=by
 induction xs generalizing vs n with
 | nil=>cases h.Dx;simp;exact .nil
 | cons y ys C=>
  obtain⟨v,D,rfl,G,z⟩:=h.Bd;cases n with
  | zero=>exact h
  | succ n=>exact C z n
theorem AL.set {σ w xs vs x v} (h:AL σ w xs vs) (i:Nat) (k:AL σ w [x] [v]):AL σ w (xs.set i x) (vs.set i v):=by
 induction xs generalizing vs i with
 | nil=>cases h.Dx;simp;exact .nil
 | cons y ys D=>
  obtain⟨u,G,rfl,C,z⟩:=h.Bd;cases i with
  | zero=>exact AL.Dk.2 ⟨k,z⟩
  | succ i=>exact AL.Dk.2 ⟨C,D z i⟩
theorem AL.replicate {σ w x v} (n:Nat) (k:AL σ w [x] [v]):AL σ w (List.replicate n x) (List.replicate n v):=by
 induction n with
 | zero=>exact .nil
 | succ n z=>exact AL.Dk.2 ⟨k,z⟩
def noMark (tg:Nat×Nat) (n:Nat):Prop:=tg=(0,0)\/n<=tg.1
def FY (w:World) (base:Nat) (e:TypeId) (size:Nat) (v:Value) (n:Nat) (xs:List Value):Prop:=
 xs.length=n*size /\
 ((v = .slice none 0 0/\n=0) \/
  ∃g cap cur tg,v = .slice (some ⟨g,0,none⟩) n cap/\base<=g/\w.heap[g]? = some (.cells cur e tg)/\noMark tg cur.size/\n<=cap/\cap<=maxLen/\cur.size=cap*size/\cur.toList.take (n*size)=xs)
section
variable {w:World} {base:Nat} {e:TypeId} {size:Nat} {v:Value} {n:Nat} {xs:List Value}
theorem FY.of (h:w.ownsRow base e size v n xs):FY w base e size v n xs:=by
 refine⟨h.1,?_⟩;rcases h.2 with h|⟨g,cap,cur,z,C,D,G⟩
 ·exact .inl h
 ·exact .inr ⟨g,cap,cur,(0,0),z,C,D,.inl rfl,G⟩
theorem VF (w:World) (base:Nat) (e:TypeId) (size:Nat):FY w base e size (.slice none 0 0) 0 []:=.of (World.ownsRow_nil w base e size)
theorem FY.lt (h:FY w base e size v n xs):∀k,v.ownBlock=some k->base<=k/\k<w.heap.size:=by
 intro k z;rcases h.2 with ⟨rfl,_⟩|⟨g,cap,cur,tg,rfl,hb,C,_⟩
 ·simp[Value.ownBlock]at z
 ·simp[Value.ownBlock]at z
  grind
theorem FY.kept {w' : World} {row:Option Nat} (h:FY w base e size v n xs) (G:w.grownBy w' row) (D:v.ownBlock=none\/v.ownBlock≠row):FY w' base e size v n xs:=by
 refine⟨h.1,?_⟩;rcases h.2 with I|⟨g,cap,cur,tg,rfl,hb,z,C⟩
 ·exact .inl I
 ·refine .inr ⟨g,cap,cur,tg,rfl,hb,?_,C⟩;rw[G.block g (Array.getElem?_eq_some_iff.1 z).1 (by simpa[Value.ownBlock]using D)];exact z
theorem FY.cells (h:FY w base e size v n xs) {g:Nat} (C:v.ownBlock=some g):∀j u,xs[j]? = some u->w.cell? ((⟨g,0,none⟩:Addr).add j)=some u:=by
 intro j u z;rcases h.2 with ⟨rfl,_⟩|⟨I,cap,cur,tg,rfl,hb,D,hm,J,hc,M,G⟩
 ·simp[Value.ownBlock]at C
 ·simp only[Value.ownBlock,Option.some.injEq]at C;subst C;rw[Addr.add_mid,Nat.zero_add];rw[<- G,List.getElem?_take]at z;split at z
  ·simp only[World.cell?,D];simpa using z
  ·cases z
end
theorem UO (P:Program) (g o:Nat) (t:TypeId) (tg:Nat×Nat):∀(vs:List Value) (i:Nat) (cur:Array Value) (w:World),w.heap[g]? = some (.cells cur t tg)->noMark tg cur.size->o+i+vs.length<=cur.size->(∀v∈vs,v.oneCell' = true) ->
  (storeCells ⟨g,o,none⟩ vs i).run P w = .ok () (w.setRow g (cur.toList.take (o+i)++vs++cur.toList.drop (o+i+vs.length)).toArray)
 | [],i,cur,w,D,_,_,_=>by
  simp only[storeCells,List.append_nil,List.length_nil,Nat.add_zero,List.take_append_drop,Array.toArray_toList];rw[setRow_self w g cur t tg D];rfl
 | v::z,i,cur,w,D,hm,J,Q=>by
  have hi:o+i<cur.size:=by simp at J;omega
  have G:(⟨g,o,none⟩:Addr).add i=⟨g,o+i,none⟩:=by unfold Addr.add;split<;>simp_all
  have C:w.cell? ⟨g,o+i,none⟩=some cur[o+i]:=by simp[World.cell?,D,hi]
  have I:w.frozen? ⟨g,o+i,none⟩=false:=by
   obtain⟨lo,hi'⟩:=tg;rcases hm with hm|hm
   ·cases hm;simp[World.frozen?,D]
   ·simp only at hm;have:¬lo<=o+i:=by omega
    simp[World.frozen?,D,this]
  have M:(store ((⟨g,o,none⟩:Addr).add i) v).run P w = .ok () (w.setRow g (cur.setIfInBounds (o+i) v)):=by
   rw[G,run_store P w _ v _ (Q v (by simp)),C];simp[I,setCell_eq_setRow w g (o+i) cur t tg v D]
  have S:=UO P g o t tg z (i+1) (cur.setIfInBounds (o+i) v) (w.setRow g (cur.setIfInBounds (o+i) v)) (setRow_heap w g cur _ t _ D) (by simpa using hm) (by simp at J ⊢;omega) (fun x R=>Q x (by simp[R]));simp only[storeCells,Sem.run_bind,M,Result.andThen_ok,S,setRow_setRow];congr 3;have e:=list_seg_step cur.toList (o+i) v z (by simp at J ⊢;omega)
  simp_all<;>omega
theorem Z3K {P:Program} {w:World} (t ty e:TypeId) (i:TypeInfo) (ht:P.underlying t=some (.slice e)) (hi:P.info? e=some i)
  (g C D:Nat) (cur:Array Value) (tg:Nat×Nat) (S:w.heap[g]? = some (.cells cur e tg)) (hm:noMark tg cur.size)
  (a:Addr) (m c:Nat) (z:List Value) (Y:z.length=m*i.size) (G:∀j u,z[j]? = some u->w.cell? (a.add j)=some u) (Q:∀u∈z,u.oneCell' = true)
  (I:C+m<=D) (J:C*i.size+z.length<=cur.size) :
  (Builtin.append_ #[t,t] ty #[.slice (some ⟨g,0,none⟩) C D,.slice (some a) m c]).run P w =
   .ok (.slice (some ⟨g,0,none⟩) (C+m) D) (w.setRow g (cur.toList.take (C*i.size)++z++cur.toList.drop (C*i.size+z.length)).toArray):=by
 have R:=run_firstCells_some (P:=P) w i.size m a m c z Y G;have M:=UO P g (C*i.size) e tg z 0 cur w S hm (by simpa using J) Q;simp only[Nat.add_zero]at M;simp[Builtin.append_,run_underlying ht,sizeOf,typeInfo,hi,Builtin.lenOf,I,R,Addr.add_lit,M]
end Go.Proofs.YteinepnbndegdaaGreat.Le
namespace Go.Proofs.YteinepnbndegdaaGreat.Le
open Go.RowKit (Below)
structure IW (σ:Sg) (w:World) (B:Nat) (bx:Box) (L:Loc):Prop where
 tot:L.tot=bx.xs.length
 Cj:∃us,AL σ w bx.xs us/\(∀u∈us,u.cells.size=L.Ag)/\(∀u∈flat us,u.oneCell' = true)/\FY w B bx.elem L.Ag L.v bx.xs.length (flat us)
 Dc:bx.Dc=true->L.v = .slice none 0 0
 Ag:bx.Ag=L.Ag
 oks:∀x∈bx.xs,okV x=true
 Gg:bx.row=true->∀x∈bx.xs,Bz x=true
structure Start where
 w:World
 fz:Nat->Nat->Prop
 keep:Nat->Prop
abbrev Start.of (w:World) (fz:Nat->Nat->Prop):Start:=⟨w,fz,fun _=>False⟩
theorem X0 {H:Heap} {k:Nat} (h:Eg H k=true):(H[k]? = none/\k=H.length)\/∃b,H[k]? = some b/\(b.live=false/\b.row=false):=by
 unfold Eg at h
 grind
theorem XY (H:Heap):Eg H H.length=true:=by simp[Eg]
theorem Kt {H:Heap} {k:Nat} (h:Eg H k=true) (b:Box) (id:Nat):(place H k b)[id]? = if id=k then some b else H[id]?:=by
 unfold place;rcases X0 h with ⟨_,z⟩|⟨b0,hb,_⟩
 ·grind
 grind
theorem Z8D (H:Heap) (b:Box):place H H.length b=H++[b]:=by simp[place]
structure Nu (B:Nat) (w0:Start) (σ:Sg) (H:Heap) (w:World):Prop where
 ok:∀(id:Nat) (b:Box),H[id]? = some b->EY b=true->∃g es c us,σ.mp id=some g/\w.heap[g]? = some (.map es c)/\AL σ w b.xs us/\us=es.toList.flatMap (fun e=>[e.key,e.val])/\(∀x∈b.xs,DU x=true)
 dom:∀id g,σ.mp id=some g->B<=g/\g<w.heap.size/\¬w0.keep g/\∃b,H[id]? = some b/\EY b=true
 apart:∀id id' g,σ.mp id=some g->σ.mp id' = some g->id=id'
theorem Nu.block {B w0 σ H w} (h:Nu B w0 σ H w) {id g:Nat} (C:σ.mp id=some g):∃es c,w.heap[g]? = some (.map es c):=by
 obtain⟨_,_,_,b,hb,hm⟩:=h.dom id g C;obtain⟨G,es,c,us,z,D,_⟩:=h.ok id b hb hm;rw[C]at z;cases z;exact⟨es,c,D⟩
theorem Nu.step {B w0 σ H w σ' H' w'} (h:Nu B w0 σ H w) (e:Ext σ w σ' w') (G:σ'.mp=σ.mp) (Q:∀(id:Nat) (b:Box),EY b=true->(H'[id]? = some b↔H[id]? = some b))
  (J:w.heap.size<=w'.heap.size) (Y:∀id g,σ.mp id=some g->w'.heap[g]? = w.heap[g]?):Nu B w0 σ' H' w' :=by
 refine⟨fun id b hb hm=>?_,fun id g R=>?_,fun id M g z C=>h.apart id M g (by rw[<- G];exact z) (by rw[<- G];exact C)⟩
 ·obtain⟨g,es,c,us,z,C,I,D⟩:=h.ok id b ((Q id b hm).1 hb) hm;exact⟨g,es,c,us,by rw[G];exact z,(Y id g z).trans C,I.ext e,D⟩
 ·rw[G]at R;obtain⟨z,S,C,b,I,D⟩:=h.dom id g R;exact⟨z,Nat.lt_of_lt_of_le S J,C,b,(Q id b D).2 I,D⟩
theorem Nu.step' {B w0 σ H w σ' H' w'} (h:Nu B w0 σ H w) (e:Ext σ w σ' w') (D:σ'.mp=σ.mp) (hH:∀(id:Nat) (b:Box),H'[id]? = some b->∃b0,H[id]? = some b0/\EY b=EY b0/\b.xs=b0.xs)
  (M : ∀(id:Nat) (b0:Box),H[id]? = some b0->∃b,H'[id]? = some b/\EY b=EY b0)
  (Y:w.heap.size<=w'.heap.size) (hw:∀id g,σ.mp id=some g->w'.heap[g]? = w.heap[g]?):Nu B w0 σ' H' w' :=by
 refine⟨fun id b hb hm=>?_,fun id g hg=>?_,fun id id' g z C=>h.apart id id' g (by rw[<- D];exact z) (by rw[<- D];exact C)⟩
 ·obtain⟨b0,G,S,hx⟩:=hH id b hb;obtain⟨g,es,c,us,z,C,I,J,h5⟩:=h.ok id b0 G (by rw[<- S];exact hm);exact⟨g,es,c,us,by rw[D];exact z,(hw id g z).trans C,by rw[hx];exact I.ext e,J,by rw[hx];exact h5⟩
 ·rw[D]at hg;obtain⟨z,G,C,b,I,J⟩:=h.dom id g hg;obtain⟨b',Q,R⟩:=M id b I;exact⟨z,Nat.lt_of_lt_of_le G Y,C,b',Q,by rw[R];exact J⟩
theorem Z7k {H:Heap} {k:Nat} (G:Eg H k=true) {bx:Box} (I:bx.live=true):∀(id:Nat) (b:Box),EY b=true->((place H k bx)[id]? = some b↔H[id]? = some b):=by
 intro id b hm;rw[Kt G]
 by_cases z:id=k
 ·subst z;rw[if_pos rfl];constructor
  ·intro hh;cases hh;simp[EY,I]at hm
  ·intro hh;rcases X0 G with ⟨J,_⟩|⟨b0,C,D⟩
   ·rw[J]at hh;cases hh
   ·rw[C]at hh;cases hh;simp[EY,D]at hm
 ·rw[if_neg z]
theorem Zoc {H:Heap} {i:Nat} {bx z : Box} (hb:H[i]? = some bx) (G:EY bx=false) (I:EY z = false):∀(id:Nat) (b:Box),EY b=true->((H.set i z)[id]? = some b↔H[id]? = some b):=by
 intro id b hm
 by_cases C:id=i
 ·subst C;rw[hb,List.getElem?_set];constructor
  ·intro hh;split at hh
   ·split at hh
    ·cases hh;rw[I]at hm;cases hm
    ·cases hh
   ·rename_i D;exact absurd rfl D
  ·intro hh;cases hh;rw[G]at hm;cases hm
 ·rw[List.getElem?_set_ne (fun e=>C e.symm)]
structure Inv (B:Nat) (w0:Start) (σ:Sg) (H:Heap) (w:World):Prop where
 below:Below B w0.w w
 size:B<=w.heap.size
 dom:∀id L,σ.box id=some L->∃bx,H[id]? = some bx/\(bx.live=true\/bx.row=true)
 boxes:∀id bx,H[id]? = some bx->bx.live=true->∃L,σ.box id=some L/\IW σ w B bx L
 apart:∀id id' bx bx' L L' g,H[id]? = some bx->H[id']? = some bx' -> bx.live=true->bx'.live=true->σ.box id=some L->σ.box id' = some L' ->
  L.v.ownBlock=some g->L'.v.ownBlock=some g->id=id'
 cells:∀b c,σ.fz b c->∃u,w.cell? ⟨b,c,none⟩=some u
 floor:∀b c,σ.fz b c->∀id bx L,H[id]? = some bx->bx.live=true->σ.box id=some L->L.v.ownBlock=some b->c<bx.floor*L.Ag
 low:∀(id:Nat) (bx:Box),H[id]? = some bx->bx.live=true->bx.floor<=bx.xs.length
 old:∀b c,σ.fz b c->b<B->w0.fz b c
 kept:∀b,w0.keep b->b<w.heap.size/\w.heap[b]? = w0.w.heap[b]? /\ (∀id L,σ.box id=some L->L.v.ownBlock≠some b)/\∀c,σ.fz b c->w0.fz b c
 maps:Nu B w0 σ H w
theorem Inv.kY {B w0 σ H w} (h:Inv B w0 σ H w) {id L} (hb:σ.box id=some L):id<H.length:=by
 obtain⟨bx,z,_⟩:=h.dom id L hb
 grind
theorem cell_lt {w:World} {b c:Nat} {u:Value} (h:w.cell? ⟨b,c,none⟩=some u):b<w.heap.size:=block_lt_of_cell h
theorem IW.kept {σ w B bx L σ' w'} {row:Option Nat} (h:IW σ w B bx L) (e:Ext σ w σ' w') (J:w.grownBy w' row) (z:L.v.ownBlock=none\/L.v.ownBlock≠row):IW σ' w' B bx L:=by
 obtain⟨us,C,D,G,I⟩:=h.Cj;exact⟨h.tot,⟨us,C.ext e,D,G,I.kept J z⟩,h.Dc,h.Ag,h.oks,h.Gg⟩
theorem IW.block_lt {σ w B bx L g} (h:IW σ w B bx L) (C:L.v.ownBlock=some g):B<=g/\g<w.heap.size:=by
 obtain⟨us,D,G,I,z⟩:=h.Cj;exact z.lt g C
theorem ZlO {w:World} {base:Nat} {e:TypeId} {size:Nat} {v:Value} {n:Nat} {xs:List Value} (h:FY w base e size v n xs) {g:Nat} (z:v.ownBlock=some g):∃cur t tg,w.heap[g]? = some (.cells cur t tg):=by
 rcases h.2 with ⟨rfl,_⟩|⟨D,cap,cur,tg,rfl,_,C,_⟩
 ·simp[Value.ownBlock]at z
 ·simp[Value.ownBlock]at z
  simp_all
theorem IW.Z0U {σ w B bx L g} (h:IW σ w B bx L) (C:L.v.ownBlock=some g) {es:Array MapEntry} {c:Nat} (hm:w.heap[g]? = some (.map es c)):False:=by
 obtain⟨us,D,G,I,z⟩:=h.Cj;obtain⟨cur,t,tg,hc⟩:=ZlO z C
 simp_all
theorem Inv.grown {B w0 σ H w w'} (h:Inv B w0 σ H w) (C:w.grownBy w' none):Inv B w0 σ H w' /\ Ext σ w σ w' :=by
 have z:∀b c,b<w.heap.size->w'.cell? ⟨b,c,none⟩=w.cell? ⟨b,c,none⟩:=fun b c hb=>
  World.cell?_of_block (C.block b hb (by simp))
 have e:Ext σ w σ w' :=⟨fun id L G=>⟨L,G,rfl,.inl rfl⟩,fun b c hc=>⟨hc,by
  obtain⟨u,D⟩:=h.cells b c hc;exact z b c (cell_lt D)⟩,IE.same rfl⟩
 refine⟨⟨h.below.grown C h.size (by simp),Nat.le_trans h.size C.size,h.dom,?_,h.apart,?_,h.floor,h.low,h.old,fun b hb=>?_,h.maps.step e rfl (fun _ _ _=>Iff.rfl) C.size fun id g hm=>C.block g (h.maps.dom id g hm).2.1 (by simp)⟩,e⟩
 ·intro id bx hb J;obtain⟨L,G,I⟩:=h.boxes id bx hb J;refine⟨L,G,I.kept e C ?_⟩
  grind
 ·intro b c hc;obtain⟨u,D⟩:=h.cells b c hc;exact⟨u,(z b c (cell_lt D)).trans D⟩
 ·obtain⟨k1,k2,k3,k4⟩:=h.kept b hb;exact⟨Nat.lt_of_lt_of_le k1 C.size,(C.block b k1 (by simp)).trans k2,k3,k4⟩
def Sg.put (σ:Sg) (id:Nat) (L:Loc):Sg:={ σ with box:=fun i=>if i=id then some L else σ.box i }
theorem Inv.push {B w0 σ H w w'} (h:Inv B w0 σ H w) (hg:w.grownBy w' none) {k:Nat} (hk:Eg H k=true) (bx:Box) (hlive:bx.live=true) (L:Loc) (hlow:bx.floor<=bx.xs.length)
  (hnew:∀g,L.v.ownBlock=some g->w.heap.size<=g) (hok:Ext σ w (σ.put k L) w' -> IW (σ.put k L) w' B bx L) :
  Inv B w0 (σ.put k L) (place H k bx) w' /\ Ext σ w (σ.put k L) w' :=by
 have hnone:σ.box k=none:=by
  cases hb:σ.box k with
  | none=>rfl
  | some R =>
   exfalso;obtain⟨b1,c1,c2⟩:=h.dom _ _ hb;rcases X0 hk with ⟨hn,_⟩|⟨b0,hb0,hl0⟩
   ·rw[hn]at c1;cases c1
   simp_all
 obtain⟨h',e0⟩:=h.grown hg;have e:Ext σ w (σ.put k L) w' :=by
  refine⟨fun id R C =>⟨R,?_,rfl,.inl rfl⟩,e0.fz,e0.mp⟩;have:id≠k:=fun hh=>by simp_all
  simp[Sg.put,this,C]
 have e' : Ext σ w' (σ.put k L) w' :=by
  refine⟨e.box,fun b c hc=>⟨hc,rfl⟩,IE.same rfl⟩
 have I:∀id bx',id≠k->(place H k bx)[id]? = some bx' -> H[id]? = some bx' :=by
  intro id bx' z hh;rw[Kt hk,if_neg z]at hh;exact hh
 have hget:(place H k bx)[k]? = some bx:=by rw[Kt hk,if_pos rfl]
 refine⟨⟨h'.below,h'.size,?_,?_,?_,h'.cells,?_,?_,h'.old,fun b hb=>?_,h'.maps.step e' rfl (Z7k hk hlive) (Nat.le_refl _) fun _ _ _=>rfl⟩,e⟩
 ·intro id R C
  by_cases z:id=k
  ·simp_all
  ·simp only[Sg.put,z,if_false]at C;obtain⟨b1,c1,c2⟩:=h.dom id R C;exact⟨b1,by rw[Kt hk,if_neg z];exact c1,c2⟩
 ·intro id bx' hb hl
  by_cases z:id=k
  ·subst z;rw[hget]at hb;cases hb;exact⟨L,by simp[Sg.put],hok e⟩
  ·obtain⟨R,C,D⟩:=h'.boxes id bx' (I id bx' z hb) hl;refine⟨R,by simp[Sg.put,z,C],?_⟩;obtain⟨us,h1,h2,h3,h4⟩:=D.Cj;exact⟨D.tot,⟨us,h1.ext e',h2,h3,h4⟩,D.Dc,D.Ag,D.oks,D.Gg⟩
 ·intro id Q S Y L1 L2 g hb1 hb2 hl1 hl2 J M hg1 hg2
  by_cases z:id=k
  ·by_cases G : Q = k
   ·rw[z,G]
   ·exfalso;subst z;simp only[Sg.put,if_true]at J;cases J;simp only[Sg.put,G,if_false]at M;have hb2' :=I Q Y G hb2;obtain⟨R,C,D⟩:=h.boxes Q Y hb2' hl2;rw[M]at C;cases C;have:=(D.block_lt hg2).2
    grind
  ·by_cases G : Q = k
   ·exfalso;subst G;simp only[Sg.put,if_true]at M;cases M;simp only[Sg.put,z,if_false]at J;have hb1' :=I id S z hb1;obtain⟨R,C,D⟩:=h.boxes id S hb1' hl1;rw[J]at C;cases C;have:=(D.block_lt hg1).2
    grind
   ·simp only[Sg.put,z,G,if_false]at J M;exact h.apart id Q S Y L1 L2 g (I id S z hb1) (I Q Y G hb2) hl1 hl2 J M hg1 hg2
 ·intro b c hc id bx' R hb hl C hg'
  by_cases z:id=k
  ·exfalso;subst z;simp only[Sg.put,if_true]at C;cases C;obtain⟨u,hu⟩:=h.cells b c hc;have:=cell_lt hu
   grind
  ·simp only[Sg.put,z,if_false]at C;exact h.floor b c hc id bx' R (I id bx' z hb) hl C hg'
 ·intro id bx' hb hl
  by_cases z:id=k
  ·simp_all
  ·exact h.low id bx' (I id bx' z hb) hl
 ·obtain⟨k1,k2,k3,k4⟩:=h'.kept b hb;refine⟨k1,k2,fun id R C hg' =>?_,k4⟩
  by_cases z:id=k
  ·subst z;simp only[Sg.put,if_true]at C;cases C;have:=(h.kept b hb).1
   grind
  ·simp only[Sg.put,z,if_false]at C;exact k3 id R C hg'
theorem Inv.Zpy {B w0 σ H w} (h:Inv B w0 σ H w) {k:Nat} (hk:Eg H k=true) (bx:Box) (Y:bx.live=true) (L:Loc) (hlow:bx.floor<=bx.xs.length)
  (hap:∀id bx' J g,H[id]? = some bx' -> bx'.live=true->σ.box id=some J -> J.v.ownBlock=some g->L.v.ownBlock≠some g) (hfz:∀g c,L.v.ownBlock=some g->¬σ.fz g c) (hkp:∀g,L.v.ownBlock=some g->¬w0.keep g)
  (hok:IW (σ.put k L) w B bx L):Inv B w0 (σ.put k L) (place H k bx) w/\Ext σ w (σ.put k L) w:=by
 have hnone:σ.box k=none:=by
  cases hb:σ.box k with
  | none=>rfl
  | some J =>
   exfalso;obtain⟨b1,c1,c2⟩:=h.dom _ _ hb;rcases X0 hk with ⟨hn,_⟩|⟨b0,hb0,hl0⟩
   ·rw[hn]at c1;cases c1
   simp_all
 have e:Ext σ w (σ.put k L) w:=by
  refine⟨fun id J C =>⟨J,?_,rfl,.inl rfl⟩,fun b c hc=>⟨hc,rfl⟩,IE.same rfl⟩;have:id≠k:=fun hh=>by simp_all
  simp[Sg.put,this,C]
 have I:∀id bx',id≠k->(place H k bx)[id]? = some bx' -> H[id]? = some bx' :=by
  intro id bx' z hh;rw[Kt hk,if_neg z]at hh;exact hh
 have hget:(place H k bx)[k]? = some bx:=by rw[Kt hk,if_pos rfl]
 refine⟨⟨h.below,h.size,?_,?_,?_,h.cells,?_,?_,h.old,fun b hb=>?_,h.maps.step e rfl (Z7k hk Y) (Nat.le_refl _) fun _ _ _=>rfl⟩,e⟩
 ·intro id J C
  by_cases z:id=k
  ·simp_all
  ·simp only[Sg.put,z,if_false]at C;obtain⟨b1,c1,c2⟩:=h.dom id J C;exact⟨b1,by rw[Kt hk,if_neg z];exact c1,c2⟩
 ·intro id bx' hb hl
  by_cases z:id=k
  ·subst z;rw[hget]at hb;cases hb;exact⟨L,by simp[Sg.put],hok⟩
  ·obtain⟨J,C,G⟩:=h.boxes id bx' (I id bx' z hb) hl;refine⟨J,by simp[Sg.put,z,C],?_⟩;obtain⟨us,h1,h2,h3,h4⟩:=G.Cj;exact⟨G.tot,⟨us,h1.ext e,h2,h3,h4⟩,G.Dc,G.Ag,G.oks,G.Gg⟩
 ·intro id S bx1 bx2 L1 L2 g hb1 hb2 hl1 hl2 M Q hg1 hg2
  by_cases z:id=k
  ·by_cases D : S = k
   ·rw[z,D]
   ·exfalso;subst z;simp only[Sg.put,if_true]at M;cases M;simp only[Sg.put,D,if_false]at Q
    grind
  ·by_cases D : S = k
   ·exfalso;subst D;simp only[Sg.put,if_true]at Q;cases Q;simp only[Sg.put,z,if_false]at M
    grind
   ·simp only[Sg.put,z,D,if_false]at M Q;exact h.apart id S bx1 bx2 L1 L2 g (I id bx1 z hb1) (I S bx2 D hb2) hl1 hl2 M Q hg1 hg2
 ·intro b c hc id bx' J hb hl C R
  by_cases z:id=k
  ·exfalso;subst z;simp only[Sg.put,if_true]at C;cases C;exact hfz b c R hc
  ·simp only[Sg.put,z,if_false]at C;exact h.floor b c hc id bx' J (I id bx' z hb) hl C R
 ·intro id bx' hb hl
  by_cases z:id=k
  ·simp_all
  ·exact h.low id bx' (I id bx' z hb) hl
 ·obtain⟨k1,k2,k3,k4⟩:=h.kept b hb;refine⟨k1,k2,fun id J C R =>?_,k4⟩
  by_cases z:id=k
  ·subst z;simp only[Sg.put,if_true]at C
   simp_all
  ·simp only[Sg.put,z,if_false]at C;exact k3 id J C R
theorem Inv.upd {B w0 σ H w w'} (h:Inv B w0 σ H w) {id:Nat} {bx:Box} {L:Loc} (hb:H[id]? = some bx) (hl:bx.live=true) (hL:σ.box id=some L)
  (hg:w.grownBy w' L.v.ownBlock) (bx' : Box) (hlive:bx'.live=true) (I : Loc) (hesz:I.Ag=L.Ag) (htot:I = L\/L.tot<I.tot) (hfl:bx'.floor=bx.floor) (hlen' : bx.xs.length<=bx'.xs.length)
  (S:∀g,I.v.ownBlock=some g->L.v.ownBlock=some g\/w.heap.size<=g)
  (hkeep:∀g c,L.v.ownBlock=some g->c<bx.floor*L.Ag->w'.cell? ⟨g,c,none⟩=w.cell? ⟨g,c,none⟩)
  (hok:Ext σ w (σ.put id I) w' -> IW (σ.put id I) w' B bx' I) :
  Inv B w0 (σ.put id I) (H.set id bx') w' /\ Ext σ w (σ.put id I) w' :=by
 have hlen:id<H.length:=h.kY hL;obtain⟨L0,hL0,hok0⟩:=h.boxes id bx hb hl;rw[hL]at hL0;cases hL0;have Q:∀b c,σ.fz b c->w'.cell? ⟨b,c,none⟩=w.cell? ⟨b,c,none⟩:=by
  intro b c hc;obtain⟨u,hu⟩:=h.cells b c hc
  by_cases hown:L.v.ownBlock=some b
  ·exact hkeep b c hown (h.floor b c hc id bx L hb hl hL hown)
  ·exact World.cell?_of_block (hg.block b (cell_lt hu) (fun hh=>hown hh.symm))
 have e:Ext σ w (σ.put id I) w' :=by
  refine⟨fun i J z=>?_,fun b c hc=>⟨hc,Q b c hc⟩,IE.same rfl⟩
  by_cases hi:i=id
  ·subst hi;rw[hL]at z;cases z;exact⟨I,by simp[Sg.put],hesz,htot⟩
  ·exact⟨J,by simp[Sg.put,hi,z],rfl,.inl rfl⟩
 have D:∀i b,i≠id->(H.set id bx')[i]? = some b->H[i]? = some b:=by
  intro i b hi hh;rw[List.getElem?_set_ne (fun e=>hi e.symm)]at hh;exact hh
 have R:(H.set id bx')[id]? = some bx' :=by simp[hlen]
 refine⟨⟨?_,Nat.le_trans h.size hg.size,?_,?_,?_,?_,?_,?_,h.old,fun b hb=>?_,h.maps.step e rfl (Zoc hb (by simp[EY,hl]) (by simp[EY,hlive])) hg.size fun i g hm=>hg.block g (h.maps.dom i g hm).2.1 (fun hh=>by obtain⟨es,c,hmm⟩:=h.maps.block hm;exact hok0.Z0U hh.symm hmm)⟩,e⟩
 ·exact h.below.grown hg h.size (fun k hk=>(hok0.block_lt hk).1)
 ·intro i J z
  by_cases hi:i=id
  ·simp_all
  ·simp only[Sg.put,hi,if_false]at z;obtain⟨b1,c1,c2⟩:=h.dom i J z
   grind
 ·intro i b C G
  by_cases hi:i=id
  ·subst hi;rw[R]at C;cases C;exact⟨I,by simp[Sg.put],hok e⟩
  ·have hib' :=D i b hi C;obtain⟨J,z,hoki⟩:=h.boxes i b hib' G;refine⟨J,by simp[Sg.put,hi,z],hoki.kept e hg ?_⟩;cases hLb:J.v.ownBlock with
   | none=>exact .inl rfl
   | some g=>
    right;intro hh;exact hi (h.apart i id b bx J L g hib' hb G hl z hL hLb hh.symm)
 ·intro i j b1 b2 L1 L2 g h1 h2 l1 l2 s1 s2 g1 g2
  by_cases hi:i=id
  ·by_cases hj:j=id
   ·rw[hi,hj]
   ·exfalso;subst hi;simp only[Sg.put,if_true]at s1;cases s1;simp only[Sg.put,hj,if_false]at s2;have h2' :=D j b2 hj h2;obtain⟨L3,M,Y⟩:=h.boxes j b2 h2' l2;rw[s2]at M;cases M;rcases S g g1 with hh|hh
    ·exact hj (h.apart j i b2 bx L2 L g h2' hb l2 hl s2 hL g2 hh)
    ·have:=(Y.block_lt g2).2;omega
  ·by_cases hj:j=id
   ·exfalso;subst hj;simp only[Sg.put,if_true]at s2;cases s2;simp only[Sg.put,hi,if_false]at s1;have h1' :=D i b1 hi h1;obtain⟨L3,M,Y⟩:=h.boxes i b1 h1' l1;rw[s1]at M;cases M;rcases S g g2 with hh|hh
    ·exact hi (h.apart i j b1 bx L1 L g h1' hb l1 hl s1 hL g1 hh)
    ·have:=(Y.block_lt g1).2;omega
   ·simp only[Sg.put,hi,hj,if_false]at s1 s2;exact h.apart i j b1 b2 L1 L2 g (D i b1 hi h1) (D j b2 hj h2) l1 l2 s1 s2 g1 g2
 ·intro b c hc;obtain⟨u,hu⟩:=h.cells b c hc;exact⟨u,(Q b c hc).trans hu⟩
 ·intro b c hc i b' J C G z hgi
  by_cases hi:i=id
  ·subst hi;rw[R]at C;cases C;simp only[Sg.put,if_true]at z;cases z;rw[hfl,hesz];rcases S b hgi with hh|hh
   ·exact h.floor b c hc i bx L hb hl hL hh
   ·obtain⟨u,hu⟩:=h.cells b c hc;have:=cell_lt hu;omega
  ·simp only[Sg.put,hi,if_false]at z;exact h.floor b c hc i b' J (D i b' hi C) G z hgi
 ·intro i b' C G
  by_cases hi:i=id
  ·subst hi;rw[R]at C;cases C;rw[hfl];exact Nat.le_trans (h.low i bx hb hl) hlen'
  ·exact h.low i b' (D i b' hi C) G
 ·obtain⟨k1,k2,k3,k4⟩:=h.kept b hb;refine⟨Nat.lt_of_lt_of_le k1 hg.size,(hg.block b k1 (fun hh=>k3 id L hL hh.symm)).trans k2,fun i J z hgi=>?_,k4⟩
  by_cases hi:i=id
  ·subst hi;simp only[Sg.put,if_true]at z
   grind
  ·simp only[Sg.put,hi,if_false]at z;exact k3 i J z hgi
end Go.Proofs.YteinepnbndegdaaGreat.Le
namespace Go.Proofs.YteinepnbndegdaaGreat.Le
open Go.RowKit (Below)
theorem flat_nil:flat []=[]:=rfl
theorem KD (u:Value) (us:List Value):flat (u::us)=u.cells.toList++flat us:=rfl
theorem Nc (us vs:List Value):flat (us++vs)=flat us++flat vs:=by simp[flat]
theorem flat_length {us:List Value} {e:Nat} (h:∀u∈us,u.cells.size=e):(flat us).length=us.length*e:=by
 induction us with
 | nil=>simp[flat_nil]
 | cons u us C=>
  rw[KD,List.length_append,C (fun v z=>h v (by simp[z]))]
  grind
theorem gX {us:List Value} {e:Nat} (h:∀u∈us,u.cells.size=e) (k:Nat):∀u∈us.drop k,u.cells.size=e:=fun u z=>h u (List.mem_of_mem_drop z)
theorem XO {us:List Value} {e:Nat} (h:∀u∈us,u.cells.size=e) (k:Nat):∀u∈us.take k,u.cells.size=e:=fun u z=>h u (List.mem_of_mem_take z)
theorem ZK {us:List Value} {e:Nat} (h:∀u∈us,u.cells.size=e) (k:Nat):flat (us.drop k)=(flat us).drop (k*e):=by
 induction us generalizing k with
 | nil=>simp[flat_nil]
 | cons u us I=>
  cases k with
  | zero=>simp
  | succ k=>
   have z:=h u (by simp);rw[List.drop_succ_cons,I (fun v G=>h v (by simp[G])),KD,Nat.add_mul,Nat.one_mul,List.drop_append];have C:k*e+e - u.cells.toList.length=k*e:=by simp[z]
   have D:u.cells.toList.drop (k*e+e)=[]:=by apply List.drop_eq_nil_of_le;simp[z]
   rw[C,D,List.nil_append]
theorem X3 {us:List Value} {e:Nat} (h:∀u∈us,u.cells.size=e) (k:Nat):flat (us.take k)=(flat us).take (k*e):=by
 induction us generalizing k with
 | nil=>simp[flat_nil]
 | cons u us C=>
  cases k with
  | zero=>simp[flat_nil]
  | succ k=>
   have D:=h u (by simp);rw[List.take_succ_cons,KD,C (fun v z=>h v (by simp[z])),KD,Nat.add_mul,Nat.one_mul,List.take_append]
   grind
theorem Z00 {us:List Value} {e:Nat} (h:∀u∈us,u.cells.size=e) (off len:Nat):flat ((us.drop off).take len)=((flat us).drop (off*e)).take (len*e):=by
 rw[X3 (gX h off),ZK h]
theorem Zaf {us:List Value} {e:Nat} (h:∀u∈us,u.cells.size=e) {i:Nat} {u:Value} (z:us[i]? = some u):∀j,j<e->(flat us)[i*e+j]? = u.cells.toList[j]?:=by
 induction us generalizing i with
 | nil=>simp at z
 | cons v us G=>
  intro j D;have C:=h v (by simp);cases i with
  | zero=>
   simp at z;subst z;rw[KD,Nat.zero_mul,Nat.zero_add,List.getElem?_append_left (by simp[C];exact D)]
  | succ i=>
   simp at z;have:=G (fun v C=>h v (by simp[C])) z j D;rw[KD,List.getElem?_append_right (by simp[C,Nat.add_mul];omega),<- this]
   grind
theorem ZV {us:List Value} {e:Nat} (h:∀u∈us,u.cells.size=e) {i:Nat} {u D : Value} (z:us[i]? = some u) (G : D.cells.size=e) :
  flat (us.set i D)=(flat us).take (i*e)++D.cells.toList++(flat us).drop (i*e+e):=by
 induction us generalizing i with
 | nil=>simp at z
 | cons v us I=>
  have C:=h v (by simp);cases i with
  | zero=>
   simp at z;subst z;rw[List.set_cons_zero,KD,KD];simp[C]
  | succ i=>
   simp at z;rw[List.set_cons_succ,KD,I (fun v C=>h v (by simp[C])) z,KD,Nat.add_mul,Nat.one_mul];rw[List.take_append,List.drop_append];have J:i*e+e - v.cells.toList.length=i*e:=by simp[C]
   have M:v.cells.toList.take (i*e+e)=v.cells.toList:=by apply List.take_of_length_le;simp[C]
   simp_all
theorem ZW {us:List Value} (h:∀u∈flat us,u.oneCell' = true) (k:Nat):∀u∈flat (us.drop k),u.oneCell' = true:=by
 intro u z;apply h;simp only[flat,List.mem_flatMap]at z ⊢
 grind
theorem jG {us:List Value} (h:∀u∈flat us,u.oneCell' = true) (k:Nat):∀u∈flat (us.take k),u.oneCell' = true:=by
 intro u z;apply h;simp only[flat,List.mem_flatMap]at z ⊢
 grind
def fzOf (σ:Sg) (H:Heap) (ids:List Nat) (b c:Nat):Prop:=
 ∃id bx L,id∈ids/\H[id]? = some bx/\bx.live=true/\σ.box id=some L/\L.v.ownBlock=some b/\c<bx.xs.length*L.Ag
def Sg.freeze (σ:Sg) (H:Heap) (ids:List Nat):Sg:={ σ with fz:=fun b c=>σ.fz b c\/fzOf σ H ids b c }
theorem Ic (H:Heap) (ids:List Nat) (i:Nat):(bump H ids)[i]? = (H[i]?).map fun b=>if i∈ids then { b with floor:=b.xs.length } else b:=by
 induction ids generalizing H with
 | nil=>simp[bump]
 | cons k C z=>
  rw[bump,z,List.getElem?_modify]
  grind
theorem bump_length (H:Heap) (ids:List Nat):(bump H ids).length=H.length:=by
 induction ids generalizing H with
 | nil=>rfl
 | cons k C z=>rw[bump,z];simp
theorem Zmh (H:Heap) (ids:List Nat) (k:Nat):Eg (bump H ids) k=Eg H k:=by
 unfold Eg;rw[Ic,bump_length]
 grind
theorem Z5Y {w:World} {B:Nat} {e:TypeId} {Ag:Nat} {v:Value} {n:Nat} {xs:List Value} {g:Nat} (h:FY w B e Ag v n xs) (z:v.ownBlock=some g) :
  ∀j u,xs[j]? = some u->w.cell? ⟨g,j,none⟩=some u:=by
 intro j u C;have:=h.cells z j u C;rw[Addr.add_mid,Nat.zero_add]at this;exact this
theorem Inv.freeze {B w0 σ H w} (h:Inv B w0 σ H w) (ids:List Nat):Inv B w0 (σ.freeze H ids) (bump H ids) w/\Ext σ w (σ.freeze H ids) w:=by
 have e:Ext σ w (σ.freeze H ids) w:=⟨fun id L J=>⟨L,J,rfl,.inl rfl⟩,fun b c hc=>⟨.inl hc,rfl⟩,IE.same rfl⟩;have C:∀i b,(bump H ids)[i]? = some b->∃b0,H[i]? = some b0/\b.live=b0.live/\b.xs=b0.xs/\b.elem=b0.elem/\b.Ag=b0.Ag/\b.Dc=b0.Dc/\b.row=b0.row/\(b.floor=if i∈ids then b0.xs.length else b0.floor):=by
  intro i b hb;rw[Ic]at hb;cases hh:H[i]? with
  | none=>simp[hh]at hb
  | some b0=>
   grind
 refine⟨⟨h.below,h.size,fun id L J=>by
  obtain⟨b1,c1,c2⟩:=h.dom id L J;exact⟨if id∈ids then { b1 with floor:=b1.xs.length } else b1,by rw[Ic,c1];rfl,by split<;>exact c2⟩,?_,?_,?_,?_,?_,?_,?_,h.maps.step' e rfl (fun i b hb=>by obtain⟨b0,G,Y,M,_,_,h5,h6,_⟩:=C i b hb;exact⟨b0,G,by simp[EY,Y,h5,h6],M⟩) (fun i b0 G=>⟨if i∈ids then { b0 with floor:=b0.xs.length } else b0,by rw[Ic,G];rfl,by split<;>rfl⟩) (Nat.le_refl _) fun _ _ _=>rfl⟩,e⟩
 ·intro id bx hb hl;obtain⟨b0,G,Y,M,h3,h4,h5,h6,_⟩:=C id bx hb;obtain⟨L,J,z⟩:=h.boxes id b0 G (by rw[<- Y];exact hl);obtain⟨us,r1,r2,r3,r4⟩:=z.Cj;refine⟨L,J,⟨by rw[M];exact z.tot,⟨us,?_,r2,r3,?_⟩,by rw[h5];exact z.Dc,by rw[h4];exact z.Ag,by rw[M];exact z.oks,fun hr=>by rw[M];exact z.Gg (by rw[<- h6];exact hr)⟩⟩
  ·rw[M];exact r1.ext e
  simp_all
 ·intro i j b1 b2 L1 L2 g Y M l1 l2 s1 s2 g1 g2;obtain⟨c1,k1,k2,_⟩:=C i b1 Y;obtain⟨c2,m1,m2,_⟩:=C j b2 M;exact h.apart i j c1 c2 L1 L2 g k1 m1 (by rw[<- k2];exact l1) (by rw[<- m2];exact l2) s1 s2 g1 g2
 ·intro b c hc;rcases hc with hc|⟨id,bx,L,_,hb,hl,J,hg,R⟩
  ·exact h.cells b c hc
  ·obtain⟨L',D,z⟩:=h.boxes id bx hb hl;rw[J]at D;cases D;obtain⟨us,r1,r2,r3,r4⟩:=z.Cj;have hlen:c<(flat us).length:=by rw[r4.1];exact R
   exact⟨_,Z5Y r4 hg c _ (List.getElem?_eq_getElem hlen)⟩
 ·intro b c hc i bx L hb hl J hg;obtain⟨b0,G,Y,M,h3,h4,h5,_,h6⟩:=C i bx hb;have hl0:b0.live=true:=by rw[<- Y];exact hl
  rcases hc with hc|⟨id,S,L',hid,I,hl',D,hg',R⟩
  ·have:=h.floor b c hc i b0 L G hl0 J hg;rw[h6];split
   ·obtain⟨L2,Q,z⟩:=h.boxes i b0 G hl0;rw[show σ.box i=some L from J]at Q;cases Q;obtain⟨u,hu⟩:=h.cells b c hc;exact Nat.lt_of_lt_of_le this (Nat.mul_le_mul_right _ (h.low i b0 G hl0))
   ·exact this
  ·have hi:id=i:=h.apart id i S b0 L' L b I G hl' hl0 D J hg' hg;subst hi;rw[G]at I;cases I;rw[show σ.box id=some L from J]at D;cases D;rw[h6,if_pos hid];exact R
 ·intro i bx hb hl;obtain⟨b0,G,Y,M,h3,h4,h5,_,h6⟩:=C i bx hb;rw[h6,M];split
  ·exact Nat.le_refl _
  ·exact h.low i b0 G (by rw[<- Y];exact hl)
 ·intro b c hc R;rcases hc with hc|⟨id,S,L',hid,I,hl',D,hg',hlt'⟩
  ·exact h.old b c hc R
  ·obtain⟨L2,Q,z⟩:=h.boxes id S I hl';rw[show σ.box id=some L' from D]at Q;cases Q;have:=(z.block_lt hg').1;omega
 ·intro b hb;obtain⟨k1,k2,k3,k4⟩:=h.kept b hb;refine⟨k1,k2,k3,fun c hc=>?_⟩;rcases hc with hc|⟨id,S,L',hid,I,hl',D,hg',hlt'⟩
  ·exact k4 c hc
  grind
end Go.Proofs.YteinepnbndegdaaGreat.Le
namespace Go.Proofs.YteinepnbndegdaaGreat.Le
open Go.RowKit (Below)
theorem Un {H:Heap} {id tot:Nat} {b:Box} (h:Cc H id tot=some b):H[id]? = some b/\b.live=true/\b.xs.length=tot:=by
 unfold Cc at h
 grind
structure Met (B:Nat) (w0:Start) (σ:Sg) (H:Heap) (w:World) (id:Nat) (b:Box) (L:Loc) (us:List Value):Prop where
 hb:H[id]? = some b
 live:b.live=true
 box:σ.box id=some L
 tot:L.tot=b.xs.length
 Cj:AL σ w b.xs us
 sizes:∀u∈us,u.cells.size=L.Ag
 ones:∀u∈flat us,u.oneCell' = true
 own:FY w B b.elem L.Ag L.v b.xs.length (flat us)
 Dc:b.Dc=true->L.v = .slice none 0 0
 Ag:b.Ag=L.Ag
 oks:∀x∈b.xs,okV x=true
 Gg:b.row=true->∀x∈b.xs,Bz x=true
 shape:(L.v = .slice none 0 0/\b.xs=[]/\us=[])\/∃g cap cur tg,L.v = .slice (some ⟨g,0,none⟩) b.xs.length cap/\B<=g/\w.heap[g]? = some (.cells cur b.elem tg)/\noMark tg cur.size/\b.xs.length<=cap/\cap<=maxLen/\cur.size=cap*L.Ag/\cur.toList.take (b.xs.length*L.Ag)=flat us
theorem Inv.meet {B w0 σ H w} (h:Inv B w0 σ H w) {id:Nat} {b:Box} (hb:H[id]? = some b) (J:b.live=true):∃L us,Met B w0 σ H w id b L us:=by
 obtain⟨L,R,z⟩:=h.boxes id b hb J;obtain⟨us,I,r2,r3,Q⟩:=z.Cj;refine⟨L,us,hb,J,R,z.tot,I,r2,r3,Q,z.Dc,z.Ag,z.oks,z.Gg,?_⟩;rcases Q.2 with ⟨G,C⟩|⟨g,cap,cur,tg,G,S,hh,D,C,hm,Y,ht⟩
 ·have M:b.xs=[]:=List.eq_nil_of_length_eq_zero C;refine .inl ⟨G,M,?_⟩;rw[M]at I;exact I.Dx
 ·exact .inr ⟨g,cap,cur,tg,G,S,hh,D,C,hm,Y,ht⟩
theorem Met.fz {B w0 σ H w id b L us} (m:Met B w0 σ H w id b L us) (C:b.row=true):∀x∈b.xs,DU x=true:=fun x z=>by
 simp[DU,m.oks x z,m.Gg C x z]
theorem Met.len {B w0 σ H w id b L us} (m:Met B w0 σ H w id b L us):us.length=b.xs.length:=m.Cj.length.symm
theorem Met.cell {B w0 σ H w id b L us} (m:Met B w0 σ H w id b L us) {g:Nat} (z:L.v.ownBlock=some g):∀j u,(flat us)[j]? = some u->w.cell? ⟨g,j,none⟩=some u:=
 Z5Y m.own z
theorem MQ {B w0 σ H w} (h:Inv B w0 σ H w) {id off len tot:Nat} {v:Value} {b:Box} (hr:AL σ w [.BK id off len tot] [v]) (hb:Cc H id tot=some b) :
  ∃L us,Met B w0 σ H w id b L us/\b.xs.length=tot/\off+len<=tot/\Zbb L.v L.Ag off len v /\
   ((L.v = .slice none 0 0/\v = .slice none 0 0/\off=0/\len=0/\tot=0) \/
    ∃g cap k,L.v = .slice (some ⟨g,0,none⟩) tot cap/\v = .slice (some ⟨g,k*L.Ag,none⟩) len (cap - off)/\tot<=cap/\cap<=maxLen/\k<=off/\(off<cap->k=off)):=by
 obtain⟨Y,h2,D⟩:=Un hb;obtain⟨L,us,m⟩:=h.meet Y h2;cases hr with
 | BK k1 k2 k3 k4 _=>
  rename_i L';rw[m.box]at k1;cases k1;have z:L.tot=tot:=m.tot.trans D;obtain⟨G,M⟩:=k3 z;refine⟨L,us,m,D,G,M,?_⟩;obtain⟨a,n,c,k,I,Q,e3,R,S⟩:=M;rcases m.shape with ⟨C,hx,hu⟩|⟨g,cap,cur,tg,C,hg,hh,htg,J,hm,hsz,ht⟩
  ·grind
  ·right;rw[C]at I;cases I;rw[D]at C J;refine⟨g,_,k,C,?_,J,hm,R,S⟩;rw[Q];simp[Addr.add_mid]
theorem jF {σ w es us} (h:AL σ w es us) (off len:Nat):AL σ w ((es.drop off).take len) ((us.drop off).take len):=(h.drop off).take len
theorem iD {B w0 σ H w} (h:Inv B w0 σ H w) {x x' : V} {v:Value} (I:AL σ w [x] [v]) (z:F9 H x=some x') (ids:List Nat) (J:∀i∈Ec x,i∈ids) :
  AL (σ.freeze H ids) w [x'] [v]:=by
 have e:=(h.freeze ids).2;unfold F9 at z;split at z
 ·cases z;exact I.ext e
 ·cases z;exact I.ext e
 ·cases z;refine AL.ext ?_ e;cases I with
  | Fh _=>exact .EI .nil
  | GM a _=>exact .Et a .nil
  | CE b o _ k0 k1 k2 k3 k4 k5 _=>exact .sl b o _ _ k0 k1 k2 k3 (Nat.le_refl _) k4 k5 .nil
 ·rename_i id off len tot;split at z
  ·rename_i b hb;split at z
   ·rename_i hc;simp only[Bool.and_eq_true,decide_eq_true_eq]at hc;simp only[Option.some.injEq]at z;subst z;obtain⟨L,us,m,hxl,hol,hs,D⟩:=MQ h I hb;rcases D with ⟨hv,G,ho,hl,ht⟩|⟨g,cap,k,hv,G,hle,hmx,hk1,S⟩
    ·have hx:b.xs=[]:=List.eq_nil_of_length_eq_zero (by omega);rw[hx,G];simp only[List.drop_nil,List.take_nil];exact .EI .nil
    ·rw[m.Ag,G];have M:((b.xs.drop off).take len).length=len:=by simp;omega
     have R:=AL.sl (σ:=σ.freeze H ids) (w:=w) (xs:=[]) (vs:=[]) (es:=(b.xs.drop off).take len) (us:=(us.drop off).take len) g (k*L.Ag) (cap - off) L.Ag
      ((jF m.Cj off len).ext e) (fun x hx=>m.fz hc.1 x (List.mem_of_mem_drop (List.mem_of_mem_take hx))) (XO (gX m.sizes off) len) (jG (ZW m.ones off) len) (by rw[M];omega) (by omega) ?_ .nil
     ·simp_all
     ·intro j u Q;rw[Z00 m.sizes]at Q;have hj:j<len*L.Ag:=by
       have:=(List.getElem?_eq_some_iff.1 Q).1;simp at this;omega
      rw[List.getElem?_take,if_pos hj,List.getElem?_drop]at Q;have Y:0<len:=by
       cases len with
       | zero=>simp at hj
       | succ n=>omega
      have hk:k=off:=S (by omega);subst hk;have C:L.v.ownBlock=some g:=by rw[hv];rfl
      refine⟨.inr ⟨id,b,L,J id (by simp[Ec]),m.hb,m.live,m.box,C,?_⟩,m.cell C _ _ Q⟩;have:=(List.getElem?_eq_some_iff.1 Q).1;rw[flat_length m.sizes,m.len]at this;exact this
   ·cases z
  ·cases z
 ·cases z;exact I.ext e
 ·cases z;exact I.ext e
 ·cases z
theorem Z7q {B w0 σ H w} (h:Inv B w0 σ H w) {x G : V} {v:Value} (D:AL σ w [x] [v]) (z:F9 H x=some G):Bz G = true:=by
 unfold F9 at z;split at z
 ·cases z;rfl
 ·cases z;cases D with
  | EI _=>rfl
  | Et a _=>rfl
  | sl b o c I _ C J M Q R Y _=>exact Ko C
 ·cases z;cases D with
  | Fh _=>rfl
  | GM a _=>rfl
  | CE b o I _ C J M Q R _=>exact Ko C
 ·rename_i id off len tot;split at z
  ·rename_i b hb;split at z
   ·rename_i hc;simp only[Bool.and_eq_true,decide_eq_true_eq]at hc;simp only[Option.some.injEq]at z;subst z;obtain⟨L,us,m,_⟩:=MQ h D hb;exact(JU _).2 fun x S=>m.Gg hc.1 x (List.mem_of_mem_drop (List.mem_of_mem_take S))
   ·cases z
  ·cases z
 ·cases z;rfl
 ·cases z;rfl
 ·cases z
theorem Zm9 {B w0 σ H w} (h:Inv B w0 σ H w) {xs C : List V} {vs:List Value} (J:AL σ w xs vs) (z:J8 H xs=some C):Be C = true:=by
 induction xs generalizing C vs with
 | nil=>simp only[J8,Option.some.injEq]at z;subst z;rfl
 | cons x xs Q=>
  obtain⟨v,R,rfl,G,I⟩:=J.Bd;simp only[J8]at z;split at z
  ·rename_i S ws M D;simp only[Option.some.injEq]at z;subst z;simp[Be,Z7q h G M,Q I D]
  ·cases z
theorem iJ {B w0 σ H w} (h:Inv B w0 σ H w) {x G : V} {v:Value} (D:AL σ w [x] [v]) (z:H9 H x=some G):Bz G = true:=by
 unfold H9 at z;split at z
 ·rename_i cs;cases D with
  | agg J M _=>
   cases C:J8 H cs with
   | none=>simp[C]at z
   | some I =>
    simp only[C,Option.map_some,Option.some.injEq]at z;subst z;exact Zm9 h J C
 ·exact Z7q h D z
theorem XB {B w0 σ H w} (h:Inv B w0 σ H w) {xs C : List V} {vs:List Value} (J:AL σ w xs vs) (z:FC H xs=some C):Be C = true:=by
 induction xs generalizing C vs with
 | nil=>simp only[FC,Option.some.injEq]at z;subst z;rfl
 | cons x xs Q=>
  obtain⟨v,R,rfl,G,I⟩:=J.Bd;simp only[FC]at z;split at z
  ·rename_i S ws M D;simp only[Option.some.injEq]at z;subst z;simp[Be,iJ h G M,Q I D]
  ·cases z
theorem Znj {B w0 σ H w} (h:Inv B w0 σ H w) {xs D : List V} {vs:List Value} (I:AL σ w xs vs) (C:J8 H xs=some D) (ids:List Nat) (z:∀i∈xs.flatMap Ec,i∈ids) :
  AL (σ.freeze H ids) w D vs:=by
 induction xs generalizing D vs with
 | nil=>
  cases I.Dx;simp only[J8,Option.some.injEq]at C;subst C;exact .nil
 | cons x xs R=>
  obtain⟨v,S,rfl,J,M⟩:=I.Bd;simp only[J8]at C;split at C
  ·rename_i Y ws Q G;simp only[Option.some.injEq]at C;subst C;refine AL.Dk.2 ⟨iD h J Q ids (fun i hi=>z i (by simp[hi])),R M G (fun i hi=>z i ?_)⟩
   simp_all
  ·cases C
theorem Xf {B w0 σ H w} (h:Inv B w0 σ H w) {x I : V} {v:Value} (G:AL σ w [x] [v]) (C:H9 H x=some I) (ids:List Nat) (z:∀i∈DC x,i∈ids) :
  AL (σ.freeze H ids) w [I] [v]:=by
 unfold H9 at C;split at C
 ·rename_i cs;cases G with
  | agg M R _=>
   cases D:J8 H cs with
   | none=>simp[D]at C
   | some J =>
    simp only[D,Option.map_some,Option.some.injEq]at C;subst C;exact .agg (Znj h M D ids (by simpa[DC]using z)) R .nil
 ·rename_i Q;refine iD h G C ids (fun i hi=>z i ?_);cases x<;>simp_all [DC,Ec]
theorem fO {B w0 σ H w} (h:Inv B w0 σ H w) {xs D : List V} {vs:List Value} (I:AL σ w xs vs) (C:FC H xs=some D) (ids:List Nat) (z:∀i∈xs.flatMap DC,i∈ids) :
  AL (σ.freeze H ids) w D vs:=by
 induction xs generalizing D vs with
 | nil=>
  cases I.Dx;simp only[FC,Option.some.injEq]at C;subst C;exact .nil
 | cons x xs R=>
  obtain⟨v,S,rfl,J,M⟩:=I.Bd;simp only[FC]at C;split at C
  ·rename_i Y ws Q G;simp only[Option.some.injEq]at C;subst C;refine AL.Dk.2 ⟨Xf h J Q ids (fun i hi=>z i (by simp[hi])),R M G (fun i hi=>z i ?_)⟩
   simp_all
  ·cases C
theorem xU {σ w x v} (e:Nat) (h:AL σ w [x] [v]):AL σ w [Gl e x] [v]:=by
 unfold Gl;split
 ·cases h with
  | EI _=>exact .EI .nil
 ·exact h
theorem Zj3 {σ w}:∀(es:List Nat) {xs:List V} {vs:List Value},AL σ w xs vs->AL σ w (GK es xs) vs:=by
 intro es;induction es with
 | nil=>intro xs vs h;simpa[GK]using h
 | cons e es D=>
  intro xs vs h;cases xs with
  | nil=>simpa[GK]using h
  | cons x xs=>
   obtain⟨v,G,rfl,z,C⟩:=h.Bd;exact AL.Dk.2 ⟨xU e z,D C⟩
theorem QS {σ w x v} (es:List Nat) (h:AL σ w [x] [v]):AL σ w [DX es x] [v]:=by
 unfold DX;split
 ·cases h with
  | agg z C _=>exact .agg (Zj3 es z) C .nil
 ·exact xU _ h
theorem ZiW {σ w} (es:List Nat) {xs:List V} {vs:List Value} (h:AL σ w xs vs):AL σ w (xs.map (DX es)) vs:=by
 induction xs generalizing vs with
 | nil=>simpa using h
 | cons x xs D=>
  obtain⟨v,G,rfl,z,C⟩:=h.Bd;exact AL.Dk.2 ⟨QS es z,D C⟩
theorem vU {σ w} (rows:TypeId->List Nat):∀(ts:List TypeId) {xs:List V} {vs:List Value},AL σ w xs vs->AL σ w (Ff rows ts xs) vs:=by
 intro ts;induction ts with
 | nil=>intro xs vs h;simpa[Ff]using h
 | cons t ts D=>
  intro xs vs h;cases xs with
  | nil=>simpa[Ff]using h
  | cons x xs=>
   obtain⟨v,G,rfl,z,C⟩:=h.Bd;exact AL.Dk.2 ⟨QS _ z,D C⟩
theorem Z5U (e:Nat) (x:V):Bz (Gl e x)=Bz x:=by
 unfold Gl;split<;>simp[Bz]
theorem Zio:∀(es:List Nat) (xs:List V),Be (GK es xs)=Be xs:=by
 intro es;induction es with
 | nil=>intro xs;simp[GK]
 | cons e es z=>intro xs;cases xs<;>simp[GK,Be,Z5U,z]
theorem QQ (es:List Nat) (x:V):Bz (DX es x)=Bz x:=by
 unfold DX;split
 ·simp[Bz,Zio]
 ·exact Z5U _ _
theorem dF (rows:TypeId->List Nat):∀(ts:List TypeId) (xs:List V),Be (Ff rows ts xs)=Be xs:=by
 intro ts;induction ts with
 | nil=>intro xs;simp[Ff]
 | cons t ts z=>intro xs;cases xs<;>simp[Ff,Be,QQ,z]
theorem ZlN (e:Nat) (x:V):okV (Gl e x)=okV x:=by
 unfold Gl;split<;>simp[okV]
theorem XV (es:List Nat) (x:V):okV (DX es x)=okV x:=by
 unfold DX;split
 ·simp[okV]
 ·exact ZlN _ _
theorem Zhq:∀(es:List Nat) (xs:List V),(GK es xs).length=xs.length:=by
 intro es;induction es with
 | nil=>intro xs;simp[GK]
 | cons e es z=>intro xs;cases xs<;>simp[GK,z]
theorem Zkr (e:Nat) (x:V):(Gl e x).cells.length=x.cells.length:=by
 unfold Gl;split<;>simp[V.cells]
theorem Zli (es:List Nat) (x:V):(DX es x).cells.length=x.cells.length:=by
 unfold DX;split
 ·simp[V.cells,Zhq]
 ·exact Zkr _ _
theorem AL.cells {σ w x v} (h:AL σ w [x] [v]) (M:okV x=true):AL σ w x.cells v.cells.toList/\(∀u∈v.cells.toList,u.oneCell' = true):=by
 cases h with
 | und u h=>simp[okV]at M
 | no h=>simp[okV]at M
 | Ap _ h=>simp[okV]at M
 | FQ g S h=>exact⟨.FQ g S .nil,by simp[Value.cells,Value.oneCell']⟩
 | agg z C _=>exact⟨by simpa[V.cells,Value.cells]using z,by simpa[Value.cells]using C⟩
 | lit Q _=>
  cases v<;>simp[leaf]at Q<;>simp[V.cells,Value.cells,Value.oneCell']<;>exact .lit (by simp[leaf,Q]) .nil
 | EI h=>exact⟨.EI .nil,by simp[Value.cells,Value.oneCell']⟩
 | Fh h=>exact⟨.Fh .nil,by simp[Value.cells,Value.oneCell']⟩
 | Et a h=>exact⟨.Et a .nil,by simp[Value.cells,Value.oneCell']⟩
 | GM a h=>exact⟨.GM a .nil,by simp[Value.cells,Value.oneCell']⟩
 | sl b o c e I z C D G J R _=>exact⟨.sl b o c e I z C D G J R .nil,by simp[Value.cells,Value.oneCell']⟩
 | CE b o e I z C D G J _=>exact⟨.CE b o e I z C D G J .nil,by simp[Value.cells,Value.oneCell']⟩
 | BK z C D G _=>
  obtain⟨a,n,c,rfl⟩:=G;exact⟨.BK z C D ⟨a,n,c,rfl⟩ .nil,by simp[Value.cells,Value.oneCell']⟩
 | ptr g z C D G _=>
  subst G;exact⟨.ptr g z C D rfl .nil,by simp[Value.cells,Value.oneCell']⟩
 | Bj b o e i off I z C D G _=>exact⟨.Bj b o e i off I z C D G .nil,by simp[Value.cells,Value.oneCell']⟩
 | fn z C _=>exact⟨.fn z C .nil,by simp[Value.cells,Value.oneCell']⟩
 | GX z _=>exact⟨.GX z .nil,by simp[Value.cells,Value.oneCell']⟩
theorem AL.Ov {σ w x v} (h:AL σ w [x] [v]) (z:okV x=true):x.cells.length=v.cells.size:=by
 have:=(h.cells z).1.length;simpa using this
end Go.Proofs.YteinepnbndegdaaGreat.Le
namespace Go.Proofs.YteinepnbndegdaaGreat.Le
open Go.RowKit (Below)
structure Bl (E:Env):Prop where
 ti:∀t i,E.ti t=some i->Jv E.P t=some i
 func:∀f fn,E.func f=some fn->E.P.funcs[f]? = some fn/\(fn.name == "runtime.NumGoroutine")=false
 mix:E.P.follows .mixedOrders=true
 calm:∀f fn c,E.func f=some fn->fn.body=some c->Dy E f c=true
 kind:∀t k,E.kind t=some k->E.P.underlying t=some (.int k)
 isStr:∀t,E.isStr t=true->E.P.underlying t=some .string
 isBool:∀t,E.isBool t=true->E.P.underlying t=some .bool
 flat:∀t ks,E.flat t=some ks->kG E.P t=some ks
 isBytes:∀t,E.isBytes t=true->∃e,E.P.underlying t=some (.slice e)/\E.P.underlying e=some (.int .u8)
def Ci (E:Env) (σ:Sg) (w:World):Prop:=∀g r,E.D5 g=some r->AL σ w [.Bj r.length [.agg r] 0 0] [.pointer (some ⟨g,0,none⟩)]
theorem Ci.ext {E σ w σ' w'} (h:Ci E σ w) (e:Ext σ w σ' w'):Ci E σ' w' :=fun g r z=>(h g r z).ext e
theorem Z6U (σ:Sg) (w:World) (v:Value) (h:VZ v=true):AL σ w [Nv v] [v]/\v.oneCell' = true:=by
 unfold Nv;split
 ·exact⟨.EI .nil,rfl⟩
 ·rename_i z;have C:leaf v=true:=by
   unfold VZ at h;split at h
   ·exact absurd rfl z
   ·exact h
  rw[if_pos C];exact⟨.lit C .nil,by cases v<;>simp_all [leaf,Value.oneCell']⟩
theorem Zjv (σ:Sg) (w:World) (vs:List Value) (h:vs.all VZ=true):AL σ w (vs.map Nv) vs/\∀u∈vs,u.oneCell' = true:=by
 induction vs with
 | nil=>exact⟨.nil,by simp⟩
 | cons v vs D=>
  simp only[List.all_cons,Bool.and_eq_true]at h;obtain⟨z,G⟩:=Z6U σ w v h.1;obtain⟨C,I⟩:=D h.2;exact⟨AL.Dk.2 ⟨z,C⟩,by simp_all⟩
theorem XF (σ:Sg) (w:World) (v:Value):AL σ w [PH v] [v]:=by
 have z:∀u:Value,AL σ w [if VZ u then Nv u else .und] [u]:=by
  intro u;split
  ·rename_i h;exact(Z6U σ w u h).1
  ·exact .und _ .nil
 cases v with
 | agg cs=>
  simp only[PH];split
  ·rename_i h;obtain⟨C,D⟩:=Zjv σ w cs.toList h;have:=AL.agg C D (xs:=[]) (vs:=[]) .nil;simpa using this
  ·exact .und _ .nil
 | tuple vs=>
  simp only[PH];split
  ·rename_i h;have:vs = #[]:=by simpa using h
   subst this;exact .no .nil
  ·exact .und _ .nil
 | bool b=>exact z (.bool b)
 | int k n=>exact z (.int k n)
 | float k b=>exact z (.float k b)
 | complex k a b=>exact z (.complex k a b)
 | string s=>exact z (.string s)
 | pointer a=>exact z (.pointer a)
 | slice a n c=>exact z (.slice a n c)
 | map r=>exact z (.map r)
 | chan r=>exact z (.chan r)
 | func f a b=>exact z (.func f a b)
 | nilFunc=>exact z .nilFunc
 | iface t v=>exact z (.iface t v)
 | nilIface=>exact z .nilIface
theorem Z7Y {σ w s vs} (h:AL σ w s vs) (t:Nat):AL σ w [s.getD t .und] [vs.getD t undef]:=by
 cases z:s[t]? with
 | none=>simp only[List.getD,z,Option.getD_none];exact .und _ .nil
 | some x=>
  obtain⟨v,D,C⟩:=h.get z
  simp_all
theorem Dp {E σ w s} {a:Act} (z:Ci E σ w) (h:AL σ w s a.tmps.toList) (x:Operand):AL σ w [ev E s x] [a.eval x]:=by
 cases x with
 | tmp t=>
  have:=Z7Y h t;simpa[ev,Act.eval,Array.getD_eq_getD_getElem?,List.getD_eq_getElem?_getD]using this
 | const v=>exact XF σ w v
 | func f=>exact .fn .nil .nil .nil
 | global g=>
  simp only[ev,Act.eval];cases hh:E.D5 g with
  | none=>exact .und _ .nil
  | some r=>exact z g r hh
theorem jC {E σ w s} {a:Act} (z:Ci E σ w) (h:AL σ w s a.tmps.toList) (xs:List Operand):AL σ w (xs.map (ev E s)) (xs.map a.eval):=by
 induction xs with
 | nil=>exact .nil
 | cons x xs C=>exact AL.Dk.2 ⟨Dp z h x,C⟩
theorem Eo {P:Program} {t:TypeId} {i:TI} (h:Jv P t=some i):∃z d,P.info? t=some z/\P.underlying t=some d/\i.ty=Jw d/\i.size=z.size/\i.bytes=z.bytes/\i.zero=z.zero.map PH:=by
 unfold Jv at h
 grind
theorem Zu {P:Program} {t:TypeId} {d:TypeDesc} (w:World) (h:P.underlying t=some d):(isAgg t).run P w = .ok d.isRow w:=by
 unfold isAgg;rw[Sem.run_bind,run_underlying h w];cases d<;>rfl
theorem Z95 {i:TI} {d:TypeDesc} (h:i.ty=Jw d):i.isAgg=d.isRow:=by
 unfold TI.isAgg;rw[h];cases d<;>rfl
theorem run_sizeOf {P:Program} {t:TypeId} {z:TypeInfo} (w:World) (h:P.info? t=some z):(sizeOf t).run P w = .ok z.size w:=by
 simp[sizeOf,typeInfo,h]
theorem Z81 {σ w} {cs:List V} {ws:List Value} (h:AL σ w cs ws) (J:∀u∈ws,u.oneCell' = true) {off n:Nat} {D:Bool} {I : V} (z:partOf cs off n D=some I) :
  (D=true/\off+n<=ws.length/\AL σ w [I] [.agg ((ws.drop off).take n).toArray])\/(D=false/\∃u,ws[off]? = some u/\AL σ w [I] [u]):=by
 unfold partOf at z;split at z
 ·rename_i C;split at z
  ·rename_i G;simp only[Option.some.injEq]at z;subst z;refine .inl ⟨C,by rw[<- h.length];exact G,.agg (jF h off n) ?_ .nil⟩
   grind
  ·cases z
 ·rename_i C;obtain⟨u,Q,M⟩:=h.get z
  simp_all
theorem Z89 {E σ w} {P:Program} (hE:Bl E) (hP:E.P=P) {t:TypeId} {ti:TI} (hti:E.ti t=some ti) {xs:List V} {us:List Value} {e b o i off:Nat} {x' : V}
  (h:AL σ w xs us) (hk:∀x∈xs,okV x=true) (hs:∀u∈us,u.cells.size=e) (ho:∀u∈flat us,u.oneCell' = true)
  (hc:∀j u,(flat us)[j]? = some u->w.cell? ⟨b,o+j,none⟩=some u) (J:OA xs i off ti.size ti.isAgg=some x') :
  ∃u,(loadVar t ⟨b,o+i*e+off,none⟩).run P w = .ok u w/\AL σ w [x'] [u]:=by
 unfold OA at J;split at J
 ·rename_i x hx;obtain⟨uu,hu,hxr⟩:=h.get hx;have hok:=hk x (List.mem_of_getElem? hx);obtain⟨R,Q⟩:=hxr.cells hok;have hsz:uu.cells.size=e:=hs uu (List.mem_of_getElem? hu);obtain⟨inf,d,hi,S,h1,h2,h3,h4⟩:=Eo (hE.ti t ti hti);rw[hP]at hi S;have G:=Z95 h1;have D:∀j u,uu.cells.toList[j]? = some u->w.cell? ⟨b,o+(i*e+j),none⟩=some u:=by
   intro j u hj;have Y:j<e:=by
    have:=(List.getElem?_eq_some_iff.1 hj).1;simpa[hsz]using this
   exact hc _ _ (by rw[Zaf hs hu j Y];exact hj)
  rcases Z81 R Q J with ⟨M,hle,z⟩|⟨M,u,hu',z⟩
  ·refine⟨_,run_loadVar_mid (P:=P) w b (o+i*e+off) t _ d ?_ S (by rw[<- G];exact M) ?_,z⟩
   ·intro j v hv
    grind
   grind
  ·refine⟨u,?_,z⟩;have I:d.isRow=false:=by rw[<- G];exact M
   have:=D _ _ hu';have C : w.cell? ⟨b,o+i*e+off,none⟩=some u:=by rw[<- this];congr 2;omega
   unfold loadVar;rw[Sem.run_bind,Zu w S,I];simp[load,Sem.run,C]
 ·cases J
theorem Za4 {E B w0 σ H w} {P:Program} (Q:Bl E) (R:E.P=P) (h:Inv B w0 σ H w) {t:TypeId} {a Y : V} {M:Value} (S:AL σ w [a] [M]) (z:LP E H t a=some Y) :
  ∃u,(Instr.loadAt t M).run P w = .ok u w/\AL σ w [Y] [u]:=by
 unfold LP at z;split at z
 ·cases z
 ·rename_i ti D;split at z
  ·rename_i e xs j off;cases S with
   | Bj b o e i off k0 k1 k2 k3 k4 _=>
    rename_i us;obtain⟨u,G,J⟩:=Z89 Q R D (o:=o) k0 (Z0h k1) k2 k3 (fun j u I=>(k4 j u I).2) z;exact⟨u,by simp only[Instr.loadAt,Instr.sureAddr,Sem.run_bind,Sem.run_pure,Result.andThen_ok,G],J⟩
  ·rename_i id j off tot;split at z
   ·rename_i b hb;obtain⟨h1,h2,h3⟩:=Un hb;obtain⟨L,us,m⟩:=h.meet h1 h2;cases S with
    | ptr g k1 k2 k3 k4 _=>
     rename_i L';rw[m.box]at k1;cases k1;obtain⟨n,c,hv⟩:=k3 (m.tot.trans h3);have C:L.v.ownBlock=some g:=by rw[hv];rfl
     subst k4;obtain⟨u,G,J⟩:=Z89 Q R D (o:=0) (b:=g) m.Cj m.oks m.sizes m.ones (fun j u I=>by rw[Nat.zero_add];exact m.cell C j u I) z;rw[Nat.zero_add]at G;exact⟨u,by simp only[Instr.loadAt,Instr.sureAddr,Sem.run_bind,Sem.run_pure,Result.andThen_ok,G],J⟩
   ·cases z
  ·cases z
end Go.Proofs.YteinepnbndegdaaGreat.Le
namespace Go.Proofs.YteinepnbndegdaaGreat.Le
open Go.RowKit (Below)
theorem Zki {α:Type} (A U C R z:List α) (off k:Nat) (J:z.length=k) (I:off+k<=U.length) :
  (A++U++C++R).take (A.length+off)++z++(A++U++C++R).drop (A.length+off+k)=A++(U.take off++z++U.drop (off+k))++C++R:=by
 have D:(A++U++C++R).take (A.length+off)=A++U.take off:=by
  rw[List.append_assoc,List.append_assoc,List.take_append,List.take_of_length_le (by omega)];congr 1;rw[show A.length+off - A.length=off from by omega,List.take_append];rw[show off - U.length=0 from by omega];simp
 have G:(A++U++C++R).drop (A.length+off+k)=U.drop (off+k)++C++R:=by
  rw[List.append_assoc,List.append_assoc,List.drop_append,List.drop_eq_nil_of_le (by omega),List.nil_append];rw[show A.length+off+k - A.length=off+k from by omega,List.drop_append];rw[show off+k - U.length=0 from by omega];simp
 simp_all
theorem ZkG {σ w} {x x' : V} {G:Value} {cs:List V} {z:List Value} {off:Nat} (Y:AL σ w [x] [G]) (Q:okV x=true) (hc:AL σ w cs z) (ho:∀u∈z,u.oneCell' = true)
  (h:Kz x off cs=some x') :
  off+z.length<=G.cells.size/\∃J,AL σ w [x'] [J]/\J.cells.toList=G.cells.toList.take off++z++G.cells.toList.drop (off+z.length):=by
 unfold Kz at h;split at h
 ·rename_i ds;split at h
  ·rename_i hle;simp only[Option.some.injEq]at h;subst h;cases Y with
   | agg I R h3=>
    rename_i ws;have S:=I.length;have M:=hc.length;refine⟨by simp[Value.cells];omega,.agg (ws.take off++z++ws.drop (off+z.length)).toArray,?_,by simp[Value.cells]⟩;rw[M];refine .agg ((I.take off).append hc |>.append (I.drop _)) ?_ .nil
    grind
  ·cases h
 ·rename_i hna;split at h
  ·rename_i c;simp only[Option.some.injEq]at h;subst h;obtain⟨v,vs',rfl,I,R⟩:=hc.Bd;cases R.Dx;have C:G.cells.size=1:=by
    have:=Y.Ov Q;cases x<;>simp_all [V.cells]
   have D:v.cells = #[v]:=by
    have:=ho v (by simp);cases v<;>simp_all [Value.cells,Value.oneCell']
   refine⟨by simp[C],v,I,?_⟩;rw[D];have:G.cells.toList.drop (0+[v].length)=[]:=by apply List.drop_eq_nil_of_le;simp[C]
   rw[this];simp
  ·cases h
theorem Z8Z {B w0 σ H w} {P:Program} (h:Inv B w0 σ H w) {id:Nat} {b:Box} {L:Loc} {us:List Value} (m:Met B w0 σ H w id b L us) {g n c:Nat} (hv:L.v = .slice (some ⟨g,0,none⟩) n c)
  {j off:Nat} {x x' Q : V} {cs:List V} {z:List Value} (hx:b.xs[j]? = some x) (hc:AL σ w cs z) (ho:∀u∈z,u.oneCell' = true) (hs:Kz x off cs=some x') (hxx:∀σ w v,AL σ w [x'] [v]->AL σ w [Q] [v]) (hok:okV Q = true) (hnr:b.row=true->Bz Q = true) (hfl:b.floor<=j) :
  ∃w',(storeCells ⟨g,j*L.Ag+off,none⟩ z).run P w = .ok () w' /\ Inv B w0 (σ.put id L) (H.set id { b with xs:=b.xs.set j Q }) w' /\ Ext σ w (σ.put id L) w' :=by
 obtain⟨uu,hu,hxr⟩:=m.Cj.get hx;have M:=m.oks x (List.mem_of_getElem? hx);obtain⟨hle,G,hr',hcells⟩:=ZkG hxr M hc ho hs;have hsz:uu.cells.size=L.Ag:=m.sizes uu (List.mem_of_getElem? hu);have hsz' : G.cells.size=L.Ag:=by
  have:=congrArg List.length hcells;simp at this;omega
 rcases m.shape with ⟨hn,_,_⟩|⟨g',cap,cur,tg,hv',hB,hh,htg,hn,hm,hcs,ht⟩
 ·rw[hn]at hv;cases hv
 ·rw[hv']at hv;cases hv;have hjlen:j<b.xs.length:=(List.getElem?_eq_some_iff.1 hx).1;have hje:j*L.Ag+L.Ag<=b.xs.length*L.Ag:=by
   rw[<- Nat.succ_mul];exact Nat.mul_le_mul_right _ hjlen
  have hce:b.xs.length*L.Ag<=c*L.Ag:=Nat.mul_le_mul_right _ hn;have hfit:j*L.Ag+off+0+z.length<=cur.size:=by omega
  have I:=UO P g (j*L.Ag+off) b.elem tg z 0 cur w hh htg hfit ho;simp only[Nat.add_zero]at I;have hF:flat us=(flat us).take (j*L.Ag)++uu.cells.toList++(flat us).drop (j*L.Ag+L.Ag):=by
   have:=ZV m.sizes hu hsz;rw[<- this];congr 1;apply List.ext_getElem?;intro i;rw[List.getElem?_set];split
   ·grind
   ·rfl
  have hA:((flat us).take (j*L.Ag)).length=j*L.Ag:=by
   rw[List.length_take,flat_length m.sizes,m.len];omega
  have S:cur.toList=(flat us).take (j*L.Ag)++uu.cells.toList++(flat us).drop (j*L.Ag+L.Ag)++cur.toList.drop (b.xs.length*L.Ag):=by
   rw[<- hF,<- ht,List.take_append_drop]
  have hsp:=Zki ((flat us).take (j*L.Ag)) uu.cells.toList ((flat us).drop (j*L.Ag+L.Ag)) (cur.toList.drop (b.xs.length*L.Ag)) z off z.length rfl (by simpa using hle);rw[hA,<- S]at hsp;rw[hsp]at I;have C : flat (us.set j G)=(flat us).take (j*L.Ag)++(uu.cells.toList.take off++z++uu.cells.toList.drop (off+z.length))++(flat us).drop (j*L.Ag+L.Ag):=by
   rw[ZV m.sizes hu hsz',hcells]
  rw[<- C]at I;have D : ∀u∈us.set j G,u.cells.size=L.Ag:=by
   intro u hu';rcases List.mem_or_eq_of_mem_set hu' with hu' | hu'
   ·exact m.sizes u hu'
   ·rw[hu'];exact hsz'
  have J : (flat (us.set j G)).length=b.xs.length*L.Ag:=by
   rw[flat_length D,List.length_set,m.len]
  have hheap:=setRow_heap w g cur (flat (us.set j G)++cur.toList.drop (b.xs.length*L.Ag)).toArray b.elem tg hh;have hown:L.v.ownBlock=some g:=by rw[hv'];rfl
  have hgb:w.grownBy (w.setRow g (flat (us.set j G)++cur.toList.drop (b.xs.length*L.Ag)).toArray) L.v.ownBlock:=
   ⟨rfl,rfl,rfl,by simp,fun k _ hk=>setRow_other w g k _ (fun e=>hk (by rw[hown,e]))⟩
  refine⟨_,I,?_⟩;refine h.upd m.hb m.live m.box hgb { b with xs:=b.xs.set j Q } m.live L rfl (.inl rfl) rfl (by simp) (fun g' R =>.inl R) ?_ ?_
  ·intro g' c' R hc';rw[hown]at R;cases R;have hlt:c' < j*L.Ag:=Nat.lt_of_lt_of_le hc' (Nat.mul_le_mul_right _ hfl);rw[cell_setRow_same w g c' cur _ b.elem tg hh,cell_of_row w g c' cur b.elem tg hh];rw[List.getElem?_toArray,<- Array.getElem?_toList,S,C];have Y : c' < ((flat us).take (j*L.Ag)).length:=by rw[hA];exact hlt
   rw[List.append_assoc,List.append_assoc,List.getElem?_append_left Y,List.append_assoc,List.append_assoc,List.getElem?_append_left Y]
  ·intro e;refine⟨by simpa using m.tot,⟨us.set j G,(m.Cj.ext e).set j (hxx _ _ _ (hr'.ext e)),D,?_,?_⟩,m.Dc,m.Ag,?_,fun hrow=>?_⟩
   ·intro u hu';rw[C]at hu';simp only[List.mem_append]at hu';rcases hu' with (hu' | (hu' | hu')|hu')|hu'
    ·exact m.ones u (List.mem_of_mem_take hu')
    ·have:=(hxr.cells M).2 u (List.mem_of_mem_take hu');exact this
    ·exact ho u hu'
    ·exact(hxr.cells M).2 u (List.mem_of_mem_drop hu')
    ·exact m.ones u (List.mem_of_mem_drop hu')
   ·refine⟨by simpa using J,.inr ⟨g,c,_,tg,by simpa using hv',hB,hheap,?_,by simpa using hn,hm,?_,?_⟩⟩
    ·have:(flat (us.set j G)++cur.toList.drop (b.xs.length*L.Ag)).toArray.size=cur.size:=by
      simp only[List.size_toArray,List.length_append,J,List.length_drop,Array.length_toList,hcs];omega
     grind
    ·grind
    ·simp only[List.length_set];rw[List.take_append_of_le_length (by omega),List.take_of_length_le (by omega)]
   ·intro y hy;rcases List.mem_or_eq_of_mem_set hy with hy|hy
    ·exact m.oks y hy
    ·rw[hy];exact hok
   ·intro y hy;rcases List.mem_or_eq_of_mem_set hy with hy|hy
    ·exact m.Gg hrow y hy
    grind
theorem Zj4 {x D : V} {off:Nat} {cs:List V} (I:Bz x=true) (hc:Be cs=true) (z:Kz x off cs=some D):Bz D = true:=by
 unfold Kz at z;split at z
 ·rename_i C;split at z
  ·simp only[Option.some.injEq]at z;subst z;rw[show Bz (.agg (C.take off++cs++C.drop (off+cs.length)))=Be (C.take off++cs++C.drop (off+cs.length)) from rfl,JU];have J:∀y∈C,Bz y=true:=(JU C).1 I;have G :=(JU cs).1 hc
   grind
  ·cases z
 ·split at z
  ·simp only[Option.some.injEq]at z;subst z;simpa[Be]using hc
  ·cases z
theorem Z6Y {P:Program} {t:TypeId} {b o:Nat} {v:Value} {z:TypeInfo} {w w' : World} (hi:P.info? t=some z) (C:v.cells.size=z.size)
  (h:(storeCells ⟨b,o,none⟩ v.cells.toList).run P w = .ok () w'):(Instr.storeAt t (.pointer (some ⟨b,o,none⟩)) v).run P w = .ok () w' :=by
 simp[Instr.storeAt,Instr.sureAddr,storeVar,sizeOf,typeInfo,hi,C,h]
theorem Zom {E B w0 σ H w} {P:Program} (hE:Bl E) (hP:E.P=P) (h:Inv B w0 σ H w) {t:TypeId} {a x:V} {av xv:Value} {H' : Heap}
  (ha:AL σ w [a] [av]) (hx:AL σ w [x] [xv]) (z:J3 E H t a x=some H') :
  ∃w' σ',(Instr.storeAt t av xv).run P w = .ok () w' /\ Inv B w0 σ' H' w' /\ Ext σ w σ' w' :=by
 unfold J3 at z;split at z
 ·cases z
 ·rename_i ti hti;obtain⟨inf,d,hi,hd,h1,h2,h3,h4⟩:=Eo (hE.ti t ti hti);rw[hP]at hi hd;split at z
  ·rename_i id j off tot;split at z
   ·rename_i b hb;obtain⟨b1,b2,b3⟩:=Un hb;split at z
    ·rename_i y hy;split at z
     ·rename_i hc;simp only[Bool.and_eq_true,beq_iff_eq,decide_eq_true_eq]at hc;obtain⟨⟨c1,c2⟩,c3⟩:=hc;have S:xv.cells.size=inf.size:=by rw[<- hx.Ov c3,c1,h2]
      cases ha with
      | ptr g k1 k2 k3 k4 k5=>
       rename_i L';subst k4;split at z
       ·
        split at z
        ·rename_i x' hf;split at z
         ·rename_i y1 hy1;obtain⟨y',I,Y⟩:∃y',Kz y off x'.cells=some y' /\ DX (E.rows b.elem) y' = y1:=by
           simp_all
          split at z
          ·cases z
          ·rename_i R;simp only[Option.some.injEq]at z;subst z;simp only[Bool.or_eq_true,Bool.not_eq_true',List.contains_eq_mem,decide_eq_true_eq,not_or,Bool.not_eq_false]at R;obtain⟨⟨n1,n2⟩,n3⟩:=R;obtain⟨hI,hEx⟩:=h.freeze (DC x);have hxr:=Xf h hx hf (DC x) (fun i hi=>hi);have hb' : (bump H (DC x))[id]? = some b:=by rw[Ic,b1];simp[n1]
           obtain⟨L,us,m⟩:=hI.meet hb' b2;have hL:L' = L:=by
            have:=m.box;simp only[Sg.freeze]at this;rw[k1]at this;cases this;rfl
           subst hL;obtain⟨n,c,hv⟩:=k3 (m.tot.trans b3);obtain⟨Q,M⟩:=hxr.cells n2;obtain⟨w',G,J,C⟩:=Z8Z (P:=P) hI m hv hy Q M I (fun σ w v hq=>by rw[<- Y];exact QS _ hq) n3 (fun D=>by rw[<- Y,QQ];exact Zj4 (m.Gg D _ (List.mem_of_getElem? hy)) (Zkp (iJ h hx hf)) I) c2;exact⟨w',_,Z6Y hi S G,J,hEx.trans C⟩
         ·cases z
        ·cases z
       ·split at z
        ·rename_i y' I;split at z
         ·rename_i n3;simp only[Option.some.injEq]at z;subst z;obtain⟨L,us,m⟩:=h.meet b1 b2;have hL:L' = L:=by
           have:=m.box;rw[k1]at this;cases this;rfl
          subst hL;obtain⟨n,c,hv⟩:=k3 (m.tot.trans b3);obtain⟨Q,M⟩:=hx.cells c3;obtain⟨w',G,J,C⟩:=Z8Z (P:=P) h m hv hy Q M I (fun _ _ _ hq=>hq) n3 (fun D=>absurd D (by assumption)) c2;exact⟨w',_,Z6Y hi S G,J,C⟩
         ·cases z
        ·cases z
     ·cases z
    ·cases z
   ·cases z
  ·cases z
theorem grownBy_refl (w:World) (row:Option Nat):w.grownBy w row:=⟨rfl,rfl,rfl,Nat.le_refl _,fun _ _ _=>rfl⟩
theorem Z7V {B w0 σ H w} (h:Inv B w0 σ H w) {k:Nat} (D:Eg H k=true) {xs:List V} {us:List Value} {e n:Nat} (t:TypeId) (row:Bool) (J:AL σ w xs us) (G:row=true->∀x∈xs,Bz x=true) (Y:∀x∈xs,okV x=true) (M:∀u∈us,u.cells.size=e)
  (ho:∀u∈flat us,u.oneCell' = true) (hn:xs.length<=maxLen) :
  ∃σ',Inv B w0 σ' (place H k (BO row false t e xs)) (w.alloc (.cells (flat us).toArray t))/\Ext σ w σ' (w.alloc (.cells (flat us).toArray t)) /\
   σ'.box k=some ⟨.slice (some ⟨w.heap.size,0,none⟩) xs.length xs.length,xs.length,e⟩:=by
 have z:us.length=xs.length:=J.length.symm;have I:(flat us).toArray.size=xs.length*e:=by simp[flat_length M,z]
 have C:=FY.of (World.ownsRow_lit (base:=B) (e:=t) (size:=e) w (flat us).toArray xs.length h.size hn I);obtain⟨Q,R⟩:=h.push (w.grownBy_alloc (.cells (flat us).toArray t) none) D (BO row false t e xs) rfl ⟨.slice (some ⟨w.heap.size,0,none⟩) xs.length xs.length,xs.length,e⟩ (by simp[BO])
  (fun g S=>by simp[Value.ownBlock]at S;omega) (fun ex=>⟨rfl,⟨us,J.ext ex,M,ho,by simpa[BO]using C⟩,by simp[BO],rfl,Y,G⟩)
 exact⟨_,Q,R,by simp[Sg.put]⟩
theorem ML (u:Value):flat [u]=u.cells.toList:=by simp[flat]
theorem ZlK {P:Program} (w:World) (t:TypeId) (v:Value):(newVar t v).run P w = .ok ⟨w.heap.size,0,none⟩ (w.alloc (.cells v.cells t)):=by
 rfl
theorem Z7I {B w0 σ H w} {P:Program} (h:Inv B w0 σ H w) {k:Nat} (G:Eg H k=true) {x:V} {u:Value} {e:Nat} (t:TypeId) (I:AL σ w [x] [u]) (D:okV x=true) (Q:x.cells.length=e) :
  ∃w' σ',(newVar t u).run P w = .ok ⟨w.heap.size,0,none⟩ w' /\ Inv B w0 σ' (place H k (BO false false t e [x])) w' /\ Ext σ w σ' w' /\ AL σ' w' [.ptr k 0 0 1] [.pointer (some ⟨w.heap.size,0,none⟩)]:=by
 have J:u.cells.size=e:=by rw[<- I.Ov D];exact Q
 obtain⟨σ',z,C,M⟩:=Z7V (xs:=[x]) (us:=[u]) (e:=e) (n:=1) h G t false I (by simp) (by simpa using D) (by simpa using J) (by rw[ML];exact(I.cells D).2) (by simp[maxLen]);rw[ML]at z C;simp only[Array.toArray_toList]at z C;exact⟨_,σ',ZlK w t u,z,C,.ptr w.heap.size M (Nat.le_refl _) (fun _=>⟨_,_,rfl⟩) (by simp) .nil⟩
end Go.Proofs.YteinepnbndegdaaGreat.Le
