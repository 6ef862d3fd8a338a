/- A part of it. -/
import Derived.WalkKit
import GoSem.ClaimData
import GoSem.ClaimKeys
import Derived.Below
import Derived.Deep.MidRow
import Derived.Laws.MakeOwn
import Derived.Laws.OwnMore
import Derived.Maps.Keyed
set_option linter.unusedVariables false
set_option linter.unusedSimpArgs false
namespace Go.Proofs.YtjodhcdmhobmoaaGreatDoor.Le
inductive V where
 | lit (v:Value)
 | agg (cs:List V)
 | BL (vs:List V)
 | sl (isNil:Bool) (e:Nat) (xs:List V)
 | Ce (isNil:Bool) (e:Nat) (xs:List V)
 | Bc (id off len tot:Nat)
 | ptr (id i off tot:Nat)
 | CG (e:Nat) (xs:List V) (i off:Nat)
 | fn (f:FuncId) (first caps:List V)
 | Gx (t:TypeId) (v:V)
 | GY (kvs:List V)
 | no
 | und
 deriving Inhabited
def V.cells:V->List V
 | .agg cs=>cs
 | v=>[v]
def okV:V->Bool
 | .und | .no | .BL _ | .GY _=>false
 | _=>true
mutual
def CW:V->Bool
 | .Bc _ _ _ _=>false
 | .ptr _ _ _ _=>false
 | .CG _ xs _ _=>Bz xs
 | .agg cs=>Bz cs
 | .BL cs=>Bz cs
 | .sl _ _ xs=>Bz xs
 | .Ce _ _ xs=>Bz xs
 | .fn _ a b=>Bz a&&Bz b
 | .Gx _ v=>CW v
 | .GY cs=>Bz cs
 | .lit _=>true
 | .no=>true
 | .und=>true
def Bz:List V->Bool
 | []=>true
 | x::xs=>CW x&&Bz xs
end
def Ep (v:V):Bool:=okV v&&CW v
structure Box where
 live:Bool
 row:Bool
 EZ:Bool
 elem:TypeId
 Ar:Nat
 xs:List V
 floor:Nat
 deriving Inhabited
abbrev Heap:=List Box
inductive Ty where
 | scalar
 | slice (elem:Nat)
 | array (len elem:Nat)
 | struct (fields:List (Nat×Nat))
 | map (key elem:Nat)
 | other
 deriving Inhabited,DecidableEq
structure TI where
 ty:Ty
 size:Nat
 bytes:Nat
 zero:Option V
 deriving Inhabited
def TI.isAgg (i:TI):Bool:=match i.ty with | .struct _ | .array _ _=>true|_=>false
def TI.Ti (i:TI):Bool:=match i.zero with|some z=>okV z&&z.cells.length==i.size|none=>false
def leaf:Value->Bool
 | .int k n=>(Lit.int k n).wf
 | .bool _=>true
 | .string s=>decide (s.size<=maxLen)
 | .pointer none=>true
 | .map none=>true
 | .nilFunc=>true
 | .nilIface=>true
 | _=>false
def OU:Value->V
 | .slice none 0 0=>.sl true 0 []
 | v=>if leaf v then .lit v else .und
def VO:Value->Bool
 | .slice none 0 0=>true
 | v=>leaf v
def PU:Value->V
 | .agg cs=>if cs.toList.all VO then .agg (cs.toList.map OU) else .und
 | .tuple vs=>if vs.isEmpty then .no else .und
 | v=>if VO v then OU v else .und
def EH:V:=.no
def Kr (d:TypeDesc):Ty:=
 match d with
 | .bool | .int _ | .string | .pointer _ | .func _ _ _ | .interface _=>.scalar
 | .slice e=>.slice e
 | .array n e=>.array n e
 | .struct fs=>.struct (fs.toList.map fun f=>(f.offset,f.type))
 | .map k e=>.map k e
 | _=>.other
def Jn (P:Program) (t:TypeId):Option TI:=
 match P.info? t,P.underlying t with
 | some i,some d=>some { ty:=Kr d,size:=i.size,bytes:=i.bytes,zero:=i.zero.map PU }
 | _,_=>none
inductive FK where
 | b|i (k:IntKind)|s
 deriving DecidableEq
inductive Fk where
 | s (e:TypeId) (sz:Nat)
 | own (e:TypeId) (sz:Nat)
 | keep
 | drop
inductive Bf where
 | var (fl:List Fk)
 | row (fresh:Bool)
structure V5 where
 fa:List (List Fk)
 fb:List Bf
 run:List V->Heap->Option (V×Heap)
structure Env where
 P:Program
 ti:TypeId->Option TI
 func:FuncId->Option Func
 env:FuncId->Option (List V->Option V)
 Ef:Nat->Option (List V)
 pure:FuncId->Bool
 flat:TypeId->Option (List FK)
 kind:TypeId->Option IntKind
 isStr:TypeId->Bool
 isBool:TypeId->Bool
 isBytes:TypeId->Bool
 calm:FuncId->Nat->Bool
 rows:TypeId->List Nat
 par:FuncId->List TypeId
 own:FuncId->Option TypeId
 hm:FuncId->List FuncId->Option V5
 quiet:Bool:=false
structure St where
 s:List V
 H:Heap
inductive Ex where
 | normal|ret|exit (id:Nat)
def ev (E:Env) (s:List V):Operand->V
 | .tmp t=>s.getD t .und
 | .const v=>PU v
 | .func f=>.fn f [] []
 | .global g=>match E.Ef g with|some r=>.CG r.length [.agg r] 0 0|none=>.und
def OM (v:V) (q:Bool):Option Bool:=
 match v with
 | .lit (.bool b)=>some (b==q)
 | .no=>some false
 | _=>none
def setSlot (s:List V) (d:Option Tmp) (v:V):List V:=match d with|some t=>s.set t v|none=>s
def DZ (H:Heap) (id tot:Nat):Option Box:=
 match H[id]? with
 | some b=>if b.live&&b.xs.length==tot then some b else none
 | none=>none
def partOf (cs:List V) (off n:Nat) (isAgg:Bool):Option V:=
 if isAgg then (if off+n<=cs.length then some (.agg ((cs.drop off).take n)) else none) else cs[off]?
def OJ (xs:List V) (i off n:Nat) (isAgg:Bool):Option V:=
 match xs[i]? with
 | some x=>partOf x.cells off n isAgg
 | none=>none
def Hu (H:Heap):V->Option V
 | .lit v=>some (.lit v)
 | .sl b e xs=>some (.sl b e xs)
 | .Ce b e xs=>some (.sl false e xs)
 | .Bc id off len tot=>match DZ H id tot with
  | some b=>if b.row&&decide (off+len<=tot) then some (.sl false b.Ar ((b.xs.drop off).take len)) else none
  | none=>none
 | .fn f [] []=>some (.fn f [] [])
 | .Gx t (.lit v)=>some (.Gx t (.lit v))
 | _=>none
def JB (H:Heap):List V->Option (List V)
 | []=>some []
 | v::vs=>match Hu H v,JB H vs with|some w,some ws=>some (w::ws)|_,_=>none
def Hz (H:Heap):V->Option V
 | .agg cs=>(JB H cs).map .agg
 | v=>Hu H v
def FI (H:Heap):List V->Option (List V)
 | []=>some []
 | v::vs=>match Hz H v,FI H vs with|some w,some ws=>some (w::ws)|_,_=>none
def JL (H:Heap):V->Option V
 | .BL vs=>(FI H vs).map .BL
 | v=>Hz H v
def Gm (e:Nat):V->V
 | .sl true _ xs=>.sl false e xs
 | v=>v
def GR:List Nat->List V->List V
 | e::es,v::vs=>Gm e v::GR es vs
 | [],vs=>vs
 | _,[]=>[]
def Dz (es:List Nat):V->V
 | .agg cs=>.agg (GR es cs)
 | v=>Gm (es.headD 0) v
def GM (rows:TypeId->List Nat):List TypeId->List V->List V
 | t::ts,v::vs=>Dz (rows t) v::GM rows ts vs
 | [],vs=>vs
 | _,[]=>[]
def TG:V->Bool | .ptr _ _ _ _=>true|_=>false
def V9:V->V | .lit v=>.lit v|_=>.und
def O6 (H:Heap) (v:V):Option V:=
 match v with
 | .ptr id i off tot=>if i=0/\off=0 then (match DZ H id tot with
   | some b=>(match b.row,b.xs with
    | false,[.agg cs]=>some (.CG b.Ar [.agg (cs.map V9)] 0 0)
    | false,[.lit z]=>some (.CG b.Ar [.lit z] 0 0)
    | _,_=>none)
   | none=>none) else none
 | v=>Hz H v
def KY (H:Heap):List V->Option (List V)
 | []=>some []
 | v::vs=>match O6 H v,KY H vs with|some w,some ws=>some (w::ws)|_,_=>none
def Ig:V->Bool | .lit _=>true|_=>false
def Ji:V->Bool
 | .lit _=>true
 | .agg cs=>cs.all Ig
 | _=>false
def O7:V->Bool
 | .BL vs=>vs.all Ji
 | v=>Ji v
def Ez:V->List Nat
 | .Bc id _ _ _=>[id]
 | _=>[]
def Dj:V->List Nat
 | .agg cs=>cs.flatMap Ez
 | v=>Ez v
def O9:V->List Nat
 | .BL vs=>vs.flatMap Dj
 | v=>Dj v
def bump (H:Heap):List Nat->Heap
 | []=>H
 | i::q=>bump (H.modify i fun b=>{ b with floor:=b.xs.length }) q
def place (H:Heap) (k:Nat) (b:Box):Heap:=if k<H.length then H.set k b else H++[b]
def FO (H:Heap) (k:Nat):Bool:=match H[k]? with|some b=>!b.live|none=>k==H.length
def elemsOf (H:Heap):V->Option (List V)
 | .sl _ _ xs=>some xs
 | .Ce _ _ xs=>some xs
 | .Bc id off len tot=>match DZ H id tot with
  | some b=>if b.row&&decide (off+len<=tot) then some ((b.xs.drop off).take len) else none
  | none=>none
 | .lit (.string s)=>some (s.data.toList.map fun c=>.lit (.int .u8 c.toNat))
 | _=>none
def Eb (H:Heap) (x:V) (n:Nat):Bool:=
 match x with
 | .sl b e _=>b||e==n
 | .Ce b e _=>b||e==n
 | .Bc id _ _ tot=>match DZ H id tot with|some b=>b.Ar==n|none=>false
 | _=>false
def lenOf (H:Heap):V->Option Nat
 | .sl _ _ xs=>some xs.length
 | .Ce _ _ xs=>some xs.length
 | .Bc id _ len tot=>match DZ H id tot with|some _=>some len|none=>none
 | .lit (.string s)=>some s.size
 | _=>none
def intOf:V->Option Int | .lit (.int _ n)=>some n|_=>none
def O3 (op:BinOp) (k:IntKind) (a b:Int):Option Value:=
 match op with
 | .add=>some (.int k (k.wrap (a+b)))
 | .sub=>some (.int k (k.wrap (a - b)))
 | .mul=>some (.int k (k.wrap (a*b)))
 | .quo=>if b=0 then none else some (.int k (k.wrap (a.tdiv b)))
 | .rem=>if b=0 then none else some (.int k (a.tmod b))
 | .and | .or | .xor | .andNot=>some (.int k (bits op k a b))
 | .eql=>some (.bool (a==b))
 | .neq=>some (.bool (a != b))
 | .lss=>some (.bool (decide (a<b)))
 | .leq=>some (.bool (decide (a<=b)))
 | .gtr=>some (.bool (decide (a>b)))
 | .geq=>some (.bool (decide (a>=b)))
 | _=>none
def PT (op:BinOp) (k:IntKind) (a b:Int):Option Value:=
 if b<0 then none else
 match op with
 | .shl=>some (.int k (k.wrap (a*2 ^ min b.toNat k.bits)))
 | .shr=>some (.int k (a.fdiv (2 ^ min b.toNat k.bits)))
 | _=>none
def VZ (op:BinOp) (x y:ByteArray):Option Value:=
 match op with
 | .add=>if decide (x.size+y.size<=maxLen) then some (.string (x++y)) else none
 | .eql=>some (.bool (x.toList==y.toList))
 | .neq=>some (.bool !(x.toList==y.toList))
 | .lss=>some (.bool (Op.bytesLess x.toList y.toList))
 | .leq=>some (.bool (Op.bytesLess x.toList y.toList||x.toList==y.toList))
 | .gtr=>some (.bool !(Op.bytesLess x.toList y.toList||x.toList==y.toList))
 | .geq=>some (.bool !(Op.bytesLess x.toList y.toList))
 | _=>none
def Ip:List FK->List V->List V->Option Bool
 | [],[],[]=>some true
 | .b::ks,.lit (.bool a)::xs,.lit (.bool b)::ys=>match Ip ks xs ys with|some r=>some (a==b&&r)|none=>none
 | .i k::ks,.lit (.int k1 a)::xs,.lit (.int k2 b)::ys=>if k1=k/\k2=k then (match Ip ks xs ys with|some r=>some (a==b&&r)|none=>none) else none
 | .s::ks,.lit (.string a)::xs,.lit (.string b)::ys=>match Ip ks xs ys with|some r=>some (a==b&&r)|none=>none
 | _,_,_=>none
def dU (P:Program) (z:TypeId->Option (List FK)):Nat->List Field->Option (List FK)
 | _,[]=>some []
 | off,f::fs=>
  if f.offset=off/\f.name != "_" then
   match z f.type with
   | some ks=>if P.cellsOf f.type=ks.length then (match dU P z (off+ks.length) fs with|some q=>some (ks++q)|none=>none) else none
   | none=>none
  else none
def Oc (P:Program):Nat->TypeId->Option (List FK)
 | 0,_=>none
 | d+1,t=>
  match P.underlying t with
  | some .bool=>some [.b]
  | some (.int k)=>some [.i k]
  | some .string=>some [.s]
  | some (.array n e)=>match Oc P d e with
   | some ks=>if P.cellsOf e=ks.length/\P.cellsOf t=n*ks.length then some (List.replicate n ks).flatten else none
   | none=>none
  | some (.struct fs)=>match dU P (Oc P d) 0 fs.toList with
   | some ks=>if P.cellsOf t=ks.length then some ks else none
   | none=>none
  | _=>none
def TA:V->Option Bool
 | .sl true _ _=>some true
 | .ptr _ _ _ _=>some false
 | .CG _ _ _ _=>some false
 | .fn _ _ _=>some false
 | .Gx _ _=>some false
 | .lit (.pointer none)=>some true
 | .lit .nilFunc=>some true
 | .lit .nilIface=>some true
 | .lit (.map none)=>some true
 | _=>none
def MO (E:Env) (op:BinOp) (t:TypeId) (x y:V):Option V:=
 match op,x,y with
 | .shl,.lit (.int k a),.lit (.int _ b)=>(PT .shl k a b).map .lit
 | .shr,.lit (.int k a),.lit (.int _ b)=>(PT .shr k a b).map .lit
 | op,.lit (.int k a),.lit (.int j b)=>if k=j then (O3 op k a b).map .lit else none
 | op,.lit (.string a),.lit (.string b)=>(VZ op a b).map V.lit
 | .eql,.lit (.bool a),.lit (.bool b)=>if E.isBool t then some (.lit (.bool (a==b))) else none
 | .neq,.lit (.bool a),.lit (.bool b)=>if E.isBool t then some (.lit (.bool (!(a==b)))) else none
 | .eql,.agg xs,.agg ys=>match E.flat t with|some ks=>(Ip ks xs ys).map fun b=>V.lit (.bool b)|none=>none
 | .neq,.agg xs,.agg ys=>match E.flat t with|some ks=>(Ip ks xs ys).map fun b=>V.lit (.bool !b)|none=>none
 | _,_,_=>none
def iI (op:UnOp) (x:V):Option V:=
 match op,x with
 | .neg,.lit (.int k n)=>some (.lit (.int k (k.wrap (0 - n))))
 | .xor,.lit (.int k n)=>some (.lit (.int k (bits .xor k (if k.signed then -1 else k.max) n)))
 | .not,.lit (.bool b)=>some (.lit (.bool !b))
 | _,_=>none
def OY (cs:List V):List (Nat×V)->(Nat->Option (Nat×Nat))->Option (List V)
 | [],_=>some cs
 | (i,v)::q,place=>
  match place i with
  | none=>none
  | some (off,size)=>if v.cells.length==size&&decide (off+size<=cs.length)&&okV v then OY (cs.take off++v.cells++cs.drop (off+size)) q place else none
def placesOf (E:Env) (fs:List (Nat×Nat)) (i:Nat):Option (Nat×Nat):=
 match fs[i]? with
 | some (off,t)=>match E.ti t with|some ti=>some (off,ti.size)|none=>none
 | none=>none
def VU (E:Env) (t:TypeId) (q:List (Nat×V)):Option V:=
 match E.ti t with
 | some i=>match i.zero with
  | some z=>
   if okV z then
    match i.ty with
    | .struct fs=>if fs.all fun x=>(E.ti x.2).isSome then (OY z.cells q (placesOf E fs)).map .agg else none
    | .array _ e=>match E.ti e with
     | some A=>(OY z.cells q (fun i=>some (i*A.size,A.size))).map .agg
     | none=>none
    | _=>none
   else none
  | none=>none
 | none=>none
def MC (xs:List V) (size:Nat):List (Nat×V)->Option (List V)
 | []=>some xs
 | (i,v)::q=>if v.cells.length==size&&decide (i<xs.length)&&okV v then MC (xs.set i v) size q else none
abbrev Dn:=FuncId->List V->Heap->Option (V×Heap)
def Bg (row EZ:Bool) (elem:TypeId) (Ar:Nat) (xs:List V):Box:={ live:=true,row,EZ,elem,Ar,xs,floor:=0 }
def Env.size (E:Env) (t:TypeId):Option Nat:=(E.ti t).map (·.size)
def MJ (E:Env) (H:Heap) (t:TypeId) (a:V):Option V:=
 match E.ti t with
 | none=>none
 | some i=>
  match a with
  | .CG _ xs j off=>OJ xs j off i.size i.isAgg
  | .ptr id j off tot=>match DZ H id tot with|some b=>OJ b.xs j off i.size i.isAgg|none=>none
  | _=>none
def KX (x:V) (off:Nat) (cs:List V):Option V:=
 match x with
 | .agg q=>if off+cs.length<=q.length then some (.agg (q.take off++cs++q.drop (off+cs.length))) else none
 | _=>match off,cs with|0,[c]=>some c|_,_=>none
def Lu (E:Env) (H:Heap) (t:TypeId) (a v:V):Option Heap:=
 match E.ti t with
 | none=>none
 | some i=>
  match a with
  | .ptr id j off tot=>match DZ H id tot with
   | some b=>match b.xs[j]? with
    | some x=>
     if v.cells.length==i.size&&decide (b.floor<=j)&&okV v then
      (if b.row then
       match Hz H v with
       | some v' =>match (KX x off v'.cells).map (Dz (E.rows b.elem)) with
        | some q =>if (Dj v).contains id || !(okV v') || !(okV q) then none else some ((bump H (Dj v)).set id { b with xs:=b.xs.set j q })
        | none=>none
       | none=>none
       else match KX x off v.cells with
        | some q =>if okV q then some (H.set id { b with xs:=b.xs.set j q }) else none
        | none=>none)
     else none
    | none=>none
   | none=>none
  | _=>none
def lim:Nat:=140737488355328
def Lp (E:Env) (k:Nat) (H:Heap) (t u:TypeId) (s x:V):Option (V×Heap):=
 match E.ti t with
 | some ⟨.slice e,_,_,_⟩=>
  match E.ti e,(u==t),elemsOf H x with
  | some q,true,some ys=>
   if decide (0<q.size)&&Eb H x q.size&&q.Ti then
    match s with
    | .Bc id off len tot=>match DZ H id tot with
     | some b=>
      if b.row&&b.elem==e&&decide (off=0)&&decide (len=tot)&&b.Ar==q.size then
       (if decide ((tot+ys.length)*q.bytes<=lim)&&decide (tot+ys.length<=maxLen) then
        some (.Bc id 0 (tot+ys.length) (tot+ys.length),H.set id { b with xs:=b.xs++ys,EZ:=b.EZ&&ys.isEmpty })
        else none)
      else if b.row&&b.elem==e&&decide (off=0)&&b.Ar==q.size&&decide (b.floor<=len)&&decide (len<tot)&&decide (len+ys.length<=tot) then
       some (.Bc id 0 (len+ys.length) tot,H.set id { b with xs:=b.xs.take len++ys++b.xs.drop (len+ys.length) })
      else none
     | none=>none
    | .sl true _ [] | .Ce true _ []=>
     (if decide (ys.length*q.bytes<=lim)&&decide (ys.length<=maxLen) then
      some (.Bc k 0 ys.length ys.length,place H k (Bg true false e q.size ys))
      else none)
    | .Ce false es xs=>
     (if es==q.size&&decide ((xs.length+ys.length)*q.bytes<=lim)&&decide (xs.length+ys.length<=maxLen) then
      (if ys.isEmpty then some (.Ce false es xs,H)
       else some (.Bc k 0 (xs.length+ys.length) (xs.length+ys.length),place H k (Bg true false e q.size (xs++ys))))
      else none)
    | _=>none
   else none
  | _,_,_=>none
 | _=>none
def MG (kd:IntKind) (n:Int):List V->Option (Option V)
 | []=>some none
 | .lit (.int k a)::v::r=>if k=kd then (if n=a then some (some v) else MG kd n r) else none
 | _=>none
def V7 (E:Env) (t:TypeId) (ok:Bool) (m x:V):Option V:=
 match E.ti t,m,x with
 | some ⟨.map k e,_,_,_⟩,.GY kvs,.lit (.int kd n)=>
  if E.kind k=some kd then
   match MG kd n kvs with
   | some (some v)=>some (if ok then .BL [v,.lit (.bool true)] else v)
   | some none=>match E.ti e with
    | some q=>q.zero.map fun z=>if ok then .BL [z,.lit (.bool false)] else z
    | none=>none
   | none=>none
  else none
 | _,_,_=>none
def fP (E:Env) (H:Heap) (t u:TypeId) (d x:V):Option (V×Heap):=
 match E.ti t with
 | some ⟨.slice e,_,_,_⟩=>
  match E.ti e,elemsOf H x,d with
  | some q,some ys,.Bc id off len tot=>match DZ H id tot with
   | some b=>
    if b.row&&decide (off=0)&&decide (len=tot)&&b.Ar==q.size&&Eb H x q.size&&decide (b.floor=0) then
     some (.lit (.int .i64 (min ys.length tot:Nat)),H.set id { b with xs:=ys.take tot++b.xs.drop ys.length })
    else none
   | none=>none
  | _,_,_=>none
 | _=>none
def Ie (v:V) (q:Nat):Option Nat:=
 match v with
 | .lit (.int _ n)=>if 0<=n/\n<=q then some n.toNat else none
 | _=>none
def IW (x:Option V) (z q:Nat):Option Nat:=match x with|some v=>Ie v z|none=>some q
def PH (E:Env) (H:Heap) (t:TypeId) (x:V):Bool:=
 match x with
 | .lit (.string _)=>E.isStr t
 | _=>match E.ti t with
  | some ⟨.slice e,_,_,_⟩=>match E.ti e with|some q=>Eb H x q.size|none=>false
  | _=>false
def JG (E:Env) (H:Heap) (t:TypeId) (x:V) (z q A:Option V):Option (V×Heap):=
 if PH E H t x then
  match lenOf H x with
  | none=>none
  | some n=>
   match IW q n n with
   | none=>none
   | some h=>
    match IW z h 0 with
    | none=>none
    | some l=>
     match A with
     | some m=>
      (match q,Ie m n,elemsOf H x,x with
       | some _,some k,some xs,.sl b e _=>if k=h then some (.Ce false e ((xs.drop l).take (h - l)),H) else none
       | some _,some k,some xs,.Ce b e _=>if k=h then some (.Ce false e ((xs.drop l).take (h - l)),H) else none
       | some _,some k,some xs,.Bc id _ _ _=>if k=h then some (.Ce false ((H.getD id default).Ar) ((xs.drop l).take (h - l)),bump H [id]) else none
       | _,_,_,_=>none)
     | none=>
      match x with
      | .lit (.string s)=>some (.lit (.string (s.extract l h)),H)
      | .sl b e xs=>some (.sl b e ((xs.drop l).take (h - l)),H)
      | .Ce b e xs=>some (.sl b e ((xs.drop l).take (h - l)),H)
      | .Bc id off _ tot=>some (.Bc id (off+l) (h - l) tot,H)
      | _=>none
 else none
def OL (E:Env) (H:Heap) (n:Nat) (e:TypeId) (x:V) (z q A:Option V):Option (V×Heap):=
 match x,z,IW q n n,A with
 | .ptr id i off tot,none,some m,none=>match DZ H id tot with
  | some b=>(match b.row,b.xs with
   | false,[.agg cs]=>if i=0/\off=0/\cs.length=n/\n<=maxLen/\E.size e=some 1/\cs.all Ig=true then some (.sl false 1 (cs.take m),bump H [id]) else none
   | _,_=>none)
  | none=>none
 | _,_,_,_=>none
def Vl (E:Env) (t:TypeId) (x:V):Option V:=
 match E.ti t,x with
 | some ⟨.array n e,_,_,_⟩,.sl false sz xs=>if E.size e=some 1/\sz=1/\0<n/\n<=xs.length/\(xs.take n).all Ig=true then some (.CG n [.agg (xs.take n)] 0 0) else none
 | _,_=>none
def Ov (E:Env) (H:Heap) (t:TypeId) (x i:V):Option V:=
 match i,E.ti t with
 | .lit (.int _ n),some ti=>
  match ti.ty,x with
  | .slice q,.sl _ e xs=>if 0<=n/\n<xs.length/\E.size q=some e then some (.CG e xs n.toNat 0) else none
  | .slice q,.Ce _ e xs=>if 0<=n/\n<xs.length/\E.size q=some e then some (.CG e xs n.toNat 0) else none
  | .slice q,.Bc id off len tot=>match DZ H id tot with
   | some b=>if 0<=n/\n<len/\E.size q=some b.Ar then some (.ptr id (off+n.toNat) 0 tot) else none
   | none=>none
  | .array len e,.ptr id j off tot=>match E.size e with
   | some sz=>if 0<=n/\n<len then some (.ptr id j (off+n.toNat*sz) tot) else none
   | none=>none
  | .array len e,.CG d xs j off=>match E.size e with
   | some sz=>if 0<=n/\n<len then some (.CG d xs j (off+n.toNat*sz)) else none
   | none=>none
  | _,_=>none
 | _,_=>none
def Uj (E:Env) (s:TypeId) (x:V) (f:Nat):Option V:=
 match E.ti s with
 | some ⟨.struct fs,_,_,_⟩=>match fs[f]? with
  | some (o,t)=>match E.size t with
   | some sz=>if sz=0 then none else match x with
    | .ptr id j off tot=>some (.ptr id j (off+o) tot)
    | .CG d xs j off=>some (.CG d xs j (off+o))
    | _=>none
   | none=>none
  | none=>none
 | _=>none
def VQ (E:Env) (s:TypeId) (x:V) (f:Nat):Option V:=
 match E.ti s,x with
 | some ⟨.struct fs,_,_,_⟩,.agg cs=>match fs[f]? with
  | some (o,t)=>match E.ti t with|some i=>partOf cs o i.size i.isAgg|none=>none
  | none=>none
 | _,_=>none
def VT (E:Env) (t:TypeId) (x i:V):Option V:=
 match i with
 | .lit (.int _ n)=>
  match E.ti t,x with
  | some ⟨.array len e,_,_,_⟩,.agg cs=>match E.ti e with
   | some q=>if 0<=n/\n<len then partOf cs (n.toNat*q.size) q.size q.isAgg else none
   | none=>none
  | some ⟨.scalar,_,_,_⟩,.lit (.string s)=>if E.isStr t then (if 0<=n then (s[n.toNat]?).map fun b=>V.lit (.int .u8 b.toNat) else none) else none
  | _,_=>none
 | _=>none
def byteOf:V->Option UInt8
 | .lit (.int .u8 n)=>some (UInt8.ofNat n.toNat)
 | _=>none
def bytesOf:List V->Option (List UInt8)
 | []=>some []
 | v::vs=>match byteOf v,bytesOf vs with|some b,some q=>some (b::q)|_,_=>none
def IY (E:Env) (H:Heap) (q dst:TypeId) (x:V):Option (V×Heap):=
 match x with
 | .lit (.int _ n)=>match E.kind dst with
  | some k=>if (E.ti q).isSome then some (.lit (.int k (k.wrap n)),H) else none
  | none=>none
 | .lit (.string s)=>if E.isStr q&&E.isStr dst then some (.lit (.string s),H) else none
 | x=>if E.isStr dst&&E.isBytes q&&Eb H x 1 then
   match elemsOf H x with
   | some xs=>match bytesOf xs with|some z=>if z.length<=maxLen then some (.lit (.string ⟨z.toArray⟩),H) else none|none=>none
   | none=>none
  else none
def bytesV (st:ByteArray):List V:=st.data.toList.map fun c=>.lit (.int .u8 c.toNat)
def MI (E:Env) (k:Nat) (H:Heap) (dst:TypeId) (x:V):Option (V×Heap):=
 match x,E.ti dst with
 | .lit (.string st),some ⟨.slice e,_,_,_⟩=>if E.size e=some 1 then some (.Bc k 0 st.size st.size,place H k (Bg true false e 1 (bytesV st))) else none
 | _,_=>none
def mm (q:Bool) (k:IntKind):Int->List V->Option V
 | a,[]=>some (.lit (.int k a))
 | a,.lit (.int j b)::z=>if k=j then mm q k (if q then (if b>a then b else a) else (if b<a then b else a)) z else none
 | _,_=>none
def P6 (q:Bool):List V->Option V
 | .lit (.int k a)::z=>mm q k a z
 | _=>none
def evs (E:Env) (s:List V) (xs:Array Operand):List V:=xs.toList.map (ev E s)
def rP (E:Env) (t:TypeId) (x:V):Bool:=
 match x with
 | .lit (.string s)=>E.isStr t
 | _=>match E.ti t with|some ⟨.slice _,_,_,_⟩=>true|_=>false
def PI (E:Env) (k:Nat) (H:Heap) (s:List V) (b:Builtin) (args:List V) (q:List TypeId):Option (V×Heap):=
 match b,args,q with
 | .len,[x],[t]=>if rP E t x then (lenOf H x).map fun n=>(V.lit (.int .i64 n),H) else none
 | .append,[a,x],[t,u]=>Lp E k H t u a x
 | .copy,[d,x],[t,u]=>fP E H t u d x
 | .min,args,_=>(P6 false args).map (·,H)
 | .max,args,_=>(P6 true args).map (·,H)
 | _,_,_=>none
def Oo (E:Env) (k:Nat) (H:Heap) (t:TypeId) (n:Nat) (q:List (Nat×V)):Option (V×Heap):=
 match E.ti t with
 | some ⟨.slice e,_,_,_⟩=>match E.ti e with
  | some A=>match A.zero,FI H (q.map (·.2)) with
   | some z,some vs=>
    if n*A.size<=16777216/\0<A.size/\z.cells.length=A.size/\okV z=true/\(n==0 && !q.isEmpty)=false then
     match MC (List.replicate n (Dz (E.rows e) z)) A.size ((q.map (·.1)).zip (vs.map (Dz (E.rows e)))) with
     | some xs=>some (.Bc k 0 n n,place (bump H ((q.map (·.2)).flatMap Dj)) k (Bg true false e A.size xs))
     | none=>none
    else none
   | _,_=>none
  | none=>none
 | _=>none
def BP (call:Dn) (E:Env) (k:Nat) (H:Heap) (s:List V) (o:Oper):Option (V×Heap):=
 match o.op with
 | .move x=>some (ev E s x,H)
 | .assign (.const (.slice none 0 0))=>match E.ti o.type with
  | some ⟨.slice e,_,_,_⟩=>some (.Bc k 0 0 0,place H k (Bg true false e ((E.size e).getD 0) []))
  | _=>none
 | .assign x=>some (ev E s x,H)
 | .pick c a b=>match ev E s c with | .lit (.bool t)=>some (if t then ev E s a else ev E s b,H)|_=>none
 | .alloc t=>match E.ti t with
  | some i=>match i.zero with|some z=>if z.cells.length=i.size/\okV z=true then some (.ptr k 0 0 1,place H k (Bg false false t i.size [z])) else none|none=>none
  | none=>none
 | .box t x=>match E.ti t with
  | some i=>if (ev E s x).cells.length=i.size/\okV (ev E s x)=true then some (.ptr k 0 0 1,place H k (Bg false false t i.size [ev E s x])) else none
  | none=>none
 | .build t q=>(VU E t (q.toList.map fun(i,x)=>(i,ev E s x))).map (·,H)
 | .buildSlice t n q=>Oo E k H t n (q.toList.map fun(i,x)=>(i,ev E s x))
 | .load t a=>(MJ E H t (ev E s a)).map (·,H)
 | .store t a v=>(Lu E H t (ev E s a) (ev E s v)).map (EH,·)
 | .nilCheck x=>match TA (ev E s x) with|some false=>some (ev E s x,H)|_=>none
 | .binOp op t x y _=>(MO E op t (ev E s x) (ev E s y)).map (·,H)
 | .unOp op _ x=>(iI op (ev E s x)).map (·,H)
 | .convert C dst x=>if E.isStr C&&E.isBytes dst then MI E k H dst (ev E s x) else IY E H C dst (ev E s x)
 | .makeSlice t l c=>match E.ti t,ev E s l,ev E s c with
  | some ⟨.slice e,_,_,_⟩,.lit (.int _ n),.lit (.int _ m)=>match E.ti e with
   | some A=>match A.zero with
    | some z=>if 0<=n/\n<=m/\m.toNat*A.bytes<=lim/\m<=maxLen/\0<A.size/\z.cells.length=A.size/\okV z=true then
      some (.Bc k 0 n.toNat n.toNat,place H k (Bg true false e A.size (List.replicate n.toNat (Dz (E.rows e) z)))) else none
    | none=>none
   | none=>none
  | _,_,_=>none
 | .slice t x F D G=>match E.ti t with
  | some ⟨.array n e,_,_,_⟩=>OL E H n e (ev E s x) (F.map (ev E s)) (D.map (ev E s)) (G.map (ev E s))
  | _=>JG E H t (ev E s x) (F.map (ev E s)) (D.map (ev E s)) (G.map (ev E s))
 | .sliceToArrayPointer t x=>(Vl E t (ev E s x)).map (·,H)
 | .fieldAddr t x f=>(Uj E t (ev E s x) f).map (·,H)
 | .field t x f=>(VQ E t (ev E s x) f).map (·,H)
 | .indexAddr t x i=>(Ov E H t (ev E s x) (ev E s i)).map (·,H)
 | .index t x i=>(VT E t (ev E s x) (ev E s i)).map (·,H)
 | .extract x i=>match ev E s x with | .BL vs=>(vs[i]?).map (·,H)|_=>none
 | .lookup t m x ok=>(V7 E t ok (ev E s m) (ev E s x)).map (·,H)
 | .makeFunc (.func f) first caps=>some (.fn f (evs E s first) (evs E s caps),H)
 | .call c=>match c.callee with
  | .builtin b=>PI E k H s b (evs E s c.args) c.argTypes.toList
  | .value f=>match ev E s f with
   | .fn g first caps=>call g (first++evs E s c.args++caps) H
   | _=>none
  | _=>none
 | _=>none
def F6 (call:Dn) (E:Env) (ops:Array Oper) (k:Nat) (o:Oper) (st:St):Option (V×Heap):=
 match o.guard with
 | none=>BP call E k st.H st.s o
 | some (j,q)=>
  match (ops[j]?).bind (·.dst) with
  | none=>none
  | some d=>match OM (st.s.getD d .und) q with
   | none=>none
   | some false=>some (EH,st.H)
   | some true=>BP call E k st.H st.s o
def Je (call:Dn) (E:Env) (ops:Array Oper) (k:Nat) (i:Nat) (st:St):Option St:=
 match ops[i]? with
 | none=>some st
 | some o=>match F6 call E ops k o st with
  | some (v,H)=>some ⟨setSlot st.s o.dst v,H⟩
  | none=>none
def stepD (call:Dn) (E:Env) (ops:Array Oper) (i:Nat) (st:St):Option St:=Je call E ops st.H.length i st
def MN (call:Dn) (E:Env) (ops:Array Oper):List Nat->St->Option St
 | [],st=>some st
 | i::q,st=>match stepD call E ops i st with
  | some st' =>MN call E ops q st'
  | none=>none
def EE:V->List Nat
 | .Bc id _ _ _=>[id]
 | .ptr id _ _ _=>[id]
 | _=>[]
def fQ:V->List Nat
 | .agg cs=>cs.flatMap EE
 | v=>EE v
def DC:V->List Nat
 | .agg cs=>cs.flatMap EE
 | .fn _ a b=>(a++b).flatMap fQ
 | v=>EE v
def uS:V->Bool | .fn _ _ _=>true|_=>false
def tH (E:Env):V->Bool
 | .fn g a b=>((E.pure g||(E.env g).isSome)&&(E.own g).isNone)&&(a++b).all (fun v=>!uS v)
 | _=>false
def quietAt (E:Env) (s:List V) (o:Oper):Bool:=
 match o.op with
 | .call c=>(match c.callee with
  | .value (.tmp t)=>!(E.quiet&&o.type != 0)||tH E (s.getD t .und)
  | _=>true)
 | _=>true
def ED (E:Env) (s:List V) (o:Oper):List Nat:=o.op.operands.toList.flatMap fun x=>DC (ev E s x)
inductive Cls where
 | s|n|f|a|c|w
 deriving DecidableEq
def Pe (E:Env) (f:FuncId):Bool:=(E.env f).isNone && !E.pure f&&(match E.hm f [] with|some q=>q.fb.isEmpty|none=>false)
def Bi (E:Env) (o:Oper):Cls:=
 match o.op with
 | .move _ | .pick .. | .build .. | .binOp .. | .unOp .. | .field .. | .fieldAddr .. | .extract .. | .lookup .. | .makeFunc .. | .index .. | .nilCheck _ | .sliceToArrayPointer ..=>.s
 | .assign (.const (.slice none 0 0))=>.a
 | .assign _=>.s
 | .load .. | .indexAddr ..=>.n
 | .convert q dst _=>if E.isStr q&&E.isBytes dst then .a else .n
 | .slice ..=>.n
 | .alloc _ | .box .. | .buildSlice .. | .makeSlice ..=>.a
 | .call c=>match c.callee with
  | .builtin .len=>.n
  | .builtin .min=>.s
  | .builtin .max=>.s
  | .value (.func f)=>if (E.pure f||(E.env f).isSome)&&(E.own f).isNone then .f else if Pe E f then .c else .w
  | .value (.tmp _)=>if E.quiet&&o.type != 0 then .f else .w
  | _=>.w
 | _=>.w
def Z41:Cls->Cls->Bool
 | .w,.s=>true
 | .s,.w=>true
 | .w,_=>false
 | _,.w=>false
 | .c,.c=>false
 | _,_=>true
def VR (acc:List Nat) (o:Oper):Nat:=
 o.after.toList.foldl (fun m e=>if Region.binds .any e then m ||| (1 <<< e.on) ||| acc.getD e.on 0 else m) 0
def Ff:List Nat->List Oper->List Nat
 | acc,[]=>acc
 | acc,o::os=>Ff (acc++[VR acc o]) os
def eF (E:Env) (ops:Array Oper) (x y:Oper):Bool:=Z41 (Bi E x) (Bi E y)&&x.apart ops y
def PK (o:Oper):Option Operand:=
 match o.op with
 | .store _ a _=>some a
 | .call c=>(match c.callee,c.args.toList with
  | .builtin .append,[a,_]=>some a
  | _,_=>none)
 | _=>none
def ZDX (ops:Array Oper) (d:Tmp):Option Nat:=(List.range ops.size).find? fun j=>match ops[j]? with|some q=>q.dst==some d|none=>false
def rootOf (E:Env) (ops:Array Oper):Nat->Tmp->Option (Nat⊕Nat)
 | 0,_=>none
 | n+1,d=>match ZDX ops d with
  | none=>some (.inr d)
  | some j=>match ops[j]? with
   | none=>none
   | some q=>if Bi E q = .a then some (.inl j) else match q.op with
    | .fieldAddr _ (.tmp e) _=>rootOf E ops n e
    | .nilCheck (.tmp e)=>rootOf E ops n e
    | .move (.tmp e)=>rootOf E ops n e
    | .indexAddr _ (.tmp e) _=>rootOf E ops n e
    | .call _=>(match PK q with|some (.tmp e)=>rootOf E ops n e|_=>none)
    | _=>none
def Va (E:Env) (ops:Array Oper) (o:Oper):Option (Nat⊕Nat):=
 match o.guard,PK o with
 | none,some (.tmp d)=>rootOf E ops 12 d
 | _,_=>none
def needs (E:Env) (o:Oper):Bool:=match Bi E o with | .n=>true | .f=>true | .a=>true | .c=>true|_=>false
def linked (ms:List Nat) (x y:Nat):Bool:=(ms.getD x 0).testBit y||(ms.getD y 0).testBit x
def Pg (E:Env) (ops:Array Oper):List (Nat×(Nat⊕Nat)):=
 let ms:=Ff [] ops.toList
 (List.range ops.size).filterMap fun x=>match ops[x]? with
  | some ox=>(match Va E ops ox with
   | some t=>if (List.range ops.size).any (fun y=>!linked ms x y&&(match ops[y]? with|some oy=>needs E oy|none=>false)) then some (x,t) else none
   | none=>none)
  | none=>none
def P8 (base:Nat) (s0:List V):Nat⊕Nat->Option Nat
 | .inl j=>some (base+j)
 | .inr d=>match s0.getD d .und with | .ptr id _ _ _=>some id | .Bc id _ _ _=>some id|_=>none
def addrOf (E:Env) (s:List V) (o:Oper):V:=match PK o with|some a=>ev E s a|_=>.no
def OO (H:Heap) (a:V) (k:Nat):Bool:=match a with
 | .ptr id _ _ tot=>id==k&&(match DZ H id tot with|some b=>!b.row|none=>false)
 | .Bc id _ _ _=>id==k&&(match H[id]? with|some b=>b.row|none=>false)
 | _=>false
def GX (E:Env) (ms:List Nat) (lt:List (Nat×(Nat⊕Nat))) (s0:List V) (base i:Nat) (s:List V) (H:Heap) (o:Oper):Bool:=
 lt.all fun p=>match P8 base s0 p.2 with
  | none=>false
  | some k=>if p.1=i then OO H (addrOf E s o) k else !needs E o||(linked ms p.1 i || !(ED E s o).contains k)
def NH (E:Env) (ops:Array Oper) (lt:List (Nat×(Nat⊕Nat))) (x:Nat) (ox oy:Oper):Bool:=
 ox.apart ops oy&&(needs E oy&&lt.any fun p=>p.1==x)
def tC (E:Env) (ops:Array Oper):Bool:=
 let ms:=Ff [] ops.toList
 (List.range ops.size).all fun y=>match ops[y]? with
  | some oy=>oy.after.all (fun e=>!Region.binds .any e||decide (e.on<y)) &&
   (List.range y).all fun x=>(ms.getD y 0).testBit x||(match ops[x]? with|some ox=>eF E ops ox oy||(NH E ops (Pg E ops) x ox oy||NH E ops (Pg E ops) y oy ox)|none=>true)
  | none=>true
def Ed (E:Env) (f:FuncId):Code->Bool
 | .region id ops true=>!E.calm f id||tC E ops
 | .seq a b=>Ed E f a&&Ed E f b
 | .cond _ a b=>Ed E f a&&Ed E f b
 | .block _ b=>Ed E f b
 | .loop b=>Ed E f b
 | .scope b=>Ed E f b
 | _=>true
def Q9:Box:={ live:=false,row:=false,EZ:=false,elem:=0,Ar:=0,xs:=[],floor:=0 }
def VW (E:Env) (ops:Array Oper) (ms:List Nat) (i:Nat):Bool:=
 (List.range ops.size).all fun j=>j==i||(linked ms i j||(match ops[j]? with|some q=>!decide (Bi E q = .c)|none=>true))
def Ht (call:Dn) (E:Env) (ops:Array Oper) (ms:List Nat) (lt:List (Nat×(Nat⊕Nat))) (s0:List V) (base m:Nat) (i:Nat) (st:St):Option St:=
 match ops[i]? with
 | none=>some st
 | some o=>
  if ((ED E st.s o).all fun id=>decide (id<base)||(decide (base+m<=id)&&VW E ops ms i)||(decide (id<base+m)&&(ms.getD i 0).testBit (id - base)))&&quietAt E st.s o&&(GX E ms lt s0 base i st.s st.H o&&(!decide (Bi E o = .c)||decide (base+m<=st.H.length))) then
   (if Bi E o = .a then
    match st.H[base+i]? with
    | some b=>if b.live then none else Je call E ops (base+i) i st
    | none=>none
    else Je call E ops st.H.length i st)
  else none
def Lt (call:Dn) (E:Env) (ops:Array Oper) (ms:List Nat) (lt:List (Nat×(Nat⊕Nat))) (s0:List V) (base m:Nat):List Nat->St->Option St
 | [],st=>some st
 | i::q,st=>match Ht call E ops ms lt s0 base m i st with
  | some st' =>Lt call E ops ms lt s0 base m q st'
  | none=>none
def TL (call:Dn) (E:Env) (ops:Array Oper) (st:St):Option St:=
 let m:=if ops.any (fun o=>decide (Bi E o = .a)) then ops.size else 0
 Lt call E ops (Ff [] ops.toList) (Pg E ops) st.s st.H.length m (List.range ops.size) ⟨st.s,st.H++List.replicate m Q9⟩
def GG (call:Dn) (q:Code->St->Option (Ex×St)) (E:Env) (f:FuncId):Code->St->Option (Ex×St)
 | .skip,st=>some (.normal,st)
 | .region _ ops false,st=>(MN call E ops (List.range ops.size) st).map (.normal,·)
 | .region id ops true,st=>if E.calm f id then (TL call E ops st).map (.normal,·) else none
 | .seq a b,st=>match GG call q E f a st with
  | some (.normal,st')=>GG call q E f b st'
  | r=>r
 | .cond c a b,st=>match ev E st.s c with
  | .lit (.bool t)=>if t then GG call q E f a st else GG call q E f b st
  | _=>none
 | .block id b,st=>match GG call q E f b st with
  | some (.exit i,st')=>if i=id then some (.normal,st') else some (.exit i,st')
  | r=>r
 | .loop b,st=>q b st
 | .scope b,st=>GG call q E f b st
 | .label _,st=>some (.normal,st)
 | .exit id,st=>some (.exit id,st)
 | .ret,st=>some (.ret,st)
 | _,_=>none
def TM (call:Dn) (E:Env) (f:FuncId):Nat->Code->St->Option (Ex×St)
 | 0,_,_=>none
 | n+1,b,st=>match GG call (TM call E f n) E f b st with
  | some (.normal,st')=>TM call E f n b st'
  | r=>r
def resD (E:Env) (H:Heap) (s:List V):ResultVar->Option V
 | .tmp t=>some (s.getD t .und)
 | .cell a t=>MJ E H t (s.getD a .und)
def KU (E:Env) (H:Heap) (s:List V) (rs:List ResultVar):Option V:=
 match rs.mapM (resD E H s) with
 | some [v]=>some v
 | some vs=>some (.BL vs)
 | none=>none
def P9 (call:Dn) (n:Nat) (E:Env) (f:FuncId) (fn:Func) (args:List V) (H:Heap):Option (V×Heap):=
 match fn.body with
 | none=>none
 | some c=>match GG call (TM call E f n) E f c ⟨args++List.replicate (fn.ntmps - args.length) EH,H⟩ with
  | some (.normal,st)|some (.ret,st)=>(KU E st.H st.s fn.results.toList).map (·,st.H)
  | _=>none
mutual
def EO:V->List Nat
 | .Bc id _ _ _=>[id]
 | .ptr id _ _ _=>[id]
 | .agg cs=>Dc cs
 | .BL cs=>Dc cs
 | .fn _ a b=>Dc a++Dc b
 | .Gx _ v=>EO v
 | .GY cs=>Dc cs
 | _=>[]
def Dc:List V->List Nat
 | []=>[]
 | x::xs=>EO x++Dc xs
end
mutual
def FT (q:Nat->Nat):V->V
 | .Bc id off len tot=>.Bc (q id) off len tot
 | .ptr id i off tot=>.ptr (q id) i off tot
 | .agg cs=>.agg (Gg q cs)
 | .BL cs=>.BL (Gg q cs)
 | .fn f a b=>.fn f (Gg q a) (Gg q b)
 | .Gx t v=>.Gx t (FT q v)
 | .GY cs=>.GY (Gg q cs)
 | v=>v
def Gg (q:Nat->Nat):List V->List V
 | []=>[]
 | x::xs=>FT q x::Gg q xs
end
def fJ (e:TypeId) (sz:Nat) (H:Heap) (x:V):Option (V×Heap):=
 match x with
 | .sl true _ []=>some (.Bc H.length 0 0 0,H++[Bg true false e sz []])
 | .Ce true _ []=>some (.Bc H.length 0 0 0,H++[Bg true false e sz []])
 | .Bc id off len tot=>if off=0/\len=tot then some (.Bc id off len tot,H) else none
 | _=>none
def Hq:Fk->Heap->V->Option (V×Heap)
 | .s _ sz,H,x=>(Hu H x).map fun y=>(Gm sz y,bump H (Ez x))
 | .own e sz,H,x=>fJ e sz H x
 | .keep,H,x=>some (x,H)
 | .drop,H,_=>some (.und,H)
def Hr:List Fk->Heap->List V->Option (List V×Heap)
 | [],H,[]=>some ([],H)
 | f::fs,H,x::xs=>match Hq f H x with
  | some (y,H1)=>match Hr fs H1 xs with
   | some (ys,q)=>some (y::ys,q)
   | none=>none
  | none=>none
 | _,_,_=>none
def Jh (fl:List Fk) (H:Heap) (x:V):Option (V×Heap):=
 match x with
 | .agg cs=>(Hr fl H cs).map fun r=>(.agg r.1,r.2)
 | x=>match fl with
  | [f]=>Hq f H x
  | _=>none
def IG:List (List Fk)->Heap->List V->Option (List V×Heap)
 | [],H,[]=>some ([],H)
 | f::fs,H,x::xs=>match Jh f H x with
  | some (y,H1)=>match IG fs H1 xs with
   | some (ys,q)=>some (y::ys,q)
   | none=>none
  | none=>none
 | _,_,_=>none
def Jf:Nat->List Bf->Heap->List Nat->List Nat->Option (Heap×List Nat)
 | 0,_,_,_,_=>none
 | _+1,_,H,[],seen=>some (H,seen)
 | n+1,fb,H,id::q,seen=>
  if seen.contains id then Jf n fb H q seen else
  match H[id]?,fb with
  | some b,.row fresh::z =>if b.live&&b.row then Jf n z (if fresh then H else bump H [id]) q (seen++[id]) else none
  | some b,.var fl::z =>if b.live && !b.row then
    (match b.xs with
     | [x]=>match Jh fl H x with
      | some (y,H1)=>(match H1[id]? with
       | some b1=>if okV y then Jf n z (H1.set id { b1 with xs:=[y] }) (q++EO y) (seen++[id]) else none
       | none=>none)
      | none=>none
     | _=>none)
    else none
  | _,_=>none
def Fv (q:Nat->Nat) (b:Box):Box:=if b.row then b else { b with xs:=Gg q b.xs }
def Ii (H:Heap) (ids:List Nat):Heap:=ids.map fun id=>Fv (ids.idxOf ·) ((H[id]?).getD Q9)
def pack (fa:List (List Fk)) (fb:List Bf) (k:Nat) (args:List V) (H:Heap):Option (List Nat×List V×Heap):=
 match IG fa H args with
 | some (as,H1)=>match Jf 1000 fb H1 (List.range k++Dc as) [] with
  | some (q,ids)=>some (ids,as,q)
  | none=>none
 | none=>none
def JK (ids:List Nat) (n j:Nat):Nat:=if j<ids.length then ids.getD j 0 else n+(j - ids.length)
def Pq:Heap->List Nat->Heap->Heap
 | H,[],q=>H++q
 | H,id::ids,b::q=>Pq (H.set id b) ids q
 | H,_::_,[]=>H
def OH (H:Heap) (ids:List Nat) (q:Heap):Heap:=Pq H ids (q.map (Fv (JK ids H.length)))
def O4 (z:V5) (args:List V) (H:Heap):Option (V×Heap):=
 match pack z.fa z.fb 0 args H with
 | some (ids,as,q)=>match z.run (Gg (ids.idxOf ·) as) (Ii q ids) with
  | some (r,A)=>if ids.length<=A.length then some (FT (JK ids q.length) r,OH q ids A) else none
  | none=>none
 | none=>none
def MF:List V->List FuncId
 | []=>[]
 | .fn f _ _::vs=>f::MF vs
 | _::vs=>MF vs
def uT (fa:List (List Fk)) (fb:List Bf) (k:Nat) (z:V) (H:Heap):Option (V×Heap):=
 match z with
 | .BL vs=>match pack fa fb k vs H with
  | some (ids,as,q)=>if ids.take k=List.range k then some (.BL (Gg (ids.idxOf ·) as),Ii q ids) else none
  | none=>none
 | v=>match pack fa fb k [v] H with
  | some (ids,[a],q)=>if ids.take k=List.range k then some (FT (ids.idxOf ·) a,Ii q ids) else none
  | _=>none
def En (E:Env):Nat->Dn
 | 0,_,_,_=>none
 | n+1,f,args,H=>
  match E.env f with
  | some F=>if args.any TG then (match E.own f,KY H args with
    | none,some as=>(match F (GM E.rows (E.par f) as) with
     | some r=>if O7 r then some (r,bump H (args.flatMap Dj)) else none
     | none=>none)
    | _,_=>none)
   else match FI H args with
   | some as=>(match E.own f with
    | none=>(F (GM E.rows (E.par f) as)).map (·,bump H (args.flatMap Dj))
    | some e=>match F (GM E.rows (E.par f) as) with
     | some (.sl false sz xs)=>some (.Bc H.length 0 xs.length xs.length,place (bump H (args.flatMap Dj)) H.length (Bg true false e sz xs))
     | _=>none)
   | none=>none
  | none=>
   if E.pure f then
    match E.func f with
    | none=>none
    | some fn=>match FI H args with
     | some as=>match P9 (En E n) n E f fn as [] with
      | some (r,H')=>(JL H' r).map (·,bump H (args.flatMap Dj))
      | none=>none
     | none=>none
   else match E.hm f (if Pe E f then [] else MF args) with
    | some q=>O4 q args H
    | none=>match E.func f with
     | none=>none
     | some fn=>P9 (En E n) n E f fn args H
def uD (P:Program) (t:TypeId):Option (List FK):=
 match P.underlying t with
 | some (.struct _)|some (.array _ _)=>if P.keyTypeAt 20 t && !P.eqGuardType P.depth t then Oc P 20 t else none
 | _=>none
def Z4g (P:Program):Nat->TypeId->List Nat
 | 0,_=>[]
 | d+1,t=>match P.underlying t with
  | some (.slice e)=>[P.cellsOf e]
  | some (.struct fs)=>fs.toList.flatMap fun f=>Z4g P d f.type
  | some (.array n e)=>(List.replicate n (Z4g P d e)).flatten
  | _=>[0]
def rowsOf (P:Program) (t:TypeId):List Nat:=Z4g P 20 t
def OB (P:Program) (pure:FuncId->Bool) (env:FuncId->Option (List V->Option V)):Env where
 P:=P
 ti:=Jn P
 func:=fun f=>P.funcs[f]?
 env:=env
 Ef:=fun _=>none
 pure:=pure
 flat:=uD P
 kind:=fun t=>match P.underlying t with|some (.int k)=>some k|_=>none
 isStr:=fun t=>P.underlying t matches some .string
 isBool:=fun t=>P.underlying t matches some .bool
 isBytes:=fun t=>match P.underlying t with|some (.slice e)=>(P.underlying e matches some (.int .u8))|_=>false
 calm:=fun _ _=>true
 rows:=rowsOf P
 par:=fun f=>match P.funcs[f]? with|some fn=>fn.params.toList|none=>[]
 own:=fun _=>none
 hm:=fun _ _=>none
end Go.Proofs.YtjodhcdmhobmoaaGreatDoor.Le
namespace Go.Proofs.YtjodhcdmhobmoaaGreatDoor.Le
open Go.RowKit (Below)
structure Loc where
 v:Value
 tot:Nat
 Ar:Nat
structure Sg where
 box:Nat->Option Loc
 fz:Nat->Nat->Prop
def flat (us:List Value):List Value:=us.flatMap fun u=>u.cells.toList
def Lies (σ:Sg) (w:World) (b o:Nat) (us:List Value):Prop:=
 ∀j u,(flat us)[j]? = some u->σ.fz b (o+j)/\w.cell? ⟨b,o+j,none⟩=some u
def Zeo (L:Value) (Ar off len:Nat) (v:Value):Prop:=
 ∃a n c k,L = .slice a n c/\v = .slice (a.map (·.add (k*Ar))) len (c - off)/\off<=c/\k<=off/\(off<c->k=off)
inductive AQ (σ:Sg) (w:World):List V->List Value->Prop where
 | nil:AQ σ w [] []
 | und (u:Value) {xs vs}:AQ σ w xs vs->AQ σ w (.und::xs) (u::vs)
 | no {xs vs}:AQ σ w xs vs->AQ σ w (.no::xs) (undef::vs)
 | lit {v:Value} {xs vs}:leaf v=true->AQ σ w xs vs->AQ σ w (.lit v::xs) (v::vs)
 | agg {cs ws xs vs}:AQ σ w cs ws->(∀u∈ws,u.oneCell' = true)->AQ σ w xs vs->AQ σ w (.agg cs::xs) (.agg ws.toArray::vs)
 | BL {cs ws xs vs}:AQ σ w cs ws->AQ σ w xs vs->AQ σ w (.BL cs::xs) (.tuple ws.toArray::vs)
 | ET {b e xs vs}:AQ σ w xs vs->AQ σ w (.sl b e []::xs) (.slice none 0 0::vs)
 | FU {e xs vs} (a:Addr):AQ σ w xs vs->AQ σ w (.sl false e []::xs) (.slice (some a) 0 0::vs)
 | GU {e xs vs} (a:Addr):AQ σ w xs vs->AQ σ w (.Ce false e []::xs) (.slice (some a) 0 0::vs)
 | Fz {b e xs vs}:AQ σ w xs vs->AQ σ w (.Ce b e []::xs) (.slice none 0 0::vs)
 | sl {es us xs vs} (b o c e:Nat):AQ σ w es us->(∀x∈es,Ep x=true)->(∀u∈us,u.cells.size=e)->(∀u∈flat us,u.oneCell' = true)->es.length<=c->c<=maxLen->Lies σ w b o us->AQ σ w xs vs ->
   AQ σ w (.sl false e es::xs) (.slice (some ⟨b,o,none⟩) es.length c::vs)
 | Ce {es us xs vs} (b o e:Nat):AQ σ w es us->(∀x∈es,Ep x=true)->(∀u∈us,u.cells.size=e)->(∀u∈flat us,u.oneCell' = true)->es.length<=maxLen->Lies σ w b o us->AQ σ w xs vs ->
   AQ σ w (.Ce false e es::xs) (.slice (some ⟨b,o,none⟩) es.length es.length::vs)
 | Bc {id off len tot L v xs vs}:σ.box id=some L->tot<=L.tot->(L.tot=tot->off+len<=tot/\Zeo L.v L.Ar off len v)->(∃a n c,v = .slice a n c)->AQ σ w xs vs ->
   AQ σ w (.Bc id off len tot::xs) (v::vs)
 | ptr {id i off tot L v xs vs} (g:Nat):σ.box id=some L->tot<=L.tot->(L.tot=tot->∃n c,L.v = .slice (some ⟨g,0,none⟩) n c)->v = .pointer (some ⟨g,i*L.Ar+off,none⟩)->AQ σ w xs vs ->
   AQ σ w (.ptr id i off tot::xs) (v::vs)
 | CG {es us xs vs} (b o e i off:Nat):AQ σ w es us->(∀x∈es,Ep x=true)->(∀u∈us,u.cells.size=e)->(∀u∈flat us,u.oneCell' = true)->Lies σ w b o us->AQ σ w xs vs ->
   AQ σ w (.CG e es i off::xs) (.pointer (some ⟨b,o+i*e+off,none⟩)::vs)
 | fn {f first caps us ws xs vs}:AQ σ w first us->AQ σ w caps ws->AQ σ w xs vs->AQ σ w (.fn f first caps::xs) (.func (.func f) us.toArray ws.toArray::vs)
 | Gx {t x u xs vs}:AQ σ w [x] [u]->AQ σ w xs vs->AQ σ w (.Gx t x::xs) (.iface t u::vs)
 | GY {kvs us xs vs} (g:Nat) (es:Array MapEntry) (c:Nat):AQ σ w kvs us->w.heap[g]? = some (.map es c)->us=es.toList.flatMap (fun e=>[e.key,e.val])->AQ σ w xs vs->AQ σ w (.GY kvs::xs) (.map (some g)::vs)
def EP (w w' : World):Prop:=∀(g:Nat) (es:Array MapEntry) (c:Nat),w.heap[g]? = some (Obj.map es c)->w'.heap[g]? = some (Obj.map es c)
theorem EP.refl (w:World):EP w w:=fun _ _ _ h=>h
theorem EP.trans {w w' w'' : World} (h:EP w w') (k:EP w' w''):EP w w'' :=fun g es c q=>k g es c (h g es c q)
structure Ext (σ:Sg) (w:World) (σ' : Sg) (w' : World):Prop where
 box:∀id L,σ.box id=some L->∃L',σ'.box id=some L' /\ L'.Ar=L.Ar/\(L' = L\/L.tot<L'.tot)
 fz:∀b c,σ.fz b c->σ'.fz b c/\w'.cell? ⟨b,c,none⟩=w.cell? ⟨b,c,none⟩
 mp:EP w w'
theorem Ext.refl (σ:Sg) (w:World):Ext σ w σ w:=⟨fun id L h=>⟨L,h,rfl,.inl rfl⟩,fun b c h=>⟨h,rfl⟩,EP.refl w⟩
theorem Ext.trans {σ w σ' w' σ'' w''} (h:Ext σ w σ' w') (k:Ext σ' w' σ'' w''):Ext σ w σ'' w'' :=by
 refine⟨fun id L G=>?_,fun b c hc=>?_,h.mp.trans k.mp⟩
 ·obtain⟨z,D,F,h3⟩:=h.box id L G;obtain⟨q,k1,k2,k3⟩:=k.box id z D;refine⟨q,k1,k2.trans F,?_⟩;rcases h3 with rfl|h3
  ·exact k3
  ·rcases k3 with rfl|k3
   ·exact .inr h3
   ·exact .inr (Nat.lt_trans h3 k3)
 ·obtain⟨A,C⟩:=h.fz b c hc;obtain⟨b1,b2⟩:=k.fz b c A;exact⟨b1,b2.trans C⟩
theorem Lies.ext {σ w σ' w' b o us} (h:Lies σ w b o us) (e:Ext σ w σ' w'):Lies σ' w' b o us:=fun j u D=>by
 obtain⟨A,C⟩:=h j u D;obtain⟨q,z⟩:=e.fz _ _ A;exact⟨q,z.trans C⟩
theorem AQ.ext {σ w σ' w' xs vs} (h:AQ σ w xs vs) (e:Ext σ w σ' w'):AQ σ' w' xs vs:=by
 induction h with
 | nil=>exact .nil
 | und u _ A=>exact .und u A
 | no _ A=>exact .no A
 | lit S _ A=>exact .lit S A
 | agg _ Y _ q z=>exact .agg q Y z
 | BL _ _ q z=>exact .BL q z
 | ET _ A=>exact .ET A
 | Fz _ A=>exact .Fz A
 | FU a _ A=>exact .FU a A
 | GU a _ A=>exact .GU a A
 | sl b o c I _ J C D F G O _ q z=>exact .sl b o c I q J C D F G (O.ext e) z
 | Ce b o I _ J C D F G _ q z=>exact .Ce b o I q J C D F (G.ext e) z
 | Bc C D F G _ A=>
  obtain⟨N,k1,k2,k3⟩:=e.box _ _ C;rcases k3 with rfl|k3
  ·exact .Bc k1 D F G A
  ·exact .Bc k1 (by omega) (fun Q=>by omega) G A
 | ptr g C D F G _ A=>
  obtain⟨N,k1,k2,k3⟩:=e.box _ _ C;rcases k3 with rfl|k3
  ·exact .ptr g k1 D F G A
  ·exact .ptr g k1 (by omega) (fun Q=>by omega) (by rw[k2];exact G) A
 | CG b o I i off _ J C D F _ q z=>exact .CG b o I i off q J C D (F.ext e) z
 | fn _ _ _ q z M=>exact .fn q z M
 | Gx _ _ q z=>exact .Gx q z
 | GY g es c _ C D _ q z=>exact .GY g es c q (e.mp _ _ _ C) D z
theorem AQ.length {σ w xs vs} (h:AQ σ w xs vs):xs.length=vs.length:=by
 induction h<;>simp_all
theorem J6 (xs:List V):Bz xs=true↔∀x∈xs,CW x=true:=by
 induction xs with
 | nil=>simp[Bz]
 | cons x xs q=>simp[Bz,q]
theorem sU {x:V} (h:Ep x=true):okV x=true:=by simp[Ep]at h;exact h.1
theorem QZ {x:V} (h:Ep x=true):CW x=true:=by simp[Ep]at h;exact h.2
theorem Z3n {xs:List V} (h:∀x∈xs,Ep x=true):∀x∈xs,okV x=true:=fun x q=>sU (h x q)
theorem Oq {xs:List V} (h:∀x∈xs,Ep x=true):Bz xs=true:=(J6 xs).2 fun x q=>QZ (h x q)
theorem Zsq {x:V} (h:CW x=true):Bz x.cells=true:=by
 cases x<;>simp_all [V.cells,CW,Bz]
theorem AQ.FC {σ w x xs v vs}:AQ σ w (x::xs) (v::vs)↔AQ σ w [x] [v]/\AQ σ w xs vs:=by
 constructor
 ·intro h;cases h with
  | und _ h=>exact⟨.und _ .nil,h⟩
  | no h=>exact⟨.no .nil,h⟩
  | lit I h=>exact⟨.lit I .nil,h⟩
  | agg q J h=>exact⟨.agg q J .nil,h⟩
  | BL q h=>exact⟨.BL q .nil,h⟩
  | ET h=>exact⟨.ET .nil,h⟩
  | Fz h=>exact⟨.Fz .nil,h⟩
  | FU a h=>exact⟨.FU a .nil,h⟩
  | GU a h=>exact⟨.GU a .nil,h⟩
  | sl b o c e D q z A C F G h=>exact⟨.sl b o c e D q z A C F G .nil,h⟩
  | Ce b o e D q z A C F h=>exact⟨.Ce b o e D q z A C F .nil,h⟩
  | Bc q z A C h=>exact⟨.Bc q z A C .nil,h⟩
  | ptr g q z A C h=>exact⟨.ptr g q z A C .nil,h⟩
  | CG b o e i off D q z A C h=>exact⟨.CG b o e i off D q z A C .nil,h⟩
  | fn q z h=>exact⟨.fn q z .nil,h⟩
  | Gx q h=>exact⟨.Gx q .nil,h⟩
  | GY g es c D q z h=>exact⟨.GY g es c D q z .nil,h⟩
 ·rintro ⟨h,k⟩
  cases h with
  | und _ h=>exact .und _ k
  | no h=>exact .no k
  | lit I h=>exact .lit I k
  | agg q J h=>exact .agg q J k
  | BL q h=>exact .BL q k
  | ET h=>exact .ET k
  | Fz h=>exact .Fz k
  | FU a h=>exact .FU a k
  | GU a h=>exact .GU a k
  | sl b o c e D q z A C F G h=>exact .sl b o c e D q z A C F G k
  | Ce b o e D q z A C F h=>exact .Ce b o e D q z A C F k
  | Bc q z A C h=>exact .Bc q z A C k
  | ptr g q z A C h=>exact .ptr g q z A C k
  | CG b o e i off D q z A C h=>exact .CG b o e i off D q z A C k
  | fn q z h=>exact .fn q z k
  | Gx q h=>exact .Gx q k
  | GY g es c D q z h=>exact .GY g es c D q z k
theorem AQ.FH {σ w vs} (h:AQ σ w [] vs):vs=[]:=by cases h;rfl
theorem AQ.Dw {σ w x xs vs} (h:AQ σ w (x::xs) vs):∃v vs',vs=v::vs' /\ AQ σ w [x] [v]/\AQ σ w xs vs' :=by
 cases vs with
 | nil=>exact absurd h.length (by simp)
 | cons v vs' =>exact⟨v,vs',rfl,(AQ.FC.1 h).1,(AQ.FC.1 h).2⟩
theorem AQ.append {σ w xs vs ys us} (h:AQ σ w xs vs) (k:AQ σ w ys us):AQ σ w (xs++ys) (vs++us):=by
 induction xs generalizing vs with
 | nil=>cases h.FH;exact k
 | cons x xs A=>
  obtain⟨v,C,rfl,q,z⟩:=h.Dw;exact AQ.FC.2 ⟨q,A z⟩
theorem AQ.get {σ w xs vs} (h:AQ σ w xs vs) {i:Nat} {x:V} (q:xs[i]? = some x):∃v,vs[i]? = some v/\AQ σ w [x] [v]:=by
 induction xs generalizing vs i with
 | nil=>simp at q
 | cons y ys C=>
  obtain⟨v,D,rfl,z,A⟩:=h.Dw;cases i with
  | zero=>simp at q;subst q;exact⟨v,rfl,z⟩
  | succ i=>simp at q ⊢;exact C A q
theorem AQ.take {σ w xs vs} (h:AQ σ w xs vs) (n:Nat):AQ σ w (xs.take n) (vs.take n):=by
 induction xs generalizing vs n with
 | nil=>cases h.FH;simp;exact .nil
 | cons y ys A=>
  obtain⟨v,C,rfl,q,z⟩:=h.Dw;cases n with
  | zero=>exact .nil
  | succ n=>exact AQ.FC.2 ⟨q,A z n⟩
theorem AQ.drop {σ w xs vs} (h:AQ σ w xs vs) (n:Nat):AQ σ w (xs.drop n) (vs.drop n):=by
 induction xs generalizing vs n with
 | nil=>cases h.FH;simp;exact .nil
 | cons y ys z=>
  obtain⟨v,A,rfl,C,q⟩:=h.Dw;cases n with
  | zero=>exact h
  | succ n=>exact z q n
theorem AQ.set {σ w xs vs x v} (h:AQ σ w xs vs) (i:Nat) (k:AQ σ w [x] [v]):AQ σ w (xs.set i x) (vs.set i v):=by
 induction xs generalizing vs i with
 | nil=>cases h.FH;simp;exact .nil
 | cons y ys A=>
  obtain⟨u,C,rfl,z,q⟩:=h.Dw;cases i with
  | zero=>exact AQ.FC.2 ⟨k,q⟩
  | succ i=>exact AQ.FC.2 ⟨z,A q i⟩
theorem AQ.replicate {σ w x v} (n:Nat) (k:AQ σ w [x] [v]):AQ σ w (List.replicate n x) (List.replicate n v):=by
 induction n with
 | zero=>exact .nil
 | succ n q=>exact AQ.FC.2 ⟨k,q⟩
def noMark (q:Nat×Nat) (n:Nat):Prop:=q=(0,0)\/n<=q.1
def F7 (w:World) (base:Nat) (e:TypeId) (size:Nat) (v:Value) (n:Nat) (xs:List Value):Prop:=
 xs.length=n*size /\
 ((v = .slice none 0 0/\n=0) \/
  ∃g cap q z,v = .slice (some ⟨g,0,none⟩) n cap/\base<=g/\w.heap[g]? = some (.cells q e z)/\noMark z q.size/\n<=cap/\cap<=maxLen/\q.size=cap*size/\q.toList.take (n*size)=xs)
section
variable {w:World} {base:Nat} {e:TypeId} {size:Nat} {v:Value} {n:Nat} {xs:List Value}
theorem F7.of (h:w.ownsRow base e size v n xs):F7 w base e size v n xs:=by
 refine⟨h.1,?_⟩;rcases h.2 with h|⟨g,cap,q,z,A,C,D⟩
 ·exact .inl h
 ·exact .inr ⟨g,cap,q,(0,0),z,A,C,.inl rfl,D⟩
theorem VH (w:World) (base:Nat) (e:TypeId) (size:Nat):F7 w base e size (.slice none 0 0) 0 []:=.of (World.ownsRow_nil w base e size)
theorem F7.lt (h:F7 w base e size v n xs):∀k,v.ownBlock=some k->base<=k/\k<w.heap.size:=by
 intro k q;rcases h.2 with ⟨rfl,_⟩|⟨g,cap,z,C,rfl,hb,A,_⟩
 ·simp[Value.ownBlock]at q
 ·simp[Value.ownBlock]at q;subst q;exact⟨hb,(Array.getElem?_eq_some_iff.1 A).1⟩
theorem F7.kept {w' : World} {row:Option Nat} (h:F7 w base e size v n xs) (D:w.grownBy w' row) (C:v.ownBlock=none\/v.ownBlock≠row):F7 w' base e size v n xs:=by
 refine⟨h.1,?_⟩;rcases h.2 with F|⟨g,cap,A,G,rfl,hb,q,z⟩
 ·exact .inl F
 ·refine .inr ⟨g,cap,A,G,rfl,hb,?_,z⟩;rw[D.block g (Array.getElem?_eq_some_iff.1 q).1 (by simpa[Value.ownBlock]using C)];exact q
theorem F7.cells (h:F7 w base e size v n xs) {g:Nat} (z:v.ownBlock=some g):∀j u,xs[j]? = some u->w.cell? ((⟨g,0,none⟩:Addr).add j)=some u:=by
 intro j u q;rcases h.2 with ⟨rfl,_⟩|⟨F,cap,C,J,rfl,hb,A,hm,G,hc,I,D⟩
 ·simp[Value.ownBlock]at z
 ·simp only[Value.ownBlock,Option.some.injEq]at z;subst z;rw[Addr.add_mid,Nat.zero_add];rw[<- D,List.getElem?_take]at q;split at q
  ·simp only[World.cell?,A];simpa using q
  ·cases q
end
theorem jP (P:Program) (g o:Nat) (t:TypeId) (D:Nat×Nat):∀(vs:List Value) (i:Nat) (q:Array Value) (w:World),w.heap[g]? = some (.cells q t D)->noMark D q.size->o+i+vs.length<=q.size->(∀v∈vs,v.oneCell' = true) ->
  (storeCells ⟨g,o,none⟩ vs i).run P w = .ok () (w.setRow g (q.toList.take (o+i)++vs++q.toList.drop (o+i+vs.length)).toArray)
 | [],i,q,w,C,_,_,_=>by
  simp only[storeCells,List.append_nil,List.length_nil,Nat.add_zero,List.take_append_drop,Array.toArray_toList];rw[setRow_self w g q t D C];rfl
 | v::z,i,q,w,C,hm,I,M=>by
  have N:o+i<q.size:=by simp at I;omega
  have F:(⟨g,o,none⟩:Addr).add i=⟨g,o+i,none⟩:=by unfold Addr.add;split<;>simp_all
  have A:w.cell? ⟨g,o+i,none⟩=some q[o+i]:=by simp[World.cell?,C,N]
  have G:w.frozen? ⟨g,o+i,none⟩=false:=by
   obtain⟨S,hi'⟩:=D;rcases hm with hm|hm
   ·cases hm;simp[World.frozen?,C]
   ·simp only at hm;have:¬S<=o+i:=by omega
    simp[World.frozen?,C,this]
  have J:(store ((⟨g,o,none⟩:Addr).add i) v).run P w = .ok () (w.setRow g (q.setIfInBounds (o+i) v)):=by
   rw[F,run_store P w _ v _ (M v (by simp)),A];simp[G,setCell_eq_setRow w g (o+i) q t D v C]
  have Q:=jP P g o t D z (i+1) (q.setIfInBounds (o+i) v) (w.setRow g (q.setIfInBounds (o+i) v)) (setRow_heap w g q _ t _ C) (by simpa using hm) (by simp at I ⊢;omega) (fun x O=>M x (by simp[O]));simp only[storeCells,Sem.run_bind,J,Result.andThen_ok,Q,setRow_setRow];congr 3;have e:=list_seg_step q.toList (o+i) v z (by simp at I ⊢;omega);simpa[Array.toList_setIfInBounds,Nat.add_assoc]using e
theorem Z62 {P:Program} {w:World} (t ty e:TypeId) (i:TypeInfo) (Y:P.underlying t=some (.slice e)) (Q:P.info? e=some i)
  (g z C:Nat) (A:Array Value) (J:Nat×Nat) (O:w.heap[g]? = some (.cells A e J)) (hm:noMark J A.size)
  (a:Addr) (m c:Nat) (q:List Value) (S:q.length=m*i.size) (D:∀j u,q[j]? = some u->w.cell? (a.add j)=some u) (M:∀u∈q,u.oneCell' = true)
  (F:z+m<=C) (G:z*i.size+q.length<=A.size) :
  (Builtin.append_ #[t,t] ty #[.slice (some ⟨g,0,none⟩) z C,.slice (some a) m c]).run P w =
   .ok (.slice (some ⟨g,0,none⟩) (z+m) C) (w.setRow g (A.toList.take (z*i.size)++q++A.toList.drop (z*i.size+q.length)).toArray):=by
 have N:=run_firstCells_some (P:=P) w i.size m a m c q S D;have I:=jP P g (z*i.size) e J q 0 A w O hm (by simpa using G) M;simp only[Nat.add_zero]at I;simp[Builtin.append_,run_underlying Y,sizeOf,typeInfo,Q,Builtin.lenOf,F,N,Addr.add_lit,I]
end Go.Proofs.YtjodhcdmhobmoaaGreatDoor.Le
namespace Go.Proofs.YtjodhcdmhobmoaaGreatDoor.Le
open Go.RowKit (Below)
structure Jg (σ:Sg) (w:World) (B:Nat) (bx:Box) (L:Loc):Prop where
 tot:L.tot=bx.xs.length
 Dh:∃us,AQ σ w bx.xs us/\(∀u∈us,u.cells.size=L.Ar)/\(∀u∈flat us,u.oneCell' = true)/\F7 w B bx.elem L.Ar L.v bx.xs.length (flat us)
 EZ:bx.EZ=true->L.v = .slice none 0 0
 Ar:bx.Ar=L.Ar
 oks:∀x∈bx.xs,okV x=true
 Hl:bx.row=true->∀x∈bx.xs,CW x=true
structure Start where
 w:World
 fz:Nat->Nat->Prop
 keep:Nat->Prop
abbrev Start.of (w:World) (fz:Nat->Nat->Prop):Start:=⟨w,fz,fun _=>False⟩
structure Inv (B:Nat) (w0:Start) (σ:Sg) (H:Heap) (w:World):Prop where
 below:Below B w0.w w
 size:B<=w.heap.size
 dom:∀id L,σ.box id=some L->∃bx,H[id]? = some bx/\bx.live=true
 boxes:∀id bx,H[id]? = some bx->bx.live=true->∃L,σ.box id=some L/\Jg σ w B bx L
 apart:∀id id' bx bx' L L' g,H[id]? = some bx->H[id']? = some bx' -> bx.live=true->bx'.live=true->σ.box id=some L->σ.box id' = some L' ->
  L.v.ownBlock=some g->L'.v.ownBlock=some g->id=id'
 cells:∀b c,σ.fz b c->∃u,w.cell? ⟨b,c,none⟩=some u
 floor:∀b c,σ.fz b c->∀id bx L,H[id]? = some bx->bx.live=true->σ.box id=some L->L.v.ownBlock=some b->c<bx.floor*L.Ar
 low:∀(id:Nat) (bx:Box),H[id]? = some bx->bx.live=true->bx.floor<=bx.xs.length
 old:∀b c,σ.fz b c->b<B->w0.fz b c
 kept:∀b,w0.keep b->b<w.heap.size/\w.heap[b]? = w0.w.heap[b]? /\ (∀id L,σ.box id=some L->L.v.ownBlock≠some b)/\∀c,σ.fz b c->w0.fz b c
theorem Inv.Z3N {B w0 σ H w} (h:Inv B w0 σ H w) {id L} (hb:σ.box id=some L):id<H.length:=by
 obtain⟨bx,q,_⟩:=h.dom id L hb;exact(List.getElem?_eq_some_iff.1 q).1
theorem Z2P {H:Heap} {k:Nat} (h:FO H k=true):(H[k]? = none/\k=H.length)\/∃b,H[k]? = some b/\b.live=false:=by
 unfold FO at h;split at h
 ·rename_i b hb;exact .inr ⟨b,hb,by simpa using h⟩
 ·rename_i hb;exact .inl ⟨hb,by simpa using h⟩
theorem cO (H:Heap):FO H H.length=true:=by simp[FO]
theorem Uo {H:Heap} {k:Nat} (h:FO H k=true) (b:Box) (id:Nat):(place H k b)[id]? = if id=k then some b else H[id]?:=by
 unfold place;rcases Z2P h with ⟨_,A⟩|⟨b0,hb,_⟩
 ·subst A;rw[if_neg (Nat.lt_irrefl _),List.getElem?_append]
  by_cases q:id=H.length
  ·subst q;simp
  ·by_cases z:id<H.length
   ·simp[q,z]
   ·rw[if_neg z,if_neg q,List.getElem?_eq_none (by simp;omega),List.getElem?_eq_none (by omega)]
 ·have z:=(List.getElem?_eq_some_iff.1 hb).1;rw[if_pos z,List.getElem?_set]
  by_cases q:k=id
  ·subst q;simp[z]
  ·rw[if_neg q,if_neg (fun e=>q e.symm)]
theorem Zyu (H:Heap) (b:Box):place H H.length b=H++[b]:=by simp[place]
theorem cell_lt {w:World} {b c:Nat} {u:Value} (h:w.cell? ⟨b,c,none⟩=some u):b<w.heap.size:=block_lt_of_cell h
theorem Jg.kept {σ w B bx L σ' w'} {row:Option Nat} (h:Jg σ w B bx L) (e:Ext σ w σ' w') (F:w.grownBy w' row) (q:L.v.ownBlock=none\/L.v.ownBlock≠row):Jg σ' w' B bx L:=by
 obtain⟨us,z,A,C,D⟩:=h.Dh;exact⟨h.tot,⟨us,z.ext e,A,C,D.kept F q⟩,h.EZ,h.Ar,h.oks,h.Hl⟩
theorem Jg.block_lt {σ w B bx L g} (h:Jg σ w B bx L) (z:L.v.ownBlock=some g):B<=g/\g<w.heap.size:=by
 obtain⟨us,A,C,D,q⟩:=h.Dh;exact q.lt g z
theorem Zuv {w:World} {base:Nat} {e:TypeId} {size:Nat} {v:Value} {n:Nat} {xs:List Value} (h:F7 w base e size v n xs) {g:Nat} (z:v.ownBlock=some g):∃q t C,w.heap[g]? = some (.cells q t C):=by
 rcases h.2 with ⟨rfl,_⟩|⟨D,cap,q,C,rfl,_,A,_⟩
 ·simp[Value.ownBlock]at z
 ·simp[Value.ownBlock]at z;subst z;exact⟨_,_,_,A⟩
theorem Jg.ZD3 {σ w B bx L g} (h:Jg σ w B bx L) (A:L.v.ownBlock=some g) {es:Array MapEntry} {c:Nat} (hm:w.heap[g]? = some (.map es c)):False:=by
 obtain⟨us,C,D,F,z⟩:=h.Dh;obtain⟨q,t,G,hc⟩:=Zuv z A;rw[hc]at hm;cases hm
theorem Inv.grown {B w0 σ H w w'} (h:Inv B w0 σ H w) (z:w.grownBy w' none):Inv B w0 σ H w' /\ Ext σ w σ w' :=by
 have q:∀b c,b<w.heap.size->w'.cell? ⟨b,c,none⟩=w.cell? ⟨b,c,none⟩:=fun b c hb=>
  World.cell?_of_block (z.block b hb (by simp))
 have e:Ext σ w σ w' :=⟨fun id L C=>⟨L,C,rfl,.inl rfl⟩,fun b c hc=>⟨hc,by
  obtain⟨u,A⟩:=h.cells b c hc;exact q b c (cell_lt A)⟩,fun g es c hm=>(z.block g (Array.getElem?_eq_some_iff.1 hm).1 (by simp)).trans hm⟩
 refine⟨⟨h.below.grown z h.size (by simp),Nat.le_trans h.size z.size,h.dom,?_,h.apart,?_,h.floor,h.low,h.old,fun b hb=>?_⟩,e⟩
 ·intro id bx hb F;obtain⟨L,C,D⟩:=h.boxes id bx hb F;refine⟨L,C,D.kept e z ?_⟩;cases L.v.ownBlock with
  | none=>exact .inl rfl
  | some g=>exact .inr (by simp)
 ·intro b c hc;obtain⟨u,A⟩:=h.cells b c hc;exact⟨u,(q b c (cell_lt A)).trans A⟩
 ·obtain⟨k1,k2,k3,k4⟩:=h.kept b hb;exact⟨Nat.lt_of_lt_of_le k1 z.size,(z.block b k1 (by simp)).trans k2,k3,k4⟩
def Sg.put (σ:Sg) (id:Nat) (L:Loc):Sg:={ σ with box:=fun i=>if i=id then some L else σ.box i }
theorem Inv.push {B w0 σ H w w'} (h:Inv B w0 σ H w) (hg:w.grownBy w' none) {k:Nat} (hk:FO H k=true) (bx:Box) (hlive:bx.live=true) (L:Loc) (hlow:bx.floor<=bx.xs.length)
  (F:∀g,L.v.ownBlock=some g->w.heap.size<=g) (hok:Ext σ w (σ.put k L) w' -> Jg (σ.put k L) w' B bx L) :
  Inv B w0 (σ.put k L) (place H k bx) w' /\ Ext σ w (σ.put k L) w' :=by
 have hnone:σ.box k=none:=by
  cases hb:σ.box k with
  | none=>rfl
  | some M =>
   exfalso;obtain⟨b1,c1,c2⟩:=h.dom _ _ hb;rcases Z2P hk with ⟨hn,_⟩|⟨b0,hb0,hl0⟩
   ·rw[hn]at c1;cases c1
   ·rw[hb0]at c1;cases c1;rw[hl0]at c2;cases c2
 obtain⟨h',e0⟩:=h.grown hg;have e:Ext σ w (σ.put k L) w' :=by
  refine⟨fun id M z =>⟨M,?_,rfl,.inl rfl⟩,e0.fz,e0.mp⟩;have:id≠k:=fun hh=>by rw[hh,hnone]at z;cases z
  simp[Sg.put,this,z]
 have e' : Ext σ w' (σ.put k L) w' :=by
  refine⟨e.box,fun b c hc=>⟨hc,rfl⟩,EP.refl _⟩
 have D:∀id bx',id≠k->(place H k bx)[id]? = some bx' -> H[id]? = some bx' :=by
  intro id bx' q hh;rw[Uo hk,if_neg q]at hh;exact hh
 have O:(place H k bx)[k]? = some bx:=by rw[Uo hk,if_pos rfl]
 refine⟨⟨h'.below,h'.size,?_,?_,?_,h'.cells,?_,?_,h'.old,fun b hb=>?_⟩,e⟩
 ·intro id M z
  by_cases q:id=k
  ·subst q;exact⟨bx,O,hlive⟩
  ·simp only[Sg.put,q,if_false]at z;obtain⟨b1,c1,c2⟩:=h.dom id M z;exact⟨b1,by rw[Uo hk,if_neg q];exact c1,c2⟩
 ·intro id bx' hb hl
  by_cases q:id=k
  ·subst q;rw[O]at hb;cases hb;exact⟨L,by simp[Sg.put],hok e⟩
  ·obtain⟨M,z,A⟩:=h'.boxes id bx' (D id bx' q hb) hl;refine⟨M,by simp[Sg.put,q,z],?_⟩;obtain⟨us,h1,h2,h3,h4⟩:=A.Dh;exact⟨A.tot,⟨us,h1.ext e',h2,h3,h4⟩,A.EZ,A.Ar,A.oks,A.Hl⟩
 ·intro id J Q S L1 L2 g hb1 hb2 hl1 hl2 G I Y hg2
  by_cases q:id=k
  ·by_cases C : J = k
   ·rw[q,C]
   ·exfalso;subst q;simp only[Sg.put,if_true]at G;cases G;simp only[Sg.put,C,if_false]at I;have hb2' :=D J S C hb2;obtain⟨M,z,A⟩:=h.boxes J S hb2' hl2;rw[I]at z;cases z;have:=(A.block_lt hg2).2;have:=F g Y;omega
  ·by_cases C : J = k
   ·exfalso;subst C;simp only[Sg.put,if_true]at I;cases I;simp only[Sg.put,q,if_false]at G;have hb1' :=D id Q q hb1;obtain⟨M,z,A⟩:=h.boxes id Q hb1' hl1;rw[G]at z;cases z;have:=(A.block_lt Y).2;have:=F g hg2;omega
   ·simp only[Sg.put,q,C,if_false]at G I;exact h.apart id J Q S L1 L2 g (D id Q q hb1) (D J S C hb2) hl1 hl2 G I Y hg2
 ·intro b c hc id bx' M hb hl z N
  by_cases q:id=k
  ·exfalso;subst q;simp only[Sg.put,if_true]at z;cases z;obtain⟨u,hu⟩:=h.cells b c hc;have:=cell_lt hu;have:=F b N;omega
  ·simp only[Sg.put,q,if_false]at z;exact h.floor b c hc id bx' M (D id bx' q hb) hl z N
 ·intro id bx' hb hl
  by_cases q:id=k
  ·subst q;rw[O]at hb;cases hb;exact hlow
  ·exact h.low id bx' (D id bx' q hb) hl
 ·obtain⟨k1,k2,k3,k4⟩:=h'.kept b hb;refine⟨k1,k2,fun id M z N =>?_,k4⟩
  by_cases q:id=k
  ·subst q;simp only[Sg.put,if_true]at z;cases z;have:=(h.kept b hb).1;have:=F b N;omega
  ·simp only[Sg.put,q,if_false]at z;exact k3 id M z N
theorem Inv.ZC5 {B w0 σ H w} (h:Inv B w0 σ H w) {k:Nat} (hk:FO H k=true) (bx:Box) (hlive:bx.live=true) (L:Loc) (hlow:bx.floor<=bx.xs.length)
  (hap:∀id bx' F g,H[id]? = some bx' -> bx'.live=true->σ.box id=some F -> F.v.ownBlock=some g->L.v.ownBlock≠some g) (hfz:∀g c,L.v.ownBlock=some g->¬σ.fz g c) (hkp:∀g,L.v.ownBlock=some g->¬w0.keep g)
  (hok:Jg (σ.put k L) w B bx L):Inv B w0 (σ.put k L) (place H k bx) w/\Ext σ w (σ.put k L) w:=by
 have hnone:σ.box k=none:=by
  cases hb:σ.box k with
  | none=>rfl
  | some F =>
   exfalso;obtain⟨b1,c1,c2⟩:=h.dom _ _ hb;rcases Z2P hk with ⟨hn,_⟩|⟨b0,hb0,hl0⟩
   ·rw[hn]at c1;cases c1
   ·rw[hb0]at c1;cases c1;rw[hl0]at c2;cases c2
 have e:Ext σ w (σ.put k L) w:=by
  refine⟨fun id F z =>⟨F,?_,rfl,.inl rfl⟩,fun b c hc=>⟨hc,rfl⟩,EP.refl _⟩;have:id≠k:=fun hh=>by rw[hh,hnone]at z;cases z
  simp[Sg.put,this,z]
 have C:∀id bx',id≠k->(place H k bx)[id]? = some bx' -> H[id]? = some bx' :=by
  intro id bx' q hh;rw[Uo hk,if_neg q]at hh;exact hh
 have N:(place H k bx)[k]? = some bx:=by rw[Uo hk,if_pos rfl]
 refine⟨⟨h.below,h.size,?_,?_,?_,h.cells,?_,?_,h.old,fun b hb=>?_⟩,e⟩
 ·intro id F z
  by_cases q:id=k
  ·subst q;exact⟨bx,N,hlive⟩
  ·simp only[Sg.put,q,if_false]at z;obtain⟨b1,c1,c2⟩:=h.dom id F z;exact⟨b1,by rw[Uo hk,if_neg q];exact c1,c2⟩
 ·intro id bx' hb hl
  by_cases q:id=k
  ·subst q;rw[N]at hb;cases hb;exact⟨L,by simp[Sg.put],hok⟩
  ·obtain⟨F,z,D⟩:=h.boxes id bx' (C id bx' q hb) hl;refine⟨F,by simp[Sg.put,q,z],?_⟩;obtain⟨us,h1,h2,h3,h4⟩:=D.Dh;exact⟨D.tot,⟨us,h1.ext e,h2,h3,h4⟩,D.EZ,D.Ar,D.oks,D.Hl⟩
 ·intro id J O Q L1 L2 g hb1 hb2 hl1 hl2 G I S Y
  by_cases q:id=k
  ·by_cases A : J = k
   ·rw[q,A]
   ·exfalso;subst q;simp only[Sg.put,if_true]at G;cases G;simp only[Sg.put,A,if_false]at I;exact hap J Q L2 g (C J Q A hb2) hl2 I Y S
  ·by_cases A : J = k
   ·exfalso;subst A;simp only[Sg.put,if_true]at I;cases I;simp only[Sg.put,q,if_false]at G;exact hap id O L1 g (C id O q hb1) hl1 G S Y
   ·simp only[Sg.put,q,A,if_false]at G I;exact h.apart id J O Q L1 L2 g (C id O q hb1) (C J Q A hb2) hl1 hl2 G I S Y
 ·intro b c hc id bx' F hb hl z M
  by_cases q:id=k
  ·exfalso;subst q;simp only[Sg.put,if_true]at z;cases z;exact hfz b c M hc
  ·simp only[Sg.put,q,if_false]at z;exact h.floor b c hc id bx' F (C id bx' q hb) hl z M
 ·intro id bx' hb hl
  by_cases q:id=k
  ·subst q;rw[N]at hb;cases hb;exact hlow
  ·exact h.low id bx' (C id bx' q hb) hl
 ·obtain⟨k1,k2,k3,k4⟩:=h.kept b hb;refine⟨k1,k2,fun id F z M =>?_,k4⟩
  by_cases q:id=k
  ·subst q;simp only[Sg.put,if_true]at z;cases z;exact hkp b M hb
  ·simp only[Sg.put,q,if_false]at z;exact k3 id F z M
theorem Inv.upd {B w0 σ H w w'} (h:Inv B w0 σ H w) {id:Nat} {bx:Box} {L:Loc} (hb:H[id]? = some bx) (hl:bx.live=true) (Y:σ.box id=some L)
  (hg:w.grownBy w' L.v.ownBlock) (bx' : Box) (hlive:bx'.live=true) (I : Loc) (hesz:I.Ar=L.Ar) (htot:I = L\/L.tot<I.tot) (hfl:bx'.floor=bx.floor) (hlen' : bx.xs.length<=bx'.xs.length)
  (F:∀g,I.v.ownBlock=some g->L.v.ownBlock=some g\/w.heap.size<=g)
  (hkeep:∀g c,L.v.ownBlock=some g->c<bx.floor*L.Ar->w'.cell? ⟨g,c,none⟩=w.cell? ⟨g,c,none⟩)
  (hok:Ext σ w (σ.put id I) w' -> Jg (σ.put id I) w' B bx' I) :
  Inv B w0 (σ.put id I) (H.set id bx') w' /\ Ext σ w (σ.put id I) w' :=by
 have hlen:id<H.length:=h.Z3N Y;obtain⟨L0,hL0,hok0⟩:=h.boxes id bx hb hl;rw[Y]at hL0;cases hL0;have N:∀b c,σ.fz b c->w'.cell? ⟨b,c,none⟩=w.cell? ⟨b,c,none⟩:=by
  intro b c hc;obtain⟨u,hu⟩:=h.cells b c hc
  by_cases S:L.v.ownBlock=some b
  ·exact hkeep b c S (h.floor b c hc id bx L hb hl Y S)
  ·exact World.cell?_of_block (hg.block b (cell_lt hu) (fun hh=>S hh.symm))
 have e:Ext σ w (σ.put id I) w' :=by
  refine⟨fun i J q=>?_,fun b c hc=>⟨hc,N b c hc⟩,fun g es c hm=>(hg.block g (Array.getElem?_eq_some_iff.1 hm).1 (fun hh=>hok0.ZD3 hh.symm hm)).trans hm⟩
  by_cases z:i=id
  ·subst z;rw[Y]at q;cases q;exact⟨I,by simp[Sg.put],hesz,htot⟩
  ·exact⟨J,by simp[Sg.put,z,q],rfl,.inl rfl⟩
 have C:∀i b,i≠id->(H.set id bx')[i]? = some b->H[i]? = some b:=by
  intro i b z hh;rw[List.getElem?_set_ne (fun e=>z e.symm)]at hh;exact hh
 have D:(H.set id bx')[id]? = some bx' :=by simp[hlen]
 refine⟨⟨?_,Nat.le_trans h.size hg.size,?_,?_,?_,?_,?_,?_,h.old,fun b hb=>?_⟩,e⟩
 ·exact h.below.grown hg h.size (fun k hk=>(hok0.block_lt hk).1)
 ·intro i J q
  by_cases z:i=id
  ·subst z;exact⟨bx',D,hlive⟩
  ·simp only[Sg.put,z,if_false]at q;obtain⟨b1,c1,c2⟩:=h.dom i J q;exact⟨b1,by rw[List.getElem?_set_ne (fun e=>z e.symm)];exact c1,c2⟩
 ·intro i b A G
  by_cases z:i=id
  ·subst z;rw[D]at A;cases A;exact⟨I,by simp[Sg.put],hok e⟩
  ·have hib' :=C i b z A;obtain⟨J,q,hoki⟩:=h.boxes i b hib' G;refine⟨J,by simp[Sg.put,z,q],hoki.kept e hg ?_⟩;cases hLb:J.v.ownBlock with
   | none=>exact .inl rfl
   | some g=>
    right;intro hh;exact z (h.apart i id b bx J L g hib' hb G hl q Y hLb hh.symm)
 ·intro i j b1 b2 L1 L2 g h1 h2 l1 l2 s1 s2 g1 g2
  by_cases z:i=id
  ·by_cases hj:j=id
   ·rw[z,hj]
   ·exfalso;subst z;simp only[Sg.put,if_true]at s1;cases s1;simp only[Sg.put,hj,if_false]at s2;have h2' :=C j b2 hj h2;obtain⟨L3,M,Q⟩:=h.boxes j b2 h2' l2;rw[s2]at M;cases M;rcases F g g1 with hh|hh
    ·exact hj (h.apart j i b2 bx L2 L g h2' hb l2 hl s2 Y g2 hh)
    ·have:=(Q.block_lt g2).2;omega
  ·by_cases hj:j=id
   ·exfalso;subst hj;simp only[Sg.put,if_true]at s2;cases s2;simp only[Sg.put,z,if_false]at s1;have h1' :=C i b1 z h1;obtain⟨L3,M,Q⟩:=h.boxes i b1 h1' l1;rw[s1]at M;cases M;rcases F g g2 with hh|hh
    ·exact z (h.apart i j b1 bx L1 L g h1' hb l1 hl s1 Y g1 hh)
    ·have:=(Q.block_lt g1).2;omega
   ·simp only[Sg.put,z,hj,if_false]at s1 s2;exact h.apart i j b1 b2 L1 L2 g (C i b1 z h1) (C j b2 hj h2) l1 l2 s1 s2 g1 g2
 ·intro b c hc;obtain⟨u,hu⟩:=h.cells b c hc;exact⟨u,(N b c hc).trans hu⟩
 ·intro b c hc i b' J A G q O
  by_cases z:i=id
  ·subst z;rw[D]at A;cases A;simp only[Sg.put,if_true]at q;cases q;rw[hfl,hesz];rcases F b O with hh|hh
   ·exact h.floor b c hc i bx L hb hl Y hh
   ·obtain⟨u,hu⟩:=h.cells b c hc;have:=cell_lt hu;omega
  ·simp only[Sg.put,z,if_false]at q;exact h.floor b c hc i b' J (C i b' z A) G q O
 ·intro i b' A G
  by_cases z:i=id
  ·subst z;rw[D]at A;cases A;rw[hfl];exact Nat.le_trans (h.low i bx hb hl) hlen'
  ·exact h.low i b' (C i b' z A) G
 ·obtain⟨k1,k2,k3,k4⟩:=h.kept b hb;refine⟨Nat.lt_of_lt_of_le k1 hg.size,(hg.block b k1 (fun hh=>k3 id L Y hh.symm)).trans k2,fun i J q O=>?_,k4⟩
  by_cases z:i=id
  ·subst z;simp only[Sg.put,if_true]at q;cases q;rcases F b O with hh|hh
   ·exact k3 i L Y hh
   ·omega
  ·simp only[Sg.put,z,if_false]at q;exact k3 i J q O
end Go.Proofs.YtjodhcdmhobmoaaGreatDoor.Le
namespace Go.Proofs.YtjodhcdmhobmoaaGreatDoor.Le
open Go.RowKit (Below)
theorem flat_nil:flat []=[]:=rfl
theorem KL (u:Value) (us:List Value):flat (u::us)=u.cells.toList++flat us:=rfl
theorem Nq (us vs:List Value):flat (us++vs)=flat us++flat vs:=by simp[flat]
theorem flat_length {us:List Value} {e:Nat} (h:∀u∈us,u.cells.size=e):(flat us).length=us.length*e:=by
 induction us with
 | nil=>simp[flat_nil]
 | cons u us z=>
  rw[KL,List.length_append,z (fun v q=>h v (by simp[q]))];have:=h u (by simp);simp[this,Nat.add_mul,Nat.add_comm]
theorem o8 {us:List Value} {e:Nat} (h:∀u∈us,u.cells.size=e) (k:Nat):∀u∈us.drop k,u.cells.size=e:=fun u q=>h u (List.mem_of_mem_drop q)
theorem aO {us:List Value} {e:Nat} (h:∀u∈us,u.cells.size=e) (k:Nat):∀u∈us.take k,u.cells.size=e:=fun u q=>h u (List.mem_of_mem_take q)
theorem Z2m {us:List Value} {e:Nat} (h:∀u∈us,u.cells.size=e) (k:Nat):flat (us.drop k)=(flat us).drop (k*e):=by
 induction us generalizing k with
 | nil=>simp[flat_nil]
 | cons u us D=>
  cases k with
  | zero=>simp
  | succ k=>
   have q:=h u (by simp);rw[List.drop_succ_cons,D (fun v C=>h v (by simp[C])),KL,Nat.add_mul,Nat.one_mul,List.drop_append];have z:k*e+e - u.cells.toList.length=k*e:=by simp[q]
   have A:u.cells.toList.drop (k*e+e)=[]:=by apply List.drop_eq_nil_of_le;simp[q]
   rw[z,A,List.nil_append]
theorem bI {us:List Value} {e:Nat} (h:∀u∈us,u.cells.size=e) (k:Nat):flat (us.take k)=(flat us).take (k*e):=by
 induction us generalizing k with
 | nil=>simp[flat_nil]
 | cons u us D=>
  cases k with
  | zero=>simp[flat_nil]
  | succ k=>
   have q:=h u (by simp);rw[List.take_succ_cons,KL,D (fun v C=>h v (by simp[C])),KL,Nat.add_mul,Nat.one_mul,List.take_append];have z:k*e+e - u.cells.toList.length=k*e:=by simp[q]
   have A:u.cells.toList.take (k*e+e)=u.cells.toList:=by apply List.take_of_length_le;simp[q]
   rw[z,A]
theorem Z33 {us:List Value} {e:Nat} (h:∀u∈us,u.cells.size=e) (off len:Nat):flat ((us.drop off).take len)=((flat us).drop (off*e)).take (len*e):=by
 rw[bI (o8 h off),Z2m h]
theorem ZCc {us:List Value} {e:Nat} (h:∀u∈us,u.cells.size=e) {i:Nat} {u:Value} (q:us[i]? = some u):∀j,j<e->(flat us)[i*e+j]? = u.cells.toList[j]?:=by
 induction us generalizing i with
 | nil=>simp at q
 | cons v us C=>
  intro j A;have z:=h v (by simp);cases i with
  | zero=>
   simp at q;subst q;rw[KL,Nat.zero_mul,Nat.zero_add,List.getElem?_append_left (by simp[z];exact A)]
  | succ i=>
   simp at q;have:=C (fun v z=>h v (by simp[z])) q j A;rw[KL,List.getElem?_append_right (by simp[z,Nat.add_mul];omega),<- this];congr 1;simp[z,Nat.add_mul];omega
theorem Z38 {us:List Value} {e:Nat} (h:∀u∈us,u.cells.size=e) {i:Nat} {u A : Value} (z:us[i]? = some u) (I : A.cells.size=e) :
  flat (us.set i A)=(flat us).take (i*e)++A.cells.toList++(flat us).drop (i*e+e):=by
 induction us generalizing i with
 | nil=>simp at z
 | cons v us J=>
  have q:=h v (by simp);cases i with
  | zero=>
   simp at z;subst z;rw[List.set_cons_zero,KL,KL];simp[q]
  | succ i=>
   simp at z;rw[List.set_cons_succ,KL,J (fun v q=>h v (by simp[q])) z,KL,Nat.add_mul,Nat.one_mul];rw[List.take_append,List.drop_append];have C:i*e+e - v.cells.toList.length=i*e:=by simp[q]
   have D:v.cells.toList.take (i*e+e)=v.cells.toList:=by apply List.take_of_length_le;simp[q]
   have F:i*e+e+e - v.cells.toList.length=i*e+e:=by simp[q]
   have G:v.cells.toList.drop (i*e+e+e)=[]:=by apply List.drop_eq_nil_of_le;simp[q];try omega
   rw[C,D,F,G];simp[List.append_assoc]
theorem Z3c {us:List Value} (h:∀u∈flat us,u.oneCell' = true) (k:Nat):∀u∈flat (us.drop k),u.oneCell' = true:=by
 intro u q;apply h;simp only[flat,List.mem_flatMap]at q ⊢;obtain⟨a,z,hb⟩:=q;exact⟨a,List.mem_of_mem_drop z,hb⟩
theorem rJ {us:List Value} (h:∀u∈flat us,u.oneCell' = true) (k:Nat):∀u∈flat (us.take k),u.oneCell' = true:=by
 intro u q;apply h;simp only[flat,List.mem_flatMap]at q ⊢;obtain⟨a,z,hb⟩:=q;exact⟨a,List.mem_of_mem_take z,hb⟩
def fzOf (σ:Sg) (H:Heap) (ids:List Nat) (b c:Nat):Prop:=
 ∃id bx L,id∈ids/\H[id]? = some bx/\bx.live=true/\σ.box id=some L/\L.v.ownBlock=some b/\c<bx.xs.length*L.Ar
def Sg.freeze (σ:Sg) (H:Heap) (ids:List Nat):Sg:={ σ with fz:=fun b c=>σ.fz b c\/fzOf σ H ids b c }
theorem KR (H:Heap) (ids:List Nat) (i:Nat):(bump H ids)[i]? = (H[i]?).map fun b=>if i∈ids then { b with floor:=b.xs.length } else b:=by
 induction ids generalizing H with
 | nil=>simp[bump]
 | cons k ks A=>
  rw[bump,A,List.getElem?_modify];cases C:H[i]? with
  | none=>simp
  | some b=>
   by_cases q:k=i
   ·subst q;simp
   ·by_cases hm:i∈ks
    ·simp[hm,q]
    ·have z : ¬i=k:=fun h=>q h.symm;simp[hm,q,z]
theorem bump_length (H:Heap) (ids:List Nat):(bump H ids).length=H.length:=by
 induction ids generalizing H with
 | nil=>rfl
 | cons k ks q=>rw[bump,q];simp
theorem Zvl (H:Heap) (ids:List Nat) (k:Nat):FO (bump H ids) k=FO H k:=by
 unfold FO;rw[KR,bump_length];cases H[k]? with
 | none=>rfl
 | some b=>simp only[Option.map_some];split<;>rfl
theorem Z7J {w:World} {B:Nat} {e:TypeId} {Ar:Nat} {v:Value} {n:Nat} {xs:List Value} {g:Nat} (h:F7 w B e Ar v n xs) (q:v.ownBlock=some g) :
  ∀j u,xs[j]? = some u->w.cell? ⟨g,j,none⟩=some u:=by
 intro j u z;have:=h.cells q j u z;rw[Addr.add_mid,Nat.zero_add]at this;exact this
theorem Inv.freeze {B w0 σ H w} (h:Inv B w0 σ H w) (ids:List Nat):Inv B w0 (σ.freeze H ids) (bump H ids) w/\Ext σ w (σ.freeze H ids) w:=by
 have e:Ext σ w (σ.freeze H ids) w:=⟨fun id L D=>⟨L,D,rfl,.inl rfl⟩,fun b c hc=>⟨.inl hc,rfl⟩,EP.refl _⟩;have A:∀i b,(bump H ids)[i]? = some b->∃b0,H[i]? = some b0/\b.live=b0.live/\b.xs=b0.xs/\b.elem=b0.elem/\b.Ar=b0.Ar/\b.EZ=b0.EZ/\b.row=b0.row/\(b.floor=if i∈ids then b0.xs.length else b0.floor):=by
  intro i b hb;rw[KR]at hb;cases hh:H[i]? with
  | none=>simp[hh]at hb
  | some b0=>
   simp only[hh,Option.map_some,Option.some.injEq]at hb;refine⟨b0,rfl,?_⟩;subst hb;split<;>simp
 refine⟨⟨h.below,h.size,fun id L D=>by
  obtain⟨b1,c1,c2⟩:=h.dom id L D;exact⟨if id∈ids then { b1 with floor:=b1.xs.length } else b1,by rw[KR,c1];rfl,by split<;>exact c2⟩,?_,?_,?_,?_,?_,?_,?_⟩,e⟩
 ·intro id bx hb hl;obtain⟨b0,N,S,J,h3,h4,h5,h6,_⟩:=A id bx hb;obtain⟨L,D,q⟩:=h.boxes id b0 N (by rw[<- S];exact hl);obtain⟨us,r1,r2,r3,r4⟩:=q.Dh;refine⟨L,D,⟨by rw[J];exact q.tot,⟨us,?_,r2,r3,?_⟩,by rw[h5];exact q.EZ,by rw[h4];exact q.Ar,by rw[J];exact q.oks,fun hr=>by rw[J];exact q.Hl (by rw[<- h6];exact hr)⟩⟩
  ·rw[J];exact r1.ext e
  ·rw[J,h3];exact r4
 ·intro i j b1 b2 L1 L2 g S J l1 l2 s1 s2 g1 g2;obtain⟨c1,k1,k2,_⟩:=A i b1 S;obtain⟨c2,m1,m2,_⟩:=A j b2 J;exact h.apart i j c1 c2 L1 L2 g k1 m1 (by rw[<- k2];exact l1) (by rw[<- m2];exact l2) s1 s2 g1 g2
 ·intro b c hc;rcases hc with hc|⟨id,bx,L,_,hb,hl,D,hg,I⟩
  ·exact h.cells b c hc
  ·obtain⟨L',z,q⟩:=h.boxes id bx hb hl;rw[D]at z;cases z;obtain⟨us,r1,r2,r3,r4⟩:=q.Dh;have hlen:c<(flat us).length:=by rw[r4.1];exact I
   exact⟨_,Z7J r4 hg c _ (List.getElem?_eq_getElem hlen)⟩
 ·intro b c hc i bx L hb hl D hg;obtain⟨b0,N,S,J,h3,h4,h5,_,h6⟩:=A i bx hb;have Q:b0.live=true:=by rw[<- S];exact hl
  rcases hc with hc|⟨id,M,L',Y,C,O,z,G,I⟩
  ·have:=h.floor b c hc i b0 L N Q D hg;rw[h6];split
   ·obtain⟨L2,F,q⟩:=h.boxes i b0 N Q;rw[show σ.box i=some L from D]at F;cases F;obtain⟨u,hu⟩:=h.cells b c hc;exact Nat.lt_of_lt_of_le this (Nat.mul_le_mul_right _ (h.low i b0 N Q))
   ·exact this
  ·have hi:id=i:=h.apart id i M b0 L' L b C N O Q z D G hg;subst hi;rw[N]at C;cases C;rw[show σ.box id=some L from D]at z;cases z;rw[h6,if_pos Y];exact I
 ·intro i bx hb hl;obtain⟨b0,N,S,J,h3,h4,h5,_,h6⟩:=A i bx hb;rw[h6,J];split
  ·exact Nat.le_refl _
  ·exact h.low i b0 N (by rw[<- S];exact hl)
 ·intro b c hc I;rcases hc with hc|⟨id,M,L',Y,C,O,z,G,hlt'⟩
  ·exact h.old b c hc I
  ·obtain⟨L2,F,q⟩:=h.boxes id M C O;rw[show σ.box id=some L' from z]at F;cases F;have:=(q.block_lt G).1;omega
 ·intro b hb;obtain⟨k1,k2,k3,k4⟩:=h.kept b hb;refine⟨k1,k2,k3,fun c hc=>?_⟩;rcases hc with hc|⟨id,M,L',Y,C,O,z,G,hlt'⟩
  ·exact k4 c hc
  ·exact absurd G (k3 id L' z)
end Go.Proofs.YtjodhcdmhobmoaaGreatDoor.Le
namespace Go.Proofs.YtjodhcdmhobmoaaGreatDoor.Le
open Go.RowKit (Below)
theorem Uh {H:Heap} {id tot:Nat} {b:Box} (h:DZ H id tot=some b):H[id]? = some b/\b.live=true/\b.xs.length=tot:=by
 unfold DZ at h;split at h
 ·rename_i q hb;split at h
  ·rename_i hc;simp only[Option.some.injEq]at h;subst h;simp only[Bool.and_eq_true,beq_iff_eq]at hc;exact⟨hb,hc.1,hc.2⟩
  ·cases h
 ·cases h
structure Met (B:Nat) (w0:Start) (σ:Sg) (H:Heap) (w:World) (id:Nat) (b:Box) (L:Loc) (us:List Value):Prop where
 hb:H[id]? = some b
 live:b.live=true
 box:σ.box id=some L
 tot:L.tot=b.xs.length
 Dh:AQ σ w b.xs us
 sizes:∀u∈us,u.cells.size=L.Ar
 ones:∀u∈flat us,u.oneCell' = true
 own:F7 w B b.elem L.Ar L.v b.xs.length (flat us)
 EZ:b.EZ=true->L.v = .slice none 0 0
 Ar:b.Ar=L.Ar
 oks:∀x∈b.xs,okV x=true
 Hl:b.row=true->∀x∈b.xs,CW x=true
 shape:(L.v = .slice none 0 0/\b.xs=[]/\us=[])\/∃g cap cur tg,L.v = .slice (some ⟨g,0,none⟩) b.xs.length cap/\B<=g/\w.heap[g]? = some (.cells cur b.elem tg)/\noMark tg cur.size/\b.xs.length<=cap/\cap<=maxLen/\cur.size=cap*L.Ar/\cur.toList.take (b.xs.length*L.Ar)=flat us
theorem Inv.meet {B w0 σ H w} (h:Inv B w0 σ H w) {id:Nat} {b:Box} (hb:H[id]? = some b) (G:b.live=true):∃L us,Met B w0 σ H w id b L us:=by
 obtain⟨L,M,q⟩:=h.boxes id b hb G;obtain⟨us,F,Y,r3,J⟩:=q.Dh;refine⟨L,us,hb,G,M,q.tot,F,Y,r3,J,q.EZ,q.Ar,q.oks,q.Hl,?_⟩;rcases J.2 with ⟨D,A⟩|⟨g,cap,z,tg,D,N,O,C,A,hm,Q,S⟩
 ·have I:b.xs=[]:=List.eq_nil_of_length_eq_zero A;refine .inl ⟨D,I,?_⟩;rw[I]at F;exact F.FH
 ·exact .inr ⟨g,cap,z,tg,D,N,O,C,A,hm,Q,S⟩
theorem Met.fz {B w0 σ H w id b L us} (m:Met B w0 σ H w id b L us) (z:b.row=true):∀x∈b.xs,Ep x=true:=fun x q=>by
 simp[Ep,m.oks x q,m.Hl z x q]
theorem Met.len {B w0 σ H w id b L us} (m:Met B w0 σ H w id b L us):us.length=b.xs.length:=m.Dh.length.symm
theorem Met.cell {B w0 σ H w id b L us} (m:Met B w0 σ H w id b L us) {g:Nat} (q:L.v.ownBlock=some g):∀j u,(flat us)[j]? = some u->w.cell? ⟨g,j,none⟩=some u:=
 Z7J m.own q
theorem OA {B w0 σ H w} (h:Inv B w0 σ H w) {id off len tot:Nat} {v:Value} {b:Box} (Y:AQ σ w [.Bc id off len tot] [v]) (hb:DZ H id tot=some b) :
  ∃L us,Met B w0 σ H w id b L us/\b.xs.length=tot/\off+len<=tot/\Zeo L.v L.Ar off len v /\
   ((L.v = .slice none 0 0/\v = .slice none 0 0/\off=0/\len=0/\tot=0) \/
    ∃g cap k,L.v = .slice (some ⟨g,0,none⟩) tot cap/\v = .slice (some ⟨g,k*L.Ar,none⟩) len (cap - off)/\tot<=cap/\cap<=maxLen/\k<=off/\(off<cap->k=off)):=by
 obtain⟨Q,S,D⟩:=Uh hb;obtain⟨L,us,m⟩:=h.meet Q S;cases Y with
 | Bc k1 k2 k3 k4 _=>
  rename_i L';rw[m.box]at k1;cases k1;have A:L.tot=tot:=m.tot.trans D;obtain⟨F,J⟩:=k3 A;refine⟨L,us,m,D,F,J,?_⟩;obtain⟨a,n,c,k,C,G,e3,N,O⟩:=J;rcases m.shape with ⟨q,hx,hu⟩|⟨g,cap,M,tg,q,hg,hh,htg,I,hm,hsz,ht⟩
  ·left;rw[q]at C;cases C;have:tot=0:=by rw[<- D,hx];rfl
   have z:off=0:=by omega
   subst z;refine⟨q,?_,rfl,by omega,this⟩;rw[G];have:len=0:=by omega
   subst this;rfl
  ·right;rw[q]at C;cases C;rw[D]at q I;refine⟨g,_,k,q,?_,I,hm,N,O⟩;rw[G];simp[Addr.add_mid]
theorem qO {σ w es us} (h:AQ σ w es us) (off len:Nat):AQ σ w ((es.drop off).take len) ((us.drop off).take len):=(h.drop off).take len
theorem pO {B w0 σ H w} (h:Inv B w0 σ H w) {x Y : V} {v:Value} (G:AQ σ w [x] [v]) (q:Hu H x=some Y) (ids:List Nat) (I:∀i∈Ez x,i∈ids) :
  AQ (σ.freeze H ids) w [Y] [v]:=by
 have e:=(h.freeze ids).2;unfold Hu at q;split at q
 ·cases q;exact G.ext e
 ·cases q;exact G.ext e
 ·cases q;refine AQ.ext ?_ e;cases G with
  | Fz _=>exact .ET .nil
  | GU a _=>exact .FU a .nil
  | Ce b o _ k0 k1 k2 k3 k4 k5 _=>exact .sl b o _ _ k0 k1 k2 k3 (Nat.le_refl _) k4 k5 .nil
 ·rename_i id off len tot;split at q
  ·rename_i b hb;split at q
   ·rename_i hc;simp only[Bool.and_eq_true,decide_eq_true_eq]at hc;simp only[Option.some.injEq]at q;subst q;obtain⟨L,us,m,hxl,hol,hs,D⟩:=OA h G hb;rcases D with ⟨S,F,ho,hl,ht⟩|⟨g,cap,k,S,F,hle,hmx,hk1,M⟩
    ·have O:b.xs=[]:=List.eq_nil_of_length_eq_zero (by omega);rw[O,F];simp only[List.drop_nil,List.take_nil];exact .ET .nil
    ·rw[m.Ar,F];have A:((b.xs.drop off).take len).length=len:=by simp;omega
     have z:=AQ.sl (σ:=σ.freeze H ids) (w:=w) (xs:=[]) (vs:=[]) (es:=(b.xs.drop off).take len) (us:=(us.drop off).take len) g (k*L.Ar) (cap - off) L.Ar
      ((qO m.Dh off len).ext e) (fun x O=>m.fz hc.1 x (List.mem_of_mem_drop (List.mem_of_mem_take O))) (aO (o8 m.sizes off) len) (rJ (Z3c m.ones off) len) (by rw[A];omega) (by omega) ?_ .nil
     ·rw[A]at z;exact z
     ·intro j u J;rw[Z33 m.sizes]at J;have Q:j<len*L.Ar:=by
       have:=(List.getElem?_eq_some_iff.1 J).1;simp at this;omega
      rw[List.getElem?_take,if_pos Q,List.getElem?_drop]at J;have N:0<len:=by
       cases len with
       | zero=>simp at Q
       | succ n=>omega
      have hk:k=off:=M (by omega);subst hk;have C:L.v.ownBlock=some g:=by rw[S];rfl
      refine⟨.inr ⟨id,b,L,I id (by simp[Ez]),m.hb,m.live,m.box,C,?_⟩,m.cell C _ _ J⟩;have:=(List.getElem?_eq_some_iff.1 J).1;rw[flat_length m.sizes,m.len]at this;exact this
   ·cases q
  ·cases q
 ·cases q;exact G.ext e
 ·cases q;exact G.ext e
 ·cases q
theorem Zbv {B w0 σ H w} (h:Inv B w0 σ H w) {x C : V} {v:Value} (A:AQ σ w [x] [v]) (q:Hu H x=some C):CW C = true:=by
 unfold Hu at q;split at q
 ·cases q;rfl
 ·cases q;cases A with
  | ET _=>rfl
  | FU a _=>rfl
  | sl b o c D _ z F G I J N _=>exact Oq z
 ·cases q;cases A with
  | Fz _=>rfl
  | GU a _=>rfl
  | Ce b o D _ z F G I J _=>exact Oq z
 ·rename_i id off len tot;split at q
  ·rename_i b hb;split at q
   ·rename_i hc;simp only[Bool.and_eq_true,decide_eq_true_eq]at hc;simp only[Option.some.injEq]at q;subst q;obtain⟨L,us,m,_⟩:=OA h A hb;exact(J6 _).2 fun x M=>m.Hl hc.1 x (List.mem_of_mem_drop (List.mem_of_mem_take M))
   ·cases q
  ·cases q
 ·cases q;rfl
 ·cases q;rfl
 ·cases q
theorem ZtO {B w0 σ H w} (h:Inv B w0 σ H w) {xs z : List V} {vs:List Value} (F:AQ σ w xs vs) (q:JB H xs=some z):Bz z = true:=by
 induction xs generalizing z vs with
 | nil=>simp only[JB,Option.some.injEq]at q;subst q;rfl
 | cons x xs I=>
  obtain⟨v,J,rfl,C,D⟩:=F.Dw;simp only[JB]at q;split at q
  ·rename_i M ws G A;simp only[Option.some.injEq]at q;subst q;simp[Bz,Zbv h C G,I D A]
  ·cases q
theorem qF {B w0 σ H w} (h:Inv B w0 σ H w) {x C : V} {v:Value} (A:AQ σ w [x] [v]) (q:Hz H x=some C):CW C = true:=by
 unfold Hz at q;split at q
 ·rename_i cs;cases A with
  | agg F G _=>
   cases z:JB H cs with
   | none=>simp[z]at q
   | some D =>
    simp only[z,Option.map_some,Option.some.injEq]at q;subst q;exact ZtO h F z
 ·exact Zbv h A q
theorem Xm {B w0 σ H w} (h:Inv B w0 σ H w) {xs z : List V} {vs:List Value} (F:AQ σ w xs vs) (q:FI H xs=some z):Bz z = true:=by
 induction xs generalizing z vs with
 | nil=>simp only[FI,Option.some.injEq]at q;subst q;rfl
 | cons x xs I=>
  obtain⟨v,J,rfl,C,D⟩:=F.Dw;simp only[FI]at q;split at q
  ·rename_i M ws G A;simp only[Option.some.injEq]at q;subst q;simp[Bz,qF h C G,I D A]
  ·cases q
theorem Zyv {B w0 σ H w} (h:Inv B w0 σ H w) {xs A : List V} {vs:List Value} (F:AQ σ w xs vs) (z:JB H xs=some A) (ids:List Nat) (q:∀i∈xs.flatMap Ez,i∈ids) :
  AQ (σ.freeze H ids) w A vs:=by
 induction xs generalizing A vs with
 | nil=>
  cases F.FH;simp only[JB,Option.some.injEq]at z;subst z;exact .nil
 | cons x xs M=>
  obtain⟨v,N,rfl,G,I⟩:=F.Dw;simp only[JB]at z;split at z
  ·rename_i O ws J D;simp only[Option.some.injEq]at z;subst z;refine AQ.FC.2 ⟨pO h G J ids (fun i C=>q i (by simp[C])),M I D (fun i C=>q i ?_)⟩;simp only[List.flatMap_cons,List.mem_append];exact .inr C
  ·cases z
theorem qP {B w0 σ H w} (h:Inv B w0 σ H w) {x D : V} {v:Value} (C:AQ σ w [x] [v]) (z:Hz H x=some D) (ids:List Nat) (q:∀i∈Dj x,i∈ids) :
  AQ (σ.freeze H ids) w [D] [v]:=by
 unfold Hz at z;split at z
 ·rename_i cs;cases C with
  | agg G J _=>
   cases A:JB H cs with
   | none=>simp[A]at z
   | some F =>
    simp only[A,Option.map_some,Option.some.injEq]at z;subst z;exact .agg (Zyv h G A ids (by simpa[Dj]using q)) J .nil
 ·rename_i I;refine pO h C z ids (fun i M=>q i ?_);cases x<;>simp_all [Dj,Ez]
theorem nN {B w0 σ H w} (h:Inv B w0 σ H w) {xs A : List V} {vs:List Value} (F:AQ σ w xs vs) (z:FI H xs=some A) (ids:List Nat) (q:∀i∈xs.flatMap Dj,i∈ids) :
  AQ (σ.freeze H ids) w A vs:=by
 induction xs generalizing A vs with
 | nil=>
  cases F.FH;simp only[FI,Option.some.injEq]at z;subst z;exact .nil
 | cons x xs M=>
  obtain⟨v,N,rfl,G,I⟩:=F.Dw;simp only[FI]at z;split at z
  ·rename_i O ws J D;simp only[Option.some.injEq]at z;subst z;refine AQ.FC.2 ⟨qP h G J ids (fun i C=>q i (by simp[C])),M I D (fun i C=>q i ?_)⟩;simp only[List.flatMap_cons,List.mem_append];exact .inr C
  ·cases z
theorem Z0S {σ w x v} (e:Nat) (h:AQ σ w [x] [v]):AQ σ w [Gm e x] [v]:=by
 unfold Gm;split
 ·cases h with
  | ET _=>exact .ET .nil
 ·exact h
theorem ZoN {σ w}:∀(es:List Nat) {xs:List V} {vs:List Value},AQ σ w xs vs->AQ σ w (GR es xs) vs:=by
 intro es;induction es with
 | nil=>intro xs vs h;simpa[GR]using h
 | cons e es A=>
  intro xs vs h;cases xs with
  | nil=>simpa[GR]using h
  | cons x xs=>
   obtain⟨v,C,rfl,q,z⟩:=h.Dw;exact AQ.FC.2 ⟨Z0S e q,A z⟩
theorem Rw {σ w x v} (es:List Nat) (h:AQ σ w [x] [v]):AQ σ w [Dz es x] [v]:=by
 unfold Dz;split
 ·cases h with
  | agg q z _=>exact .agg (ZoN es q) z .nil
 ·exact Z0S _ h
theorem Zoe {σ w} (es:List Nat) {xs:List V} {vs:List Value} (h:AQ σ w xs vs):AQ σ w (xs.map (Dz es)) vs:=by
 induction xs generalizing vs with
 | nil=>simpa using h
 | cons x xs A=>
  obtain⟨v,C,rfl,q,z⟩:=h.Dw;exact AQ.FC.2 ⟨Rw es q,A z⟩
theorem Z0k {σ w} (rows:TypeId->List Nat):∀(ts:List TypeId) {xs:List V} {vs:List Value},AQ σ w xs vs->AQ σ w (GM rows ts xs) vs:=by
 intro ts;induction ts with
 | nil=>intro xs vs h;simpa[GM]using h
 | cons t ts A=>
  intro xs vs h;cases xs with
  | nil=>simpa[GM]using h
  | cons x xs=>
   obtain⟨v,C,rfl,q,z⟩:=h.Dw;exact AQ.FC.2 ⟨Rw _ q,A z⟩
theorem Z8u (e:Nat) (x:V):CW (Gm e x)=CW x:=by
 unfold Gm;split<;>simp[CW]
theorem ZnO:∀(es:List Nat) (xs:List V),Bz (GR es xs)=Bz xs:=by
 intro es;induction es with
 | nil=>intro xs;simp[GR]
 | cons e es q=>intro xs;cases xs<;>simp[GR,Bz,Z8u,q]
theorem Ro (es:List Nat) (x:V):CW (Dz es x)=CW x:=by
 unfold Dz;split
 ·simp[CW,ZnO]
 ·exact Z8u _ _
theorem kM (rows:TypeId->List Nat):∀(ts:List TypeId) (xs:List V),Bz (GM rows ts xs)=Bz xs:=by
 intro ts;induction ts with
 | nil=>intro xs;simp[GM]
 | cons t ts q=>intro xs;cases xs<;>simp[GM,Bz,Ro,q]
theorem Zv5 (e:Nat) (x:V):okV (Gm e x)=okV x:=by
 unfold Gm;split<;>simp[okV]
theorem qA (es:List Nat) (x:V):okV (Dz es x)=okV x:=by
 unfold Dz;split
 ·simp[okV]
 ·exact Zv5 _ _
theorem Zmm:∀(es:List Nat) (xs:List V),(GR es xs).length=xs.length:=by
 intro es;induction es with
 | nil=>intro xs;simp[GR]
 | cons e es q=>intro xs;cases xs<;>simp[GR,q]
theorem Zry (e:Nat) (x:V):(Gm e x).cells.length=x.cells.length:=by
 unfold Gm;split<;>simp[V.cells]
theorem Zw4 (es:List Nat) (x:V):(Dz es x).cells.length=x.cells.length:=by
 unfold Dz;split
 ·simp[V.cells,Zmm]
 ·exact Zry _ _
theorem AQ.cells {σ w x v} (h:AQ σ w [x] [v]) (F:okV x=true):AQ σ w x.cells v.cells.toList/\(∀u∈v.cells.toList,u.oneCell' = true):=by
 cases h with
 | und u h=>simp[okV]at F
 | no h=>simp[okV]at F
 | BL _ h=>simp[okV]at F
 | GY _ _ _ _ _ _ _=>simp[okV]at F
 | agg q z _=>exact⟨by simpa[V.cells,Value.cells]using q,by simpa[Value.cells]using z⟩
 | lit I _=>
  cases v<;>simp[leaf]at I<;>simp[V.cells,Value.cells,Value.oneCell']<;>exact .lit (by simp[leaf,I]) .nil
 | ET h=>exact⟨.ET .nil,by simp[Value.cells,Value.oneCell']⟩
 | Fz h=>exact⟨.Fz .nil,by simp[Value.cells,Value.oneCell']⟩
 | FU a h=>exact⟨.FU a .nil,by simp[Value.cells,Value.oneCell']⟩
 | GU a h=>exact⟨.GU a .nil,by simp[Value.cells,Value.oneCell']⟩
 | sl b o c e D q z A C G J _=>exact⟨.sl b o c e D q z A C G J .nil,by simp[Value.cells,Value.oneCell']⟩
 | Ce b o e D q z A C G _=>exact⟨.Ce b o e D q z A C G .nil,by simp[Value.cells,Value.oneCell']⟩
 | Bc q z A C _=>
  obtain⟨a,n,c,rfl⟩:=C;exact⟨.Bc q z A ⟨a,n,c,rfl⟩ .nil,by simp[Value.cells,Value.oneCell']⟩
 | ptr g q z A C _=>
  subst C;exact⟨.ptr g q z A rfl .nil,by simp[Value.cells,Value.oneCell']⟩
 | CG b o e i off D q z A C _=>exact⟨.CG b o e i off D q z A C .nil,by simp[Value.cells,Value.oneCell']⟩
 | fn q z _=>exact⟨.fn q z .nil,by simp[Value.cells,Value.oneCell']⟩
 | Gx q _=>exact⟨.Gx q .nil,by simp[Value.cells,Value.oneCell']⟩
theorem AQ.QY {σ w x v} (h:AQ σ w [x] [v]) (q:okV x=true):x.cells.length=v.cells.size:=by
 have:=(h.cells q).1.length;simpa using this
end Go.Proofs.YtjodhcdmhobmoaaGreatDoor.Le
namespace Go.Proofs.YtjodhcdmhobmoaaGreatDoor.Le
open Go.RowKit (Below)
structure Cf (E:Env):Prop where
 ti:∀t i,E.ti t=some i->Jn E.P t=some i
 func:∀f fn,E.func f=some fn->E.P.funcs[f]? = some fn/\(fn.name == "runtime.NumGoroutine")=false
 mix:E.P.follows .mixedOrders=true
 calm:∀f fn c,E.func f=some fn->fn.body=some c->Ed E f c=true
 kind:∀t k,E.kind t=some k->E.P.underlying t=some (.int k)
 isStr:∀t,E.isStr t=true->E.P.underlying t=some .string
 isBool:∀t,E.isBool t=true->E.P.underlying t=some .bool
 flat:∀t ks,E.flat t=some ks->uD E.P t=some ks
 isBytes:∀t,E.isBytes t=true->∃e,E.P.underlying t=some (.slice e)/\E.P.underlying e=some (.int .u8)
def Di (E:Env) (σ:Sg) (w:World):Prop:=∀g r,E.Ef g=some r->AQ σ w [.CG r.length [.agg r] 0 0] [.pointer (some ⟨g,0,none⟩)]
theorem Di.ext {E σ w σ' w'} (h:Di E σ w) (e:Ext σ w σ' w'):Di E σ' w' :=fun g r q=>(h g r q).ext e
theorem Z9x (σ:Sg) (w:World) (v:Value) (h:VO v=true):AQ σ w [OU v] [v]/\v.oneCell' = true:=by
 unfold OU;split
 ·exact⟨.ET .nil,rfl⟩
 ·rename_i q;have z:leaf v=true:=by
   unfold VO at h;split at h
   ·exact absurd rfl q
   ·exact h
  rw[if_pos z];exact⟨.lit z .nil,by cases v<;>simp_all [leaf,Value.oneCell']⟩
theorem Zqb (σ:Sg) (w:World) (vs:List Value) (h:vs.all VO=true):AQ σ w (vs.map OU) vs/\∀u∈vs,u.oneCell' = true:=by
 induction vs with
 | nil=>exact⟨.nil,by simp⟩
 | cons v vs D=>
  simp only[List.all_cons,Bool.and_eq_true]at h;obtain⟨q,z⟩:=Z9x σ w v h.1;obtain⟨A,C⟩:=D h.2;exact⟨AQ.FC.2 ⟨q,A⟩,by simpa using ⟨z,C⟩⟩
theorem Xp (σ:Sg) (w:World) (v:Value):AQ σ w [PU v] [v]:=by
 have q:∀u:Value,AQ σ w [if VO u then OU u else .und] [u]:=by
  intro u;split
  ·rename_i h;exact(Z9x σ w u h).1
  ·exact .und _ .nil
 cases v with
 | agg cs=>
  simp only[PU];split
  ·rename_i h;obtain⟨z,A⟩:=Zqb σ w cs.toList h;have:=AQ.agg z A (xs:=[]) (vs:=[]) .nil;simpa using this
  ·exact .und _ .nil
 | tuple vs=>
  simp only[PU];split
  ·rename_i h;have:vs = #[]:=by simpa using h
   subst this;exact .no .nil
  ·exact .und _ .nil
 | bool b=>exact q (.bool b)
 | int k n=>exact q (.int k n)
 | float k b=>exact q (.float k b)
 | complex k a b=>exact q (.complex k a b)
 | string s=>exact q (.string s)
 | pointer a=>exact q (.pointer a)
 | slice a n c=>exact q (.slice a n c)
 | map r=>exact q (.map r)
 | chan r=>exact q (.chan r)
 | func f a b=>exact q (.func f a b)
 | nilFunc=>exact q .nilFunc
 | iface t v=>exact q (.iface t v)
 | nilIface=>exact q .nilIface
theorem Zcz {σ w s vs} (h:AQ σ w s vs) (t:Nat):AQ σ w [s.getD t .und] [vs.getD t undef]:=by
 cases q:s[t]? with
 | none=>simp only[List.getD,q,Option.getD_none];exact .und _ .nil
 | some x=>
  obtain⟨v,A,z⟩:=h.get q;simp only[List.getD,q,A,Option.getD_some];exact z
theorem EY {E σ w s} {a:Act} (q:Di E σ w) (h:AQ σ w s a.tmps.toList) (x:Operand):AQ σ w [ev E s x] [a.eval x]:=by
 cases x with
 | tmp t=>
  have:=Zcz h t;simpa[ev,Act.eval,Array.getD_eq_getD_getElem?,List.getD_eq_getElem?_getD]using this
 | const v=>exact Xp σ w v
 | func f=>exact .fn .nil .nil .nil
 | global g=>
  simp only[ev,Act.eval];cases z:E.Ef g with
  | none=>exact .und _ .nil
  | some r=>exact q g r z
theorem qZ {E σ w s} {a:Act} (q:Di E σ w) (h:AQ σ w s a.tmps.toList) (xs:List Operand):AQ σ w (xs.map (ev E s)) (xs.map a.eval):=by
 induction xs with
 | nil=>exact .nil
 | cons x xs z=>exact AQ.FC.2 ⟨EY q h x,z⟩
theorem FD {P:Program} {t:TypeId} {i:TI} (h:Jn P t=some i):∃q d,P.info? t=some q/\P.underlying t=some d/\i.ty=Kr d/\i.size=q.size/\i.bytes=q.bytes/\i.zero=q.zero.map PU:=by
 unfold Jn at h;split at h
 ·rename_i q d z A;simp only[Option.some.injEq]at h;subst h;exact⟨q,d,z,A,rfl,rfl,rfl,rfl⟩
 ·cases h
theorem Z2T {P:Program} {t:TypeId} {d:TypeDesc} (w:World) (h:P.underlying t=some d):(isAgg t).run P w = .ok d.isRow w:=by
 unfold isAgg;rw[Sem.run_bind,run_underlying h w];cases d<;>rfl
theorem ZcV {i:TI} {d:TypeDesc} (h:i.ty=Kr d):i.isAgg=d.isRow:=by
 unfold TI.isAgg;rw[h];cases d<;>rfl
theorem run_sizeOf {P:Program} {t:TypeId} {q:TypeInfo} (w:World) (h:P.info? t=some q):(sizeOf t).run P w = .ok q.size w:=by
 simp[sizeOf,typeInfo,h]
theorem Zcu {σ w} {cs:List V} {ws:List Value} (h:AQ σ w cs ws) (G:∀u∈ws,u.oneCell' = true) {off n:Nat} {A:Bool} {F : V} (z:partOf cs off n A=some F) :
  (A=true/\off+n<=ws.length/\AQ σ w [F] [.agg ((ws.drop off).take n).toArray])\/(A=false/\∃u,ws[off]? = some u/\AQ σ w [F] [u]):=by
 unfold partOf at z;split at z
 ·rename_i q;split at z
  ·rename_i C;simp only[Option.some.injEq]at z;subst z;refine .inl ⟨q,by rw[<- h.length];exact C,.agg (qO h off n) ?_ .nil⟩;intro u D;exact G u (List.mem_of_mem_drop (List.mem_of_mem_take D))
  ·cases z
 ·rename_i q;obtain⟨u,D,I⟩:=h.get z;exact .inr ⟨by simpa using q,u,D,I⟩
theorem ZbG {E σ w} {P:Program} (hE:Cf E) (hP:E.P=P) {t:TypeId} {ti:TI} (hti:E.ti t=some ti) {xs:List V} {us:List Value} {e b o i off:Nat} {x' : V}
  (h:AQ σ w xs us) (hk:∀x∈xs,okV x=true) (hs:∀u∈us,u.cells.size=e) (ho:∀u∈flat us,u.oneCell' = true)
  (hc:∀j u,(flat us)[j]? = some u->w.cell? ⟨b,o+j,none⟩=some u) (G:OJ xs i off ti.size ti.isAgg=some x') :
  ∃u,(loadVar t ⟨b,o+i*e+off,none⟩).run P w = .ok u w/\AQ σ w [x'] [u]:=by
 unfold OJ at G;split at G
 ·rename_i x hx;obtain⟨uu,hu,hxr⟩:=h.get hx;have S:=hk x (List.mem_of_getElem? hx);obtain⟨M,J⟩:=hxr.cells S;have Y:uu.cells.size=e:=hs uu (List.mem_of_getElem? hu);obtain⟨inf,d,hi,N,h1,h2,h3,h4⟩:=FD (hE.ti t ti hti);rw[hP]at hi N;have C:=ZcV h1;have q:∀j u,uu.cells.toList[j]? = some u->w.cell? ⟨b,o+(i*e+j),none⟩=some u:=by
   intro j u F;have Q:j<e:=by
    have:=(List.getElem?_eq_some_iff.1 F).1;simpa[Y]using this
   exact hc _ _ (by rw[ZCc hs hu j Q];exact F)
  rcases Zcu M J G with ⟨I,O,z⟩|⟨I,u,hu',z⟩
  ·refine⟨_,run_loadVar_mid (P:=P) w b (o+i*e+off) t _ d ?_ N (by rw[<- C];exact I) ?_,z⟩
   ·intro j v hv;have F:j<ti.size:=by
     have:=(List.getElem?_eq_some_iff.1 hv).1;simp at this;omega
    rw[List.getElem?_take,if_pos F,List.getElem?_drop]at hv;have:=q _ _ hv;rw[<- this];congr 2;omega
   ·simp only[hi,Option.map_some,Option.some.injEq];simp at O ⊢;omega
  ·refine⟨u,?_,z⟩;have D:d.isRow=false:=by rw[<- C];exact I
   have:=q _ _ hu';have A : w.cell? ⟨b,o+i*e+off,none⟩=some u:=by rw[<- this];congr 2;omega
   unfold loadVar;rw[Sem.run_bind,Z2T w N,D];simp[load,Sem.run,A]
 ·cases G
theorem ZdF {E B w0 σ H w} {P:Program} (I:Cf E) (J:E.P=P) (h:Inv B w0 σ H w) {t:TypeId} {a N : V} {G:Value} (M:AQ σ w [a] [G]) (q:MJ E H t a=some N) :
  ∃u,(Instr.loadAt t G).run P w = .ok u w/\AQ σ w [N] [u]:=by
 unfold MJ at q;split at q
 ·cases q
 ·rename_i ti A;split at q
  ·rename_i e xs j off;cases M with
   | CG b o e i off k0 k1 k2 k3 k4 _=>
    rename_i us;obtain⟨u,C,F⟩:=ZbG I J A (o:=o) k0 (Z3n k1) k2 k3 (fun j u D=>(k4 j u D).2) q;exact⟨u,by simp only[Instr.loadAt,Instr.sureAddr,Sem.run_bind,Sem.run_pure,Result.andThen_ok,C],F⟩
  ·rename_i id j off tot;split at q
   ·rename_i b hb;obtain⟨O,Q,S⟩:=Uh hb;obtain⟨L,us,m⟩:=h.meet O Q;cases M with
    | ptr g k1 k2 k3 k4 _=>
     rename_i L';rw[m.box]at k1;cases k1;obtain⟨n,c,Y⟩:=k3 (m.tot.trans S);have z:L.v.ownBlock=some g:=by rw[Y];rfl
     subst k4;obtain⟨u,C,F⟩:=ZbG I J A (o:=0) (b:=g) m.Dh m.oks m.sizes m.ones (fun j u D=>by rw[Nat.zero_add];exact m.cell z j u D) q;rw[Nat.zero_add]at C;exact⟨u,by simp only[Instr.loadAt,Instr.sureAddr,Sem.run_bind,Sem.run_pure,Result.andThen_ok,C],F⟩
   ·cases q
  ·cases q
end Go.Proofs.YtjodhcdmhobmoaaGreatDoor.Le
namespace Go.Proofs.YtjodhcdmhobmoaaGreatDoor.Le
open Go.RowKit (Below)
theorem ZsK {α:Type} (A U C R q:List α) (off k:Nat) (G:q.length=k) (F:off+k<=U.length) :
  (A++U++C++R).take (A.length+off)++q++(A++U++C++R).drop (A.length+off+k)=A++(U.take off++q++U.drop (off+k))++C++R:=by
 have z:(A++U++C++R).take (A.length+off)=A++U.take off:=by
  rw[List.append_assoc,List.append_assoc,List.take_append,List.take_of_length_le (by omega)];congr 1;rw[show A.length+off - A.length=off from by omega,List.take_append];rw[show off - U.length=0 from by omega];simp
 have D:(A++U++C++R).drop (A.length+off+k)=U.drop (off+k)++C++R:=by
  rw[List.append_assoc,List.append_assoc,List.drop_append,List.drop_eq_nil_of_le (by omega),List.nil_append];rw[show A.length+off+k - A.length=off+k from by omega,List.drop_append];rw[show off+k - U.length=0 from by omega];simp
 rw[z,D];simp[List.append_assoc]
theorem Zsa {σ w} {x Q : V} {C:Value} {cs:List V} {q:List Value} {off:Nat} (O:AQ σ w [x] [C]) (J:okV x=true) (hc:AQ σ w cs q) (N:∀u∈q,u.oneCell' = true)
  (h:KX x off cs=some Q) :
  off+q.length<=C.cells.size/\∃F,AQ σ w [Q] [F]/\F.cells.toList=C.cells.toList.take off++q++C.cells.toList.drop (off+q.length):=by
 unfold KX at h;split at h
 ·rename_i ds;split at h
  ·rename_i S;simp only[Option.some.injEq]at h;subst h;cases O with
   | agg D G h3=>
    rename_i ws;have M:=D.length;have I:=hc.length;refine⟨by simp[Value.cells];omega,.agg (ws.take off++q++ws.drop (off+q.length)).toArray,?_,by simp[Value.cells]⟩;rw[I];refine .agg ((D.take off).append hc |>.append (D.drop _)) ?_ .nil;intro u hu;simp only[List.mem_append]at hu;rcases hu with (hu|hu)|hu
    ·exact G u (List.mem_of_mem_take hu)
    ·exact N u hu
    ·exact G u (List.mem_of_mem_drop hu)
  ·cases h
 ·rename_i Y;split at h
  ·rename_i c;simp only[Option.some.injEq]at h;subst h;obtain⟨v,vs',rfl,D,G⟩:=hc.Dw;cases G.FH;have z:C.cells.size=1:=by
    have:=O.QY J;cases x<;>simp_all [V.cells]
   have A:v.cells = #[v]:=by
    have:=N v (by simp);cases v<;>simp_all [Value.cells,Value.oneCell']
   refine⟨by simp[z],v,D,?_⟩;rw[A];have:C.cells.toList.drop (0+[v].length)=[]:=by apply List.drop_eq_nil_of_le;simp[z]
   rw[this];simp
  ·cases h
theorem ZcJ {B w0 σ H w} {P:Program} (h:Inv B w0 σ H w) {id:Nat} {b:Box} {L:Loc} {us:List Value} (m:Met B w0 σ H w id b L us) {g n c:Nat} (hv:L.v = .slice (some ⟨g,0,none⟩) n c)
  {j off:Nat} {x x' M : V} {cs:List V} {q:List Value} (hx:b.xs[j]? = some x) (hc:AQ σ w cs q) (ho:∀u∈q,u.oneCell' = true) (hs:KX x off cs=some x') (hxx:∀σ w v,AQ σ w [x'] [v]->AQ σ w [M] [v]) (hok:okV M = true) (hnr:b.row=true->CW M = true) (hfl:b.floor<=j) :
  ∃w',(storeCells ⟨g,j*L.Ar+off,none⟩ q).run P w = .ok () w' /\ Inv B w0 (σ.put id L) (H.set id { b with xs:=b.xs.set j M }) w' /\ Ext σ w (σ.put id L) w' :=by
 obtain⟨uu,hu,hxr⟩:=m.Dh.get hx;have J:=m.oks x (List.mem_of_getElem? hx);obtain⟨hle,D,hr',G⟩:=Zsa hxr J hc ho hs;have hsz:uu.cells.size=L.Ar:=m.sizes uu (List.mem_of_getElem? hu);have hsz' : D.cells.size=L.Ar:=by
  have:=congrArg List.length G;simp at this;omega
 rcases m.shape with ⟨hn,_,_⟩|⟨g',cap,z,tg,hv',hB,hh,htg,hn,hm,hcs,ht⟩
 ·rw[hn]at hv;cases hv
 ·rw[hv']at hv;cases hv;have hjlen:j<b.xs.length:=(List.getElem?_eq_some_iff.1 hx).1;have hje:j*L.Ar+L.Ar<=b.xs.length*L.Ar:=by
   rw[<- Nat.succ_mul];exact Nat.mul_le_mul_right _ hjlen
  have hce:b.xs.length*L.Ar<=c*L.Ar:=Nat.mul_le_mul_right _ hn;have hfit:j*L.Ar+off+0+q.length<=z.size:=by omega
  have I:=jP P g (j*L.Ar+off) b.elem tg q 0 z w hh htg hfit ho;simp only[Nat.add_zero]at I;have hF:flat us=(flat us).take (j*L.Ar)++uu.cells.toList++(flat us).drop (j*L.Ar+L.Ar):=by
   have:=Z38 m.sizes hu hsz;rw[<- this];congr 1;apply List.ext_getElem?;intro i;rw[List.getElem?_set];split
   ·rename_i e;subst e;split
    ·exact hu
    ·rename_i hge;rw[List.getElem?_eq_none (by omega)]
   ·rfl
  have hA:((flat us).take (j*L.Ar)).length=j*L.Ar:=by
   rw[List.length_take,flat_length m.sizes,m.len];omega
  have O:z.toList=(flat us).take (j*L.Ar)++uu.cells.toList++(flat us).drop (j*L.Ar+L.Ar)++z.toList.drop (b.xs.length*L.Ar):=by
   rw[<- hF,<- ht,List.take_append_drop]
  have hsp:=ZsK ((flat us).take (j*L.Ar)) uu.cells.toList ((flat us).drop (j*L.Ar+L.Ar)) (z.toList.drop (b.xs.length*L.Ar)) q off q.length rfl (by simpa using hle);rw[hA,<- O]at hsp;rw[hsp]at I;have A : flat (us.set j D)=(flat us).take (j*L.Ar)++(uu.cells.toList.take off++q++uu.cells.toList.drop (off+q.length))++(flat us).drop (j*L.Ar+L.Ar):=by
   rw[Z38 m.sizes hu hsz',G]
  rw[<- A]at I;have C : ∀u∈us.set j D,u.cells.size=L.Ar:=by
   intro u hu';rcases List.mem_or_eq_of_mem_set hu' with hu' | hu'
   ·exact m.sizes u hu'
   ·rw[hu'];exact hsz'
  have F : (flat (us.set j D)).length=b.xs.length*L.Ar:=by
   rw[flat_length C,List.length_set,m.len]
  have hheap:=setRow_heap w g z (flat (us.set j D)++z.toList.drop (b.xs.length*L.Ar)).toArray b.elem tg hh;have S:L.v.ownBlock=some g:=by rw[hv'];rfl
  have hgb:w.grownBy (w.setRow g (flat (us.set j D)++z.toList.drop (b.xs.length*L.Ar)).toArray) L.v.ownBlock:=
   ⟨rfl,rfl,rfl,by simp,fun k _ hk=>setRow_other w g k _ (fun e=>hk (by rw[S,e]))⟩
  refine⟨_,I,?_⟩;refine h.upd m.hb m.live m.box hgb { b with xs:=b.xs.set j M } m.live L rfl (.inl rfl) rfl (by simp) (fun g' N =>.inl N) ?_ ?_
  ·intro g' c' N hc';rw[S]at N;cases N;have hlt:c' < j*L.Ar:=Nat.lt_of_lt_of_le hc' (Nat.mul_le_mul_right _ hfl);rw[cell_setRow_same w g c' z _ b.elem tg hh,cell_of_row w g c' z b.elem tg hh];rw[List.getElem?_toArray,<- Array.getElem?_toList,O,A];have Q : c' < ((flat us).take (j*L.Ar)).length:=by rw[hA];exact hlt
   rw[List.append_assoc,List.append_assoc,List.getElem?_append_left Q,List.append_assoc,List.append_assoc,List.getElem?_append_left Q]
  ·intro e;refine⟨by simpa using m.tot,⟨us.set j D,(m.Dh.ext e).set j (hxx _ _ _ (hr'.ext e)),C,?_,?_⟩,m.EZ,m.Ar,?_,fun Y=>?_⟩
   ·intro u hu';rw[A]at hu';simp only[List.mem_append]at hu';rcases hu' with (hu' | (hu' | hu')|hu')|hu'
    ·exact m.ones u (List.mem_of_mem_take hu')
    ·have:=(hxr.cells J).2 u (List.mem_of_mem_take hu');exact this
    ·exact ho u hu'
    ·exact(hxr.cells J).2 u (List.mem_of_mem_drop hu')
    ·exact m.ones u (List.mem_of_mem_drop hu')
   ·refine⟨by simpa using F,.inr ⟨g,c,_,tg,by simpa using hv',hB,hheap,?_,by simpa using hn,hm,?_,?_⟩⟩
    ·have:(flat (us.set j D)++z.toList.drop (b.xs.length*L.Ar)).toArray.size=z.size:=by
      simp only[List.size_toArray,List.length_append,F,List.length_drop,Array.length_toList,hcs];omega
     rw[this];exact htg
    ·simp only[List.size_toArray,List.length_append,F,List.length_drop,Array.length_toList,hcs];omega
    ·simp only[List.length_set];rw[List.take_append_of_le_length (by omega),List.take_of_length_le (by omega)]
   ·intro y hy;rcases List.mem_or_eq_of_mem_set hy with hy|hy
    ·exact m.oks y hy
    ·rw[hy];exact hok
   ·intro y hy;rcases List.mem_or_eq_of_mem_set hy with hy|hy
    ·exact m.Hl Y y hy
    ·rw[hy];exact hnr Y
theorem ZpI {x D : V} {off:Nat} {cs:List V} (F:CW x=true) (hc:Bz cs=true) (q:KX x off cs=some D):CW D = true:=by
 unfold KX at q;split at q
 ·rename_i z;split at q
  ·simp only[Option.some.injEq]at q;subst q;rw[show CW (.agg (z.take off++cs++z.drop (off+cs.length)))=Bz (z.take off++cs++z.drop (off+cs.length)) from rfl,J6];have C:∀y∈z,CW y=true:=(J6 z).1 F;have A :=(J6 cs).1 hc;intro y hy;simp only[List.mem_append]at hy;rcases hy with (hy|hy)|hy
   ·exact C y (List.mem_of_mem_take hy)
   ·exact A y hy
   ·exact C y (List.mem_of_mem_drop hy)
  ·cases q
 ·split at q
  ·simp only[Option.some.injEq]at q;subst q;simpa[Bz]using hc
  ·cases q
theorem Za2 {P:Program} {t:TypeId} {b o:Nat} {v:Value} {q:TypeInfo} {w w' : World} (z:P.info? t=some q) (A:v.cells.size=q.size)
  (h:(storeCells ⟨b,o,none⟩ v.cells.toList).run P w = .ok () w'):(Instr.storeAt t (.pointer (some ⟨b,o,none⟩)) v).run P w = .ok () w' :=by
 simp[Instr.storeAt,Instr.sureAddr,storeVar,sizeOf,typeInfo,z,A,h]
theorem ZA8 {E B w0 σ H w} {P:Program} (hE:Cf E) (hP:E.P=P) (h:Inv B w0 σ H w) {t:TypeId} {a x:V} {av xv:Value} {H' : Heap}
  (ha:AQ σ w [a] [av]) (hx:AQ σ w [x] [xv]) (q:Lu E H t a x=some H') :
  ∃w' σ',(Instr.storeAt t av xv).run P w = .ok () w' /\ Inv B w0 σ' H' w' /\ Ext σ w σ' w' :=by
 unfold Lu at q;split at q
 ·cases q
 ·rename_i ti hti;obtain⟨inf,d,O,hd,h1,h2,h3,h4⟩:=FD (hE.ti t ti hti);rw[hP]at O hd;split at q
  ·rename_i id j off tot;split at q
   ·rename_i b hb;obtain⟨b1,b2,b3⟩:=Uh hb;split at q
    ·rename_i y hy;split at q
     ·rename_i hc;simp only[Bool.and_eq_true,beq_iff_eq,decide_eq_true_eq]at hc;obtain⟨⟨c1,c2⟩,c3⟩:=hc;have Q:xv.cells.size=inf.size:=by rw[<- hx.QY c3,c1,h2]
      cases ha with
      | ptr g k1 k2 k3 k4 k5=>
       rename_i L';subst k4;split at q
       ·
        split at q
        ·rename_i x' hf;split at q
         ·rename_i y1 S;obtain⟨M,D,Y⟩:∃M,KX y off x'.cells=some M /\ Dz (E.rows b.elem) M = y1:=by
           cases J:KX y off x'.cells with
           | none=>simp[J]at S
           | some M =>exact⟨M,rfl,by simpa[J]using S⟩
          split at q
          ·cases q
          ·rename_i N;simp only[Option.some.injEq]at q;subst q;simp only[Bool.or_eq_true,Bool.not_eq_true',List.contains_eq_mem,decide_eq_true_eq,not_or,Bool.not_eq_false]at N;obtain⟨⟨n1,n2⟩,n3⟩:=N;obtain⟨hI,hEx⟩:=h.freeze (Dj x);have hxr:=qP h hx hf (Dj x) (fun i O=>O);have hb' : (bump H (Dj x))[id]? = some b:=by rw[KR,b1];simp[n1]
           obtain⟨L,us,m⟩:=hI.meet hb' b2;have hL:L' = L:=by
            have:=m.box;simp only[Sg.freeze]at this;rw[k1]at this;cases this;rfl
           subst hL;obtain⟨n,c,hv⟩:=k3 (m.tot.trans b3);obtain⟨I,G⟩:=hxr.cells n2;obtain⟨w',C,F,z⟩:=ZcJ (P:=P) hI m hv hy I G D (fun σ w v J=>by rw[<- Y];exact Rw _ J) n3 (fun A=>by rw[<- Y,Ro];exact ZpI (m.Hl A _ (List.mem_of_getElem? hy)) (Zsq (qF h hx hf)) D) c2;exact⟨w',_,Za2 O Q C,F,hEx.trans z⟩
         ·cases q
        ·cases q
       ·split at q
        ·rename_i M D;split at q
         ·rename_i n3;simp only[Option.some.injEq]at q;subst q;obtain⟨L,us,m⟩:=h.meet b1 b2;have hL:L' = L:=by
           have:=m.box;rw[k1]at this;cases this;rfl
          subst hL;obtain⟨n,c,hv⟩:=k3 (m.tot.trans b3);obtain⟨I,G⟩:=hx.cells c3;obtain⟨w',C,F,z⟩:=ZcJ (P:=P) h m hv hy I G D (fun _ _ _ J=>J) n3 (fun A=>absurd A (by assumption)) c2;exact⟨w',_,Za2 O Q C,F,z⟩
         ·cases q
        ·cases q
     ·cases q
    ·cases q
   ·cases q
  ·cases q
theorem grownBy_refl (w:World) (row:Option Nat):w.grownBy w row:=⟨rfl,rfl,rfl,Nat.le_refl _,fun _ _ _=>rfl⟩
theorem ZbK {B w0 σ H w} (h:Inv B w0 σ H w) {k:Nat} (A:FO H k=true) {xs:List V} {us:List Value} {e n:Nat} (t:TypeId) (row:Bool) (F:AQ σ w xs us) (C:row=true->∀x∈xs,CW x=true) (O:∀x∈xs,okV x=true) (G:∀u∈us,u.cells.size=e)
  (S:∀u∈flat us,u.oneCell' = true) (Q:xs.length<=maxLen) :
  ∃σ',Inv B w0 σ' (place H k (Bg row false t e xs)) (w.alloc (.cells (flat us).toArray t))/\Ext σ w σ' (w.alloc (.cells (flat us).toArray t)) /\
   σ'.box k=some ⟨.slice (some ⟨w.heap.size,0,none⟩) xs.length xs.length,xs.length,e⟩:=by
 have q:us.length=xs.length:=F.length.symm;have D:(flat us).toArray.size=xs.length*e:=by simp[flat_length G,q]
 have z:=F7.of (World.ownsRow_lit (base:=B) (e:=t) (size:=e) w (flat us).toArray xs.length h.size Q D);obtain⟨J,M⟩:=h.push (w.grownBy_alloc (.cells (flat us).toArray t) none) A (Bg row false t e xs) rfl ⟨.slice (some ⟨w.heap.size,0,none⟩) xs.length xs.length,xs.length,e⟩ (by simp[Bg])
  (fun g N=>by simp[Value.ownBlock]at N;omega) (fun I=>⟨rfl,⟨us,F.ext I,G,S,by simpa[Bg]using z⟩,by simp[Bg],rfl,O,C⟩)
 exact⟨_,J,M,by simp[Sg.put]⟩
theorem NF (u:Value):flat [u]=u.cells.toList:=by simp[flat]
theorem Zuq {P:Program} (w:World) (t:TypeId) (v:Value):(newVar t v).run P w = .ok ⟨w.heap.size,0,none⟩ (w.alloc (.cells v.cells t)):=by
 rfl
theorem ZbJ {B w0 σ H w} {P:Program} (h:Inv B w0 σ H w) {k:Nat} (C:FO H k=true) {x:V} {u:Value} {e:Nat} (t:TypeId) (D:AQ σ w [x] [u]) (A:okV x=true) (I:x.cells.length=e) :
  ∃w' σ',(newVar t u).run P w = .ok ⟨w.heap.size,0,none⟩ w' /\ Inv B w0 σ' (place H k (Bg false false t e [x])) w' /\ Ext σ w σ' w' /\ AQ σ' w' [.ptr k 0 0 1] [.pointer (some ⟨w.heap.size,0,none⟩)]:=by
 have F:u.cells.size=e:=by rw[<- D.QY A];exact I
 obtain⟨σ',q,z,G⟩:=ZbK (xs:=[x]) (us:=[u]) (e:=e) (n:=1) h C t false D (by simp) (by simpa using A) (by simpa using F) (by rw[NF];exact(D.cells A).2) (by simp[maxLen]);rw[NF]at q z;simp only[Array.toArray_toList]at q z;exact⟨_,σ',Zuq w t u,q,z,.ptr w.heap.size G (Nat.le_refl _) (fun _=>⟨_,_,rfl⟩) (by simp) .nil⟩
end Go.Proofs.YtjodhcdmhobmoaaGreatDoor.Le
