/-
  An evaluator for the model's code over pure values: its definitions.
  A value is a scalar, a flat aggregate of cells, an immutable slice with its elements, or a reference into a box.
  A box is memory that the evaluated calls own: a variable (one element) or the array behind a slice.
-/
import Derived.WalkKit
import GoSem.ClaimData
import GoSem.ClaimKeys
import Derived.Below
import Derived.Deep.MidRow
import Derived.Laws.MakeOwn
import Derived.Laws.OwnMore
import Derived.Maps.Keyed
namespace Go.Proofs.YtpikcdlhgiooaaaGreat.Le
set_option linter.unusedVariables false

inductive V where
  | lit (v : Value)
  | agg (cs : List V)
  | tup (vs : List V)
  | sl (isNil : Bool) (e : Nat) (xs : List V)       -- e: cells an element
  | slt (isNil : Bool) (e : Nat) (xs : List V)      -- the same, with a capacity that is its length
  | lsl (id off len tot : Nat)
  | ptr (id i off tot : Nat)
  | ept (e : Nat) (xs : List V) (i off : Nat)
  | fn (f : FuncId) (first caps : List V)
  | ifc (t : TypeId) (v : V)
  | mpl (kvs : List V)          -- a map that changes no more: its keys and values in turn
  | mref (id : Nat)             -- a map of a box
  | no           -- the slot of an operation that did not run
  | und          -- whatever
  deriving Inhabited

def V.cells : V → List V
  | .agg cs => cs
  | v => [v]

/-- Whether a value may lie in memory. -/
def okV : V → Bool
  | .und | .no | .tup _ | .mpl _ => false
  | _ => true

/-! Values without references into boxes. -/
mutual
def noRef : V → Bool
  | .lsl _ _ _ _ => false
  | .ptr _ _ _ _ => false
  | .ept _ xs _ _ => noRefs xs
  | .agg cs => noRefs cs
  | .tup cs => noRefs cs
  | .sl _ _ xs => noRefs xs
  | .slt _ _ xs => noRefs xs
  | .fn _ a b => noRefs a && noRefs b
  | .ifc _ v => noRef v
  | .mpl cs => noRefs cs
  | .mref _ => false
  | .lit _ => true
  | .no => true
  | .und => true
def noRefs : List V → Bool
  | [] => true
  | x :: xs => noRef x && noRefs xs
end

/-- Whether a value may be an element of a frozen row. -/
def fzV (v : V) : Bool := okV v && noRef v

/-- 'row': the array behind a slice (which may still be nil: 'nilp'), else a variable (one element). Elements before 'floor' are shown by frozen values. -/
structure Box where
  live : Bool
  row : Bool
  nilp : Bool
  elem : TypeId
  esz : Nat
  xs : List V
  floor : Nat
  deriving Inhabited

abbrev Heap := List Box

/-- What is known of a type. -/
inductive Ty where
  | scalar
  | slice (elem : Nat)
  | array (len elem : Nat)
  | struct (fields : List (Nat × Nat))      -- offset, type
  | map (key elem : Nat)
  | other
  deriving Inhabited, DecidableEq

structure TI where
  ty : Ty
  size : Nat
  bytes : Nat
  zero : Option V
  deriving Inhabited

def TI.isAgg (i : TI) : Bool := match i.ty with | .struct _ | .array _ _ => true | _ => false

/-- The zero value is known, of the type's size, and may lie in memory. -/
def TI.zok (i : TI) : Bool := match i.zero with | some z => okV z && z.cells.length == i.size | none => false

def isInt : Value → Bool | .int _ _ => true | _ => false

/-- A scalar that holds no address. -/
def leaf : Value → Bool
  | .int k n => (Lit.int k n).wf
  | .bool _ => true
  | .string s => decide (s.size ≤ maxLen)
  | .pointer none => true
  | .map none => true
  | .nilFunc => true
  | .nilIface => true
  | _ => false

def ofCell : Value → V
  | .slice none 0 0 => .sl true 0 []
  | v => if leaf v then .lit v else .und

def cellOk : Value → Bool
  | .slice none 0 0 => true
  | v => leaf v

def ofConst : Value → V
  | .agg cs => if cs.toList.all cellOk then .agg (cs.toList.map ofCell) else .und
  | .tuple vs => if vs.isEmpty then .no else .und
  | v => if cellOk v then ofCell v else .und

def vundef : V := .no

def tyOf (d : TypeDesc) : Ty :=
  match d with
  | .bool | .int _ | .string | .pointer _ | .func _ _ _ | .interface _ => .scalar
  | .slice e => .slice e
  | .array n e => .array n e
  | .struct fs => .struct (fs.toList.map fun f => (f.offset, f.type))
  | .map k e => .map k e
  | _ => .other

def tiOf (P : Program) (t : TypeId) : Option TI :=
  match P.info? t, P.underlying t with
  | some i, some d => some { ty := tyOf d, size := i.size, bytes := i.bytes, zero := i.zero.map ofConst }
  | _, _ => none

/-- The kind of a cell of a flat type. -/
inductive FK where
  | b | i (k : IntKind) | s
  deriving DecidableEq

/-- What a cell becomes before a call sees it: a frozen value (a nil slice: an empty one of a type, its elements of so many cells); a slice of a whole row of its own; what it is. -/
inductive Fk where
  | s (e : TypeId) (sz : Nat)
  | own (e : TypeId) (sz : Nat)
  | keep
  | drop
/-- The boxes that a call sees, in the order in which they are found. -/
inductive Bf where
  | var (fl : List Fk)
  | row (fresh : Bool)

/-- What a call comes to that is given boxes. -/
structure HSpec where
  fa : List (List Fk)
  fb : List Bf
  run : List V → Heap → Option (V × Heap)

structure Env where
  P : Program
  ti : TypeId → Option TI
  func : FuncId → Option Func
  env : FuncId → Option (List V → Option V)
  glob : Nat → Option (List V)
  pure : FuncId → Bool
  flat : TypeId → Option (List FK)
  kind : TypeId → Option IntKind
  isStr : TypeId → Bool
  isBool : TypeId → Bool
  isBytes : TypeId → Bool
  calm : FuncId → Nat → Bool
  rows : TypeId → List Nat
  par : FuncId → List TypeId
  /-- Functions (of 'env') whose result is a slice with a row of its own: the type of its elements. -/
  own : FuncId → Option TypeId
  /-- Functions that are given boxes, by the functions among their arguments. -/
  hm : FuncId → List FuncId → Option HSpec
  /-- Whether what is called through a slot, in a region that draws its order, is a function of values. -/
  quiet : Bool := false
  /-- Functions that make a map of functions which are bound to what they are given. -/
  maps : FuncId → Option (List (Int × FuncId)) := fun _ => none

structure St where
  s : List V
  H : Heap

inductive Ex where
  | normal | ret | exit (id : Nat)


/-! ### operands and guards -/

def ev (E : Env) (s : List V) : Operand → V
  | .tmp t => s.getD t .und
  | .const v => ofConst v
  | .func f => .fn f [] []
  | .global g => match E.glob g with | some r => .ept r.length [.agg r] 0 0 | none => .und

/-- Whether a guarded operation runs: what its guard's slot holds must be known. -/
def guardD (v : V) (want : Bool) : Option Bool :=
  match v with
  | .lit (.bool b) => some (b == want)
  | .no => some false
  | _ => none

def setSlot (s : List V) (d : Option Tmp) (v : V) : List V := match d with | some t => s.set t v | none => s

/-! ### reading and writing memory -/

def boxAt (H : Heap) (id tot : Nat) : Option Box :=
  match H[id]? with
  | some b => if b.live && b.xs.length == tot then some b else none
  | none => none

def partOf (cs : List V) (off n : Nat) (isAgg : Bool) : Option V :=
  if isAgg then (if off + n ≤ cs.length then some (.agg ((cs.drop off).take n)) else none) else cs[off]?

def readAt (xs : List V) (i off n : Nat) (isAgg : Bool) : Option V :=
  match xs[i]? with
  | some x => partOf x.cells off n isAgg
  | none => none

/-- A leaf without references into boxes; what it stands for if it is a reference to a row. -/
def frz0 (H : Heap) : V → Option V
  | .lit v => some (.lit v)
  | .sl b e xs => some (.sl b e xs)
  | .slt b e xs => some (.sl false e xs)
  | .lsl id off len tot => match boxAt H id tot with
    | some b => if b.row && decide (off + len ≤ tot) then some (.sl false b.esz ((b.xs.drop off).take len)) else none
    | none => none
  | .fn f [] [] => some (.fn f [] [])
  | .ifc t (.lit v) => some (.ifc t (.lit v))
  | _ => none

def frzL (H : Heap) : List V → Option (List V)
  | [] => some []
  | v :: vs => match frz0 H v, frzL H vs with | some w, some ws => some (w :: ws) | _, _ => none

def frz (H : Heap) : V → Option V
  | .agg cs => (frzL H cs).map .agg
  | v => frz0 H v

def frzAll (H : Heap) : List V → Option (List V)
  | [] => some []
  | v :: vs => match frz H v, frzAll H vs with | some w, some ws => some (w :: ws) | _, _ => none

def frzT (H : Heap) : V → Option V
  | .tup vs => (frzAll H vs).map .tup
  | v => frz H v

/-- A slice that is surely nil is shown as an empty one, with elements of a known size. -/
def retype1 (e : Nat) : V → V
  | .sl true _ xs => .sl false e xs
  | v => v
def retypeL : List Nat → List V → List V
  | e :: es, v :: vs => retype1 e v :: retypeL es vs
  | [], vs => vs
  | _, [] => []
def retype (es : List Nat) : V → V
  | .agg cs => .agg (retypeL es cs)
  | v => retype1 (es.headD 0) v
def retypeAll (rows : TypeId → List Nat) : List TypeId → List V → List V
  | t :: ts, v :: vs => retype (rows t) v :: retypeAll rows ts vs
  | [], vs => vs
  | _, [] => []

def isPtrV : V → Bool | .ptr _ _ _ _ => true | _ => false
def maskC : V → V
  | .lit v => .lit v
  | .sl b e [] => .sl b e []
  | _ => .und
/-- What a call sees of a variable whose address it is given: its scalars and empty slices, to be looked at alone. -/
def showP (H : Heap) (v : V) : Option V :=
  match v with
  | .ptr id i off tot => if i = 0 ∧ off = 0 then (match boxAt H id tot with
      | some b => (match b.row, b.xs with
        | false, [.agg cs] => some (.ept b.esz [.agg (cs.map maskC)] 0 0)
        | false, [.lit z] => some (.ept b.esz [.lit z] 0 0)
        | _, _ => none)
      | none => none) else none
  | v => frz H v
def showAll (H : Heap) : List V → Option (List V)
  | [] => some []
  | v :: vs => match showP H v, showAll H vs with | some w, some ws => some (w :: ws) | _, _ => none
def isLitV : V → Bool | .lit _ => true | _ => false
def flat1 : V → Bool
  | .lit _ => true
  | .agg cs => cs.all isLitV
  | .sl _ _ [] => true
  | _ => false
def flatV : V → Bool
  | .tup vs => vs.all flat1
  | v => flat1 v

/-- The boxes of which a frozen value shows elements. -/
def ids1 : V → List Nat
  | .lsl id _ _ _ => [id]
  | _ => []
def idsA : V → List Nat
  | .agg cs => cs.flatMap ids1
  | v => ids1 v
def idsT : V → List Nat
  | .tup vs => vs.flatMap idsA
  | v => idsA v

def bump (H : Heap) : List Nat → Heap
  | [] => H
  | i :: is => bump (H.modify i fun b => { b with floor := b.xs.length }) is

/-- A new box: at the end, or where a place was kept for it. -/
def place (H : Heap) (k : Nat) (b : Box) : Heap := if k < H.length then H.set k b else H ++ [b]
def freeB (H : Heap) (k : Nat) : Bool := match H[k]? with | some b => !b.live && !b.row | none => k == H.length

/-- The elements of a slice. -/
def elemsOf (H : Heap) : V → Option (List V)
  | .sl _ _ xs => some xs
  | .slt _ _ xs => some xs
  | .lsl id off len tot => match boxAt H id tot with
    | some b => if b.row && decide (off + len ≤ tot) then some ((b.xs.drop off).take len) else none
    | none => none
  | .lit (.string s) => some (s.data.toList.map fun c => .lit (.int .u8 c.toNat))
  | _ => none

/-- Whether a slice's elements have so many cells (a nil slice: any number). -/
def eszIs (H : Heap) (x : V) (n : Nat) : Bool :=
  match x with
  | .sl b e _ => b || e == n
  | .slt b e _ => b || e == n
  | .lsl id _ _ tot => match boxAt H id tot with | some b => b.esz == n | none => false
  | _ => false

def lenOf (H : Heap) : V → Option Nat
  | .sl _ _ xs => some xs.length
  | .slt _ _ xs => some xs.length
  | .lsl id _ len tot => match boxAt H id tot with | some _ => some len | none => none
  | .lit (.string s) => some s.size
  | _ => none


/-! ### operations -/

def asLit : V → Option Value | .lit v => some v | _ => none
def intOf : V → Option Int | .lit (.int _ n) => some n | _ => none

def intOp (op : BinOp) (k : IntKind) (a b : Int) : Option Value :=
  match op with
  | .add => some (.int k (k.wrap (a + b)))
  | .sub => some (.int k (k.wrap (a - b)))
  | .mul => some (.int k (k.wrap (a * b)))
  | .quo => if b = 0 then none else some (.int k (k.wrap (a.tdiv b)))
  | .rem => if b = 0 then none else some (.int k (a.tmod b))
  | .and | .or | .xor | .andNot => some (.int k (bits op k a b))
  | .eql => some (.bool (a == b))
  | .neq => some (.bool (a != b))
  | .lss => some (.bool (decide (a < b)))
  | .leq => some (.bool (decide (a ≤ b)))
  | .gtr => some (.bool (decide (a > b)))
  | .geq => some (.bool (decide (a ≥ b)))
  | _ => none

def shiftOp (op : BinOp) (k : IntKind) (a b : Int) : Option Value :=
  if b < 0 then none else
  match op with
  | .shl => some (.int k (k.wrap (a * 2 ^ min b.toNat k.bits)))
  | .shr => some (.int k (a.fdiv (2 ^ min b.toNat k.bits)))
  | _ => none

def strOp (op : BinOp) (x y : ByteArray) : Option Value :=
  match op with
  | .add => if decide (x.size + y.size ≤ maxLen) then some (.string (x ++ y)) else none
  | .eql => some (.bool (x.toList == y.toList))
  | .neq => some (.bool !(x.toList == y.toList))
  | .lss => some (.bool (Op.bytesLess x.toList y.toList))
  | .leq => some (.bool (Op.bytesLess x.toList y.toList || x.toList == y.toList))
  | .gtr => some (.bool !(Op.bytesLess x.toList y.toList || x.toList == y.toList))
  | .geq => some (.bool !(Op.bytesLess x.toList y.toList))
  | _ => none

/-- Equality of two rows of cells of a flat type. -/
def eqCells : List FK → List V → List V → Option Bool
  | [], [], [] => some true
  | .b :: ks, .lit (.bool a) :: xs, .lit (.bool b) :: ys => match eqCells ks xs ys with | some r => some (a == b && r) | none => none
  | .i k :: ks, .lit (.int k1 a) :: xs, .lit (.int k2 b) :: ys => if k1 = k ∧ k2 = k then (match eqCells ks xs ys with | some r => some (a == b && r) | none => none) else none
  | .s :: ks, .lit (.string a) :: xs, .lit (.string b) :: ys => match eqCells ks xs ys with | some r => some (a == b && r) | none => none
  | _, _, _ => none

/-- The kinds of the cells of a type of scalars. -/
def fkFields (P : Program) (go : TypeId → Option (List FK)) : Nat → List Field → Option (List FK)
  | _, [] => some []
  | off, f :: fs =>
    if f.offset = off ∧ f.name != "_" then
      match go f.type with
      | some ks => if P.cellsOf f.type = ks.length then (match fkFields P go (off + ks.length) fs with | some rest => some (ks ++ rest) | none => none) else none
      | none => none
    else none

def fkOf (P : Program) : Nat → TypeId → Option (List FK)
  | 0, _ => none
  | d + 1, t =>
    match P.underlying t with
    | some .bool => some [.b]
    | some (.int k) => some [.i k]
    | some .string => some [.s]
    | some (.array n e) => match fkOf P d e with
      | some ks => if P.cellsOf e = ks.length ∧ P.cellsOf t = n * ks.length then some (List.replicate n ks).flatten else none
      | none => none
    | some (.struct fs) => match fkFields P (fkOf P d) 0 fs.toList with
      | some ks => if P.cellsOf t = ks.length then some ks else none
      | none => none
    | _ => none

def isNilV : V → Option Bool
  | .sl true _ _ => some true
  | .ptr _ _ _ _ => some false
  | .ept _ _ _ _ => some false
  | .fn _ _ _ => some false
  | .ifc _ _ => some false
  | .lit (.pointer none) => some true
  | .lit .nilFunc => some true
  | .lit .nilIface => some true
  | .lit (.map none) => some true
  | _ => none

def ptrT (E : Env) (t : TypeId) : Bool := match E.P.underlying t with | some (.pointer _) => true | _ => false
def binD (E : Env) (op : BinOp) (t : TypeId) (x y : V) : Option V :=
  match op, x, y with
  | .shl, .lit (.int k a), .lit (.int _ b) => (shiftOp .shl k a b).map .lit
  | .shr, .lit (.int k a), .lit (.int _ b) => (shiftOp .shr k a b).map .lit
  | op, .lit (.int k a), .lit (.int j b) => if k = j then (intOp op k a b).map .lit else none
  | op, .lit (.string a), .lit (.string b) => (strOp op a b).map V.lit
  | .eql, .lit (.bool a), .lit (.bool b) => if E.isBool t then some (.lit (.bool (a == b))) else none
  | .neq, .lit (.bool a), .lit (.bool b) => if E.isBool t then some (.lit (.bool (!(a == b)))) else none
  | .eql, .agg xs, .agg ys => match E.flat t with | some ks => (eqCells ks xs ys).map fun b => V.lit (.bool b) | none => none
  | .neq, .agg xs, .agg ys => match E.flat t with | some ks => (eqCells ks xs ys).map fun b => V.lit (.bool !b) | none => none
  | .eql, .lit (.pointer none), .lit (.pointer none) => if ptrT E t then some (.lit (.bool true)) else none
  | .neq, .lit (.pointer none), .lit (.pointer none) => if ptrT E t then some (.lit (.bool false)) else none
  | .eql, .ptr _ _ _ _, .lit (.pointer none) => if ptrT E t then some (.lit (.bool false)) else none
  | .neq, .ptr _ _ _ _, .lit (.pointer none) => if ptrT E t then some (.lit (.bool true)) else none
  | _, _, _ => none

def unD (op : UnOp) (x : V) : Option V :=
  match op, x with
  | .neg, .lit (.int k n) => some (.lit (.int k (k.wrap (0 - n))))
  | .xor, .lit (.int k n) => some (.lit (.int k (bits .xor k (if k.signed then -1 else k.max) n)))
  | .not, .lit (.bool b) => some (.lit (.bool !b))
  | _, _ => none

def fillV (cs : List V) : List (Nat × V) → (Nat → Option (Nat × Nat)) → Option (List V)
  | [], _ => some cs
  | (i, v) :: rest, place =>
    match place i with
    | none => none
    | some (off, size) => if v.cells.length == size && decide (off + size ≤ cs.length) && okV v then fillV (cs.take off ++ v.cells ++ cs.drop (off + size)) rest place else none

def placesOf (E : Env) (fs : List (Nat × Nat)) (i : Nat) : Option (Nat × Nat) :=
  match fs[i]? with
  | some (off, t) => match E.ti t with | some ti => some (off, ti.size) | none => none
  | none => none

def buildD (E : Env) (t : TypeId) (parts : List (Nat × V)) : Option V :=
  match E.ti t with
  | some i => match i.zero with
    | some z =>
      if okV z then
        match i.ty with
        | .struct fs => if fs.all fun x => (E.ti x.2).isSome then (fillV z.cells parts (placesOf E fs)).map .agg else none
        | .array _ e => match E.ti e with
          | some ei => (fillV z.cells parts (fun i => some (i * ei.size, ei.size))).map .agg
          | none => none
        | _ => none
      else none
    | none => none
  | none => none

/-- Elements of a slice literal: each a whole element. -/
def fillE (xs : List V) (size : Nat) : List (Nat × V) → Option (List V)
  | [] => some xs
  | (i, v) :: rest => if v.cells.length == size && decide (i < xs.length) && okV v then fillE (xs.set i v) size rest else none


/-! ### one operation -/

abbrev CallF := FuncId → List V → Heap → Option (V × Heap)

def newBox (row nilp : Bool) (elem : TypeId) (esz : Nat) (xs : List V) : Box := { live := true, row, nilp, elem, esz, xs, floor := 0 }

/-- The size of an element of a box. -/
def Env.size (E : Env) (t : TypeId) : Option Nat := (E.ti t).map (·.size)

def loadD (E : Env) (H : Heap) (t : TypeId) (a : V) : Option V :=
  match E.ti t with
  | none => none
  | some i =>
    match a with
    | .ept _ xs j off => readAt xs j off i.size i.isAgg
    | .ptr id j off tot => match boxAt H id tot with | some b => readAt b.xs j off i.size i.isAgg | none => none
    | _ => none

/-- The cells of an element with those from off on replaced. -/
def spliceV (x : V) (off : Nat) (cs : List V) : Option V :=
  match x with
  | .agg ds => if off + cs.length ≤ ds.length then some (.agg (ds.take off ++ cs ++ ds.drop (off + cs.length))) else none
  | _ => match off, cs with | 0, [c] => some c | _, _ => none

def storeD (E : Env) (H : Heap) (t : TypeId) (a v : V) : Option Heap :=
  match E.ti t with
  | none => none
  | some i =>
    match a with
    | .ptr id j off tot => match boxAt H id tot with
      | some b => match b.xs[j]? with
        | some x =>
          if v.cells.length == i.size && decide (b.floor ≤ j) && okV v then
            (if b.row then
              match frz H v with
              | some v' => match (spliceV x off v'.cells).map (retype (E.rows b.elem)) with
                | some x' => if (idsA v).contains id || !(okV v') || !(okV x') then none else some ((bump H (idsA v)).set id { b with xs := b.xs.set j x' })
                | none => none
              | none => none
             else match spliceV x off v.cells with
              | some x' => if okV x' then some (H.set id { b with xs := b.xs.set j x' }) else none
              | none => none)
          else none
        | none => none
      | none => none
    | _ => none

def lim : Nat := 140737488355328

def appendD (E : Env) (k : Nat) (H : Heap) (t u : TypeId) (s x : V) : Option (V × Heap) :=
  match E.ti t with
  | some ⟨.slice e, _, _, _⟩ =>
    match E.ti e, (u == t), elemsOf H x with
    | some ei, true, some ys =>
      if decide (0 < ei.size) && eszIs H x ei.size && ei.zok then
        match s with
        | .lsl id off len tot => match boxAt H id tot with
          | some b =>
            if b.row && b.elem == e && decide (off = 0) && decide (len = tot) && b.esz == ei.size then
              (if decide ((tot + ys.length) * ei.bytes ≤ lim) && decide (tot + ys.length ≤ maxLen) then
                some (.lsl id 0 (tot + ys.length) (tot + ys.length), H.set id { b with xs := b.xs ++ ys, nilp := b.nilp && ys.isEmpty })
               else none)
            else if b.row && b.elem == e && decide (off = 0) && b.esz == ei.size && decide (b.floor ≤ len) && decide (len < tot) && decide (len + ys.length ≤ tot) then
              some (.lsl id 0 (len + ys.length) tot, H.set id { b with xs := b.xs.take len ++ ys ++ b.xs.drop (len + ys.length) })
            else none
          | none => none
        | .sl true _ [] | .slt true _ [] =>
          (if decide (ys.length * ei.bytes ≤ lim) && decide (ys.length ≤ maxLen) then
            some (.lsl k 0 ys.length ys.length, place H k (newBox true false e ei.size ys))
           else none)
        | .slt false es xs =>
          (if es == ei.size && decide ((xs.length + ys.length) * ei.bytes ≤ lim) && decide (xs.length + ys.length ≤ maxLen) then
            (if ys.isEmpty then some (.slt false es xs, H)
             else some (.lsl k 0 (xs.length + ys.length) (xs.length + ys.length), place H k (newBox true false e ei.size (xs ++ ys))))
           else none)
        | _ => none
      else none
    | _, _, _ => none
  | _ => none

/-- What a map holds at a key: nothing, or a value. -/
def lookV (kd : IntKind) (n : Int) : List V → Option (Option V)
  | [] => some none
  | .lit (.int k a) :: v :: r => if k = kd then (if n = a then some (some v) else lookV kd n r) else none
  | _ => none
def lookD (E : Env) (t : TypeId) (ok : Bool) (m x : V) : Option V :=
  match E.ti t, m, x with
  | some ⟨.map k e, _, _, _⟩, .mpl kvs, .lit (.int kd n) =>
    if E.kind k = some kd then
      match lookV kd n kvs with
      | some (some v) => some (if ok then .tup [v, .lit (.bool true)] else v)
      | some none => match E.ti e with
        | some ei => ei.zero.map fun z => if ok then .tup [z, .lit (.bool false)] else z
        | none => none
      | none => none
    else none
  | _, _, _ => none

/-! Maps that change: the box of a map is not live, and is a row that is marked as nil; its elements are keys and values in turn. -/
def mapB (b : Box) : Bool := !b.live && (b.row && b.nilp)
def newMap (t : TypeId) : Box := { live := false, row := true, nilp := true, elem := t, esz := 0, xs := [], floor := 0 }
def lookH (E : Env) (H : Heap) (t : TypeId) (ok : Bool) (m x : V) : Option V :=
  match m with
  | .mref id => match H[id]? with
    | some b => if mapB b then lookD E t ok (.mpl b.xs) x else none
    | none => none
  | m => lookD E t ok m x
def setV (kd : IntKind) (n : Int) (y : V) : List V → Option (List V)
  | [] => some [.lit (.int kd n), y]
  | .lit (.int k a) :: v :: r => if k = kd then (if n = a then some (.lit (.int k a) :: y :: r) else (setV kd n y r).map fun q => .lit (.int k a) :: v :: q) else none
  | _ => none
def delV (kd : IntKind) (n : Int) : List V → Option (List V)
  | [] => some []
  | .lit (.int k a) :: v :: r => if k = kd then (if n = a then some r else (delV kd n r).map fun q => .lit (.int k a) :: v :: q) else none
  | _ => none
/-- A map's box with other keys and values. -/
def mapW (E : Env) (H : Heap) (t : TypeId) (m x : V) (f : IntKind → Int → List V → Option (List V)) : Option Heap :=
  match E.ti t, m, x with
  | some ⟨.map k _, _, _, _⟩, .mref id, .lit (.int kd n) =>
    if E.kind k = some kd ∧ (Lit.int kd n).wf = true then
      match H[id]? with
      | some b => if mapB b then (f kd n b.xs).map fun xs => H.set id { b with xs := xs } else none
      | none => none
    else none
  | _, _, _ => none
def mapUpD (E : Env) (H : Heap) (t : TypeId) (m x v : V) : Option Heap :=
  match frz H v with
  | some y => if fzV y then mapW E (bump H (idsA v)) t m x (fun kd n xs => setV kd n y xs) else none
  | none => none

/-- The first elements of a row are written over by those of a slice. -/
def copyD (E : Env) (H : Heap) (t u : TypeId) (d x : V) : Option (V × Heap) :=
  match E.ti t with
  | some ⟨.slice e, _, _, _⟩ =>
    match E.ti e, elemsOf H x, d with
    | some ei, some ys, .lsl id off len tot => match boxAt H id tot with
      | some b =>
        if b.row && decide (off = 0) && decide (len = tot) && b.esz == ei.size && eszIs H x ei.size && decide (b.floor = 0) then
          some (.lit (.int .i64 (min ys.length tot : Nat)), H.set id { b with xs := ys.take tot ++ b.xs.drop ys.length })
        else none
      | none => none
    | _, _, _ => none
  | _ => none

/-- A row's elements are made zero. -/
def clearD (E : Env) (H : Heap) (t : TypeId) (d : V) : Option Heap :=
  match E.ti t with
  | some ⟨.slice e, _, _, _⟩ =>
    match E.ti e, d with
    | some ei, .lsl id off len tot => match boxAt H id tot, ei.zero with
      | some b, some z =>
        if b.row && decide (off = 0) && decide (len = tot) && b.esz == ei.size && decide (b.floor = 0) && (decide (0 < ei.size) && z.cells.length == ei.size && okV z && decide (0 < len)) then
          some (H.set id { b with xs := List.replicate len (retype (E.rows e) z) })
        else none
      | _, _ => none
    | _, _ => none
  | _ => none

/-- The bounds of a slice expression. -/
def boundD (v : V) (hi : Nat) : Option Nat :=
  match v with
  | .lit (.int _ n) => if 0 ≤ n ∧ n ≤ hi then some n.toNat else none
  | _ => none

def optBound (x : Option V) (hi dflt : Nat) : Option Nat := match x with | some v => boundD v hi | none => some dflt

/-- Whether a slice expression's type fits its operand. -/
def sliceFits (E : Env) (H : Heap) (t : TypeId) (x : V) : Bool :=
  match x with
  | .lit (.string _) => E.isStr t
  | _ => match E.ti t with
    | some ⟨.slice e, _, _, _⟩ => match E.ti e with | some ei => eszIs H x ei.size | none => false
    | _ => false

def sliceD (E : Env) (H : Heap) (t : TypeId) (x : V) (lo hi mx : Option V) : Option (V × Heap) :=
  if sliceFits E H t x then
    match lenOf H x with
    | none => none
    | some n =>
      match optBound hi n n with
      | none => none
      | some h =>
        match optBound lo h 0 with
        | none => none
        | some l =>
          match mx with
          | some m =>
            (match hi, boundD m n, elemsOf H x, x with
             | some _, some k, some xs, .sl b e _ => if k = h then some (.slt false e ((xs.drop l).take (h - l)), H) else none
             | some _, some k, some xs, .slt b e _ => if k = h then some (.slt false e ((xs.drop l).take (h - l)), H) else none
             | some _, some k, some xs, .lsl id _ _ _ => if k = h then some (.slt false ((H.getD id default).esz) ((xs.drop l).take (h - l)), bump H [id]) else none
             | _, _, _, _ => none)
          | none =>
            match x with
            | .lit (.string s) => some (.lit (.string (s.extract l h)), H)
            | .sl b e xs => some (.sl b e ((xs.drop l).take (h - l)), H)
            | .slt b e xs => some (.sl b e ((xs.drop l).take (h - l)), H)
            | .lsl id off _ tot => some (.lsl id (off + l) (h - l) tot, H)
            | _ => none
  else none

/-- An array variable, or its first elements, as a slice: the variable is frozen. -/
def sliceA (E : Env) (H : Heap) (n : Nat) (e : TypeId) (x : V) (lo hi mx : Option V) : Option (V × Heap) :=
  match x, lo, optBound hi n n, mx with
  | .ptr id i off tot, none, some m, none => match boxAt H id tot with
    | some b => (match b.row, b.xs with
      | false, [.agg cs] => if i = 0 ∧ off = 0 ∧ cs.length = n ∧ n ≤ maxLen ∧ E.size e = some 1 ∧ cs.all isLitV = true then some (.sl false 1 (cs.take m), bump H [id]) else none
      | _, _ => none)
    | none => none
  | _, _, _, _ => none
/-- The first elements of a slice as an array, to be looked at. -/
def arrA (E : Env) (t : TypeId) (x : V) : Option V :=
  match E.ti t, x with
  | some ⟨.array n e, _, _, _⟩, .sl false sz xs => if E.size e = some 1 ∧ sz = 1 ∧ 0 < n ∧ n ≤ xs.length ∧ (xs.take n).all isLitV = true then some (.ept n [.agg (xs.take n)] 0 0) else none
  | _, _ => none

def indexAddrD (E : Env) (H : Heap) (t : TypeId) (x i : V) : Option V :=
  match i, E.ti t with
  | .lit (.int _ n), some ti =>
    match ti.ty, x with
    | .slice el, .sl _ e xs => if 0 ≤ n ∧ n < xs.length ∧ E.size el = some e then some (.ept e xs n.toNat 0) else none
    | .slice el, .slt _ e xs => if 0 ≤ n ∧ n < xs.length ∧ E.size el = some e then some (.ept e xs n.toNat 0) else none
    | .slice el, .lsl id off len tot => match boxAt H id tot with
      | some b => if 0 ≤ n ∧ n < len ∧ E.size el = some b.esz then some (.ptr id (off + n.toNat) 0 tot) else none
      | none => none
    | .array len e, .ptr id j off tot => match E.size e with
      | some sz => if 0 ≤ n ∧ n < len then some (.ptr id j (off + n.toNat * sz) tot) else none
      | none => none
    | .array len e, .ept d xs j off => match E.size e with
      | some sz => if 0 ≤ n ∧ n < len then some (.ept d xs j (off + n.toNat * sz)) else none
      | none => none
    | _, _ => none
  | _, _ => none

def fieldAddrD (E : Env) (s : TypeId) (x : V) (f : Nat) : Option V :=
  match E.ti s with
  | some ⟨.struct fs, _, _, _⟩ => match fs[f]? with
    | some (o, t) => match E.size t with
      | some sz => if sz = 0 then none else match x with
        | .ptr id j off tot => some (.ptr id j (off + o) tot)
        | .ept d xs j off => some (.ept d xs j (off + o))
        | _ => none
      | none => none
    | none => none
  | _ => none

def fieldD (E : Env) (s : TypeId) (x : V) (f : Nat) : Option V :=
  match E.ti s, x with
  | some ⟨.struct fs, _, _, _⟩, .agg cs => match fs[f]? with
    | some (o, t) => match E.ti t with | some i => partOf cs o i.size i.isAgg | none => none
    | none => none
  | _, _ => none

def indexD (E : Env) (t : TypeId) (x i : V) : Option V :=
  match i with
  | .lit (.int _ n) =>
    match E.ti t, x with
    | some ⟨.array len e, _, _, _⟩, .agg cs => match E.ti e with
      | some ei => if 0 ≤ n ∧ n < len then partOf cs (n.toNat * ei.size) ei.size ei.isAgg else none
      | none => none
    | some ⟨.scalar, _, _, _⟩, .lit (.string s) => if E.isStr t then (if 0 ≤ n then (s[n.toNat]?).map fun b => V.lit (.int .u8 b.toNat) else none) else none
    | _, _ => none
  | _ => none

def byteOf : V → Option UInt8
  | .lit (.int .u8 n) => some (UInt8.ofNat n.toNat)
  | _ => none
def bytesOf : List V → Option (List UInt8)
  | [] => some []
  | v :: vs => match byteOf v, bytesOf vs with | some b, some bs => some (b :: bs) | _, _ => none

def convD (E : Env) (H : Heap) (src dst : TypeId) (x : V) : Option (V × Heap) :=
  match x with
  | .lit (.int _ n) => match E.kind dst with
    | some k => if (E.ti src).isSome then some (.lit (.int k (k.wrap n)), H) else none
    | none => none
  | .lit (.string s) => if E.isStr src && E.isStr dst then some (.lit (.string s), H) else none
  | x => if E.isStr dst && E.isBytes src && eszIs H x 1 then
      match elemsOf H x with
      | some xs => match bytesOf xs with | some bs => if bs.length ≤ maxLen then some (.lit (.string ⟨bs.toArray⟩), H) else none | none => none
      | none => none
    else none

def bytesV (st : ByteArray) : List V := st.data.toList.map fun c => .lit (.int .u8 c.toNat)
/-- A string as bytes: a row of their own. -/
def convS (E : Env) (k : Nat) (H : Heap) (dst : TypeId) (x : V) : Option (V × Heap) :=
  match x, E.ti dst with
  | .lit (.string st), some ⟨.slice e, _, _, _⟩ => if E.size e = some 1 then some (.lsl k 0 st.size st.size, place H k (newBox true false e 1 (bytesV st))) else none
  | _, _ => none

def mm (isMax : Bool) (k : IntKind) : Int → List V → Option V
  | a, [] => some (.lit (.int k a))
  | a, .lit (.int j b) :: rest => if k = j then mm isMax k (if isMax then (if b > a then b else a) else (if b < a then b else a)) rest else none
  | _, _ => none

def minmax (isMax : Bool) : List V → Option V
  | .lit (.int k a) :: rest => mm isMax k a rest
  | _ => none

def evs (E : Env) (s : List V) (xs : Array Operand) : List V := xs.toList.map (ev E s)

def lenFits (E : Env) (t : TypeId) (x : V) : Bool :=
  match x with
  | .lit (.string s) => E.isStr t
  | _ => match E.ti t with | some ⟨.slice _, _, _, _⟩ => true | _ => false

def builtinD (E : Env) (k : Nat) (H : Heap) (s : List V) (b : Builtin) (args : List V) (tys : List TypeId) : Option (V × Heap) :=
  match b, args, tys with
  | .len, [x], [t] => if lenFits E t x then (lenOf H x).map fun n => (V.lit (.int .i64 n), H) else none
  | .append, [a, x], [t, u] => appendD E k H t u a x
  | .copy, [d, x], [t, u] => copyD E H t u d x
  | .delete, [m, x], [t, _] => (mapW E H t m x delV).map (.tup [], ·)
  | .clear, [x], [t] => (clearD E H t x).map (.tup [], ·)
  | .min, args, _ => (minmax false args).map (·, H)
  | .max, args, _ => (minmax true args).map (·, H)
  | _, _, _ => none

def buildSliceD (E : Env) (k : Nat) (H : Heap) (t : TypeId) (n : Nat) (parts : List (Nat × V)) : Option (V × Heap) :=
  match E.ti t with
  | some ⟨.slice e, _, _, _⟩ => match E.ti e with
    | some ei => match ei.zero, frzAll H (parts.map (·.2)) with
      | some z, some vs =>
        if n * ei.size ≤ 16777216 ∧ 0 < ei.size ∧ z.cells.length = ei.size ∧ okV z = true ∧ (n == 0 && !parts.isEmpty) = false then
          match fillE (List.replicate n (retype (E.rows e) z)) ei.size ((parts.map (·.1)).zip (vs.map (retype (E.rows e)))) with
          | some xs => some (.lsl k 0 n n, place (bump H ((parts.map (·.2)).flatMap idsA)) k (newBox true false e ei.size xs))
          | none => none
        else none
      | _, _ => none
    | none => none
  | _ => none

def opD (call : CallF) (E : Env) (k : Nat) (H : Heap) (s : List V) (o : Oper) : Option (V × Heap) :=
  match o.op with
  | .move x => some (ev E s x, H)
  | .assign (.const (.slice none 0 0)) => match E.ti o.type with
    | some ⟨.slice e, _, _, _⟩ => some (.lsl k 0 0 0, place H k (newBox true false e ((E.size e).getD 0) []))
    | _ => none
  | .assign x => some (ev E s x, H)
  | .pick c a b => match ev E s c with | .lit (.bool t) => some (if t then ev E s a else ev E s b, H) | _ => none
  | .alloc t => match E.ti t with
    | some i => match i.zero with | some z => if z.cells.length = i.size ∧ okV z = true then some (.ptr k 0 0 1, place H k (newBox false false t i.size [z])) else none | none => none
    | none => none
  | .box t x => match E.ti t with
    | some i => if (ev E s x).cells.length = i.size ∧ okV (ev E s x) = true then some (.ptr k 0 0 1, place H k (newBox false false t i.size [ev E s x])) else none
    | none => none
  | .build t parts => (buildD E t (parts.toList.map fun (i, x) => (i, ev E s x))).map (·, H)
  | .buildSlice t n parts => buildSliceD E k H t n (parts.toList.map fun (i, x) => (i, ev E s x))
  | .load t a => (loadD E H t (ev E s a)).map (·, H)
  | .store t a v => (storeD E H t (ev E s a) (ev E s v)).map (vundef, ·)
  | .nilCheck x => match isNilV (ev E s x) with | some false => some (ev E s x, H) | _ => none
  | .binOp op t x y _ => (binD E op t (ev E s x) (ev E s y)).map (·, H)
  | .unOp op _ x => (unD op (ev E s x)).map (·, H)
  | .convert src dst x => if E.isStr src && E.isBytes dst then convS E k H dst (ev E s x) else convD E H src dst (ev E s x)
  | .makeSlice t l c => match E.ti t, ev E s l, ev E s c with
    | some ⟨.slice e, _, _, _⟩, .lit (.int _ n), .lit (.int _ m) => match E.ti e with
      | some ei => match ei.zero with
        | some z => if 0 ≤ n ∧ n ≤ m ∧ m.toNat * ei.bytes ≤ lim ∧ m ≤ maxLen ∧ 0 < ei.size ∧ z.cells.length = ei.size ∧ okV z = true then
            some (.lsl k 0 n.toNat n.toNat, place H k (newBox true false e ei.size (List.replicate n.toNat (retype (E.rows e) z)))) else none
        | none => none
      | none => none
    | _, _, _ => none
  | .slice t x lo hi mx => match E.ti t with
    | some ⟨.array n e, _, _, _⟩ => sliceA E H n e (ev E s x) (lo.map (ev E s)) (hi.map (ev E s)) (mx.map (ev E s))
    | _ => sliceD E H t (ev E s x) (lo.map (ev E s)) (hi.map (ev E s)) (mx.map (ev E s))
  | .sliceToArrayPointer t x => (arrA E t (ev E s x)).map (·, H)
  | .fieldAddr t x f => (fieldAddrD E t (ev E s x) f).map (·, H)
  | .field t x f => (fieldD E t (ev E s x) f).map (·, H)
  | .indexAddr t x i => (indexAddrD E H t (ev E s x) (ev E s i)).map (·, H)
  | .index t x i => (indexD E t (ev E s x) (ev E s i)).map (·, H)
  | .extract x i => match ev E s x with | .tup vs => (vs[i]?).map (·, H) | _ => none
  | .lookup t m x ok => (lookH E H t ok (ev E s m) (ev E s x)).map (·, H)
  | .makeMap t none => match E.ti t with
    | some ⟨.map _ _, _, _, _⟩ => some (.mref k, place H k (newMap t))
    | _ => none
  | .makeMap t (some r) => match E.ti t, ev E s r with
    | some ⟨.map _ _, _, _, _⟩, .lit (.int _ _) => some (.mref k, place H k (newMap t))
    | _, _ => none
  | .mapUpdate t m x v => (mapUpD E H t (ev E s m) (ev E s x) (ev E s v)).map (vundef, ·)
  | .insert t m x v => (mapUpD E H t (ev E s m) (ev E s x) (ev E s v)).map (vundef, ·)
  | .makeFunc (.func f) first caps => some (.fn f (evs E s first) (evs E s caps), H)
  | .call c => match c.callee with
    | .builtin b => builtinD E k H s b (evs E s c.args) c.argTypes.toList
    | .value f => match ev E s f with
      | .fn g first caps => call g (first ++ evs E s c.args ++ caps) H
      | _ => none
    | _ => none
  | _ => none


/-! ### regions, code, calls -/

/-- What one operation of a region comes to, its guard looked at first. -/
def actD (call : CallF) (E : Env) (ops : Array Oper) (k : Nat) (o : Oper) (st : St) : Option (V × Heap) :=
  match o.guard with
  | none => opD call E k st.H st.s o
  | some (j, want) =>
    match (ops[j]?).bind (·.dst) with
    | none => none
    | some d => match guardD (st.s.getD d .und) want with
      | none => none
      | some false => some (vundef, st.H)
      | some true => opD call E k st.H st.s o

def stepAt (call : CallF) (E : Env) (ops : Array Oper) (k : Nat) (i : Nat) (st : St) : Option St :=
  match ops[i]? with
  | none => some st
  | some o => match actD call E ops k o st with
    | some (v, H) => some ⟨setSlot st.s o.dst v, H⟩
    | none => none

def stepD (call : CallF) (E : Env) (ops : Array Oper) (i : Nat) (st : St) : Option St := stepAt call E ops st.H.length i st

def opsD (call : CallF) (E : Env) (ops : Array Oper) : List Nat → St → Option St
  | [], st => some st
  | i :: rest, st => match stepD call E ops i st with
    | some st' => opsD call E ops rest st'
    | none => none

/-! ### regions that draw their order -/

/-- The boxes that a value names. -/
def ref1 : V → List Nat
  | .lsl id _ _ _ => [id]
  | .ptr id _ _ _ => [id]
  | .mref id => [id]
  | _ => []
def refsA : V → List Nat
  | .agg cs => cs.flatMap ref1
  | v => ref1 v
def refsV : V → List Nat
  | .agg cs => cs.flatMap ref1
  | .fn _ a b => (a ++ b).flatMap refsA
  | v => ref1 v
def isFnV : V → Bool | .fn _ _ _ => true | _ => false
/-- A function of values. -/
def valF (E : Env) (f : FuncId) : Bool := (E.pure f || (E.env f).isSome || (E.maps f).isSome) && (E.own f).isNone
def mkV (l : List (Int × FuncId)) (x : V) : V := .mpl (l.flatMap fun q => [.lit (.int .i64 q.1), .fn q.2 [x] []])
/-- A function of values, with what it has captured. -/
def quietV (E : Env) : V → Bool
  | .fn g a b => valF E g && (a ++ b).all (fun v => !isFnV v)
  | _ => false
def quietAt (E : Env) (s : List V) (o : Oper) : Bool :=
  match o.op with
  | .call c => (match c.callee with
    | .value (.tmp t) => !(E.quiet && o.type != 0) || quietV E (s.getD t .und)
    | _ => true)
  | _ => true
def refsO (E : Env) (s : List V) (o : Oper) : List Nat := o.op.operands.toList.flatMap fun x => refsV (ev E s x)

/-- s: looks at slots only. n: may look at boxes. f: a call that sees frozen values only. a: makes a box. c: a call that sees frozen values only, and may leave boxes. w: writes. -/
inductive Cls where
  | s | n | f | a | c | w
  deriving DecidableEq

/-- A function that is given no boxes, and may leave some. -/
def freeF (E : Env) (f : FuncId) : Bool := (E.maps f).isNone && (E.env f).isNone && !E.pure f && (match E.hm f [] with | some hs => hs.fb.isEmpty | none => false)
def Bf.isRow : Bf → Bool | .row _ => true | _ => false
/-- A function that is given no boxes but rows. -/
def rowF (E : Env) (f : FuncId) : Bool := (E.maps f).isNone && (E.env f).isNone && !E.pure f && (match E.hm f [] with | some hs => hs.fb.all Bf.isRow | none => false)

def clsOf (E : Env) (o : Oper) : Cls :=
  match o.op with
  | .move _ | .pick .. | .build .. | .binOp .. | .unOp .. | .field .. | .fieldAddr .. | .extract .. | .makeFunc .. | .index .. | .nilCheck _ | .sliceToArrayPointer .. => .s
  | .assign (.const (.slice none 0 0)) => .a
  | .assign _ => .s
  | .load .. | .indexAddr .. | .lookup .. => .n
  | .convert src dst _ => if E.isStr src && E.isBytes dst then .a else .n
  | .slice .. => .n
  | .alloc _ | .box .. | .buildSlice .. | .makeSlice .. => .a
  | .call c => match c.callee with
    | .builtin .len => .n
    | .builtin .min => .s
    | .builtin .max => .s
    | .value (.func f) => if valF E f then .f else if freeF E f then .c else .w
    | .value (.tmp _) => if E.quiet && o.type != 0 then .f else .w
    | _ => .w
  | _ => .w

/-- A call that is given rows. -/
def rowC (E : Env) (o : Oper) : Bool := match o.op with
  | .call c => (match c.callee with | .value (.func f) => !valF E f && (!freeF E f && rowF E f) | _ => false)
  | _ => false
def isAl (o : Oper) : Bool := match o.op with | .alloc _ => true | _ => false
def isLd (o : Oper) : Bool := match o.op with | .load .. => true | _ => false
def isApp (o : Oper) : Bool := match o.op with | .call c => (match c.callee with | .builtin .append => true | _ => false) | _ => false
def capC (E : Env) (o : Oper) : Bool := decide (clsOf E o = .c) || rowC E o

/-- Whether two operations that no edge orders may change places. -/
def compat : Cls → Cls → Bool
  | .w, .s => true
  | .s, .w => true
  | .w, _ => false
  | _, .w => false
  | .c, .c => false
  | _, _ => true

/-- What must have run before each operation, as bits. -/
def maskOf (acc : List Nat) (o : Oper) : Nat :=
  o.after.toList.foldl (fun m e => if Region.binds .any e then m ||| (1 <<< e.on) ||| acc.getD e.on 0 else m) 0
def masksD : List Nat → List Oper → List Nat
  | acc, [] => acc
  | acc, o :: os => masksD (acc ++ [maskOf acc o]) os

def mayPass (E : Env) (ops : Array Oper) (x y : Oper) : Bool := (compat (clsOf E x) (clsOf E y) || (rowC E x && isAl y || rowC E y && isAl x) || (isApp x && isLd y || isApp y && isLd x)) && x.apart ops y

/-- What names the box that a store, or an append, writes. -/
def writesAt (o : Oper) : Option Operand :=
  match o.op with
  | .store _ a _ => some a
  | .call c => (match c.callee, c.args.toList with
    | .builtin .append, [a, _] => some a
    | _, _ => none)
  | _ => none
def prodOf (ops : Array Oper) (d : Tmp) : Option Nat := (List.range ops.size).find? fun j => match ops[j]? with | some oj => oj.dst == some d | none => false
/-- Where a reference comes from: a box that an operation of the same region makes, or a slot that the region does not set. -/
def rootOf (E : Env) (ops : Array Oper) : Nat → Tmp → Option (Nat ⊕ Nat)
  | 0, _ => none
  | n + 1, d => match prodOf ops d with
    | none => some (.inr d)
    | some j => match ops[j]? with
      | none => none
      | some oj => if clsOf E oj = .a then some (.inl j) else match oj.op with
        | .fieldAddr _ (.tmp e) _ => rootOf E ops n e
        | .nilCheck (.tmp e) => rootOf E ops n e
        | .move (.tmp e) => rootOf E ops n e
        | .indexAddr _ (.tmp e) _ => rootOf E ops n e
        | .call _ => (match writesAt oj with | some (.tmp e) => rootOf E ops n e | _ => none)
        | _ => none
/-- A store, or an append, to a box that an operation of the same region makes, or that a slot names. -/
def tgtOf (E : Env) (ops : Array Oper) (o : Oper) : Option (Nat ⊕ Nat) :=
  match o.guard, writesAt o with
  | none, some (.tmp d) => rootOf E ops 12 d
  | _, _ => none
def needs (E : Env) (o : Oper) : Bool := match clsOf E o with | .n => true | .f => true | .a => true | .c => true | _ => false
def linked (ms : List Nat) (x y : Nat) : Bool := (ms.getD x 0).testBit y || (ms.getD y 0).testBit x
/-- The stores of a region that something passes which is not ordered with them. -/
def lates (E : Env) (ops : Array Oper) : List (Nat × (Nat ⊕ Nat)) :=
  let ms := masksD [] ops.toList
  (List.range ops.size).filterMap fun x => match ops[x]? with
    | some ox => (match tgtOf E ops ox with
      | some t => if (List.range ops.size).any (fun y => !linked ms x y && (match ops[y]? with | some oy => needs E oy | none => false)) then some (x, t) else none
      | none => none)
    | none => none
def tgtNo (base : Nat) (s0 : List V) : Nat ⊕ Nat → Option Nat
  | .inl j => some (base + j)
  | .inr d => match s0.getD d .und with | .ptr id _ _ _ => some id | .lsl id _ _ _ => some id | _ => none
def addrOf (E : Env) (s : List V) (o : Oper) : V := match writesAt o with | some a => ev E s a | _ => .no
/-- The box that a load reads. -/
def ldNo (E : Env) (ops : Array Oper) (base : Nat) (s0 : List V) (o : Oper) : Option Nat := match o.op with
  | .load _ (.tmp d) => (rootOf E ops 12 d).bind (tgtNo base s0)
  | _ => none
/-- An append and a load that no edge orders: not at one box. -/
def appLd (E : Env) (ops : Array Oper) (ms : List Nat) (lt : List (Nat × (Nat ⊕ Nat))) (s0 : List V) (base i : Nat) (s : List V) (o : Oper) : Bool :=
  (List.range ops.size).all fun j => match ops[j]? with
    | none => true
    | some oj => linked ms i j || ((!(isApp o && isLd oj) || (lt.any (fun p => p.1 == i) || (match ldNo E ops base s0 oj, addrOf E s o with | some n, .lsl id _ _ _ => id != n | some n, .sl _ _ _ => decide (n < base) | _, _ => false))) &&
        (!(isLd o && isApp oj) || (lt.any (fun p => p.1 == j) || (match ldNo E ops base s0 o with | some n => (refsO E s o).all (fun i => i == n) | none => false))))
def lateAt (H : Heap) (a : V) (k : Nat) : Bool := match a with
  | .ptr id _ _ tot => id == k && (match boxAt H id tot with | some b => !b.row | none => false)
  | .lsl id _ _ _ => id == k && (match H[id]? with | some b => b.row | none => false)
  | _ => false
def lateD (E : Env) (ms : List Nat) (lt : List (Nat × (Nat ⊕ Nat))) (s0 : List V) (base i : Nat) (s : List V) (H : Heap) (o : Oper) : Bool :=
  lt.all fun p => match tgtNo base s0 p.2 with
    | none => false
    | some k => if p.1 = i then lateAt H (addrOf E s o) k else !needs E o || (linked ms p.1 i || !(refsO E s o).contains k)
/-- Such a store and an operation that does not know the box. -/
def latePass (E : Env) (ops : Array Oper) (lt : List (Nat × (Nat ⊕ Nat))) (x : Nat) (ox oy : Oper) : Bool :=
  ox.apart ops oy && (needs E oy && lt.any fun p => p.1 == x)

/-- Whether a region that draws its order may be run in its own order. -/
def drawOK (E : Env) (ops : Array Oper) : Bool :=
  let ms := masksD [] ops.toList
  (List.range ops.size).all fun y => match ops[y]? with
    | some oy => oy.after.all (fun e => !Region.binds .any e || decide (e.on < y)) &&
      (List.range y).all fun x => (ms.getD y 0).testBit x || (match ops[x]? with | some ox => mayPass E ops ox oy || (latePass E ops (lates E ops) x ox oy || latePass E ops (lates E ops) y oy ox) | none => true)
    | none => true

def calmC (E : Env) (f : FuncId) : Code → Bool
  | .region id ops true => !E.calm f id || drawOK E ops
  | .seq a b => calmC E f a && calmC E f b
  | .cond _ a b => calmC E f a && calmC E f b
  | .block _ b => calmC E f b
  | .loop b => calmC E f b
  | .scope b => calmC E f b
  | _ => true

/-- A row that was given away. -/
def goneBox : Box := { live := false, row := true, nilp := false, elem := 0, esz := 0, xs := [], floor := 0 }
def deadBox : Box := { live := false, row := false, nilp := false, elem := 0, esz := 0, xs := [], floor := 0 }

/-- Whether no call that may leave boxes is unordered with an operation. -/
def freeAt (E : Env) (ops : Array Oper) (ms : List Nat) (i : Nat) : Bool :=
  (List.range ops.size).all fun j => j == i || (linked ms i j || (match ops[j]? with | some oj => !decide (clsOf E oj = .c) | none => true))

/-- The places that are kept for variables hold no rows. -/
def alOK (ops : Array Oper) (base : Nat) (H : Heap) : Bool :=
  (List.range ops.size).all fun j => match ops[j]? with | some oj => !isAl oj || (match H[base + j]? with | some b => !b.row | none => false) | none => true

/-- One operation of such a region: new boxes lie at places that were kept for them, and what no edge orders ahead is not seen. -/
def stepR (call : CallF) (E : Env) (ops : Array Oper) (ms : List Nat) (lt : List (Nat × (Nat ⊕ Nat))) (s0 : List V) (base m : Nat) (i : Nat) (st : St) : Option St :=
  match ops[i]? with
  | none => some st
  | some o =>
    if ((refsO E st.s o).all fun id => decide (id < base) || (decide (base + m ≤ id) && freeAt E ops ms i) || (decide (id < base + m) && (ms.getD i 0).testBit (id - base))) && (quietAt E st.s o && appLd E ops ms lt s0 base i st.s o) && (lateD E ms lt s0 base i st.s st.H o && (!capC E o || (decide (base + m ≤ st.H.length) && (!rowC E o || alOK ops base st.H)))) then
      (if clsOf E o = .a then
        match st.H[base + i]? with
        | some b => if b.live || b.row then none else stepAt call E ops (base + i) i st
        | none => none
       else stepAt call E ops st.H.length i st)
    else none

def stepsR (call : CallF) (E : Env) (ops : Array Oper) (ms : List Nat) (lt : List (Nat × (Nat ⊕ Nat))) (s0 : List V) (base m : Nat) : List Nat → St → Option St
  | [], st => some st
  | i :: rest, st => match stepR call E ops ms lt s0 base m i st with
    | some st' => stepsR call E ops ms lt s0 base m rest st'
    | none => none

def drawD (call : CallF) (E : Env) (ops : Array Oper) (st : St) : Option St :=
  let m := if ops.any (fun o => decide (clsOf E o = .a)) then ops.size else 0
  stepsR call E ops (masksD [] ops.toList) (lates E ops) st.s st.H.length m (List.range ops.size) ⟨st.s, st.H ++ List.replicate m deadBox⟩

def codeD (call : CallF) (lp : Code → St → Option (Ex × St)) (E : Env) (f : FuncId) : Code → St → Option (Ex × St)
  | .skip, st => some (.normal, st)
  | .region _ ops false, st => (opsD call E ops (List.range ops.size) st).map (.normal, ·)
  | .region id ops true, st => if E.calm f id then (drawD call E ops st).map (.normal, ·) else none
  | .seq a b, st => match codeD call lp E f a st with
    | some (.normal, st') => codeD call lp E f b st'
    | r => r
  | .cond c a b, st => match ev E st.s c with
    | .lit (.bool t) => if t then codeD call lp E f a st else codeD call lp E f b st
    | _ => none
  | .block id b, st => match codeD call lp E f b st with
    | some (.exit i, st') => if i = id then some (.normal, st') else some (.exit i, st')
    | r => r
  | .loop b, st => lp b st
  | .scope b, st => codeD call lp E f b st
  | .label _, st => some (.normal, st)
  | .exit id, st => some (.exit id, st)
  | .ret, st => some (.ret, st)
  | _, _ => none

def loopD (call : CallF) (E : Env) (f : FuncId) : Nat → Code → St → Option (Ex × St)
  | 0, _, _ => none
  | n + 1, b, st => match codeD call (loopD call E f n) E f b st with
    | some (.normal, st') => loopD call E f n b st'
    | r => r

def resD (E : Env) (H : Heap) (s : List V) : ResultVar → Option V
  | .tmp t => some (s.getD t .und)
  | .cell a t => loadD E H t (s.getD a .und)

def resultsD (E : Env) (H : Heap) (s : List V) (rs : List ResultVar) : Option V :=
  match rs.mapM (resD E H s) with
  | some [v] => some v
  | some vs => some (.tup vs)
  | none => none

def bodyD (call : CallF) (n : Nat) (E : Env) (f : FuncId) (fn : Func) (args : List V) (H : Heap) : Option (V × Heap) :=
  match fn.body with
  | none => none
  | some c => match codeD call (loopD call E f n) E f c ⟨args ++ List.replicate (fn.ntmps - args.length) vundef, H⟩ with
    | some (.normal, st) | some (.ret, st) => (resultsD E st.H st.s fn.results.toList).map (·, st.H)
    | _ => none

/-! ### calls that are given boxes -/

mutual
def refsF : V → List Nat
  | .lsl id _ _ _ => [id]
  | .ptr id _ _ _ => [id]
  | .agg cs => refsFs cs
  | .tup cs => refsFs cs
  | .fn _ a b => refsFs a ++ refsFs b
  | .ifc _ v => refsF v
  | .mpl cs => refsFs cs
  | .mref id => [id]
  | _ => []
def refsFs : List V → List Nat
  | [] => []
  | x :: xs => refsF x ++ refsFs xs
end

mutual
def renF (ρ : Nat → Nat) : V → V
  | .lsl id off len tot => .lsl (ρ id) off len tot
  | .ptr id i off tot => .ptr (ρ id) i off tot
  | .agg cs => .agg (renFs ρ cs)
  | .tup cs => .tup (renFs ρ cs)
  | .fn f a b => .fn f (renFs ρ a) (renFs ρ b)
  | .ifc t v => .ifc t (renF ρ v)
  | .mpl cs => .mpl (renFs ρ cs)
  | .mref id => .mref (ρ id)
  | v => v
def renFs (ρ : Nat → Nat) : List V → List V
  | [] => []
  | x :: xs => renF ρ x :: renFs ρ xs
end

def prepO (e : TypeId) (sz : Nat) (H : Heap) (x : V) : Option (V × Heap) :=
  match x with
  | .sl true _ [] => some (.lsl H.length 0 0 0, H ++ [newBox true false e sz []])
  | .slt true _ [] => some (.lsl H.length 0 0 0, H ++ [newBox true false e sz []])
  | .lsl id off len tot => if off = 0 ∧ len = tot then some (.lsl id off len tot, H) else none
  | _ => none
def prep1 : Fk → Heap → V → Option (V × Heap)
  | .s _ sz, H, x => (frz0 H x).map fun y => (retype1 sz y, bump H (ids1 x))
  | .own e sz, H, x => prepO e sz H x
  | .keep, H, x => some (x, H)
  | .drop, H, _ => some (.und, H)
def prepL : List Fk → Heap → List V → Option (List V × Heap)
  | [], H, [] => some ([], H)
  | f :: fs, H, x :: xs => match prep1 f H x with
    | some (y, H1) => match prepL fs H1 xs with
      | some (ys, H2) => some (y :: ys, H2)
      | none => none
    | none => none
  | _, _, _ => none
def prepV (fl : List Fk) (H : Heap) (x : V) : Option (V × Heap) :=
  match x with
  | .agg cs => (prepL fl H cs).map fun r => (.agg r.1, r.2)
  | x => match fl with
    | [f] => prep1 f H x
    | _ => none
def prepA : List (List Fk) → Heap → List V → Option (List V × Heap)
  | [], H, [] => some ([], H)
  | f :: fs, H, x :: xs => match prepV f H x with
    | some (y, H1) => match prepA fs H1 xs with
      | some (ys, H2) => some (y :: ys, H2)
      | none => none
    | none => none
  | _, _, _ => none

/-- The boxes that are reached, each made ready. -/
def packH : Nat → List Bf → Heap → List Nat → List Nat → Option (Heap × List Nat)
  | 0, _, _, _, _ => none
  | _ + 1, _, H, [], seen => some (H, seen)
  | n + 1, fb, H, id :: todo, seen =>
    if seen.contains id then packH n fb H todo seen else
    match H[id]?, fb with
    | some b, .row fresh :: fb' => if b.live && b.row then packH n fb' (if fresh then H else bump H [id]) todo (seen ++ [id]) else none
    | some b, .var fl :: fb' => if b.live && !b.row then
        (match b.xs with
         | [x] => match prepV fl H x with
           | some (y, H1) => (match H1[id]? with
             | some b1 => if okV y then packH n fb' (H1.set id { b1 with xs := [y] }) (todo ++ refsF y) (seen ++ [id]) else none
             | none => none)
           | none => none
         | _ => none)
       else none
    | _, _ => none

def renBox (ρ : Nat → Nat) (b : Box) : Box := if b.row then b else { b with xs := renFs ρ b.xs }
def subH (H : Heap) (ids : List Nat) : Heap := ids.map fun id => renBox (ids.idxOf ·) ((H[id]?).getD deadBox)

def pack (fa : List (List Fk)) (fb : List Bf) (k : Nat) (args : List V) (H : Heap) : Option (List Nat × List V × Heap) :=
  match prepA fa H args with
  | some (as, H1) => match packH 1000 fb H1 (List.range k ++ refsFs as) [] with
    | some (H2, ids) => some (ids, as, H2)
    | none => none
  | none => none

def backN (ids : List Nat) (n j : Nat) : Nat := if j < ids.length then ids.getD j 0 else n + (j - ids.length)
def putB : Heap → List Nat → Heap → Heap
  | H, [], bs => H ++ bs
  | H, id :: ids, b :: bs => putB (H.set id b) ids bs
  | H, _ :: _, [] => H
def putBack (H : Heap) (ids : List Nat) (H3 : Heap) : Heap := putB H ids (H3.map (renBox (backN ids H.length)))

def callH (hs : HSpec) (args : List V) (H : Heap) : Option (V × Heap) :=
  match pack hs.fa hs.fb 0 args H with
  | some (ids, as, H2) => match hs.run (renFs (ids.idxOf ·) as) (subH H2 ids) with
    | some (r, H3) => if ids.length ≤ H3.length then some (renF (backN ids H2.length) r, putBack H2 ids H3) else none
    | none => none
  | none => none

def fnKey : List V → List FuncId
  | [] => []
  | .fn f _ _ :: vs => f :: fnKey vs
  | _ :: vs => fnKey vs

/-- What is left at the end of a call that is given k boxes: its results, the boxes. -/
def exitV (fa : List (List Fk)) (fb : List Bf) (k : Nat) (r0 : V) (H : Heap) : Option (V × Heap) :=
  match r0 with
  | .tup vs => match pack fa fb k vs H with
    | some (ids, as, H2) => if ids.take k = List.range k then some (.tup (renFs (ids.idxOf ·) as), subH H2 ids) else none
    | none => none
  | v => match pack fa fb k [v] H with
    | some (ids, [a], H2) => if ids.take k = List.range k then some (renF (ids.idxOf ·) a, subH H2 ids) else none
    | _ => none

def callD (E : Env) : Nat → CallF
  | 0, _, _, _ => none
  | n + 1, f, args, H =>
    match E.maps f with
    | some l => (match args with | [x] => if (idsA x).isEmpty then some (mkV l x, H) else none | _ => none)
    | none =>
    match E.env f with
    | some F => if args.any isPtrV then (match E.own f, showAll H args with
        | none, some as => (match F (retypeAll E.rows (E.par f) as) with
          | some r => if flatV r then some (r, bump H (args.flatMap idsA)) else none
          | none => none)
        | _, _ => none)
      else match frzAll H args with
      | some as => (match E.own f with
        | none => (F (retypeAll E.rows (E.par f) as)).map (·, bump H (args.flatMap idsA))
        | some e => match F (retypeAll E.rows (E.par f) as) with
          | some (.sl false sz xs) => some (.lsl H.length 0 xs.length xs.length, place (bump H (args.flatMap idsA)) H.length (newBox true false e sz xs))
          | _ => none)
      | none => none
    | none =>
      if E.pure f then
        match E.func f with
        | none => none
        | some fn => match frzAll H args with
          | some as => match bodyD (callD E n) n E f fn as [] with
            | some (r, H') => (frzT H' r).map (·, bump H (args.flatMap idsA))
            | none => none
          | none => none
      else match E.hm f (if rowF E f then [] else fnKey args) with
        | some hs => callH hs args H
        | none => match E.func f with
          | none => none
          | some fn => bodyD (callD E n) n E f fn args H


/-! ### the plain environment of a program -/

/-- Whether values of a type can be compared cell by cell, and the kinds of the cells. -/
def flatOf (P : Program) (t : TypeId) : Option (List FK) :=
  match P.underlying t with
  | some (.struct _) | some (.array _ _) => if P.keyTypeAt 20 t && !P.eqGuardType P.depth t then fkOf P 20 t else none
  | _ => none

/-- Of each cell of a type the size of the elements, if it holds a slice. -/
def rowsG (P : Program) : Nat → TypeId → List Nat
  | 0, _ => []
  | d + 1, t => match P.underlying t with
    | some (.slice e) => [P.cellsOf e]
    | some (.struct fs) => fs.toList.flatMap fun f => rowsG P d f.type
    | some (.array n e) => (List.replicate n (rowsG P d e)).flatten
    | _ => [0]
def rowsOf (P : Program) (t : TypeId) : List Nat := rowsG P 20 t

def plainEnv (P : Program) (pure : FuncId → Bool) (env : FuncId → Option (List V → Option V)) : Env where
  P := P
  ti := tiOf P
  func := fun f => P.funcs[f]?
  env := env
  glob := fun _ => none
  pure := pure
  flat := flatOf P
  kind := fun t => match P.underlying t with | some (.int k) => some k | _ => none
  isStr := fun t => P.underlying t matches some .string
  isBool := fun t => P.underlying t matches some .bool
  isBytes := fun t => match P.underlying t with | some (.slice e) => (P.underlying e matches some (.int .u8)) | _ => false
  calm := fun _ _ => true
  rows := rowsOf P
  par := fun f => match P.funcs[f]? with | some fn => fn.params.toList | none => []
  own := fun _ => none
  hm := fun _ _ => none

end Go.Proofs.YtpikcdlhgiooaaaGreat.Le

/-
  An evaluator for the model's code over pure values: how its values and boxes stand to the model's world.
-/
namespace Go.Proofs.YtpikcdlhgiooaaaGreat.Le
set_option linter.unusedVariables false
open Go.RowKit (Below)

/-- Where a box lies: the slice value that covers it, how many elements, cells an element. -/
structure Loc where
  v : Value
  tot : Nat
  esz : Nat

structure Sg where
  box : Nat → Option Loc
  fz : Nat → Nat → Prop
  mp : Nat → Option Nat        -- the blocks of the maps that change

def flat (us : List Value) : List Value := us.flatMap fun u => u.cells.toList

/-- The cells of the elements us lie from offset o of block b on, and are frozen. -/
def Lies (σ : Sg) (w : World) (b o : Nat) (us : List Value) : Prop :=
  ∀ j u, (flat us)[j]? = some u → σ.fz b (o + j) ∧ w.cell? ⟨b, o + j, none⟩ = some u

def isSub (L : Value) (esz off len : Nat) (v : Value) : Prop :=
  ∃ a n c k, L = .slice a n c ∧ v = .slice (a.map (·.add (k * esz))) len (c - off) ∧ off ≤ c ∧ k ≤ off ∧ (off < c → k = off)

inductive Reps (σ : Sg) (w : World) : List V → List Value → Prop where
  | nil : Reps σ w [] []
  | und (u : Value) {xs vs} : Reps σ w xs vs → Reps σ w (.und :: xs) (u :: vs)
  | no {xs vs} : Reps σ w xs vs → Reps σ w (.no :: xs) (undef :: vs)
  | lit {v : Value} {xs vs} : leaf v = true → Reps σ w xs vs → Reps σ w (.lit v :: xs) (v :: vs)
  | agg {cs ws xs vs} : Reps σ w cs ws → (∀ u ∈ ws, u.oneCell' = true) → Reps σ w xs vs → Reps σ w (.agg cs :: xs) (.agg ws.toArray :: vs)
  | tup {cs ws xs vs} : Reps σ w cs ws → Reps σ w xs vs → Reps σ w (.tup cs :: xs) (.tuple ws.toArray :: vs)
  | slnil {b e xs vs} : Reps σ w xs vs → Reps σ w (.sl b e [] :: xs) (.slice none 0 0 :: vs)
  | slemp {e xs vs} (a : Addr) : Reps σ w xs vs → Reps σ w (.sl false e [] :: xs) (.slice (some a) 0 0 :: vs)
  | sltemp {e xs vs} (a : Addr) : Reps σ w xs vs → Reps σ w (.slt false e [] :: xs) (.slice (some a) 0 0 :: vs)
  | sltnil {b e xs vs} : Reps σ w xs vs → Reps σ w (.slt b e [] :: xs) (.slice none 0 0 :: vs)
  | sl {es us xs vs} (b o c e : Nat) : Reps σ w es us → (∀ x ∈ es, fzV x = true) → (∀ u ∈ us, u.cells.size = e) → (∀ u ∈ flat us, u.oneCell' = true) → es.length ≤ c → c ≤ maxLen → Lies σ w b o us → Reps σ w xs vs →
      Reps σ w (.sl false e es :: xs) (.slice (some ⟨b, o, none⟩) es.length c :: vs)
  | slt {es us xs vs} (b o e : Nat) : Reps σ w es us → (∀ x ∈ es, fzV x = true) → (∀ u ∈ us, u.cells.size = e) → (∀ u ∈ flat us, u.oneCell' = true) → es.length ≤ maxLen → Lies σ w b o us → Reps σ w xs vs →
      Reps σ w (.slt false e es :: xs) (.slice (some ⟨b, o, none⟩) es.length es.length :: vs)
  | lsl {id off len tot L v xs vs} : σ.box id = some L → tot ≤ L.tot → (L.tot = tot → off + len ≤ tot ∧ isSub L.v L.esz off len v) → (∃ a n c, v = .slice a n c) → Reps σ w xs vs →
      Reps σ w (.lsl id off len tot :: xs) (v :: vs)
  | ptr {id i off tot L v xs vs} (g : Nat) : σ.box id = some L → tot ≤ L.tot → (L.tot = tot → ∃ n c, L.v = .slice (some ⟨g, 0, none⟩) n c) → v = .pointer (some ⟨g, i * L.esz + off, none⟩) → Reps σ w xs vs →
      Reps σ w (.ptr id i off tot :: xs) (v :: vs)
  | ept {es us xs vs} (b o e i off : Nat) : Reps σ w es us → (∀ x ∈ es, fzV x = true) → (∀ u ∈ us, u.cells.size = e) → (∀ u ∈ flat us, u.oneCell' = true) → Lies σ w b o us → Reps σ w xs vs →
      Reps σ w (.ept e es i off :: xs) (.pointer (some ⟨b, o + i * e + off, none⟩) :: vs)
  | fn {f first caps us ws xs vs} : Reps σ w first us → Reps σ w caps ws → Reps σ w xs vs → Reps σ w (.fn f first caps :: xs) (.func (.func f) us.toArray ws.toArray :: vs)
  | ifc {t x u xs vs} : Reps σ w [x] [u] → Reps σ w xs vs → Reps σ w (.ifc t x :: xs) (.iface t u :: vs)
  | mref {id xs vs} (g : Nat) : σ.mp id = some g → Reps σ w xs vs → Reps σ w (.mref id :: xs) (.map (some g) :: vs)

/-- The maps that change keep their names. -/
def Mapk (σ σ' : Sg) : Prop := ∀ id g, σ.mp id = some g → σ'.mp id = some g
theorem Mapk.same {σ σ' : Sg} (h : σ'.mp = σ.mp) : Mapk σ σ' := fun id g hg => by rw [h]; exact hg
theorem Mapk.refl (σ : Sg) : Mapk σ σ := fun _ _ h => h
theorem Mapk.trans {σ σ' σ'' : Sg} (h : Mapk σ σ') (k : Mapk σ' σ'') : Mapk σ σ'' := fun id g hg => k id g (h id g hg)

/-- What may turn from one state to the next. -/
structure Ext (σ : Sg) (w : World) (σ' : Sg) (w' : World) : Prop where
  box : ∀ id L, σ.box id = some L → ∃ L', σ'.box id = some L' ∧ L'.esz = L.esz ∧ (L' = L ∨ L.tot < L'.tot)
  fz : ∀ b c, σ.fz b c → σ'.fz b c ∧ w'.cell? ⟨b, c, none⟩ = w.cell? ⟨b, c, none⟩
  mp : Mapk σ σ'

theorem Ext.refl (σ : Sg) (w : World) : Ext σ w σ w := ⟨fun id L h => ⟨L, h, rfl, .inl rfl⟩, fun b c h => ⟨h, rfl⟩, Mapk.refl σ⟩

theorem Ext.trans {σ w σ' w' σ'' w''} (h : Ext σ w σ' w') (k : Ext σ' w' σ'' w'') : Ext σ w σ'' w'' := by
  refine ⟨fun id L hL => ?_, fun b c hc => ?_, h.mp.trans k.mp⟩
  · obtain ⟨L', h1, h2, h3⟩ := h.box id L hL
    obtain ⟨L'', k1, k2, k3⟩ := k.box id L' h1
    grind
  · obtain ⟨a1, a2⟩ := h.fz b c hc
    obtain ⟨b1, b2⟩ := k.fz b c a1
    simp_all

theorem Lies.ext {σ w σ' w' b o us} (h : Lies σ w b o us) (e : Ext σ w σ' w') : Lies σ' w' b o us := fun j u hu => by
  obtain ⟨h1, h2⟩ := h j u hu
  obtain ⟨e1, e2⟩ := e.fz _ _ h1
  simp_all

theorem Reps.ext {σ w σ' w' xs vs} (h : Reps σ w xs vs) (e : Ext σ w σ' w') : Reps σ' w' xs vs := by
  induction h with
  | nil => exact .nil
  | und u _ ih => exact .und u ih
  | no _ ih => exact .no ih
  | lit hl _ ih => exact .lit hl ih
  | agg _ ho _ ih1 ih2 => exact .agg ih1 ho ih2
  | tup _ _ ih1 ih2 => exact .tup ih1 ih2
  | slnil _ ih => exact .slnil ih
  | sltnil _ ih => exact .sltnil ih
  | slemp a _ ih => exact .slemp a ih
  | sltemp a _ ih => exact .sltemp a ih
  | sl b o c e' _ h0 h1 h2 h3 h4 h5 _ ih1 ih2 => exact .sl b o c e' ih1 h0 h1 h2 h3 h4 (h5.ext e) ih2
  | slt b o e' _ h0 h1 h2 h3 h4 _ ih1 ih2 => exact .slt b o e' ih1 h0 h1 h2 h3 (h4.ext e) ih2
  | lsl h1 h2 h3 h4 _ ih =>
    obtain ⟨L', k1, k2, k3⟩ := e.box _ _ h1
    rcases k3 with rfl | k3
    · exact .lsl k1 h2 h3 h4 ih
    · exact .lsl k1 (by omega) (fun hh => by omega) h4 ih
  | ptr g h1 h2 h3 h4 _ ih =>
    obtain ⟨L', k1, k2, k3⟩ := e.box _ _ h1
    rcases k3 with rfl | k3
    · exact .ptr g k1 h2 h3 h4 ih
    · exact .ptr g k1 (by omega) (fun hh => by omega) (by rw [k2]; exact h4) ih
  | ept b o e' i off _ h0 h1 h2 h3 _ ih1 ih2 => exact .ept b o e' i off ih1 h0 h1 h2 (h3.ext e) ih2
  | fn _ _ _ ih1 ih2 ih3 => exact .fn ih1 ih2 ih3
  | ifc _ _ ih1 ih2 => exact .ifc ih1 ih2
  | mref g h1 _ ih => exact .mref g (e.mp _ _ h1) ih

theorem Reps.length {σ w xs vs} (h : Reps σ w xs vs) : xs.length = vs.length := by
  induction h <;> simp_all

theorem noRefs_iff (xs : List V) : noRefs xs = true ↔ ∀ x ∈ xs, noRef x = true := by
  induction xs with
  | nil => simp [noRefs]
  | cons x xs ih => simp [noRefs, ih]

theorem fzV_ok {x : V} (h : fzV x = true) : okV x = true := by simp [fzV] at h; exact h.1
theorem fzV_noRef {x : V} (h : fzV x = true) : noRef x = true := by simp [fzV] at h; exact h.2
theorem fzV_oks {xs : List V} (h : ∀ x ∈ xs, fzV x = true) : ∀ x ∈ xs, okV x = true := fun x hx => fzV_ok (h x hx)
theorem fzV_noRefs {xs : List V} (h : ∀ x ∈ xs, fzV x = true) : noRefs xs = true := (noRefs_iff xs).2 fun x hx => fzV_noRef (h x hx)

theorem noRef_cells {x : V} (h : noRef x = true) : noRefs x.cells = true := by
  cases x <;> simp_all [V.cells, noRef, noRefs]

/-- One element at a time. -/
theorem Reps.cons_iff {σ w x xs v vs} : Reps σ w (x :: xs) (v :: vs) ↔ Reps σ w [x] [v] ∧ Reps σ w xs vs := by
  constructor
  · intro h
    cases h with
    | und _ h => exact ⟨.und _ .nil, h⟩
    | no h => exact ⟨.no .nil, h⟩
    | lit hl h => exact ⟨.lit hl .nil, h⟩
    | agg h1 ho h => exact ⟨.agg h1 ho .nil, h⟩
    | tup h1 h => exact ⟨.tup h1 .nil, h⟩
    | slnil h => exact ⟨.slnil .nil, h⟩
    | sltnil h => exact ⟨.sltnil .nil, h⟩
    | slemp a h => exact ⟨.slemp a .nil, h⟩
    | sltemp a h => exact ⟨.sltemp a .nil, h⟩
    | sl b o c e h0 h1 h2 h3 h4 h5 h6 h => exact ⟨.sl b o c e h0 h1 h2 h3 h4 h5 h6 .nil, h⟩
    | slt b o e h0 h1 h2 h3 h4 h5 h => exact ⟨.slt b o e h0 h1 h2 h3 h4 h5 .nil, h⟩
    | lsl h1 h2 h3 h4 h => exact ⟨.lsl h1 h2 h3 h4 .nil, h⟩
    | ptr g h1 h2 h3 h4 h => exact ⟨.ptr g h1 h2 h3 h4 .nil, h⟩
    | ept b o e i off h0 h1 h2 h3 h4 h => exact ⟨.ept b o e i off h0 h1 h2 h3 h4 .nil, h⟩
    | fn h1 h2 h => exact ⟨.fn h1 h2 .nil, h⟩
    | ifc h1 h => exact ⟨.ifc h1 .nil, h⟩
    | mref g h1 h => exact ⟨.mref g h1 .nil, h⟩
  · rintro ⟨h, k⟩
    cases h with
    | und _ h => exact .und _ k
    | no h => exact .no k
    | lit hl h => exact .lit hl k
    | agg h1 ho h => exact .agg h1 ho k
    | tup h1 h => exact .tup h1 k
    | slnil h => exact .slnil k
    | sltnil h => exact .sltnil k
    | slemp a h => exact .slemp a k
    | sltemp a h => exact .sltemp a k
    | sl b o c e h0 h1 h2 h3 h4 h5 h6 h => exact .sl b o c e h0 h1 h2 h3 h4 h5 h6 k
    | slt b o e h0 h1 h2 h3 h4 h5 h => exact .slt b o e h0 h1 h2 h3 h4 h5 k
    | lsl h1 h2 h3 h4 h => exact .lsl h1 h2 h3 h4 k
    | ptr g h1 h2 h3 h4 h => exact .ptr g h1 h2 h3 h4 k
    | ept b o e i off h0 h1 h2 h3 h4 h => exact .ept b o e i off h0 h1 h2 h3 h4 k
    | fn h1 h2 h => exact .fn h1 h2 k
    | ifc h1 h => exact .ifc h1 k
    | mref g h1 h => exact .mref g h1 k

theorem Reps.nil_left {σ w vs} (h : Reps σ w [] vs) : vs = [] := by cases h; rfl
theorem Reps.nil_right {σ w xs} (h : Reps σ w xs []) : xs = [] := by cases h; rfl
theorem Reps.cons_left {σ w x xs vs} (h : Reps σ w (x :: xs) vs) : ∃ v vs', vs = v :: vs' ∧ Reps σ w [x] [v] ∧ Reps σ w xs vs' := by
  cases vs with
  | nil => exact absurd h.length (by simp)
  | cons v vs' => exact ⟨v, vs', rfl, (Reps.cons_iff.1 h).1, (Reps.cons_iff.1 h).2⟩

theorem Reps.append {σ w xs vs ys us} (h : Reps σ w xs vs) (k : Reps σ w ys us) : Reps σ w (xs ++ ys) (vs ++ us) := by
  induction xs generalizing vs with
  | nil => cases h.nil_left; exact k
  | cons x xs ih =>
    obtain ⟨v, vs', rfl, h1, h2⟩ := h.cons_left
    exact Reps.cons_iff.2 ⟨h1, ih h2⟩

theorem Reps.get {σ w xs vs} (h : Reps σ w xs vs) {i : Nat} {x : V} (hx : xs[i]? = some x) : ∃ v, vs[i]? = some v ∧ Reps σ w [x] [v] := by
  induction xs generalizing vs i with
  | nil => simp at hx
  | cons y ys ih =>
    obtain ⟨v, vs', rfl, h1, h2⟩ := h.cons_left
    grind

theorem Reps.take {σ w xs vs} (h : Reps σ w xs vs) (n : Nat) : Reps σ w (xs.take n) (vs.take n) := by
  induction xs generalizing vs n with
  | nil => cases h.nil_left; simp; exact .nil
  | cons y ys ih =>
    obtain ⟨v, vs', rfl, h1, h2⟩ := h.cons_left
    cases n with
    | zero => exact .nil
    | succ n => exact Reps.cons_iff.2 ⟨h1, ih h2 n⟩

theorem Reps.drop {σ w xs vs} (h : Reps σ w xs vs) (n : Nat) : Reps σ w (xs.drop n) (vs.drop n) := by
  induction xs generalizing vs n with
  | nil => cases h.nil_left; simp; exact .nil
  | cons y ys ih =>
    obtain ⟨v, vs', rfl, h1, h2⟩ := h.cons_left
    cases n with
    | zero => exact h
    | succ n => exact ih h2 n

theorem Reps.set {σ w xs vs x v} (h : Reps σ w xs vs) (i : Nat) (k : Reps σ w [x] [v]) : Reps σ w (xs.set i x) (vs.set i v) := by
  induction xs generalizing vs i with
  | nil => cases h.nil_left; simp; exact .nil
  | cons y ys ih =>
    obtain ⟨u, vs', rfl, h1, h2⟩ := h.cons_left
    cases i with
    | zero => exact Reps.cons_iff.2 ⟨k, h2⟩
    | succ i => exact Reps.cons_iff.2 ⟨h1, ih h2 i⟩

theorem Reps.replicate {σ w x v} (n : Nat) (k : Reps σ w [x] [v]) : Reps σ w (List.replicate n x) (List.replicate n v) := by
  induction n with
  | zero => exact .nil
  | succ n ih => exact Reps.cons_iff.2 ⟨k, ih⟩

/-! ### rows of their own, whatever mark their block bears, as long as it freezes no cell -/

def noMark (tg : Nat × Nat) (n : Nat) : Prop := tg = (0, 0) ∨ n ≤ tg.1

def ownR (w : World) (base : Nat) (e : TypeId) (size : Nat) (v : Value) (n : Nat) (xs : List Value) : Prop :=
  xs.length = n * size ∧
  ((v = .slice none 0 0 ∧ n = 0) ∨
   ∃ g cap cur tg, v = .slice (some ⟨g, 0, none⟩) n cap ∧ base ≤ g ∧ w.heap[g]? = some (.cells cur e tg) ∧ noMark tg cur.size ∧ n ≤ cap ∧ cap ≤ maxLen ∧ cur.size = cap * size ∧ cur.toList.take (n * size) = xs)

section
variable {w : World} {base : Nat} {e : TypeId} {size : Nat} {v : Value} {n : Nat} {xs : List Value}

theorem ownR.of (h : w.ownsRow base e size v n xs) : ownR w base e size v n xs := by
  refine ⟨h.1, ?_⟩
  rcases h.2 with h | ⟨g, cap, cur, h1, h2, h3, h4⟩
  · exact .inl h
  · exact .inr ⟨g, cap, cur, (0, 0), h1, h2, h3, .inl rfl, h4⟩

theorem ownR_nil (w : World) (base : Nat) (e : TypeId) (size : Nat) : ownR w base e size (.slice none 0 0) 0 [] := .of (World.ownsRow_nil w base e size)

theorem ownR.lt (h : ownR w base e size v n xs) : ∀ k, v.ownBlock = some k → base ≤ k ∧ k < w.heap.size := by
  intro k hk
  rcases h.2 with ⟨rfl, _⟩ | ⟨g, cap, cur, tg, rfl, hb, hg, _⟩
  · simp [Value.ownBlock] at hk
  · simp [Value.ownBlock] at hk
    grind

theorem ownR.kept {w' : World} {row : Option Nat} (h : ownR w base e size v n xs) (hg : w.grownBy w' row) (hne : v.ownBlock = none ∨ v.ownBlock ≠ row) : ownR w' base e size v n xs := by
  refine ⟨h.1, ?_⟩
  rcases h.2 with hn | ⟨g, cap, cur, tg, rfl, hb, hgg, rest⟩
  · exact .inl hn
  · refine .inr ⟨g, cap, cur, tg, rfl, hb, ?_, rest⟩
    rw [hg.block g (Array.getElem?_eq_some_iff.1 hgg).1 (by simpa [Value.ownBlock] using hne)]
    exact hgg

theorem ownR.cells (h : ownR w base e size v n xs) {g : Nat} (hg : v.ownBlock = some g) : ∀ j u, xs[j]? = some u → w.cell? ((⟨g, 0, none⟩ : Addr).add j) = some u := by
  intro j u hu
  rcases h.2 with ⟨rfl, _⟩ | ⟨g', cap, cur, tg, rfl, hb, hgg, hm, hn, hc, hs, ht⟩
  · simp [Value.ownBlock] at hg
  · simp only [Value.ownBlock, Option.some.injEq] at hg
    subst hg
    rw [Addr.add_mid, Nat.zero_add]
    rw [← ht, List.getElem?_take] at hu
    split at hu
    · simp only [World.cell?, hgg]
      simpa using hu
    · cases hu
end

theorem run_storeCells_tag (P : Program) (g o : Nat) (t : TypeId) (tg : Nat × Nat) : ∀ (vs : List Value) (i : Nat) (cur : Array Value) (w : World), w.heap[g]? = some (.cells cur t tg) → noMark tg cur.size → o + i + vs.length ≤ cur.size → (∀ v ∈ vs, v.oneCell' = true) →
    (storeCells ⟨g, o, none⟩ vs i).run P w = .ok () (w.setRow g (cur.toList.take (o + i) ++ vs ++ cur.toList.drop (o + i + vs.length)).toArray)
  | [], i, cur, w, hg, _, _, _ => by
    simp only [storeCells, List.append_nil, List.length_nil, Nat.add_zero, List.take_append_drop, Array.toArray_toList]
    rw [setRow_self w g cur t tg hg]
    rfl
  | v :: rest, i, cur, w, hg, hm, hl, h1 => by
    have hi : o + i < cur.size := by simp at hl; omega
    have hadd : (⟨g, o, none⟩ : Addr).add i = ⟨g, o + i, none⟩ := by unfold Addr.add; split <;> simp_all
    have hcell : w.cell? ⟨g, o + i, none⟩ = some cur[o + i] := by simp [World.cell?, hg, hi]
    have hfro : w.frozen? ⟨g, o + i, none⟩ = false := by
      obtain ⟨lo, hi'⟩ := tg
      rcases hm with hm | hm
      · cases hm; simp [World.frozen?, hg]
      · simp only at hm
        have : ¬ lo ≤ o + i := by omega
        simp [World.frozen?, hg, this]
    have hst : (store ((⟨g, o, none⟩ : Addr).add i) v).run P w = .ok () (w.setRow g (cur.setIfInBounds (o + i) v)) := by
      rw [hadd, run_store P w _ v _ (h1 v (by simp)), hcell]
      simp [hfro, setCell_eq_setRow w g (o + i) cur t tg v hg]
    have ih := run_storeCells_tag P g o t tg rest (i + 1) (cur.setIfInBounds (o + i) v) (w.setRow g (cur.setIfInBounds (o + i) v)) (setRow_heap w g cur _ t _ hg) (by simpa using hm) (by simp at hl ⊢; omega) (fun x hx => h1 x (by simp [hx]))
    simp only [storeCells, Sem.run_bind, hst, Result.andThen_ok, ih, setRow_setRow]
    congr 3
    have e := list_seg_step cur.toList (o + i) v rest (by simp at hl ⊢; omega)
    simp_all <;> omega

theorem run_append_room_tag {P : Program} {w : World} (t ty e : TypeId) (i : TypeInfo) (ht : P.underlying t = some (.slice e)) (hi : P.info? e = some i)
    (g sLen sCap : Nat) (cur : Array Value) (tg : Nat × Nat) (hg : w.heap[g]? = some (.cells cur e tg)) (hm : noMark tg cur.size)
    (a : Addr) (m c : Nat) (news : List Value) (hl : news.length = m * i.size) (hnews : ∀ j u, news[j]? = some u → w.cell? (a.add j) = some u) (h1 : ∀ u ∈ news, u.oneCell' = true)
    (hroom : sLen + m ≤ sCap) (hfit : sLen * i.size + news.length ≤ cur.size) :
    (Builtin.append_ #[t, t] ty #[.slice (some ⟨g, 0, none⟩) sLen sCap, .slice (some a) m c]).run P w =
      .ok (.slice (some ⟨g, 0, none⟩) (sLen + m) sCap) (w.setRow g (cur.toList.take (sLen * i.size) ++ news ++ cur.toList.drop (sLen * i.size + news.length)).toArray) := by
  have hf := run_firstCells_some (P := P) w i.size m a m c news hl hnews
  have hst := run_storeCells_tag P g (sLen * i.size) e tg news 0 cur w hg hm (by simpa using hfit) h1
  simp only [Nat.add_zero] at hst
  simp [Builtin.append_, run_underlying ht, sizeOf, typeInfo, hi, Builtin.lenOf, hroom, hf, Addr.add_lit, hst]

end Go.Proofs.YtpikcdlhgiooaaaGreat.Le

/-
  An evaluator for the model's code over pure values: the invariant of its boxes, and the three ways in which a step turns it.
-/
namespace Go.Proofs.YtpikcdlhgiooaaaGreat.Le
set_option linter.unusedVariables false
open Go.RowKit (Below)

structure BoxOK (σ : Sg) (w : World) (B : Nat) (bx : Box) (L : Loc) : Prop where
  tot : L.tot = bx.xs.length
  reps : ∃ us, Reps σ w bx.xs us ∧ (∀ u ∈ us, u.cells.size = L.esz) ∧ (∀ u ∈ flat us, u.oneCell' = true) ∧ ownR w B bx.elem L.esz L.v bx.xs.length (flat us)
  nilp : bx.nilp = true → L.v = .slice none 0 0
  esz : bx.esz = L.esz
  oks : ∀ x ∈ bx.xs, okV x = true
  fzs : bx.row = true → ∀ x ∈ bx.xs, noRef x = true

/-- Where the code began: its world, what was frozen then, blocks that it does not touch. -/
structure Start where
  w : World
  fz : Nat → Nat → Prop
  keep : Nat → Prop
abbrev Start.of (w : World) (fz : Nat → Nat → Prop) : Start := ⟨w, fz, fun _ => False⟩

theorem freeB_iff {H : Heap} {k : Nat} (h : freeB H k = true) : (H[k]? = none ∧ k = H.length) ∨ ∃ b, H[k]? = some b ∧ (b.live = false ∧ b.row = false) := by
  unfold freeB at h
  grind

theorem freeB_end (H : Heap) : freeB H H.length = true := by simp [freeB]

theorem place_get {H : Heap} {k : Nat} (h : freeB H k = true) (b : Box) (id : Nat) : (place H k b)[id]? = if id = k then some b else H[id]? := by
  unfold place
  rcases freeB_iff h with ⟨_, hk⟩ | ⟨b0, hb, _⟩
  · grind
  grind

theorem place_end (H : Heap) (b : Box) : place H H.length b = H ++ [b] := by simp [place]

/-- The boxes of maps that change. -/
structure MapsOK (B : Nat) (w0 : Start) (σ : Sg) (H : Heap) (w : World) : Prop where
  ok : ∀ (id : Nat) (b : Box), H[id]? = some b → mapB b = true → ∃ g es c us, σ.mp id = some g ∧ w.heap[g]? = some (.map es c) ∧ Reps σ w b.xs us ∧ us = es.toList.flatMap (fun e => [e.key, e.val]) ∧ (∀ x ∈ b.xs, fzV x = true)
  dom : ∀ id g, σ.mp id = some g → B ≤ g ∧ g < w.heap.size ∧ ¬ w0.keep g ∧ ∃ b, H[id]? = some b ∧ mapB b = true
  apart : ∀ id id' g, σ.mp id = some g → σ.mp id' = some g → id = id'

theorem MapsOK.block {B w0 σ H w} (h : MapsOK B w0 σ H w) {id g : Nat} (hg : σ.mp id = some g) : ∃ es c, w.heap[g]? = some (.map es c) := by
  obtain ⟨_, _, _, b, hb, hm⟩ := h.dom id g hg
  obtain ⟨g', es, c, us, h1, h2, _⟩ := h.ok id b hb hm
  rw [hg] at h1
  cases h1
  exact ⟨es, c, h2⟩

/-- A step that leaves the maps as they are. -/
theorem MapsOK.step {B w0 σ H w σ' H' w'} (h : MapsOK B w0 σ H w) (e : Ext σ w σ' w') (hs : σ'.mp = σ.mp) (hH : ∀ (id : Nat) (b : Box), mapB b = true → (H'[id]? = some b ↔ H[id]? = some b))
    (hsz : w.heap.size ≤ w'.heap.size) (hw : ∀ id g, σ.mp id = some g → w'.heap[g]? = w.heap[g]?) : MapsOK B w0 σ' H' w' := by
  refine ⟨fun id b hb hm => ?_, fun id g hg => ?_, fun id id' g h1 h2 => h.apart id id' g (by rw [← hs]; exact h1) (by rw [← hs]; exact h2)⟩
  · obtain ⟨g, es, c, us, h1, h2, h3, h4⟩ := h.ok id b ((hH id b hm).1 hb) hm
    exact ⟨g, es, c, us, by rw [hs]; exact h1, (hw id g h1).trans h2, h3.ext e, h4⟩
  · rw [hs] at hg
    obtain ⟨h1, h0, h2, b, h3, h4⟩ := h.dom id g hg
    exact ⟨h1, Nat.lt_of_lt_of_le h0 hsz, h2, b, (hH id b h4).2 h3, h4⟩

/-- The same, the boxes of maps turned at most in what does not count. -/
theorem MapsOK.step' {B w0 σ H w σ' H' w'} (h : MapsOK B w0 σ H w) (e : Ext σ w σ' w') (hs : σ'.mp = σ.mp) (hH : ∀ (id : Nat) (b : Box), H'[id]? = some b → ∃ b0, H[id]? = some b0 ∧ mapB b = mapB b0 ∧ b.xs = b0.xs)
    (hH' : ∀ (id : Nat) (b0 : Box), H[id]? = some b0 → ∃ b, H'[id]? = some b ∧ mapB b = mapB b0)
    (hsz : w.heap.size ≤ w'.heap.size) (hw : ∀ id g, σ.mp id = some g → w'.heap[g]? = w.heap[g]?) : MapsOK B w0 σ' H' w' := by
  refine ⟨fun id b hb hm => ?_, fun id g hg => ?_, fun id id' g h1 h2 => h.apart id id' g (by rw [← hs]; exact h1) (by rw [← hs]; exact h2)⟩
  · obtain ⟨b0, h0, hm0, hx⟩ := hH id b hb
    obtain ⟨g, es, c, us, h1, h2, h3, h4, h5⟩ := h.ok id b0 h0 (by rw [← hm0]; exact hm)
    exact ⟨g, es, c, us, by rw [hs]; exact h1, (hw id g h1).trans h2, by rw [hx]; exact h3.ext e, h4, by rw [hx]; exact h5⟩
  · rw [hs] at hg
    obtain ⟨h1, h0, h2, b, h3, h4⟩ := h.dom id g hg
    obtain ⟨b', hb', hm'⟩ := hH' id b h3
    exact ⟨h1, Nat.lt_of_lt_of_le h0 hsz, h2, b', hb', by rw [hm']; exact h4⟩

theorem mapB_place {H : Heap} {k : Nat} (hk : freeB H k = true) {bx : Box} (hl : bx.live = true) : ∀ (id : Nat) (b : Box), mapB b = true → ((place H k bx)[id]? = some b ↔ H[id]? = some b) := by
  intro id b hm
  rw [place_get hk]
  by_cases hid : id = k
  · subst hid
    rw [if_pos rfl]
    constructor
    · intro hh
      cases hh
      simp [mapB, hl] at hm
    · intro hh
      rcases freeB_iff hk with ⟨hn, _⟩ | ⟨b0, hb0, hl0⟩
      · rw [hn] at hh; cases hh
      · rw [hb0] at hh
        cases hh
        simp [mapB, hl0] at hm
  · rw [if_neg hid]

theorem mapB_set {H : Heap} {i : Nat} {bx bx' : Box} (hb : H[i]? = some bx) (h1 : mapB bx = false) (h2 : mapB bx' = false) : ∀ (id : Nat) (b : Box), mapB b = true → ((H.set i bx')[id]? = some b ↔ H[id]? = some b) := by
  intro id b hm
  by_cases hid : id = i
  · subst hid
    rw [hb, List.getElem?_set]
    constructor
    · intro hh
      split at hh
      · split at hh
        · cases hh; rw [h2] at hm; cases hm
        · cases hh
      · rename_i hne; exact absurd rfl hne
    · intro hh
      cases hh
      rw [h1] at hm
      cases hm
  · rw [List.getElem?_set_ne (fun e => hid e.symm)]

structure Inv (B : Nat) (w0 : Start) (σ : Sg) (H : Heap) (w : World) : Prop where
  below : Below B w0.w w
  size : B ≤ w.heap.size
  dom : ∀ id L, σ.box id = some L → ∃ bx, H[id]? = some bx ∧ (bx.live = true ∨ bx.row = true)
  boxes : ∀ id bx, H[id]? = some bx → bx.live = true → ∃ L, σ.box id = some L ∧ BoxOK σ w B bx L
  apart : ∀ id id' bx bx' L L' g, H[id]? = some bx → H[id']? = some bx' → bx.live = true → bx'.live = true → σ.box id = some L → σ.box id' = some L' →
    L.v.ownBlock = some g → L'.v.ownBlock = some g → id = id'
  cells : ∀ b c, σ.fz b c → ∃ u, w.cell? ⟨b, c, none⟩ = some u
  floor : ∀ b c, σ.fz b c → ∀ id bx L, H[id]? = some bx → bx.live = true → σ.box id = some L → L.v.ownBlock = some b → c < bx.floor * L.esz
  low : ∀ (id : Nat) (bx : Box), H[id]? = some bx → bx.live = true → bx.floor ≤ bx.xs.length
  old : ∀ b c, σ.fz b c → b < B → w0.fz b c
  kept : ∀ b, w0.keep b → b < w.heap.size ∧ w.heap[b]? = w0.w.heap[b]? ∧ (∀ id L, σ.box id = some L → L.v.ownBlock ≠ some b) ∧ ∀ c, σ.fz b c → w0.fz b c
  maps : MapsOK B w0 σ H w

theorem Inv.dom_lt {B w0 σ H w} (h : Inv B w0 σ H w) {id L} (hb : σ.box id = some L) : id < H.length := by
  obtain ⟨bx, h1, _⟩ := h.dom id L hb
  grind

theorem cell_lt {w : World} {b c : Nat} {u : Value} (h : w.cell? ⟨b, c, none⟩ = some u) : b < w.heap.size := block_lt_of_cell h

theorem BoxOK.kept {σ w B bx L σ' w'} {row : Option Nat} (h : BoxOK σ w B bx L) (e : Ext σ w σ' w') (hg : w.grownBy w' row) (hne : L.v.ownBlock = none ∨ L.v.ownBlock ≠ row) : BoxOK σ' w' B bx L := by
  obtain ⟨us, h1, h2, h3, h4⟩ := h.reps
  exact ⟨h.tot, ⟨us, h1.ext e, h2, h3, h4.kept hg hne⟩, h.nilp, h.esz, h.oks, h.fzs⟩

theorem BoxOK.block_lt {σ w B bx L g} (h : BoxOK σ w B bx L) (hg : L.v.ownBlock = some g) : B ≤ g ∧ g < w.heap.size := by
  obtain ⟨us, h1, h2, h3, h4⟩ := h.reps
  exact h4.lt g hg

theorem ownR_cells {w : World} {base : Nat} {e : TypeId} {size : Nat} {v : Value} {n : Nat} {xs : List Value} (h : ownR w base e size v n xs) {g : Nat} (hg : v.ownBlock = some g) : ∃ cur t tg, w.heap[g]? = some (.cells cur t tg) := by
  rcases h.2 with ⟨rfl, _⟩ | ⟨g', cap, cur, tg, rfl, _, hgg, _⟩
  · simp [Value.ownBlock] at hg
  · simp [Value.ownBlock] at hg
    simp_all
theorem BoxOK.no_map {σ w B bx L g} (h : BoxOK σ w B bx L) (hg : L.v.ownBlock = some g) {es : Array MapEntry} {c : Nat} (hm : w.heap[g]? = some (.map es c)) : False := by
  obtain ⟨us, h1, h2, h3, h4⟩ := h.reps
  obtain ⟨cur, t, tg, hc⟩ := ownR_cells h4 hg
  simp_all

/-- The same boxes, another world that has at most grown. -/
theorem Inv.grown {B w0 σ H w w'} (h : Inv B w0 σ H w) (hg : w.grownBy w' none) : Inv B w0 σ H w' ∧ Ext σ w σ w' := by
  have hcell : ∀ b c, b < w.heap.size → w'.cell? ⟨b, c, none⟩ = w.cell? ⟨b, c, none⟩ := fun b c hb =>
    World.cell?_of_block (hg.block b hb (by simp))
  have e : Ext σ w σ w' := ⟨fun id L hL => ⟨L, hL, rfl, .inl rfl⟩, fun b c hc => ⟨hc, by
    obtain ⟨u, hu⟩ := h.cells b c hc
    exact hcell b c (cell_lt hu)⟩, Mapk.same rfl⟩
  refine ⟨⟨h.below.grown hg h.size (by simp), Nat.le_trans h.size hg.size, h.dom, ?_, h.apart, ?_, h.floor, h.low, h.old, fun b hb => ?_, h.maps.step e rfl (fun _ _ _ => Iff.rfl) hg.size fun id g hm => hg.block g (h.maps.dom id g hm).2.1 (by simp)⟩, e⟩
  · intro id bx hb hl
    obtain ⟨L, hL, hok⟩ := h.boxes id bx hb hl
    refine ⟨L, hL, hok.kept e hg ?_⟩
    grind
  · intro b c hc
    obtain ⟨u, hu⟩ := h.cells b c hc
    exact ⟨u, (hcell b c (cell_lt hu)).trans hu⟩
  · obtain ⟨k1, k2, k3, k4⟩ := h.kept b hb
    exact ⟨Nat.lt_of_lt_of_le k1 hg.size, (hg.block b k1 (by simp)).trans k2, k3, k4⟩

def Sg.put (σ : Sg) (id : Nat) (L : Loc) : Sg := { σ with box := fun i => if i = id then some L else σ.box i }

/-- A new box. -/
theorem Inv.push {B w0 σ H w w'} (h : Inv B w0 σ H w) (hg : w.grownBy w' none) {k : Nat} (hk : freeB H k = true) (bx : Box) (hlive : bx.live = true) (L : Loc) (hlow : bx.floor ≤ bx.xs.length)
    (hnew : ∀ g, L.v.ownBlock = some g → w.heap.size ≤ g) (hok : Ext σ w (σ.put k L) w' → BoxOK (σ.put k L) w' B bx L) :
    Inv B w0 (σ.put k L) (place H k bx) w' ∧ Ext σ w (σ.put k L) w' := by
  have hnone : σ.box k = none := by
    cases hb : σ.box k with
    | none => rfl
    | some L' =>
      exfalso
      obtain ⟨b1, c1, c2⟩ := h.dom _ _ hb
      rcases freeB_iff hk with ⟨hn, _⟩ | ⟨b0, hb0, hl0⟩
      · rw [hn] at c1; cases c1
      simp_all
  obtain ⟨h', e0⟩ := h.grown hg
  have e : Ext σ w (σ.put k L) w' := by
    refine ⟨fun id L' hL' => ⟨L', ?_, rfl, .inl rfl⟩, e0.fz, e0.mp⟩
    have : id ≠ k := fun hh => by simp_all
    simp [Sg.put, this, hL']
  have e' : Ext σ w' (σ.put k L) w' := by
    refine ⟨e.box, fun b c hc => ⟨hc, rfl⟩, Mapk.same rfl⟩
  have hold : ∀ id bx', id ≠ k → (place H k bx)[id]? = some bx' → H[id]? = some bx' := by
    intro id bx' hid hh
    rw [place_get hk, if_neg hid] at hh
    exact hh
  have hget : (place H k bx)[k]? = some bx := by rw [place_get hk, if_pos rfl]
  refine ⟨⟨h'.below, h'.size, ?_, ?_, ?_, h'.cells, ?_, ?_, h'.old, fun b hb => ?_, h'.maps.step e' rfl (mapB_place hk hlive) (Nat.le_refl _) fun _ _ _ => rfl⟩, e⟩
  · intro id L' hL'
    by_cases hid : id = k
    · simp_all
    · simp only [Sg.put, hid, if_false] at hL'
      obtain ⟨b1, c1, c2⟩ := h.dom id L' hL'
      exact ⟨b1, by rw [place_get hk, if_neg hid]; exact c1, c2⟩
  · intro id bx' hb hl
    by_cases hid : id = k
    · subst hid
      rw [hget] at hb
      cases hb
      exact ⟨L, by simp [Sg.put], hok e⟩
    · obtain ⟨L', hL', hok'⟩ := h'.boxes id bx' (hold id bx' hid hb) hl
      refine ⟨L', by simp [Sg.put, hid, hL'], ?_⟩
      obtain ⟨us, h1, h2, h3, h4⟩ := hok'.reps
      exact ⟨hok'.tot, ⟨us, h1.ext e', h2, h3, h4⟩, hok'.nilp, hok'.esz, hok'.oks, hok'.fzs⟩
  · intro id id' bx1 bx2 L1 L2 g hb1 hb2 hl1 hl2 hL1 hL2 hg1 hg2
    by_cases hid : id = k
    · by_cases hid' : id' = k
      · rw [hid, hid']
      · exfalso
        subst hid
        simp only [Sg.put, if_true] at hL1
        cases hL1
        simp only [Sg.put, hid', if_false] at hL2
        have hb2' := hold id' bx2 hid' hb2
        obtain ⟨L', hL', hok'⟩ := h.boxes id' bx2 hb2' hl2
        rw [hL2] at hL'
        cases hL'
        have := (hok'.block_lt hg2).2
        grind
    · by_cases hid' : id' = k
      · exfalso
        subst hid'
        simp only [Sg.put, if_true] at hL2
        cases hL2
        simp only [Sg.put, hid, if_false] at hL1
        have hb1' := hold id bx1 hid hb1
        obtain ⟨L', hL', hok'⟩ := h.boxes id bx1 hb1' hl1
        rw [hL1] at hL'
        cases hL'
        have := (hok'.block_lt hg1).2
        grind
      · simp only [Sg.put, hid, hid', if_false] at hL1 hL2
        exact h.apart id id' bx1 bx2 L1 L2 g (hold id bx1 hid hb1) (hold id' bx2 hid' hb2) hl1 hl2 hL1 hL2 hg1 hg2
  · intro b c hc id bx' L' hb hl hL' hg'
    by_cases hid : id = k
    · exfalso
      subst hid
      simp only [Sg.put, if_true] at hL'
      cases hL'
      obtain ⟨u, hu⟩ := h.cells b c hc
      have := cell_lt hu
      grind
    · simp only [Sg.put, hid, if_false] at hL'
      exact h.floor b c hc id bx' L' (hold id bx' hid hb) hl hL' hg'
  · intro id bx' hb hl
    by_cases hid : id = k
    · simp_all
    · exact h.low id bx' (hold id bx' hid hb) hl
  · obtain ⟨k1, k2, k3, k4⟩ := h'.kept b hb
    refine ⟨k1, k2, fun id L' hL' hg' => ?_, k4⟩
    by_cases hid : id = k
    · subst hid
      simp only [Sg.put, if_true] at hL'
      cases hL'
      have := (h.kept b hb).1
      grind
    · simp only [Sg.put, hid, if_false] at hL'
      exact k3 id L' hL' hg'

/-- A box for a block that is there, that no box has, and in which nothing is frozen. -/
theorem Inv.put_new {B w0 σ H w} (h : Inv B w0 σ H w) {k : Nat} (hk : freeB H k = true) (bx : Box) (hlive : bx.live = true) (L : Loc) (hlow : bx.floor ≤ bx.xs.length)
    (hap : ∀ id bx' L' g, H[id]? = some bx' → bx'.live = true → σ.box id = some L' → L'.v.ownBlock = some g → L.v.ownBlock ≠ some g) (hfz : ∀ g c, L.v.ownBlock = some g → ¬ σ.fz g c) (hkp : ∀ g, L.v.ownBlock = some g → ¬ w0.keep g)
    (hok : BoxOK (σ.put k L) w B bx L) : Inv B w0 (σ.put k L) (place H k bx) w ∧ Ext σ w (σ.put k L) w := by
  have hnone : σ.box k = none := by
    cases hb : σ.box k with
    | none => rfl
    | some L' =>
      exfalso
      obtain ⟨b1, c1, c2⟩ := h.dom _ _ hb
      rcases freeB_iff hk with ⟨hn, _⟩ | ⟨b0, hb0, hl0⟩
      · rw [hn] at c1; cases c1
      simp_all
  have e : Ext σ w (σ.put k L) w := by
    refine ⟨fun id L' hL' => ⟨L', ?_, rfl, .inl rfl⟩, fun b c hc => ⟨hc, rfl⟩, Mapk.same rfl⟩
    have : id ≠ k := fun hh => by simp_all
    simp [Sg.put, this, hL']
  have hold : ∀ id bx', id ≠ k → (place H k bx)[id]? = some bx' → H[id]? = some bx' := by
    intro id bx' hid hh
    rw [place_get hk, if_neg hid] at hh
    exact hh
  have hget : (place H k bx)[k]? = some bx := by rw [place_get hk, if_pos rfl]
  refine ⟨⟨h.below, h.size, ?_, ?_, ?_, h.cells, ?_, ?_, h.old, fun b hb => ?_, h.maps.step e rfl (mapB_place hk hlive) (Nat.le_refl _) fun _ _ _ => rfl⟩, e⟩
  · intro id L' hL'
    by_cases hid : id = k
    · simp_all
    · simp only [Sg.put, hid, if_false] at hL'
      obtain ⟨b1, c1, c2⟩ := h.dom id L' hL'
      exact ⟨b1, by rw [place_get hk, if_neg hid]; exact c1, c2⟩
  · intro id bx' hb hl
    by_cases hid : id = k
    · subst hid
      rw [hget] at hb
      cases hb
      exact ⟨L, by simp [Sg.put], hok⟩
    · obtain ⟨L', hL', hok'⟩ := h.boxes id bx' (hold id bx' hid hb) hl
      refine ⟨L', by simp [Sg.put, hid, hL'], ?_⟩
      obtain ⟨us, h1, h2, h3, h4⟩ := hok'.reps
      exact ⟨hok'.tot, ⟨us, h1.ext e, h2, h3, h4⟩, hok'.nilp, hok'.esz, hok'.oks, hok'.fzs⟩
  · intro id id' bx1 bx2 L1 L2 g hb1 hb2 hl1 hl2 hL1 hL2 hg1 hg2
    by_cases hid : id = k
    · by_cases hid' : id' = k
      · rw [hid, hid']
      · exfalso
        subst hid
        simp only [Sg.put, if_true] at hL1
        cases hL1
        simp only [Sg.put, hid', if_false] at hL2
        grind
    · by_cases hid' : id' = k
      · exfalso
        subst hid'
        simp only [Sg.put, if_true] at hL2
        cases hL2
        simp only [Sg.put, hid, if_false] at hL1
        grind
      · simp only [Sg.put, hid, hid', if_false] at hL1 hL2
        exact h.apart id id' bx1 bx2 L1 L2 g (hold id bx1 hid hb1) (hold id' bx2 hid' hb2) hl1 hl2 hL1 hL2 hg1 hg2
  · intro b c hc id bx' L' hb hl hL' hg'
    by_cases hid : id = k
    · exfalso
      subst hid
      simp only [Sg.put, if_true] at hL'
      cases hL'
      exact hfz b c hg' hc
    · simp only [Sg.put, hid, if_false] at hL'
      exact h.floor b c hc id bx' L' (hold id bx' hid hb) hl hL' hg'
  · intro id bx' hb hl
    by_cases hid : id = k
    · simp_all
    · exact h.low id bx' (hold id bx' hid hb) hl
  · obtain ⟨k1, k2, k3, k4⟩ := h.kept b hb
    refine ⟨k1, k2, fun id L' hL' hg' => ?_, k4⟩
    by_cases hid : id = k
    · subst hid
      simp only [Sg.put, if_true] at hL'
      simp_all
    · simp only [Sg.put, hid, if_false] at hL'
      exact k3 id L' hL' hg'

/-- A box is written, or grows. -/
theorem Inv.upd {B w0 σ H w w'} (h : Inv B w0 σ H w) {id : Nat} {bx : Box} {L : Loc} (hb : H[id]? = some bx) (hl : bx.live = true) (hL : σ.box id = some L)
    (hg : w.grownBy w' L.v.ownBlock) (bx' : Box) (hlive : bx'.live = true) (L' : Loc) (hesz : L'.esz = L.esz) (htot : L' = L ∨ L.tot < L'.tot) (hfl : bx'.floor = bx.floor) (hlen' : bx.xs.length ≤ bx'.xs.length)
    (hnew : ∀ g, L'.v.ownBlock = some g → L.v.ownBlock = some g ∨ w.heap.size ≤ g)
    (hkeep : ∀ g c, L.v.ownBlock = some g → c < bx.floor * L.esz → w'.cell? ⟨g, c, none⟩ = w.cell? ⟨g, c, none⟩)
    (hok : Ext σ w (σ.put id L') w' → BoxOK (σ.put id L') w' B bx' L') :
    Inv B w0 (σ.put id L') (H.set id bx') w' ∧ Ext σ w (σ.put id L') w' := by
  have hlen : id < H.length := h.dom_lt hL
  obtain ⟨L0, hL0, hok0⟩ := h.boxes id bx hb hl
  rw [hL] at hL0
  cases hL0
  have hcell : ∀ b c, σ.fz b c → w'.cell? ⟨b, c, none⟩ = w.cell? ⟨b, c, none⟩ := by
    intro b c hc
    obtain ⟨u, hu⟩ := h.cells b c hc
    by_cases hown : L.v.ownBlock = some b
    · exact hkeep b c hown (h.floor b c hc id bx L hb hl hL hown)
    · exact World.cell?_of_block (hg.block b (cell_lt hu) (fun hh => hown hh.symm))
  have e : Ext σ w (σ.put id L') w' := by
    refine ⟨fun i Li hLi => ?_, fun b c hc => ⟨hc, hcell b c hc⟩, Mapk.same rfl⟩
    by_cases hi : i = id
    · subst hi
      rw [hL] at hLi
      cases hLi
      exact ⟨L', by simp [Sg.put], hesz, htot⟩
    · exact ⟨Li, by simp [Sg.put, hi, hLi], rfl, .inl rfl⟩
  have hold : ∀ i b, i ≠ id → (H.set id bx')[i]? = some b → H[i]? = some b := by
    intro i b hi hh
    rw [List.getElem?_set_ne (fun e => hi e.symm)] at hh
    exact hh
  have hget : (H.set id bx')[id]? = some bx' := by simp [hlen]
  refine ⟨⟨?_, Nat.le_trans h.size hg.size, ?_, ?_, ?_, ?_, ?_, ?_, h.old, fun b hb => ?_, h.maps.step e rfl (mapB_set hb (by simp [mapB, hl]) (by simp [mapB, hlive])) hg.size fun i g hm => hg.block g (h.maps.dom i g hm).2.1 (fun hh => by obtain ⟨es, c, hmm⟩ := h.maps.block hm; exact hok0.no_map hh.symm hmm)⟩, e⟩
  · exact h.below.grown hg h.size (fun k hk => (hok0.block_lt hk).1)
  · intro i Li hLi
    by_cases hi : i = id
    · simp_all
    · simp only [Sg.put, hi, if_false] at hLi
      obtain ⟨b1, c1, c2⟩ := h.dom i Li hLi
      grind
  · intro i b hib hlb
    by_cases hi : i = id
    · subst hi
      rw [hget] at hib
      cases hib
      exact ⟨L', by simp [Sg.put], hok e⟩
    · have hib' := hold i b hi hib
      obtain ⟨Li, hLi, hoki⟩ := h.boxes i b hib' hlb
      refine ⟨Li, by simp [Sg.put, hi, hLi], hoki.kept e hg ?_⟩
      cases hLb : Li.v.ownBlock with
      | none => exact .inl rfl
      | some g =>
        right
        intro hh
        exact hi (h.apart i id b bx Li L g hib' hb hlb hl hLi hL hLb hh.symm)
  · intro i j b1 b2 L1 L2 g h1 h2 l1 l2 s1 s2 g1 g2
    by_cases hi : i = id
    · by_cases hj : j = id
      · rw [hi, hj]
      · exfalso
        subst hi
        simp only [Sg.put, if_true] at s1
        cases s1
        simp only [Sg.put, hj, if_false] at s2
        have h2' := hold j b2 hj h2
        obtain ⟨L3, hL3, hok3⟩ := h.boxes j b2 h2' l2
        rw [s2] at hL3
        cases hL3
        rcases hnew g g1 with hh | hh
        · exact hj (h.apart j i b2 bx L2 L g h2' hb l2 hl s2 hL g2 hh)
        · have := (hok3.block_lt g2).2; omega
    · by_cases hj : j = id
      · exfalso
        subst hj
        simp only [Sg.put, if_true] at s2
        cases s2
        simp only [Sg.put, hi, if_false] at s1
        have h1' := hold i b1 hi h1
        obtain ⟨L3, hL3, hok3⟩ := h.boxes i b1 h1' l1
        rw [s1] at hL3
        cases hL3
        rcases hnew g g2 with hh | hh
        · exact hi (h.apart i j b1 bx L1 L g h1' hb l1 hl s1 hL g1 hh)
        · have := (hok3.block_lt g1).2; omega
      · simp only [Sg.put, hi, hj, if_false] at s1 s2
        exact h.apart i j b1 b2 L1 L2 g (hold i b1 hi h1) (hold j b2 hj h2) l1 l2 s1 s2 g1 g2
  · intro b c hc
    obtain ⟨u, hu⟩ := h.cells b c hc
    exact ⟨u, (hcell b c hc).trans hu⟩
  · intro b c hc i b' Li hib hlb hLi hgi
    by_cases hi : i = id
    · subst hi
      rw [hget] at hib
      cases hib
      simp only [Sg.put, if_true] at hLi
      cases hLi
      rw [hfl, hesz]
      rcases hnew b hgi with hh | hh
      · exact h.floor b c hc i bx L hb hl hL hh
      · obtain ⟨u, hu⟩ := h.cells b c hc
        have := cell_lt hu
        omega
    · simp only [Sg.put, hi, if_false] at hLi
      exact h.floor b c hc i b' Li (hold i b' hi hib) hlb hLi hgi
  · intro i b' hib hlb
    by_cases hi : i = id
    · subst hi
      rw [hget] at hib
      cases hib
      rw [hfl]
      exact Nat.le_trans (h.low i bx hb hl) hlen'
    · exact h.low i b' (hold i b' hi hib) hlb
  · obtain ⟨k1, k2, k3, k4⟩ := h.kept b hb
    refine ⟨Nat.lt_of_lt_of_le k1 hg.size, (hg.block b k1 (fun hh => k3 id L hL hh.symm)).trans k2, fun i Li hLi hgi => ?_, k4⟩
    by_cases hi : i = id
    · subst hi
      simp only [Sg.put, if_true] at hLi
      grind
    · simp only [Sg.put, hi, if_false] at hLi
      exact k3 i Li hLi hgi

end Go.Proofs.YtpikcdlhgiooaaaGreat.Le

/-
  An evaluator for the model's code over pure values: rows of cells, and freezing.
-/
namespace Go.Proofs.YtpikcdlhgiooaaaGreat.Le
set_option linter.unusedVariables false
open Go.RowKit (Below)

/-! ### rows of elements of one size -/

theorem flat_nil : flat [] = [] := rfl
theorem flat_cons (u : Value) (us : List Value) : flat (u :: us) = u.cells.toList ++ flat us := rfl
theorem flat_append (us vs : List Value) : flat (us ++ vs) = flat us ++ flat vs := by simp [flat]
theorem flat_length {us : List Value} {e : Nat} (h : ∀ u ∈ us, u.cells.size = e) : (flat us).length = us.length * e := by
  induction us with
  | nil => simp [flat_nil]
  | cons u us ih =>
    rw [flat_cons, List.length_append, ih (fun v hv => h v (by simp [hv]))]
    grind

theorem sizes_drop {us : List Value} {e : Nat} (h : ∀ u ∈ us, u.cells.size = e) (k : Nat) : ∀ u ∈ us.drop k, u.cells.size = e := fun u hu => h u (List.mem_of_mem_drop hu)
theorem sizes_take {us : List Value} {e : Nat} (h : ∀ u ∈ us, u.cells.size = e) (k : Nat) : ∀ u ∈ us.take k, u.cells.size = e := fun u hu => h u (List.mem_of_mem_take hu)

theorem flat_drop {us : List Value} {e : Nat} (h : ∀ u ∈ us, u.cells.size = e) (k : Nat) : flat (us.drop k) = (flat us).drop (k * e) := by
  induction us generalizing k with
  | nil => simp [flat_nil]
  | cons u us ih =>
    cases k with
    | zero => simp
    | succ k =>
      have hu := h u (by simp)
      rw [List.drop_succ_cons, ih (fun v hv => h v (by simp [hv])), flat_cons, Nat.add_mul, Nat.one_mul, List.drop_append]
      have h1 : k * e + e - u.cells.toList.length = k * e := by simp [hu]
      have h2 : u.cells.toList.drop (k * e + e) = [] := by apply List.drop_eq_nil_of_le; simp [hu]
      rw [h1, h2, List.nil_append]

theorem flat_take {us : List Value} {e : Nat} (h : ∀ u ∈ us, u.cells.size = e) (k : Nat) : flat (us.take k) = (flat us).take (k * e) := by
  induction us generalizing k with
  | nil => simp [flat_nil]
  | cons u us ih =>
    cases k with
    | zero => simp [flat_nil]
    | succ k =>
      have hu := h u (by simp)
      rw [List.take_succ_cons, flat_cons, ih (fun v hv => h v (by simp [hv])), flat_cons, Nat.add_mul, Nat.one_mul, List.take_append]
      grind

theorem flat_sub {us : List Value} {e : Nat} (h : ∀ u ∈ us, u.cells.size = e) (off len : Nat) : flat ((us.drop off).take len) = ((flat us).drop (off * e)).take (len * e) := by
  rw [flat_take (sizes_drop h off), flat_drop h]

theorem flat_at {us : List Value} {e : Nat} (h : ∀ u ∈ us, u.cells.size = e) {i : Nat} {u : Value} (hu : us[i]? = some u) : ∀ j, j < e → (flat us)[i * e + j]? = u.cells.toList[j]? := by
  induction us generalizing i with
  | nil => simp at hu
  | cons v us ih =>
    intro j hj
    have hv := h v (by simp)
    cases i with
    | zero =>
      simp at hu
      subst hu
      rw [flat_cons, Nat.zero_mul, Nat.zero_add, List.getElem?_append_left (by simp [hv]; exact hj)]
    | succ i =>
      simp at hu
      have := ih (fun v hv => h v (by simp [hv])) hu j hj
      rw [flat_cons, List.getElem?_append_right (by simp [hv, Nat.add_mul]; omega), ← this]
      grind

theorem flat_set {us : List Value} {e : Nat} (h : ∀ u ∈ us, u.cells.size = e) {i : Nat} {u u' : Value} (hu : us[i]? = some u) (hu' : u'.cells.size = e) :
    flat (us.set i u') = (flat us).take (i * e) ++ u'.cells.toList ++ (flat us).drop (i * e + e) := by
  induction us generalizing i with
  | nil => simp at hu
  | cons v us ih =>
    have hv := h v (by simp)
    cases i with
    | zero =>
      simp at hu
      subst hu
      rw [List.set_cons_zero, flat_cons, flat_cons]
      simp [hv]
    | succ i =>
      simp at hu
      rw [List.set_cons_succ, flat_cons, ih (fun v hv => h v (by simp [hv])) hu, flat_cons, Nat.add_mul, Nat.one_mul]
      rw [List.take_append, List.drop_append]
      have h1 : i * e + e - v.cells.toList.length = i * e := by simp [hv]
      have h2 : v.cells.toList.take (i * e + e) = v.cells.toList := by apply List.take_of_length_le; simp [hv]
      simp_all

theorem one_drop {us : List Value} (h : ∀ u ∈ flat us, u.oneCell' = true) (k : Nat) : ∀ u ∈ flat (us.drop k), u.oneCell' = true := by
  intro u hu
  apply h
  simp only [flat, List.mem_flatMap] at hu ⊢
  grind
theorem one_take {us : List Value} (h : ∀ u ∈ flat us, u.oneCell' = true) (k : Nat) : ∀ u ∈ flat (us.take k), u.oneCell' = true := by
  intro u hu
  apply h
  simp only [flat, List.mem_flatMap] at hu ⊢
  grind

/-! ### freezing -/

/-- The cells that a box shows when it is frozen. -/
def fzOf (σ : Sg) (H : Heap) (ids : List Nat) (b c : Nat) : Prop :=
  ∃ id bx L, id ∈ ids ∧ H[id]? = some bx ∧ bx.live = true ∧ σ.box id = some L ∧ L.v.ownBlock = some b ∧ c < bx.xs.length * L.esz

def Sg.freeze (σ : Sg) (H : Heap) (ids : List Nat) : Sg := { σ with fz := fun b c => σ.fz b c ∨ fzOf σ H ids b c }

theorem bump_get (H : Heap) (ids : List Nat) (i : Nat) : (bump H ids)[i]? = (H[i]?).map fun b => if i ∈ ids then { b with floor := b.xs.length } else b := by
  induction ids generalizing H with
  | nil => simp [bump]
  | cons k ks ih =>
    rw [bump, ih, List.getElem?_modify]
    grind

theorem bump_length (H : Heap) (ids : List Nat) : (bump H ids).length = H.length := by
  induction ids generalizing H with
  | nil => rfl
  | cons k ks ih => rw [bump, ih]; simp

theorem freeB_bump (H : Heap) (ids : List Nat) (k : Nat) : freeB (bump H ids) k = freeB H k := by
  unfold freeB
  rw [bump_get, bump_length]
  grind

theorem ownsRow_cells {w : World} {B : Nat} {e : TypeId} {esz : Nat} {v : Value} {n : Nat} {xs : List Value} {g : Nat} (h : ownR w B e esz v n xs) (hg : v.ownBlock = some g) :
    ∀ j u, xs[j]? = some u → w.cell? ⟨g, j, none⟩ = some u := by
  intro j u hu
  have := h.cells hg j u hu
  rw [Addr.add_mid, Nat.zero_add] at this
  exact this

theorem Inv.freeze {B w0 σ H w} (h : Inv B w0 σ H w) (ids : List Nat) : Inv B w0 (σ.freeze H ids) (bump H ids) w ∧ Ext σ w (σ.freeze H ids) w := by
  have e : Ext σ w (σ.freeze H ids) w := ⟨fun id L hL => ⟨L, hL, rfl, .inl rfl⟩, fun b c hc => ⟨.inl hc, rfl⟩, Mapk.same rfl⟩
  have hget : ∀ i b, (bump H ids)[i]? = some b → ∃ b0, H[i]? = some b0 ∧ b.live = b0.live ∧ b.xs = b0.xs ∧ b.elem = b0.elem ∧ b.esz = b0.esz ∧ b.nilp = b0.nilp ∧ b.row = b0.row ∧ (b.floor = if i ∈ ids then b0.xs.length else b0.floor) := by
    intro i b hb
    rw [bump_get] at hb
    cases hh : H[i]? with
    | none => simp [hh] at hb
    | some b0 =>
      grind
  refine ⟨⟨h.below, h.size, fun id L hL => by
    obtain ⟨b1, c1, c2⟩ := h.dom id L hL
    exact ⟨if id ∈ ids then { b1 with floor := b1.xs.length } else b1, by rw [bump_get, c1]; rfl, by split <;> exact c2⟩, ?_, ?_, ?_, ?_, ?_, ?_, ?_, h.maps.step' e rfl (fun i b hb => by obtain ⟨b0, h0, h1, h2, _, _, h5, h6, _⟩ := hget i b hb; exact ⟨b0, h0, by simp [mapB, h1, h5, h6], h2⟩) (fun i b0 h0 => ⟨if i ∈ ids then { b0 with floor := b0.xs.length } else b0, by rw [bump_get, h0]; rfl, by split <;> rfl⟩) (Nat.le_refl _) fun _ _ _ => rfl⟩, e⟩
  · intro id bx hb hl
    obtain ⟨b0, h0, h1, h2, h3, h4, h5, h6, _⟩ := hget id bx hb
    obtain ⟨L, hL, hok⟩ := h.boxes id b0 h0 (by rw [← h1]; exact hl)
    obtain ⟨us, r1, r2, r3, r4⟩ := hok.reps
    refine ⟨L, hL, ⟨by rw [h2]; exact hok.tot, ⟨us, ?_, r2, r3, ?_⟩, by rw [h5]; exact hok.nilp, by rw [h4]; exact hok.esz, by rw [h2]; exact hok.oks, fun hr => by rw [h2]; exact hok.fzs (by rw [← h6]; exact hr)⟩⟩
    · rw [h2]; exact r1.ext e
    simp_all
  · intro i j b1 b2 L1 L2 g h1 h2 l1 l2 s1 s2 g1 g2
    obtain ⟨c1, k1, k2, _⟩ := hget i b1 h1
    obtain ⟨c2, m1, m2, _⟩ := hget j b2 h2
    exact h.apart i j c1 c2 L1 L2 g k1 m1 (by rw [← k2]; exact l1) (by rw [← m2]; exact l2) s1 s2 g1 g2
  · intro b c hc
    rcases hc with hc | ⟨id, bx, L, _, hb, hl, hL, hg, hlt⟩
    · exact h.cells b c hc
    · obtain ⟨L', hL', hok⟩ := h.boxes id bx hb hl
      rw [hL] at hL'
      cases hL'
      obtain ⟨us, r1, r2, r3, r4⟩ := hok.reps
      have hlen : c < (flat us).length := by rw [r4.1]; exact hlt
      exact ⟨_, ownsRow_cells r4 hg c _ (List.getElem?_eq_getElem hlen)⟩
  · intro b c hc i bx L hb hl hL hg
    obtain ⟨b0, h0, h1, h2, h3, h4, h5, _, h6⟩ := hget i bx hb
    have hl0 : b0.live = true := by rw [← h1]; exact hl
    rcases hc with hc | ⟨id, bx', L', hid, hb', hl', hL', hg', hlt⟩
    · have := h.floor b c hc i b0 L h0 hl0 hL hg
      rw [h6]
      split
      · obtain ⟨L2, hL2, hok⟩ := h.boxes i b0 h0 hl0
        rw [show σ.box i = some L from hL] at hL2
        cases hL2
        obtain ⟨u, hu⟩ := h.cells b c hc
        exact Nat.lt_of_lt_of_le this (Nat.mul_le_mul_right _ (h.low i b0 h0 hl0))
      · exact this
    · have hi : id = i := h.apart id i bx' b0 L' L b hb' h0 hl' hl0 hL' hL hg' hg
      subst hi
      rw [h0] at hb'
      cases hb'
      rw [show σ.box id = some L from hL] at hL'
      cases hL'
      rw [h6, if_pos hid]
      exact hlt
  · intro i bx hb hl
    obtain ⟨b0, h0, h1, h2, h3, h4, h5, _, h6⟩ := hget i bx hb
    rw [h6, h2]
    split
    · exact Nat.le_refl _
    · exact h.low i b0 h0 (by rw [← h1]; exact hl)
  · intro b c hc hlt
    rcases hc with hc | ⟨id, bx', L', hid, hb', hl', hL', hg', hlt'⟩
    · exact h.old b c hc hlt
    · obtain ⟨L2, hL2, hok⟩ := h.boxes id bx' hb' hl'
      rw [show σ.box id = some L' from hL'] at hL2
      cases hL2
      have := (hok.block_lt hg').1
      omega
  · intro b hb
    obtain ⟨k1, k2, k3, k4⟩ := h.kept b hb
    refine ⟨k1, k2, k3, fun c hc => ?_⟩
    rcases hc with hc | ⟨id, bx', L', hid, hb', hl', hL', hg', hlt'⟩
    · exact k4 c hc
    grind

end Go.Proofs.YtpikcdlhgiooaaaGreat.Le

/-
  An evaluator for the model's code over pure values: what a reference into a row shows; frozen values; cells.
-/
namespace Go.Proofs.YtpikcdlhgiooaaaGreat.Le
set_option linter.unusedVariables false
open Go.RowKit (Below)

theorem boxAt_some {H : Heap} {id tot : Nat} {b : Box} (h : boxAt H id tot = some b) : H[id]? = some b ∧ b.live = true ∧ b.xs.length = tot := by
  unfold boxAt at h
  grind

/-- What is known of a box that is met. -/
structure Met (B : Nat) (w0 : Start) (σ : Sg) (H : Heap) (w : World) (id : Nat) (b : Box) (L : Loc) (us : List Value) : Prop where
  hb : H[id]? = some b
  live : b.live = true
  box : σ.box id = some L
  tot : L.tot = b.xs.length
  reps : Reps σ w b.xs us
  sizes : ∀ u ∈ us, u.cells.size = L.esz
  ones : ∀ u ∈ flat us, u.oneCell' = true
  own : ownR w B b.elem L.esz L.v b.xs.length (flat us)
  nilp : b.nilp = true → L.v = .slice none 0 0
  esz : b.esz = L.esz
  oks : ∀ x ∈ b.xs, okV x = true
  fzs : b.row = true → ∀ x ∈ b.xs, noRef x = true
  shape : (L.v = .slice none 0 0 ∧ b.xs = [] ∧ us = []) ∨ ∃ g cap cur tg, L.v = .slice (some ⟨g, 0, none⟩) b.xs.length cap ∧ B ≤ g ∧ w.heap[g]? = some (.cells cur b.elem tg) ∧ noMark tg cur.size ∧ b.xs.length ≤ cap ∧ cap ≤ maxLen ∧ cur.size = cap * L.esz ∧ cur.toList.take (b.xs.length * L.esz) = flat us

theorem Inv.meet {B w0 σ H w} (h : Inv B w0 σ H w) {id : Nat} {b : Box} (hb : H[id]? = some b) (hl : b.live = true) : ∃ L us, Met B w0 σ H w id b L us := by
  obtain ⟨L, hL, hok⟩ := h.boxes id b hb hl
  obtain ⟨us, r1, r2, r3, r4⟩ := hok.reps
  refine ⟨L, us, hb, hl, hL, hok.tot, r1, r2, r3, r4, hok.nilp, hok.esz, hok.oks, hok.fzs, ?_⟩
  rcases r4.2 with ⟨hv, hn⟩ | ⟨g, cap, cur, tg, hv, hg, hh, htg, hn, hm, hs, ht⟩
  · have hx : b.xs = [] := List.eq_nil_of_length_eq_zero hn
    refine .inl ⟨hv, hx, ?_⟩
    rw [hx] at r1
    exact r1.nil_left
  · exact .inr ⟨g, cap, cur, tg, hv, hg, hh, htg, hn, hm, hs, ht⟩

theorem Met.fz {B w0 σ H w id b L us} (m : Met B w0 σ H w id b L us) (hr : b.row = true) : ∀ x ∈ b.xs, fzV x = true := fun x hx => by
  simp [fzV, m.oks x hx, m.fzs hr x hx]

theorem Met.len {B w0 σ H w id b L us} (m : Met B w0 σ H w id b L us) : us.length = b.xs.length := m.reps.length.symm

theorem Met.cell {B w0 σ H w id b L us} (m : Met B w0 σ H w id b L us) {g : Nat} (hg : L.v.ownBlock = some g) : ∀ j u, (flat us)[j]? = some u → w.cell? ⟨g, j, none⟩ = some u :=
  ownsRow_cells m.own hg

/-- A reference to elements of a row, as a slice value. -/
theorem lsl_view {B w0 σ H w} (h : Inv B w0 σ H w) {id off len tot : Nat} {v : Value} {b : Box} (hr : Reps σ w [.lsl id off len tot] [v]) (hb : boxAt H id tot = some b) :
    ∃ L us, Met B w0 σ H w id b L us ∧ b.xs.length = tot ∧ off + len ≤ tot ∧ isSub L.v L.esz off len v ∧
      ((L.v = .slice none 0 0 ∧ v = .slice none 0 0 ∧ off = 0 ∧ len = 0 ∧ tot = 0) ∨
       ∃ g cap k, L.v = .slice (some ⟨g, 0, none⟩) tot cap ∧ v = .slice (some ⟨g, k * L.esz, none⟩) len (cap - off) ∧ tot ≤ cap ∧ cap ≤ maxLen ∧ k ≤ off ∧ (off < cap → k = off)) := by
  obtain ⟨h1, h2, h3⟩ := boxAt_some hb
  obtain ⟨L, us, m⟩ := h.meet h1 h2
  cases hr with
  | lsl k1 k2 k3 k4 _ =>
    rename_i L'
    rw [m.box] at k1
    cases k1
    have htot : L.tot = tot := m.tot.trans h3
    obtain ⟨hol, hs⟩ := k3 htot
    refine ⟨L, us, m, h3, hol, hs, ?_⟩
    obtain ⟨a, n, c, k, e1, e2, e3, e4, e5⟩ := hs
    rcases m.shape with ⟨hv, hx, hu⟩ | ⟨g, cap, cur, tg, hv, hg, hh, htg, hn, hm, hsz, ht⟩
    · grind
    · right
      rw [hv] at e1
      cases e1
      rw [h3] at hv hn
      refine ⟨g, _, k, hv, ?_, hn, hm, e4, e5⟩
      rw [e2]
      simp [Addr.add_mid]

theorem reps_sub {σ w es us} (h : Reps σ w es us) (off len : Nat) : Reps σ w ((es.drop off).take len) ((us.drop off).take len) := (h.drop off).take len

theorem frz0_reps {B w0 σ H w} (h : Inv B w0 σ H w) {x x' : V} {v : Value} (hr : Reps σ w [x] [v]) (hf : frz0 H x = some x') (ids : List Nat) (hids : ∀ i ∈ ids1 x, i ∈ ids) :
    Reps (σ.freeze H ids) w [x'] [v] := by
  have e := (h.freeze ids).2
  unfold frz0 at hf
  split at hf
  · cases hf; exact hr.ext e
  · cases hf; exact hr.ext e
  · cases hf
    refine Reps.ext ?_ e
    cases hr with
    | sltnil _ => exact .slnil .nil
    | sltemp a _ => exact .slemp a .nil
    | slt b o _ k0 k1 k2 k3 k4 k5 _ => exact .sl b o _ _ k0 k1 k2 k3 (Nat.le_refl _) k4 k5 .nil
  · rename_i id off len tot
    split at hf
    · rename_i b hb
      split at hf
      · rename_i hc
        simp only [Bool.and_eq_true, decide_eq_true_eq] at hc
        simp only [Option.some.injEq] at hf
        subst hf
        obtain ⟨L, us, m, hxl, hol, hs, hview⟩ := lsl_view h hr hb
        rcases hview with ⟨hv, hvv, ho, hl, ht⟩ | ⟨g, cap, k, hv, hvv, hle, hmx, hk1, hk2⟩
        · have hx : b.xs = [] := List.eq_nil_of_length_eq_zero (by omega)
          rw [hx, hvv]
          simp only [List.drop_nil, List.take_nil]
          exact .slnil .nil
        · rw [m.esz, hvv]
          have hlen : ((b.xs.drop off).take len).length = len := by simp; omega
          have hgoal := Reps.sl (σ := σ.freeze H ids) (w := w) (xs := []) (vs := []) (es := (b.xs.drop off).take len) (us := (us.drop off).take len) g (k * L.esz) (cap - off) L.esz
            ((reps_sub m.reps off len).ext e) (fun x hx => m.fz hc.1 x (List.mem_of_mem_drop (List.mem_of_mem_take hx))) (sizes_take (sizes_drop m.sizes off) len) (one_take (one_drop m.ones off) len) (by rw [hlen]; omega) (by omega) ?_ .nil
          · simp_all
          · intro j u hu
            rw [flat_sub m.sizes] at hu
            have hj : j < len * L.esz := by
              have := (List.getElem?_eq_some_iff.1 hu).1
              simp at this
              omega
            rw [List.getElem?_take, if_pos hj, List.getElem?_drop] at hu
            have hlpos : 0 < len := by
              cases len with
              | zero => simp at hj
              | succ n => omega
            have hk : k = off := hk2 (by omega)
            subst hk
            have hown : L.v.ownBlock = some g := by rw [hv]; rfl
            refine ⟨.inr ⟨id, b, L, hids id (by simp [ids1]), m.hb, m.live, m.box, hown, ?_⟩, m.cell hown _ _ hu⟩
            have := (List.getElem?_eq_some_iff.1 hu).1
            rw [flat_length m.sizes, m.len] at this
            exact this
      · cases hf
    · cases hf
  · cases hf; exact hr.ext e
  · cases hf; exact hr.ext e
  · cases hf

theorem frz0_noRef {B w0 σ H w} (h : Inv B w0 σ H w) {x x' : V} {v : Value} (hr : Reps σ w [x] [v]) (hf : frz0 H x = some x') : noRef x' = true := by
  unfold frz0 at hf
  split at hf
  · cases hf; rfl
  · cases hf
    cases hr with
    | slnil _ => rfl
    | slemp a _ => rfl
    | sl b o c e' _ h0 h1 h2 h3 h4 h5 _ => exact fzV_noRefs h0
  · cases hf
    cases hr with
    | sltnil _ => rfl
    | sltemp a _ => rfl
    | slt b o e' _ h0 h1 h2 h3 h4 _ => exact fzV_noRefs h0
  · rename_i id off len tot
    split at hf
    · rename_i b hb
      split at hf
      · rename_i hc
        simp only [Bool.and_eq_true, decide_eq_true_eq] at hc
        simp only [Option.some.injEq] at hf
        subst hf
        obtain ⟨L, us, m, _⟩ := lsl_view h hr hb
        exact (noRefs_iff _).2 fun x hx => m.fzs hc.1 x (List.mem_of_mem_drop (List.mem_of_mem_take hx))
      · cases hf
    · cases hf
  · cases hf; rfl
  · cases hf; rfl
  · cases hf

theorem frzL_noRef {B w0 σ H w} (h : Inv B w0 σ H w) {xs xs' : List V} {vs : List Value} (hr : Reps σ w xs vs) (hf : frzL H xs = some xs') : noRefs xs' = true := by
  induction xs generalizing xs' vs with
  | nil => simp only [frzL, Option.some.injEq] at hf; subst hf; rfl
  | cons x xs ih =>
    obtain ⟨v, vs', rfl, h1, h2⟩ := hr.cons_left
    simp only [frzL] at hf
    split at hf
    · rename_i w1 ws hw hws
      simp only [Option.some.injEq] at hf
      subst hf
      simp [noRefs, frz0_noRef h h1 hw, ih h2 hws]
    · cases hf

theorem frz_noRef {B w0 σ H w} (h : Inv B w0 σ H w) {x x' : V} {v : Value} (hr : Reps σ w [x] [v]) (hf : frz H x = some x') : noRef x' = true := by
  unfold frz at hf
  split at hf
  · rename_i cs
    cases hr with
    | agg h1 ho _ =>
      cases hl : frzL H cs with
      | none => simp [hl] at hf
      | some cs' =>
        simp only [hl, Option.map_some, Option.some.injEq] at hf
        subst hf
        exact frzL_noRef h h1 hl
  · exact frz0_noRef h hr hf

theorem frzAll_noRef {B w0 σ H w} (h : Inv B w0 σ H w) {xs xs' : List V} {vs : List Value} (hr : Reps σ w xs vs) (hf : frzAll H xs = some xs') : noRefs xs' = true := by
  induction xs generalizing xs' vs with
  | nil => simp only [frzAll, Option.some.injEq] at hf; subst hf; rfl
  | cons x xs ih =>
    obtain ⟨v, vs', rfl, h1, h2⟩ := hr.cons_left
    simp only [frzAll] at hf
    split at hf
    · rename_i w1 ws hw hws
      simp only [Option.some.injEq] at hf
      subst hf
      simp [noRefs, frz_noRef h h1 hw, ih h2 hws]
    · cases hf

theorem frzL_reps {B w0 σ H w} (h : Inv B w0 σ H w) {xs xs' : List V} {vs : List Value} (hr : Reps σ w xs vs) (hf : frzL H xs = some xs') (ids : List Nat) (hids : ∀ i ∈ xs.flatMap ids1, i ∈ ids) :
    Reps (σ.freeze H ids) w xs' vs := by
  induction xs generalizing xs' vs with
  | nil =>
    cases hr.nil_left
    simp only [frzL, Option.some.injEq] at hf
    subst hf
    exact .nil
  | cons x xs ih =>
    obtain ⟨v, vs', rfl, h1, h2⟩ := hr.cons_left
    simp only [frzL] at hf
    split at hf
    · rename_i w1 ws hw hws
      simp only [Option.some.injEq] at hf
      subst hf
      refine Reps.cons_iff.2 ⟨frz0_reps h h1 hw ids (fun i hi => hids i (by simp [hi])), ih h2 hws (fun i hi => hids i ?_)⟩
      simp_all
    · cases hf

theorem frz_reps {B w0 σ H w} (h : Inv B w0 σ H w) {x x' : V} {v : Value} (hr : Reps σ w [x] [v]) (hf : frz H x = some x') (ids : List Nat) (hids : ∀ i ∈ idsA x, i ∈ ids) :
    Reps (σ.freeze H ids) w [x'] [v] := by
  unfold frz at hf
  split at hf
  · rename_i cs
    cases hr with
    | agg h1 ho _ =>
      cases hl : frzL H cs with
      | none => simp [hl] at hf
      | some cs' =>
        simp only [hl, Option.map_some, Option.some.injEq] at hf
        subst hf
        exact .agg (frzL_reps h h1 hl ids (by simpa [idsA] using hids)) ho .nil
  · rename_i hne
    refine frz0_reps h hr hf ids (fun i hi => hids i ?_)
    cases x <;> simp_all [idsA, ids1]

theorem frzAll_reps {B w0 σ H w} (h : Inv B w0 σ H w) {xs xs' : List V} {vs : List Value} (hr : Reps σ w xs vs) (hf : frzAll H xs = some xs') (ids : List Nat) (hids : ∀ i ∈ xs.flatMap idsA, i ∈ ids) :
    Reps (σ.freeze H ids) w xs' vs := by
  induction xs generalizing xs' vs with
  | nil =>
    cases hr.nil_left
    simp only [frzAll, Option.some.injEq] at hf
    subst hf
    exact .nil
  | cons x xs ih =>
    obtain ⟨v, vs', rfl, h1, h2⟩ := hr.cons_left
    simp only [frzAll] at hf
    split at hf
    · rename_i w1 ws hw hws
      simp only [Option.some.injEq] at hf
      subst hf
      refine Reps.cons_iff.2 ⟨frz_reps h h1 hw ids (fun i hi => hids i (by simp [hi])), ih h2 hws (fun i hi => hids i ?_)⟩
      simp_all
    · cases hf

/-! ### surely nil slices shown as empty ones -/

theorem retype1_reps {σ w x v} (e : Nat) (h : Reps σ w [x] [v]) : Reps σ w [retype1 e x] [v] := by
  unfold retype1
  split
  · cases h with
    | slnil _ => exact .slnil .nil
  · exact h

theorem retypeL_reps {σ w} : ∀ (es : List Nat) {xs : List V} {vs : List Value}, Reps σ w xs vs → Reps σ w (retypeL es xs) vs := by
  intro es
  induction es with
  | nil => intro xs vs h; simpa [retypeL] using h
  | cons e es ih =>
    intro xs vs h
    cases xs with
    | nil => simpa [retypeL] using h
    | cons x xs =>
      obtain ⟨v, vs', rfl, h1, h2⟩ := h.cons_left
      exact Reps.cons_iff.2 ⟨retype1_reps e h1, ih h2⟩

theorem retype_reps {σ w x v} (es : List Nat) (h : Reps σ w [x] [v]) : Reps σ w [retype es x] [v] := by
  unfold retype
  split
  · cases h with
    | agg h1 ho _ => exact .agg (retypeL_reps es h1) ho .nil
  · exact retype1_reps _ h

theorem retypes_reps {σ w} (es : List Nat) {xs : List V} {vs : List Value} (h : Reps σ w xs vs) : Reps σ w (xs.map (retype es)) vs := by
  induction xs generalizing vs with
  | nil => simpa using h
  | cons x xs ih =>
    obtain ⟨v, vs', rfl, h1, h2⟩ := h.cons_left
    exact Reps.cons_iff.2 ⟨retype_reps es h1, ih h2⟩

theorem retypeAll_reps {σ w} (rows : TypeId → List Nat) : ∀ (ts : List TypeId) {xs : List V} {vs : List Value}, Reps σ w xs vs → Reps σ w (retypeAll rows ts xs) vs := by
  intro ts
  induction ts with
  | nil => intro xs vs h; simpa [retypeAll] using h
  | cons t ts ih =>
    intro xs vs h
    cases xs with
    | nil => simpa [retypeAll] using h
    | cons x xs =>
      obtain ⟨v, vs', rfl, h1, h2⟩ := h.cons_left
      exact Reps.cons_iff.2 ⟨retype_reps _ h1, ih h2⟩

theorem retype1_noRef (e : Nat) (x : V) : noRef (retype1 e x) = noRef x := by
  unfold retype1; split <;> simp [noRef]
theorem retypeL_noRef : ∀ (es : List Nat) (xs : List V), noRefs (retypeL es xs) = noRefs xs := by
  intro es
  induction es with
  | nil => intro xs; simp [retypeL]
  | cons e es ih => intro xs; cases xs <;> simp [retypeL, noRefs, retype1_noRef, ih]
theorem retype_noRef (es : List Nat) (x : V) : noRef (retype es x) = noRef x := by
  unfold retype; split
  · simp [noRef, retypeL_noRef]
  · exact retype1_noRef _ _
theorem retypeAll_noRef (rows : TypeId → List Nat) : ∀ (ts : List TypeId) (xs : List V), noRefs (retypeAll rows ts xs) = noRefs xs := by
  intro ts
  induction ts with
  | nil => intro xs; simp [retypeAll]
  | cons t ts ih => intro xs; cases xs <;> simp [retypeAll, noRefs, retype_noRef, ih]
theorem retype1_ok (e : Nat) (x : V) : okV (retype1 e x) = okV x := by
  unfold retype1; split <;> simp [okV]
theorem retype_ok (es : List Nat) (x : V) : okV (retype es x) = okV x := by
  unfold retype; split
  · simp [okV]
  · exact retype1_ok _ _
theorem retypeL_length : ∀ (es : List Nat) (xs : List V), (retypeL es xs).length = xs.length := by
  intro es
  induction es with
  | nil => intro xs; simp [retypeL]
  | cons e es ih => intro xs; cases xs <;> simp [retypeL, ih]
theorem retype1_len (e : Nat) (x : V) : (retype1 e x).cells.length = x.cells.length := by
  unfold retype1; split <;> simp [V.cells]
theorem retype_len (es : List Nat) (x : V) : (retype es x).cells.length = x.cells.length := by
  unfold retype; split
  · simp [V.cells, retypeL_length]
  · exact retype1_len _ _

/-- The cells of a value that may lie in memory. -/
theorem Reps.cells {σ w x v} (h : Reps σ w [x] [v]) (ho : okV x = true) : Reps σ w x.cells v.cells.toList ∧ (∀ u ∈ v.cells.toList, u.oneCell' = true) := by
  cases h with
  | und u h => simp [okV] at ho
  | no h => simp [okV] at ho
  | tup _ h => simp [okV] at ho
  | mref g hg h => exact ⟨.mref g hg .nil, by simp [Value.cells, Value.oneCell']⟩
  | agg h1 h2 _ => exact ⟨by simpa [V.cells, Value.cells] using h1, by simpa [Value.cells] using h2⟩
  | lit hl _ =>
    cases v <;> simp [leaf] at hl <;> simp [V.cells, Value.cells, Value.oneCell'] <;> exact .lit (by simp [leaf, hl]) .nil
  | slnil h => exact ⟨.slnil .nil, by simp [Value.cells, Value.oneCell']⟩
  | sltnil h => exact ⟨.sltnil .nil, by simp [Value.cells, Value.oneCell']⟩
  | slemp a h => exact ⟨.slemp a .nil, by simp [Value.cells, Value.oneCell']⟩
  | sltemp a h => exact ⟨.sltemp a .nil, by simp [Value.cells, Value.oneCell']⟩
  | sl b o c e h0 h1 h2 h3 h4 h5 h6 _ => exact ⟨.sl b o c e h0 h1 h2 h3 h4 h5 h6 .nil, by simp [Value.cells, Value.oneCell']⟩
  | slt b o e h0 h1 h2 h3 h4 h5 _ => exact ⟨.slt b o e h0 h1 h2 h3 h4 h5 .nil, by simp [Value.cells, Value.oneCell']⟩
  | lsl h1 h2 h3 h4 _ =>
    obtain ⟨a, n, c, rfl⟩ := h4
    exact ⟨.lsl h1 h2 h3 ⟨a, n, c, rfl⟩ .nil, by simp [Value.cells, Value.oneCell']⟩
  | ptr g h1 h2 h3 h4 _ =>
    subst h4
    exact ⟨.ptr g h1 h2 h3 rfl .nil, by simp [Value.cells, Value.oneCell']⟩
  | ept b o e i off h0 h1 h2 h3 h4 _ => exact ⟨.ept b o e i off h0 h1 h2 h3 h4 .nil, by simp [Value.cells, Value.oneCell']⟩
  | fn h1 h2 _ => exact ⟨.fn h1 h2 .nil, by simp [Value.cells, Value.oneCell']⟩
  | ifc h1 _ => exact ⟨.ifc h1 .nil, by simp [Value.cells, Value.oneCell']⟩

theorem Reps.cells_len {σ w x v} (h : Reps σ w [x] [v]) (ho : okV x = true) : x.cells.length = v.cells.size := by
  have := (h.cells ho).1.length
  simpa using this

end Go.Proofs.YtpikcdlhgiooaaaGreat.Le

/-
  An evaluator for the model's code over pure values: operands, reading and writing memory.
-/
namespace Go.Proofs.YtpikcdlhgiooaaaGreat.Le
set_option linter.unusedVariables false
open Go.RowKit (Below)

structure EnvOK (E : Env) : Prop where
  ti : ∀ t i, E.ti t = some i → tiOf E.P t = some i
  func : ∀ f fn, E.func f = some fn → E.P.funcs[f]? = some fn ∧ (fn.name == "runtime.NumGoroutine") = false
  mix : E.P.follows .mixedOrders = true
  calm : ∀ f fn c, E.func f = some fn → fn.body = some c → calmC E f c = true
  kind : ∀ t k, E.kind t = some k → E.P.underlying t = some (.int k)
  isStr : ∀ t, E.isStr t = true → E.P.underlying t = some .string
  isBool : ∀ t, E.isBool t = true → E.P.underlying t = some .bool
  flat : ∀ t ks, E.flat t = some ks → flatOf E.P t = some ks
  isBytes : ∀ t, E.isBytes t = true → ∃ e, E.P.underlying t = some (.slice e) ∧ E.P.underlying e = some (.int .u8)

def GlobOK (E : Env) (σ : Sg) (w : World) : Prop := ∀ g r, E.glob g = some r → Reps σ w [.ept r.length [.agg r] 0 0] [.pointer (some ⟨g, 0, none⟩)]
theorem GlobOK.ext {E σ w σ' w'} (h : GlobOK E σ w) (e : Ext σ w σ' w') : GlobOK E σ' w' := fun g r hg => (h g r hg).ext e

/-! ### constants and operands -/

theorem ofCell_reps (σ : Sg) (w : World) (v : Value) (h : cellOk v = true) : Reps σ w [ofCell v] [v] ∧ v.oneCell' = true := by
  unfold ofCell
  split
  · exact ⟨.slnil .nil, rfl⟩
  · rename_i hne
    have hl : leaf v = true := by
      unfold cellOk at h
      split at h
      · exact absurd rfl hne
      · exact h
    rw [if_pos hl]
    exact ⟨.lit hl .nil, by cases v <;> simp_all [leaf, Value.oneCell']⟩

theorem ofCells_reps (σ : Sg) (w : World) (vs : List Value) (h : vs.all cellOk = true) : Reps σ w (vs.map ofCell) vs ∧ ∀ u ∈ vs, u.oneCell' = true := by
  induction vs with
  | nil => exact ⟨.nil, by simp⟩
  | cons v vs ih =>
    simp only [List.all_cons, Bool.and_eq_true] at h
    obtain ⟨h1, h2⟩ := ofCell_reps σ w v h.1
    obtain ⟨h3, h4⟩ := ih h.2
    exact ⟨Reps.cons_iff.2 ⟨h1, h3⟩, by simp_all⟩

theorem ofConst_reps (σ : Sg) (w : World) (v : Value) : Reps σ w [ofConst v] [v] := by
  have hcell : ∀ u : Value, Reps σ w [if cellOk u then ofCell u else .und] [u] := by
    intro u
    split
    · rename_i h; exact (ofCell_reps σ w u h).1
    · exact .und _ .nil
  cases v with
  | agg cs =>
    simp only [ofConst]
    split
    · rename_i h
      obtain ⟨h1, h2⟩ := ofCells_reps σ w cs.toList h
      have := Reps.agg h1 h2 (xs := []) (vs := []) .nil
      simpa using this
    · exact .und _ .nil
  | tuple vs =>
    simp only [ofConst]
    split
    · rename_i h
      have : vs = #[] := by simpa using h
      subst this
      exact .no .nil
    · exact .und _ .nil
  | bool b => exact hcell (.bool b)
  | int k n => exact hcell (.int k n)
  | float k b => exact hcell (.float k b)
  | complex k a b => exact hcell (.complex k a b)
  | string s => exact hcell (.string s)
  | pointer a => exact hcell (.pointer a)
  | slice a n c => exact hcell (.slice a n c)
  | map r => exact hcell (.map r)
  | chan r => exact hcell (.chan r)
  | func f a b => exact hcell (.func f a b)
  | nilFunc => exact hcell .nilFunc
  | iface t v => exact hcell (.iface t v)
  | nilIface => exact hcell .nilIface

theorem getD_reps {σ w s vs} (h : Reps σ w s vs) (t : Nat) : Reps σ w [s.getD t .und] [vs.getD t undef] := by
  cases hs : s[t]? with
  | none => simp only [List.getD, hs, Option.getD_none]; exact .und _ .nil
  | some x =>
    obtain ⟨v, hv, hr⟩ := h.get hs
    simp_all

theorem ev_reps {E σ w s} {a : Act} (hg : GlobOK E σ w) (h : Reps σ w s a.tmps.toList) (x : Operand) : Reps σ w [ev E s x] [a.eval x] := by
  cases x with
  | tmp t =>
    have := getD_reps h t
    simpa [ev, Act.eval, Array.getD_eq_getD_getElem?, List.getD_eq_getElem?_getD] using this
  | const v => exact ofConst_reps σ w v
  | func f => exact .fn .nil .nil .nil
  | global g =>
    simp only [ev, Act.eval]
    cases hh : E.glob g with
    | none => exact .und _ .nil
    | some r => exact hg g r hh

theorem evs_reps {E σ w s} {a : Act} (hg : GlobOK E σ w) (h : Reps σ w s a.tmps.toList) (xs : List Operand) : Reps σ w (xs.map (ev E s)) (xs.map a.eval) := by
  induction xs with
  | nil => exact .nil
  | cons x xs ih => exact Reps.cons_iff.2 ⟨ev_reps hg h x, ih⟩

/-! ### types -/

theorem tiOf_some {P : Program} {t : TypeId} {i : TI} (h : tiOf P t = some i) : ∃ inf d, P.info? t = some inf ∧ P.underlying t = some d ∧ i.ty = tyOf d ∧ i.size = inf.size ∧ i.bytes = inf.bytes ∧ i.zero = inf.zero.map ofConst := by
  unfold tiOf at h
  grind

theorem run_isAgg {P : Program} {t : TypeId} {d : TypeDesc} (w : World) (h : P.underlying t = some d) : (isAgg t).run P w = .ok d.isRow w := by
  unfold isAgg
  rw [Sem.run_bind, run_underlying h w]
  cases d <;> rfl

theorem tyOf_agg {i : TI} {d : TypeDesc} (h : i.ty = tyOf d) : i.isAgg = d.isRow := by
  unfold TI.isAgg
  rw [h]
  cases d <;> rfl

theorem run_sizeOf {P : Program} {t : TypeId} {inf : TypeInfo} (w : World) (h : P.info? t = some inf) : (sizeOf t).run P w = .ok inf.size w := by
  simp [sizeOf, typeInfo, h]

/-! ### reading -/

theorem part_reps {σ w} {cs : List V} {ws : List Value} (h : Reps σ w cs ws) (ho : ∀ u ∈ ws, u.oneCell' = true) {off n : Nat} {ag : Bool} {x' : V} (hp : partOf cs off n ag = some x') :
    (ag = true ∧ off + n ≤ ws.length ∧ Reps σ w [x'] [.agg ((ws.drop off).take n).toArray]) ∨ (ag = false ∧ ∃ u, ws[off]? = some u ∧ Reps σ w [x'] [u]) := by
  unfold partOf at hp
  split at hp
  · rename_i hag
    split at hp
    · rename_i hle
      simp only [Option.some.injEq] at hp
      subst hp
      refine .inl ⟨hag, by rw [← h.length]; exact hle, .agg (reps_sub h off n) ?_ .nil⟩
      grind
    · cases hp
  · rename_i hag
    obtain ⟨u, hu, hr⟩ := h.get hp
    simp_all

/-- Cells are read out of memory: a part of an element. -/
theorem read_reps {E σ w} {P : Program} (hE : EnvOK E) (hP : E.P = P) {t : TypeId} {ti : TI} (hti : E.ti t = some ti) {xs : List V} {us : List Value} {e b o i off : Nat} {x' : V}
    (h : Reps σ w xs us) (hk : ∀ x ∈ xs, okV x = true) (hs : ∀ u ∈ us, u.cells.size = e) (ho : ∀ u ∈ flat us, u.oneCell' = true)
    (hc : ∀ j u, (flat us)[j]? = some u → w.cell? ⟨b, o + j, none⟩ = some u) (hr : readAt xs i off ti.size ti.isAgg = some x') :
    ∃ u, (loadVar t ⟨b, o + i * e + off, none⟩).run P w = .ok u w ∧ Reps σ w [x'] [u] := by
  unfold readAt at hr
  split at hr
  · rename_i x hx
    obtain ⟨uu, hu, hxr⟩ := h.get hx
    have hok := hk x (List.mem_of_getElem? hx)
    obtain ⟨hcr, hco⟩ := hxr.cells hok
    have hsz : uu.cells.size = e := hs uu (List.mem_of_getElem? hu)
    obtain ⟨inf, d, hi, hd, h1, h2, h3, h4⟩ := tiOf_some (hE.ti t ti hti)
    rw [hP] at hi hd
    have hag := tyOf_agg h1
    have hcell : ∀ j u, uu.cells.toList[j]? = some u → w.cell? ⟨b, o + (i * e + j), none⟩ = some u := by
      intro j u hj
      have hlt : j < e := by
        have := (List.getElem?_eq_some_iff.1 hj).1
        simpa [hsz] using this
      exact hc _ _ (by rw [flat_at hs hu j hlt]; exact hj)
    rcases part_reps hcr hco hr with ⟨ha, hle, hres⟩ | ⟨ha, u, hu', hres⟩
    · refine ⟨_, run_loadVar_mid (P := P) w b (o + i * e + off) t _ d ?_ hd (by rw [← hag]; exact ha) ?_, hres⟩
      · intro j v hv
        grind
      grind
    · refine ⟨u, ?_, hres⟩
      have hnag : d.isRow = false := by rw [← hag]; exact ha
      have := hcell _ _ hu'
      have hcell' : w.cell? ⟨b, o + i * e + off, none⟩ = some u := by rw [← this]; congr 2; omega
      unfold loadVar
      rw [Sem.run_bind, run_isAgg w hd, hnag]
      simp [load, Sem.run, hcell']
  · cases hr

theorem load_ok {E B w0 σ H w} {P : Program} (hE : EnvOK E) (hP : E.P = P) (h : Inv B w0 σ H w) {t : TypeId} {a x' : V} {av : Value} (ha : Reps σ w [a] [av]) (hl : loadD E H t a = some x') :
    ∃ u, (Instr.loadAt t av).run P w = .ok u w ∧ Reps σ w [x'] [u] := by
  unfold loadD at hl
  split at hl
  · cases hl
  · rename_i ti hti
    split at hl
    · rename_i e xs j off
      cases ha with
      | ept b o e i off k0 k1 k2 k3 k4 _ =>
        rename_i us
        obtain ⟨u, hu, hr⟩ := read_reps hE hP hti (o := o) k0 (fzV_oks k1) k2 k3 (fun j u hj => (k4 j u hj).2) hl
        exact ⟨u, by simp only [Instr.loadAt, Instr.sureAddr, Sem.run_bind, Sem.run_pure, Result.andThen_ok, hu], hr⟩
    · rename_i id j off tot
      split at hl
      · rename_i b hb
        obtain ⟨h1, h2, h3⟩ := boxAt_some hb
        obtain ⟨L, us, m⟩ := h.meet h1 h2
        cases ha with
        | ptr g k1 k2 k3 k4 _ =>
          rename_i L'
          rw [m.box] at k1
          cases k1
          obtain ⟨n, c, hv⟩ := k3 (m.tot.trans h3)
          have hown : L.v.ownBlock = some g := by rw [hv]; rfl
          subst k4
          obtain ⟨u, hu, hr⟩ := read_reps hE hP hti (o := 0) (b := g) m.reps m.oks m.sizes m.ones (fun j u hj => by rw [Nat.zero_add]; exact m.cell hown j u hj) hl
          rw [Nat.zero_add] at hu
          exact ⟨u, by simp only [Instr.loadAt, Instr.sureAddr, Sem.run_bind, Sem.run_pure, Result.andThen_ok, hu], hr⟩
      · cases hl
    · cases hl

end Go.Proofs.YtpikcdlhgiooaaaGreat.Le

/-
  An evaluator for the model's code over pure values: writing memory, new variables.
-/
namespace Go.Proofs.YtpikcdlhgiooaaaGreat.Le
set_option linter.unusedVariables false
open Go.RowKit (Below)

theorem splice_list {α : Type} (A U C R vals : List α) (off k : Nat) (hk : vals.length = k) (hU : off + k ≤ U.length) :
    (A ++ U ++ C ++ R).take (A.length + off) ++ vals ++ (A ++ U ++ C ++ R).drop (A.length + off + k) = A ++ (U.take off ++ vals ++ U.drop (off + k)) ++ C ++ R := by
  have h1 : (A ++ U ++ C ++ R).take (A.length + off) = A ++ U.take off := by
    rw [List.append_assoc, List.append_assoc, List.take_append, List.take_of_length_le (by omega)]
    congr 1
    rw [show A.length + off - A.length = off from by omega, List.take_append]
    rw [show off - U.length = 0 from by omega]
    simp
  have h2 : (A ++ U ++ C ++ R).drop (A.length + off + k) = U.drop (off + k) ++ C ++ R := by
    rw [List.append_assoc, List.append_assoc, List.drop_append, List.drop_eq_nil_of_le (by omega), List.nil_append]
    rw [show A.length + off + k - A.length = off + k from by omega, List.drop_append]
    rw [show off + k - U.length = 0 from by omega]
    simp
  simp_all

/-- The value of an element with some of its cells replaced. -/
theorem splice_reps {σ w} {x x' : V} {uu : Value} {cs : List V} {vals : List Value} {off : Nat} (hx : Reps σ w [x] [uu]) (hok : okV x = true) (hc : Reps σ w cs vals) (ho : ∀ u ∈ vals, u.oneCell' = true)
    (h : spliceV x off cs = some x') :
    off + vals.length ≤ uu.cells.size ∧ ∃ uu', Reps σ w [x'] [uu'] ∧ uu'.cells.toList = uu.cells.toList.take off ++ vals ++ uu.cells.toList.drop (off + vals.length) := by
  unfold spliceV at h
  split at h
  · rename_i ds
    split at h
    · rename_i hle
      simp only [Option.some.injEq] at h
      subst h
      cases hx with
      | agg h1 h2 h3 =>
        rename_i ws
        have hlen := h1.length
        have hcl := hc.length
        refine ⟨by simp [Value.cells]; omega, .agg (ws.take off ++ vals ++ ws.drop (off + vals.length)).toArray, ?_, by simp [Value.cells]⟩
        rw [hcl]
        refine .agg ((h1.take off).append hc |>.append (h1.drop _)) ?_ .nil
        grind
    · cases h
  · rename_i hna
    split at h
    · rename_i c
      simp only [Option.some.injEq] at h
      subst h
      obtain ⟨v, vs', rfl, h1, h2⟩ := hc.cons_left
      cases h2.nil_left
      have hone : uu.cells.size = 1 := by
        have := hx.cells_len hok
        cases x <;> simp_all [V.cells]
      have hvone : v.cells = #[v] := by
        have := ho v (by simp)
        cases v <;> simp_all [Value.cells, Value.oneCell']
      refine ⟨by simp [hone], v, h1, ?_⟩
      rw [hvone]
      have : uu.cells.toList.drop (0 + [v].length) = [] := by apply List.drop_eq_nil_of_le; simp [hone]
      rw [this]
      simp
    · cases h


/-- A part of an element of a box is written. -/
theorem write_ok {B w0 σ H w} {P : Program} (h : Inv B w0 σ H w) {id : Nat} {b : Box} {L : Loc} {us : List Value} (m : Met B w0 σ H w id b L us) {g n c : Nat} (hv : L.v = .slice (some ⟨g, 0, none⟩) n c)
    {j off : Nat} {x x' x'' : V} {cs : List V} {vals : List Value} (hx : b.xs[j]? = some x) (hc : Reps σ w cs vals) (ho : ∀ u ∈ vals, u.oneCell' = true) (hs : spliceV x off cs = some x') (hxx : ∀ σ w v, Reps σ w [x'] [v] → Reps σ w [x''] [v]) (hok : okV x'' = true) (hnr : b.row = true → noRef x'' = true) (hfl : b.floor ≤ j) :
    ∃ w', (storeCells ⟨g, j * L.esz + off, none⟩ vals).run P w = .ok () w' ∧ Inv B w0 (σ.put id L) (H.set id { b with xs := b.xs.set j x'' }) w' ∧ Ext σ w (σ.put id L) w' := by
  obtain ⟨uu, hu, hxr⟩ := m.reps.get hx
  have hokx := m.oks x (List.mem_of_getElem? hx)
  obtain ⟨hle, uu', hr', hcells⟩ := splice_reps hxr hokx hc ho hs
  have hsz : uu.cells.size = L.esz := m.sizes uu (List.mem_of_getElem? hu)
  have hsz' : uu'.cells.size = L.esz := by
    have := congrArg List.length hcells
    simp at this
    omega
  rcases m.shape with ⟨hn, _, _⟩ | ⟨g', cap, cur, tg, hv', hB, hh, htg, hn, hm, hcs, ht⟩
  · rw [hn] at hv; cases hv
  · rw [hv'] at hv
    cases hv
    have hjlen : j < b.xs.length := (List.getElem?_eq_some_iff.1 hx).1
    have hje : j * L.esz + L.esz ≤ b.xs.length * L.esz := by
      rw [← Nat.succ_mul]; exact Nat.mul_le_mul_right _ hjlen
    have hce : b.xs.length * L.esz ≤ c * L.esz := Nat.mul_le_mul_right _ hn
    have hfit : j * L.esz + off + 0 + vals.length ≤ cur.size := by omega
    have hrun := run_storeCells_tag P g (j * L.esz + off) b.elem tg vals 0 cur w hh htg hfit ho
    simp only [Nat.add_zero] at hrun
    -- the row in parts
    have hF : flat us = (flat us).take (j * L.esz) ++ uu.cells.toList ++ (flat us).drop (j * L.esz + L.esz) := by
      have := flat_set m.sizes hu hsz
      rw [← this]
      congr 1
      apply List.ext_getElem?
      intro i
      rw [List.getElem?_set]
      split
      · grind
      · rfl
    have hA : ((flat us).take (j * L.esz)).length = j * L.esz := by
      rw [List.length_take, flat_length m.sizes, m.len]; omega
    have hcur : cur.toList = (flat us).take (j * L.esz) ++ uu.cells.toList ++ (flat us).drop (j * L.esz + L.esz) ++ cur.toList.drop (b.xs.length * L.esz) := by
      rw [← hF, ← ht, List.take_append_drop]
    have hsp := splice_list ((flat us).take (j * L.esz)) uu.cells.toList ((flat us).drop (j * L.esz + L.esz)) (cur.toList.drop (b.xs.length * L.esz)) vals off vals.length rfl (by simpa using hle)
    rw [hA, ← hcur] at hsp
    rw [hsp] at hrun
    have hflat' : flat (us.set j uu') = (flat us).take (j * L.esz) ++ (uu.cells.toList.take off ++ vals ++ uu.cells.toList.drop (off + vals.length)) ++ (flat us).drop (j * L.esz + L.esz) := by
      rw [flat_set m.sizes hu hsz', hcells]
    rw [← hflat'] at hrun
    have hsizes' : ∀ u ∈ us.set j uu', u.cells.size = L.esz := by
      intro u hu'
      rcases List.mem_or_eq_of_mem_set hu' with hu' | hu'
      · exact m.sizes u hu'
      · rw [hu']; exact hsz'
    have hlen' : (flat (us.set j uu')).length = b.xs.length * L.esz := by
      rw [flat_length hsizes', List.length_set, m.len]
    have hheap := setRow_heap w g cur (flat (us.set j uu') ++ cur.toList.drop (b.xs.length * L.esz)).toArray b.elem tg hh
    have hown : L.v.ownBlock = some g := by rw [hv']; rfl
    have hgb : w.grownBy (w.setRow g (flat (us.set j uu') ++ cur.toList.drop (b.xs.length * L.esz)).toArray) L.v.ownBlock :=
      ⟨rfl, rfl, rfl, by simp, fun k _ hk => setRow_other w g k _ (fun e => hk (by rw [hown, e]))⟩
    refine ⟨_, hrun, ?_⟩
    refine h.upd m.hb m.live m.box hgb { b with xs := b.xs.set j x'' } m.live L rfl (.inl rfl) rfl (by simp) (fun g' hg' => .inl hg') ?_ ?_
    · intro g' c' hg' hc'
      rw [hown] at hg'
      cases hg'
      have hlt : c' < j * L.esz := Nat.lt_of_lt_of_le hc' (Nat.mul_le_mul_right _ hfl)
      rw [cell_setRow_same w g c' cur _ b.elem tg hh, cell_of_row w g c' cur b.elem tg hh]
      rw [List.getElem?_toArray, ← Array.getElem?_toList, hcur, hflat']
      have hlt' : c' < ((flat us).take (j * L.esz)).length := by rw [hA]; exact hlt
      rw [List.append_assoc, List.append_assoc, List.getElem?_append_left hlt', List.append_assoc, List.append_assoc, List.getElem?_append_left hlt']
    · intro e
      refine ⟨by simpa using m.tot, ⟨us.set j uu', (m.reps.ext e).set j (hxx _ _ _ (hr'.ext e)), hsizes', ?_, ?_⟩, m.nilp, m.esz, ?_, fun hrow => ?_⟩
      · intro u hu'
        rw [hflat'] at hu'
        simp only [List.mem_append] at hu'
        rcases hu' with (hu' | (hu' | hu') | hu') | hu'
        · exact m.ones u (List.mem_of_mem_take hu')
        · have := (hxr.cells hokx).2 u (List.mem_of_mem_take hu'); exact this
        · exact ho u hu'
        · exact (hxr.cells hokx).2 u (List.mem_of_mem_drop hu')
        · exact m.ones u (List.mem_of_mem_drop hu')
      · refine ⟨by simpa using hlen', .inr ⟨g, c, _, tg, by simpa using hv', hB, hheap, ?_, by simpa using hn, hm, ?_, ?_⟩⟩
        · have : (flat (us.set j uu') ++ cur.toList.drop (b.xs.length * L.esz)).toArray.size = cur.size := by
            simp only [List.size_toArray, List.length_append, hlen', List.length_drop, Array.length_toList, hcs]
            omega
          grind
        · grind
        · simp only [List.length_set]
          rw [List.take_append_of_le_length (by omega), List.take_of_length_le (by omega)]
      · intro y hy
        rcases List.mem_or_eq_of_mem_set hy with hy | hy
        · exact m.oks y hy
        · rw [hy]; exact hok
      · intro y hy
        rcases List.mem_or_eq_of_mem_set hy with hy | hy
        · exact m.fzs hrow y hy
        grind

theorem splice_noRef {x x' : V} {off : Nat} {cs : List V} (hx : noRef x = true) (hc : noRefs cs = true) (hs : spliceV x off cs = some x') : noRef x' = true := by
  unfold spliceV at hs
  split at hs
  · rename_i ds
    split at hs
    · simp only [Option.some.injEq] at hs
      subst hs
      rw [show noRef (.agg (ds.take off ++ cs ++ ds.drop (off + cs.length))) = noRefs (ds.take off ++ cs ++ ds.drop (off + cs.length)) from rfl, noRefs_iff]
      have hd : ∀ y ∈ ds, noRef y = true := (noRefs_iff ds).1 hx
      have hc' := (noRefs_iff cs).1 hc
      grind
    · cases hs
  · split at hs
    · simp only [Option.some.injEq] at hs
      subst hs
      simpa [noRefs] using hc
    · cases hs

theorem run_storeAt {P : Program} {t : TypeId} {b o : Nat} {v : Value} {inf : TypeInfo} {w w' : World} (hi : P.info? t = some inf) (hs : v.cells.size = inf.size)
    (h : (storeCells ⟨b, o, none⟩ v.cells.toList).run P w = .ok () w') : (Instr.storeAt t (.pointer (some ⟨b, o, none⟩)) v).run P w = .ok () w' := by
  simp [Instr.storeAt, Instr.sureAddr, storeVar, sizeOf, typeInfo, hi, hs, h]

theorem store_ok {E B w0 σ H w} {P : Program} (hE : EnvOK E) (hP : E.P = P) (h : Inv B w0 σ H w) {t : TypeId} {a x : V} {av xv : Value} {H' : Heap}
    (ha : Reps σ w [a] [av]) (hx : Reps σ w [x] [xv]) (hs : storeD E H t a x = some H') :
    ∃ w' σ', (Instr.storeAt t av xv).run P w = .ok () w' ∧ Inv B w0 σ' H' w' ∧ Ext σ w σ' w' := by
  unfold storeD at hs
  split at hs
  · cases hs
  · rename_i ti hti
    obtain ⟨inf, d, hi, hd, h1, h2, h3, h4⟩ := tiOf_some (hE.ti t ti hti)
    rw [hP] at hi hd
    split at hs
    · rename_i id j off tot
      split at hs
      · rename_i b hb
        obtain ⟨b1, b2, b3⟩ := boxAt_some hb
        split at hs
        · rename_i y hy
          split at hs
          · rename_i hc
            simp only [Bool.and_eq_true, beq_iff_eq, decide_eq_true_eq] at hc
            obtain ⟨⟨c1, c2⟩, c3⟩ := hc
            have hsz : xv.cells.size = inf.size := by rw [← hx.cells_len c3, c1, h2]
            cases ha with
            | ptr g k1 k2 k3 k4 k5 =>
              rename_i L'
              subst k4
              split at hs
              · -- the array behind a slice: the value is frozen first
                split at hs
                · rename_i x' hf
                  split at hs
                  · rename_i y1 hy1
                    obtain ⟨y', hy', hyy⟩ : ∃ y', spliceV y off x'.cells = some y' ∧ retype (E.rows b.elem) y' = y1 := by
                      simp_all
                    split at hs
                    · cases hs
                    · rename_i hcc
                      simp only [Option.some.injEq] at hs
                      subst hs
                      simp only [Bool.or_eq_true, Bool.not_eq_true', List.contains_eq_mem, decide_eq_true_eq, not_or, Bool.not_eq_false] at hcc
                      obtain ⟨⟨n1, n2⟩, n3⟩ := hcc
                      obtain ⟨hI, hEx⟩ := h.freeze (idsA x)
                      have hxr := frz_reps h hx hf (idsA x) (fun i hi => hi)
                      have hb' : (bump H (idsA x))[id]? = some b := by rw [bump_get, b1]; simp [n1]
                      obtain ⟨L, us, m⟩ := hI.meet hb' b2
                      have hL : L' = L := by
                        have := m.box
                        simp only [Sg.freeze] at this
                        rw [k1] at this
                        cases this
                        rfl
                      subst hL
                      obtain ⟨n, c, hv⟩ := k3 (m.tot.trans b3)
                      obtain ⟨hcr, hco⟩ := hxr.cells n2
                      obtain ⟨w', hrun, hI', hEx'⟩ := write_ok (P := P) hI m hv hy hcr hco hy' (fun σ w v hq => by rw [← hyy]; exact retype_reps _ hq) n3 (fun hrow => by rw [← hyy, retype_noRef]; exact splice_noRef (m.fzs hrow _ (List.mem_of_getElem? hy)) (noRef_cells (frz_noRef h hx hf)) hy') c2
                      exact ⟨w', _, run_storeAt hi hsz hrun, hI', hEx.trans hEx'⟩
                  · cases hs
                · cases hs
              · split at hs
                · rename_i y' hy'
                  split at hs
                  · rename_i n3
                    simp only [Option.some.injEq] at hs
                    subst hs
                    obtain ⟨L, us, m⟩ := h.meet b1 b2
                    have hL : L' = L := by
                      have := m.box
                      rw [k1] at this
                      cases this
                      rfl
                    subst hL
                    obtain ⟨n, c, hv⟩ := k3 (m.tot.trans b3)
                    obtain ⟨hcr, hco⟩ := hx.cells c3
                    obtain ⟨w', hrun, hI', hEx'⟩ := write_ok (P := P) h m hv hy hcr hco hy' (fun _ _ _ hq => hq) n3 (fun hrow => absurd hrow (by assumption)) c2
                    exact ⟨w', _, run_storeAt hi hsz hrun, hI', hEx'⟩
                  · cases hs
                · cases hs
          · cases hs
        · cases hs
      · cases hs
    · cases hs

/-! ### new rows -/

theorem grownBy_refl (w : World) (row : Option Nat) : w.grownBy w row := ⟨rfl, rfl, rfl, Nat.le_refl _, fun _ _ _ => rfl⟩

/-- A new row of elements (a variable: one element). -/
theorem newRow_ok {B w0 σ H w} (h : Inv B w0 σ H w) {k : Nat} (hk0 : freeB H k = true) {xs : List V} {us : List Value} {e n : Nat} (t : TypeId) (row : Bool) (hr : Reps σ w xs us) (hnr : row = true → ∀ x ∈ xs, noRef x = true) (hk : ∀ x ∈ xs, okV x = true) (hs : ∀ u ∈ us, u.cells.size = e)
    (ho : ∀ u ∈ flat us, u.oneCell' = true) (hn : xs.length ≤ maxLen) :
    ∃ σ', Inv B w0 σ' (place H k (newBox row false t e xs)) (w.alloc (.cells (flat us).toArray t)) ∧ Ext σ w σ' (w.alloc (.cells (flat us).toArray t)) ∧
      σ'.box k = some ⟨.slice (some ⟨w.heap.size, 0, none⟩) xs.length xs.length, xs.length, e⟩ := by
  have hlen : us.length = xs.length := hr.length.symm
  have hsz : (flat us).toArray.size = xs.length * e := by simp [flat_length hs, hlen]
  have hown := ownR.of (World.ownsRow_lit (base := B) (e := t) (size := e) w (flat us).toArray xs.length h.size hn hsz)
  obtain ⟨h1, h2⟩ := h.push (w.grownBy_alloc (.cells (flat us).toArray t) none) hk0 (newBox row false t e xs) rfl ⟨.slice (some ⟨w.heap.size, 0, none⟩) xs.length xs.length, xs.length, e⟩ (by simp [newBox])
    (fun g hg => by simp [Value.ownBlock] at hg; omega) (fun ex => ⟨rfl, ⟨us, hr.ext ex, hs, ho, by simpa [newBox] using hown⟩, by simp [newBox], rfl, hk, hnr⟩)
  exact ⟨_, h1, h2, by simp [Sg.put]⟩

theorem single_flat (u : Value) : flat [u] = u.cells.toList := by simp [flat]

theorem run_newVar {P : Program} (w : World) (t : TypeId) (v : Value) : (newVar t v).run P w = .ok ⟨w.heap.size, 0, none⟩ (w.alloc (.cells v.cells t)) := by
  rfl

/-- A new variable that holds a value. -/
theorem newVar_ok {B w0 σ H w} {P : Program} (h : Inv B w0 σ H w) {k : Nat} (hk0 : freeB H k = true) {x : V} {u : Value} {e : Nat} (t : TypeId) (hr : Reps σ w [x] [u]) (hk : okV x = true) (hs : x.cells.length = e) :
    ∃ w' σ', (newVar t u).run P w = .ok ⟨w.heap.size, 0, none⟩ w' ∧ Inv B w0 σ' (place H k (newBox false false t e [x])) w' ∧ Ext σ w σ' w' ∧ Reps σ' w' [.ptr k 0 0 1] [.pointer (some ⟨w.heap.size, 0, none⟩)] := by
  have hsz : u.cells.size = e := by rw [← hr.cells_len hk]; exact hs
  obtain ⟨σ', h1, h2, h3⟩ := newRow_ok (xs := [x]) (us := [u]) (e := e) (n := 1) h hk0 t false hr (by simp) (by simpa using hk) (by simpa using hsz) (by rw [single_flat]; exact (hr.cells hk).2) (by simp [maxLen])
  rw [single_flat] at h1 h2
  simp only [Array.toArray_toList] at h1 h2
  exact ⟨_, σ', run_newVar w t u, h1, h2, .ptr w.heap.size h3 (Nat.le_refl _) (fun _ => ⟨_, _, rfl⟩) (by simp) .nil⟩

end Go.Proofs.YtpikcdlhgiooaaaGreat.Le

