/-
  An evaluator for the model's code over pure values: its definitions.
  A value is a scalar, a flat aggregate of cells, an immutable slice with its elements, or a reference into a box.
  A box is memory that the evaluated calls own: a variable (one element) or the array behind a slice.
-/
import Derived.WalkKit
import GoSem.ClaimData
import GoSem.ClaimKeys
namespace Go.Proofs.Ytcjccaonfgcakaa.Le
set_option linter.unusedVariables false

inductive V where
  | lit (v : Value)
  | agg (cs : List V)
  | tup (vs : List V)
  | sl (isNil : Bool) (e : Nat) (xs : List V)       -- e: cells an element
  | slt (isNil : Bool) (e : Nat) (xs : List V)      -- the same, with a capacity that is its length
  | lsl (id off len tot : Nat)
  | ptr (id i off tot : Nat)
  | ept (e : Nat) (xs : List V) (i off : Nat)
  | fn (f : FuncId) (first caps : List V)
  | ifc (t : TypeId) (v : V)
  | no           -- the slot of an operation that did not run
  | und          -- whatever
  deriving Inhabited

def V.cells : V → List V
  | .agg cs => cs
  | v => [v]

/-- Whether a value may lie in memory. -/
def okV : V → Bool
  | .und | .no | .tup _ => false
  | _ => true

/-! Values without references into boxes. -/
mutual
def noRef : V → Bool
  | .lsl _ _ _ _ => false
  | .ptr _ _ _ _ => false
  | .ept _ _ _ _ => false
  | .agg cs => noRefs cs
  | .tup cs => noRefs cs
  | .sl _ _ xs => noRefs xs
  | .slt _ _ xs => noRefs xs
  | .fn _ a b => noRefs a && noRefs b
  | .ifc _ v => noRef v
  | .lit _ => true
  | .no => true
  | .und => true
def noRefs : List V → Bool
  | [] => true
  | x :: xs => noRef x && noRefs xs
end

/-- Whether a value may be an element of a frozen row. -/
def fzV (v : V) : Bool := okV v && noRef v

/-- 'row': the array behind a slice (which may still be nil: 'nilp'), else a variable (one element). Elements before 'floor' are shown by frozen values. -/
structure Box where
  live : Bool
  row : Bool
  nilp : Bool
  elem : TypeId
  esz : Nat
  xs : List V
  floor : Nat
  deriving Inhabited

abbrev Heap := List Box

/-- What is known of a type. -/
inductive Ty where
  | scalar
  | slice (elem : Nat)
  | array (len elem : Nat)
  | struct (fields : List (Nat × Nat))      -- offset, type
  | map (key elem : Nat)
  | other
  deriving Inhabited, DecidableEq

structure TI where
  ty : Ty
  size : Nat
  bytes : Nat
  zero : Option V
  deriving Inhabited

def TI.isAgg (i : TI) : Bool := match i.ty with | .struct _ | .array _ _ => true | _ => false

/-- The zero value is known, of the type's size, and may lie in memory. -/
def TI.zok (i : TI) : Bool := match i.zero with | some z => okV z && z.cells.length == i.size | none => false

def isInt : Value → Bool | .int _ _ => true | _ => false

/-- A scalar that holds no address. -/
def leaf : Value → Bool
  | .int k n => (Lit.int k n).wf
  | .bool _ => true
  | .string s => decide (s.size ≤ maxLen)
  | .pointer none => true
  | .map none => true
  | .nilFunc => true
  | .nilIface => true
  | _ => false

def ofCell : Value → V
  | .slice none 0 0 => .sl true 0 []
  | v => if leaf v then .lit v else .und

def cellOk : Value → Bool
  | .slice none 0 0 => true
  | v => leaf v

def ofConst : Value → V
  | .agg cs => if cs.toList.all cellOk then .agg (cs.toList.map ofCell) else .und
  | .tuple vs => if vs.isEmpty then .no else .und
  | v => if cellOk v then ofCell v else .und

def vundef : V := .no

def tyOf (d : TypeDesc) : Ty :=
  match d with
  | .bool | .int _ | .string | .pointer _ | .func _ _ _ | .interface _ => .scalar
  | .slice e => .slice e
  | .array n e => .array n e
  | .struct fs => .struct (fs.toList.map fun f => (f.offset, f.type))
  | .map k e => .map k e
  | _ => .other

def tiOf (P : Program) (t : TypeId) : Option TI :=
  match P.info? t, P.underlying t with
  | some i, some d => some { ty := tyOf d, size := i.size, bytes := i.bytes, zero := i.zero.map ofConst }
  | _, _ => none

/-- The kind of a cell of a flat type. -/
inductive FK where
  | b | i (k : IntKind) | s
  deriving DecidableEq

structure Env where
  P : Program
  ti : TypeId → Option TI
  func : FuncId → Option Func
  env : FuncId → Option (List V → Option V)
  glob : Nat → Option (List V)
  pure : FuncId → Bool
  flat : TypeId → Option (List FK)
  kind : TypeId → Option IntKind
  isStr : TypeId → Bool
  isBool : TypeId → Bool
  isBytes : TypeId → Bool
  calm : FuncId → Nat → Bool
  rows : TypeId → List Nat
  par : FuncId → List TypeId

structure St where
  s : List V
  H : Heap

inductive Ex where
  | normal | ret | exit (id : Nat)


/-! ### operands and guards -/

def ev (E : Env) (s : List V) : Operand → V
  | .tmp t => s.getD t .und
  | .const v => ofConst v
  | .func f => .fn f [] []
  | .global g => match E.glob g with | some r => .ept r.length [.agg r] 0 0 | none => .und

/-- Whether a guarded operation runs: what its guard's slot holds must be known. -/
def guardD (v : V) (want : Bool) : Option Bool :=
  match v with
  | .lit (.bool b) => some (b == want)
  | .no => some false
  | _ => none

def setSlot (s : List V) (d : Option Tmp) (v : V) : List V := match d with | some t => s.set t v | none => s

/-! ### reading and writing memory -/

def boxAt (H : Heap) (id tot : Nat) : Option Box :=
  match H[id]? with
  | some b => if b.live && b.xs.length == tot then some b else none
  | none => none

def partOf (cs : List V) (off n : Nat) (isAgg : Bool) : Option V :=
  if isAgg then (if off + n ≤ cs.length then some (.agg ((cs.drop off).take n)) else none) else cs[off]?

def readAt (xs : List V) (i off n : Nat) (isAgg : Bool) : Option V :=
  match xs[i]? with
  | some x => partOf x.cells off n isAgg
  | none => none

/-- A leaf without references into boxes; what it stands for if it is a reference to a row. -/
def frz0 (H : Heap) : V → Option V
  | .lit v => some (.lit v)
  | .sl b e xs => some (.sl b e xs)
  | .slt b e xs => some (.sl false e xs)
  | .lsl id off len tot => match boxAt H id tot with
    | some b => if b.row && decide (off + len ≤ tot) then some (.sl false b.esz ((b.xs.drop off).take len)) else none
    | none => none
  | .fn f [] [] => some (.fn f [] [])
  | .ifc t (.lit v) => some (.ifc t (.lit v))
  | _ => none

def frzL (H : Heap) : List V → Option (List V)
  | [] => some []
  | v :: vs => match frz0 H v, frzL H vs with | some w, some ws => some (w :: ws) | _, _ => none

def frz (H : Heap) : V → Option V
  | .agg cs => (frzL H cs).map .agg
  | v => frz0 H v

def frzAll (H : Heap) : List V → Option (List V)
  | [] => some []
  | v :: vs => match frz H v, frzAll H vs with | some w, some ws => some (w :: ws) | _, _ => none

def frzT (H : Heap) : V → Option V
  | .tup vs => (frzAll H vs).map .tup
  | v => frz H v

/-- A slice that is surely nil is shown as an empty one, with elements of a known size. -/
def retype1 (e : Nat) : V → V
  | .sl true _ xs => .sl false e xs
  | v => v
def retypeL : List Nat → List V → List V
  | e :: es, v :: vs => retype1 e v :: retypeL es vs
  | [], vs => vs
  | _, [] => []
def retype (es : List Nat) : V → V
  | .agg cs => .agg (retypeL es cs)
  | v => retype1 (es.headD 0) v
def retypeAll (rows : TypeId → List Nat) : List TypeId → List V → List V
  | t :: ts, v :: vs => retype (rows t) v :: retypeAll rows ts vs
  | [], vs => vs
  | _, [] => []

/-- The boxes of which a frozen value shows elements. -/
def ids1 : V → List Nat
  | .lsl id _ _ _ => [id]
  | _ => []
def idsA : V → List Nat
  | .agg cs => cs.flatMap ids1
  | v => ids1 v
def idsT : V → List Nat
  | .tup vs => vs.flatMap idsA
  | v => idsA v

def bump (H : Heap) : List Nat → Heap
  | [] => H
  | i :: is => bump (H.modify i fun b => { b with floor := b.xs.length }) is

/-- A new box: at the end, or where a place was kept for it. -/
def place (H : Heap) (k : Nat) (b : Box) : Heap := if k < H.length then H.set k b else H ++ [b]
def freeB (H : Heap) (k : Nat) : Bool := match H[k]? with | some b => !b.live | none => k == H.length

/-- The elements of a slice. -/
def elemsOf (H : Heap) : V → Option (List V)
  | .sl _ _ xs => some xs
  | .slt _ _ xs => some xs
  | .lsl id off len tot => match boxAt H id tot with
    | some b => if b.row && decide (off + len ≤ tot) then some ((b.xs.drop off).take len) else none
    | none => none
  | .lit (.string s) => some (s.data.toList.map fun c => .lit (.int .u8 c.toNat))
  | _ => none

/-- Whether a slice's elements have so many cells (a nil slice: any number). -/
def eszIs (H : Heap) (x : V) (n : Nat) : Bool :=
  match x with
  | .sl b e _ => b || e == n
  | .slt b e _ => b || e == n
  | .lsl id _ _ tot => match boxAt H id tot with | some b => b.esz == n | none => false
  | _ => false

def lenOf (H : Heap) : V → Option Nat
  | .sl _ _ xs => some xs.length
  | .slt _ _ xs => some xs.length
  | .lsl id _ len tot => match boxAt H id tot with | some _ => some len | none => none
  | .lit (.string s) => some s.size
  | _ => none


/-! ### operations -/

def asLit : V → Option Value | .lit v => some v | _ => none
def intOf : V → Option Int | .lit (.int _ n) => some n | _ => none

def intOp (op : BinOp) (k : IntKind) (a b : Int) : Option Value :=
  match op with
  | .add => some (.int k (k.wrap (a + b)))
  | .sub => some (.int k (k.wrap (a - b)))
  | .mul => some (.int k (k.wrap (a * b)))
  | .quo => if b = 0 then none else some (.int k (k.wrap (a.tdiv b)))
  | .rem => if b = 0 then none else some (.int k (a.tmod b))
  | .and | .or | .xor | .andNot => some (.int k (bits op k a b))
  | .eql => some (.bool (a == b))
  | .neq => some (.bool (a != b))
  | .lss => some (.bool (decide (a < b)))
  | .leq => some (.bool (decide (a ≤ b)))
  | .gtr => some (.bool (decide (a > b)))
  | .geq => some (.bool (decide (a ≥ b)))
  | _ => none

def shiftOp (op : BinOp) (k : IntKind) (a b : Int) : Option Value :=
  if b < 0 then none else
  match op with
  | .shl => some (.int k (k.wrap (a * 2 ^ min b.toNat k.bits)))
  | .shr => some (.int k (a.fdiv (2 ^ min b.toNat k.bits)))
  | _ => none

def strOp (op : BinOp) (x y : ByteArray) : Option Value :=
  match op with
  | .add => if decide (x.size + y.size ≤ maxLen) then some (.string (x ++ y)) else none
  | .eql => some (.bool (x.toList == y.toList))
  | .neq => some (.bool !(x.toList == y.toList))
  | .lss => some (.bool (Op.bytesLess x.toList y.toList))
  | .leq => some (.bool (Op.bytesLess x.toList y.toList || x.toList == y.toList))
  | .gtr => some (.bool !(Op.bytesLess x.toList y.toList || x.toList == y.toList))
  | .geq => some (.bool !(Op.bytesLess x.toList y.toList))
  | _ => none

/-- Equality of two rows of cells of a flat type. -/
def eqCells : List FK → List V → List V → Option Bool
  | [], [], [] => some true
  | .b :: ks, .lit (.bool a) :: xs, .lit (.bool b) :: ys => match eqCells ks xs ys with | some r => some (a == b && r) | none => none
  | .i k :: ks, .lit (.int k1 a) :: xs, .lit (.int k2 b) :: ys => if k1 = k ∧ k2 = k then (match eqCells ks xs ys with | some r => some (a == b && r) | none => none) else none
  | .s :: ks, .lit (.string a) :: xs, .lit (.string b) :: ys => match eqCells ks xs ys with | some r => some (a == b && r) | none => none
  | _, _, _ => none

/-- The kinds of the cells of a type of scalars. -/
def fkFields (P : Program) (go : TypeId → Option (List FK)) : Nat → List Field → Option (List FK)
  | _, [] => some []
  | off, f :: fs =>
    if f.offset = off ∧ f.name != "_" then
      match go f.type with
      | some ks => if P.cellsOf f.type = ks.length then (match fkFields P go (off + ks.length) fs with | some rest => some (ks ++ rest) | none => none) else none
      | none => none
    else none

def fkOf (P : Program) : Nat → TypeId → Option (List FK)
  | 0, _ => none
  | d + 1, t =>
    match P.underlying t with
    | some .bool => some [.b]
    | some (.int k) => some [.i k]
    | some .string => some [.s]
    | some (.array n e) => match fkOf P d e with
      | some ks => if P.cellsOf e = ks.length ∧ P.cellsOf t = n * ks.length then some (List.replicate n ks).flatten else none
      | none => none
    | some (.struct fs) => match fkFields P (fkOf P d) 0 fs.toList with
      | some ks => if P.cellsOf t = ks.length then some ks else none
      | none => none
    | _ => none

def isNilV : V → Option Bool
  | .sl true _ _ => some true
  | .ptr _ _ _ _ => some false
  | .ept _ _ _ _ => some false
  | .fn _ _ _ => some false
  | .ifc _ _ => some false
  | .lit (.pointer none) => some true
  | .lit .nilFunc => some true
  | .lit .nilIface => some true
  | .lit (.map none) => some true
  | _ => none

def binD (E : Env) (op : BinOp) (t : TypeId) (x y : V) : Option V :=
  match op, x, y with
  | .shl, .lit (.int k a), .lit (.int _ b) => (shiftOp .shl k a b).map .lit
  | .shr, .lit (.int k a), .lit (.int _ b) => (shiftOp .shr k a b).map .lit
  | op, .lit (.int k a), .lit (.int j b) => if k = j then (intOp op k a b).map .lit else none
  | op, .lit (.string a), .lit (.string b) => (strOp op a b).map V.lit
  | .eql, .lit (.bool a), .lit (.bool b) => if E.isBool t then some (.lit (.bool (a == b))) else none
  | .neq, .lit (.bool a), .lit (.bool b) => if E.isBool t then some (.lit (.bool (!(a == b)))) else none
  | .eql, .agg xs, .agg ys => match E.flat t with | some ks => (eqCells ks xs ys).map fun b => V.lit (.bool b) | none => none
  | .neq, .agg xs, .agg ys => match E.flat t with | some ks => (eqCells ks xs ys).map fun b => V.lit (.bool !b) | none => none
  | _, _, _ => none

def unD (op : UnOp) (x : V) : Option V :=
  match op, x with
  | .neg, .lit (.int k n) => some (.lit (.int k (k.wrap (0 - n))))
  | .xor, .lit (.int k n) => some (.lit (.int k (bits .xor k (if k.signed then -1 else k.max) n)))
  | .not, .lit (.bool b) => some (.lit (.bool !b))
  | _, _ => none

def fillV (cs : List V) : List (Nat × V) → (Nat → Option (Nat × Nat)) → Option (List V)
  | [], _ => some cs
  | (i, v) :: rest, place =>
    match place i with
    | none => none
    | some (off, size) => if v.cells.length == size && decide (off + size ≤ cs.length) && okV v then fillV (cs.take off ++ v.cells ++ cs.drop (off + size)) rest place else none

def placesOf (E : Env) (fs : List (Nat × Nat)) (i : Nat) : Option (Nat × Nat) :=
  match fs[i]? with
  | some (off, t) => match E.ti t with | some ti => some (off, ti.size) | none => none
  | none => none

def buildD (E : Env) (t : TypeId) (parts : List (Nat × V)) : Option V :=
  match E.ti t with
  | some i => match i.zero with
    | some z =>
      if okV z then
        match i.ty with
        | .struct fs => if fs.all fun x => (E.ti x.2).isSome then (fillV z.cells parts (placesOf E fs)).map .agg else none
        | .array _ e => match E.ti e with
          | some ei => (fillV z.cells parts (fun i => some (i * ei.size, ei.size))).map .agg
          | none => none
        | _ => none
      else none
    | none => none
  | none => none

/-- Elements of a slice literal: each a whole element. -/
def fillE (xs : List V) (size : Nat) : List (Nat × V) → Option (List V)
  | [] => some xs
  | (i, v) :: rest => if v.cells.length == size && decide (i < xs.length) && okV v then fillE (xs.set i v) size rest else none


/-! ### one operation -/

abbrev CallF := FuncId → List V → Heap → Option (V × Heap)

def newBox (row nilp : Bool) (elem : TypeId) (esz : Nat) (xs : List V) : Box := { live := true, row, nilp, elem, esz, xs, floor := 0 }

/-- The size of an element of a box. -/
def Env.size (E : Env) (t : TypeId) : Option Nat := (E.ti t).map (·.size)

def loadD (E : Env) (H : Heap) (t : TypeId) (a : V) : Option V :=
  match E.ti t with
  | none => none
  | some i =>
    match a with
    | .ept _ xs j off => readAt xs j off i.size i.isAgg
    | .ptr id j off tot => match boxAt H id tot with | some b => readAt b.xs j off i.size i.isAgg | none => none
    | _ => none

/-- The cells of an element with those from off on replaced. -/
def spliceV (x : V) (off : Nat) (cs : List V) : Option V :=
  match x with
  | .agg ds => if off + cs.length ≤ ds.length then some (.agg (ds.take off ++ cs ++ ds.drop (off + cs.length))) else none
  | _ => match off, cs with | 0, [c] => some c | _, _ => none

def storeD (E : Env) (H : Heap) (t : TypeId) (a v : V) : Option Heap :=
  match E.ti t with
  | none => none
  | some i =>
    match a with
    | .ptr id j off tot => match boxAt H id tot with
      | some b => match b.xs[j]? with
        | some x =>
          if v.cells.length == i.size && decide (b.floor ≤ j) && okV v then
            (if b.row then
              match frz H v with
              | some v' => match (spliceV x off v'.cells).map (retype (E.rows b.elem)) with
                | some x' => if (idsA v).contains id || !(okV v') || !(okV x') then none else some ((bump H (idsA v)).set id { b with xs := b.xs.set j x' })
                | none => none
              | none => none
             else match spliceV x off v.cells with
              | some x' => if okV x' then some (H.set id { b with xs := b.xs.set j x' }) else none
              | none => none)
          else none
        | none => none
      | none => none
    | _ => none

def lim : Nat := 140737488355328

def appendD (E : Env) (k : Nat) (H : Heap) (t u : TypeId) (s x : V) : Option (V × Heap) :=
  match E.ti t with
  | some ⟨.slice e, _, _, _⟩ =>
    match E.ti e, (u == t), elemsOf H x with
    | some ei, true, some ys =>
      if decide (0 < ei.size) && eszIs H x ei.size && ei.zok then
        match s with
        | .lsl id off len tot => match boxAt H id tot with
          | some b =>
            if b.row && b.elem == e && decide (off = 0) && decide (len = tot) && b.esz == ei.size then
              (if decide ((tot + ys.length) * ei.bytes ≤ lim) && decide (tot + ys.length ≤ maxLen) then
                some (.lsl id 0 (tot + ys.length) (tot + ys.length), H.set id { b with xs := b.xs ++ ys, nilp := b.nilp && ys.isEmpty })
               else none)
            else none
          | none => none
        | .sl true _ [] | .slt true _ [] =>
          (if decide (ys.length * ei.bytes ≤ lim) && decide (ys.length ≤ maxLen) then
            some (.lsl k 0 ys.length ys.length, place H k (newBox true false e ei.size ys))
           else none)
        | .slt false es xs =>
          (if es == ei.size && decide ((xs.length + ys.length) * ei.bytes ≤ lim) && decide (xs.length + ys.length ≤ maxLen) then
            (if ys.isEmpty then some (.slt false es xs, H)
             else some (.lsl k 0 (xs.length + ys.length) (xs.length + ys.length), place H k (newBox true false e ei.size (xs ++ ys))))
           else none)
        | _ => none
      else none
    | _, _, _ => none
  | _ => none

/-- The bounds of a slice expression. -/
def boundD (v : V) (hi : Nat) : Option Nat :=
  match v with
  | .lit (.int _ n) => if 0 ≤ n ∧ n ≤ hi then some n.toNat else none
  | _ => none

def optBound (x : Option V) (hi dflt : Nat) : Option Nat := match x with | some v => boundD v hi | none => some dflt

/-- Whether a slice expression's type fits its operand. -/
def sliceFits (E : Env) (H : Heap) (t : TypeId) (x : V) : Bool :=
  match x with
  | .lit (.string _) => E.isStr t
  | _ => match E.ti t with
    | some ⟨.slice e, _, _, _⟩ => match E.ti e with | some ei => eszIs H x ei.size | none => false
    | _ => false

def sliceD (E : Env) (H : Heap) (t : TypeId) (x : V) (lo hi mx : Option V) : Option (V × Heap) :=
  if sliceFits E H t x then
    match lenOf H x with
    | none => none
    | some n =>
      match optBound hi n n with
      | none => none
      | some h =>
        match optBound lo h 0 with
        | none => none
        | some l =>
          match mx with
          | some m =>
            (match hi, boundD m n, elemsOf H x, x with
             | some _, some k, some xs, .sl b e _ => if k = h then some (.slt false e ((xs.drop l).take (h - l)), H) else none
             | some _, some k, some xs, .slt b e _ => if k = h then some (.slt false e ((xs.drop l).take (h - l)), H) else none
             | some _, some k, some xs, .lsl id _ _ _ => if k = h then some (.slt false ((H.getD id default).esz) ((xs.drop l).take (h - l)), bump H [id]) else none
             | _, _, _, _ => none)
          | none =>
            match x with
            | .lit (.string s) => some (.lit (.string (s.extract l h)), H)
            | .sl b e xs => some (.sl b e ((xs.drop l).take (h - l)), H)
            | .slt b e xs => some (.sl b e ((xs.drop l).take (h - l)), H)
            | .lsl id off _ tot => some (.lsl id (off + l) (h - l) tot, H)
            | _ => none
  else none

def indexAddrD (E : Env) (H : Heap) (t : TypeId) (x i : V) : Option V :=
  match i, E.ti t with
  | .lit (.int _ n), some ti =>
    match ti.ty, x with
    | .slice el, .sl _ e xs => if 0 ≤ n ∧ n < xs.length ∧ E.size el = some e then some (.ept e xs n.toNat 0) else none
    | .slice el, .slt _ e xs => if 0 ≤ n ∧ n < xs.length ∧ E.size el = some e then some (.ept e xs n.toNat 0) else none
    | .slice el, .lsl id off len tot => match boxAt H id tot with
      | some b => if 0 ≤ n ∧ n < len ∧ E.size el = some b.esz then some (.ptr id (off + n.toNat) 0 tot) else none
      | none => none
    | .array len e, .ptr id j off tot => match E.size e with
      | some sz => if 0 ≤ n ∧ n < len then some (.ptr id j (off + n.toNat * sz) tot) else none
      | none => none
    | .array len e, .ept d xs j off => match E.size e with
      | some sz => if 0 ≤ n ∧ n < len then some (.ept d xs j (off + n.toNat * sz)) else none
      | none => none
    | _, _ => none
  | _, _ => none

def fieldAddrD (E : Env) (s : TypeId) (x : V) (f : Nat) : Option V :=
  match E.ti s with
  | some ⟨.struct fs, _, _, _⟩ => match fs[f]? with
    | some (o, t) => match E.size t with
      | some sz => if sz = 0 then none else match x with
        | .ptr id j off tot => some (.ptr id j (off + o) tot)
        | .ept d xs j off => some (.ept d xs j (off + o))
        | _ => none
      | none => none
    | none => none
  | _ => none

def fieldD (E : Env) (s : TypeId) (x : V) (f : Nat) : Option V :=
  match E.ti s, x with
  | some ⟨.struct fs, _, _, _⟩, .agg cs => match fs[f]? with
    | some (o, t) => match E.ti t with | some i => partOf cs o i.size i.isAgg | none => none
    | none => none
  | _, _ => none

def indexD (E : Env) (t : TypeId) (x i : V) : Option V :=
  match i with
  | .lit (.int _ n) =>
    match E.ti t, x with
    | some ⟨.array len e, _, _, _⟩, .agg cs => match E.ti e with
      | some ei => if 0 ≤ n ∧ n < len then partOf cs (n.toNat * ei.size) ei.size ei.isAgg else none
      | none => none
    | some ⟨.scalar, _, _, _⟩, .lit (.string s) => if E.isStr t then (if 0 ≤ n then (s[n.toNat]?).map fun b => V.lit (.int .u8 b.toNat) else none) else none
    | _, _ => none
  | _ => none

def byteOf : V → Option UInt8
  | .lit (.int .u8 n) => some (UInt8.ofNat n.toNat)
  | _ => none
def bytesOf : List V → Option (List UInt8)
  | [] => some []
  | v :: vs => match byteOf v, bytesOf vs with | some b, some bs => some (b :: bs) | _, _ => none

def convD (E : Env) (H : Heap) (src dst : TypeId) (x : V) : Option (V × Heap) :=
  match x with
  | .lit (.int _ n) => match E.kind dst with
    | some k => if (E.ti src).isSome then some (.lit (.int k (k.wrap n)), H) else none
    | none => none
  | .lit (.string s) => if E.isStr src && E.isStr dst then some (.lit (.string s), H) else none
  | x => if E.isStr dst && E.isBytes src && eszIs H x 1 then
      match elemsOf H x with
      | some xs => match bytesOf xs with | some bs => if bs.length ≤ maxLen then some (.lit (.string ⟨bs.toArray⟩), H) else none | none => none
      | none => none
    else none

def mm (isMax : Bool) (k : IntKind) : Int → List V → Option V
  | a, [] => some (.lit (.int k a))
  | a, .lit (.int j b) :: rest => if k = j then mm isMax k (if isMax then (if b > a then b else a) else (if b < a then b else a)) rest else none
  | _, _ => none

def minmax (isMax : Bool) : List V → Option V
  | .lit (.int k a) :: rest => mm isMax k a rest
  | _ => none

def evs (E : Env) (s : List V) (xs : Array Operand) : List V := xs.toList.map (ev E s)

def lenFits (E : Env) (t : TypeId) (x : V) : Bool :=
  match x with
  | .lit (.string s) => E.isStr t
  | _ => match E.ti t with | some ⟨.slice _, _, _, _⟩ => true | _ => false

def builtinD (E : Env) (k : Nat) (H : Heap) (s : List V) (b : Builtin) (args : List V) (tys : List TypeId) : Option (V × Heap) :=
  match b, args, tys with
  | .len, [x], [t] => if lenFits E t x then (lenOf H x).map fun n => (V.lit (.int .i64 n), H) else none
  | .append, [a, x], [t, u] => appendD E k H t u a x
  | .min, args, _ => (minmax false args).map (·, H)
  | .max, args, _ => (minmax true args).map (·, H)
  | _, _, _ => none

def buildSliceD (E : Env) (k : Nat) (H : Heap) (t : TypeId) (n : Nat) (parts : List (Nat × V)) : Option (V × Heap) :=
  match E.ti t with
  | some ⟨.slice e, _, _, _⟩ => match E.ti e with
    | some ei => match ei.zero, frzAll H (parts.map (·.2)) with
      | some z, some vs =>
        if n * ei.size ≤ 16777216 ∧ 0 < ei.size ∧ z.cells.length = ei.size ∧ okV z = true ∧ (n == 0 && !parts.isEmpty) = false then
          match fillE (List.replicate n (retype (E.rows e) z)) ei.size ((parts.map (·.1)).zip (vs.map (retype (E.rows e)))) with
          | some xs => some (.lsl k 0 n n, place (bump H ((parts.map (·.2)).flatMap idsA)) k (newBox true false e ei.size xs))
          | none => none
        else none
      | _, _ => none
    | none => none
  | _ => none

def opD (call : CallF) (E : Env) (k : Nat) (H : Heap) (s : List V) (o : Oper) : Option (V × Heap) :=
  match o.op with
  | .move x => some (ev E s x, H)
  | .assign (.const (.slice none 0 0)) => match E.ti o.type with
    | some ⟨.slice e, _, _, _⟩ => some (.lsl k 0 0 0, place H k (newBox true false e ((E.size e).getD 0) []))
    | _ => none
  | .assign x => some (ev E s x, H)
  | .pick c a b => match ev E s c with | .lit (.bool t) => some (if t then ev E s a else ev E s b, H) | _ => none
  | .alloc t => match E.ti t with
    | some i => match i.zero with | some z => if z.cells.length = i.size ∧ okV z = true then some (.ptr k 0 0 1, place H k (newBox false false t i.size [z])) else none | none => none
    | none => none
  | .box t x => match E.ti t with
    | some i => if (ev E s x).cells.length = i.size ∧ okV (ev E s x) = true then some (.ptr k 0 0 1, place H k (newBox false false t i.size [ev E s x])) else none
    | none => none
  | .build t parts => (buildD E t (parts.toList.map fun (i, x) => (i, ev E s x))).map (·, H)
  | .buildSlice t n parts => buildSliceD E k H t n (parts.toList.map fun (i, x) => (i, ev E s x))
  | .load t a => (loadD E H t (ev E s a)).map (·, H)
  | .store t a v => (storeD E H t (ev E s a) (ev E s v)).map (vundef, ·)
  | .nilCheck x => match isNilV (ev E s x) with | some false => some (ev E s x, H) | _ => none
  | .binOp op t x y _ => (binD E op t (ev E s x) (ev E s y)).map (·, H)
  | .unOp op _ x => (unD op (ev E s x)).map (·, H)
  | .convert src dst x => convD E H src dst (ev E s x)
  | .makeSlice t l c => match E.ti t, ev E s l, ev E s c with
    | some ⟨.slice e, _, _, _⟩, .lit (.int _ n), .lit (.int _ m) => match E.ti e with
      | some ei => match ei.zero with
        | some z => if 0 ≤ n ∧ n ≤ m ∧ m.toNat * ei.bytes ≤ lim ∧ m ≤ maxLen ∧ 0 < ei.size ∧ z.cells.length = ei.size ∧ okV z = true then
            some (.lsl k 0 n.toNat n.toNat, place H k (newBox true false e ei.size (List.replicate n.toNat (retype (E.rows e) z)))) else none
        | none => none
      | none => none
    | _, _, _ => none
  | .slice t x lo hi mx => sliceD E H t (ev E s x) (lo.map (ev E s)) (hi.map (ev E s)) (mx.map (ev E s))
  | .fieldAddr t x f => (fieldAddrD E t (ev E s x) f).map (·, H)
  | .field t x f => (fieldD E t (ev E s x) f).map (·, H)
  | .indexAddr t x i => (indexAddrD E H t (ev E s x) (ev E s i)).map (·, H)
  | .index t x i => (indexD E t (ev E s x) (ev E s i)).map (·, H)
  | .extract x i => match ev E s x with | .tup vs => (vs[i]?).map (·, H) | _ => none
  | .makeFunc (.func f) first caps => some (.fn f (evs E s first) (evs E s caps), H)
  | .call c => match c.callee with
    | .builtin b => builtinD E k H s b (evs E s c.args) c.argTypes.toList
    | .value f => match ev E s f with
      | .fn g first caps => call g (first ++ evs E s c.args ++ caps) H
      | _ => none
    | _ => none
  | _ => none


/-! ### regions, code, calls -/

/-- What one operation of a region comes to, its guard looked at first. -/
def actD (call : CallF) (E : Env) (ops : Array Oper) (k : Nat) (o : Oper) (st : St) : Option (V × Heap) :=
  match o.guard with
  | none => opD call E k st.H st.s o
  | some (j, want) =>
    match (ops[j]?).bind (·.dst) with
    | none => none
    | some d => match guardD (st.s.getD d .und) want with
      | none => none
      | some false => some (vundef, st.H)
      | some true => opD call E k st.H st.s o

def stepAt (call : CallF) (E : Env) (ops : Array Oper) (k : Nat) (i : Nat) (st : St) : Option St :=
  match ops[i]? with
  | none => some st
  | some o => match actD call E ops k o st with
    | some (v, H) => some ⟨setSlot st.s o.dst v, H⟩
    | none => none

def stepD (call : CallF) (E : Env) (ops : Array Oper) (i : Nat) (st : St) : Option St := stepAt call E ops st.H.length i st

def opsD (call : CallF) (E : Env) (ops : Array Oper) : List Nat → St → Option St
  | [], st => some st
  | i :: rest, st => match stepD call E ops i st with
    | some st' => opsD call E ops rest st'
    | none => none

/-! ### regions that draw their order -/

/-- The boxes that a value names. -/
def ref1 : V → List Nat
  | .lsl id _ _ _ => [id]
  | .ptr id _ _ _ => [id]
  | _ => []
def refsV : V → List Nat
  | .agg cs => cs.flatMap ref1
  | v => ref1 v
def refsO (E : Env) (s : List V) (o : Oper) : List Nat := o.op.operands.toList.flatMap fun x => refsV (ev E s x)

/-- s: looks at slots only. n: may look at boxes. f: a call that sees frozen values only. a: makes a box. w: writes. -/
inductive Cls where
  | s | n | f | a | w
  deriving DecidableEq

def clsOf (E : Env) (o : Oper) : Cls :=
  match o.op with
  | .move _ | .pick .. | .build .. | .binOp .. | .unOp .. | .field .. | .fieldAddr .. | .extract .. | .makeFunc .. | .index .. | .nilCheck _ => .s
  | .assign (.const (.slice none 0 0)) => .a
  | .assign _ => .s
  | .load .. | .indexAddr .. | .convert .. => .n
  | .slice _ _ _ _ none => .n
  | .alloc _ | .box .. | .buildSlice .. | .makeSlice .. => .a
  | .call c => match c.callee with
    | .builtin .len => .n
    | .builtin .min => .s
    | .builtin .max => .s
    | .value (.func f) => if E.pure f || (E.env f).isSome then .f else .w
    | _ => .w
  | _ => .w

/-- Whether two operations that no edge orders may change places. -/
def compat : Cls → Cls → Bool
  | .w, .s => true
  | .s, .w => true
  | .w, _ => false
  | _, .w => false
  | _, _ => true

/-- What must have run before each operation, as bits. -/
def maskOf (acc : List Nat) (o : Oper) : Nat :=
  o.after.toList.foldl (fun m e => if Region.binds .any e then m ||| (1 <<< e.on) ||| acc.getD e.on 0 else m) 0
def masksD : List Nat → List Oper → List Nat
  | acc, [] => acc
  | acc, o :: os => masksD (acc ++ [maskOf acc o]) os

def mayPass (E : Env) (ops : Array Oper) (x y : Oper) : Bool := compat (clsOf E x) (clsOf E y) && x.apart ops y

/-- Whether a region that draws its order may be run in its own order. -/
def drawOK (E : Env) (ops : Array Oper) : Bool :=
  let ms := masksD [] ops.toList
  (List.range ops.size).all fun y => match ops[y]? with
    | some oy => oy.after.all (fun e => !Region.binds .any e || decide (e.on < y)) &&
      (List.range y).all fun x => (ms.getD y 0).testBit x || (match ops[x]? with | some ox => mayPass E ops ox oy | none => true)
    | none => true

def calmC (E : Env) (f : FuncId) : Code → Bool
  | .region id ops true => !E.calm f id || drawOK E ops
  | .seq a b => calmC E f a && calmC E f b
  | .cond _ a b => calmC E f a && calmC E f b
  | .block _ b => calmC E f b
  | .loop b => calmC E f b
  | _ => true

def deadBox : Box := { live := false, row := false, nilp := false, elem := 0, esz := 0, xs := [], floor := 0 }

/-- One operation of such a region: new boxes lie at places that were kept for them, and what no edge orders ahead is not seen. -/
def stepR (call : CallF) (E : Env) (ops : Array Oper) (ms : List Nat) (base m : Nat) (i : Nat) (st : St) : Option St :=
  match ops[i]? with
  | none => some st
  | some o =>
    if (refsO E st.s o).all fun id => decide (id < base) || decide (base + m ≤ id) || (ms.getD i 0).testBit (id - base) then
      (if clsOf E o = .a then
        match st.H[base + i]? with
        | some b => if b.live then none else stepAt call E ops (base + i) i st
        | none => none
       else stepAt call E ops st.H.length i st)
    else none

def stepsR (call : CallF) (E : Env) (ops : Array Oper) (ms : List Nat) (base m : Nat) : List Nat → St → Option St
  | [], st => some st
  | i :: rest, st => match stepR call E ops ms base m i st with
    | some st' => stepsR call E ops ms base m rest st'
    | none => none

def drawD (call : CallF) (E : Env) (ops : Array Oper) (st : St) : Option St :=
  let m := if ops.any (fun o => decide (clsOf E o = .a)) then ops.size else 0
  stepsR call E ops (masksD [] ops.toList) st.H.length m (List.range ops.size) ⟨st.s, st.H ++ List.replicate m deadBox⟩

def codeD (call : CallF) (lp : Code → St → Option (Ex × St)) (E : Env) (f : FuncId) : Code → St → Option (Ex × St)
  | .skip, st => some (.normal, st)
  | .region _ ops false, st => (opsD call E ops (List.range ops.size) st).map (.normal, ·)
  | .region id ops true, st => if E.calm f id then (drawD call E ops st).map (.normal, ·) else none
  | .seq a b, st => match codeD call lp E f a st with
    | some (.normal, st') => codeD call lp E f b st'
    | r => r
  | .cond c a b, st => match ev E st.s c with
    | .lit (.bool t) => if t then codeD call lp E f a st else codeD call lp E f b st
    | _ => none
  | .block id b, st => match codeD call lp E f b st with
    | some (.exit i, st') => if i = id then some (.normal, st') else some (.exit i, st')
    | r => r
  | .loop b, st => lp b st
  | .exit id, st => some (.exit id, st)
  | .ret, st => some (.ret, st)
  | _, _ => none

def loopD (call : CallF) (E : Env) (f : FuncId) : Nat → Code → St → Option (Ex × St)
  | 0, _, _ => none
  | n + 1, b, st => match codeD call (loopD call E f n) E f b st with
    | some (.normal, st') => loopD call E f n b st'
    | r => r

def resD (E : Env) (H : Heap) (s : List V) : ResultVar → Option V
  | .tmp t => some (s.getD t .und)
  | .cell a t => loadD E H t (s.getD a .und)

def resultsD (E : Env) (H : Heap) (s : List V) (rs : List ResultVar) : Option V :=
  match rs.mapM (resD E H s) with
  | some [v] => some v
  | some vs => some (.tup vs)
  | none => none

def bodyD (call : CallF) (n : Nat) (E : Env) (f : FuncId) (fn : Func) (args : List V) (H : Heap) : Option (V × Heap) :=
  match fn.body with
  | none => none
  | some c => match codeD call (loopD call E f n) E f c ⟨args ++ List.replicate (fn.ntmps - args.length) vundef, H⟩ with
    | some (.normal, st) | some (.ret, st) => (resultsD E st.H st.s fn.results.toList).map (·, st.H)
    | _ => none

def callD (E : Env) : Nat → CallF
  | 0, _, _, _ => none
  | n + 1, f, args, H =>
    match E.env f with
    | some F => match frzAll H args with
      | some as => (F (retypeAll E.rows (E.par f) as)).map (·, bump H (args.flatMap idsA))
      | none => none
    | none => match E.func f with
      | none => none
      | some fn =>
        if E.pure f then
          match frzAll H args with
          | some as => match bodyD (callD E n) n E f fn as [] with
            | some (r, H') => (frzT H' r).map (·, bump H (args.flatMap idsA))
            | none => none
          | none => none
        else bodyD (callD E n) n E f fn args H


/-! ### the plain environment of a program -/

/-- Whether values of a type can be compared cell by cell, and the kinds of the cells. -/
def flatOf (P : Program) (t : TypeId) : Option (List FK) :=
  match P.underlying t with
  | some (.struct _) | some (.array _ _) => if P.keyTypeAt 20 t && !P.eqGuardType P.depth t then fkOf P 20 t else none
  | _ => none

/-- Of each cell of a type the size of the elements, if it holds a slice. -/
def rowsG (P : Program) : Nat → TypeId → List Nat
  | 0, _ => []
  | d + 1, t => match P.underlying t with
    | some (.slice e) => [P.cellsOf e]
    | some (.struct fs) => fs.toList.flatMap fun f => rowsG P d f.type
    | some (.array n e) => (List.replicate n (rowsG P d e)).flatten
    | _ => [0]
def rowsOf (P : Program) (t : TypeId) : List Nat := rowsG P 20 t

def plainEnv (P : Program) (pure : FuncId → Bool) (env : FuncId → Option (List V → Option V)) : Env where
  P := P
  ti := tiOf P
  func := fun f => P.funcs[f]?
  env := env
  glob := fun _ => none
  pure := pure
  flat := flatOf P
  kind := fun t => match P.underlying t with | some (.int k) => some k | _ => none
  isStr := fun t => P.underlying t matches some .string
  isBool := fun t => P.underlying t matches some .bool
  isBytes := fun t => match P.underlying t with | some (.slice e) => (P.underlying e matches some (.int .u8)) | _ => false
  calm := fun _ _ => true
  rows := rowsOf P
  par := fun f => match P.funcs[f]? with | some fn => fn.params.toList | none => []

end Go.Proofs.Ytcjccaonfgcakaa.Le
