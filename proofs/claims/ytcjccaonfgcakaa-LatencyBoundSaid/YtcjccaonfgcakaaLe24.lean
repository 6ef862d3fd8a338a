/-
  The evaluator over symbolic values: operations, regions, code. Definitions.
-/
import Derived.Test.YtcjccaonfgcakaaLe23
namespace Go.Proofs.Ytcjccaonfgcakaa.Le
set_option linter.unusedVariables false

section
variable {U : Univ}

/-! ### scalars -/

def intT (op : BinOp) (k : IntKind) (a b : Int) (lit : Bool) : Tr U (SV U.Ty) :=
  match op with
  | .add => .leaf (.si k (k.wrap (a + b)))
  | .sub => .leaf (.si k (k.wrap (a - b)))
  | .mul => .leaf (.si k (k.wrap (a * b)))
  | .quo => if lit then (if b = 0 then .fail else .leaf (.si k (k.wrap (a.tdiv b)))) else .chk (b != 0) (.leaf (.si k (k.wrap (a.tdiv b))))
  | .rem => if lit then (if b = 0 then .fail else .leaf (.si k (a.tmod b))) else .chk (b != 0) (.leaf (.si k (a.tmod b)))
  | .and | .or | .xor | .andNot => .leaf (.si k (bits op k a b))
  | .eql => .leaf (.sb (a == b))
  | .neq => .leaf (.sb (a != b))
  | .lss => .leaf (.sb (decide (a < b)))
  | .leq => .leaf (.sb (decide (a ≤ b)))
  | .gtr => .leaf (.sb (decide (a > b)))
  | .geq => .leaf (.sb (decide (a ≥ b)))
  | _ => .fail

def shiftV (op : BinOp) (k : IntKind) (a b : Int) : Option Int :=
  match op with
  | .shl => some (k.wrap (a * 2 ^ min b.toNat k.bits))
  | .shr => some (a.fdiv (2 ^ min b.toNat k.bits))
  | _ => none

def shiftT (op : BinOp) (k : IntKind) (a b : Int) (lit : Bool) : Tr U (SV U.Ty) :=
  match shiftV op k a b with
  | none => .fail
  | some r => if lit then (if b < 0 then .fail else .leaf (.si k r)) else .chk (decide (0 ≤ b)) (.leaf (.si k r))

def strT (op : BinOp) (x y : ByteArray) : Tr U (SV U.Ty) :=
  match op with
  | .add => .chk (decide (x.size + y.size ≤ maxLen)) (.leaf (.ss (x ++ y)))
  | .eql => .leaf (.sb (x.toList == y.toList))
  | .neq => .leaf (.sb !(x.toList == y.toList))
  | .lss => .leaf (.sb (Op.bytesLess x.toList y.toList))
  | .leq => .leaf (.sb (Op.bytesLess x.toList y.toList || x.toList == y.toList))
  | .gtr => .leaf (.sb !(Op.bytesLess x.toList y.toList || x.toList == y.toList))
  | .geq => .leaf (.sb !(Op.bytesLess x.toList y.toList))
  | _ => .fail

/-- Whether two rows of cells of a flat type are equal, and whether that can be said. -/
def eqCellsS : List FK → List (SV U.Ty) → List (SV U.Ty) → Option Bool
  | [], [], [] => some true
  | .b :: ks, x :: xs, y :: ys => match asBool x, asBool y, eqCellsS ks xs ys with | some a, some b, some r => some (a == b && r) | _, _, _ => none
  | .i k :: ks, x :: xs, y :: ys => match asInt x, asInt y, eqCellsS ks xs ys with
    | some (k1, a), some (k2, b), some r => if k1 = k ∧ k2 = k then some (a == b && r) else none
    | _, _, _ => none
  | .s :: ks, x :: xs, y :: ys => match asStr x, asStr y, eqCellsS ks xs ys with | some a, some b, some r => some (a == b && r) | _, _, _ => none
  | _, _, _ => none

def isLit : SV U.Ty → Bool | .lit _ => true | _ => false

def binT (E : Env) (op : BinOp) (t : TypeId) (x y : SV U.Ty) : Tr U (SV U.Ty) :=
  match x, y with
  | .agg xs, .agg ys => match E.flat t with
    | some ks => match eqCellsS ks xs ys with
      | some b => (match op with | .eql => .leaf (.sb b) | .neq => .leaf (.sb !b) | _ => .fail)
      | none => .fail
    | none => .fail
  | x, y => match asInt x, asInt y with
    | some (k, a), some (j, b) => (match op with
      | .shl => shiftT .shl k a b (isLit y)
      | .shr => shiftT .shr k a b (isLit y)
      | op => if k = j then intT op k a b (isLit y) else .fail)
    | _, _ => match asStr x, asStr y with
      | some a, some b => strT op a b
      | _, _ => match asBool x, asBool y with
        | some a, some b => if E.isBool t then (match op with | .eql => .leaf (.sb (a == b)) | .neq => .leaf (.sb (!(a == b))) | _ => .fail) else .fail
        | _, _ => .fail

def unT (op : UnOp) (x : SV U.Ty) : Tr U (SV U.Ty) :=
  match op, asInt x, asBool x with
  | .neg, some (k, n), _ => .leaf (.si k (k.wrap (0 - n)))
  | .xor, some (k, n), _ => .leaf (.si k (bits .xor k (if k.signed then -1 else k.max) n))
  | .not, _, some b => .leaf (.sb !b)
  | _, _, _ => .fail

def mmT (isMax : Bool) (k : IntKind) : Int → List (SV U.Ty) → Option Int
  | a, [] => some a
  | a, x :: rest => match asInt x with
    | some (j, b) => if k = j then mmT isMax k (if isMax then (if b > a then b else a) else (if b < a then b else a)) rest else none
    | none => none

def minmaxT (isMax : Bool) : List (SV U.Ty) → Tr U (SV U.Ty)
  | x :: rest => match asInt x with
    | some (k, a) => (match mmT isMax k a rest with | some r => .leaf (.si k r) | none => .fail)
    | none => .fail
  | [] => .fail

/-! ### literals, fields -/

def fillS (cs : List (SV U.Ty)) : List (Nat × SV U.Ty) → (Nat → Option (Nat × Nat)) → Option (List (SV U.Ty))
  | [], _ => some cs
  | (i, v) :: rest, place =>
    match place i with
    | none => none
    | some (off, size) => if (cellsS v).length == size && decide (off + size ≤ cs.length) && okS v then fillS (cs.take off ++ cellsS v ++ cs.drop (off + size)) rest place else none

def buildT (E : Env) (t : TypeId) (parts : List (Nat × SV U.Ty)) : Option (SV U.Ty) :=
  match E.ti t with
  | some i => match i.zero with
    | some z =>
      if okV z then
        match i.ty with
        | .struct fs => if fs.all fun x => (E.ti x.2).isSome then (fillS (cellsS (ofV U z)) parts (placesOf E fs)).map .agg else none
        | .array _ e => match E.ti e with
          | some ei => (fillS (cellsS (ofV U z)) parts (fun i => some (i * ei.size, ei.size))).map .agg
          | none => none
        | _ => none
      else none
    | none => none
  | none => none

def decAll (e : Nat) : List (SV U.Ty) → Option (List (U.Ty e))
  | [] => some []
  | v :: vs => match okS v, U.decS e v, decAll e vs with | true, some a, some as => some (a :: as) | _, _, _ => none

def buildSliceT (E : Env) (k : Nat) (H : SHeap U) (t : TypeId) (n : Nat) (parts : List (Nat × SV U.Ty)) : Tr U (SV U.Ty × SHeap U) :=
  match E.ti t with
  | some ⟨.slice e, _, _, _⟩ => match E.ti e with
    | some ei => match ei.zero with
      | some z => (frzAllS H (parts.map (·.2))).andThen fun vs => match decAll e vs with
        | some ys => .when ((n * ei.size ≤ 16777216 ∧ 0 < ei.size ∧ z.cells.length = ei.size ∧ okV z = true) ∧ parts.map (·.1) = List.range n ∧ vs.all (fun v => (cellsS v).length == ei.size) = true ∧ U.esz e = ei.size)
            (.leaf (.all k n, placeS (bumpS H ((parts.map (·.2)).flatMap idsAS)) k (.row e ys none)))
        | none => .fail
      | none => .fail
    | none => .fail
  | _ => .fail

def fieldAddrT (E : Env) (s : TypeId) (x : SV U.Ty) (f : Nat) : Option (SV U.Ty) :=
  match E.ti s with
  | some ⟨.struct fs, _, _, _⟩ => match fs[f]? with
    | some (o, t) => match E.size t with
      | some sz => if sz = 0 then none else match x with
        | .ptr id j off tot => some (.ptr id j (off + o) tot)
        | .ept d xs j off => some (.ept d xs j (off + o))
        | _ => none
      | none => none
    | none => none
  | _ => none

def fieldT (E : Env) (s : TypeId) (x : SV U.Ty) (f : Nat) : Option (SV U.Ty) :=
  match E.ti s, x with
  | some ⟨.struct fs, _, _, _⟩, .agg cs => match fs[f]? with
    | some (o, t) => match E.ti t with | some i => partS cs o i.size i.isAgg | none => none
    | none => none
  | _, _ => none

/-! ### slices -/

def elemsT (H : SHeap U) (x : SV U.Ty) (e : Nat) : Tr U (List (U.Ty e)) :=
  let go (t : Nat) (xs : List (U.Ty t)) : Tr U (List (U.Ty e)) := if h : t = e then .leaf (h ▸ xs) else .fail
  match x with
  | .nil _ => .leaf []
  | .sl t xs => go t xs
  | .slt t xs => go t xs
  | .all id n => rowAt H id n fun t xs _ => go t xs
  | .lsl id off len tot => rowAt H id tot fun t xs _ => .chk (decide (off + len ≤ tot)) (go t ((xs.drop off).take len))
  | _ => .fail

def appendT (E : Env) (k : Nat) (H : SHeap U) (t u : TypeId) (s x : SV U.Ty) : Tr U (SV U.Ty × SHeap U) :=
  match E.ti t with
  | some ⟨.slice e, _, _, _⟩ => match E.ti e with
    | some ei => .when (u = t ∧ 0 < ei.size ∧ ei.zok = true ∧ U.esz e = ei.size) ((elemsT H x e).andThen fun ys =>
        match s with
        | .all id n => rowAt H id n fun t' xs fl => if h : t' = e then
            .chk (decide ((n + ys.length) * ei.bytes ≤ lim) && decide (n + ys.length ≤ maxLen))
              (.leaf (.all id ((h ▸ xs : List (U.Ty e)) ++ ys).length, H.set id (.row e ((h ▸ xs : List (U.Ty e)) ++ ys) fl)))
          else .fail
        | .nil _ => .chk (decide (ys.length * ei.bytes ≤ lim) && decide (ys.length ≤ maxLen)) (.leaf (.all k ys.length, placeS H k (.row e ys none)))
        | .slt t' xs => if h : t' = e then
            .chk (decide ((xs.length + ys.length) * ei.bytes ≤ lim) && decide (xs.length + ys.length ≤ maxLen))
              (.br ys.isEmpty (.leaf (.slt t' xs, H)) (.leaf (.all k ((h ▸ xs : List (U.Ty e)) ++ ys).length, placeS H k (.row e ((h ▸ xs : List (U.Ty e)) ++ ys) none))))
          else .fail
        | _ => .fail)
    | none => .fail
  | _ => .fail

def lenT (x : SV U.Ty) : Option Nat :=
  match x with
  | .nil _ => some 0
  | .sl _ xs => some xs.length
  | .slt _ xs => some xs.length
  | .lit (.string s) => some s.size
  | .ss s => some s.size
  | _ => none

/-- The length of a slice in a box, whose version is looked at. -/
def lenAt {L : Type} (H : SHeap U) (x : SV U.Ty) (k : Nat → Tr U L) : Tr U L :=
  match x with
  | .all id n => rowAt H id n fun _ _ _ => k n
  | .lsl id _ len tot => rowAt H id tot fun _ _ _ => k len
  | x => match lenT x with | some n => k n | none => .fail

def isStrS (x : SV U.Ty) : Bool := (asStr x).isSome
def lenFitsS (E : Env) (t : TypeId) (x : SV U.Ty) : Bool :=
  if isStrS x then E.isStr t else match E.ti t with | some ⟨.slice _, _, _, _⟩ => true | _ => false

/-- A bound of a slice expression, known or to be looked at. -/
def boundT {L : Type} (x : Option (SV U.Ty)) (hi dflt : Nat) (k : Nat → Tr U L) : Tr U L :=
  match x with
  | none => k dflt
  | some v => match asInt v with
    | some (_, n) => .chk (decide (0 ≤ n ∧ n ≤ hi)) (k n.toNat)
    | none => .fail

def eszIsS (E : Env) (H : SHeap U) (x : SV U.Ty) (n : Nat) : Bool :=
  match x with
  | .nil _ => true
  | .sl t _ => U.esz t == n
  | .slt t _ => U.esz t == n
  | .all id _ | .lsl id _ _ _ => match H[id]? with | some (.row t _ _) => U.esz t == n | _ => false
  | _ => false

def sliceFitsS (E : Env) (H : SHeap U) (t : TypeId) (x : SV U.Ty) : Bool :=
  if isStrS x then E.isStr t else match E.ti t with
    | some ⟨.slice e, _, _, _⟩ => match E.ti e with | some ei => eszIsS E H x ei.size | none => false
    | _ => false

def sliceT (E : Env) (H : SHeap U) (t : TypeId) (x : SV U.Ty) (lo hi mx : Option (SV U.Ty)) : Tr U (SV U.Ty × SHeap U) :=
  if sliceFitsS E H t x then
    lenAt H x fun n => boundT hi n n fun h => boundT lo h 0 fun l =>
      match mx with
      | some m => (match hi with
        | none => .fail
        | some _ => boundT (some m) n n fun k => .chk (k == h)
          (match x with
           | .sl e xs => .leaf (.slt e ((xs.drop l).take (h - l)), H)
           | .slt e xs => .leaf (.slt e ((xs.drop l).take (h - l)), H)
           | .all id n => rowAt H id n fun e xs _ => .leaf (.slt e ((xs.drop l).take (h - l)), bumpS H [id])
           | _ => .fail))
      | none => match x with
        | .nil e => .leaf (.nil e, H)
        | .sl e xs => .leaf (.sl e ((xs.drop l).take (h - l)), H)
        | .slt e xs => .leaf (.sl e ((xs.drop l).take (h - l)), H)
        | .all id n => (match lo, hi with
          | none, none => .leaf (.all id n, H)
          | _, _ => .leaf (.lsl id l (h - l) n, H))
        | .lsl id off _ tot => .leaf (.lsl id (off + l) (h - l) tot, H)
        | x => match asStr x with
          | some s => .leaf (.ss (s.extract l h), H)
          | none => .fail
  else .fail

/-- An element's place, one of few. -/
def pickIdx {L : Type} (n : Int) (lit : Bool) (len : Nat) (k : Nat → Tr U L) : Tr U L :=
  if lit then (if 0 ≤ n ∧ n < len then k n.toNat else .fail)
  else (List.range len).foldr (fun (i : Nat) rest => .br (n == (i : Int)) (k i) rest) .fail

def indexAddrT (E : Env) (H : SHeap U) (t : TypeId) (x i : SV U.Ty) : Tr U (SV U.Ty) :=
  match asInt i, E.ti t with
  | some (_, n), some ti =>
    match ti.ty with
    | .slice el => (match x with
      | .sl et xs => .when (E.size el = some (U.esz et)) (.chk (decide (0 ≤ n ∧ n < xs.length)) (.leaf (.ept et xs n.toNat 0)))
      | .slt et xs => .when (E.size el = some (U.esz et)) (.chk (decide (0 ≤ n ∧ n < xs.length)) (.leaf (.ept et xs n.toNat 0)))
      | .all id m => rowAt H id m fun et xs _ => .when (E.size el = some (U.esz et)) (.chk (decide (0 ≤ n ∧ n < m)) (.leaf (.ptr id n.toNat 0 m)))
      | .lsl id off len tot => rowAt H id tot fun et xs _ => .when (E.size el = some (U.esz et)) (.chk (decide (0 ≤ n ∧ n < len)) (.leaf (.ptr id (off + n.toNat) 0 tot)))
      | _ => .fail)
    | .array len e => (match E.size e with
      | none => .fail
      | some sz => match x with
        | .ptr id j off tot => pickIdx n (isLit i) len fun m => .leaf (.ptr id j (off + m * sz) tot)
        | .ept d xs j off => pickIdx n (isLit i) len fun m => .leaf (.ept d xs j (off + m * sz))
        | .raw (.ept d xs j off) => pickIdx n (isLit i) len fun m => .leaf (.raw (.ept d xs j (off + m * sz)))
        | _ => .fail)
    | _ => .fail
  | _, _ => .fail

def indexT (E : Env) (t : TypeId) (x i : SV U.Ty) : Tr U (SV U.Ty) :=
  match asInt i with
  | some (_, n) =>
    match E.ti t, x with
    | some ⟨.array len e, _, _, _⟩, .agg cs => match E.ti e with
      | some ei => pickIdx n (isLit i) len fun m => .opt (partS cs (m * ei.size) ei.size ei.isAgg)
      | none => .fail
    | some ⟨.scalar, _, _, _⟩, x => match asStr x with
      | some s => if E.isStr t then .chk (decide (0 ≤ n ∧ n < s.size)) (.leaf (.si .u8 (s.get! n.toNat).toNat)) else .fail
      | none => .fail
    | _, _ => .fail
  | none => .fail

def convT (E : Env) (src dst : TypeId) (x : SV U.Ty) : Tr U (SV U.Ty) :=
  match asInt x with
  | some (_, n) => (match E.kind dst with
    | some k => if (E.ti src).isSome then .leaf (.si k (k.wrap n)) else .fail
    | none => .fail)
  | none => match asStr x with
    | some s => if E.isStr src && E.isStr dst then .leaf (.ss s) else .fail
    | none => .fail

/-! ### one operation -/

/-- What the functions that are called come to: arguments that are frozen, the result's type. -/
abbrev Mdl (U : Univ) := FuncId → Option (List (SV U.Ty) → Option ((t : Nat) × Option (U.Ty t)))

def okInt (x : SV U.Ty) : Option (Int × Bool) := match x with | .lit (.int _ n) => some (n, true) | .si _ n => some (n, false) | _ => none

def retT (H : SHeap U) (T : Tr U (SV U.Ty)) : Tr U (SV U.Ty × SHeap U) := T.andThen fun v => .leaf (v, H)

def callT (E : Env) (M : Mdl U) (k : Nat) (H : SHeap U) (s : List (SV U.Ty)) (c : Call) : Tr U (SV U.Ty × SHeap U) :=
  match c.callee with
  | .builtin b => (match b, c.args.toList.map (evS E s), c.argTypes.toList with
    | .len, [x], [t] => if lenFitsS E t x then lenAt H x fun n => .leaf (.si .i64 n, H) else .fail
    | .append, [a, x], [t, u] => appendT E k H t u a x
    | .min, args, _ => retT H (minmaxT false args)
    | .max, args, _ => retT H (minmaxT true args)
    | _, _, _ => .fail)
  | .value f => (match evS E s f with
    | .fn g first caps => (match M g with
      | some m => (frzAllS H (first ++ c.args.toList.map (evS E s) ++ caps)).andThen fun as => match m as with
        | some ⟨t, o⟩ => .bind t o fun r => .leaf (U.encS t r, bumpS H ((first ++ c.args.toList.map (evS E s) ++ caps).flatMap idsAS))
        | none => .fail
      | none => .fail)
    | _ => .fail)
  | _ => .fail

def opT (E : Env) (M : Mdl U) (k : Nat) (H : SHeap U) (s : List (SV U.Ty)) (o : Oper) : Tr U (SV U.Ty × SHeap U) :=
  match o.op with
  | .move x => .leaf (evS E s x, H)
  | .assign (.const (.slice none 0 0)) => match E.ti o.type with
    | some ⟨.slice e, _, _, _⟩ => .when (U.esz e = (E.size e).getD 0) (.leaf (.all k 0, placeS H k (.row e [] none)))
    | _ => .fail
  | .assign x => .leaf (evS E s x, H)
  | .pick c a b => (match evS E s c with
    | .lit (.bool true) => .leaf (evS E s a, H)
    | .lit (.bool false) => .leaf (evS E s b, H)
    | .sb t => (match asBool (evS E s a), asBool (evS E s b) with
      | some x, some y => .leaf (.sb (cond t x y), H)
      | _, _ => .br t (.leaf (evS E s a, H)) (.leaf (evS E s b, H)))
    | _ => .fail)
  | .alloc t => match E.ti t with
    | some i => match i.zero with | some z => .when (z.cells.length = i.size ∧ okV z = true) (.leaf (.ptr k 0 0 1, placeS H k (.var t i.size (ofV U z)))) | none => .fail
    | none => .fail
  | .box t x => match E.ti t with
    | some i => .when ((cellsS (evS E s x)).length = i.size ∧ okS (evS E s x) = true) (.leaf (.ptr k 0 0 1, placeS H k (.var t i.size (evS E s x))))
    | none => .fail
  | .build t parts => retT H (.opt (buildT E t (parts.toList.map fun (i, x) => (i, evS E s x))))
  | .buildSlice t n parts => buildSliceT E k H t n (parts.toList.map fun (i, x) => (i, evS E s x))
  | .load t a => retT H (loadT E H t (evS E s a))
  | .store t a v => (storeT E H t (evS E s a) (evS E s v)).andThen fun H' => .leaf (.no, H')
  | .nilCheck x => (match evS E s x with
    | .ptr a b c d => .leaf (.ptr a b c d, H)
    | .ept a b c d => .leaf (.ept a b c d, H)
    | .fn a b c => .leaf (.fn a b c, H)
    | _ => .fail)
  | .binOp op t x y _ => retT H (binT E op t (evS E s x) (evS E s y))
  | .unOp op _ x => retT H (unT op (evS E s x))
  | .convert src dst x => retT H (convT E src dst (evS E s x))
  | .makeSlice t l c => match E.ti t with
    | some ⟨.slice e, _, _, _⟩ => (match okInt (evS E s l), okInt (evS E s c), E.ti e with
      | some (n, _), some (m, _), some ei => (match ei.zero with
        | some z => (match U.decS e (ofV U z) with
          | some y => .when (0 < ei.size ∧ z.cells.length = ei.size ∧ okV z = true ∧ U.esz e = ei.size)
              (.chk (decide (0 ≤ n ∧ n ≤ m ∧ m.toNat * ei.bytes ≤ lim ∧ m ≤ maxLen)) (.leaf (.all k (List.replicate n.toNat y).length, placeS H k (.row e (List.replicate n.toNat y) none))))
          | none => .fail)
        | none => .fail)
      | _, _, _ => .fail)
    | _ => .fail
  | .slice t x lo hi mx => sliceT E H t (evS E s x) (lo.map (evS E s)) (hi.map (evS E s)) (mx.map (evS E s))
  | .fieldAddr t x f => retT H (.opt (fieldAddrT E t (evS E s x) f))
  | .field t x f => retT H (.opt (fieldT E t (evS E s x) f))
  | .indexAddr t x i => retT H (indexAddrT E H t (evS E s x) (evS E s i))
  | .index t x i => retT H (indexT E t (evS E s x) (evS E s i))
  | .extract x i => (match evS E s x with | .tup vs => retT H (.opt vs[i]?) | _ => .fail)
  | .makeFunc (.func f) first caps => .leaf (.fn f (first.toList.map (evS E s)) (caps.toList.map (evS E s)), H)
  | .call c => callT E M k H s c
  | _ => .fail

/-! ### regions -/

def stepT (E : Env) (M : Mdl U) (ops : Array Oper) (k i : Nat) (st : SSt U) : Tr U (SSt U) :=
  match ops[i]? with
  | none => .leaf st
  | some o =>
    let run (st : SSt U) : Tr U (SSt U) := (opT E M k st.H st.s o).andThen fun r => .leaf ⟨setS st.s o.dst r.1, r.2⟩
    let skip (st : SSt U) : Tr U (SSt U) := .leaf ⟨setS st.s o.dst .no, st.H⟩
    match o.guard with
    | none => run st
    | some (j, want) =>
      match (ops[j]?).bind (·.dst) with
      | none => .fail
      | some d => (match st.s.getD d .und with
        | .no => skip st
        | .lit (.bool true) => if want then run st else skip st
        | .lit (.bool false) => if want then skip st else run st
        | .sb b => .br b (if want then run ⟨st.s.set d (.lit (.bool true)), st.H⟩ else skip ⟨st.s.set d (.lit (.bool true)), st.H⟩)
            (if want then skip ⟨st.s.set d (.lit (.bool false)), st.H⟩ else run ⟨st.s.set d (.lit (.bool false)), st.H⟩)
        | _ => .fail)

def opsT (E : Env) (M : Mdl U) (ops : Array Oper) : List Nat → SSt U → Tr U (SSt U)
  | [], st => .leaf st
  | i :: rest, st => (stepT E M ops st.H.length i st).andThen (opsT E M ops rest)

def ref1S : SV U.Ty → List Nat
  | .lsl id _ _ _ => [id]
  | .all id _ => [id]
  | .ptr id _ _ _ => [id]
  | .raw v => ref1 v
  | _ => []
def refsS : SV U.Ty → List Nat
  | .agg cs => cs.flatMap ref1S
  | .raw v => refsV v
  | v => ref1S v
def refsOS (E : Env) (s : List (SV U.Ty)) (o : Oper) : List Nat := o.op.operands.toList.flatMap fun x => refsS (evS E s x)

def isDead : SBox U.Ty → Bool | .dead => true | _ => false

def stepRT (E : Env) (M : Mdl U) (ops : Array Oper) (ms : List Nat) (base m i : Nat) (st : SSt U) : Tr U (SSt U) :=
  match ops[i]? with
  | none => .leaf st
  | some o =>
    .when ((refsOS E st.s o).all (fun id => decide (id < base) || decide (base + m ≤ id) || (ms.getD i 0).testBit (id - base)) = true)
      (if clsOf E o = .a then
        match st.H[base + i]? with
        | some b => if isDead b then stepT E M ops (base + i) i st else .fail
        | none => .fail
       else stepT E M ops st.H.length i st)

def stepsRT (E : Env) (M : Mdl U) (ops : Array Oper) (ms : List Nat) (base m : Nat) : List Nat → SSt U → Tr U (SSt U)
  | [], st => .leaf st
  | i :: rest, st => (stepRT E M ops ms base m i st).andThen (stepsRT E M ops ms base m rest)

def drawT (E : Env) (M : Mdl U) (ops : Array Oper) (st : SSt U) : Tr U (SSt U) :=
  let m := if ops.any (fun o => decide (clsOf E o = .a)) then ops.size else 0
  stepsRT E M ops (masksD [] ops.toList) st.H.length m (List.range ops.size) ⟨st.s, st.H ++ List.replicate m .dead⟩

end

end Go.Proofs.Ytcjccaonfgcakaa.Le
