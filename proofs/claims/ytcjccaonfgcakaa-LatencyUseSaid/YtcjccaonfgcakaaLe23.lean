/-
  The evaluator over symbolic values: typed lists, decision trees. Definitions.
-/
import Derived.Test.YtcjccaonfgcakaaLe22
namespace Go.Proofs.Ytcjccaonfgcakaa.Le
set_option linter.unusedVariables false

inductive SV (Ty : Nat → Type) where
  | lit (v : Value)                       -- a constant
  | si (k : IntKind) (a : Int)
  | sb (b : Bool)
  | ss (s : ByteArray)
  | agg (cs : List (SV Ty))
  | tup (vs : List (SV Ty))
  | nil (e : Nat)                         -- a slice that is surely nil
  | sl (t : Nat) (xs : List (Ty t))
  | slt (t : Nat) (xs : List (Ty t))      -- its capacity is its length
  | all (id n : Nat)                      -- a slice of all n elements of a box
  | lsl (id off len tot : Nat)
  | ptr (id i off tot : Nat)
  | ept (t : Nat) (xs : List (Ty t)) (i off : Nat)
  | fn (f : FuncId) (first caps : List (SV Ty))
  | raw (v : V)
  | no
  | und

instance (Ty : Nat → Type) : Inhabited (SV Ty) := ⟨.und⟩

/-- The types of a program as types of Lean. -/
structure Univ where
  Ty : Nat → Type
  esz : Nat → Nat
  enc : (t : Nat) → Ty t → V
  encS : (t : Nat) → Ty t → SV Ty
  decS : (t : Nat) → SV Ty → Option (Ty t)
  keys : List Nat

section
variable (U : Univ)

mutual
def toV : SV U.Ty → V
  | .lit v => .lit v
  | .si k a => .lit (.int k a)
  | .sb b => .lit (.bool b)
  | .ss s => .lit (.string s)
  | .agg cs => .agg (toVs cs)
  | .tup cs => .tup (toVs cs)
  | .nil e => .sl true e []
  | .sl t xs => .sl false (U.esz t) (xs.map (U.enc t))
  | .slt t xs => .slt false (U.esz t) (xs.map (U.enc t))
  | .all id n => .lsl id 0 n n
  | .lsl id off len tot => .lsl id off len tot
  | .ptr id i off tot => .ptr id i off tot
  | .ept t xs i off => .ept (U.esz t) (xs.map (U.enc t)) i off
  | .fn f a b => .fn f (toVs a) (toVs b)
  | .raw v => v
  | .no => .no
  | .und => .und
def toVs : List (SV U.Ty) → List V
  | [] => []
  | x :: xs => toV x :: toVs xs
end

inductive SBox (Ty : Nat → Type) where
  | var (elem : TypeId) (esz : Nat) (x : SV Ty)
  | row (t : Nat) (xs : List (Ty t)) (fl : Option Nat)
  | dead

def SBox.floor {Ty : Nat → Type} (fl : Option Nat) : Nat := fl.getD 0

def toBox : SBox U.Ty → Box
  | .var e n x => newBox false false e n [toV U x]
  | .row t xs fl => { live := true, row := true, nilp := false, elem := t, esz := U.esz t, xs := xs.map (U.enc t), floor := fl.getD 0 }
  | .dead => deadBox

abbrev SHeap := List (SBox U.Ty)
def toH (H : SHeap U) : Heap := H.map (toBox U)

structure SSt where
  s : List (SV U.Ty)
  H : SHeap U

def toSt (st : SSt U) : St := ⟨toVs U st.s, toH U st.H⟩

/-! ### decision trees -/

inductive Tr (L : Type) where
  | leaf (l : L)
  | br (c : Bool) (a b : Tr L)
  | bind (t : Nat) (o : Option (U.Ty t)) (k : U.Ty t → Tr L)
  | chk (c : Bool) (a : Tr L)
  | fail

variable {U}
def Tr.andThen {L M : Type} : Tr U L → (L → Tr U M) → Tr U M
  | .leaf l, f => f l
  | .br c a b, f => .br c (a.andThen f) (b.andThen f)
  | .bind t o k, f => .bind t o fun x => (k x).andThen f
  | .chk c a, f => .chk c (a.andThen f)
  | .fail, _ => .fail

def Tr.map {L M : Type} (g : L → M) : Tr U L → Tr U M
  | .leaf l => .leaf (g l)
  | .br c a b => .br c (a.map g) (b.map g)
  | .bind t o k => .bind t o fun x => (k x).map g
  | .chk c a => .chk c (a.map g)
  | .fail => .fail

/-- What a tree comes to, if its leaves come to something. -/
def Tr.den {L R : Type} (J : L → Option R) : Tr U L → Option R
  | .leaf l => J l
  | .br c a b => cond c (a.den J) (b.den J)
  | .bind t o k => o.bind fun x => (k x).den J
  | .chk c a => cond c (a.den J) none
  | .fail => none

def Tr.Runs {L : Type} : Tr U L → L → Prop
  | .leaf l, x => l = x
  | .br c a b, x => (c = true ∧ a.Runs x) ∨ (c = false ∧ b.Runs x)
  | .bind t o k, x => ∃ a, o = some a ∧ (k a).Runs x
  | .chk c a, x => c = true ∧ a.Runs x
  | .fail, _ => False

def Tr.opt {L : Type} : Option L → Tr U L
  | some l => .leaf l
  | none => .fail
def Tr.when {L : Type} (p : Prop) [Decidable p] (a : Tr U L) : Tr U L := if p then a else .fail

variable (U)
/-! ### values -/

def ofV1 : V → SV U.Ty
  | .lit v => .lit v
  | .sl true e [] => .nil e
  | .no => .no
  | .und => .und
  | v => .raw v
def ofV : V → SV U.Ty
  | .agg cs => .agg (cs.map (ofV1 U))
  | v => ofV1 U v

variable {U}
def cellsS : SV U.Ty → List (SV U.Ty)
  | .agg cs => cs
  | v => [v]
def okS : SV U.Ty → Bool
  | .und | .no | .tup _ => false
  | .raw (.agg _) => false
  | .raw v => okV v
  | _ => true

/-- What is a scalar, as the evaluator over values has it. -/
def scal : SV U.Ty → Option Value
  | .lit v => some v
  | .si k a => some (.int k a)
  | .sb b => some (.bool b)
  | .ss s => some (.string s)
  | _ => none

def asInt : SV U.Ty → Option (IntKind × Int)
  | .lit (.int k a) => some (k, a)
  | .si k a => some (k, a)
  | _ => none
def asStr : SV U.Ty → Option ByteArray
  | .lit (.string s) => some s
  | .ss s => some s
  | _ => none
def asBool : SV U.Ty → Option Bool
  | .lit (.bool b) => some b
  | .sb b => some b
  | _ => none

def evS (E : Env) (s : List (SV U.Ty)) : Operand → SV U.Ty
  | .tmp t => s.getD t .und
  | .const v => ofV U (ofConst v)
  | .func f => .fn f [] []
  | .global g => match E.glob g with | some r => .raw (.ept r.length [.agg r] 0 0) | none => .und

def setS (s : List (SV U.Ty)) (d : Option Tmp) (v : SV U.Ty) : List (SV U.Ty) := match d with | some t => s.set t v | none => s

def placeS (H : SHeap U) (k : Nat) (b : SBox U.Ty) : SHeap U := if k < H.length then H.set k b else H ++ [b]

/-- A whole row, looked at by a slice of n elements. -/
def rowAt {L : Type} (H : SHeap U) (id tot : Nat) (k : (t : Nat) → List (U.Ty t) → Option Nat → Tr U L) : Tr U L :=
  match H[id]? with
  | some (.row t xs fl) => .chk (xs.length == tot) (k t xs fl)
  | _ => .fail

/-! ### freezing -/

def frz0S (H : SHeap U) : SV U.Ty → Tr U (SV U.Ty)
  | .lit v => .leaf (.lit v)
  | .si k a => .leaf (.si k a)
  | .sb b => .leaf (.sb b)
  | .ss s => .leaf (.ss s)
  | .nil e => .leaf (.nil e)
  | .sl t xs => .leaf (.sl t xs)
  | .slt t xs => .leaf (.sl t xs)
  | .all id n => rowAt H id n fun t xs _ => .leaf (.sl t xs)
  | .lsl id off len tot => rowAt H id tot fun t xs _ => .chk (decide (off + len ≤ tot)) (.leaf (.sl t ((xs.drop off).take len)))
  | .fn f [] [] => .leaf (.fn f [] [])
  | _ => .fail

def frzLS (H : SHeap U) : List (SV U.Ty) → Tr U (List (SV U.Ty))
  | [] => .leaf []
  | v :: vs => (frz0S H v).andThen fun w => (frzLS H vs).andThen fun ws => .leaf (w :: ws)

def frzS (H : SHeap U) : SV U.Ty → Tr U (SV U.Ty)
  | .agg cs => (frzLS H cs).andThen fun ws => .leaf (.agg ws)
  | v => frz0S H v

def frzAllS (H : SHeap U) : List (SV U.Ty) → Tr U (List (SV U.Ty))
  | [] => .leaf []
  | v :: vs => (frzS H v).andThen fun w => (frzAllS H vs).andThen fun ws => .leaf (w :: ws)

def ids1S : SV U.Ty → List Nat
  | .lsl id _ _ _ => [id]
  | .all id _ => [id]
  | .raw v => ids1 v
  | _ => []
def idsAS : SV U.Ty → List Nat
  | .agg cs => cs.flatMap ids1S
  | .raw v => idsA v
  | v => ids1S v

def bumpBox : SBox U.Ty → SBox U.Ty
  | .row t xs _ => .row t xs (some xs.length)
  | b => b
def bumpS (H : SHeap U) : List Nat → SHeap U
  | [] => H
  | i :: is => bumpS (H.modify i bumpBox) is

/-! ### reading and writing -/

def partS (cs : List (SV U.Ty)) (off n : Nat) (isAgg : Bool) : Option (SV U.Ty) :=
  if isAgg then (if off + n ≤ cs.length then some (.agg ((cs.drop off).take n)) else none) else cs[off]?

def loadT (E : Env) (H : SHeap U) (t : TypeId) (a : SV U.Ty) : Tr U (SV U.Ty) :=
  match E.ti t with
  | none => .fail
  | some i =>
    match a with
    | .ept et xs j off => .bind et xs[j]? fun x => .opt (partS (cellsS (U.encS et x)) off i.size i.isAgg)
    | .ptr id j off tot => match H[id]? with
      | some (.var _ _ x) => .when (j = 0 ∧ tot = 1 ∧ okS x = true) (.opt (partS (cellsS x) off i.size i.isAgg))
      | some (.row et xs _) => .chk (xs.length == tot) (.bind et xs[j]? fun x => .opt (partS (cellsS (U.encS et x)) off i.size i.isAgg))
      | _ => .fail
    | .raw (.ept _ [.agg cs] 0 off) => .opt ((partOf cs off i.size i.isAgg).map (ofV U))
    | _ => .fail

def spliceS (x : SV U.Ty) (off : Nat) (cs : List (SV U.Ty)) : Option (SV U.Ty) :=
  match x with
  | .agg ds => if off + cs.length ≤ ds.length then some (.agg (ds.take off ++ cs ++ ds.drop (off + cs.length))) else none
  | .raw _ => none
  | _ => match off, cs with | 0, [c] => some c | _, _ => none

def storeT (E : Env) (H : SHeap U) (t : TypeId) (a v : SV U.Ty) : Tr U (SHeap U) :=
  match E.ti t with
  | none => .fail
  | some i =>
    match a with
    | .ptr id j off tot => match H[id]? with
      | some (.var e n x) => .when ((j = 0 ∧ tot = 1) ∧ (cellsS v).length = i.size ∧ okS v = true ∧ okS x = true)
          (match spliceS x off (cellsS v) with
           | some x' => .when (okS x' = true) (.leaf (H.set id (.var e n x')))
           | none => .fail)
      | some (.row et xs fl) => .when ((cellsS v).length = i.size ∧ okS v = true ∧ (idsAS v).contains id = false)
          (.chk (xs.length == tot && decide (fl.getD 0 ≤ j)) (.bind et xs[j]? fun x => (frzS H v).andThen fun v' =>
            match spliceS (U.encS et x) off (cellsS v') with
            | some x' => match U.decS et x' with
              | some y => .when (okS v' = true ∧ okS x' = true) (.leaf ((bumpS H (idsAS v)).set id (.row et (xs.set j y) fl)))
              | none => .fail
            | none => .fail))
      | _ => .fail
    | _ => .fail

end

end Go.Proofs.Ytcjccaonfgcakaa.Le
