/- WHAT IS PROVED: nothing yet: the abstract operations are defined here. Conditions: none. -/
import Derived.Test.YtdoboiiilcgbnaaL2
namespace Go.Proofs.Ytdoboiiilcgbnaa.L
set_option linter.unusedVariables false
set_option linter.unusedSimpArgs false

def D.lin : D → Bool
  | .row .own _ _ => true
  | .ptr .own _ => true
  | _ => false

mutual
def V.lin : V → Bool
  | .d x => x.lin
  | .sl _ _ _ _ => false
  | .mp _ _ _ _ => false
  | .agg cs => V.linL cs
  | .clo _ cs => V.linL cs
  | .tup cs => V.linL cs
  | .arr _ _ => true
def V.linL : List V → Bool
  | [] => false
  | v :: vs => v.lin || V.linL vs
end

abbrev V.int (n : Int) : V := .d (.p (.int .i64 n))
abbrev V.bool (b : Bool) : V := .d (.p (.bool b))

/-- rows of data as rows of values. -/
def dd (xs : List (List D)) : List (List V) := xs.map (·.map V.d)

abbrev nilS : Value := .slice none 0 0

def Prog.ofO {α : Type} : Option α → Prog α
  | some a => .ret a
  | none => .fail

/-- The value of an operand; what is alone held goes out of its slot. -/
def fetchP : Operand → Prog V
  | .const v => .req (v.oneCell' = true) (.ret (.d (.p v)))
  | .func f => .ret (.clo f [])
  | .global _ => .fail
  | .tmp t => .get (.s t) fun c => match c with
    | .v x => if x.lin then .set (.s t) none (.ret x) else .ret x
    | _ => .fail

/-- What is alone held and new gets a name. -/
def nameP (nm : Nat) : V → Prog V
  | .d (.row .own s xs) => .set (.r nm) (some (.o s (dd xs))) (.ret (.sl nm s 0 xs.length))
  | .d (.ptr .own cs) => .set (.r nm) (some (.o cs.length [cs.map V.d])) (.ret (.mp nm cs.length 0 0))
  | .arr s xs => .set (.r nm) (some (.o s xs)) (.ret (.sl nm s 0 xs.length))
  | v => .ret v

def fetchN (nm : Nat) (x : Operand) : Prog V := (fetchP x).bind (nameP nm)

/-- Values as data: the objects that they name are taken in. -/
def resV : Nat → V → Prog D
  | 0, _ => .fail
  | n + 1, v => match v with
    | .d x => .ret x
    | .sl r s i m => .get (.r r) fun c => match c with
      | .o s' xs => .req (s = s' ∧ i + m ≤ xs.length) (.set (.r r) none
          ((go n ((xs.drop i).take m)).bind fun ds => .ret (.row .own s ds)))
      | _ => .fail
    | .mp r s 0 0 => .get (.r r) fun c => match c with
      | .o s' [cs] => .set (.r r) none ((gol n cs).bind fun ds => .ret (.ptr .own ds))
      | _ => .fail
    | .arr s xs => (go n xs).bind fun ds => .ret (.row .own s ds)
    | _ => .fail
where
  go (n : Nat) : List (List V) → Prog (List (List D))
    | [] => .ret []
    | x :: xs => (gol n x).bind fun d => (go n xs).bind fun ds => .ret (d :: ds)
  gol (n : Nat) : List V → Prog (List D)
    | [] => .ret []
    | x :: xs => (resV n x).bind fun d => (gol n xs).bind fun ds => .ret (d :: ds)

abbrev resRows (xs : List (List V)) : Prog (List (List D)) := resV.go 6 xs
abbrev resRow (xs : List V) : Prog (List D) := resV.gol 6 xs

/-- The cells of a value. -/
def V.cells : V → Option (List V)
  | .agg cs => some cs
  | .tup _ => none
  | .arr _ _ => none
  | v => some [v]

/-- A value's cells as they may lie in an object. -/
def cellsP : V → Prog (List V)
  | .agg cs => .ret cs
  | .arr s xs => (resRows xs).bind fun ds => .ret [.d (.row .own s ds)]
  | .tup _ => .fail
  | v => .ret [v]

/-- Cells are read out of an object: what is alone held there gets a name. -/
def outP (nm : Nat) : List V → Nat → Prog (List V)
  | [], _ => .ret []
  | v :: vs, c => (nameP (nm + c) v).bind fun v' => (outP nm vs (c + 1)).bind fun r => .ret (v' :: r)

def setSeg {α : Type} (row : List α) (j : Nat) (cs : List α) : List α := row.take j ++ cs ++ row.drop (j + cs.length)

def asVal (agg : Bool) (cs : List V) : Prog V :=
  if agg then .ret (.agg cs) else match cs with
    | [v] => .ret v
    | _ => .fail

def loadP (P : Program) (t : TypeId) (nm : Nat) : V → Prog V
  | .mp r s i j => (Prog.ofO (tyOf P t)).bind fun ty => .get (.r r) fun c => match c with
    | .o s' xs => (Prog.ofO (xs[i]?)).bind fun row => .req (s = s' ∧ j + ty.size ≤ row.length)
      (if V.linL ((row.drop j).take ty.size) then .req (ty.size ≤ 64)
        ((outP nm ((row.drop j).take ty.size) 0).bind fun r' => .req (V.linL r' = false)
          (.set (.r r) (some (.o s (xs.set i (setSeg row j r')))) (asVal ty.k.agg r')))
      else asVal ty.k.agg ((row.drop j).take ty.size))
    | _ => .fail
  | .d (.ptr .frz cs) => (Prog.ofO (tyOf P t)).bind fun ty => .req (ty.size ≤ cs.length) (asVal ty.k.agg ((cs.take ty.size).map .d))
  | .d (.ptr .bor cs) => (Prog.ofO (tyOf P t)).bind fun ty => .req (ty.size ≤ cs.length) (asVal ty.k.agg ((cs.take ty.size).map .d))
  | _ => .fail

def storeP (P : Program) (t : TypeId) (v : V) : V → Prog V
  | .mp r s i j => (Prog.ofO (tyOf P t)).bind fun ty => (cellsP v).bind fun cs => .get (.r r) fun c => match c with
    | .o s' xs => (Prog.ofO (xs[i]?)).bind fun row => .req (s = s' ∧ j + cs.length ≤ row.length ∧ cs.length = ty.size)
        (.set (.r r) (some (.o s (xs.set i (setSeg row j cs)))) (.ret (.tup [])))
    | _ => .fail
  | _ => .fail

def V.asInt : V → Option Int
  | .d (.p (.int _ n)) => some n
  | _ => none

def indexAddrP (P : Program) (t : TypeId) (v : V) (i : Int) : Prog V :=
  (Prog.ofO (tyOf P t)).bind fun ty => match ty.k with
    | .slice e => (Prog.ofO (tyOf P e)).bind fun te => match v with
      | .sl r s i0 n => .req (s = te.size ∧ 0 ≤ i ∧ i < n) (.ret (.mp r s (i0 + i.toNat) 0))
      | .d (.row .frz s xs) => .req (s = te.size ∧ 0 ≤ i ∧ i < xs.length) ((Prog.ofO (xs[i.toNat]?)).bind fun row => .ret (.d (.ptr .frz row)))
      | .d (.row .bor s xs) => .req (s = te.size ∧ 0 ≤ i ∧ i < xs.length) ((Prog.ofO (xs[i.toNat]?)).bind fun row => .ret (.d (.ptr .bor row)))
      | _ => .fail
    | .array n e => (Prog.ofO (tyOf P e)).bind fun te => match v with
      | .mp r s i0 j => .req (0 ≤ i ∧ i < n) (.ret (.mp r s i0 (j + i.toNat * te.size)))
      | .d (.ptr .frz cs) => .req (0 ≤ i ∧ i < n) (.ret (.d (.ptr .frz (cs.drop (i.toNat * te.size)))))
      | .d (.ptr .bor cs) => .req (0 ≤ i ∧ i < n) (.ret (.d (.ptr .bor (cs.drop (i.toNat * te.size)))))
      | _ => .fail
    | _ => .fail

def TyK.field (k : TyK) (f : Nat) : Option (Nat × TypeId) := match k with
  | .struct fs => fs[f]?
  | _ => none

def fieldAddrP (P : Program) (t : TypeId) (f : Nat) (v : V) : Prog V :=
  (Prog.ofO (tyOf P t)).bind fun ty => (Prog.ofO (ty.k.field f)).bind fun o => (Prog.ofO (tyOf P o.2)).bind fun te => .req (0 < te.size) (match v with
    | .mp r s i j => .ret (.mp r s i (j + o.1))
    | .d (.ptr .frz cs) => .ret (.d (.ptr .frz (cs.drop o.1)))
    | .d (.ptr .bor cs) => .ret (.d (.ptr .bor (cs.drop o.1)))
    | _ => .fail)

def fieldP (P : Program) (t : TypeId) (f : Nat) : V → Prog V
  | .agg cs => (Prog.ofO (tyOf P t)).bind fun ty => (Prog.ofO (ty.k.field f)).bind fun o => (Prog.ofO (tyOf P o.2)).bind fun te =>
      if te.k.agg then .ret (.agg ((cs.drop o.1).take te.size)) else (Prog.ofO (cs[o.1]?)).bind fun v => .ret v
  | _ => .fail

def indexP (P : Program) (t : TypeId) (v : V) (i : Int) : Prog V := (Prog.ofO (tyOf P t)).bind fun ty => .req (ty.k = .str) (match v with
  | .d (.p (.string b)) => .req (0 ≤ i) ((Prog.ofO (b.data[i.toNat]?)).bind fun c => .ret (.d (.p (.int .u8 c.toNat))))
  | _ => .fail)

def boundP (n : Nat) (dflt : Nat) : Option V → Prog Nat
  | none => .ret dflt
  | some v => (Prog.ofO v.asInt).bind fun i => .req (0 ≤ i ∧ i ≤ n) (.ret i.toNat)

def sliceP (P : Program) (t : TypeId) (v : V) (lo hi : Option V) : Prog V :=
  match v with
  | .d (.p (.string b)) => (Prog.ofO (tyOf P t)).bind fun ty => .req (ty.k = .str)
      ((boundP b.size b.size hi).bind fun h => (boundP h 0 lo).bind fun l => .ret (.d (.p (.string (b.extract l h)))))
  | .sl r s i n => (Prog.ofO (tyOf P t)).bind fun ty => match ty.k with
    | .slice e => (Prog.ofO (tyOf P e)).bind fun te => .req (s = te.size) ((boundP n n hi).bind fun h => (boundP h 0 lo).bind fun l => .ret (.sl r s (i + l) (h - l)))
    | _ => .fail
  | .d (.row .frz s xs) => (Prog.ofO (tyOf P t)).bind fun ty => match ty.k with
    | .slice e => (Prog.ofO (tyOf P e)).bind fun te => .req (s = te.size) ((boundP xs.length xs.length hi).bind fun h => (boundP h 0 lo).bind fun l => .ret (.d (.row .frz s ((xs.drop l).take (h - l)))))
    | _ => .fail
  | .d (.row .bor s xs) => (Prog.ofO (tyOf P t)).bind fun ty => match ty.k with
    | .slice e => (Prog.ofO (tyOf P e)).bind fun te => .req (s = te.size) ((boundP xs.length xs.length hi).bind fun h => (boundP h 0 lo).bind fun l => .ret (.d (.row .bor s ((xs.drop l).take (h - l)))))
    | _ => .fail
  | _ => .fail

/-! ### Plain operators -/
def intBin (op : BinOp) (k : IntKind) (x y : Int) : Option Value := match op with
  | .add => some (.int k (k.wrap (x + y)))
  | .sub => some (.int k (k.wrap (x - y)))
  | .mul => some (.int k (k.wrap (x * y)))
  | .quo => if y = 0 then none else some (.int k (k.wrap (x.tdiv y)))
  | .rem => if y = 0 then none else some (.int k (x.tmod y))
  | .and => some (.int k (k.wrap (BitVec.ofInt k.bits x &&& BitVec.ofInt k.bits y).toNat))
  | .or => some (.int k (k.wrap (BitVec.ofInt k.bits x ||| BitVec.ofInt k.bits y).toNat))
  | .xor => some (.int k (k.wrap (BitVec.ofInt k.bits x ^^^ BitVec.ofInt k.bits y).toNat))
  | .andNot => some (.int k (k.wrap (BitVec.ofInt k.bits x &&& ~~~ BitVec.ofInt k.bits y).toNat))
  | .eql => some (.bool (x == y))
  | .neq => some (.bool (x != y))
  | .lss => some (.bool (x < y))
  | .leq => some (.bool (x ≤ y))
  | .gtr => some (.bool (x > y))
  | .geq => some (.bool (x ≥ y))
  | _ => none

def shiftBin (op : BinOp) (k : IntKind) (x y : Int) : Option Value :=
  if y < 0 then none else match op with
  | .shl => some (.int k (k.wrap (x * 2 ^ (min y.toNat k.bits))))
  | .shr => some (.int k (x.fdiv (2 ^ (min y.toNat k.bits))))
  | _ => none

def strBin (op : BinOp) (x y : ByteArray) : Option Value := match op with
  | .add => if x.size + y.size ≤ 9223372036854775807 then some (.string (x ++ y)) else none
  | .eql => some (.bool (x.toList == y.toList))
  | .neq => some (.bool (!(x.toList == y.toList)))
  | .lss => some (.bool (Op.bytesLess x.toList y.toList))
  | .leq => some (.bool (Op.bytesLess x.toList y.toList || (x.toList == y.toList)))
  | .gtr => some (.bool (!(Op.bytesLess x.toList y.toList || (x.toList == y.toList))))
  | .geq => some (.bool (!Op.bytesLess x.toList y.toList))
  | _ => none

def BinOp.isShift : BinOp → Bool
  | .shl => true
  | .shr => true
  | _ => false

/-- Two plain cells of a kind (0 a number, 1 a bool, 2 a text): are they the same? -/
def cellEq : Nat → V → V → Option Bool
  | 0, .d (.p (.int k a)), .d (.p (.int k' b)) => if k = k' then some (a == b) else none
  | 1, .d (.p (.bool a)), .d (.p (.bool b)) => some (a == b)
  | 2, .d (.p (.string a)), .d (.p (.string b)) => some (a == b)
  | _, _, _ => none

def cellsEq : List Nat → List V → List V → Option Bool
  | [], [], [] => some true
  | k :: ks, a :: as, b :: bs => (cellEq k a b).bind fun x => (cellsEq ks as bs).bind fun y => some (x && y)
  | _, _, _ => none

def kindOf (P : Program) (t : TypeId) : Option Nat := match P.underlying t with
  | some (.int _) => some 0
  | some .bool => some 1
  | some .string => some 2
  | _ => none

def flatFields (P : Program) : List Field → Nat → Option (List Nat)
  | [], _ => some []
  | f :: fs, i => if f.name != "_" && f.offset == i then (kindOf P f.type).bind fun k => (flatFields P fs (i + 1)).map (k :: ·) else none

/-- The kinds of the fields of a struct of plain fields. -/
def flatK (P : Program) (t : TypeId) : Option (List Nat) := match P.underlying t with
  | some (.struct fs) => if !P.stoodInHeld t && !P.eqGuardType P.depth t then flatFields P fs.toList 0 else none
  | _ => none

/-- Is it no nil? -/
def V.some? : V → Prog Unit
  | .mp .. => .ret ()
  | .d (.ptr ..) => .ret ()
  | .clo .. => .ret ()
  | _ => .fail

def isNil : V → Bool
  | .d (.p (.slice none 0 0)) => true
  | .d (.p (.pointer none)) => true
  | .d (.p .nilIface) => true
  | _ => false

/-- Is a value, of a type that has a nil, nil? -/
def nilEqP (P : Program) (t : TypeId) (v b : V) : Prog Bool := (Prog.ofO (tyOf P t)).bind fun ty => match ty.k, v, b with
  | .slice _, .sl _ _ _ n, .d (.p (.slice none 0 0)) => .req (0 < n) (.ret false)
  | .slice _, .d (.row _ _ xs), .d (.p (.slice none 0 0)) => .req (xs ≠ []) (.ret false)
  | .slice _, .d (.p (.slice none _ _)), .d (.p (.slice none 0 0)) => .ret true
  | .ptr _, .mp _ _ _ _, .d (.p (.pointer none)) => .ret false
  | .ptr _, .d (.ptr _ _), .d (.p (.pointer none)) => .ret false
  | .ptr _, .d (.p (.pointer none)), .d (.p (.pointer none)) => .ret true
  | .iface, .d (.p (.iface _ _)), .d (.p .nilIface) => .ret false
  | _, _, _ => .fail

def binP (P : Program) (op : BinOp) (t : TypeId) (x y : V) : Prog V := match x, y with
  | .d (.p (.int k a)), .d (.p (.int k' b)) => if BinOp.isShift op then (Prog.ofO (shiftBin op k a b)).bind fun v => .ret (.d (.p v))
      else if k = k' then (Prog.ofO (intBin op k a b)).bind fun v => .ret (.d (.p v)) else .fail
  | .d (.p (.string a)), .d (.p (.string b)) => (Prog.ofO (strBin op a b)).bind fun v => .ret (.d (.p v))
  | .d (.p (.bool a)), .d (.p (.bool b)) => match op with
    | .eql => (Prog.ofO (tyOf P t)).bind fun ty => .req (ty.k = .bool) (.ret (.d (.p (.bool (a == b)))))
    | .neq => (Prog.ofO (tyOf P t)).bind fun ty => .req (ty.k = .bool) (.ret (.d (.p (.bool (!(a == b))))))
    | _ => .fail
  | .agg as, .agg bs => (Prog.ofO (flatK P t)).bind fun ks => (Prog.ofO (cellsEq ks as bs)).bind fun b => match op with
    | .eql => .ret (.d (.p (.bool b)))
    | .neq => .ret (.d (.p (.bool (!b))))
    | _ => .fail
  | _, _ => .fail

def unP (op : UnOp) : V → Prog V
  | .d (.p (.int k n)) => match op with
    | .neg => .ret (.d (.p (.int k (k.wrap (0 - n)))))
    | .xor => .ret (.d (.p (.int k (k.wrap (BitVec.ofInt k.bits (if k.signed then -1 else k.max) ^^^ BitVec.ofInt k.bits n).toNat))))
    | _ => .fail
  | .d (.p (.bool b)) => match op with
    | .not => .ret (.d (.p (.bool (!b))))
    | _ => .fail
  | _ => .fail

/-- The bytes of a string as rows. -/
def byteRows (b : ByteArray) : List (List D) := b.data.toList.map fun c => [D.p (.int .u8 c.toNat)]

def rowsBytes : List (List D) → Option (List UInt8)
  | [] => some []
  | [.p (.int .u8 n)] :: r => (rowsBytes r).map (UInt8.ofNat n.toNat :: ·)
  | _ => none

/-- Rows whose cells may be copied. -/
def D.plainRows (xs : List (List D)) : Prop := ∀ r ∈ xs, ∀ x ∈ r, x.lin = false

def undd : List (List V) → Option (List (List D))
  | [] => some []
  | r :: rs => match unddR r, undd rs with
    | some d, some ds => some (d :: ds)
    | _, _ => none
where
  unddR : List V → Option (List D)
    | [] => some []
    | .d x :: r => (unddR r).map (x :: ·)
    | _ => none

/-- The rows that a slice shows, to be read. -/
def rowsOfP : V → Prog (List (List D))
  | .d (.row _ _ xs) => .ret xs
  | .d (.p (.slice none 0 0)) => .ret []
  | .sl r s i n => .get (.r r) fun c => match c with
    | .o s' xs => .req (s = s' ∧ i + n ≤ xs.length) ((Prog.ofO (undd ((xs.drop i).take n))).bind fun ds => .req (D.plainRows ds) (.ret ds))
    | _ => .fail
  | .d (.p (.string b)) => .ret (byteRows b)
  | .arr s xs => resRows xs
  | _ => .fail

def lenStr : V → Option Nat
  | .d (.p (.string b)) => some b.size
  | _ => none

def V.rowSize : V → Option Nat
  | .d (.row _ s _) => some s
  | .sl _ s _ _ => some s
  | .arr s _ => some s
  | .d (.p (.string _)) => some 1
  | _ => none

def sizeFits (v : V) (s : Nat) : Prop := match v.rowSize with
  | some s' => s' = s
  | none => True

def convertP (P : Program) (src dst : TypeId) (v : V) : Prog V :=
  (Prog.ofO (tyOf P src)).bind fun ts => (Prog.ofO (tyOf P dst)).bind fun td => match ts.k, td.k, v with
    | .int _, .int k, .d (.p (.int _ n)) => .ret (.d (.p (.int k (k.wrap n))))
    | .str, .str, .d (.p (.string b)) => .ret (.d (.p (.string b)))
    | .str, .slice e, .d (.p (.string b)) => (Prog.ofO (tyOf P e)).bind fun te => .req (te.k = .int .u8 ∧ te.size = 1) (.ret (.d (.row .own 1 (byteRows b))))
    | .slice e, .str, v => (Prog.ofO (tyOf P e)).bind fun te => .req (te.k = .int .u8 ∧ sizeFits v 1 ∧ lenStr v = none) ((rowsOfP v).bind fun xs => (Prog.ofO (rowsBytes xs)).bind fun l => .ret (.d (.p (.string ⟨l.toArray⟩))))
    | _, _, _ => .fail

def lenOf : V → Option Nat
  | .d (.row _ _ xs) => some xs.length
  | .d (.p (.slice none 0 0)) => some 0
  | .sl _ _ _ n => some n
  | .arr _ xs => some xs.length
  | _ => none

def lenP (P : Program) (t : TypeId) (v : V) : Prog V :=
  (Prog.ofO (tyOf P t)).bind fun ty => match ty.k with
    | .array n _ => .ret (.int n)
    | .slice _ => (Prog.ofO (lenOf v)).bind fun n => .ret (.int n)
    | .str => (Prog.ofO (lenStr v)).bind fun n => .ret (.int n)
    | _ => .fail

/-- What an append goes onto: its rows; what it names is taken. -/
def ontoP : V → Prog (List (List D))
  | .d (.p (.slice none 0 0)) => .ret []
  | v => (resV 7 v).bind fun d => match d with
    | .row .own _ xs => .ret xs
    | _ => .fail

def TyK.src : TyK → Bool
  | .slice _ => true
  | .str => true
  | _ => false

def appendP (P : Program) (t t2 : TypeId) (x y : V) : Prog V :=
  (Prog.ofO (tyOf P t)).bind fun ty => match ty.k with
    | .slice e => (Prog.ofO (tyOf P e)).bind fun te => (Prog.ofO (tyOf P t2)).bind fun ty2 =>
      .req (sizeFits x te.size ∧ sizeFits y te.size ∧ te.zero.length = te.size ∧ ty2.k.src = true)
      ((rowsOfP y).bind fun ys => (ontoP x).bind fun xs => .req ((xs.length + ys.length) * te.bytes ≤ 35184372088832 ∧ xs.length + ys.length ≤ 35184372088832)
        (.ret (.d (.row .own te.size (xs ++ ys)))))
    | _ => .fail

def copyP (P : Program) (t t2 : TypeId) (x y : V) : Prog V :=
  (Prog.ofO (tyOf P t)).bind fun ty => match ty.k with
    | .slice e => (Prog.ofO (tyOf P e)).bind fun te => (rowsOfP y).bind fun ys => match x with
      | .sl r s i n => .get (.r r) fun c => match c with
        | .o s' xs => .req (sizeFits y te.size ∧ s = s' ∧ s = te.size ∧ i + n ≤ xs.length ∧ D.plainRows ys)
          (.set (.r r) (some (.o s (setSeg xs i (dd (ys.take n))))) (.ret (.int (min ys.length n))))
        | _ => .fail
      | _ => .fail
    | _ => .fail

def zeroRow (ty : Ty) : List D := ty.zero.map D.p

def makeSliceP (P : Program) (t : TypeId) (l c : Int) : Prog V :=
  (Prog.ofO (tyOf P t)).bind fun ty => match ty.k with
    | .slice e => (Prog.ofO (tyOf P e)).bind fun te => .req (0 ≤ l ∧ l ≤ c ∧ c * te.bytes ≤ 35184372088832 ∧ c ≤ 35184372088832 ∧ te.zero.length = te.size ∧ ∀ v ∈ te.zero, v.oneCell' = true)
        (.ret (.d (.row .own te.size (List.replicate l.toNat (zeroRow te)))))
    | _ => .fail

def allocP (P : Program) (t : TypeId) (nm : Nat) : Prog V :=
  (Prog.ofO (tyOf P t)).bind fun ty => .req (∀ v ∈ ty.zero, v.oneCell' = true)
    (.set (.r nm) (some (.o ty.zero.length [(zeroRow ty).map V.d])) (.ret (.mp nm ty.zero.length 0 0)))

def boxP (nm : Nat) (v : V) : Prog V :=
  (cellsP v).bind fun cs => .set (.r nm) (some (.o cs.length [cs])) (.ret (.mp nm cs.length 0 0))

def fetchAll : List Operand → Prog (List V)
  | [] => .ret []
  | x :: xs => (fetchP x).bind fun v => (fetchAll xs).bind fun vs => .ret (v :: vs)

/-- parts put into cells. -/
def putParts (place : Nat → Option (Nat × Nat)) : List (Nat × Operand) → List V → Prog (List V)
  | [], cells => .ret cells
  | (i, x) :: rest, cells => (fetchP x).bind fun v => (cellsP v).bind fun cs => (Prog.ofO (place i)).bind fun p =>
      .req (cs.length = p.2 ∧ p.1 + cs.length ≤ cells.length) (putParts place rest (setSeg cells p.1 cs))

def structPlaces (P : Program) : List (Nat × TypeId) → Option (List (Nat × Nat))
  | [] => some []
  | f :: fs => (tyOf P f.2).bind fun te => (structPlaces P fs).map ((f.1, te.size) :: ·)

def buildP (P : Program) (t : TypeId) (parts : List (Nat × Operand)) : Prog V :=
  (Prog.ofO (tyOf P t)).bind fun ty => .req (∀ v ∈ ty.zero, v.oneCell' = true) (match ty.k with
    | .struct fs => (Prog.ofO (structPlaces P fs)).bind fun pl => (putParts (fun i => pl[i]?) parts ((zeroRow ty).map V.d)).bind fun cs => .ret (.agg cs)
    | .array _ e => (Prog.ofO (tyOf P e)).bind fun te => (putParts (fun i => some (i * te.size, te.size)) parts ((zeroRow ty).map V.d)).bind fun cs => .ret (.agg cs)
    | _ => .fail)

def chunks (s : Nat) : Nat → List V → List (List V)
  | 0, _ => []
  | n + 1, l => l.take s :: chunks s n (l.drop s)

def buildSliceP (P : Program) (t : TypeId) (len : Nat) (parts : List (Nat × Operand)) : Prog V :=
  (Prog.ofO (tyOf P t)).bind fun ty => match ty.k with
    | .slice e => (Prog.ofO (tyOf P e)).bind fun te => .req (len * te.size ≤ 16777216 ∧ te.zero.length = te.size ∧ ∀ v ∈ te.zero, v.oneCell' = true)
        ((putParts (fun i => some (i * te.size, te.size)) parts ((List.replicate len (te.zero.map fun v => V.d (.p v))).flatten)).bind fun cs => .ret (.arr te.size (chunks te.size len cs)))
    | _ => .fail

def fetchO : Option Operand → Prog (Option V)
  | none => .ret none
  | some x => (fetchP x).bind fun v => .ret (some v)

def minmaxP (mx : Bool) : V → V → Prog V
  | .d (.p (.int k n)), .d (.p (.int _ m)) => .ret (.d (.p (.int k (if (if mx then decide (m > n) else decide (m < n)) = true then m else n))))
  | _, _ => .fail

/-- An operation that calls no function of Go. -/
def opP (P : Program) (nm : Nat) : Op → Prog V
  | .move x => fetchN nm x
  | .assign x => fetchN nm x
  | .pick c a b => (fetchP c).bind fun v => match v with
    | .d (.p (.bool true)) => fetchP a
    | .d (.p (.bool false)) => fetchP b
    | _ => .fail
  | .alloc t => allocP P t nm
  | .box _ x => (fetchP x).bind (boxP nm)
  | .build t parts => buildP P t parts.toList
  | .buildSlice t len parts => buildSliceP P t len parts.toList
  | .load t a => (fetchP a).bind (loadP P t nm)
  | .store t a x => (fetchP x).bind fun v => (fetchP a).bind (storeP P t v)
  | .nilCheck x => (fetchN nm x).bind fun v => v.some?.bind fun _ => .ret v
  | .binOp op t x y _ => (fetchP x).bind fun a => (fetchP y).bind fun b =>
      if isNil b then (match op with
        | .eql => (nilEqP P t a b).bind fun r => .ret (.bool r)
        | .neq => (nilEqP P t a b).bind fun r => .ret (.bool (!r))
        | _ => .fail)
      else binP P op t a b
  | .unOp op _ x => (fetchP x).bind (unP op)
  | .convert src dst x => (fetchP x).bind (convertP P src dst)
  | .makeFunc (.func f) first captured => if first.size = 0 then (fetchAll captured.toList).bind fun cs => .ret (.clo f cs) else .fail
  | .makeSlice t l c => (fetchP l).bind fun a => (fetchP c).bind fun b => (Prog.ofO a.asInt).bind fun l => (Prog.ofO b.asInt).bind fun c => makeSliceP P t l c
  | .slice t x lo hi none => (fetchN nm x).bind fun v => (fetchO lo).bind fun l => (fetchO hi).bind fun h => sliceP P t v l h
  | .fieldAddr t x f => (fetchN nm x).bind (fieldAddrP P t f)
  | .field t x f => (fetchP x).bind (fieldP P t f)
  | .indexAddr t x ix => (fetchN nm x).bind fun v => (fetchP ix).bind fun i => (Prog.ofO i.asInt).bind (indexAddrP P t v)
  | .index t x ix => (fetchP x).bind fun v => (fetchP ix).bind fun i => (Prog.ofO i.asInt).bind (indexP P t v)
  | .extract x i => (fetchP x).bind fun v => match v with
    | .tup vs => (Prog.ofO vs[i]?).bind fun v => .ret v
    | _ => .fail
  | .call { callee := .builtin .len, args := args, argTypes := ts } => match args.toList, ts.toList with
    | [x], [t] => (fetchP x).bind (lenP P t)
    | _, _ => .fail
  | .call { callee := .builtin .append, args := args, argTypes := ts } => match args.toList, ts.toList with
    | [x, y], [t, t2] => (fetchP y).bind fun b => (fetchP x).bind fun a => appendP P t t2 a b
    | _, _ => .fail
  | .call { callee := .builtin .min, args := args, argTypes := _ } => match args.toList with
    | [x, y] => (fetchP x).bind fun a => (fetchP y).bind fun b => minmaxP false a b
    | _ => .fail
  | .call { callee := .builtin .max, args := args, argTypes := _ } => match args.toList with
    | [x, y] => (fetchP x).bind fun a => (fetchP y).bind fun b => minmaxP true a b
    | _ => .fail
  | _ => .fail

end Go.Proofs.Ytdoboiiilcgbnaa.L
