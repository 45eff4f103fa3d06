/- The small language and its interpreter, part 0. -/
import GoSem.Core.Code
import GoSem.Core.View
import Derived.Calls
import Derived.Laws.Sem
import Derived.Laws.World
import Derived.Scope
import Derived.LoopN
import Derived.Orders
import Derived.Laws.Strings
import Derived.Laws.Tables
import Derived.Great.BuildSlice
/- A small value language with an executable meaning: pure values, values with references into an abstract heap, code that mirrors Go's code operation by operation. -/
namespace Go.Lv

/-- Values without references. A text is its bytes. -/
inductive PV where
  | int (k : IntKind) (n : Int)
  | bool (b : Bool)
  | str (s : List Nat)
  | agg (cs : List PV)
  | nils
  | isl (xs : List PV)
  | nilp
  | cptr (v : PV)
  | nilm
  | pmap (es : List (PV × PV))
  | nilf
  | fn (f : Nat) (cs : List PV)
  | nili
  | iface (t : Nat) (v : PV)
  | tup (vs : List PV)
  | undef
  deriving Inhabited

/-- Values: pure ones, and those that refer to blocks of the abstract heap. -/
inductive DV where
  | p (v : PV)
  | msl (b off len : Nat)
  | ptr (b i o : Nat)
  | map (b : Nat)
  | it (b : Nat)
  | fn (f : Nat) (cs : List DV)
  | agg (cs : List DV)
  | tup (vs : List DV)
  deriving Inhabited

/-- Blocks: rows of elements (each a row of cells), that only grow at their end or are written into; maps; iterators over a text; none any more. -/
inductive Blk where
  | vec (grow ag : Bool) (esz : Nat) (els : List (List DV))
  | mp (es : List (PV × DV))
  | iter (s : List Nat) (pos : Nat)
  | dead
  deriving Inhabited

abbrev Heap := List Blk

inductive Opd where
  | v (s : Nat)
  | t (k : Nat)
  | c (x : PV)
  deriving Inhabited

/-- How a box, or a slice that is written out, is held: as a value, or in the heap. -/
inductive Hold where
  | val | grow | fix
  deriving DecidableEq, Inhabited

/-- what is held against what by == -/
inductive SK where
  | i | s | b
  deriving DecidableEq, Inhabited
inductive EqK where
  | bool | ptr | slice | map | func | iface
  | struct (ks : List SK)
  deriving Inhabited

/-- what has a length -/
inductive LK where
  | str | sl | mp
  deriving DecidableEq, Inhabited

inductive IOp where
  | mov (x : Opd)
  | pick (c a b : Opd)
  | bin (op : BinOp) (x y : Opd)
  | eqv (k : EqK) (neg : Bool) (x y : Opd)
  | un (op : UnOp) (x : Opd)
  | conv (k : IntKind) (x : Opd)
  | s2b (h : Hold) (x : Opd)
  | b2s (x : Opd)
  | b2b (x : Opd)
  | box (h : Hold) (x : Opd)
  | boxNew (n : Nat) (zero : PV)
  | boxSet (n : Nat) (x : Opd)
  | alloc (n : Nat) (zero : PV)
  | load (ag : Bool) (n : Nat) (x : Opd)
  | store (n : Nat) (x v : Opd)
  | fieldAddr (off n : Nat) (ag : Bool) (x : Opd)
  | indexAddr (esz : Nat) (x i : Opd)
  | indexArr (len esz : Nat) (ag : Bool) (x i : Opd)
  | indexStr (x i : Opd)
  | indexV (len esz : Nat) (ag : Bool) (x i : Opd)
  | field (off n : Nat) (ag : Bool) (x : Opd)
  | build (zero : List PV) (parts : List (Nat × Nat × Opd))
  | buildSl (h : Hold) (ag : Bool) (esz : Nat) (parts : List Opd)
  | len (k : LK) (x : Opd)
  | app (fix ag : Bool) (esz : Nat) (s x : Opd)
  | slice (str : Bool) (esz : Nat) (x : Opd) (lo hi : Option Opd)
  | makeSl (ag : Bool) (zero : List PV) (n : Opd)
  | copy (esz : Nat) (d s : Opd)
  | makeMap
  | lookup (ks : Bool) (zero : PV) (ok : Bool) (m k : Opd)
  | mapUpd (ks : Bool) (m k v : Opd)
  | call (f : Nat) (args : List Opd)
  | callv (f : Opd) (args : List Opd)
  | extract (i : Nat) (x : Opd)
  | nilCheck (x : Opd)
  | mkfn (f : Nat) (caps : List Opd)
  | mkif (t : Nat) (x : Opd)
  | range (x : Opd)
  | next (x : Opd)
  deriving Inhabited

/-- When an operation of a region that is run in any order runs: whenever; between so many and so many of those that change the heap; it is one of these. -/
inductive Win where
  | free
  | at (lo hi : Nat)
  | step
  deriving Inhabited

structure IStep where
  op : IOp
  guard : Option (Nat × Bool) := none
  dst : Option Nat := none
  fz : Bool := false
  win : Win := .step
  deriving Inhabited

inductive INode where
  | region (draw : Bool) (ops : List IStep)
  | cond (draw : Bool) (ops : List IStep) (c : Opd) (a b : List INode)
  | block (id : Nat) (body : List INode)
  | loop (body : List INode)
  | scope (body : List INode)
  | inScope (body rest : List INode)
  | exit (id : Nat)
  | label (l : Nat)
  | goto (l : Nat)
  | ret
  | frz (s : Nat)
  deriving Inhabited

/-- How a function is called: as a function of pure values; likewise, but its slice is the caller's to go on with; on the heap, what it made is let go of behind it; on the heap. -/
inductive Mode where
  | pure | own | drop | keep
  deriving DecidableEq, Inhabited

structure IFunc where
  real : Nat
  np : Nat
  vt : List Nat
  mode : Mode
  body : List INode
  rets : List (Nat × Option (Bool × Nat))
  deriving Inhabited

structure Tab where
  fn : Nat → Option IFunc
  prim : Nat → Option (List PV → Option PV)
  hprim : Nat → Option (Heap → List DV → Option PV) := fun _ => none

inductive Ex where
  | nrm
  | exit (id : Nat)
  | goto (l : Nat)
  | ret
  deriving DecidableEq, Inhabited

/-! ### small functions -/

def unp : DV → Option PV
  | .p v => some v
  | _ => none

def unps : List DV → Option (List PV)
  | [] => some []
  | .p v :: r => match unps r with
    | some l => some (v :: l)
    | none => none
  | _ :: _ => none

def cellsP : PV → List PV
  | .agg cs => cs
  | v => [v]

def cellsD : DV → List DV
  | .p (.agg cs) => cs.map .p
  | .agg cs => cs
  | v => [v]

def isAggP : PV → Bool
  | .agg _ => true
  | _ => false

def mkAgg (cs : List DV) : DV :=
  match unps cs with
  | some l => .p (.agg l)
  | none => .agg cs

def mkTup (cs : List DV) : DV :=
  match unps cs with
  | some l => .p (.tup l)
  | none => .tup cs

def mkFn (f : Nat) (cs : List DV) : DV :=
  match unps cs with
  | some l => .p (.fn f l)
  | none => .fn f cs

/-- A value out of its cells. -/
def valOf (ag : Bool) (cs : List DV) : Option DV :=
  if ag then some (mkAgg cs) else match cs with
    | [c] => some c
    | _ => none

def valOfP (ag : Bool) (cs : List PV) : Option PV :=
  if ag then some (.agg cs) else match cs with
    | [c] => some c
    | _ => none

def getN {α : Type} : List α → Nat → Option α
  | [], _ => none
  | x :: _, 0 => some x
  | _ :: r, n + 1 => getN r n

def setN {α : Type} : List α → Nat → α → List α
  | [], _, _ => []
  | _ :: r, 0, v => v :: r
  | x :: r, n + 1, v => x :: setN r n v

def takeN {α : Type} : Nat → List α → List α
  | 0, _ => []
  | _ + 1, [] => []
  | n + 1, x :: r => x :: takeN n r

def dropN {α : Type} : Nat → List α → List α
  | 0, l => l
  | _ + 1, [] => []
  | n + 1, _ :: r => dropN n r

/-- cells from a place on overwritten -/
def putAt {α : Type} : List α → Nat → List α → List α
  | l, 0, v => over l v
  | [], _, _ => []
  | x :: r, n + 1, v => x :: putAt r n v
where
  over : List α → List α → List α
    | l, [] => l
    | [], _ => []
    | _ :: r, c :: cs => c :: over r cs

def allPure : List DV → Bool
  | [] => true
  | .p _ :: r => allPure r
  | _ :: _ => false

/-- may a value stand in one cell? -/
def isCellP : PV → Bool
  | .agg _ => false
  | .tup _ => false
  | .undef => false
  | _ => true
def isCell : DV → Bool
  | .p v => isCellP v
  | .agg _ => false
  | .tup _ => false
  | _ => true
def okCells : List DV → Bool
  | [] => true
  | c :: r => isCell c && okCells r

mutual
/-- Does a value refer to blocks below a number alone? -/
def below (n : Nat) : DV → Bool
  | .p _ => true
  | .msl b _ _ => b < n
  | .ptr b _ _ => b < n
  | .map b => b < n
  | .it b => b < n
  | .fn _ cs => belowAll n cs
  | .agg cs => belowAll n cs
  | .tup cs => belowAll n cs
def belowAll (n : Nat) : List DV → Bool
  | [] => true
  | c :: r => below n c && belowAll n r
end

def eqBytes : List Nat → List Nat → Bool
  | [], [] => true
  | a :: x, b :: y => a == b && eqBytes x y
  | _, _ => false

def ltBytes : List Nat → List Nat → Bool
  | _, [] => false
  | [], _ :: _ => true
  | a :: x, b :: y => if a < b then true else if a == b then ltBytes x y else false

/-- == between scalars. -/
def eqScal : PV → PV → Option Bool
  | .int k a, .int k' b => if k = k' then some (a == b) else none
  | .bool a, .bool b => some (a == b)
  | .str a, .str b => some (eqBytes a b)
  | _, _ => none

/-- is a value a scalar of a kind? -/
def fitK : SK → PV → Bool
  | .i, .int _ _ => true
  | .s, .str _ => true
  | .b, .bool _ => true
  | _, _ => false

def eqCells : List SK → List PV → List PV → Option Bool
  | [], [], [] => some true
  | k :: ks, a :: x, b :: y => if fitK k a then match eqScal a b with
    | some true => eqCells ks x y
    | some false => some false
    | none => none
    else none
  | _, _, _ => none

/-- is a value of a kind nil? -/
def nilOf : EqK → DV → Option Bool
  | .ptr, .p .nilp => some true
  | .ptr, .p (.cptr _) => some false
  | .ptr, .ptr _ _ _ => some false
  | .slice, .p .nils => some true
  | .slice, .p (.isl _) => some false
  | .slice, .msl _ _ _ => some false
  | .map, .p .nilm => some true
  | .map, .p (.pmap _) => some false
  | .map, .map _ => some false
  | .func, .p .nilf => some true
  | .func, .p (.fn _ _) => some false
  | .func, .fn _ _ => some false
  | .iface, .p .nili => some true
  | .iface, .p (.iface _ _) => some false
  | _, _ => none

def eqNil : Option Bool → Option Bool → Option Bool
  | some true, some b => some b
  | some false, some true => some false
  | _, _ => none

/-- == between values: of a bool, against nil, of structs of scalars. -/
def eqDV (k : EqK) (x y : DV) : Option Bool :=
  match k with
  | .bool => match x, y with
    | .p (.bool a), .p (.bool b) => some (a == b)
    | _, _ => none
  | .struct ks => match x, y with
    | .p (.agg a), .p (.agg b) => eqCells ks a b
    | _, _ => none
  | k => eqNil (nilOf k x) (nilOf k y)

def intBin (op : BinOp) (k : IntKind) (a b : Int) : Option PV :=
  match op with
  | .add => some (.int k (k.wrap (a + b)))
  | .sub => some (.int k (k.wrap (a - b)))
  | .mul => some (.int k (k.wrap (a * b)))
  | .quo => if b = 0 then none else some (.int k (k.wrap (a.tdiv b)))
  | .rem => if b = 0 then none else some (.int k (a.tmod b))
  | .and => some (.int k (k.wrap (BitVec.ofInt k.bits a &&& BitVec.ofInt k.bits b).toNat))
  | .or => some (.int k (k.wrap (BitVec.ofInt k.bits a ||| BitVec.ofInt k.bits b).toNat))
  | .xor => some (.int k (k.wrap (BitVec.ofInt k.bits a ^^^ BitVec.ofInt k.bits b).toNat))
  | .andNot => some (.int k (k.wrap (BitVec.ofInt k.bits a &&& ~~~ BitVec.ofInt k.bits b).toNat))
  | .eql => some (.bool (a == b))
  | .neq => some (.bool (a != b))
  | .lss => some (.bool (decide (a < b)))
  | .leq => some (.bool (decide (a ≤ b)))
  | .gtr => some (.bool (decide (a > b)))
  | .geq => some (.bool (decide (a ≥ b)))
  | _ => none

def shiftPV (op : BinOp) (k : IntKind) (a b : Int) : Option PV :=
  if b < 0 then none else
  match op with
  | .shl => some (.int k (k.wrap (a * 2 ^ (min b.toNat k.bits))))
  | .shr => some (.int k (a.fdiv (2 ^ (min b.toNat k.bits))))
  | _ => none

def maxStr : Nat := 140737488351232

def strBin (op : BinOp) (a b : List Nat) : Option PV :=
  match op with
  | .add => if a.length + b.length ≤ maxStr then some (.str (a ++ b)) else none
  | .eql => some (.bool (eqBytes a b))
  | .neq => some (.bool (!eqBytes a b))
  | .lss => some (.bool (ltBytes a b))
  | .leq => some (.bool (ltBytes a b || eqBytes a b))
  | .gtr => some (.bool !(ltBytes a b || eqBytes a b))
  | .geq => some (.bool (!ltBytes a b))
  | _ => none

def binPV (op : BinOp) : PV → PV → Option PV
  | .int k a, .int k' b =>
    match op with
    | .shl | .shr => shiftPV op k a b
    | _ => if k = k' then intBin op k a b else none
  | .str a, .str b => strBin op a b
  | _, _ => none

def unPV (op : UnOp) : PV → Option PV
  | .int k n => match op with
    | .neg => some (.int k (k.wrap (0 - n)))
    | .xor => some (.int k (k.wrap (BitVec.ofInt k.bits (if k.signed then -1 else k.max) ^^^ BitVec.ofInt k.bits n).toNat))
    | _ => none
  | .bool b => match op with
    | .not => some (.bool (!b))
    | _ => none
  | _ => none

def byteCells : List Nat → List (List DV)
  | [] => []
  | c :: r => [.p (.int .u8 c)] :: byteCells r

def byteVals : List Nat → List PV
  | [] => []
  | c :: r => .int .u8 c :: byteVals r

def bytesOfVals : List PV → Option (List Nat)
  | [] => some []
  | .int .u8 n :: r => match bytesOfVals r with
    | some l => some (n.toNat % 256 :: l)
    | none => none
  | _ :: _ => none

def cellsOfVals : List PV → List (List DV)
  | [] => []
  | x :: r => (cellsP x).map .p :: cellsOfVals r

/-- rows of cells as elements; none: one is not pure -/
def valsOfCells (ag : Bool) : List (List DV) → Option (List PV)
  | [] => some []
  | cs :: r => match unps cs, valsOfCells ag r with
    | some l, some vs => match valOfP ag l with
      | some v => some (v :: vs)
      | none => none
    | _, _ => none

/-- the elements of a slice, or the bytes of a text, as rows of cells -/
def elems (h : Heap) : DV → Option (List (List DV))
  | .p .nils => some []
  | .p (.isl xs) => some (cellsOfVals xs)
  | .p (.str s) => some (byteCells s)
  | .msl b off len => match getN h b with
    | some (.vec _ _ _ els) =>
      let l := takeN len (dropN off els)
      if l.length = len then some l else none
    | _ => none
  | _ => none

/-- A value as a pure one, without an end of what it refers to: what only grows. -/
def snap1 (h : Heap) : DV → Option PV
  | .p v => some v
  | .msl b off len => match getN h b with
    | some (.vec true ag _ els) =>
      let l := takeN len (dropN off els)
      if l.length = len then
        match valsOfCells ag l with
        | some xs => some (.isl xs)
        | none => none
      else none
    | _ => none
  | _ => none

def snaps1 (h : Heap) : List DV → Option (List PV)
  | [] => some []
  | c :: r => match snap1 h c with
    | some v => match snaps1 h r with
      | some l => some (v :: l)
      | none => none
    | none => none

def snap (h : Heap) : DV → Option PV
  | .agg cs => match snaps1 h cs with
    | some l => some (.agg l)
    | none => none
  | v => snap1 h v

def snaps (h : Heap) : List DV → Option (List PV)
  | [] => some []
  | c :: r => match snap h c with
    | some v => match snaps h r with
      | some l => some (v :: l)
      | none => none
    | none => none

/-- map entries as pure ones -/
def pureEntries : List (PV × DV) → Option (List (PV × PV))
  | [] => some []
  | (k, .p v) :: r => match pureEntries r with
    | some l => some ((k, v) :: l)
    | none => none
  | _ :: _ => none

/-- each of a list, the heap handed on -/
def frzs (fz : Heap → DV → Option (PV × Heap)) : Heap → List DV → Option (List PV × Heap)
  | h, [] => some ([], h)
  | h, c :: r => match fz h c with
    | some (x, h') => match frzs fz h' r with
      | some (l, h'') => some (x :: l, h'')
      | none => none
    | none => none

/-- A value as a pure one, behind which what it refers to is no more written to. -/
def freeze : Nat → Heap → DV → Option (PV × Heap)
  | 0, _, _ => none
  | n + 1, h, v =>
    match v with
    | .p x => some (x, h)
    | .msl b off len => match getN h b with
      | some (.vec g ag _ els) =>
        let l := takeN len (dropN off els)
        if l.length = len then
          match valsOfCells ag l with
          | some xs => some (.isl xs, if g then h else setN h b .dead)
          | none => none
        else none
      | _ => none
    | .ptr b 0 0 => match getN h b with
      | some (.vec false ag _ [cs]) =>
        match frzs (freeze n) (setN h b .dead) cs with
        | some (l, h') => match valOfP ag l with
          | some x => some (.cptr x, h')
          | none => none
        | none => none
      | _ => none
    | .map b => match getN h b with
      | some (.mp es) => match pureEntries es with
        | some l => some (.pmap l, setN h b .dead)
        | none => none
      | _ => none
    | .agg cs => match frzs (freeze n) h cs with
      | some (l, h') => some (.agg l, h')
      | none => none
    | .tup cs => match frzs (freeze n) h cs with
      | some (l, h') => some (.tup l, h')
      | none => none
    | .fn f cs => match frzs (freeze n) h cs with
      | some (l, h') => some (.fn f l, h')
      | none => none
    | _ => none

def opd (env ts : List DV) : Opd → DV
  | .v s => (getN env s).getD (.p .undef)
  | .t k => (getN ts k).getD (.p .undef)
  | .c x => .p x

def opds (env ts : List DV) : List Opd → List DV
  | [] => []
  | x :: r => opd env ts x :: opds env ts r

def setEnv (env : List DV) : Option Nat → DV → List DV
  | none, _ => env
  | some s, v => setN env s v

def asNat : DV → Option Nat
  | .p (.int _ n) => if 0 ≤ n then some n.toNat else none
  | _ => none

def lenDV (h : Heap) : DV → Option Nat
  | .p (.str s) => some s.length
  | .p .nils => some 0
  | .p (.isl xs) => some xs.length
  | .msl _ _ n => some n
  | .p .nilm => some 0
  | .p (.pmap es) => some es.length
  | .map b => match getN h b with
    | some (.mp es) => some es.length
    | _ => none
  | _ => none

/-- is a value a key: of texts, of numbers? -/
def isKey (ks : Bool) : PV → Bool
  | .str _ => ks
  | .int _ _ => !ks
  | _ => false

def findE : List (PV × DV) → PV → Option (Option DV)
  | [], _ => some none
  | (k, v) :: r, x => match eqScal x k with
    | some true => some (some v)
    | some false => findE r x
    | none => none

def findP : List (PV × PV) → PV → Option (Option PV)
  | [], _ => some none
  | (k, v) :: r, x => match eqScal x k with
    | some true => some (some v)
    | some false => findP r x
    | none => none

def putE : List (PV × DV) → PV → DV → Option (List (PV × DV))
  | [], x, w => some [(x, w)]
  | (k, v) :: r, x, w => match eqScal x k with
    | some true => some ((k, w) :: r)
    | some false => match putE r x w with
      | some l => some ((k, v) :: l)
      | none => none
    | none => none

def maxLen' : Nat := 1073741824

def headLen (esz : Nat) : List (List DV) → Bool
  | [] => true
  | c :: _ => c.length == esz

def allLen (esz : Nat) : List (List DV) → Bool
  | [] => true
  | c :: r => c.length == esz && allLen esz r

def allPures : List (List DV) → Bool
  | [] => true
  | c :: r => allPure c && allPures r

def rep {α : Type} : Nat → α → List α
  | 0, _ => []
  | n + 1, x => x :: rep n x

def headP (esz : Nat) : List PV → Bool
  | [] => true
  | x :: _ => (cellsP x).length == esz

def sliceDV (h : Heap) (esz : Nat) (x : DV) (lo hi : Option Nat) : Option DV :=
  match x with
  | .p (.str s) =>
    let b := hi.getD s.length
    let a := lo.getD 0
    if a ≤ b ∧ b ≤ s.length then some (.p (.str (takeN (b - a) (dropN a s)))) else none
  | .p .nils =>
    if lo.getD 0 = 0 ∧ hi.getD 0 = 0 then some (.p .nils) else none
  | .p (.isl xs) =>
    let b := hi.getD xs.length
    let a := lo.getD 0
    let l := takeN (b - a) (dropN a xs)
    if a ≤ b ∧ b ≤ xs.length ∧ headP esz l = true then some (.p (.isl l)) else none
  | .msl k off len =>
    let b := hi.getD len
    let a := lo.getD 0
    match getN h k with
    | some (.vec _ _ z _) => if a ≤ b ∧ b ≤ len ∧ z = esz then some (if a = b then .p (.isl []) else .msl k (off + a) (b - a)) else none
    | _ => none
  | _ => none

/-- one operand, that may be left out -/
def optNat (env ts : List DV) : Option Opd → Option (Option Nat)
  | none => some none
  | some x => match asNat (opd env ts x) with
    | some n => some (some n)
    | none => none

def buildCells (env ts : List DV) : List (Nat × Nat × Opd) → List DV → Option (List DV)
  | [], cs => some cs
  | (off, n, x) :: r, cs =>
    let v := cellsD (opd env ts x)
    if v.length = n ∧ okCells v = true then buildCells env ts r (putAt cs off v) else none

def rowsOf (esz : Nat) : List DV → Option (List (List DV))
  | [] => some []
  | x :: r => if (cellsD x).length = esz ∧ okCells (cellsD x) = true then
      match rowsOf esz r with
      | some l => some (cellsD x :: l)
      | none => none
    else none

def appDV (lo : Nat) (h : Heap) (fix ag : Bool) (esz : Nat) (s : DV) (ys : List (List DV)) : Option (DV × Heap) :=
  if headLen esz ys then
  match s with
  | .p .nils =>
    if ys.isEmpty then some (.p .nils, h)
    else if ys.length < maxLen' then some (.msl h.length 0 ys.length, h ++ [.vec (!fix) ag esz ys])
    else none
  | .msl b 0 len => match getN h b with
    | some (.vec g a z els) =>
      if els.length = len ∧ z = esz ∧ a = ag ∧ len + ys.length < maxLen' ∧ (lo ≤ b ∨ (!fix && allPures ys) = true) ∧ g = !fix then
        if fix then
          if ys.isEmpty then some (s, h)
          else some (.msl h.length 0 (len + ys.length), setN h b .dead ++ [.vec false ag esz (els ++ ys)])
        else some (.msl b 0 (len + ys.length), setN h b (.vec g a z (els ++ ys)))
      else none
    | _ => none
  | _ => none
  else none

def loadDV (h : Heap) (ag : Bool) (n : Nat) : DV → Option DV
  | .ptr b i o => match getN h b with
    | some (.vec _ _ _ els) => match getN els i with
      | some cs =>
        let l := takeN n (dropN o cs)
        if l.length = n then valOf ag l else none
      | none => none
    | _ => none
  | .p (.cptr v) =>
    if (cellsP v).length = n ∧ isAggP v = ag then some (.p v) else none
  | _ => none

def storeDV (lo : Nat) (h : Heap) (n : Nat) (x v : DV) : Option Heap :=
  match x with
  | .ptr b i o => match getN h b with
    | some (.vec false ag z els) => match getN els i with
      | some cs =>
        let l := cellsD v
        if l.length = n ∧ okCells l = true ∧ o + n ≤ cs.length ∧ (lo ≤ b ∨ allPure l = true) then
          some (setN h b (.vec false ag z (setN els i (putAt cs o l))))
        else none
      | none => none
    | _ => none
  | _ => none

def fieldDV (off n : Nat) (ag : Bool) : DV → Option DV
  | .ptr b i o => some (.ptr b i (o + off))
  | .p (.cptr (.agg cs)) =>
    let l := takeN n (dropN off cs)
    if l.length = n then match valOfP ag l with
      | some v => some (.p (.cptr v))
      | none => none
    else none
  | _ => none

def indexDV (h : Heap) (esz : Nat) (x i : DV) : Option DV :=
  match asNat i with
  | none => none
  | some j =>
    match x with
    | .p (.isl xs) => match getN xs j with
      | some v => if (cellsP v).length = esz then some (.p (.cptr v)) else none
      | none => none
    | .msl b off len => match getN h b with
      | some (.vec _ _ z _) => if j < len ∧ z = esz then some (.ptr b (off + j) 0) else none
      | _ => none
    | _ => none

def indexArrDV (len esz : Nat) (ag : Bool) (x i : DV) : Option DV :=
  match asNat i with
  | none => none
  | some j =>
    if j < len then
      match x with
      | .ptr b k o => some (.ptr b k (o + j * esz))
      | .p (.cptr (.agg cs)) =>
        let l := takeN esz (dropN (j * esz) cs)
        if l.length = esz then match valOfP ag l with
          | some v => some (.p (.cptr v))
          | none => none
        else none
      | _ => none
    else none

/-- an instance of a range over a text: the next sign (a byte below 128) -/
def nextDV (lo : Nat) (h : Heap) : DV → Option (DV × Heap)
  | .it b => match getN h b with
    | some (.iter s pos) =>
      if lo ≤ b then
        match getN s pos with
        | some c => if c < 128 then some (.p (.tup [.bool true, .int .i64 pos, .int .i32 c]), setN h b (.iter s (pos + 1))) else none
        | none => some (.p (.tup [.bool false]), h)
      else none
    | _ => none
  | _ => none

def isStrD : DV → Bool
  | .p (.str _) => true
  | _ => false

def isAggD : DV → Bool
  | .p (.agg _) => true
  | .agg _ => true
  | _ => false

def isLK : LK → DV → Bool
  | .str, .p (.str _) => true
  | .sl, .p .nils => true
  | .sl, .p (.isl _) => true
  | .sl, .msl _ _ _ => true
  | .mp, .p .nilm => true
  | .mp, .p (.pmap _) => true
  | .mp, .map _ => true
  | _, _ => false

abbrev Caller := Nat → Nat → List DV → Heap → Option (DV × Heap)

def ok0 (h : Heap) : Option DV → Option (DV × Heap)
  | some v => some (v, h)
  | none => none

def okP (h : Heap) : Option PV → Option (DV × Heap)
  | some v => some (.p v, h)
  | none => none

def exOp (call : Caller) (lo : Nat) (env ts : List DV) (h : Heap) : IOp → Option (DV × Heap)
  | .mov x => some (opd env ts x, h)
  | .pick c a b => match opd env ts c with
    | .p (.bool t) => some (if t then opd env ts a else opd env ts b, h)
    | _ => none
  | .bin op x y => match opd env ts x, opd env ts y with
    | .p a, .p b => okP h (binPV op a b)
    | _, _ => none
  | .eqv k neg x y => match eqDV k (opd env ts x) (opd env ts y) with
    | some r => some (.p (.bool (if neg then !r else r)), h)
    | none => none
  | .un op x => match opd env ts x with
    | .p a => okP h (unPV op a)
    | _ => none
  | .conv k x => match opd env ts x with
    | .p (.int _ n) => some (.p (.int k (k.wrap n)), h)
    | _ => none
  | .s2b hd x => match opd env ts x with
    | .p (.str s) => match hd with
      | .val => some (.p (.isl (byteVals s)), h)
      | .fix => some (.msl h.length 0 s.length, h ++ [.vec false false 1 (byteCells s)])
      | .grow => some (.msl h.length 0 s.length, h ++ [.vec true false 1 (byteCells s)])
    | _ => none
  | .b2s x => if isStrD (opd env ts x) then none else match elems h (opd env ts x) with
    | some l => match valsOfCells false l with
      | some vs => match bytesOfVals vs with
        | some s => some (.p (.str s), h)
        | none => none
      | none => none
    | none => none
  | .b2b x => match opd env ts x with
    | .msl b 0 len => match getN h b with
      | some (.vec _ _ _ els) => if els.length = len then some (.msl b 0 len, h) else none
      | _ => none
    | _ => none
  | .box hd x =>
    if okCells (cellsD (opd env ts x)) = true then match hd with
    | .val => match opd env ts x with
      | .p v => some (.p (.cptr v), h)
      | _ => none
    | _ =>
      let v := opd env ts x
      some (.ptr h.length 0 0, h ++ [.vec false (match v with | .p (.agg _) => true | .agg _ => true | _ => false) (cellsD v).length [cellsD v]])
    else none
  | .boxNew _ _ => some (.p .undef, h)
  | .boxSet n x => match opd env ts x with
    | .p v => if okCells (cellsD (.p v)) = true ∧ (cellsP v).length = n then some (.p (.cptr v), h) else none
    | _ => none
  | .alloc n z => if (cellsP z).length = n then some (.ptr h.length 0 0, h ++ [.vec false (isAggP z) n [(cellsP z).map .p]]) else none
  | .load ag n x => ok0 h (loadDV h ag n (opd env ts x))
  | .store n x v => match storeDV lo h n (opd env ts x) (opd env ts v) with
    | some h' => some (.p .undef, h')
    | none => none
  | .fieldAddr off n ag x => ok0 h (fieldDV off n ag (opd env ts x))
  | .indexAddr esz x i => ok0 h (indexDV h esz (opd env ts x) (opd env ts i))
  | .indexArr len esz ag x i => ok0 h (indexArrDV len esz ag (opd env ts x) (opd env ts i))
  | .indexStr x i => match opd env ts x, asNat (opd env ts i) with
    | .p (.str s), some j => match getN s j with
      | some c => some (.p (.int .u8 c), h)
      | none => none
    | _, _ => none
  | .indexV len esz ag x i => match asNat (opd env ts i) with
    | some j =>
      if j < len ∧ isAggD (opd env ts x) = true then
        let l := takeN esz (dropN (j * esz) (cellsD (opd env ts x)))
        if l.length = esz then ok0 h (valOf ag l) else none
      else none
    | none => none
  | .field off n ag x => match opd env ts x with
    | .p (.agg cs) =>
      let l := takeN n (dropN off cs)
      if l.length = n then okP h (valOfP ag l) else none
    | .agg cs =>
      let l := takeN n (dropN off cs)
      if l.length = n then ok0 h (valOf ag l) else none
    | _ => none
  | .build zero parts => match buildCells env ts parts (zero.map .p) with
    | some cs => some (mkAgg cs, h)
    | none => none
  | .buildSl hd ag esz parts => match rowsOf esz (opds env ts parts) with
    | some els => match hd with
      | .val => match valsOfCells ag els with
        | some xs => some (.p (.isl xs), h)
        | none => none
      | .fix => some (.msl h.length 0 els.length, h ++ [.vec false ag esz els])
      | .grow => some (.msl h.length 0 els.length, h ++ [.vec true ag esz els])
    | none => none
  | .len k x => if !isLK k (opd env ts x) then none else match lenDV h (opd env ts x) with
    | some n => some (.p (.int .i64 n), h)
    | none => none
  | .app fix ag esz s x => match elems h (opd env ts x) with
    | some ys => appDV lo h fix ag esz (opd env ts s) ys
    | none => none
  | .slice str esz x a b => if isStrD (opd env ts x) != str then none else match optNat env ts a, optNat env ts b with
    | some l, some u => ok0 h (sliceDV h esz (opd env ts x) l u)
    | _, _ => none
  | .makeSl ag zero n => match asNat (opd env ts n) with
    | some k => if k < maxLen' then some (.msl h.length 0 k, h ++ [.vec false ag zero.length (rep k (zero.map .p))]) else none
    | none => none
  | .copy esz d s => match opd env ts d, elems h (opd env ts s) with
    | .msl b off len, some ys => match getN h b with
      | some (.vec false ag z els) =>
        let l := takeN len ys
        if z = esz ∧ headLen z ys ∧ off + len ≤ els.length ∧ (lo ≤ b ∨ allPures l = true) then
          some (.p (.int .i64 l.length), setN h b (.vec false ag z (putAt els off l)))
        else none
      | _ => none
    | _, _ => none
  | .makeMap => some (.map h.length, h ++ [.mp []])
  | .lookup ks z ok m k =>
    let back (r : Option DV) : Option (DV × Heap) :=
      some (if ok then mkTup [r.getD (.p z), .p (.bool r.isSome)] else r.getD (.p z), h)
    match opd env ts k with
    | .p x => if isKey ks x then match opd env ts m with
      | .p .nilm => back none
      | .p (.pmap es) => match findP es x with
        | some r => back (r.map .p)
        | none => none
      | .map b => match getN h b with
        | some (.mp es) => match findE es x with
          | some r => back r
          | none => none
        | _ => none
      | _ => none
      else none
    | _ => none
  | .mapUpd ks m k v => match opd env ts m, opd env ts k with
    | .map b, .p x => match getN h b with
      | some (.mp es) =>
        if (lo ≤ b ∨ allPure [opd env ts v] = true) ∧ isKey ks x = true then
          match putE es x (opd env ts v) with
          | some l => some (.p .undef, setN h b (.mp l))
          | none => none
        else none
      | _ => none
    | _, _ => none
  | .call f args => call lo f (opds env ts args) h
  | .callv f args => match opd env ts f with
    | .p (.fn g cs) => call lo g (opds env ts args ++ cs.map .p) h
    | .fn g cs => call lo g (opds env ts args ++ cs) h
    | _ => none
  | .extract i x => match opd env ts x with
    | .p (.tup vs) => okP h (getN vs i)
    | .tup vs => ok0 h (getN vs i)
    | _ => none
  | .nilCheck x => match opd env ts x with
    | .p .nilp => none
    | .p .nili => none
    | .p .nilf => none
    | v => some (v, h)
  | .mkfn f caps => some (mkFn f (opds env ts caps), h)
  | .mkif t x => match opd env ts x with
    | .p v => some (.p (.iface t v), h)
    | _ => none
  | .range x => match opd env ts x with
    | .p (.str s) => some (.it h.length, h ++ [.iter s 0])
    | _ => none
  | .next x => nextDV lo h (opd env ts x)

def fzDV (fz : Bool) (r : DV × Heap) : Option (DV × Heap) :=
  if fz then match freeze 6 r.2 r.1 with
    | some (v, h) => some (.p v, h)
    | none => none
  else some r

mutual
/-- are two values the same? -/
def eqP : PV → PV → Bool
  | .int k n, .int k' n' => decide (k = k') && n == n'
  | .bool a, .bool b => a == b
  | .str a, .str b => eqBytes a b
  | .agg a, .agg b => eqPs a b
  | .nils, .nils => true
  | .isl a, .isl b => eqPs a b
  | .nilp, .nilp => true
  | .cptr a, .cptr b => eqP a b
  | .nilm, .nilm => true
  | .pmap a, .pmap b => eqEs a b
  | .nilf, .nilf => true
  | .fn f a, .fn f' b => f == f' && eqPs a b
  | .nili, .nili => true
  | .iface t a, .iface t' b => t == t' && eqP a b
  | .tup a, .tup b => eqPs a b
  | .undef, .undef => true
  | _, _ => false
def eqPs : List PV → List PV → Bool
  | [], [] => true
  | a :: x, b :: y => eqP a b && eqPs x y
  | _, _ => false
def eqEs : List (PV × PV) → List (PV × PV) → Bool
  | [], [] => true
  | (a, c) :: x, (b, d) :: y => eqP a b && eqP c d && eqEs x y
  | _, _ => false
end

mutual
def eqD : DV → DV → Bool
  | .p a, .p b => eqP a b
  | .msl b o n, .msl b' o' n' => b == b' && o == o' && n == n'
  | .ptr b o n, .ptr b' o' n' => b == b' && o == o' && n == n'
  | .map b, .map b' => b == b'
  | .it b, .it b' => b == b'
  | .fn f a, .fn f' b => f == f' && eqDs a b
  | .agg a, .agg b => eqDs a b
  | .tup a, .tup b => eqDs a b
  | _, _ => false
def eqDs : List DV → List DV → Bool
  | [], [] => true
  | a :: x, b :: y => eqD a b && eqDs x y
  | _, _ => false
end

/-- does a guarded operation run? -/
def goes (ts : List DV) : Option (Nat × Bool) → Option Bool
  | none => some true
  | some (k, want) => match (getN ts k).getD (.p .undef) with
    | .p (.bool b) => some (b == want)
    | .p .undef => some false
    | _ => none

def isStep : Win → Bool
  | .step => true
  | _ => false

/-- Operations one after the other: what they come to, and the heaps behind those that change it; the last ones first. -/
def steps (call : Caller) (lo : Nat) (env : List DV) : List IStep → List DV → Heap → List Heap → Option (List DV × Heap × List Heap)
  | [], ts, h, hs => some (ts, h, hs)
  | s :: r, ts, h, hs =>
    match goes ts s.guard with
    | some true => match exOp call lo env ts h s.op with
      | some q => match fzDV s.fz q with
        | some (v, h') => steps call lo env r (v :: ts) h' (if isStep s.win then h' :: hs else hs)
        | none => none
      | none => none
    | some false => steps call lo env r (.p .undef :: ts) h (if isStep s.win then h :: hs else hs)
    | none => none

/-- does an operation come to a value on each of so many heaps? -/
def eachWin (f : Heap → Option (DV × Heap)) (v : DV) : Nat → List Heap → Bool
  | 0, _ => true
  | _ + 1, [] => false
  | n + 1, h :: r => (match f h with
    | some (x, _) => eqD x v
    | none => false) && eachWin f v n r

/-- Do operations come to the same whenever they may run? -/
def chkWins (call : Caller) (lo : Nat) (env : List DV) (hs : List Heap) : List IStep → List DV → List DV → Bool
  | [], _, _ => true
  | _ :: _, _, [] => false
  | s :: r, ts, v :: vs =>
    (match s.win with
     | .at a b => if a == b then true else match goes ts s.guard with
       | some true => eachWin (fun h => exOp call lo env ts h s.op) v (b + 1 - a) (dropN a hs)
       | _ => true
     | _ => true) && chkWins call lo env hs r (v :: ts) vs

def outs : List IStep → List DV → List DV → List DV
  | s :: r, v :: vs, env => outs r vs (setEnv env s.dst v)
  | _, _, env => env

/-- a region -/
def runOps (call : Caller) (lo : Nat) (draw : Bool) (ops : List IStep) (env : List DV) (h : Heap) : Option (List DV × List DV × Heap) :=
  match steps call lo env ops [] h [h] with
  | some (ts, h', hs) => if !draw || chkWins call lo env hs.reverse ops [] ts.reverse then some (ts, outs ops ts.reverse env, h') else none
  | none => none

abbrev Run := Nat → List INode → List DV → Heap → Option (Ex × List DV × Heap)

def retVals (h : Heap) (env : List DV) : List (Nat × Option (Bool × Nat)) → Option (List DV)
  | [] => some []
  | (s, none) :: r => match retVals h env r with
    | some l => some ((getN env s).getD (.p .undef) :: l)
    | none => none
  | (s, some (ag, n)) :: r => match loadDV h ag n ((getN env s).getD (.p .undef)), retVals h env r with
    | some v, some l => some (v :: l)
    | _, _ => none

def one : List DV → DV
  | [v] => v
  | l => mkTup l

def oneP : List PV → PV
  | [v] => v
  | l => .tup l

/-- what a body comes to -/
def runBody (run : Run) (f : IFunc) (lo : Nat) (args : List DV) (h : Heap) : Option (List DV × Heap) :=
  if args.length = f.np then
    match run lo f.body (args ++ rep (f.vt.length - f.np) (.p .undef)) h with
    | some (.nrm, env, h') => match retVals h' env f.rets with
      | some l => some (l, h')
      | none => none
    | some (.ret, env, h') => match retVals h' env f.rets with
      | some l => some (l, h')
      | none => none
    | _ => none
  else none

def doCall1 (T : Tab) (run : Run) : Caller := fun lo f args h =>
  match T.prim f with
  | some F => match snaps h args with
    | some l => okP h (F l)
    | none => none
  | none => match T.fn f with
    | none => none
    | some fn =>
      match fn.mode with
      | .pure => match snaps h args with
        | some l => match runBody run fn 0 (l.map .p) [] with
          | some (rs, h') => match frzs (freeze 6) h' rs with
            | some (vs, _) => some (.p (oneP vs), h)
            | none => none
          | none => none
        | none => none
      | .own => match snaps h args with
        | some l => match runBody run fn 0 (l.map .p) [] with
          | some ([.msl b 0 len], h') => match getN h' b with
            | some (.vec g ag z els) => if els.length = len ∧ allPures els = true then some (.msl h.length 0 len, h ++ [.vec g ag z els]) else none
            | _ => none
          | some ([.p .nils], _) => some (.p .nils, h)
          | _ => none
        | none => none
      | .drop => match runBody run fn h.length args h with
        | some (rs, h') => match frzList 6 h' rs with
          | some (vs, h'') => if belowAll h.length vs then some (one vs, takeN h.length h'') else none
          | none => none
        | none => none
      | .keep => match runBody run fn lo args h with
        | some (rs, h') => some (one rs, h')
        | none => none
where
  /-- each as a pure one, if it refers to what is new -/
  frzList (n : Nat) : Heap → List DV → Option (List DV × Heap)
    | h, [] => some ([], h)
    | h, c :: r =>
      if below 0 c then match frzList n h r with
        | some (l, h') => some (c :: l, h')
        | none => none
      else match freeze n h c with
        | some (x, h') => match frzList n h' r with
          | some (l, h'') => some (.p x :: l, h'')
          | none => none
        | none => match frzList n h r with
          | some (l, h') => some (c :: l, h')
          | none => none

def doCall (T : Tab) (run : Run) : Caller := fun lo f args h =>
  match T.hprim f with
  | some F => okP h (F h args)
  | none => doCall1 T run lo f args h

def findL (l : Nat) : List INode → Option (List INode)
  | [] => none
  | .label k :: r => if k = l then some r else findL l r
  | _ :: r => findL l r

def exStep (T : Tab) (run : Run) : Run := fun lo code env h =>
  match code with
  | [] => some (.nrm, env, h)
  | c :: r =>
    match c with
    | .region d ops => match runOps (doCall T run) lo d ops env h with
      | some (_, env', h') => run lo r env' h'
      | none => none
    | .cond d ops c a b => match runOps (doCall T run) lo d ops env h with
      | some (ts, env', h') => match opd env' ts c with
        | .p (.bool t) => match run lo (if t then a else b) env' h' with
          | some (.nrm, env'', h'') => run lo r env'' h''
          | x => x
        | _ => none
      | none => none
    | .block id body => match run lo body env h with
      | some (.nrm, env', h') => run lo r env' h'
      | some (.exit k, env', h') => if k = id then run lo r env' h' else some (.exit k, env', h')
      | x => x
    | .loop body => match run lo body env h with
      | some (.nrm, env', h') => run lo (.loop body :: r) env' h'
      | x => x
    | .scope body => run lo (.inScope body body :: r) env h
    | .inScope body rest => match run lo rest env h with
      | some (.nrm, env', h') => run lo r env' h'
      | some (.goto l, env', h') => match findL l body with
        | some rest' => run lo (.inScope body rest' :: r) env' h'
        | none => some (.goto l, env', h')
      | x => x
    | .exit id => some (.exit id, env, h)
    | .label _ => run lo r env h
    | .goto l => some (.goto l, env, h)
    | .ret => some (.ret, env, h)
    | .frz s => match freeze 6 h ((getN env s).getD (.p .undef)) with
      | some (v, h') => run lo r (setN env s (.p v)) h'
      | none => none

def exec (T : Tab) : Nat → Run
  | 0 => fun _ _ _ _ => none
  | n + 1 => exStep T (exec T n)

def callN (T : Tab) (n : Nat) : Caller := doCall T (exec T n)

end Go.Lv

/- The abstract heap and Go's memory: when a value, a block, a heap stand for what is in a world; what a run may turn of a world. -/
namespace Go.Lv
set_option linter.unusedVariables false

/-! ### the small functions are the library's -/
theorem getN_eq {α : Type} : ∀ (l : List α) (n : Nat), getN l n = l[n]?
  | [], n => by simp [getN]
  | _ :: _, 0 => by simp [getN]
  | _ :: r, n + 1 => by simp [getN, getN_eq r n]
theorem setN_eq {α : Type} : ∀ (l : List α) (n : Nat) (v : α), setN l n v = l.set n v
  | [], n, v => by simp [setN]
  | _ :: _, 0, v => by simp [setN]
  | _ :: r, n + 1, v => by simp [setN, setN_eq r n v]
theorem takeN_eq {α : Type} : ∀ (n : Nat) (l : List α), takeN n l = l.take n
  | 0, l => by simp [takeN]
  | _ + 1, [] => by simp [takeN]
  | n + 1, _ :: r => by simp [takeN, takeN_eq n r]
theorem dropN_eq {α : Type} : ∀ (n : Nat) (l : List α), dropN n l = l.drop n
  | 0, l => by simp [dropN]
  | _ + 1, [] => by simp [dropN]
  | n + 1, _ :: r => by simp [dropN, dropN_eq n r]
theorem rep_eq {α : Type} : ∀ (n : Nat) (x : α), rep n x = List.replicate n x
  | 0, x => by simp [rep]
  | n + 1, x => by simp [rep, rep_eq n x, List.replicate_succ]
theorem eqBytes_eq : ∀ a b : List Nat, eqBytes a b = (a == b)
  | [], [] => by simp [eqBytes]
  | [], _ :: _ => by simp [eqBytes]
  | _ :: _, [] => by simp [eqBytes]
  | a :: x, b :: y => by simp [eqBytes, eqBytes_eq x y]
theorem unps_map : ∀ l : List PV, unps (l.map .p) = some l
  | [] => rfl
  | _ :: r => by simp [unps, unps_map r]
theorem unps_some : ∀ {l : List DV} {r : List PV}, unps l = some r → l = r.map .p
  | [], r, h => by simp [unps] at h; simp [h]
  | .p v :: l, r, h => by
    simp only [unps] at h
    split at h
    · rename_i q hq; simp at h; subst h; simp [unps_some hq]
    · simp at h
  | .msl .. :: _, _, h => by simp [unps] at h
  | .ptr .. :: _, _, h => by simp [unps] at h
  | .map .. :: _, _, h => by simp [unps] at h
  | .it .. :: _, _, h => by simp [unps] at h
  | .fn .. :: _, _, h => by simp [unps] at h
  | .agg .. :: _, _, h => by simp [unps] at h
  | .tup .. :: _, _, h => by simp [unps] at h

/-- a function's number in the program -/
def rid (f : Nat) : Nat := f % 100000

/-! ### values -/

/-- A pure value stands for a value of Go's, in a world; what it reaches lies in cells that are not written to any more ('I'). -/
inductive PRel (I : Nat → Nat → Prop) (w : World) : PV → Value → Prop
  | int (k : IntKind) (n : Int) : PRel I w (.int k n) (.int k n)
  | bool (b : Bool) : PRel I w (.bool b) (.bool b)
  | str (s : ByteArray) (l : List Nat) (hl : l = s.data.toList.map UInt8.toNat) : PRel I w (.str l) (.string s)
  | agg (cs : List PV) (vs : Array Value) (hk : ∀ c ∈ cs, isCellP c = true) (hl : cs.length = vs.size) (h : ∀ (i : Nat) (c : PV) (v : Value), cs[i]? = some c → vs[i]? = some v → PRel I w c v) : PRel I w (.agg cs) (.agg vs)
  | nils : PRel I w .nils (.slice none 0 0)
  | isl (xs : List PV) (n : Nat) (A : Addr) (cap sz : Nat) (r : Nat → Nat → Value) (hn : n = xs.length) (hs : A.spot = none) (hcap : n ≤ cap)
      (hsz : ∀ (j : Nat) (x : PV), xs[j]? = some x → (cellsP x).length = sz ∧ ∀ c ∈ cellsP x, isCellP c = true)
      (hc : ∀ j k, j < xs.length → k < sz → I A.block (A.off + j * sz + k) ∧ w.cell? ⟨A.block, A.off + j * sz + k, none⟩ = some (r j k))
      (h : ∀ (j : Nat) (x : PV) (k : Nat) (c : PV), xs[j]? = some x → (cellsP x)[k]? = some c → PRel I w c (r j k)) : PRel I w (.isl xs) (.slice (some A) n cap)
  | nilp : PRel I w .nilp (.pointer none)
  | cptr (v : PV) (A : Addr) (r : Nat → Value) (hs : A.spot = none) (hk : ∀ c ∈ cellsP v, isCellP c = true)
      (hc : ∀ k, k < (cellsP v).length → I A.block (A.off + k) ∧ w.cell? ⟨A.block, A.off + k, none⟩ = some (r k))
      (h : ∀ (k : Nat) (c : PV), (cellsP v)[k]? = some c → PRel I w c (r k)) : PRel I w (.cptr v) (.pointer (some A))
  | nilm : PRel I w .nilm (.map none)
  | pmap (es : List (PV × PV)) (R : Nat) (ents : Array MapEntry) (clock : Nat) (hI : I R 0) (hw : w.heap[R]? = some (.map ents clock)) (hl : es.length = ents.size)
      (hk : ∀ (i : Nat) (e : PV × PV) (m : MapEntry), es[i]? = some e → ents[i]? = some m → PRel I w e.1 m.key)
      (hv : ∀ (i : Nat) (e : PV × PV) (m : MapEntry), es[i]? = some e → ents[i]? = some m → PRel I w e.2 m.val)
      (hb : ∀ m ∈ ents.toList, m.born < clock) (hd : (ents.toList.map (·.born)).Nodup) : PRel I w (.pmap es) (.map (some R))
  | nilf : PRel I w .nilf .nilFunc
  | fn (f : Nat) (cs : List PV) (vs : Array Value) (hl : cs.length = vs.size) (h : ∀ (i : Nat) (c : PV) (v : Value), cs[i]? = some c → vs[i]? = some v → PRel I w c v) :
      PRel I w (.fn f cs) (.func (.func (rid f)) #[] vs)
  | nili : PRel I w .nili .nilIface
  | iface (t : Nat) (v : PV) (rv : Value) (h : PRel I w v rv) : PRel I w (.iface t v) (.iface t rv)
  | tup (cs : List PV) (vs : Array Value) (hl : cs.length = vs.size) (h : ∀ (i : Nat) (c : PV) (v : Value), cs[i]? = some c → vs[i]? = some v → PRel I w c v) : PRel I w (.tup cs) (.tuple vs)
  | undef : PRel I w .undef undef

/-- What is not written to any more stays. -/
def Keeps (I : Nat → Nat → Prop) (w : World) (I' : Nat → Nat → Prop) (w' : World) : Prop :=
  ∀ R o, I R o → I' R o ∧ w'.cell? ⟨R, o, none⟩ = w.cell? ⟨R, o, none⟩ ∧ ∀ es c, w.heap[R]? = some (.map es c) → w'.heap[R]? = some (.map es c)

theorem PRel.mono {I I' : Nat → Nat → Prop} {w w' : World} (hk : Keeps I w I' w') {v : PV} {rv : Value} (h : PRel I w v rv) : PRel I' w' v rv := by
  induction h with
  | int => exact .int _ _
  | bool => exact .bool _
  | str s l hl => exact .str s l hl
  | agg cs vs hk hl _ ih => exact .agg cs vs hk hl ih
  | nils => exact .nils
  | isl xs n A cap sz r hn hs hcap hsz hc _ ih =>
    exact .isl xs n A cap sz r hn hs hcap hsz (fun j k hj hk' => ⟨(hk _ _ (hc j k hj hk').1).1, by rw [(hk _ _ (hc j k hj hk').1).2.1]; exact (hc j k hj hk').2⟩) ih
  | nilp => exact .nilp
  | cptr v A r hs hk' hc _ ih => exact .cptr v A r hs hk' (fun k hj => ⟨(hk _ _ (hc k hj).1).1, by rw [(hk _ _ (hc k hj).1).2.1]; exact (hc k hj).2⟩) ih
  | nilm => exact .nilm
  | pmap es R ents clock hI hw hl _ _ hb hd ihk ihv => exact .pmap es R ents clock (hk _ _ hI).1 ((hk _ _ hI).2.2 _ _ hw) hl ihk ihv hb hd
  | nilf => exact .nilf
  | fn f cs vs hl _ ih => exact .fn f cs vs hl ih
  | nili => exact .nili
  | iface t v rv _ ih => exact .iface t v rv ih
  | tup cs vs hl _ ih => exact .tup cs vs hl ih
  | undef => exact .undef

/-- What ghosts there are: the world's block of a block; the cells that are not written to any more. -/
structure Gh where
  φ : Nat → Option Nat
  I : Nat → Nat → Prop

/-- how many cells a world's block has -/
def csize (w : World) (R : Nat) : Nat :=
  match w.heap[R]? with
  | some (.cells c _ _) => c.size
  | _ => 0

def Blk.alive : Blk → Prop
  | .dead => False
  | _ => True

/-- A value stands for a value of Go's, in a world. -/
inductive DRel (g : Gh) (H : Heap) (w : World) : DV → Value → Prop
  | p (v : PV) (rv : Value) (h : PRel g.I w v rv) : DRel g H w (.p v) rv
  | dmsl (b off len cap : Nat) (A : Addr) (h : H[b]? = some .dead) : DRel g H w (.msl b off len) (.slice (some A) len cap)
  | fmsl (b off len cap R z : Nat) (ag : Bool) (els : List (List DV)) (hH : H[b]? = some (.vec false ag z els)) (hφ : g.φ b = some R)
      (hb : off + len ≤ els.length) (hcap : len ≤ cap) (hc : (off + cap) * z ≤ csize w R) : DRel g H w (.msl b off len) (.slice (some ⟨R, off * z, none⟩) len cap)
  | gmsl (b off len cap R z : Nat) (A : Addr) (ag : Bool) (els : List (List DV)) (hH : H[b]? = some (.vec true ag z els)) (hφ : g.φ b = some R) (hs : A.spot = none)
      (hb : off + len ≤ els.length) (hcap : len ≤ cap)
      (hc : ∀ m, m < len * z → g.I A.block (A.off + m) ∧ w.cell? ⟨A.block, A.off + m, none⟩ = w.cell? ⟨R, off * z + m, none⟩)
      (hf : off = 0 → len = els.length → A = ⟨R, 0, none⟩ ∧ cap * z ≤ csize w R) : DRel g H w (.msl b off len) (.slice (some A) len cap)
  | dptr (b i o : Nat) (A : Addr) (h : H[b]? = some .dead) : DRel g H w (.ptr b i o) (.pointer (some A))
  | fptr (b i o R z : Nat) (ag : Bool) (els : List (List DV)) (hH : H[b]? = some (.vec false ag z els)) (hφ : g.φ b = some R) :
      DRel g H w (.ptr b i o) (.pointer (some ⟨R, i * z + o, none⟩))
  | gptr (b i o R z : Nat) (A : Addr) (ag : Bool) (els : List (List DV)) (hH : H[b]? = some (.vec true ag z els)) (hφ : g.φ b = some R) (hs : A.spot = none) (hi : i < els.length)
      (hc : ∀ m, o + m < z → g.I A.block (A.off + m) ∧ w.cell? ⟨A.block, A.off + m, none⟩ = w.cell? ⟨R, i * z + o + m, none⟩) : DRel g H w (.ptr b i o) (.pointer (some A))
  | dit (b R : Nat) (h : H[b]? = some .dead) : DRel g H w (.it b) (.pointer (some ⟨R, 0, none⟩))
  | it (b R : Nat) (s : List Nat) (pos : Nat) (hH : H[b]? = some (.iter s pos)) (hφ : g.φ b = some R) : DRel g H w (.it b) (.pointer (some ⟨R, 0, none⟩))
  | dmap (b R : Nat) (h : H[b]? = some .dead) : DRel g H w (.map b) (.map (some R))
  | map (b R : Nat) (es : List (PV × DV)) (hH : H[b]? = some (.mp es)) (hφ : g.φ b = some R) : DRel g H w (.map b) (.map (some R))
  | fn (f : Nat) (cs : List DV) (vs : Array Value) (hl : cs.length = vs.size) (h : ∀ (i : Nat) (c : DV) (v : Value), cs[i]? = some c → vs[i]? = some v → DRel g H w c v) :
      DRel g H w (.fn f cs) (.func (.func (rid f)) #[] vs)
  | agg (cs : List DV) (vs : Array Value) (hk : ∀ c ∈ cs, isCell c = true) (hl : cs.length = vs.size) (h : ∀ (i : Nat) (c : DV) (v : Value), cs[i]? = some c → vs[i]? = some v → DRel g H w c v) : DRel g H w (.agg cs) (.agg vs)
  | tup (cs : List DV) (vs : Array Value) (hl : cs.length = vs.size) (h : ∀ (i : Nat) (c : DV) (v : Value), cs[i]? = some c → vs[i]? = some v → DRel g H w c v) : DRel g H w (.tup cs) (.tuple vs)

/-- A block stands for a world's. -/
def BlkRel (g : Gh) (H : Heap) (w : World) (R : Nat) : Blk → Prop
  | .vec gr _ z els => (∃ c t fr, w.heap[R]? = some (.cells c t fr) ∧ els.length * z ≤ c.size ∧ (fr.1 = fr.2 ∨ c.size ≤ fr.1)) ∧ (∀ (i : Nat) (e : List DV), els[i]? = some e → e.length = z ∧ ∀ d ∈ e, isCell d = true) ∧
      (∀ (i : Nat) (e : List DV) (k : Nat) (d : DV), els[i]? = some e → e[k]? = some d → ∃ v, w.cell? ⟨R, i * z + k, none⟩ = some v ∧ DRel g H w d v) ∧
      (∀ o, g.I R o ↔ (gr = true ∧ o < els.length * z))
  | .mp es => (∃ ents clock, w.heap[R]? = some (.map ents clock) ∧ es.length = ents.size ∧
      (∀ (i : Nat) (e : PV × DV) (m : MapEntry), es[i]? = some e → ents[i]? = some m → PRel g.I w e.1 m.key ∧ DRel g H w e.2 m.val) ∧
      (∀ m ∈ ents.toList, m.born < clock) ∧ (ents.toList.map (·.born)).Nodup) ∧ ∀ o, ¬ g.I R o
  | .iter s pos => (∃ s', w.heap[R]? = some (.stringIter s' pos) ∧ s = s'.data.toList.map UInt8.toNat) ∧ ∀ o, ¬ g.I R o
  | .dead => True

/-- The heap stands for what is in the world. -/
structure Rel (g : Gh) (H : Heap) (w : World) : Prop where
  blk : ∀ b k, H[b]? = some k → k.alive → ∃ R, g.φ b = some R ∧ R < w.heap.size ∧ BlkRel g H w R k
  inj : ∀ b b' k k' R, H[b]? = some k → k.alive → H[b']? = some k' → k'.alive → g.φ b = some R → g.φ b' = some R → b = b'
  low : ∀ R o, g.I R o → R < w.heap.size

/-- A world's block that no living block stands for. -/
def Free (g : Gh) (H : Heap) (R : Nat) : Prop := ∀ b k, H[b]? = some k → k.alive → g.φ b ≠ some R

/-- What becomes of a block. -/
def Turns (g : Gh) (w : World) (g' : Gh) (w' : World) (b : Nat) : Blk → Blk → Prop
  | .vec false ag z els, k' => (∃ els', k' = .vec false ag z els' ∧ els'.length = els.length ∧ g'.φ b = g.φ b) ∨ k' = .dead
  | .vec true ag z els, k' => (∃ ys R R', k' = .vec true ag z (els ++ ys) ∧ g.φ b = some R ∧ g'.φ b = some R' ∧ (ys = [] → R' = R) ∧
      ∀ m, m < els.length * z → w'.cell? ⟨R', m, none⟩ = w.cell? ⟨R, m, none⟩) ∨ k' = .dead
  | .mp _, k' => (∃ es', k' = .mp es' ∧ g'.φ b = g.φ b) ∨ k' = .dead
  | .iter s _, k' => (∃ pos', k' = .iter s pos' ∧ g'.φ b = g.φ b) ∨ k' = .dead
  | .dead, k' => k' = .dead

/-- What a run may turn. -/
structure Ev (g : Gh) (H : Heap) (w : World) (g' : Gh) (H' : Heap) (w' : World) : Prop where
  keeps : Keeps g.I w g'.I w'
  free : ∀ R, R < w.heap.size → Free g H R → w'.heap[R]? = w.heap[R]?
  size : w.heap.size ≤ w'.heap.size
  cs : ∀ R, R < w.heap.size → csize w R ≤ csize w' R
  tape : w'.tape = w.tape ∧ w'.os = w.os ∧ w'.output = w.output
  len : H.length ≤ H'.length
  blk : ∀ b k, H[b]? = some k → ∃ k', H'[b]? = some k' ∧ Turns g w g' w' b k k'
  newI : ∀ R o, g'.I R o → g.I R o ∨ w.heap.size ≤ R ∨ ¬ Free g H R
  newφ : ∀ b k' R, H'[b]? = some k' → k'.alive → g'.φ b = some R → w.heap.size ≤ R ∨ ¬ Free g H R

/-- What keeps values. -/
structure Mo (g : Gh) (H : Heap) (w : World) (g' : Gh) (H' : Heap) (w' : World) : Prop where
  keeps : Keeps g.I w g'.I w'
  cs : ∀ R, R < w.heap.size → csize w R ≤ csize w' R
  blk : ∀ b k, H[b]? = some k → ∃ k', H'[b]? = some k' ∧ Turns g w g' w' b k k'

theorem DRel.mo {g g' : Gh} {H H' : Heap} {w w' : World} (hv : Mo g H w g' H' w') {v : DV} {rv : Value} (h : DRel g H w v rv) : DRel g' H' w' v rv := by
  have hcs : ∀ R, csize w R ≤ csize w' R := fun R => by
    rcases Nat.lt_or_ge R w.heap.size with h | h
    · exact hv.cs R h
    · simp [csize, Array.getElem?_eq_none h]
  induction h with
  | p v rv h => exact .p v rv (h.mono hv.keeps)
  | dmsl b off len cap A h =>
    obtain ⟨k', hk', ht⟩ := hv.blk b _ h
    simp only [Turns] at ht; subst ht
    exact .dmsl b off len cap A hk'
  | fmsl b off len cap R z ag els hH hφ hb hcap hc =>
    obtain ⟨k', hk', ht⟩ := hv.blk b _ hH
    rcases ht with ⟨els', rfl, hl, hφ'⟩ | rfl
    · exact .fmsl b off len cap R z ag els' hk' (by rw [hφ', hφ]) (by rw [hl]; exact hb) hcap (Nat.le_trans hc (hcs R))
    · exact .dmsl b off len _ _ hk'
  | gmsl b off len cap R z A ag els hH hφ hs hb hcap hc hf =>
    obtain ⟨k', hk', ht⟩ := hv.blk b _ hH
    rcases ht with ⟨ys, R0, R', rfl, hφ0, hφ', hys, hcell⟩ | rfl
    · rw [hφ] at hφ0; obtain rfl := Option.some.inj hφ0
      refine .gmsl b off len cap R' z A ag (els ++ ys) hk' hφ' hs (by simp; omega) hcap (fun m hm => ?_) (fun h0 hl => ?_)
      · obtain ⟨h1, h2⟩ := hc m hm
        refine ⟨(hv.keeps _ _ h1).1, ?_⟩
        rw [(hv.keeps _ _ h1).2.1, h2, hcell]
        have : off * z + m < off * z + len * z := by omega
        have h3 : off * z + len * z = (off + len) * z := by rw [Nat.add_mul]
        have h4 : (off + len) * z ≤ els.length * z := Nat.mul_le_mul_right _ hb
        omega
      · have hy : ys = [] := by
          have : ys.length = 0 := by simp at hl; omega
          exact List.length_eq_zero_iff.1 this
        obtain ⟨h1, h2⟩ := hf h0 (by simpa [hy] using hl)
        rw [hys hy]
        exact ⟨h1, Nat.le_trans h2 (hcs R)⟩
    · exact .dmsl b off len _ _ hk'
  | dptr b i o A h =>
    obtain ⟨k', hk', ht⟩ := hv.blk b _ h
    simp only [Turns] at ht; subst ht
    exact .dptr b i o A hk'
  | fptr b i o R z ag els hH hφ =>
    obtain ⟨k', hk', ht⟩ := hv.blk b _ hH
    rcases ht with ⟨els', rfl, hl, hφ'⟩ | rfl
    · exact .fptr b i o R z ag els' hk' (by rw [hφ', hφ])
    · exact .dptr b i o _ hk'
  | gptr b i o R z A ag els hH hφ hs hi hc =>
    obtain ⟨k', hk', ht⟩ := hv.blk b _ hH
    rcases ht with ⟨ys, R0, R', rfl, hφ0, hφ', hys, hcell⟩ | rfl
    · rw [hφ] at hφ0; obtain rfl := Option.some.inj hφ0
      refine .gptr b i o R' z A ag (els ++ ys) hk' hφ' hs (by simp; omega) (fun m hm => ?_)
      obtain ⟨h1, h2⟩ := hc m hm
      refine ⟨(hv.keeps _ _ h1).1, ?_⟩
      rw [(hv.keeps _ _ h1).2.1, h2, hcell]
      have h3 : i * z + z = (i + 1) * z := by rw [Nat.add_mul, Nat.one_mul]
      have h4 : (i + 1) * z ≤ els.length * z := Nat.mul_le_mul_right _ hi
      omega
    · exact .dptr b i o _ hk'
  | dit b R h =>
    obtain ⟨k', hk', ht⟩ := hv.blk b _ h
    simp only [Turns] at ht; subst ht
    exact .dit b R hk'
  | it b R s pos hH hφ =>
    obtain ⟨k', hk', ht⟩ := hv.blk b _ hH
    rcases ht with ⟨pos', rfl, hφ'⟩ | rfl
    · exact .it b R s pos' hk' (by rw [hφ', hφ])
    · exact .dit b R hk'
  | dmap b R h =>
    obtain ⟨k', hk', ht⟩ := hv.blk b _ h
    simp only [Turns] at ht; subst ht
    exact .dmap b R hk'
  | map b R es hH hφ =>
    obtain ⟨k', hk', ht⟩ := hv.blk b _ hH
    rcases ht with ⟨es', rfl, hφ'⟩ | rfl
    · exact .map b R es' hk' (by rw [hφ', hφ])
    · exact .dmap b _ hk'
  | fn f cs vs hl _ ih => exact .fn f cs vs hl ih
  | agg cs vs hk hl _ ih => exact .agg cs vs hk hl ih
  | tup cs vs hl _ ih => exact .tup cs vs hl ih

theorem Ev.mo {g g' : Gh} {H H' : Heap} {w w' : World} (hv : Ev g H w g' H' w') : Mo g H w g' H' w' := ⟨hv.keeps, hv.cs, hv.blk⟩
theorem DRel.mono {g g' : Gh} {H H' : Heap} {w w' : World} (hv : Ev g H w g' H' w') {v : DV} {rv : Value} (h : DRel g H w v rv) : DRel g' H' w' v rv := h.mo hv.mo

theorem Turns.refl {g : Gh} {H : Heap} {w : World} (hr : Rel g H w) {b : Nat} {k : Blk} (h : H[b]? = some k) : Turns g w g w b k k := by
  cases k with
  | vec gr ag z els =>
    cases gr with
    | false => exact .inl ⟨els, rfl, rfl, rfl⟩
    | true =>
      obtain ⟨R, hR, _⟩ := hr.blk b _ h trivial
      exact .inl ⟨[], R, R, by simp, hR, hR, fun _ => rfl, fun _ _ => rfl⟩
  | mp es => exact .inl ⟨es, rfl, rfl⟩
  | iter s pos => exact .inl ⟨pos, rfl, rfl⟩
  | dead => rfl

theorem Ev.refl {g : Gh} {H : Heap} {w : World} (hr : Rel g H w) : Ev g H w g H w where
  keeps := fun _ _ h => ⟨h, rfl, fun _ _ h => h⟩
  free := fun _ _ _ => rfl
  size := Nat.le_refl _
  cs := fun _ _ => Nat.le_refl _
  tape := ⟨rfl, rfl, rfl⟩
  len := Nat.le_refl _
  blk := fun b k h => ⟨k, h, Turns.refl hr h⟩
  newI := fun _ _ h => .inl h
  newφ := fun b k R h ha hφ => .inr fun hf => hf b k h ha hφ

theorem Keeps.trans {I I' I'' : Nat → Nat → Prop} {w w' w'' : World} (h : Keeps I w I' w') (h' : Keeps I' w' I'' w'') : Keeps I w I'' w'' := fun R o hI => by
  obtain ⟨h1, h2, h3⟩ := h R o hI
  obtain ⟨h4, h5, h6⟩ := h' R o h1
  exact ⟨h4, h5.trans h2, fun es c hh => h6 es c (h3 es c hh)⟩

theorem Turns.trans {g g' g'' : Gh} {w w' w'' : World} {b : Nat} {k k' k'' : Blk} (h : Turns g w g' w' b k k') (h' : Turns g' w' g'' w'' b k' k'') :
    Turns g w g'' w'' b k k'' := by
  cases k with
  | vec gr ag z els =>
    cases gr with
    | false =>
      rcases h with ⟨els', rfl, hl, hφ⟩ | rfl
      · rcases h' with ⟨els'', rfl, hl', hφ'⟩ | rfl
        · exact .inl ⟨els'', rfl, hl'.trans hl, hφ'.trans hφ⟩
        · exact .inr rfl
      · simp only [Turns] at h'; exact .inr h'
    | true =>
      rcases h with ⟨ys, R, R', rfl, hφ, hφ', hys, hc⟩ | rfl
      · rcases h' with ⟨ys', S, S', rfl, hψ, hψ', hys', hc'⟩ | rfl
        · rw [hφ'] at hψ; obtain rfl := Option.some.inj hψ
          refine .inl ⟨ys ++ ys', R, S', by simp, hφ, hψ', fun h => ?_, fun m hm => ?_⟩
          · obtain ⟨h1, h2⟩ := List.append_eq_nil_iff.1 h
            rw [hys' h2, hys h1]
          · rw [hc' m (by simp [Nat.add_mul]; omega), hc m hm]
        · exact .inr rfl
      · simp only [Turns] at h'; exact .inr h'
  | mp es =>
    rcases h with ⟨es', rfl, hφ⟩ | rfl
    · rcases h' with ⟨es'', rfl, hφ'⟩ | rfl
      · exact .inl ⟨es'', rfl, hφ'.trans hφ⟩
      · exact .inr rfl
    · simp only [Turns] at h'; exact .inr h'
  | iter s pos =>
    rcases h with ⟨p', rfl, hφ⟩ | rfl
    · rcases h' with ⟨p'', rfl, hφ'⟩ | rfl
      · exact .inl ⟨p'', rfl, hφ'.trans hφ⟩
      · exact .inr rfl
    · simp only [Turns] at h'; exact .inr h'
  | dead => simp only [Turns] at h; subst h; exact h'

theorem Ev.free' {g g' : Gh} {H H' : Heap} {w w' : World} (h : Ev g H w g' H' w') {R : Nat} (hR : R < w.heap.size) (hf : Free g H R) : Free g' H' R := fun b k hb ha hφ => by
  rcases h.newφ b k R hb ha hφ with h1 | h1
  · omega
  · exact h1 hf

theorem Ev.trans {g g' g'' : Gh} {H H' H'' : Heap} {w w' w'' : World} (h : Ev g H w g' H' w') (h' : Ev g' H' w' g'' H'' w'') : Ev g H w g'' H'' w'' where
  keeps := h.keeps.trans h'.keeps
  free := fun R hR hf => by rw [h'.free R (Nat.lt_of_lt_of_le hR h.size) (h.free' hR hf), h.free R hR hf]
  size := Nat.le_trans h.size h'.size
  cs := fun R hR => Nat.le_trans (h.cs R hR) (h'.cs R (Nat.lt_of_lt_of_le hR h.size))
  tape := ⟨h'.tape.1.trans h.tape.1, h'.tape.2.1.trans h.tape.2.1, h'.tape.2.2.trans h.tape.2.2⟩
  len := Nat.le_trans h.len h'.len
  blk := fun b k hb => by
    obtain ⟨k', hk', ht⟩ := h.blk b k hb
    obtain ⟨k'', hk'', ht'⟩ := h'.blk b k' hk'
    exact ⟨k'', hk'', ht.trans ht'⟩
  newI := fun R o hI => by
    rcases h'.newI R o hI with h1 | h1 | h1
    · exact h.newI R o h1
    · exact .inr (.inl (Nat.le_trans h.size h1))
    · rcases Nat.lt_or_ge R w.heap.size with hR | hR
      · exact .inr (.inr fun hf => h1 (h.free' hR hf))
      · exact .inr (.inl hR)
  newφ := fun b k R hb ha hφ => by
    rcases h'.newφ b k R hb ha hφ with h1 | h1
    · exact .inl (Nat.le_trans h.size h1)
    · rcases Nat.lt_or_ge R w.heap.size with hR | hR
      · exact .inr fun hf => h1 (h.free' hR hf)
      · exact .inl hR

end Go.Lv

/- What becomes of the heap and the world at one operation: a block more, a block written to, a block let go of. -/
namespace Go.Lv
set_option linter.unusedVariables false

def Gh.addI (g : Gh) (R n : Nat) : Gh := ⟨g.φ, fun R' o => g.I R' o ∨ (R' = R ∧ o < n)⟩
def Gh.put (g : Gh) (b R n : Nat) : Gh := ⟨fun b' => if b' = b then some R else g.φ b', fun R' o => g.I R' o ∨ (R' = R ∧ o < n)⟩

theorem cell?_of_heap {w w' : World} {R : Nat} (h : w'.heap[R]? = w.heap[R]?) (o : Nat) : w'.cell? ⟨R, o, none⟩ = w.cell? ⟨R, o, none⟩ := by
  simp only [World.cell?, h]
theorem csize_of_heap {w w' : World} {R : Nat} (h : w'.heap[R]? = w.heap[R]?) : csize w' R = csize w R := by simp only [csize, h]

theorem BlkRel.mono {g g' : Gh} {H H' : Heap} {w w' : World} {R : Nat} {k : Blk} (hv : Ev g H w g' H' w') (hh : w'.heap[R]? = w.heap[R]?)
    (hI : ∀ o, g'.I R o ↔ g.I R o) (h : BlkRel g H w R k) : BlkRel g' H' w' R k := by
  cases k with
  | vec gr ag z els =>
    obtain ⟨⟨c, t, fr, hc, hl, hf⟩, h1, h2, h3⟩ := h
    refine ⟨⟨c, t, fr, by rw [hh, hc], hl, hf⟩, h1, fun i e k d hi hk => ?_, fun o => by rw [hI, h3]⟩
    obtain ⟨v, hv1, hv2⟩ := h2 i e k d hi hk
    exact ⟨v, by rw [cell?_of_heap hh, hv1], hv2.mono hv⟩
  | mp es =>
    obtain ⟨⟨ents, cl, hc, hl, h1, h2, h3⟩, h4⟩ := h
    exact ⟨⟨ents, cl, by rw [hh, hc], hl, fun i e m hi hm => ⟨(h1 i e m hi hm).1.mono hv.keeps, (h1 i e m hi hm).2.mono hv⟩, h2, h3⟩, fun o => by rw [hI]; exact h4 o⟩
  | iter s pos =>
    obtain ⟨⟨s', hc, hl⟩, h4⟩ := h
    exact ⟨⟨s', by rw [hh, hc], hl⟩, fun o => by rw [hI]; exact h4 o⟩
  | dead => trivial

/-- blocks stay as they are, their world's blocks too -/
theorem Turns.stay {g g' : Gh} {H : Heap} {w w' : World} (hr : Rel g H w) {b : Nat} {k : Blk} (h : H[b]? = some k) (hφ : g'.φ b = g.φ b)
    (hh : ∀ R, k.alive → g.φ b = some R → w'.heap[R]? = w.heap[R]?) : Turns g w g' w' b k k := by
  cases k with
  | vec gr ag z els =>
    cases gr with
    | false => exact .inl ⟨els, rfl, rfl, hφ⟩
    | true =>
      obtain ⟨R, hR, _⟩ := hr.blk b _ h trivial
      exact .inl ⟨[], R, R, by simp, hR, by rw [hφ, hR], fun _ => rfl, fun m _ => cell?_of_heap (hh R trivial hR) m⟩
  | mp es => exact .inl ⟨es, rfl, hφ⟩
  | iter s pos => exact .inl ⟨pos, rfl, hφ⟩
  | dead => rfl

theorem heap_alloc_lt {w : World} {o : Obj} {R : Nat} (h : R < w.heap.size) : (w.alloc o).heap[R]? = w.heap[R]? := by
  simp only [World.alloc, Array.getElem?_push]; split
  · omega
  · rfl
theorem heap_alloc_new {w : World} {o : Obj} : (w.alloc o).heap[w.heap.size]? = some o := by simp only [World.alloc, Array.getElem?_push, if_true]

theorem Ev.alloc {g g' : Gh} {H H' : Heap} {w : World} (hr : Rel g H w) (o : Obj) (hφ : ∀ b, b < H.length → g'.φ b = g.φ b)
    (hI : ∀ R n, g.I R n → g'.I R n) (hI' : ∀ R n, g'.I R n → g.I R n ∨ R = w.heap.size)
    (hH : ∀ (b : Nat) (k : Blk), H[b]? = some k → H'[b]? = some k) (hl : H.length ≤ H'.length)
    (hnew : ∀ (b : Nat) (k : Blk) (R : Nat), H.length ≤ b → H'[b]? = some k → k.alive → g'.φ b = some R → R = w.heap.size) : Ev g H w g' H' (w.alloc o) where
  keeps := fun R n h => ⟨hI R n h, cell?_of_heap (heap_alloc_lt (hr.low R n h)) n, fun es c hh => by rw [heap_alloc_lt (hr.low R n h), hh]⟩
  free := fun R hR _ => heap_alloc_lt hR
  size := by simp
  cs := fun R hR => Nat.le_of_eq (csize_of_heap (heap_alloc_lt hR)).symm
  tape := ⟨rfl, rfl, rfl⟩
  len := hl
  blk := fun b k hb => ⟨k, hH b k hb, Turns.stay hr hb (hφ b (List.getElem?_eq_some_iff.1 hb).1) (fun R ha hR => by
    obtain ⟨R', h1, h2, _⟩ := hr.blk b k hb ha
    rw [hR] at h1; obtain rfl := Option.some.inj h1
    exact heap_alloc_lt h2)⟩
  newI := fun R n h => by
    rcases hI' R n h with h1 | h1
    · exact .inl h1
    · exact .inr (.inl (by omega))
  newφ := fun b k R hb ha hR => by
    rcases Nat.lt_or_ge b H.length with hlt | hge
    · refine .inr fun hf => ?_
      have h1 : H[b]? = some H[b] := by simp [hlt]
      have h2 := hH b _ h1
      rw [h2] at hb; obtain rfl := Option.some.inj hb
      rw [hφ b hlt] at hR
      exact hf b _ h1 ha hR
    · exact .inl (by rw [hnew b k R hge hb ha hR]; omega)

/-- a value's block more: nothing is written into it any more -/
theorem alloc_val {g : Gh} {H : Heap} {w : World} (hr : Rel g H w) (o : Obj) (n : Nat) :
    Rel (g.addI w.heap.size n) H (w.alloc o) ∧ Ev g H w (g.addI w.heap.size n) H (w.alloc o) := by
  have hv : Ev g H w (g.addI w.heap.size n) H (w.alloc o) :=
    Ev.alloc hr o (fun _ _ => rfl) (fun _ _ h => .inl h) (fun R m h => h.imp id And.left) (fun _ _ h => h) (Nat.le_refl _)
      (fun b k R hb hk => by rw [List.getElem?_eq_none hb] at hk; simp at hk)
  refine ⟨⟨fun b k hb ha => ?_, hr.inj, fun R m h => ?_⟩, hv⟩
  · obtain ⟨R, h1, h2, h3⟩ := hr.blk b k hb ha
    refine ⟨R, h1, by simp; omega, h3.mono hv (heap_alloc_lt h2) fun m => ⟨fun h => ?_, .inl⟩⟩
    rcases h with h | ⟨h, _⟩
    · exact h
    · omega
  · rcases h with h | ⟨h, _⟩
    · have := hr.low R m h; simp; omega
    · simp; omega

theorem ev_alloc_blk {g : Gh} {H : Heap} {w : World} (hr : Rel g H w) (o : Obj) (k : Blk) (n : Nat) :
    Ev g H w (g.put H.length w.heap.size n) (H ++ [k]) (w.alloc o) :=
  Ev.alloc hr o (fun b hb => by simp [Gh.put]; omega) (fun _ _ h => .inl h) (fun R m h => h.imp id And.left)
    (fun b k' h => by rw [List.getElem?_append_left (List.getElem?_eq_some_iff.1 h).1]; exact h) (by simp)
    (fun b k' R hb hk ha hR => by
      have hb' : b = H.length := by
        have := (List.getElem?_eq_some_iff.1 hk).1
        simp at this; omega
      subst hb'
      simp only [Gh.put, if_true] at hR
      exact (Option.some.inj hR).symm)

/-- a block of the heap more -/
theorem alloc_blk {g : Gh} {H : Heap} {w : World} (hr : Rel g H w) (o : Obj) (k : Blk) (n : Nat)
    (hk : Ev g H w (g.put H.length w.heap.size n) (H ++ [k]) (w.alloc o) → BlkRel (g.put H.length w.heap.size n) (H ++ [k]) (w.alloc o) w.heap.size k) :
    Rel (g.put H.length w.heap.size n) (H ++ [k]) (w.alloc o) ∧ Ev g H w (g.put H.length w.heap.size n) (H ++ [k]) (w.alloc o) := by
  have hv := ev_alloc_blk hr o k n
  refine ⟨⟨fun b k' hb ha => ?_, fun b b' k1 k2 R hb ha hb' ha' hR hR' => ?_, fun R m h => ?_⟩, hv⟩
  · rcases Nat.lt_or_ge b H.length with hlt | hge
    · rw [List.getElem?_append_left hlt] at hb
      obtain ⟨R, h1, h2, h3⟩ := hr.blk b k' hb ha
      refine ⟨R, by simp [Gh.put]; rw [if_neg (by omega)]; exact h1, by simp; omega, h3.mono hv (heap_alloc_lt h2) fun m => ⟨fun h => ?_, .inl⟩⟩
      rcases h with h | ⟨h, _⟩
      · exact h
      · omega
    · have hb' : b = H.length := by
        have := (List.getElem?_eq_some_iff.1 hb).1
        simp at this; omega
      subst hb'
      rw [List.getElem?_append_right (Nat.le_refl _)] at hb
      simp at hb; subst hb
      exact ⟨w.heap.size, by simp [Gh.put], by simp, hk hv⟩
  · have key : ∀ (b : Nat) (k' : Blk), (H ++ [k])[b]? = some k' → k'.alive → (g.put H.length w.heap.size n).φ b = some R → (b < H.length ∧ H[b]? = some k' ∧ g.φ b = some R ∧ R < w.heap.size) ∨ (b = H.length ∧ R = w.heap.size) := by
      intro b k' hb ha hR
      rcases Nat.lt_or_ge b H.length with hlt | hge
      · rw [List.getElem?_append_left hlt] at hb
        have hR' : g.φ b = some R := by simpa [Gh.put, show b ≠ H.length by omega] using hR
        obtain ⟨R', h1, h2, _⟩ := hr.blk b k' hb ha
        rw [hR'] at h1; obtain rfl := Option.some.inj h1
        exact .inl ⟨hlt, hb, hR', h2⟩
      · have hb' : b = H.length := by
          have := (List.getElem?_eq_some_iff.1 hb).1
          simp at this; omega
        subst hb'
        simp only [Gh.put, if_true] at hR
        exact .inr ⟨rfl, (Option.some.inj hR).symm⟩
    rcases key b k1 hb ha hR with ⟨h1, h2, h3, h4⟩ | ⟨h1, h2⟩ <;> rcases key b' k2 hb' ha' hR' with ⟨h5, h6, h7, h8⟩ | ⟨h5, h6⟩
    · exact hr.inj b b' k1 k2 R h2 ha h6 ha' h3 h7
    · omega
    · omega
    · omega
  · rcases h with h | ⟨h, _⟩
    · have := hr.low R m h; simp; omega
    · simp; omega

/-- A world that is another at one block alone. -/
structure Wrote (w w' : World) (R : Nat) : Prop where
  size : w'.heap.size = w.heap.size
  same : ∀ R', R' ≠ R → w'.heap[R']? = w.heap[R']?
  cs : csize w R ≤ csize w' R
  tape : w'.tape = w.tape ∧ w'.os = w.os ∧ w'.output = w.output

theorem Ev.write {g g' : Gh} {H : Heap} {w w' : World} (hr : Rel g H w) {b : Nat} {k k' : Blk} {R : Nat} (hb : H[b]? = some k) (ha : k.alive) (hφ : g.φ b = some R)
    (hw : Wrote w w' R) (hφ' : g'.φ = g.φ) (hI : ∀ R' o, g.I R' o → g'.I R' o) (hI' : ∀ R' o, R' ≠ R → g'.I R' o → g.I R' o)
    (hc : ∀ o, g.I R o → w'.cell? ⟨R, o, none⟩ = w.cell? ⟨R, o, none⟩) (hm : ∀ es c o, g.I R o → w.heap[R]? = some (.map es c) → w'.heap[R]? = some (.map es c))
    (ht : Turns g w g' w' b k k') : Ev g H w g' (H.set b k') w' where
  keeps := fun R' o h => by
    by_cases e : R' = R
    · subst e; exact ⟨hI _ _ h, hc o h, fun es c hh => hm es c o h hh⟩
    · exact ⟨hI _ _ h, cell?_of_heap (hw.same R' e) o, fun es c hh => by rw [hw.same R' e, hh]⟩
  free := fun R' hR hf => hw.same R' fun e => hf b k hb ha (by rw [hφ, e])
  size := by rw [hw.size]; exact Nat.le_refl _
  cs := fun R' hR => by
    by_cases e : R' = R
    · subst e; exact hw.cs
    · exact Nat.le_of_eq (csize_of_heap (hw.same R' e)).symm
  tape := hw.tape
  len := by simp
  blk := fun b' k1 hb' => by
    by_cases e : b' = b
    · subst e
      rw [hb] at hb'; obtain rfl := Option.some.inj hb'
      exact ⟨k', by rw [List.getElem?_set_self (List.getElem?_eq_some_iff.1 hb).1], ht⟩
    · refine ⟨k1, by rw [List.getElem?_set_ne (Ne.symm e)]; exact hb', Turns.stay hr hb' (by rw [hφ']) fun R' ha' hR' => hw.same R' fun e' => ?_⟩
      subst e'
      exact e (hr.inj b' b k1 k R' hb' ha' hb ha hR' hφ)
  newI := fun R' o h => by
    by_cases e : R' = R
    · subst e; exact .inr (.inr fun hf => hf b k hb ha hφ)
    · exact .inl (hI' R' o e h)
  newφ := fun b' k1 R' hb' ha' hR' => by
    refine .inr fun hf => ?_
    rw [hφ'] at hR'
    by_cases e : b' = b
    · subst e
      rw [hφ] at hR'
      exact hf b' k hb ha (by rw [hφ, hR'])
    · rw [List.getElem?_set_ne (Ne.symm e)] at hb'
      exact hf b' k1 hb' ha' hR'

theorem rel_write {g g' : Gh} {H : Heap} {w w' : World} (hr : Rel g H w) {b : Nat} {k k' : Blk} {R : Nat} (hb : H[b]? = some k) (ha : k.alive) (hφ : g.φ b = some R)
    (hw : Wrote w w' R) (hφ' : g'.φ = g.φ) (hI : ∀ R' o, g.I R' o → g'.I R' o) (hI' : ∀ R' o, R' ≠ R → g'.I R' o → g.I R' o)
    (hv : Ev g H w g' (H.set b k') w') (hk : k'.alive → BlkRel g' (H.set b k') w' R k') : Rel g' (H.set b k') w' where
  blk := fun b' k1 hb' ha' => by
    by_cases e : b' = b
    · subst e
      rw [List.getElem?_set_self (List.getElem?_eq_some_iff.1 hb).1] at hb'
      obtain rfl := Option.some.inj hb'
      obtain ⟨R', h1, h2, _⟩ := hr.blk b' k hb ha
      rw [hφ] at h1; obtain rfl := Option.some.inj h1
      exact ⟨R, by rw [hφ', hφ], by rw [hw.size]; exact h2, hk ha'⟩
    · rw [List.getElem?_set_ne (Ne.symm e)] at hb'
      obtain ⟨R', h1, h2, h3⟩ := hr.blk b' k1 hb' ha'
      have hne : R' ≠ R := fun e' => e (hr.inj b' b k1 k R hb' ha' hb ha (by rw [h1, e']) hφ)
      exact ⟨R', by rw [hφ', h1], by rw [hw.size]; exact h2, h3.mono hv (hw.same R' hne) fun o => ⟨hI' R' o hne, hI R' o⟩⟩
  inj := fun b1 b2 k1 k2 R' h1 a1 h2 a2 e1 e2 => by
    rw [hφ'] at e1 e2
    have key : ∀ (b' : Nat) (k1 : Blk), (H.set b k')[b']? = some k1 → k1.alive → ∃ k0 : Blk, H[b']? = some k0 ∧ k0.alive := fun b' k1 h a => by
      by_cases e : b' = b
      · subst e; exact ⟨k, hb, ha⟩
      · rw [List.getElem?_set_ne (Ne.symm e)] at h; exact ⟨k1, h, a⟩
    obtain ⟨k3, h3, a3⟩ := key b1 k1 h1 a1
    obtain ⟨k4, h4, a4⟩ := key b2 k2 h2 a2
    exact hr.inj b1 b2 k3 k4 R' h3 a3 h4 a4 e1 e2
  low := fun R' o h => by
    rw [hw.size]
    by_cases e : R' = R
    · subst e
      obtain ⟨R1, h1, h2, _⟩ := hr.blk b k hb ha
      rw [hφ] at h1; obtain rfl := Option.some.inj h1
      exact h2
    · exact hr.low R' o (hI' R' o e h)

end Go.Lv

/- Operations, one by one: what the abstract one comes to, Go's comes to. First: those that turn nothing. -/
namespace Go.Lv
set_option linter.unusedVariables false
set_option linter.unusedSimpArgs false

/-! ### types -/
section
variable {P : Program} {w : World}
theorem r_under {t : TypeId} {d : TypeDesc} (h : P.underlying t = some d) : (underlying t).run P w = .ok d w := by simp [underlying, h]
theorem r_info {t : TypeId} {i : TypeInfo} (h : P.info? t = some i) : (typeInfo t).run P w = .ok i w := by simp [typeInfo, h]
theorem r_size {t : TypeId} {i : TypeInfo} (h : P.info? t = some i) : (sizeOf t).run P w = .ok i.size w := by simp [sizeOf, r_info h]
theorem r_zero {t : TypeId} {i : TypeInfo} {z : Value} (h : P.info? t = some i) (hz : i.zero = some z) : (zeroValue t).run P w = .ok z w := by simp [zeroValue, r_info h, hz]
end

/-- is a type of structs or arrays? -/
def agOf (P : Program) (t : TypeId) : Option Bool :=
  match P.underlying t with
  | some (.struct _) => some true
  | some (.array _ _) => some true
  | some _ => some false
  | none => none

def szOf (P : Program) (t : TypeId) : Option Nat :=
  match P.info? t with
  | some i => some i.size
  | none => none

/-- a type of so many cells; a struct or an array, or not -/
def okTy (P : Program) (t : TypeId) (ag : Bool) (n : Nat) : Bool :=
  szOf P t == some n && agOf P t == some ag && (ag || n == 1)

theorem r_isAgg {P : Program} {w : World} {t : TypeId} {b : Bool} (h : agOf P t = some b) : (isAgg t).run P w = .ok b w := by
  unfold agOf at h
  split at h <;> simp at h <;> subst h <;> (rename_i hu)
  · simp [isAgg, r_under hu]
  · simp [isAgg, r_under hu]
  · rename_i d hd h1 h2
    simp only [isAgg, Sem.run_bind, r_under hu, Result.andThen_ok]
    cases hd <;> first | rfl | exact absurd rfl (h1 _) | exact absurd rfl (h2 _ _)

theorem okTy_spec {P : Program} {t : TypeId} {ag : Bool} {n : Nat} (h : okTy P t ag n = true) :
    (∃ i, P.info? t = some i ∧ i.size = n) ∧ agOf P t = some ag ∧ (ag = false → n = 1) := by
  simp only [okTy, Bool.and_eq_true, beq_iff_eq, Bool.or_eq_true] at h
  obtain ⟨⟨h1, h2⟩, h3⟩ := h
  refine ⟨?_, h2, fun h => by simpa [h] using h3⟩
  unfold szOf at h1
  split at h1
  · rename_i i hi; exact ⟨i, hi, by simpa using h1⟩
  · simp at h1

/-! ### what stands for what -/
section inv
variable {I : Nat → Nat → Prop} {g : Gh} {H : Heap} {w : World}
theorem DRel.pure {v : PV} {rv : Value} (h : DRel g H w (.p v) rv) : PRel g.I w v rv := by cases h; assumption
theorem PRel.int_inv {k : IntKind} {n : Int} {rv : Value} (h : PRel I w (.int k n) rv) : rv = .int k n := by cases h; rfl
theorem PRel.bool_inv {b : Bool} {rv : Value} (h : PRel I w (.bool b) rv) : rv = .bool b := by cases h; rfl
theorem PRel.str_inv {l : List Nat} {rv : Value} (h : PRel I w (.str l) rv) : ∃ s : ByteArray, rv = .string s ∧ l = s.data.toList.map UInt8.toNat := by
  cases h with | str s l hl => exact ⟨s, rfl, hl⟩
theorem DRel.int {k : IntKind} {n : Int} {rv : Value} (h : DRel g H w (.p (.int k n)) rv) : rv = .int k n := h.pure.int_inv
theorem DRel.bool {b : Bool} {rv : Value} (h : DRel g H w (.p (.bool b)) rv) : rv = .bool b := h.pure.bool_inv
theorem DRel.str {l : List Nat} {rv : Value} (h : DRel g H w (.p (.str l)) rv) : ∃ s : ByteArray, rv = .string s ∧ l = s.data.toList.map UInt8.toNat := h.pure.str_inv
theorem DRel.undef_inv {rv : Value} (h : DRel g H w (.p .undef) rv) : rv = Go.undef := by have := h.pure; cases this; rfl
theorem PRel.mkStr (s : ByteArray) : PRel I w (.str (s.data.toList.map UInt8.toNat)) (.string s) := .str s _ rfl

theorem asNat_inv {x : DV} {n : Nat} (h : asNat x = some n) : ∃ k m, x = .p (.int k m) ∧ 0 ≤ m ∧ n = m.toNat := by
  unfold asNat at h
  split at h
  · split at h
    · rename_i k m hm; exact ⟨k, m, rfl, hm, by simpa using h.symm⟩
    · simp at h
  · simp at h

/-- what stands in a cell is no struct -/
theorem PRel.cell {v : PV} {rv : Value} (h : PRel I w v rv) (hc : isCellP v = true) : rv.oneCell' = true ∧ rv.cells = #[rv] := by
  cases h <;> first | (simp [isCellP] at hc; done) | exact ⟨rfl, rfl⟩
theorem DRel.cell {v : DV} {rv : Value} (h : DRel g H w v rv) (hc : isCell v = true) : rv.oneCell' = true ∧ rv.cells = #[rv] := by
  cases h with
  | p v rv h => exact h.cell hc
  | agg => simp [isCell] at hc
  | tup => simp [isCell] at hc
  | _ => exact ⟨rfl, rfl⟩
end inv

/-- the values of a value's cells -/
theorem okCells_mem : ∀ {l : List DV}, okCells l = true → ∀ c ∈ l, isCell c = true
  | [], _, c, hc => by simp at hc
  | x :: r, h, c, hc => by
    simp only [okCells, Bool.and_eq_true] at h
    rcases List.mem_cons.1 hc with rfl | hc
    · exact h.1
    · exact okCells_mem h.2 c hc
theorem okCells_of : ∀ {l : List DV}, (∀ c ∈ l, isCell c = true) → okCells l = true
  | [], _ => rfl
  | x :: r, h => by
    have h1 : okCells r = true := okCells_of fun c hc => h c (List.mem_cons_of_mem _ hc)
    simp only [okCells, h x (List.mem_cons_self ..), h1, Bool.and_self]

theorem cellsD_p (v : PV) : cellsD (.p v) = (cellsP v).map .p := by cases v <;> simp [cellsD, cellsP]

theorem DRel.cells {g : Gh} {H : Heap} {w : World} {v : DV} {rv : Value} (h : DRel g H w v rv) (hc : okCells (cellsD v) = true) :
    rv.cells.size = (cellsD v).length ∧ (∀ (k : Nat) (c : DV), (cellsD v)[k]? = some c → ∃ rc, rv.cells[k]? = some rc ∧ DRel g H w c rc ∧ rc.oneCell' = true) := by
  have hk := okCells_mem hc
  have key : ∀ {v rv}, DRel g H w v rv → cellsD v = [v] → isCell v = true → rv.cells.size = (cellsD v).length ∧ (∀ (k : Nat) (c : DV), (cellsD v)[k]? = some c → ∃ rc, rv.cells[k]? = some rc ∧ DRel g H w c rc ∧ rc.oneCell' = true) := by
    intro v rv h hv hcell
    obtain ⟨h1, h2⟩ := h.cell hcell
    rw [hv, h2]
    refine ⟨by simp, fun k c hk => ?_⟩
    cases k with
    | zero => simp at hk; subst hk; exact ⟨rv, by simp, h, h1⟩
    | succ k => simp at hk
  have hd := h
  cases h with
  | p v rv h =>
    cases h with
    | agg cs vs hk' hl h =>
      simp only [cellsD, List.length_map]
      refine ⟨by simpa [Value.cells] using hl.symm, fun k c hc => ?_⟩
      simp only [List.getElem?_map, Option.map_eq_some_iff] at hc
      obtain ⟨c', h1, rfl⟩ := hc
      have hlt : k < cs.length := (List.getElem?_eq_some_iff.1 h1).1
      have hlt' : k < vs.size := by omega
      refine ⟨vs[k], by simp [Value.cells, hlt'], .p _ _ (h k c' _ h1 (by simp [hlt'])), ((h k c' _ h1 (by simp [hlt'])).cell (hk' c' (List.mem_of_getElem? h1))).1⟩
    | _ => exact key hd rfl (hk _ (by simp [cellsD]))
  | agg cs vs hk' hl h =>
    simp only [cellsD]
    refine ⟨by simpa [Value.cells] using hl.symm, fun k c hc => ?_⟩
    have hlt : k < cs.length := (List.getElem?_eq_some_iff.1 hc).1
    have hlt' : k < vs.size := by omega
    refine ⟨vs[k], by simp [Value.cells, hlt'], h k c _ hc (by simp [hlt']), ((h k c _ hc (by simp [hlt'])).cell (hk' c (List.mem_of_getElem? hc))).1⟩
  | tup cs vs hl h => simp [cellsD, okCells, isCell] at hc
  | _ => exact key hd rfl rfl

/-- a struct out of cells -/
theorem mkAgg_rel {g : Gh} {H : Heap} {w : World} {cs : List DV} {vs : Array Value} (hk : ∀ c ∈ cs, isCell c = true) (hl : cs.length = vs.size)
    (h : ∀ (i : Nat) (c : DV) (v : Value), cs[i]? = some c → vs[i]? = some v → DRel g H w c v) : DRel g H w (mkAgg cs) (.agg vs) := by
  unfold mkAgg
  cases hu : unps cs with
  | none => exact .agg cs vs hk hl h
  | some l =>
    obtain rfl := unps_some hu
    refine .p _ _ (.agg l vs (fun c hc => hk (.p c) (List.mem_map.2 ⟨c, hc, rfl⟩)) (by simpa using hl) fun i c v hi hv => ?_)
    exact (h i (.p c) v (by simp [hi]) hv).pure
theorem mkTup_rel {g : Gh} {H : Heap} {w : World} {cs : List DV} {vs : Array Value} (hl : cs.length = vs.size)
    (h : ∀ (i : Nat) (c : DV) (v : Value), cs[i]? = some c → vs[i]? = some v → DRel g H w c v) : DRel g H w (mkTup cs) (.tuple vs) := by
  unfold mkTup
  cases hu : unps cs with
  | none => exact .tup cs vs hl h
  | some l =>
    obtain rfl := unps_some hu
    exact .p _ _ (.tup l vs (by simpa using hl) fun i c v hi hv => (h i (.p c) v (by simp [hi]) hv).pure)
theorem mkFn_rel {g : Gh} {H : Heap} {w : World} {f : Nat} {cs : List DV} {vs : Array Value} (hl : cs.length = vs.size)
    (h : ∀ (i : Nat) (c : DV) (v : Value), cs[i]? = some c → vs[i]? = some v → DRel g H w c v) : DRel g H w (mkFn f cs) (.func (.func (rid f)) #[] vs) := by
  unfold mkFn
  cases hu : unps cs with
  | none => exact .fn f cs vs hl h
  | some l =>
    obtain rfl := unps_some hu
    exact .p _ _ (.fn f l vs (by simpa using hl) fun i c v hi hv => (h i (.p c) v (by simp [hi]) hv).pure)

/-- a value out of its cells -/
theorem valOf_rel {g : Gh} {H : Heap} {w : World} {ag : Bool} {cs : List DV} {vs : Array Value} {v : DV} (hv : valOf ag cs = some v)
    (hk : ∀ c ∈ cs, isCell c = true) (hl : cs.length = vs.size)
    (h : ∀ (i : Nat) (c : DV) (v : Value), cs[i]? = some c → vs[i]? = some v → DRel g H w c v) :
    if ag then DRel g H w v (.agg vs) else ∃ rv, vs = #[rv] ∧ DRel g H w v rv := by
  cases ag with
  | true => simp only [valOf, if_true, Option.some.injEq] at hv; subst hv; exact mkAgg_rel hk hl h
  | false =>
    simp only [valOf, Bool.false_eq_true, if_false] at hv
    split at hv
    · rename_i c; simp at hv; subst hv
      have : vs.size = 1 := by simpa using hl.symm
      refine ⟨vs[0], by ext i h1 h2; · simp [this]
                        · simp at h2; subst h2; rfl, h 0 c _ (by simp) (by simp [this])⟩
    · simp at hv

/-! ### scalars -/
theorem toNat_beq : ∀ (a b : List UInt8), (a == b) = eqBytes (a.map UInt8.toNat) (b.map UInt8.toNat)
  | [], [] => rfl
  | [], _ :: _ => rfl
  | _ :: _, [] => rfl
  | a :: x, b :: y => by
    simp only [List.map_cons, eqBytes, ← toNat_beq x y]
    have : (a == b) = (a.toNat == b.toNat) := by
      rw [Bool.eq_iff_iff]; simp [UInt8.toNat_inj]
    rw [← this]; rfl
theorem bytes_beq (a b : ByteArray) : (a.toList == b.toList) = eqBytes (a.data.toList.map UInt8.toNat) (b.data.toList.map UInt8.toNat) := by
  rw [ByteArray.toList_eq, ByteArray.toList_eq, toNat_beq]
theorem toNat_less : ∀ (a b : List UInt8), Op.bytesLess a b = ltBytes (a.map UInt8.toNat) (b.map UInt8.toNat)
  | [], [] => rfl
  | [], _ :: _ => rfl
  | _ :: _, [] => rfl
  | a :: x, b :: y => by
    simp only [List.map_cons, ltBytes, Op.bytesLess, toNat_less x y]
    have h1 : (a == b) = (a.toNat == b.toNat) := by
      rw [Bool.eq_iff_iff]; simp [UInt8.toNat_inj]
    have h2 : (a < b) ↔ (a.toNat < b.toNat) := UInt8.lt_iff_toNat_lt
    rw [h1]
    by_cases h : a.toNat < b.toNat
    · simp [h2, h]
    · simp only [h2, h, if_false, decide_false, Bool.false_or]
      by_cases e : (a.toNat == b.toNat) = true
      · simp [e]
      · simp [e]


section scal
variable {P : Program} {I : Nat → Nat → Prop} {g : Gh} {H : Heap} {w : World}
theorem eqScal_int {k k' : IntKind} {a b : Int} {r : Bool} (h : eqScal (.int k a) (.int k' b) = some r) : k = k' ∧ r = (a == b) := by
  simp only [eqScal] at h; split at h
  · rename_i e; exact ⟨e, by simpa using h.symm⟩
  · simp at h

theorem s_intBin {op : BinOp} {k : IntKind} {a b : Int} {v : PV} (t : TypeId) (h : intBin op k a b = some v) (hs : op ≠ .shl ∧ op ≠ .shr) :
    ∃ rv, (Go.binOp op t (.int k a) (.int k b)).run P w = .ok rv w ∧ PRel I w v rv := by
  have hb : (a != b) = !(a == b) := rfl
  cases op <;> simp only [intBin] at h <;> first
    | (exact absurd rfl hs.1)
    | (exact absurd rfl hs.2)
    | (obtain rfl := Option.some.inj h; refine ⟨_, by simp only [Go.binOp, ne_eq, not_true_eq_false, if_false, Op.intArith, Op.intBits, Op.intCmp]; exact Sem.run_pure .., ?_⟩; exact .int _ _)
    | (obtain rfl := Option.some.inj h; refine ⟨_, by simp only [Go.binOp, ne_eq, not_true_eq_false, if_false, Op.intArith, Op.intBits, Op.intCmp]; exact Sem.run_pure .., ?_⟩; exact .bool _)
    | (split at h
       · simp at h
       · rename_i hz
         obtain rfl := Option.some.inj h; refine ⟨_, by simp only [Go.binOp, ne_eq, not_true_eq_false, if_false, Op.intDiv, if_neg hz]; exact Sem.run_pure .., ?_⟩; exact .int _ _)

theorem s_shift {op : BinOp} {k k' : IntKind} {a b : Int} {v : PV} (t : TypeId) (h : shiftPV op k a b = some v) (hs : op = .shl ∨ op = .shr) :
    ∃ rv, (Go.binOp op t (.int k a) (.int k' b)).run P w = .ok rv w ∧ PRel I w v rv := by
  unfold shiftPV at h
  split at h
  · simp at h
  · rename_i hb
    rcases hs with rfl | rfl
    · obtain rfl := Option.some.inj h
      refine ⟨_, by simp only [Go.binOp, Op.shift, if_neg hb]; exact Sem.run_pure .., .int _ _⟩
    · obtain rfl := Option.some.inj h
      refine ⟨_, by simp only [Go.binOp, Op.shift, if_neg hb]; exact Sem.run_pure .., .int _ _⟩

theorem map_toNat_append (a b : ByteArray) : (a ++ b).data.toList.map UInt8.toNat = a.data.toList.map UInt8.toNat ++ b.data.toList.map UInt8.toNat := by
  rw [← List.map_append]
  simp [ByteArray.data_append]

theorem s_strBin {op : BinOp} {a b : ByteArray} {v : PV} (t : TypeId) (h : strBin op (a.data.toList.map UInt8.toNat) (b.data.toList.map UInt8.toNat) = some v) :
    ∃ rv, (Go.binOp op t (.string a) (.string b)).run P w = .ok rv w ∧ PRel I w v rv := by
  have he := bytes_beq a b
  have hl : Op.bytesLess a.toList b.toList = ltBytes (a.data.toList.map UInt8.toNat) (b.data.toList.map UInt8.toNat) := by
    rw [ByteArray.toList_eq, ByteArray.toList_eq, toNat_less]
  cases op <;> simp only [strBin] at h <;> first
    | (simp at h; done)
    | (obtain rfl := Option.some.inj h; refine ⟨_, by simp only [Go.binOp, Op.stringOp]; exact Sem.run_pure .., ?_⟩; simp only [he, hl]; exact .bool _)
    | (split at h
       · rename_i hz
         obtain rfl := Option.some.inj h
         refine ⟨.string (a ++ b), ?_, .str _ _ (map_toNat_append a b).symm⟩
         have : ¬ ((a.size + b.size : Nat) : Int) > IntKind.i64.max := by
           have h1 : a.data.toList.length = a.size := Array.length_toList
           have h2 : b.data.toList.length = b.size := Array.length_toList
           simp only [List.length_map, h1, h2, maxStr] at hz
           have h3 : IntKind.i64.max = 9223372036854775807 := by decide
           omega
         simp only [Go.binOp, Op.stringOp, if_neg this]
         exact Sem.run_pure ..
       · simp at h)

theorem s_un {op : UnOp} {a v : PV} {ra : Value} (h : unPV op a = some v) (hr : PRel I w a ra) : ∃ rv, (Op.unary op ra).run P w = .ok rv w ∧ PRel I w v rv := by
  cases a with
  | int k n =>
    obtain rfl := hr.int_inv
    cases op <;> simp only [unPV] at h <;> first
      | (simp at h; done)
      | (obtain rfl := Option.some.inj h; exact ⟨_, rfl, .int _ _⟩)
  | bool b =>
    obtain rfl := hr.bool_inv
    cases op <;> simp only [unPV] at h <;> first
      | (simp at h; done)
      | (obtain rfl := Option.some.inj h; exact ⟨_, rfl, .bool _⟩)
  | _ => simp [unPV] at h
end scal

end Go.Lv

/- Operations, one by one: what reads memory, and addresses. -/
namespace Go.Lv
set_option linter.unusedVariables false
set_option linter.unusedSimpArgs false
variable {P : Program} {g : Gh} {H : Heap} {w : World}

theorem add_eq {a : Addr} (hs : a.spot = none) (k : Nat) : a.add k = ⟨a.block, a.off + k, none⟩ := by
  unfold Addr.add
  split
  · rename_i e; subst e; cases a; simp_all
  · rfl

theorem r_load {a : Addr} {m : Go.Mode} {v : Value} (h : w.cell? a = some v) : (load a m).run P w = .ok v w := by simp [h]

theorem r_loadCellsFrom {a : Addr} (hs : a.spot = none) (f : Nat → Value) : ∀ (n i : Nat) (acc : Array Value),
    (∀ k, k < n → w.cell? ⟨a.block, a.off + (i + k), none⟩ = some (f (i + k))) →
    (loadCellsFrom a i n acc).run P w = .ok (acc ++ ((List.range n).map fun k => f (i + k)).toArray) w
  | 0, i, acc, h => by simp [loadCellsFrom]
  | n + 1, i, acc, h => by
    have h0 := h 0 (by omega)
    rw [Nat.add_zero] at h0
    simp only [loadCellsFrom, Sem.run_bind, add_eq hs, r_load h0, Result.andThen_ok]
    rw [r_loadCellsFrom hs f n (i + 1) _ (fun k hk => by have := h (k + 1) (by omega); rw [show i + 1 + k = i + (k + 1) by omega]; exact this)]
    congr 1
    rw [List.range_succ_eq_map]
    simp [Function.comp_def, Nat.add_assoc, Nat.add_comm 1]

theorem r_loadCells {a : Addr} (hs : a.spot = none) (f : Nat → Value) (n : Nat) (h : ∀ k, k < n → w.cell? ⟨a.block, a.off + k, none⟩ = some (f k)) :
    (loadCells a n).run P w = .ok ((List.range n).map f).toArray w := by
  unfold loadCells
  rw [r_loadCellsFrom hs f n 0 #[] (fun k hk => by simpa using h k hk)]
  simp

/-- cells at an address, and what they stand for -/
def At (g : Gh) (H : Heap) (w : World) (a : Addr) (l : List DV) : Prop :=
  a.spot = none ∧ ∀ (k : Nat) (c : DV), l[k]? = some c → isCell c = true ∧ ∃ rv, w.cell? ⟨a.block, a.off + k, none⟩ = some rv ∧ DRel g H w c rv

theorem At.vals {a : Addr} {l : List DV} (h : At g H w a l) : ∃ vs : Array Value, vs.size = l.length ∧ (∀ k, k < l.length → w.cell? ⟨a.block, a.off + k, none⟩ = vs[k]?) ∧
    (∀ (k : Nat) (c : DV) (v : Value), l[k]? = some c → vs[k]? = some v → DRel g H w c v) ∧ (∀ c ∈ l, isCell c = true) ∧
    (loadCells a l.length).run P w = .ok vs w := by
  let f : Nat → Value := fun k => (w.cell? ⟨a.block, a.off + k, none⟩).getD Go.undef
  have hf : ∀ k, k < l.length → w.cell? ⟨a.block, a.off + k, none⟩ = some (f k) := fun k hk => by
    obtain ⟨_, rv, h1, _⟩ := h.2 k l[k] (by simp [hk])
    simp only [f, h1, Option.getD_some]
  refine ⟨((List.range l.length).map f).toArray, by simp, fun k hk => ?_, fun k c v hc hv => ?_, fun c hc => ?_, r_loadCells h.1 f _ hf⟩
  · rw [hf k hk]; simp [hk]
  · have hk : k < l.length := (List.getElem?_eq_some_iff.1 hc).1
    obtain ⟨_, rv, h1, h2⟩ := h.2 k c hc
    have := hf k hk
    rw [h1] at this
    simp [hk] at hv
    rw [← hv, ← Option.some.inj this]; exact h2
  · obtain ⟨k, hk⟩ := List.getElem?_of_mem hc
    exact (h.2 k c hk).1

theorem s_loadAt {t : TypeId} {ag : Bool} {n : Nat} {a : Addr} {l : List DV} {v : DV} (hty : okTy P t ag n = true) (ha : At g H w a l) (hl : l.length = n) (hv : valOf ag l = some v) :
    ∃ rv, (loadVar t a).run P w = .ok rv w ∧ DRel g H w v rv := by
  obtain ⟨⟨i, hi, hn⟩, hag, h1⟩ := okTy_spec hty
  obtain ⟨vs, hs, hc, hr, hk, hrun⟩ := ha.vals (P := P)
  have hval := valOf_rel hv hk hs.symm hr
  cases ag with
  | true =>
    refine ⟨.agg vs, ?_, by simpa using hval⟩
    simp only [loadVar, Sem.run_bind, r_isAgg hag, Result.andThen_ok, if_true, r_size hi, hn, ← hl, hrun, Sem.run_pure]
  | false =>
    simp only [Bool.false_eq_true, if_false] at hval
    obtain ⟨rv, rfl, hd⟩ := hval
    refine ⟨rv, ?_, hd⟩
    simp only [loadVar, Sem.run_bind, r_isAgg hag, Result.andThen_ok, Bool.false_eq_true, if_false]
    have hl1 : l.length = 1 := by rw [hl]; exact h1 rfl
    have h0 := hc 0 (by omega)
    have h2 : w.cell? a = some rv := by
      have h3 : (⟨a.block, a.off + 0, none⟩ : Addr) = a := by cases a; have := ha.1; simp_all
      rw [h3] at h0; simpa using h0
    exact r_load h2

/-- what a pointer leads to -/
theorem ptr_at {b i o : Nat} {rx : Value} {k : Blk} {gr ag : Bool} {z : Nat} {els : List (List DV)} {cs : List DV} {n : Nat} (hr : Rel g H w) (h : DRel g H w (.ptr b i o) rx)
    (hb : H[b]? = some (.vec gr ag z els)) (hi : els[i]? = some cs) (hl : ((cs.drop o).take n).length = n) :
    ∃ a, rx = .pointer (some a) ∧ At g H w a ((cs.drop o).take n) := by
  obtain ⟨R, hφ, hR, hblk⟩ := hr.blk b _ hb trivial
  obtain ⟨_, hlen, hcell, hI⟩ := hblk
  have hcs := hlen i cs hi
  have hon : o + n ≤ cs.length ∨ n = 0 := by
    simp only [List.length_take, List.length_drop] at hl; omega
  have base : ∀ (k : Nat) (c : DV), ((cs.drop o).take n)[k]? = some c → k < n ∧ o + k < z ∧ isCell c = true ∧ ∃ rv, w.cell? ⟨R, i * z + o + k, none⟩ = some rv ∧ DRel g H w c rv := by
    intro k c hk
    have hkn : k < n := by
      have := (List.getElem?_eq_some_iff.1 hk).1
      simp only [List.length_take] at this; omega
    rw [List.getElem?_take, if_pos hkn, List.getElem?_drop] at hk
    have hlt : o + k < cs.length := (List.getElem?_eq_some_iff.1 hk).1
    obtain ⟨rv, h1, h2⟩ := hcell i cs (o + k) c hi hk
    exact ⟨hkn, by omega, hcs.2 c (List.mem_of_getElem? hk), rv, by rw [← h1, Nat.add_assoc], h2⟩
  cases h with
  | dptr b i o A h => rw [hb] at h; simp at h
  | fptr b i o R' z' ag' els' hH hφ' =>
    rw [hb] at hH
    simp only [Option.some.injEq, Blk.vec.injEq] at hH
    obtain ⟨rfl, rfl, rfl, rfl⟩ := hH
    rw [hφ] at hφ'; obtain rfl := Option.some.inj hφ'
    exact ⟨_, rfl, rfl, fun k c hk => ⟨(base k c hk).2.2.1, (base k c hk).2.2.2⟩⟩
  | gptr b i o R' z' A ag' els' hH hφ' hs hi' hc =>
    rw [hb] at hH
    simp only [Option.some.injEq, Blk.vec.injEq] at hH
    obtain ⟨rfl, rfl, rfl, rfl⟩ := hH
    rw [hφ] at hφ'; obtain rfl := Option.some.inj hφ'
    refine ⟨A, rfl, hs, fun k c hk => ?_⟩
    obtain ⟨h1, h2, h3, rv, h4, h5⟩ := base k c hk
    exact ⟨h3, rv, by rw [(hc k (by omega)).2, h4], h5⟩

theorem cptr_at {v : PV} {rx : Value} (h : DRel g H w (.p (.cptr v)) rx) : ∃ a, rx = .pointer (some a) ∧ At g H w a ((cellsP v).map .p) ∧ ∀ k, k < (cellsP v).length → g.I a.block (a.off + k) := by
  have := h.pure
  cases this with
  | cptr v A r hs hk hc hh =>
    refine ⟨A, rfl, ⟨hs, fun k c hc' => ?_⟩, fun k hk => (hc k hk).1⟩
    simp only [List.getElem?_map, Option.map_eq_some_iff] at hc'
    obtain ⟨c', h1, rfl⟩ := hc'
    exact ⟨hk c' (List.mem_of_getElem? h1), r k, (hc k (List.getElem?_eq_some_iff.1 h1).1).2, .p _ _ (hh k c' h1)⟩

theorem valOf_cells {ag : Bool} {v : PV} (h : isAggP v = ag) : valOf ag ((cellsP v).map .p) = some (.p v) := by
  cases ag with
  | true =>
    cases v <;> simp [isAggP] at h
    simp [valOf, cellsP, mkAgg, unps_map]
  | false => cases v <;> first | (simp [isAggP] at h; done) | rfl

theorem s_load {t : TypeId} {ag : Bool} {n : Nat} {x v : DV} {rx : Value} (hty : okTy P t ag n = true) (hr : Rel g H w) (h : DRel g H w x rx) (hv : loadDV H ag n x = some v) :
    ∃ rv, (Instr.loadAt t rx).run P w = .ok rv w ∧ DRel g H w v rv := by
  unfold loadDV at hv
  split at hv
  · rename_i b i o
    split at hv
    · rename_i gr ag' z els hb
      split at hv
      · rename_i cs hcs
        rw [getN_eq] at hb hcs
        simp only [takeN_eq, dropN_eq] at hv
        split at hv
        · rename_i hl
          obtain ⟨a, rfl, hat⟩ := ptr_at (k := .dead) hr h hb hcs hl
          obtain ⟨rv, h1, h2⟩ := s_loadAt hty hat hl hv
          exact ⟨rv, by simpa [Instr.loadAt, Instr.sureAddr] using h1, h2⟩
        · simp at hv
      · simp at hv
    · simp at hv
  · rename_i x
    split at hv
    · rename_i hc
      obtain rfl := Option.some.inj hv
      obtain ⟨a, rfl, hat, _⟩ := cptr_at h
      obtain ⟨rv, h1, h2⟩ := s_loadAt hty hat (by simpa using hc.1) (valOf_cells hc.2)
      exact ⟨rv, by simpa [Instr.loadAt, Instr.sureAddr] using h1, h2⟩
    · simp at hv
  · simp at hv

/-! ### addresses -/

/-- a constant pointer to a part -/
theorem cptr_part {v : PV} {rx : Value} {off n : Nat} {ag : Bool} {u : PV} (h : DRel g H w (.p (.cptr v)) rx) (hv : valOfP ag (((cellsP v).drop off).take n) = some u)
    (hl : (((cellsP v).drop off).take n).length = n) :
    ∃ a, rx = .pointer (some a) ∧ a.spot = none ∧ DRel g H w (.p (.cptr u)) (.pointer (some (a.add off))) := by
  have := h.pure
  cases this with
  | cptr v A r hs hk hc hh =>
    refine ⟨A, rfl, hs, .p _ _ ?_⟩
    have hcu : cellsP u = ((cellsP v).drop off).take n := by
      unfold valOfP at hv
      split at hv
      · obtain rfl := Option.some.inj hv; rfl
      · split at hv
        · rename_i c hc'
          obtain rfl := Option.some.inj hv
          have : isCellP c = true := hk c (by
            have : c ∈ ((cellsP v).drop off).take n := by rw [hc']; simp
            exact List.mem_of_mem_drop (List.mem_of_mem_take this))
          rw [hc']
          cases c <;> first | rfl | simp [isCellP] at this
        · simp at hv
    have look : ∀ (k : Nat) (c : PV), (cellsP u)[k]? = some c → (cellsP v)[off + k]? = some c := fun k c hk' => by
      rw [hcu, List.getElem?_take] at hk'
      split at hk'
      · rwa [List.getElem?_drop] at hk'
      · simp at hk'
    rw [add_eq hs]
    refine .cptr u _ (fun k => r (off + k)) rfl (fun c hc' => ?_) (fun k hk' => ?_) fun k c hk' => hh (off + k) c (look k c hk')
    · rw [hcu] at hc'; exact hk c (List.mem_of_mem_drop (List.mem_of_mem_take hc'))
    · have h1 := look k (cellsP u)[k] (by simp [hk'])
      have := hc (off + k) (List.getElem?_eq_some_iff.1 h1).1
      simpa [Nat.add_assoc] using this

theorem ptr_add {b i o off : Nat} {rx : Value} (h : DRel g H w (.ptr b i o) rx) :
    ∃ a, rx = .pointer (some a) ∧ DRel g H w (.ptr b i (o + off)) (.pointer (some (a.add off))) := by
  cases h with
  | dptr b i o A h => exact ⟨A, rfl, .dptr b i _ _ h⟩
  | fptr b i o R z ag els hH hφ =>
    refine ⟨_, rfl, ?_⟩
    rw [add_eq rfl]
    have := DRel.fptr (g := g) (w := w) b i (o + off) R z ag els hH hφ
    rwa [← Nat.add_assoc] at this
  | gptr b i o R z A ag els hH hφ hs hi hc =>
    refine ⟨A, rfl, ?_⟩
    rw [add_eq hs]
    refine .gptr b i (o + off) R z _ ag els hH hφ rfl hi fun m hm => ?_
    have := hc (off + m) (by omega)
    simpa [Nat.add_assoc] using this

/-- a field's place -/
theorem r_fieldAt {s : TypeId} {fields : Array Field} {f : Nat} {fd : Field} {a : Addr} {i : TypeInfo} (hs : P.underlying s = some (.struct fields)) (hf : fields[f]? = some fd)
    (hi : P.info? fd.type = some i) (hz : i.size ≠ 0) : (Instr.fieldAt s (.pointer (some a)) f).run P w = .ok (.pointer (some (a.add fd.offset))) w := by
  simp [Instr.fieldAt, r_under hs, hf, Instr.sureAddr, fieldPlace, r_size hi, hz]

theorem s_fieldAt {s : TypeId} {fields : Array Field} {f : Nat} {fd : Field} {ag : Bool} {n : Nat} {x v : DV} {rx : Value} (hs : P.underlying s = some (.struct fields)) (hf : fields[f]? = some fd)
    (hty : okTy P fd.type ag n = true) (hn : n ≠ 0) (h : DRel g H w x rx) (hv : fieldDV fd.offset n ag x = some v) :
    ∃ rv, (Instr.fieldAt s rx f).run P w = .ok rv w ∧ DRel g H w v rv := by
  obtain ⟨⟨i, hi, hin⟩, hag, h1⟩ := okTy_spec hty
  unfold fieldDV at hv
  split at hv
  · obtain rfl := Option.some.inj hv
    obtain ⟨a, rfl, hd⟩ := ptr_add (off := fd.offset) h
    exact ⟨_, r_fieldAt hs hf hi (by omega), hd⟩
  · rename_i cs
    simp only [takeN_eq, dropN_eq] at hv
    split at hv
    · rename_i hl
      split at hv
      · rename_i u hu
        obtain rfl := Option.some.inj hv
        obtain ⟨a, rfl, _, hd⟩ := cptr_part (v := .agg cs) (off := fd.offset) (n := n) (ag := ag) (u := u) h (by simpa [cellsP] using hu) (by simpa [cellsP] using hl)
        exact ⟨_, r_fieldAt hs hf hi (by omega), hd⟩
      · simp at hv
    · simp at hv
  · simp at hv

theorem asNat_rel {i : DV} {ri : Value} {j : Nat} (h : DRel g H w i ri) (hj : asNat i = some j) : ∃ k m, ri = .int k m ∧ 0 ≤ m ∧ j = m.toNat := by
  obtain ⟨k, m, rfl, h0, h1⟩ := asNat_inv hj
  exact ⟨k, m, h.int, h0, h1⟩

theorem mul_le_of_lt {j n z : Nat} (h : j < n) : j * z + z ≤ n * z := by
  have := Nat.mul_le_mul_right z (show j + 1 ≤ n from h)
  rw [Nat.add_mul, Nat.one_mul] at this; exact this

/-- the address of an element of a slice -/
theorem s_indexSl {t e : TypeId} {esz : Nat} {x i v : DV} {rx ri : Value} {inf : TypeInfo} (ht : P.underlying t = some (.slice e)) (hi : P.info? e = some inf) (hsz : inf.size = esz)
    (hr : Rel g H w) (hx : DRel g H w x rx) (hix : DRel g H w i ri) (hv : indexDV H esz x i = some v) : ∃ rv, (Instr.indexAt t rx ri).run P w = .ok rv w ∧ DRel g H w v rv := by
  unfold indexDV at hv
  split at hv
  · simp at hv
  · rename_i j hj
    obtain ⟨k, m, rfl, h0, hm⟩ := asNat_rel hix hj
    have go : ∀ (A : Addr) (len cap : Nat), rx = .slice (some A) len cap → j < len → (Instr.indexAt t rx (.int k m)).run P w = .ok (.pointer (some (A.add (j * esz)))) w := by
      intro A len cap hrx hlt
      subst hrx
      have h2 : 0 ≤ m ∧ m < (len : Int) := ⟨h0, by omega⟩
      simp [Instr.indexAt, asIntOf, r_under ht, h2, r_size hi, hsz, ← hm]
    split at hv
    · rename_i xs
      rw [getN_eq] at hv
      split at hv
      · rename_i u hu
        split at hv
        · rename_i hc
          obtain rfl := Option.some.inj hv
          have := hx.pure
          cases this with
          | isl xs n A cap sz r hn hs hcap hszz hcc hh =>
            have hlt : j < xs.length := (List.getElem?_eq_some_iff.1 hu).1
            have hz : sz = esz := by rw [← (hszz j u hu).1, hc]
            subst hz
            refine ⟨_, go A n cap rfl (by omega), ?_⟩
            rw [add_eq hs]
            exact .p _ _ (.cptr u _ (fun q => r j q) rfl (hszz j u hu).2 (fun q hq => hcc j q hlt (by omega)) fun q c hq => hh j u q c hu hq)
        · simp at hv
      · simp at hv
    · rename_i b off len
      rw [getN_eq] at hv
      split at hv
      · rename_i gr ag z els hb
        split at hv
        · rename_i hc
          obtain rfl := Option.some.inj hv
          obtain ⟨hlt, rfl⟩ := hc
          cases hx with
          | dmsl b off len cap A h => rw [hb] at h; simp at h
          | fmsl b off len cap R z' ag' els' hH hφ hbd hcap hc =>
            rw [hb] at hH
            simp only [Option.some.injEq, Blk.vec.injEq] at hH
            obtain ⟨rfl, rfl, rfl, rfl⟩ := hH
            refine ⟨_, go _ len cap rfl hlt, ?_⟩
            rw [add_eq rfl]
            have := DRel.fptr (g := g) (w := w) b (off + j) 0 R z ag els hb hφ
            simpa [Nat.add_mul] using this
          | gmsl b off len cap R z' A ag' els' hH hφ hs hbd hcap hc hf =>
            rw [hb] at hH
            simp only [Option.some.injEq, Blk.vec.injEq] at hH
            obtain ⟨rfl, rfl, rfl, rfl⟩ := hH
            refine ⟨_, go A len cap rfl hlt, ?_⟩
            rw [add_eq hs]
            refine .gptr b (off + j) 0 R z _ ag els hb hφ rfl (by omega) fun q hq => ?_
            have h1 := mul_le_of_lt (z := z) hlt
            have h2 := hc (j * z + q) (by omega)
            rw [← Nat.add_assoc] at h2
            refine ⟨h2.1, h2.2.trans ?_⟩
            congr 2
            rw [Nat.add_mul]; omega
        · simp at hv
      · simp at hv
    · simp at hv

/-- the address of an element of an array -/
theorem s_indexArr {t e : TypeId} {len esz : Nat} {ag : Bool} {x i v : DV} {rx ri : Value} (ht : P.underlying t = some (.array len e)) (hty : okTy P e ag esz = true)
    (hx : DRel g H w x rx) (hix : DRel g H w i ri) (hv : indexArrDV len esz ag x i = some v) : ∃ rv, (Instr.indexAt t rx ri).run P w = .ok rv w ∧ DRel g H w v rv := by
  obtain ⟨⟨inf, hi, hsz⟩, hag, h1⟩ := okTy_spec hty
  unfold indexArrDV at hv
  split at hv
  · simp at hv
  · rename_i j hj
    obtain ⟨k, m, rfl, h0, hm⟩ := asNat_rel hix hj
    split at hv
    · rename_i hlt
      have go : ∀ (A : Addr), rx = .pointer (some A) → (Instr.indexAt t rx (.int k m)).run P w = .ok (.pointer (some (A.add (j * esz)))) w := by
        intro A hrx
        subst hrx
        have h2 : 0 ≤ m ∧ m < (len : Int) := ⟨h0, by omega⟩
        simp [Instr.indexAt, asIntOf, Instr.sureAddr, r_under ht, h2, r_size hi, hsz, ← hm]
      split at hv
      · obtain rfl := Option.some.inj hv
        obtain ⟨a, rfl, hd⟩ := ptr_add (off := j * esz) hx
        exact ⟨_, go a rfl, hd⟩
      · rename_i cs
        simp only [takeN_eq, dropN_eq] at hv
        split at hv
        · rename_i hl
          split at hv
          · rename_i u hu
            obtain rfl := Option.some.inj hv
            obtain ⟨a, rfl, _, hd⟩ := cptr_part (v := .agg cs) (off := j * esz) (n := esz) (ag := ag) (u := u) hx (by simpa [cellsP] using hu) (by simpa [cellsP] using hl)
            exact ⟨_, go a rfl, hd⟩
          · simp at hv
        · simp at hv
      · simp at hv
    · simp at hv

end Go.Lv

/- Operations, one by one: parts of values; what is made anew. -/
namespace Go.Lv
set_option linter.unusedVariables false
set_option linter.unusedSimpArgs false
variable {P : Program} {g : Gh} {H : Heap} {w : World}

/-- a part of cells -/
theorem s_part {t : TypeId} {ag : Bool} {n off : Nat} {cs : List DV} {vs : Array Value} {v : DV} (hty : okTy P t ag n = true) (hk : ∀ c ∈ cs, isCell c = true) (hl : cs.length = vs.size)
    (h : ∀ (i : Nat) (c : DV) (v : Value), cs[i]? = some c → vs[i]? = some v → DRel g H w c v) (hln : ((cs.drop off).take n).length = n) (hv : valOf ag ((cs.drop off).take n) = some v) :
    ∃ rv, (part t vs off).run P w = .ok rv w ∧ DRel g H w v rv := by
  obtain ⟨⟨i, hi, hin⟩, hag, h1⟩ := okTy_spec hty
  have hle : off + n ≤ cs.length ∨ n = 0 := by simp only [List.length_take, List.length_drop] at hln; omega
  have key : ∀ (k : Nat) (c : DV) (v : Value), ((cs.drop off).take n)[k]? = some c → (vs.extract off (off + n))[k]? = some v → DRel g H w c v := by
    intro k c v hc hv
    rw [List.getElem?_take] at hc
    split at hc
    · rw [List.getElem?_drop] at hc
      rw [Array.getElem?_extract] at hv
      split at hv
      · exact h _ c v hc hv
      · simp at hv
    · simp at hc
  have hr := valOf_rel hv (fun c hc => hk c (List.mem_of_mem_drop (List.mem_of_mem_take hc))) (vs := vs.extract off (off + n)) (by rw [hln]; simp; omega) key
  cases ag with
  | true =>
    refine ⟨_, ?_, by simpa using hr⟩
    simp only [part, Sem.run_bind, r_isAgg hag, Result.andThen_ok, if_true, r_size hi, hin, Sem.run_pure]
  | false =>
    simp only [Bool.false_eq_true, if_false] at hr
    obtain ⟨rv, he, hd⟩ := hr
    have hn1 := h1 rfl
    refine ⟨rv, ?_, hd⟩
    have hoff : off < vs.size := by omega
    have : vs[off]? = some rv := by
      have h2 : (vs.extract off (off + n))[0]? = some rv := by rw [he]; rfl
      rw [Array.getElem?_extract] at h2
      split at h2
      · simpa using h2
      · simp at h2
    simp only [part, Sem.run_bind, r_isAgg hag, Result.andThen_ok, Bool.false_eq_true, if_false, this, Sem.run_pure]

theorem valOf_map {ag : Bool} {l : List PV} {v : PV} (h : valOfP ag l = some v) : valOf ag (l.map .p) = some (.p v) := by
  cases ag with
  | true => simp only [valOfP, if_true, Option.some.injEq] at h; subst h; simp [valOf, mkAgg, unps_map]
  | false =>
    simp only [valOfP, Bool.false_eq_true, if_false] at h
    split at h
    · obtain rfl := Option.some.inj h; rfl
    · simp at h

theorem agg_inv {x : DV} {rx : Value} (h : DRel g H w x rx) (hx : (∃ cs, x = .p (.agg cs)) ∨ ∃ cs, x = .agg cs) :
    ∃ vs, rx = .agg vs ∧ (∀ c ∈ cellsD x, isCell c = true) ∧ (cellsD x).length = vs.size ∧ ∀ (i : Nat) (c : DV) (v : Value), (cellsD x)[i]? = some c → vs[i]? = some v → DRel g H w c v := by
  rcases hx with ⟨cs, rfl⟩ | ⟨cs, rfl⟩
  · have := h.pure
    cases this with
    | agg cs vs hk hl hh =>
      refine ⟨vs, rfl, fun c hc => ?_, by simpa [cellsD] using hl, fun i c v hc hv => ?_⟩
      · obtain ⟨c', h1, rfl⟩ := List.mem_map.1 hc; exact hk c' h1
      · simp only [cellsD, List.getElem?_map, Option.map_eq_some_iff] at hc
        obtain ⟨c', h1, rfl⟩ := hc
        exact .p _ _ (hh i c' v h1 hv)
  · cases h with
    | agg cs vs hk hl hh => exact ⟨vs, rfl, hk, hl, hh⟩

theorem s_field {s : TypeId} {fields : Array Field} {f : Nat} {fd : Field} {ag : Bool} {n : Nat} {x v : DV} {rx : Value} (hs : P.underlying s = some (.struct fields)) (hf : fields[f]? = some fd)
    (hty : okTy P fd.type ag n = true) (h : DRel g H w x rx) (hx : (∃ cs, x = .p (.agg cs)) ∨ ∃ cs, x = .agg cs)
    (hl : (((cellsD x).drop fd.offset).take n).length = n) (hv : valOf ag (((cellsD x).drop fd.offset).take n) = some v) :
    ∃ rv, (Instr.field s rx f).run P w = .ok rv w ∧ DRel g H w v rv := by
  obtain ⟨vs, rfl, hk, hln, hh⟩ := agg_inv h hx
  obtain ⟨rv, h1, h2⟩ := s_part hty hk hln hh hl hv
  exact ⟨rv, by simpa [Instr.field, r_under hs, hf, asAgg] using h1, h2⟩

theorem s_indexV {t e : TypeId} {len esz : Nat} {ag : Bool} {x i v : DV} {rx ri : Value} {j : Nat} (ht : P.underlying t = some (.array len e)) (hty : okTy P e ag esz = true)
    (h : DRel g H w x rx) (hx : (∃ cs, x = .p (.agg cs)) ∨ ∃ cs, x = .agg cs) (hix : DRel g H w i ri) (hj : asNat i = some j) (hlt : j < len)
    (hl : (((cellsD x).drop (j * esz)).take esz).length = esz) (hv : valOf ag (((cellsD x).drop (j * esz)).take esz) = some v) :
    ∃ rv, (Instr.index t rx ri).run P w = .ok rv w ∧ DRel g H w v rv := by
  obtain ⟨vs, rfl, hk, hln, hh⟩ := agg_inv h hx
  obtain ⟨k, m, rfl, h0, hm⟩ := asNat_rel hix hj
  obtain ⟨⟨inf, hi, hsz⟩, hag, h1⟩ := okTy_spec hty
  obtain ⟨rv, h2, h3⟩ := s_part hty hk hln hh hl hv
  have h4 : 0 ≤ m ∧ m < (len : Int) := ⟨h0, by omega⟩
  refine ⟨rv, ?_, h3⟩
  simp only [Instr.index, Sem.run_bind, asIntOf, Sem.run_pure, Result.andThen_ok, r_under ht, h4, and_self, if_true, r_size hi, hsz, ← hm]
  exact h2

theorem s_indexStr {t : TypeId} {s : List Nat} {c : Nat} {i : DV} {rx ri : Value} {j : Nat} (ht : P.underlying t = some .string) (h : DRel g H w (.p (.str s)) rx) (hix : DRel g H w i ri)
    (hj : asNat i = some j) (hc : s[j]? = some c) : (Instr.index t rx ri).run P w = .ok (.int .u8 c) w := by
  obtain ⟨b, rfl, rfl⟩ := h.str
  obtain ⟨k, m, rfl, h0, hm⟩ := asNat_rel hix hj
  simp only [List.getElem?_map, Option.map_eq_some_iff] at hc
  obtain ⟨x, hx, rfl⟩ := hc
  have h1 : b[m.toNat]? = some x := by
    rw [← hm]
    have hlt : j < b.size := by have := (List.getElem?_eq_some_iff.1 hx).1; simpa using this
    rw [getElem?_pos b j hlt]
    have := (List.getElem?_eq_some_iff.1 hx).2
    rw [← this]; rfl
  simp [Instr.index, asIntOf, r_under ht, h0, h1]

/-! ### lengths, parts of slices -/
theorem s_len {t : TypeId} {x : DV} {rx : Value} {n : Nat} (hr : Rel g H w) (h : DRel g H w x rx) (hn : lenDV H x = some n)
    (ht : (P.underlying t = some .string ∧ ∃ s, x = .p (.str s)) ∨ ((∃ e, P.underlying t = some (.slice e)) ∧ (x = .p .nils ∨ (∃ xs, x = .p (.isl xs)) ∨ ∃ b o l, x = .msl b o l)) ∨
      ((∃ k e, P.underlying t = some (.map k e)) ∧ (x = .p .nilm ∨ (∃ es, x = .p (.pmap es)) ∨ ∃ b, x = .map b))) (ty : TypeId) (rest : List TypeId) :
    (Builtin.len_ #[t] ty #[rx]).run P w = .ok (.int .i64 n) w := by
  rcases ht with ⟨ht, s, rfl⟩ | ⟨⟨e, ht⟩, hx⟩ | ⟨⟨k, e, ht⟩, hx⟩
  · obtain ⟨b, rfl, rfl⟩ := h.str
    simp only [lenDV, Option.some.injEq] at hn
    subst hn
    have : b.data.toList.length = b.size := Array.length_toList
    simp [Builtin.len_, r_under ht, goInt]
  · rcases hx with rfl | ⟨xs, rfl⟩ | ⟨b, o, l, rfl⟩
    · have := h.pure
      cases this
      simp only [lenDV, Option.some.injEq] at hn; subst hn
      simp [Builtin.len_, r_under ht, goInt]
    · have := h.pure
      cases this with
      | isl xs n' A cap sz r hn' =>
        simp only [lenDV, Option.some.injEq] at hn; subst hn
        simp [Builtin.len_, r_under ht, goInt, hn']
    · simp only [lenDV, Option.some.injEq] at hn; subst hn
      cases h <;> simp [Builtin.len_, r_under ht, goInt]
  · rcases hx with rfl | ⟨es, rfl⟩ | ⟨b, rfl⟩
    · have := h.pure
      cases this
      simp only [lenDV, Option.some.injEq] at hn; subst hn
      simp [Builtin.len_, r_under ht, goInt]
    · have := h.pure
      cases this with
      | pmap es R ents clock hI hw hl hk hv hb hd =>
        simp only [lenDV, Option.some.injEq] at hn; subst hn
        have : (getObj R).run P w = .ok (.map ents clock) w := by simp [getObj, Sem.run, hw]
        simp [Builtin.len_, r_under ht, goInt, this, hl]
    · simp only [lenDV] at hn
      split at hn
      · rename_i es hb
        rw [getN_eq] at hb
        obtain rfl := Option.some.inj hn
        cases h with
        | dmap b R h => rw [hb] at h; simp at h
        | map b R es' hH hφ =>
          rw [hb] at hH; obtain rfl := Blk.mp.inj (Option.some.inj hH)
          obtain ⟨R', h1, h2, ⟨ents, clock, hw, hl, _⟩, _⟩ := hr.blk b _ hb trivial
          rw [hφ] at h1; obtain rfl := Option.some.inj h1
          have : (getObj R).run P w = .ok (.map ents clock) w := by simp [getObj, Sem.run, hw]
          simp [Builtin.len_, r_under ht, goInt, this, hl]
      · simp at hn

theorem r_sliceBound {x : Value} {k : IntKind} {m : Int} {y : Nat} {code : BoundsCode} (hx : x = .int k m) (h0 : 0 ≤ m) (h1 : m.toNat ≤ y) :
    (Instr.sliceBound x y code).run P w = .ok m.toNat w := by
  subst hx
  have h2 : 0 ≤ m ∧ m ≤ (y : Int) := ⟨h0, by omega⟩
  simp [Instr.sliceBound, asIntOf, h2]

/-- an operand that may be left out -/
def OptRel (g : Gh) (H : Heap) (w : World) (l : Option Nat) (r : Option Value) : Prop :=
  (l = none ∧ r = none) ∨ ∃ k m, r = some (.int k m) ∧ 0 ≤ m ∧ l = some m.toNat

theorem r_sliceBounds {isSlice : Bool} {len cap : Nat} {lo hi : Option Nat} {rlo rhi : Option Value} (hl : OptRel g H w lo rlo) (hh : OptRel g H w hi rhi)
    (h1 : lo.getD 0 ≤ hi.getD len) (h2 : hi.getD len ≤ cap) :
    (Instr.sliceBounds isSlice len cap rlo rhi none).run P w = .ok (lo.getD 0, hi.getD len, cap) w := by
  rcases hl with ⟨rfl, rfl⟩ | ⟨k, m, rfl, h0, rfl⟩ <;> rcases hh with ⟨rfl, rfl⟩ | ⟨k', m', rfl, h0', rfl⟩ <;> simp only [Option.getD_none, Option.getD_some] at h1 h2 ⊢
  · simp [Instr.sliceBounds]
  · simp [Instr.sliceBounds, r_sliceBound rfl h0' h2]
  · simp [Instr.sliceBounds, r_sliceBound rfl h0 h1]
  · simp [Instr.sliceBounds, r_sliceBound rfl h0' h2, r_sliceBound rfl h0 h1]

theorem extract_toNat (s : ByteArray) (a b : Nat) (h : a ≤ b) (hb : b ≤ s.size) :
    (s.extract a b).data.toList.map UInt8.toNat = ((s.data.toList.map UInt8.toNat).drop a).take (b - a) := by
  rw [ByteArray.data_extract, Array.toList_extract, List.extract_eq_take_drop, List.map_take, List.map_drop]

theorem s_slice {t : TypeId} {esz : Nat} {x v : DV} {rx : Value} {lo hi : Option Nat} {rlo rhi : Option Value} (hr : Rel g H w) (h : DRel g H w x rx) (hl : OptRel g H w lo rlo) (hh : OptRel g H w hi rhi)
    (ht : (P.underlying t = some .string ∧ ∃ s, x = .p (.str s)) ∨ ((∃ e i, P.underlying t = some (.slice e) ∧ P.info? e = some i ∧ i.size = esz) ∧ ∀ s, x ≠ .p (.str s)))
    (hv : sliceDV H esz x lo hi = some v) : ∃ rv, (Instr.sliceAt t rx rlo rhi none).run P w = .ok rv w ∧ DRel g H w v rv := by
  rcases ht with ⟨ht, s, rfl⟩ | ⟨⟨e, inf, ht, hi', hsz⟩, hns⟩
  · obtain ⟨b, rfl, rfl⟩ := h.str
    have hlen : (b.data.toList.map UInt8.toNat).length = b.size := by rw [List.length_map]; exact Array.length_toList
    simp only [sliceDV, takeN_eq, dropN_eq, hlen] at hv
    split at hv
    · rename_i hc
      obtain rfl := Option.some.inj hv
      refine ⟨.string (b.extract (lo.getD 0) (hi.getD b.size)), ?_, .p _ _ (.str _ _ (extract_toNat b _ _ hc.1 hc.2).symm)⟩
      simp [Instr.sliceAt, Instr.slice, r_under ht, r_sliceBounds hl hh hc.1 hc.2]
    · simp at hv
  · have go : ∀ (A : Option Addr) (len cap : Nat), rx = .slice A len cap → len ≤ cap → lo.getD 0 ≤ hi.getD len → hi.getD len ≤ len →
        (Instr.sliceAt t rx rlo rhi none).run P w = .ok (.slice (if cap = lo.getD 0 then A else A.map (·.add (lo.getD 0 * esz))) (hi.getD len - lo.getD 0) (cap - lo.getD 0)) w := by
      intro A len cap hrx hlc h1 h2
      subst hrx
      simp [Instr.sliceAt, Instr.slice, r_under ht, r_sliceBounds hl hh h1 (Nat.le_trans h2 hlc), r_size hi', hsz]
    unfold sliceDV at hv
    split at hv
    · rename_i s; exact absurd rfl (hns s)
    · split at hv
      · rename_i hc
        obtain rfl := Option.some.inj hv
        have := h.pure
        cases this
        refine ⟨_, go none 0 0 rfl (Nat.le_refl _) (by omega) ?_, ?_⟩
        · rcases hi with _ | n
          · simp
          · simpa using hc.2
        · have h3 : hi.getD 0 = 0 := hc.2
          simp only [hc.1, h3, Nat.sub_self, if_true]
          exact .p _ _ .nils
      · simp at hv
    · rename_i xs
      simp only [takeN_eq, dropN_eq] at hv
      split at hv
      · rename_i hc
        obtain rfl := Option.some.inj hv
        have := h.pure
        cases this with
        | isl xs n A cap sz r hn hs hcap hsz' hcc hhh =>
          subst hn
          refine ⟨_, go (some A) xs.length cap rfl hcap hc.1 hc.2.1, .p _ _ ?_⟩
          have hlen : (List.take (hi.getD xs.length - lo.getD 0) (List.drop (lo.getD 0) xs)).length = hi.getD xs.length - lo.getD 0 := by
            simp only [List.length_take, List.length_drop]; omega
          by_cases hemp : hi.getD xs.length = lo.getD 0
          · have hnil : List.take (hi.getD xs.length - lo.getD 0) (List.drop (lo.getD 0) xs) = [] := by
              apply List.eq_nil_of_length_eq_zero; rw [hlen]; omega
            rw [hnil]
            have hA : ∃ A', (if cap = lo.getD 0 then some A else Option.map (fun x => x.add (lo.getD 0 * esz)) (some A)) = some A' ∧ A'.spot = none := by
              split
              · exact ⟨A, rfl, hs⟩
              · exact ⟨A.add (lo.getD 0 * esz), rfl, by rw [add_eq hs]⟩
            obtain ⟨A', hA', hs'⟩ := hA
            rw [hA']
            exact .isl [] _ A' _ 0 (fun _ _ => Go.undef) (by simp; omega) hs' (by omega) (fun j x hx => by simp at hx) (fun j k hj => by simp at hj) (fun j x k c hx => by simp at hx)
          · have hne : ¬ cap = lo.getD 0 := by omega
            rw [if_neg hne]
            simp only [Option.map_some, add_eq hs]
            have look : ∀ (j : Nat) (x : PV), (List.take (hi.getD xs.length - lo.getD 0) (List.drop (lo.getD 0) xs))[j]? = some x → xs[lo.getD 0 + j]? = some x := by
              intro j x hx
              rw [List.getElem?_take] at hx
              split at hx
              · rwa [List.getElem?_drop] at hx
              · simp at hx
            have hz : sz = esz := by
              have h0 : (List.take (hi.getD xs.length - lo.getD 0) (List.drop (lo.getD 0) xs)) ≠ [] := by
                intro e; rw [e] at hlen; simp at hlen; omega
              cases he : (List.take (hi.getD xs.length - lo.getD 0) (List.drop (lo.getD 0) xs)) with
              | nil => exact absurd he h0
              | cons y ys =>
                have h1 := hc.2.2
                rw [he] at h1
                simp only [headP, beq_iff_eq] at h1
                have h2 := look 0 y (by rw [he]; rfl)
                rw [← (hsz' _ y h2).1, h1]
            subst hz
            refine .isl _ _ _ _ sz (fun j k => r (lo.getD 0 + j) k) hlen.symm rfl (by omega) (fun j x hx => hsz' _ x (look j x hx)) (fun j k hj hk => ?_) (fun j x k c hx hk => hhh _ x k c (look j x hx) hk)
            have := hcc (lo.getD 0 + j) k (by rw [hlen] at hj; omega) hk
            simpa [Nat.add_mul, Nat.add_assoc] using this
      · simp at hv
    · rename_i b off len
      rw [getN_eq] at hv
      simp only at hv
      split at hv
      · rename_i gr ag z els hb
        split at hv
        · rename_i hc
          obtain ⟨h1, h2, rfl⟩ := hc
          obtain rfl := Option.some.inj hv
          have empt : ∀ (A : Addr) (cap : Nat), A.spot = none → lo.getD 0 = hi.getD len → len ≤ cap →
              DRel g H w (if lo.getD 0 = hi.getD len then .p (.isl []) else .msl b (off + lo.getD 0) (hi.getD len - lo.getD 0))
                (.slice (if cap = lo.getD 0 then some A else (some A).map (·.add (lo.getD 0 * z))) (hi.getD len - lo.getD 0) (cap - lo.getD 0)) := by
            intro A cap hs he hcap
            rw [if_pos he]
            have hA : ∃ A', (if cap = lo.getD 0 then some A else Option.map (fun (x : Addr) => x.add (lo.getD 0 * z)) (some A)) = some A' ∧ A'.spot = none := by
              split
              · exact ⟨A, rfl, hs⟩
              · exact ⟨A.add (lo.getD 0 * z), rfl, by rw [add_eq hs]⟩
            obtain ⟨A', hA', hs'⟩ := hA
            rw [hA']
            exact .p _ _ (.isl [] _ A' _ 0 (fun _ _ => Go.undef) (by simp; omega) hs' (by omega) (fun j x hx => by simp at hx) (fun j k hj => by simp at hj) (fun j x k c hx => by simp at hx))
          cases h with
          | dmsl b off len cap A h => rw [hb] at h; simp at h
          | fmsl b off len cap R z' ag' els' hH hφ hbd hcap hc =>
            rw [hb] at hH
            simp only [Option.some.injEq, Blk.vec.injEq] at hH
            obtain ⟨rfl, rfl, rfl, rfl⟩ := hH
            refine ⟨_, go _ len cap rfl hcap h1 h2, ?_⟩
            by_cases he : lo.getD 0 = hi.getD len
            · exact empt _ cap rfl he hcap
            · rw [if_neg he, if_neg (by omega)]
              simp only [Option.map_some, add_eq, ← Nat.add_mul]
              exact .fmsl b (off + lo.getD 0) (hi.getD len - lo.getD 0) (cap - lo.getD 0) R z ag els hb hφ (by omega) (by omega) (by
                have : off + lo.getD 0 + (cap - lo.getD 0) = off + cap := by omega
                rw [this]; exact hc)
          | gmsl b off len cap R z' A ag' els' hH hφ hs hbd hcap hc hf =>
            rw [hb] at hH
            simp only [Option.some.injEq, Blk.vec.injEq] at hH
            obtain ⟨rfl, rfl, rfl, rfl⟩ := hH
            refine ⟨_, go _ len cap rfl hcap h1 h2, ?_⟩
            by_cases he : lo.getD 0 = hi.getD len
            · exact empt _ cap hs he hcap
            · rw [if_neg he, if_neg (by omega)]
              simp only [Option.map_some, add_eq hs]
              refine .gmsl b (off + lo.getD 0) (hi.getD len - lo.getD 0) (cap - lo.getD 0) R z _ ag els hb hφ rfl (by omega) (by omega) (fun m hm => ?_) (fun h0 hl' => ?_)
              · have hm' : lo.getD 0 * z + m < len * z := by
                  have h3 : (hi.getD len - lo.getD 0) * z + lo.getD 0 * z = hi.getD len * z := by rw [← Nat.add_mul]; congr 1; omega
                  have h4 : hi.getD len * z ≤ len * z := Nat.mul_le_mul_right _ h2
                  omega
                have h5 := hc (lo.getD 0 * z + m) hm'
                rw [← Nat.add_assoc] at h5
                refine ⟨h5.1, h5.2.trans ?_⟩
                congr 2
                rw [Nat.add_mul]; omega
              · have hlo : lo.getD 0 = 0 := by omega
                obtain ⟨h3, h4⟩ := hf (by omega) (by omega)
                subst h3
                simp only [hlo, Nat.zero_mul, Nat.add_zero, Nat.sub_zero]
                exact ⟨trivial, h4⟩
        · simp at hv
      · simp at hv
    · simp at hv

end Go.Lv

/- Operations, one by one: what is made anew. -/
namespace Go.Lv
set_option linter.unusedVariables false
set_option linter.unusedSimpArgs false
variable {P : Program} {g : Gh} {H : Heap} {w : World}

/-- What an operation comes to: its value, in a world that stands to the heap that it leaves. -/
def Post (g : Gh) (H : Heap) (w : World) (H' : Heap) (v : DV) (rv : Value) (w' : World) : Prop :=
  ∃ g', Rel g' H' w' ∧ Ev g H w g' H' w' ∧ DRel g' H' w' v rv

theorem Post.same {v : DV} {rv : Value} (hr : Rel g H w) (h : DRel g H w v rv) : Post g H w H v rv w := ⟨g, hr, Ev.refl hr, h⟩

theorem rel_drew (hr : Rel g H w) : Rel g H w.drew := by
  have hb : ∀ {R k}, BlkRel g H w R k → BlkRel g H w.drew R k := by
    intro R k h
    have hv : Ev g H w g H w.drew := ⟨fun _ _ h => ⟨h, rfl, fun _ _ h => h⟩, fun _ _ _ => rfl, Nat.le_refl _, fun _ _ => Nat.le_refl _, ⟨rfl, rfl, rfl⟩, Nat.le_refl _,
      fun b k h => ⟨k, h, Turns.stay hr h rfl fun _ _ _ => rfl⟩, fun _ _ h => .inl h, fun b k R h ha hφ => .inr fun hf => hf b k h ha hφ⟩
    exact h.mono hv rfl fun _ => Iff.rfl
  exact ⟨fun b k h ha => let ⟨R, h1, h2, h3⟩ := hr.blk b k h ha; ⟨R, h1, h2, hb h3⟩, hr.inj, hr.low⟩
theorem ev_drew (hr : Rel g H w) : Ev g H w g H w.drew :=
  ⟨fun _ _ h => ⟨h, rfl, fun _ _ h => h⟩, fun _ _ _ => rfl, Nat.le_refl _, fun _ _ => Nat.le_refl _, ⟨rfl, rfl, rfl⟩, Nat.le_refl _,
    fun b k h => ⟨k, h, Turns.stay hr h rfl fun _ _ _ => rfl⟩, fun _ _ h => .inl h, fun b k R h ha hφ => .inr fun hf => hf b k h ha hφ⟩

/-- a value in a block of its own that is not written to any more -/
theorem new_cptr {v : PV} {c : Array Value} {t : TypeId} (hr : Rel g H w) (hs : c.size = (cellsP v).length) (hk : ∀ x ∈ cellsP v, isCellP x = true)
    (h : ∀ (k : Nat) (x : PV), (cellsP v)[k]? = some x → ∃ rx, c[k]? = some rx ∧ PRel g.I w x rx) :
    Post g H w H (.p (.cptr v)) (.pointer (some ⟨w.heap.size, 0, none⟩)) (w.alloc (.cells c t)) := by
  obtain ⟨h1, h2⟩ := alloc_val hr (.cells c t) c.size
  refine ⟨_, h1, h2, .p _ _ (.cptr v _ (fun k => c.getD k Go.undef) rfl hk (fun k hlt => ⟨.inr ⟨rfl, by simp; omega⟩, ?_⟩) fun k x hx => ?_)⟩
  · simp only [Nat.zero_add, World.cell?_alloc_new]
    simp [show k < c.size by omega]
  · obtain ⟨rx, h3, h4⟩ := h k x hx
    have hlt := (Array.getElem?_eq_some_iff.1 h3).1
    have : c.getD k Go.undef = rx := by simp [Array.getD, hlt]; exact (Array.getElem?_eq_some_iff.1 h3).2
    rw [this]
    exact h4.mono h2.keeps

/-- elements in a row of their own that is not written to any more -/
theorem new_isl {xs : List PV} {z n cap : Nat} {c : Array Value} {o : Obj} {w1 : World} (hr : Rel g H w) (hn : n = xs.length) (hcap : n ≤ cap) 
    (ho : ∀ k, k < xs.length * z → w1.cell? ⟨w.heap.size, k, none⟩ = c[k]?) (hw1 : Rel (g.addI w.heap.size (xs.length * z)) H w1 ∧ Ev g H w (g.addI w.heap.size (xs.length * z)) H w1)
    (hz : ∀ (i : Nat) (x : PV), xs[i]? = some x → (cellsP x).length = z ∧ ∀ y ∈ cellsP x, isCellP y = true)
    (h : ∀ (i : Nat) (x : PV) (k : Nat) (y : PV), xs[i]? = some x → (cellsP x)[k]? = some y → ∃ ry, c[i * z + k]? = some ry ∧ PRel g.I w y ry) :
    Post g H w H (.p (.isl xs)) (.slice (some ⟨w.heap.size, 0, none⟩) n cap) w1 := by
  obtain ⟨h1, h2⟩ := hw1
  refine ⟨_, h1, h2, .p _ _ (.isl xs n _ cap z (fun j k => c.getD (j * z + k) Go.undef) hn rfl hcap hz (fun j k hj hk => ?_) fun j x k y hx hy => ?_)⟩
  · have h3 := mul_le_of_lt (z := z) hj
    refine ⟨.inr ⟨rfl, by simp; omega⟩, ?_⟩
    simp only [Nat.zero_add]
    rw [ho _ (by omega)]
    have hkk : k < (cellsP xs[j]).length := by rw [(hz j xs[j] (by simp [hj])).1]; exact hk
    obtain ⟨ry, h4, _⟩ := h j xs[j] k (cellsP xs[j])[k] (by simp [hj]) (by simp [hkk])
    have hlt := (Array.getElem?_eq_some_iff.1 h4).1
    simp [hlt]
  · obtain ⟨ry, h3, h4⟩ := h j x k y hx hy
    have hlt := (Array.getElem?_eq_some_iff.1 h3).1
    have : c.getD (j * z + k) Go.undef = ry := by simp [Array.getD, hlt]; exact (Array.getElem?_eq_some_iff.1 h3).2
    rw [this]
    exact h4.mono h2.keeps

/-- a row of elements of the heap more -/
theorem new_vec {gr ag : Bool} {z : Nat} {els : List (List DV)} {c : Array Value} {t : TypeId} (hr : Rel g H w) (hs : els.length * z ≤ c.size)
    (hz : ∀ (i : Nat) (e : List DV), els[i]? = some e → e.length = z ∧ ∀ d ∈ e, isCell d = true)
    (h : ∀ (i : Nat) (e : List DV) (k : Nat) (d : DV), els[i]? = some e → e[k]? = some d → ∃ v, c[i * z + k]? = some v ∧ DRel g H w d v) :
    Rel (g.put H.length w.heap.size (if gr then els.length * z else 0)) (H ++ [.vec gr ag z els]) (w.alloc (.cells c t)) ∧
    Ev g H w (g.put H.length w.heap.size (if gr then els.length * z else 0)) (H ++ [.vec gr ag z els]) (w.alloc (.cells c t)) := by
  refine alloc_blk hr _ _ _ fun hv => ⟨⟨c, t, (0, 0), heap_alloc_new, hs, .inl rfl⟩, hz, fun i e k d hi hk => ?_, fun o => ?_⟩
  · obtain ⟨v, h1, h2⟩ := h i e k d hi hk
    exact ⟨v, by rw [World.cell?_alloc_new]; exact h1, h2.mono hv⟩
  · simp only [Gh.put]
    constructor
    · rintro (h1 | ⟨_, h1⟩)
      · exact absurd (hr.low _ _ h1) (Nat.lt_irrefl _)
      · cases gr with
        | true => exact ⟨rfl, by simpa using h1⟩
        | false => simp at h1
    · rintro ⟨h0, h1⟩
      refine .inr ⟨by first | trivial | rfl, ?_⟩
      rw [if_pos h0]; exact h1

theorem csize_alloc {c : Array Value} {t : TypeId} : csize (w.alloc (.cells c t)) w.heap.size = c.size := by
  unfold csize; rw [heap_alloc_new]

theorem look_last (k : Blk) : (H ++ [k])[H.length]? = some k := by simp

/-! ### boxes -/
theorem s_box_val {t : TypeId} {v : PV} {rx : Value} (hr : Rel g H w) (h : DRel g H w (.p v) rx) (hc : okCells (cellsD (.p v)) = true) :
    ∃ rv w', (Instr.box t rx).run P w = .ok rv w' ∧ Post g H w H (.p (.cptr v)) rv w' := by
  obtain ⟨h1, h2⟩ := h.cells hc
  refine ⟨.pointer (some ⟨w.heap.size, 0, none⟩), w.alloc (.cells rx.cells t), by simp [Instr.box, newVar, newRow], new_cptr hr (by rw [h1, cellsD_p, List.length_map]) (fun x hx => ?_) fun k x hx => ?_⟩
  · exact okCells_mem hc (.p x) (by rw [cellsD_p]; exact List.mem_map.2 ⟨x, hx, rfl⟩)
  · obtain ⟨rc, h3, h4, _⟩ := h2 k (.p x) (by rw [cellsD_p]; simp [hx])
    exact ⟨rc, h3, h4.pure⟩

theorem s_box_fix {t : TypeId} {ag : Bool} {x : DV} {rx : Value} (hr : Rel g H w) (h : DRel g H w x rx) (hc : okCells (cellsD x) = true) :
    ∃ rv w', (Instr.box t rx).run P w = .ok rv w' ∧ Post g H w (H ++ [.vec false ag (cellsD x).length [cellsD x]]) (.ptr H.length 0 0) rv w' := by
  obtain ⟨h1, h2⟩ := h.cells hc
  obtain ⟨h3, h4⟩ := new_vec (gr := false) (ag := ag) (z := (cellsD x).length) (els := [cellsD x]) (c := rx.cells) (t := t) hr (by simp [h1]) (fun i e hi => by
    have : i = 0 := by have := (List.getElem?_eq_some_iff.1 hi).1; simpa using this
    subst this; simp at hi; subst hi; exact ⟨rfl, okCells_mem hc⟩) (fun i e k d hi hk => by
    have : i = 0 := by have := (List.getElem?_eq_some_iff.1 hi).1; simpa using this
    subst this; simp at hi; subst hi
    obtain ⟨rc, h5, h6, _⟩ := h2 k d hk
    exact ⟨rc, by simpa using h5, h6⟩)
  refine ⟨.pointer (some ⟨w.heap.size, 0, none⟩), w.alloc (.cells rx.cells t), by simp [Instr.box, newVar, newRow], _, h3, h4, ?_⟩
  have := DRel.fptr (g := g.put H.length w.heap.size (if false then [cellsD x].length * (cellsD x).length else 0)) (w := w.alloc (.cells rx.cells t)) H.length 0 0 w.heap.size (cellsD x).length ag [cellsD x] (look_last _) (by simp [Gh.put])
  simpa using this

/-- a zero value -/
def relZ : PV → Value → Bool
  | .int k n, .int k' n' => decide (k = k') && decide (n = n')
  | .bool a, .bool b => a == b
  | .str l, .string s => l.isEmpty && s.data.toList.isEmpty
  | .nils, .slice none 0 0 => true
  | .nilp, .pointer none => true
  | .nilm, .map none => true
  | .nilf, .nilFunc => true
  | .nili, .nilIface => true
  | _, _ => false
def relZs : List PV → List Value → Bool
  | [], [] => true
  | a :: x, b :: y => relZ a b && relZs x y
  | _, _ => false
def relZero (v : PV) (rv : Value) : Bool :=
  match v, rv with
  | .agg cs, .agg vs => relZs cs vs.toList
  | v, rv => relZ v rv

theorem relZ_spec {I : Nat → Nat → Prop} {v : PV} {rv : Value} (h : relZ v rv = true) : PRel I w v rv ∧ isCellP v = true := by
  unfold relZ at h
  split at h
  · simp only [Bool.and_eq_true, decide_eq_true_eq] at h; obtain ⟨rfl, rfl⟩ := h; exact ⟨.int _ _, rfl⟩
  · simp only [beq_iff_eq] at h; subst h; exact ⟨.bool _, rfl⟩
  · rename_i l s
    simp only [Bool.and_eq_true, List.isEmpty_iff] at h
    exact ⟨.str s _ (by rw [h.1, h.2]; rfl), rfl⟩
  · exact ⟨.nils, rfl⟩
  · exact ⟨.nilp, rfl⟩
  · exact ⟨.nilm, rfl⟩
  · exact ⟨.nilf, rfl⟩
  · exact ⟨.nili, rfl⟩
  · simp at h

theorem relZs_spec {I : Nat → Nat → Prop} : ∀ {cs : List PV} {vs : List Value}, relZs cs vs = true →
    cs.length = vs.length ∧ (∀ c ∈ cs, isCellP c = true) ∧ ∀ (i : Nat) (c : PV) (v : Value), cs[i]? = some c → vs[i]? = some v → PRel I w c v
  | [], [], _ => ⟨rfl, by simp, fun i c v h => by simp at h⟩
  | [], _ :: _, h => by simp [relZs] at h
  | _ :: _, [], h => by simp [relZs] at h
  | a :: x, b :: y, h => by
    simp only [relZs, Bool.and_eq_true] at h
    obtain ⟨h1, h2, h3⟩ := relZs_spec (I := I) h.2
    obtain ⟨h4, h5⟩ := relZ_spec (I := I) (w := w) h.1
    refine ⟨by simp [h1], fun c hc => ?_, fun i c v hc hv => ?_⟩
    · rcases List.mem_cons.1 hc with rfl | hc
      · exact h5
      · exact h2 c hc
    · cases i with
      | zero => simp at hc hv; subst hc hv; exact h4
      | succ i => exact h3 i c v (by simpa using hc) (by simpa using hv)

theorem relZero_cells {I : Nat → Nat → Prop} {v : PV} {rv : Value} (h : relZero v rv = true) : rv.cells.size = (cellsP v).length ∧ (∀ c ∈ cellsP v, isCellP c = true) ∧
    ∀ (k : Nat) (c : PV), (cellsP v)[k]? = some c → ∃ rc, rv.cells[k]? = some rc ∧ PRel I w c rc := by
  unfold relZero at h
  split at h
  · rename_i cs vs
    obtain ⟨h1, h2, h3⟩ := relZs_spec (I := I) (w := w) h
    refine ⟨by simpa [Value.cells, cellsP] using h1.symm, h2, fun k c hc => ?_⟩
    have hlt : k < vs.size := by have := (List.getElem?_eq_some_iff.1 hc).1; simp [cellsP] at this; simp at h1; omega
    exact ⟨vs[k], by simp [Value.cells, hlt], h3 k c _ hc (by simp [hlt])⟩
  · rename_i _ _ hne
    obtain ⟨h1, h2⟩ := relZ_spec (I := I) (w := w) h
    have hcell := h1.cell h2
    have hv : cellsP v = [v] := by cases v <;> first | rfl | exact absurd h2 (by decide) | (simp [isCellP] at h2; done) | (exact absurd h2 (by simp [isCellP]))
    rw [hv, hcell.2]
    refine ⟨by simp, fun c hc => by simp at hc; subst hc; exact h2, fun k c hc => ?_⟩
    cases k with
    | zero => simp at hc; subst hc; exact ⟨rv, by simp, h1⟩
    | succ k => simp at hc

theorem s_alloc {t : TypeId} {i : TypeInfo} {zv : Value} {z : PV} {n : Nat} (hr : Rel g H w) (hi : P.info? t = some i) (hz : i.zero = some zv) (hrel : relZero z zv = true) (hn : (cellsP z).length = n) :
    ∃ rv w', (Instr.alloc t true (.tuple #[])).run P w = .ok rv w' ∧ Post g H w (H ++ [.vec false (isAggP z) n [(cellsP z).map .p]]) (.ptr H.length 0 0) rv w' := by
  obtain ⟨h1, h2, h3⟩ := relZero_cells (I := g.I) (w := w) hrel
  obtain ⟨h4, h5⟩ := new_vec (gr := false) (ag := isAggP z) (z := n) (els := [(cellsP z).map .p]) (c := zv.cells) (t := t) hr (by simp [h1, hn]) (fun i e hi => by
    have : i = 0 := by have := (List.getElem?_eq_some_iff.1 hi).1; simpa using this
    subst this; simp at hi; subst hi
    refine ⟨by simp [hn], fun d hd => ?_⟩
    obtain ⟨c, hc, rfl⟩ := List.mem_map.1 hd; exact h2 c hc) (fun i e k d hi hk => by
    have : i = 0 := by have := (List.getElem?_eq_some_iff.1 hi).1; simpa using this
    subst this; simp at hi; subst hi
    simp only [List.getElem?_map, Option.map_eq_some_iff] at hk
    obtain ⟨c, hc, rfl⟩ := hk
    obtain ⟨rc, h5, h6⟩ := h3 k c hc
    exact ⟨rc, by simpa using h5, .p _ _ h6⟩)
  refine ⟨.pointer (some ⟨w.heap.size, 0, none⟩), w.alloc (.cells zv.cells t), by simp [Instr.alloc, r_zero hi hz, newVar, newRow], _, h4, h5, ?_⟩
  have := DRel.fptr (g := g.put H.length w.heap.size (if false then [(cellsP z).map DV.p].length * n else 0)) (w := w.alloc (.cells zv.cells t)) H.length 0 0 w.heap.size n (isAggP z) [(cellsP z).map .p] (look_last _) (by simp [Gh.put])
  simpa using this

/-! ### maps and ranges over texts -/
theorem s_makeMap {t : TypeId} (hr : Rel g H w) : ∃ rv w', (Instr.makeMap t none).run P w = .ok rv w' ∧ Post g H w (H ++ [.mp []]) (.map H.length) rv w' := by
  obtain ⟨h1, h2⟩ := alloc_blk hr (.map #[] 0) (.mp []) 0 fun hv => ⟨⟨#[], 0, heap_alloc_new, rfl, fun i e m hi => by simp at hi, by simp, by simp⟩, fun o => by
    simp only [Gh.put]; rintro (h | ⟨_, h⟩)
    · exact absurd (hr.low _ _ h) (Nat.lt_irrefl _)
    · omega⟩
  exact ⟨.map (some w.heap.size), _, by simp [Instr.makeMap], _, h1, h2, .map H.length _ [] (look_last _) (by simp [Gh.put])⟩

theorem s_range {t : TypeId} {s : List Nat} {rx : Value} (hr : Rel g H w) (ht : P.underlying t = some .string) (h : DRel g H w (.p (.str s)) rx) :
    ∃ rv w', (Instr.range t rx).run P w = .ok rv w' ∧ Post g H w (H ++ [.iter s 0]) (.it H.length) rv w' := by
  obtain ⟨b, rfl, rfl⟩ := h.str
  obtain ⟨h1, h2⟩ := alloc_blk hr (.stringIter b 0) (.iter (b.data.toList.map UInt8.toNat) 0) 0 fun hv => ⟨⟨b, heap_alloc_new, rfl⟩, fun o => by
    simp only [Gh.put]; rintro (h | ⟨_, h⟩)
    · exact absurd (hr.low _ _ h) (Nat.lt_irrefl _)
    · omega⟩
  exact ⟨.pointer (some ⟨w.heap.size, 0, none⟩), _, by simp [Instr.range, r_under ht], _, h1, h2, .it H.length _ _ 0 (look_last _) (by simp [Gh.put])⟩

end Go.Lv

/- Operations, one by one: structs, arrays and slices that are written out; bytes of texts. -/
namespace Go.Lv
set_option linter.unusedVariables false
set_option linter.unusedSimpArgs false
variable {P : Program} {g : Gh} {H : Heap} {w : World}

def CellsRel (g : Gh) (H : Heap) (w : World) (cs : List DV) (vs : Array Value) : Prop :=
  cs.length = vs.size ∧ (∀ c ∈ cs, isCell c = true) ∧ ∀ (i : Nat) (c : DV) (v : Value), cs[i]? = some c → vs[i]? = some v → DRel g H w c v

theorem over_get {α : Type} : ∀ (l v : List α) (k : Nat), (putAt.over l v)[k]? = if k < v.length ∧ k < l.length then v[k]? else l[k]?
  | l, [], k => by simp [putAt.over]
  | [], c :: cs, k => by simp [putAt.over]
  | x :: r, c :: cs, 0 => by simp [putAt.over]
  | x :: r, c :: cs, k + 1 => by
    simp only [putAt.over, List.getElem?_cons_succ, over_get r cs k, List.length_cons]
    by_cases h : k < cs.length ∧ k < r.length
    · rw [if_pos h, if_pos (by omega)]
    · rw [if_neg h, if_neg (by omega)]
theorem over_len {α : Type} : ∀ (l v : List α), (putAt.over l v).length = l.length
  | l, [] => by simp [putAt.over]
  | [], c :: cs => by simp [putAt.over]
  | x :: r, c :: cs => by simp [putAt.over, over_len r cs]
theorem putAt_get {α : Type} : ∀ (l : List α) (off : Nat) (v : List α) (k : Nat), (putAt l off v)[k]? = if off ≤ k ∧ k < off + v.length ∧ k < l.length then v[k - off]? else l[k]?
  | l, 0, v, k => by
    simp only [putAt, over_get, Nat.zero_le, true_and, Nat.zero_add, Nat.sub_zero]
  | [], n + 1, v, k => by simp [putAt]
  | x :: r, n + 1, v, 0 => by simp [putAt]
  | x :: r, n + 1, v, k + 1 => by
    simp only [putAt, List.getElem?_cons_succ, putAt_get r n v k, List.length_cons]
    by_cases h : n ≤ k ∧ k < n + v.length ∧ k < r.length
    · rw [if_pos h, if_pos (by omega), show k + 1 - (n + 1) = k - n by omega]
    · rw [if_neg h, if_neg (by omega)]
theorem putAt_len {α : Type} : ∀ (l : List α) (off : Nat) (v : List α), (putAt l off v).length = l.length
  | l, 0, v => by simp [putAt, over_len]
  | [], n + 1, v => by simp [putAt]
  | x :: r, n + 1, v => by simp [putAt, putAt_len r n v]

theorem fold_set (off : Nat) : ∀ (l : List Value) (j : Nat) (cells : Array Value) (k : Nat),
    ((l.zipIdx j).foldl (fun cs p => cs.setIfInBounds (off + p.2) p.1) cells)[k]? = if off + j ≤ k ∧ k < off + j + l.length ∧ k < cells.size then l[k - (off + j)]? else cells[k]?
  | [], j, cells, k => by simp; omega
  | x :: l, j, cells, k => by
    simp only [List.zipIdx_cons, List.foldl_cons, fold_set off l (j + 1), Array.size_setIfInBounds, List.length_cons, Array.getElem?_setIfInBounds]
    by_cases h : off + j ≤ k ∧ k < off + j + (l.length + 1) ∧ k < cells.size
    · rw [if_pos h]
      by_cases e : k = off + j
      · rw [if_neg (by omega), if_pos e.symm]
        simp [e]
        omega
      · rw [if_pos (by omega)]
        obtain ⟨d, hd⟩ : ∃ d, k - (off + j) = d + 1 := ⟨k - (off + j) - 1, by omega⟩
        rw [hd, List.getElem?_cons_succ]
        congr 1; omega
    · rw [if_neg h, if_neg (by omega)]
      by_cases e : off + j = k
      · rw [if_pos e]
        have : ¬ k < cells.size := by omega
        rw [if_neg (by omega)]
        simp [Array.getElem?_eq_none (Nat.le_of_not_lt this)]
      · rw [if_neg e]
theorem fold_set_size (off : Nat) : ∀ (l : List Value) (j : Nat) (cells : Array Value), ((l.zipIdx j).foldl (fun cs p => cs.setIfInBounds (off + p.2) p.1) cells).size = cells.size
  | [], j, cells => by simp
  | x :: l, j, cells => by simp [List.zipIdx_cons, fold_set_size off l (j + 1)]

inductive All2 {α β : Type} (R : α → β → Prop) : List α → List β → Prop
  | nil : All2 R [] []
  | cons {a : α} {b : β} {x : List α} {y : List β} (h : R a b) (t : All2 R x y) : All2 R (a :: x) (b :: y)

/-- parts that stand for parts -/
def PartRel (g : Gh) (H : Heap) (w : World) (place : Nat → Option (Nat × Nat)) (d : Nat × Nat × DV) (r : Nat × Value) : Prop :=
  place r.1 = some (d.1, d.2.1) ∧ DRel g H w d.2.2 r.2

def bc : List (Nat × Nat × DV) → List DV → Option (List DV)
  | [], cs => some cs
  | (off, n, x) :: r, cs => if (cellsD x).length = n ∧ okCells (cellsD x) = true then bc r (putAt cs off (cellsD x)) else none
theorem bc_eq (env ts : List DV) : ∀ (parts : List (Nat × Nat × Opd)) (cs : List DV), buildCells env ts parts cs = bc (parts.map fun p => (p.1, p.2.1, opd env ts p.2.2)) cs
  | [], cs => rfl
  | (off, n, x) :: r, cs => by simp only [buildCells, List.map_cons, bc, bc_eq env ts r]

theorem fill_rel (place : Nat → Option (Nat × Nat)) : ∀ (ds : List (Nat × Nat × DV)) (rs : List (Nat × Value)) (cs cs' : List DV) (cells : Array Value),
    All2 (PartRel g H w place) ds rs → (∀ d ∈ ds, d.1 + d.2.1 ≤ cs.length) → CellsRel g H w cs cells → bc ds cs = some cs' →
    ∃ cells', Instr.fill place cells rs = some cells' ∧ CellsRel g H w cs' cells' := by
  intro ds
  induction ds with
  | nil =>
    intro rs cs cs' cells hf hb hc h
    cases hf
    simp only [bc, Option.some.injEq] at h; subst h
    exact ⟨cells, rfl, hc⟩
  | cons d ds ih =>
    intro rs cs cs' cells hf hb hc h
    cases hf with
    | cons hd ht =>
      rename_i r rs
      obtain ⟨off, n, x⟩ := d
      obtain ⟨i, v⟩ := r
      obtain ⟨hp, hx⟩ := hd
      simp only at hp hx
      simp only [bc] at h
      split at h
      · rename_i hcond
        obtain ⟨hlen, hok⟩ := hcond
        obtain ⟨h1, h2⟩ := hx.cells hok
        have hbd := hb (off, n, x) (by simp)
        simp only at hbd
        have hsz : ¬ (v.cells.size ≠ n || off + v.cells.size > cells.size) = true := by
          simp only [ne_eq, decide_not, Bool.or_eq_true, Bool.not_eq_true', decide_eq_false_iff_not, decide_eq_true_eq]
          have := hc.1
          omega
        simp only [Instr.fill, hp, hsz, Bool.false_eq_true, if_false]
        refine ih rs (putAt cs off (cellsD x)) cs' _ ht (fun d hd => by rw [putAt_len]; exact hb d (by simp [hd])) ⟨?_, fun c hc' => ?_, fun k c v' hk hv => ?_⟩ h
        · rw [putAt_len, hc.1, ← Array.foldl_toList, Array.toList_zipIdx, fold_set_size]
        · obtain ⟨k, hk⟩ := List.getElem?_of_mem hc'
          rw [putAt_get] at hk
          split at hk
          · exact okCells_mem hok c (List.mem_of_getElem? hk)
          · exact hc.2.1 c (List.mem_of_getElem? hk)
        · rw [← Array.foldl_toList, Array.toList_zipIdx, fold_set] at hv
          rw [putAt_get] at hk
          have e1 : v.cells.toList.length = v.cells.size := Array.length_toList
          rw [e1, h1] at hv
          simp only [Nat.add_zero] at hv
          have e2 := hc.1
          by_cases hcase : off ≤ k ∧ k < off + (cellsD x).length ∧ k < cs.length
          · rw [if_pos hcase] at hk
            rw [if_pos (by omega)] at hv
            obtain ⟨rc, h3, h4, _⟩ := h2 _ c hk
            rw [Array.getElem?_toList] at hv
            rw [h3] at hv
            obtain rfl := Option.some.inj hv
            exact h4
          · rw [if_neg hcase] at hk
            rw [if_neg (by omega)] at hv
            exact hc.2.2 k c v' hk hv
      · simp at h

theorem zero_cells {I : Nat → Nat → Prop} {z : List PV} {zv : Value} (h : relZero (.agg z) zv = true) (hg : I = g.I) : CellsRel g H w (z.map .p) zv.cells := by
  subst hg
  obtain ⟨h1, h2, h3⟩ := relZero_cells (I := g.I) (w := w) h
  refine ⟨by simpa [cellsP] using h1.symm, fun c hc => ?_, fun i c v hc hv => ?_⟩
  · obtain ⟨c', h4, rfl⟩ := List.mem_map.1 hc; exact h2 c' h4
  · simp only [List.getElem?_map, Option.map_eq_some_iff] at hc
    obtain ⟨c', h4, rfl⟩ := hc
    obtain ⟨rc, h5, h6⟩ := h3 i c' h4
    rw [h5] at hv; obtain rfl := Option.some.inj hv
    exact .p _ _ h6

/-- where the parts of a type stand -/
def placesOf (P : Program) (t : TypeId) : Option (Nat → Option (Nat × Nat)) :=
  match P.underlying t with
  | some (.array _ e) => match P.info? e with
    | some ie => some fun i => some (i * ie.size, ie.size)
    | none => none
  | some (.struct fields) => match fields.toList.mapM (fun f => (P.info? f.type).map fun i => (f.offset, i.size)) with
    | some places => some (places.toArray[·]?)
    | none => none
  | _ => none

theorem s_build {t : TypeId} {it : TypeInfo} {zv : Value} {z : List PV} {place : Nat → Option (Nat × Nat)} {ds : List (Nat × Nat × DV)} {rs : Array (Nat × Value)} {cs : List DV}
    (hi : P.info? t = some it) (hz : it.zero = some zv) (hrel : relZero (.agg z) zv = true) (hp : placesOf P t = some place)
    (hf : All2 (PartRel g H w place) ds rs.toList) (hb : ∀ d ∈ ds, d.1 + d.2.1 ≤ z.length) (h : bc ds (z.map .p) = some cs) :
    ∃ rv, (Instr.build t rs).run P w = .ok rv w ∧ DRel g H w (mkAgg cs) rv := by
  obtain ⟨cells, h1, h2⟩ := fill_rel place ds rs.toList (z.map .p) cs zv.cells hf (by simpa using hb) (zero_cells hrel rfl) h
  refine ⟨.agg cells, run_build w t rs cells ?_, mkAgg_rel h2.2.1 h2.1 h2.2.2⟩
  unfold Program.built
  unfold placesOf at hp
  split at hp
  · rename_i n e hu
    split at hp
    · rename_i ie hie
      obtain rfl := Option.some.inj hp
      simp [hi, hu, hz, hie, h1]
    · simp at hp
  · rename_i fields hu
    split at hp
    · rename_i places hpl
      obtain rfl := Option.some.inj hp
      simp only [hi, hu, hz, hpl]
      exact h1
    · simp at hp
  · simp at hp

/-! ### slices that are written out -/
def idxs : Nat → List Value → List (Nat × Value)
  | _, [] => []
  | j, v :: r => (j, v) :: idxs (j + 1) r

theorem fill_seq (z : Nat) : ∀ (vs : List Value) (j : Nat) (cells : Array Value), (∀ v ∈ vs, v.cells.size = z) → (j + vs.length) * z ≤ cells.size →
    ∃ cells', Instr.fill (fun i => some (i * z, z)) cells (idxs j vs) = some cells' ∧ cells'.size = cells.size ∧
      (∀ (i : Nat) (v : Value) (k : Nat), vs[i]? = some v → k < z → cells'[(j + i) * z + k]? = v.cells[k]?) ∧ (∀ k, k < j * z → cells'[k]? = cells[k]?)
  | [], j, cells, _, _ => ⟨cells, rfl, rfl, fun i v k h => by simp at h, fun _ _ => rfl⟩
  | v :: r, j, cells, hz, hb => by
    have hv := hz v (by simp)
    have hb' : (j + 1 + r.length) * z ≤ cells.size := by simp only [List.length_cons] at hb; rw [show j + 1 + r.length = j + (r.length + 1) by omega]; exact hb
    have hj : j * z + z ≤ cells.size := by
      have := Nat.mul_le_mul_right z (show j + 1 ≤ j + 1 + r.length by omega)
      rw [Nat.add_mul, Nat.one_mul] at this; omega
    have hsz : ¬ (v.cells.size ≠ z || j * z + v.cells.size > cells.size) = true := by
      simp only [ne_eq, decide_not, Bool.or_eq_true, Bool.not_eq_true', decide_eq_false_iff_not, decide_eq_true_eq]
      omega
    simp only [idxs, Instr.fill, hsz, Bool.false_eq_true, if_false]
    obtain ⟨cells', h1, h2, h3, h4⟩ := fill_seq z r (j + 1) (v.cells.zipIdx.foldl (fun cs x => cs.setIfInBounds (j * z + x.2) x.1) cells) (fun u hu => hz u (by simp [hu]))
      (by rw [← Array.foldl_toList, Array.toList_zipIdx, fold_set_size]; exact hb')
    rw [← Array.foldl_toList, Array.toList_zipIdx, fold_set_size] at h2
    have e1 : v.cells.toList.length = v.cells.size := Array.length_toList
    refine ⟨cells', h1, h2, fun i u k hi hk => ?_, fun k hk => ?_⟩
    · cases i with
      | zero =>
        simp at hi; subst hi
        rw [Nat.add_zero]
        rw [h4 (j * z + k) (by rw [Nat.add_mul, Nat.one_mul]; omega), ← Array.foldl_toList, Array.toList_zipIdx, fold_set, e1, if_pos (by omega)]
        simp [show j * z + k - (j * z + 0) = k by omega]
      | succ i =>
        have := h3 i u k (by simpa using hi) hk
        rw [show j + (i + 1) = j + 1 + i by omega]; exact this
    · rw [h4 k (by rw [Nat.add_mul, Nat.one_mul]; omega), ← Array.foldl_toList, Array.toList_zipIdx, fold_set, if_neg (by omega)]

theorem rowsOf_spec (esz : Nat) : ∀ {l : List DV} {els : List (List DV)}, rowsOf esz l = some els → els = l.map cellsD ∧ ∀ x ∈ l, (cellsD x).length = esz ∧ okCells (cellsD x) = true
  | [], els, h => by simp [rowsOf] at h; simp [h]
  | x :: r, els, h => by
    simp only [rowsOf] at h
    split at h
    · rename_i hc
      split at h
      · rename_i l hl
        obtain rfl := Option.some.inj h
        obtain ⟨h1, h2⟩ := rowsOf_spec esz hl
        exact ⟨by simp [h1], fun y hy => by rcases List.mem_cons.1 hy with rfl | hy
                                            · exact hc
                                            · exact h2 y hy⟩
      · simp at h
    · simp at h

theorem r_buildSlice {t e : TypeId} {ie : TypeInfo} {zv : Value} {n : Nat} {vs : List Value} {rs : Array (Nat × Value)} (hu : P.underlying t = some (.slice e)) (hie : P.info? e = some ie)
    (hz : ie.zero = some zv) (hsmall : n * ie.size ≤ 2 ^ 24) (hrs : rs.toList = idxs 0 vs) (hn : vs.length = n) (hv : ∀ v ∈ vs, v.cells.size = ie.size) :
    ∃ cells : Array Value, (Instr.buildSlice t n rs).run P w = .ok (.slice (some ⟨w.heap.size, 0, none⟩) n n) (w.alloc (.cells cells e)) ∧ cells.size = n * ie.size ∧
      ∀ (i : Nat) (v : Value) (k : Nat), vs[i]? = some v → k < ie.size → cells[i * ie.size + k]? = v.cells[k]? := by
  by_cases hpos : n * ie.size = 0
  · obtain ⟨cells', h1, h2, h3, _⟩ := fill_seq ie.size vs 0 #[] hv (by simp [hn, hpos])
    have hsm : ¬ n * ie.size > 2 ^ 24 := by omega
    refine ⟨cells', ?_, by simpa [hpos] using h2, fun i v k hi hk => by simpa using h3 i v k hi hk⟩
    rw [← hrs] at h1
    have h0 : Array.range 0 = #[] := rfl
    simp [Instr.buildSlice, r_under hu, r_size hie, hpos, h0, h1, newRow]
  · obtain ⟨cells', h1, h2, h3, _⟩ := fill_seq ie.size vs 0 ((Array.range (n * ie.size)).map (zv.cells[· % zv.cells.size]!)) hv (by simp [hn])
    refine ⟨cells', ?_, by simpa using h2, fun i v k hi hk => by simpa using h3 i v k hi hk⟩
    rw [← hrs] at h1
    exact run_buildSlice w t e n rs cells' ie zv hu hie hz (by omega) hpos h1

/-- rows of cells that stand for values -/
theorem rows_rel {l : List DV} {vs : List Value} {cells : Array Value} {z : Nat} (hl : l.length = vs.length) (hr : ∀ (i : Nat) (x : DV) (v : Value), l[i]? = some x → vs[i]? = some v → DRel g H w x v)
    (hz : ∀ x ∈ l, (cellsD x).length = z ∧ okCells (cellsD x) = true) (hc : ∀ (i : Nat) (v : Value) (k : Nat), vs[i]? = some v → k < z → cells[i * z + k]? = v.cells[k]?) :
    (∀ v ∈ vs, v.cells.size = z) ∧ (∀ (i : Nat) (e : List DV), (l.map cellsD)[i]? = some e → e.length = z ∧ ∀ d ∈ e, isCell d = true) ∧
    ∀ (i : Nat) (e : List DV) (k : Nat) (d : DV), (l.map cellsD)[i]? = some e → e[k]? = some d → ∃ v, cells[i * z + k]? = some v ∧ DRel g H w d v := by
  refine ⟨fun v hv => ?_, fun i e hi => ?_, fun i e k d hi hk => ?_⟩
  · obtain ⟨i, hi⟩ := List.getElem?_of_mem hv
    have hlt : i < l.length := by have := (List.getElem?_eq_some_iff.1 hi).1; omega
    have h1 : l[i]? = some l[i] := by simp [hlt]
    have h2 := hz _ (List.mem_of_getElem? h1)
    rw [((hr i _ v h1 hi).cells h2.2).1, h2.1]
  · simp only [List.getElem?_map, Option.map_eq_some_iff] at hi
    obtain ⟨x, h1, rfl⟩ := hi
    have h2 := hz _ (List.mem_of_getElem? h1)
    exact ⟨h2.1, okCells_mem h2.2⟩
  · simp only [List.getElem?_map, Option.map_eq_some_iff] at hi
    obtain ⟨x, h1, rfl⟩ := hi
    have h2 := hz _ (List.mem_of_getElem? h1)
    have hlt : i < vs.length := by have := (List.getElem?_eq_some_iff.1 h1).1; omega
    have h3 : vs[i]? = some vs[i] := by simp [hlt]
    obtain ⟨rc, h4, h5, _⟩ := ((hr i x _ h1 h3).cells h2.2).2 k d hk
    exact ⟨rc, by rw [hc i _ k h3 (by have := (List.getElem?_eq_some_iff.1 hk).1; omega), h4], h5⟩

theorem valsOfCells_spec (ag : Bool) : ∀ {els : List (List DV)} {xs : List PV}, valsOfCells ag els = some xs →
    els.length = xs.length ∧ ∀ (i : Nat) (e : List DV), els[i]? = some e → ∃ l x, e = l.map .p ∧ xs[i]? = some x ∧ valOfP ag l = some x
  | [], xs, h => by simp [valsOfCells] at h; subst h; exact ⟨rfl, fun i e hi => by simp at hi⟩
  | cs :: r, xs, h => by
    simp only [valsOfCells] at h
    split at h
    · rename_i l vs h1 h2
      split at h
      · rename_i v h3
        obtain rfl := Option.some.inj h
        obtain ⟨h4, h5⟩ := valsOfCells_spec ag h2
        refine ⟨by simp [h4], fun i e hi => ?_⟩
        cases i with
        | zero => simp at hi; subst hi; exact ⟨l, v, unps_some h1, by simp, h3⟩
        | succ i => obtain ⟨l', x, h6, h7, h8⟩ := h5 i e (by simpa using hi); exact ⟨l', x, h6, by simpa using h7, h8⟩
      · simp at h
    · simp at h

theorem valOfP_cells {ag : Bool} {l : List PV} {x : PV} (h : valOfP ag l = some x) (hk : ∀ c ∈ l, isCellP c = true) : cellsP x = l := by
  unfold valOfP at h
  split at h
  · obtain rfl := Option.some.inj h; rfl
  · split at h
    · rename_i c
      obtain rfl := Option.some.inj h
      have := hk c (by simp)
      cases c <;> first | rfl | (simp [isCellP] at this)
    · simp at h

/-- pure rows of cells as elements -/
theorem isl_of_rows {ag : Bool} {z : Nat} {els : List (List DV)} {xs : List PV} {cells : Array Value} (hx : valsOfCells ag els = some xs)
    (hz : ∀ (i : Nat) (e : List DV), els[i]? = some e → e.length = z ∧ ∀ d ∈ e, isCell d = true)
    (h : ∀ (i : Nat) (e : List DV) (k : Nat) (d : DV), els[i]? = some e → e[k]? = some d → ∃ v, cells[i * z + k]? = some v ∧ DRel g H w d v) :
    els.length = xs.length ∧ (∀ (i : Nat) (x : PV), xs[i]? = some x → (cellsP x).length = z ∧ ∀ y ∈ cellsP x, isCellP y = true) ∧
    ∀ (i : Nat) (x : PV) (k : Nat) (y : PV), xs[i]? = some x → (cellsP x)[k]? = some y → ∃ ry, cells[i * z + k]? = some ry ∧ PRel g.I w y ry := by
  obtain ⟨h1, h2⟩ := valsOfCells_spec ag hx
  have key : ∀ (i : Nat) (x : PV), xs[i]? = some x → ∃ e, els[i]? = some e ∧ e = (cellsP x).map .p ∧ (cellsP x).length = z ∧ ∀ y ∈ cellsP x, isCellP y = true := by
    intro i x hi
    have hlt : i < els.length := by have := (List.getElem?_eq_some_iff.1 hi).1; omega
    have h3 : els[i]? = some els[i] := by simp [hlt]
    obtain ⟨l, x', h4, h5, h6⟩ := h2 i _ h3
    rw [hi] at h5; obtain rfl := Option.some.inj h5
    obtain ⟨h7, h8⟩ := hz i _ h3
    have hk : ∀ c ∈ l, isCellP c = true := fun c hc => h8 (.p c) (by rw [h4]; exact List.mem_map.2 ⟨c, hc, rfl⟩)
    have h9 := valOfP_cells h6 hk
    refine ⟨_, h3, by rw [h9]; exact h4, by rw [h9]; rw [h4, List.length_map] at h7; exact h7, by rw [h9]; exact hk⟩
  refine ⟨h1, fun i x hi => ?_, fun i x k y hi hk => ?_⟩
  · obtain ⟨e, _, _, h5, h6⟩ := key i x hi; exact ⟨h5, h6⟩
  · obtain ⟨e, h3, h4, _, _⟩ := key i x hi
    obtain ⟨v, h5, h6⟩ := h i e k (.p y) h3 (by rw [h4]; simp [hk])
    exact ⟨v, h5, h6.pure⟩

theorem s_buildSl {t e : TypeId} {ie : TypeInfo} {zv : Value} {esz : Nat} {l : List DV} {vs : List Value} {rs : Array (Nat × Value)} {els : List (List DV)} {ag : Bool} (hr : Rel g H w)
    (hu : P.underlying t = some (.slice e)) (hie : P.info? e = some ie) (hsz : ie.size = esz)
    (hz : ie.zero = some zv) (hsmall : l.length * esz ≤ 2 ^ 24) (hrs : rs.toList = idxs 0 vs) (hl : l.length = vs.length)
    (hrel : ∀ (i : Nat) (x : DV) (v : Value), l[i]? = some x → vs[i]? = some v → DRel g H w x v) (hrow : rowsOf esz l = some els) :
    ∃ rv w', (Instr.buildSlice t l.length rs).run P w = .ok rv w' ∧
      (∀ xs, valsOfCells ag els = some xs → Post g H w H (.p (.isl xs)) rv w') ∧
      (∀ gr, Post g H w (H ++ [.vec gr ag esz els]) (.msl H.length 0 els.length) rv w') := by
  subst hsz
  obtain ⟨rfl, hcs⟩ := rowsOf_spec _ hrow
  have hv : ∀ v ∈ vs, v.cells.size = ie.size := by
    intro v hv
    obtain ⟨i, hi⟩ := List.getElem?_of_mem hv
    have hlt : i < l.length := by have := (List.getElem?_eq_some_iff.1 hi).1; omega
    have h1 : l[i]? = some l[i] := by simp [hlt]
    have h2 := hcs _ (List.mem_of_getElem? h1)
    rw [((hrel i _ v h1 hi).cells h2.2).1, h2.1]
  obtain ⟨cells, h1, h2, h3⟩ := r_buildSlice (w := w) (P := P) hu hie hz hsmall hrs hl.symm hv
  obtain ⟨_, h5, h6⟩ := rows_rel hl hrel hcs h3
  refine ⟨_, _, h1, fun xs hx => ?_, fun gr => ?_⟩
  · obtain ⟨h7, h8, h9⟩ := isl_of_rows hx h5 h6
    have hlx : l.length = xs.length := by simpa using h7
    refine new_isl (z := ie.size) (c := cells) (o := .cells cells e) hr hlx (Nat.le_refl _) (fun k hk => World.cell?_alloc_new _ _ _ _) ?_ h8 h9
    exact alloc_val hr _ _
  · obtain ⟨h7, h8⟩ := new_vec (gr := gr) (ag := ag) (z := ie.size) (els := l.map cellsD) (c := cells) (t := e) hr (by simp [h2]) h5 h6
    refine ⟨_, h7, h8, ?_⟩
    have hc : csize (w.alloc (.cells cells e)) w.heap.size = l.length * ie.size := by rw [csize_alloc, h2]
    cases gr with
    | false =>
      have := DRel.fmsl (g := g.put H.length w.heap.size (if false then (l.map cellsD).length * ie.size else 0)) (w := w.alloc (.cells cells e)) H.length 0 (l.map cellsD).length l.length w.heap.size ie.size ag
        (l.map cellsD) (look_last _) (by simp [Gh.put]) (by simp) (by simp) (by simp [hc])
      simpa using this
    | true =>
      have := DRel.gmsl (g := g.put H.length w.heap.size (if true then (l.map cellsD).length * ie.size else 0)) (w := w.alloc (.cells cells e)) H.length 0 (l.map cellsD).length l.length w.heap.size ie.size
        ⟨w.heap.size, 0, none⟩ ag (l.map cellsD) (look_last _) (by simp [Gh.put]) rfl (by simp) (by simp) (fun m hm => by
          refine ⟨?_, by simp⟩
          simp only [Gh.put, if_true, Nat.zero_add]
          exact .inr ⟨trivial, hm⟩) (fun _ _ => ⟨rfl, by simp [hc]⟩)
      simpa using this

end Go.Lv

/- Operations, one by one: what is written. -/
namespace Go.Lv
set_option linter.unusedVariables false
set_option linter.unusedSimpArgs false
variable {P : Program} {g : Gh} {H : Heap} {w : World}

/-- A step that turns one world's block, that one block of the heap stands for, and makes new ones. -/
structure Step1 (g : Gh) (H : Heap) (w : World) (g' : Gh) (H' : Heap) (w' : World) (b0 : Nat) (k0 : Blk) (R0 : Nat) : Prop where
  hb : H[b0]? = some k0
  ha : k0.alive
  hφ : g.φ b0 = some R0
  size : w.heap.size ≤ w'.heap.size
  same : ∀ R, R < w.heap.size → R ≠ R0 → w'.heap[R]? = w.heap[R]?
  cs : csize w R0 ≤ csize w' R0
  tape : w'.tape = w.tape ∧ w'.os = w.os ∧ w'.output = w.output
  I1 : ∀ R o, g.I R o → g'.I R o
  Ic : ∀ o, g.I R0 o → w'.cell? ⟨R0, o, none⟩ = w.cell? ⟨R0, o, none⟩
  Im : ∀ es c o, g.I R0 o → w.heap[R0]? = some (.map es c) → w'.heap[R0]? = some (.map es c)
  I2 : ∀ R o, g'.I R o → g.I R o ∨ R = R0 ∨ w.heap.size ≤ R
  H1 : ∀ (b : Nat) (k : Blk), H[b]? = some k → b ≠ b0 → H'[b]? = some k ∧ g'.φ b = g.φ b
  H0 : ∃ k', H'[b0]? = some k' ∧ Turns g w g' w' b0 k0 k'
  Hn : ∀ (b : Nat) (k' : Blk), H'[b]? = some k' → k'.alive → (b ≠ b0 ∧ H[b]? = some k') ∨ ((b = b0 ∨ H.length ≤ b) ∧ ∃ R', g'.φ b = some R' ∧ (R' = R0 ∨ w.heap.size ≤ R') ∧ R' < w'.heap.size)
  len : H.length ≤ H'.length

theorem Step1.ev {g' : Gh} {H' : Heap} {w' : World} {b0 : Nat} {k0 : Blk} {R0 : Nat} (hr : Rel g H w) (s : Step1 g H w g' H' w' b0 k0 R0) : Ev g H w g' H' w' where
  keeps := fun R o h => by
    have hR := hr.low R o h
    by_cases e : R = R0
    · subst e; exact ⟨s.I1 _ _ h, s.Ic o h, fun es c hh => s.Im es c o h hh⟩
    · exact ⟨s.I1 _ _ h, cell?_of_heap (s.same R hR e) o, fun es c hh => by rw [s.same R hR e, hh]⟩
  free := fun R hR hf => s.same R hR fun e => hf b0 k0 s.hb s.ha (by rw [s.hφ, e])
  size := s.size
  cs := fun R hR => by
    by_cases e : R = R0
    · subst e; exact s.cs
    · exact Nat.le_of_eq (csize_of_heap (s.same R hR e)).symm
  tape := s.tape
  len := s.len
  blk := fun b k hb => by
    by_cases e : b = b0
    · subst e
      rw [s.hb] at hb; obtain rfl := Option.some.inj hb
      exact s.H0
    · obtain ⟨h1, h2⟩ := s.H1 b k hb e
      refine ⟨k, h1, Turns.stay hr hb h2 fun R ha hR => ?_⟩
      obtain ⟨R', h3, h4, _⟩ := hr.blk b k hb ha
      rw [hR] at h3; obtain rfl := Option.some.inj h3
      exact s.same R h4 fun e' => by subst e'; exact e (hr.inj b b0 k k0 R hb ha s.hb s.ha hR s.hφ)
  newI := fun R o h => by
    rcases s.I2 R o h with h1 | h1 | h1
    · exact .inl h1
    · subst h1; exact .inr (.inr fun hf => hf b0 k0 s.hb s.ha s.hφ)
    · exact .inr (.inl h1)
  newφ := fun b k' R hb ha hR => by
    rcases s.Hn b k' hb ha with ⟨h1, h2⟩ | ⟨_, R', h3, h4, _⟩
    · rw [(s.H1 b k' h2 h1).2] at hR
      exact .inr fun hf => hf b k' h2 ha hR
    · rw [hR] at h3; obtain rfl := Option.some.inj h3
      rcases h4 with rfl | h4
      · exact .inr fun hf => hf b0 k0 s.hb s.ha s.hφ
      · exact .inl h4

theorem Step1.rel {g' : Gh} {H' : Heap} {w' : World} {b0 : Nat} {k0 : Blk} {R0 : Nat} (hr : Rel g H w) (s : Step1 g H w g' H' w' b0 k0 R0)
    (hk : ∀ (b : Nat) (k' : Blk) (R : Nat), H'[b]? = some k' → k'.alive → (b = b0 ∨ H.length ≤ b) → g'.φ b = some R → BlkRel g' H' w' R k')
    (hi : ∀ (b b' : Nat) (k k' : Blk) (R : Nat), H'[b]? = some k → k.alive → H'[b']? = some k' → k'.alive → (b = b0 ∨ H.length ≤ b) → (b' = b0 ∨ H.length ≤ b') → g'.φ b = some R → g'.φ b' = some R → b = b')
    (hlow : ∀ R o, g'.I R o → R < w'.heap.size) : Rel g' H' w' where
  blk := fun b k' hb ha => by
    rcases s.Hn b k' hb ha with ⟨h1, h2⟩ | ⟨h0, R', h3, h4, h5⟩
    · obtain ⟨R, h3, h4, h5⟩ := hr.blk b k' h2 ha
      have hne : R ≠ R0 := fun e => by subst e; exact h1 (hr.inj b b0 k' k0 R h2 ha s.hb s.ha h3 s.hφ)
      refine ⟨R, by rw [(s.H1 b k' h2 h1).2, h3], Nat.lt_of_lt_of_le h4 s.size, h5.mono (s.ev hr) (s.same R h4 hne) fun o => ⟨fun h => ?_, s.I1 R o⟩⟩
      rcases s.I2 R o h with h | h | h
      · exact h
      · exact absurd h hne
      · omega
    · exact ⟨R', h3, h5, hk b k' R' hb ha h0 h3⟩
  inj := fun b b' k k' R hb ha hb' ha' hR hR' => by
    rcases s.Hn b k hb ha with ⟨h1, h2⟩ | ⟨h0, R1, h3, h4, _⟩ <;> rcases s.Hn b' k' hb' ha' with ⟨h1', h2'⟩ | ⟨h0', R1', h3', h4', _⟩
    · rw [(s.H1 b k h2 h1).2] at hR
      rw [(s.H1 b' k' h2' h1').2] at hR'
      exact hr.inj b b' k k' R h2 ha h2' ha' hR hR'
    · rw [(s.H1 b k h2 h1).2] at hR
      rw [hR'] at h3'; obtain rfl := Option.some.inj h3'
      obtain ⟨R2, h5, h6, _⟩ := hr.blk b k h2 ha
      rw [hR] at h5; obtain rfl := Option.some.inj h5
      rcases h4' with rfl | h4'
      · exact absurd (hr.inj b b0 k k0 R h2 ha s.hb s.ha hR s.hφ) h1
      · omega
    · rw [(s.H1 b' k' h2' h1').2] at hR'
      rw [hR] at h3; obtain rfl := Option.some.inj h3
      obtain ⟨R2, h5, h6, _⟩ := hr.blk b' k' h2' ha'
      rw [hR'] at h5; obtain rfl := Option.some.inj h5
      rcases h4 with rfl | h4
      · exact absurd (hr.inj b' b0 k' k0 R h2' ha' s.hb s.ha hR' s.hφ) h1'
      · omega
    · exact hi b b' k k' R hb ha hb' ha' h0 h0' hR hR'
  low := hlow

/-! ### cells are written -/
theorem heap_setCell {a : Addr} {v : Value} {c : Array Value} {t : TypeId} {fr : Nat × Nat} (hs : a.spot = none) (hc : w.heap[a.block]? = some (.cells c t fr)) :
    (w.setCell a v).heap[a.block]? = some (.cells (c.setIfInBounds a.off v) t fr) ∧ ∀ R, R ≠ a.block → (w.setCell a v).heap[R]? = w.heap[R]? := by
  refine ⟨by simp [World.setCell, Array.getElem?_modify, hc, hs], fun R hR => ?_⟩
  simp [World.setCell, Array.getElem?_modify, Ne.symm hR]

theorem r_storeCells {a : Addr} (hs : a.spot = none) : ∀ (l : List Value) (i : Nat) (w : World) (c : Array Value) (t : TypeId) (fr : Nat × Nat),
    w.heap[a.block]? = some (.cells c t fr) → (fr.1 = fr.2 ∨ c.size ≤ fr.1) → a.off + i + l.length ≤ c.size → (∀ v ∈ l, v.oneCell' = true) →
    ∃ w' c', (storeCells a l i).run P w = .ok () w' ∧ w'.heap[a.block]? = some (.cells c' t fr) ∧ c'.size = c.size ∧
      (∀ k, c'[k]? = if a.off + i ≤ k ∧ k < a.off + i + l.length then l[k - (a.off + i)]? else c[k]?) ∧
      (∀ R, R ≠ a.block → w'.heap[R]? = w.heap[R]?) ∧ w'.heap.size = w.heap.size ∧ w'.tape = w.tape ∧ w'.os = w.os ∧ w'.output = w.output
  | [], i, w, c, t, fr, hc, hf, hb, hv => ⟨w, c, by simp [storeCells], hc, rfl, fun k => by rw [if_neg (by simp only [List.length_nil]; omega)], fun _ _ => rfl, rfl, rfl, rfl, rfl⟩
  | v :: r, i, w, c, t, fr, hc, hf, hb, hv => by
    simp only [List.length_cons] at hb
    have hcell : w.cell? (a.add i) = c[a.off + i]? := by rw [add_eq hs]; simp [World.cell?, hc]
    have hlt : a.off + i < c.size := by omega
    have hfz : w.frozen? (a.add i) = false := by
      rw [add_eq hs]
      simp only [World.frozen?, hc]
      rcases hf with hf | hf
      · simp; omega
      · simp; omega
    have hst : (store (a.add i) v).run P w = .ok () (w.setCell (a.add i) v) := by
      rw [run_store P w _ v _ (hv v (by simp)), hcell]
      simp [hlt, hfz]
    have hh := heap_setCell (w := w) (a := a.add i) (v := v) (c := c) (t := t) (fr := fr) (by rw [add_eq hs]) (by rw [add_eq hs]; exact hc)
    rw [add_eq hs] at hh
    simp only at hh
    obtain ⟨w', c', h1, h2, h3, h4, h5, h6, h7⟩ := r_storeCells hs r (i + 1) (w.setCell (a.add i) v) (c.setIfInBounds (a.off + i) v) t fr (by rw [add_eq hs]; exact hh.1) (by simpa using hf) (by simp; omega) (fun u hu => hv u (by simp [hu]))
    refine ⟨w', c', by simp only [storeCells, Sem.run_bind, hst, Result.andThen_ok, h1], h2, by simpa using h3, fun k => ?_, fun R hR => (h5 R hR).trans (by rw [add_eq hs]; exact hh.2 R hR), by rw [h6]; simp, h7⟩
    rw [h4 k]
    simp only [List.length_cons]
    by_cases e : k = a.off + i
    · subst e
      rw [if_neg (by omega), if_pos (by omega)]
      simp [hlt]
    · by_cases e2 : a.off + i ≤ k ∧ k < a.off + i + (r.length + 1)
      · rw [if_pos (by omega), if_pos e2]
        obtain ⟨d, hd⟩ : ∃ d, k - (a.off + i) = d + 1 := ⟨k - (a.off + i) - 1, by omega⟩
        rw [hd, List.getElem?_cons_succ]
        congr 1; omega
      · rw [if_neg (by omega), if_neg e2, Array.getElem?_setIfInBounds_ne (by omega)]

theorem csize_eq {R : Nat} {c : Array Value} {t : TypeId} {fr : Nat × Nat} (h : w.heap[R]? = some (.cells c t fr)) : csize w R = c.size := by simp [csize, h]
theorem cell?_eq {R o : Nat} {c : Array Value} {t : TypeId} {fr : Nat × Nat} (h : w.heap[R]? = some (.cells c t fr)) : w.cell? ⟨R, o, none⟩ = c[o]? := by simp [World.cell?, h]

/-- what lies in a row of elements at a place -/
theorem row_div {z i k i' k' : Nat} (hk : k < z) (hk' : k' < z) (h : i * z + k = i' * z + k') : i = i' ∧ k = k' := by
  have h1 : (i * z + k) / z = i := by rw [Nat.add_comm, Nat.add_mul_div_right _ _ (by omega), Nat.div_eq_of_lt hk]; omega
  have h2 : (i' * z + k') / z = i' := by rw [Nat.add_comm, Nat.add_mul_div_right _ _ (by omega), Nat.div_eq_of_lt hk']; omega
  have : i = i' := by rw [← h1, ← h2, h]
  subst this
  exact ⟨rfl, by omega⟩

theorem s_store {t : TypeId} {n z : Nat} {i : TypeInfo} {b j o : Nat} {v : DV} {rx rv : Value} {ag : Bool} {els : List (List DV)} {cs : List DV} (hr : Rel g H w) (hi : P.info? t = some i) (hsz : i.size = n)
    (hx : DRel g H w (.ptr b j o) rx) (hv : DRel g H w v rv) (hb : H[b]? = some (.vec false ag z els)) (hj : els[j]? = some cs) (hl : (cellsD v).length = n) (hk : okCells (cellsD v) = true) (ho : o + n ≤ cs.length) :
    ∃ w', (Instr.storeAt t rx rv).run P w = .ok () w' ∧ ∃ g', Rel g' (H.set b (.vec false ag z (els.set j (putAt cs o (cellsD v))))) w' ∧
      Ev g H w g' (H.set b (.vec false ag z (els.set j (putAt cs o (cellsD v))))) w' := by
  obtain ⟨R, hφ, hR, ⟨c, ty, fr, hc, hcl, hf⟩, hlen, hcell, hI⟩ := hr.blk b _ hb trivial
  obtain ⟨h1, h2⟩ := hv.cells hk
  have hcs := hlen j cs hj
  have hjl : j < els.length := (List.getElem?_eq_some_iff.1 hj).1
  cases hx with
  | dptr b j o A h => rw [hb] at h; simp at h
  | gptr b j o R' z' A ag' els' hH => rw [hb] at hH; simp at hH
  | fptr b j o R' z' ag' els' hH hφ' =>
    rw [hb] at hH
    simp only [Option.some.injEq, Blk.vec.injEq] at hH
    obtain ⟨_, rfl, rfl, rfl⟩ := hH
    rw [hφ] at hφ'; obtain rfl := Option.some.inj hφ'
    have hmul := mul_le_of_lt (z := z) hjl
    have hlist : rv.cells.toList.length = n := by rw [Array.length_toList, h1, hl]
    obtain ⟨w', c', e1, e2, e3, e4, e5, e6, e7⟩ := r_storeCells (P := P) (a := ⟨R, j * z + o, none⟩) rfl rv.cells.toList 0 w c ty fr hc hf (by simp only [hlist]; omega) (fun u hu => by
      obtain ⟨k, hk'⟩ := List.getElem?_of_mem hu
      have hlt : k < (cellsD v).length := by have := (List.getElem?_eq_some_iff.1 hk').1; omega
      obtain ⟨rc, h3, h4, h5⟩ := h2 k (cellsD v)[k] (by simp [hlt])
      rw [Array.getElem?_toList, h3] at hk'
      obtain rfl := Option.some.inj hk'; exact h5)
    simp only [Nat.add_zero, hlist] at e4
    have hw : Wrote w w' R := ⟨e6, e5, by rw [csize_eq hc, csize_eq e2, e3]; exact Nat.le_refl _, e7⟩
    have hnI : ∀ o', ¬ g.I R o' := fun o' h => by have := (hI o').1 h; simp at this
    have hev : Ev g H w g (H.set b (.vec false ag z (els.set j (putAt cs o (cellsD v))))) w' :=
      Ev.write hr hb trivial hφ hw rfl (fun _ _ h => h) (fun _ _ _ h => h) (fun o' h => absurd h (hnI o')) (fun _ _ o' h => absurd h (hnI o')) (.inl ⟨_, rfl, by simp, rfl⟩)
    refine ⟨w', ?_, g, rel_write hr hb trivial hφ hw rfl (fun _ _ h => h) (fun _ _ _ h => h) hev (fun _ => ?_), hev⟩
    · have hne : ¬ rv.cells.size ≠ i.size := by rw [h1, hl, hsz]; simp
      simp only [Instr.storeAt, Instr.sureAddr, storeVar, Sem.run_bind, Sem.run_pure, Result.andThen_ok, r_size hi, hne, if_false]
      exact e1
    · refine ⟨⟨c', ty, fr, e2, by rw [e3]; simpa using hcl, by rw [e3]; exact hf⟩, fun i' e he => ?_, fun i' e k d he hd => ?_, fun o' => by rw [hI]; simp⟩
      · rw [List.getElem?_set] at he
        split at he
        · rename_i hij; subst hij
          simp [hjl] at he; subst he
          refine ⟨by rw [putAt_len]; exact hcs.1, fun d hd => ?_⟩
          obtain ⟨k, hk'⟩ := List.getElem?_of_mem hd
          rw [putAt_get] at hk'
          split at hk'
          · exact okCells_mem hk d (List.mem_of_getElem? hk')
          · exact hcs.2 d (List.mem_of_getElem? hk')
        · exact hlen i' e he
      · rw [cell?_eq e2, e4]
        rw [List.getElem?_set] at he
        split at he
        · rename_i hij; subst hij
          simp [hjl] at he; subst he
          have hkz : k < z := by have := (List.getElem?_eq_some_iff.1 hd).1; rw [putAt_len] at this; omega
          rw [putAt_get] at hd
          split at hd
          · rename_i hc'
            rw [if_pos (by omega)]
            obtain ⟨rc, h3, h4, _⟩ := h2 (k - o) d hd
            exact ⟨rc, by rw [show j * z + k - (j * z + o) = k - o by omega, Array.getElem?_toList, h3], h4.mono hev⟩
          · rename_i hc'
            rw [if_neg (by omega)]
            obtain ⟨v0, h3, h4⟩ := hcell j cs k d hj hd
            rw [cell?_eq hc] at h3
            exact ⟨v0, h3, h4.mono hev⟩
        · rename_i hij
          have hkz : k < z := by have := (List.getElem?_eq_some_iff.1 hd).1; have := (hlen i' e he).1; omega
          have hne : ¬ (j * z + o ≤ i' * z + k ∧ i' * z + k < j * z + o + n) := by
            rintro ⟨h5, h6⟩
            obtain ⟨q, hq⟩ : ∃ q, i' * z + k = j * z + q := ⟨i' * z + k - j * z, by omega⟩
            have := row_div hkz (by omega) hq
            omega
          rw [if_neg hne]
          obtain ⟨v0, h3, h4⟩ := hcell i' e k d he hd
          rw [cell?_eq hc] at h3
          exact ⟨v0, h3, h4.mono hev⟩

end Go.Lv

/- Operations, one by one: append. -/
namespace Go.Lv
set_option linter.unusedVariables false
set_option linter.unusedSimpArgs false
variable {P : Program} {g : Gh} {H : Heap} {w : World}

theorem cellsOfVals_eq : ∀ xs : List PV, cellsOfVals xs = xs.map fun x => (cellsP x).map .p
  | [] => rfl
  | x :: r => by simp [cellsOfVals, cellsOfVals_eq r]
theorem byteCells_eq : ∀ s : List Nat, byteCells s = s.map fun (c : Nat) => [DV.p (.int .u8 (c : Int))]
  | [] => rfl
  | c :: r => by simp [byteCells, byteCells_eq r]
theorem byteVals_eq : ∀ s : List Nat, byteVals s = s.map fun (c : Nat) => PV.int .u8 (c : Int)
  | [] => rfl
  | c :: r => by simp [byteVals, byteVals_eq r]

/-- rows of cells in an array -/
def Rows (g : Gh) (H : Heap) (w : World) (z : Nat) (ys : List (List DV)) (nw : Array Value) : Prop :=
  nw.size = ys.length * z ∧ (∀ (i : Nat) (e : List DV), ys[i]? = some e → e.length = z ∧ ∀ d ∈ e, isCell d = true) ∧
  ∀ (i : Nat) (e : List DV) (k : Nat) (d : DV), ys[i]? = some e → e[k]? = some d → ∃ v, nw[i * z + k]? = some v ∧ DRel g H w d v ∧ v.oneCell' = true

theorem r_rows {A : Addr} (hs : A.spot = none) (n z : Nat) (h : ∀ j k, j < n → k < z → ∃ v, w.cell? ⟨A.block, A.off + (j * z + k), none⟩ = some v) :
    ∃ nw : Array Value, (loadCells A (n * z)).run P w = .ok nw w ∧ nw.size = n * z ∧ ∀ j k, j < n → k < z → nw[j * z + k]? = w.cell? ⟨A.block, A.off + (j * z + k), none⟩ := by
  let f : Nat → Value := fun m => (w.cell? ⟨A.block, A.off + m, none⟩).getD Go.undef
  have hf : ∀ m, m < n * z → w.cell? ⟨A.block, A.off + m, none⟩ = some (f m) := fun m hm => by
    have hz : 0 < z := by rcases Nat.eq_zero_or_pos z with h0 | h0
                          · subst h0; simp at hm
                          · exact h0
    have h1 : m / z < n := Nat.div_lt_of_lt_mul (by rw [Nat.mul_comm]; exact hm)
    have h2 : m % z < z := Nat.mod_lt _ hz
    obtain ⟨v, hv⟩ := h _ _ h1 h2
    rw [show m / z * z + m % z = m by rw [Nat.mul_comm]; exact Nat.div_add_mod m z] at hv
    simp only [f, hv, Option.getD_some]
  refine ⟨((List.range (n * z)).map f).toArray, r_loadCells hs f _ hf, by simp, fun j k hj hk => ?_⟩
  have hlt := mul_le_of_lt (z := z) hj
  rw [hf _ (by omega)]
  simp [show j * z + k < n * z by omega]

theorem s_elems {esz : Nat} {x : DV} {rx : Value} {ys : List (List DV)} (hr : Rel g H w) (h : DRel g H w x rx) (he : elems H x = some ys) (hh : headLen esz ys = true) :
    ∃ nw, (Builtin.lenOf rx).run P w = .ok ys.length w ∧ (Builtin.firstCells esz ys.length rx).run P w = .ok nw w ∧ Rows g H w esz ys nw := by
  unfold elems at he
  split at he
  · obtain rfl := Option.some.inj he
    have := h.pure; cases this
    exact ⟨#[], by simp [Builtin.lenOf], by simp [Builtin.firstCells], by simp, fun i e hi => by simp at hi, fun i e k d hi => by simp at hi⟩
  · rename_i xs
    obtain rfl := Option.some.inj he
    have := h.pure
    cases this with
    | isl xs n A cap sz r hn hs hcap hsz hc hh' =>
      subst hn
      rw [cellsOfVals_eq] at hh ⊢
      have hz : xs = [] ∨ sz = esz := by
        cases xs with
        | nil => exact .inl rfl
        | cons x xs =>
          simp only [List.map_cons, headLen, beq_iff_eq, List.length_map] at hh
          exact .inr (by rw [← (hsz 0 x (by simp)).1, hh])
      rcases hz with rfl | rfl
      · exact ⟨#[], by simp [Builtin.lenOf], by simp [Builtin.firstCells, loadCells, loadCellsFrom], by simp, fun i e hi => by simp at hi, fun i e k d hi => by simp at hi⟩
      · obtain ⟨nw, h1, h2, h3⟩ := r_rows (P := P) (w := w) hs xs.length sz (fun j k hj hk => ⟨_, by rw [← Nat.add_assoc]; exact (hc j k hj hk).2⟩)
        refine ⟨nw, by simp [Builtin.lenOf], by simp [Builtin.firstCells, h1], by simpa using h2, fun i e hi => ?_, fun i e k d hi hk => ?_⟩
        · simp only [List.getElem?_map, Option.map_eq_some_iff] at hi
          obtain ⟨x, h4, rfl⟩ := hi
          refine ⟨by rw [List.length_map]; exact (hsz i x h4).1, fun d hd => ?_⟩
          obtain ⟨c, h5, rfl⟩ := List.mem_map.1 hd
          exact (hsz i x h4).2 c h5
        · simp only [List.getElem?_map, Option.map_eq_some_iff] at hi
          obtain ⟨x, h4, rfl⟩ := hi
          simp only [List.getElem?_map, Option.map_eq_some_iff] at hk
          obtain ⟨c, h5, rfl⟩ := hk
          have hi' : i < xs.length := (List.getElem?_eq_some_iff.1 h4).1
          have hk' : k < sz := by rw [← (hsz i x h4).1]; exact (List.getElem?_eq_some_iff.1 h5).1
          have h6 := hh' i x k c h4 h5
          refine ⟨r i k, by rw [h3 i k hi' hk', ← Nat.add_assoc]; exact (hc i k hi' hk').2, .p _ _ h6, (h6.cell ((hsz i x h4).2 c (List.mem_of_getElem? h5))).1⟩
  · rename_i s
    obtain rfl := Option.some.inj he
    obtain ⟨b, rfl, rfl⟩ := h.str
    have hlen : b.data.toList.length = b.size := Array.length_toList
    rw [byteCells_eq] at hh ⊢
    have hl : ((b.data.toList.map UInt8.toNat).map fun (c : Nat) => [DV.p (.int .u8 (c : Int))]).length = b.size := by simp only [List.length_map, hlen]
    have hz : b.size = 0 ∨ esz = 1 := by
      cases hb : b.data.toList with
      | nil => left; rw [← hlen, hb]; rfl
      | cons x xs => rw [hb] at hh; simp only [List.map_cons, headLen, beq_iff_eq, List.length_cons, List.length_nil] at hh; exact .inr hh.symm
    have hex : (b.extract 0 b.size).data.map (fun x => Value.int .u8 x.toNat) = b.data.map fun x => Value.int .u8 x.toNat := by
      rw [ByteArray.data_extract]; congr 1; exact Array.extract_size ..
    refine ⟨b.data.map fun x => .int .u8 x.toNat, by simp [Builtin.lenOf], by rw [hl]; simp only [Builtin.firstCells, hex]; exact Sem.run_pure .., ?_, fun i e hi => ?_, fun i e k d hi hk => ?_⟩
    · rw [hl]
      rcases hz with hz | hz
      · simp [hz]
      · rw [hz, Nat.mul_one]; simp
    · simp only [List.getElem?_map, Option.map_eq_some_iff] at hi
      obtain ⟨c, ⟨x, h4, rfl⟩, rfl⟩ := hi
      refine ⟨?_, by simp [isCell, isCellP]⟩
      rcases hz with hz | hz
      · have := (List.getElem?_eq_some_iff.1 h4).1; omega
      · simp [hz]
    · simp only [List.getElem?_map, Option.map_eq_some_iff] at hi
      obtain ⟨c, ⟨x, h4, rfl⟩, rfl⟩ := hi
      have hlt := (List.getElem?_eq_some_iff.1 h4).1
      have hz1 : esz = 1 := by rcases hz with hz | hz
                               · omega
                               · exact hz
      subst hz1
      cases k with
      | succ k => simp at hk
      | zero =>
        simp at hk; subst hk
        refine ⟨.int .u8 x.toNat, ?_, .p _ _ (.int _ _), rfl⟩
        rw [Array.getElem?_toList] at h4
        simp only [Nat.mul_one, Nat.add_zero, Array.getElem?_map, h4, Option.map_some]
  · rename_i b off len
    rw [getN_eq] at he
    split at he
    · rename_i gr ag z els hb
      simp only [takeN_eq, dropN_eq] at he
      split at he
      · rename_i hl
        obtain rfl := Option.some.inj he
        obtain ⟨R, hφ, hR, ⟨c, ty, fr, hc, hcl, hf⟩, hlen, hcell, hI⟩ := hr.blk b _ hb trivial
        have hbd : off + len ≤ els.length ∨ len = 0 := by simp only [List.length_take, List.length_drop] at hl; omega
        have look : ∀ (i : Nat) (e : List DV), ((els.drop off).take len)[i]? = some e → els[off + i]? = some e ∧ i < len := fun i e hi => by
          rw [List.getElem?_take] at hi
          split at hi
          · rename_i h1; rw [List.getElem?_drop] at hi; exact ⟨hi, h1⟩
          · simp at hi
        have hz : len = 0 ∨ z = esz := by
          rcases Nat.eq_zero_or_pos len with h0 | h0
          · exact .inl h0
          · cases hd : (els.drop off).take len with
            | nil => rw [hd] at hl; simp at hl; omega
            | cons e r =>
              rw [hd] at hh
              simp only [headLen, beq_iff_eq] at hh
              have := look 0 e (by rw [hd]; rfl)
              exact .inr (by rw [← (hlen _ _ this.1).1, hh])
        have go : ∀ (A : Addr) (cap : Nat), rx = .slice (some A) len cap → A.spot = none → (∀ m, m < len * z → w.cell? ⟨A.block, A.off + m, none⟩ = w.cell? ⟨R, off * z + m, none⟩) →
            ∃ nw, (Builtin.lenOf rx).run P w = .ok ((els.drop off).take len).length w ∧ (Builtin.firstCells esz ((els.drop off).take len).length rx).run P w = .ok nw w ∧ Rows g H w esz ((els.drop off).take len) nw := by
          intro A cap hrx hs hA
          subst hrx
          rw [hl]
          rcases hz with h0 | rfl
          · have hnil : (els.drop off).take len = [] := by rw [h0]; rfl
            rw [hnil]
            exact ⟨#[], by simp [Builtin.lenOf], by simp [Builtin.firstCells, h0, loadCells, loadCellsFrom], by simp, fun i e hi => by simp at hi, fun i e k d hi => by simp at hi⟩
          · have hcells : ∀ j k, j < len → k < z → ∃ v, w.cell? ⟨A.block, A.off + (j * z + k), none⟩ = some v := fun j k hj hk => by
              have hm := mul_le_of_lt (z := z) hj
              rw [hA _ (by omega)]
              have hj' : off + j < els.length := by omega
              have h1 := hlen (off + j) els[off + j] (by simp [hj'])
              obtain ⟨v, h2, _⟩ := hcell (off + j) els[off + j] k (els[off + j][k]'(by omega)) (by simp [hj']) (by simp [show k < els[off + j].length by omega])
              exact ⟨v, by rw [← h2]; congr 2; rw [Nat.add_mul]; omega⟩
            obtain ⟨nw, h1, h2, h3⟩ := r_rows (P := P) (w := w) hs len z hcells
            refine ⟨nw, by simp [Builtin.lenOf], by simp [Builtin.firstCells, h1], by rw [hl]; exact h2, fun i e hi => hlen _ e (look i e hi).1, fun i e k d hi hk => ?_⟩
            obtain ⟨h4, h5⟩ := look i e hi
            have hkz : k < z := by rw [← (hlen _ e h4).1]; exact (List.getElem?_eq_some_iff.1 hk).1
            have hm := mul_le_of_lt (z := z) h5
            obtain ⟨v, h6, h7⟩ := hcell _ e k d h4 hk
            refine ⟨v, ?_, h7, (h7.cell ((hlen _ e h4).2 d (List.mem_of_getElem? hk))).1⟩
            rw [h3 i k h5 hkz, hA _ (by omega), ← h6]
            congr 2; rw [Nat.add_mul]; omega
        cases h with
        | dmsl b off len cap A h => rw [hb] at h; simp at h
        | fmsl b off len cap R' z' ag' els' hH hφ' hbd' hcap hc' =>
          rw [hb] at hH
          simp only [Option.some.injEq, Blk.vec.injEq] at hH
          obtain ⟨rfl, rfl, rfl, rfl⟩ := hH
          rw [hφ] at hφ'; obtain rfl := Option.some.inj hφ'
          exact go _ cap rfl rfl fun m hm => rfl
        | gmsl b off len cap R' z' A ag' els' hH hφ' hs hbd' hcap hc' hf' =>
          rw [hb] at hH
          simp only [Option.some.injEq, Blk.vec.injEq] at hH
          obtain ⟨rfl, rfl, rfl, rfl⟩ := hH
          rw [hφ] at hφ'; obtain rfl := Option.some.inj hφ'
          exact go A cap rfl hs fun m hm => (hc' m hm).2
      · simp at he
    · simp at he
  · simp at he

end Go.Lv

/- Operations, one by one: append, second part. -/
namespace Go.Lv
set_option linter.unusedVariables false
set_option linter.unusedSimpArgs false
variable {P : Program} {g : Gh} {H : Heap} {w : World}

theorem growBy_le (n : Nat) : ∀ (r c : Nat), Builtin.growBy n r c ≤ max c (n + (n + 768) / 4)
  | 0, c => by simp [Builtin.growBy]; omega
  | r + 1, c => by
    simp only [Builtin.growBy]
    split
    · omega
    · have := growBy_le n r (c + (c + 768) / 4)
      omega

theorem nextcap_le {n c : Nat} (h : c < n) : Builtin.nextslicecap n c ≤ 2 * n + 1000 := by
  unfold Builtin.nextslicecap
  split
  · omega
  · split
    · omega
    · have := growBy_le n 4 c
      omega

theorem nextcap_bytes {n c b : Nat} (h : c < n) (hn : n < 1073741824) (hb : b ≤ 65536) : ¬ Builtin.nextslicecap n c * b > 2 ^ 48 := by
  have h1 := nextcap_le h
  have h2 : Builtin.nextslicecap n c * b ≤ (2 * n + 1000) * 65536 := Nat.mul_le_mul h1 hb
  have h3 : (2 : Nat) ^ 48 = 281474976710656 := by decide
  omega

/-- what append asks of the types -/
structure AppTy (P : Program) (sT xT e : TypeId) (inf : TypeInfo) (zv : Value) (z : Nat) : Prop where
  hs : P.underlying sT = some (.slice e)
  hx : ∃ d, P.underlying xT = some d ∧ ∀ k, d ≠ .int k
  hi : P.info? e = some inf
  hz : inf.size = z
  zero : inf.zero = some zv
  zsize : zv.cells.size = z
  bytes : inf.bytes ≤ 65536

theorem r_append {sT xT e ty : TypeId} {inf : TypeInfo} {zv : Value} {z : Nat} (T : AppTy P sT xT e inf zv z) {base : Option Addr} {len cap n : Nat} {rx : Value} {nw : Array Value}
    (hl : (Builtin.lenOf rx).run P w = .ok n w) :
    (len + n ≤ cap → (Builtin.firstCells z n rx).run P w = .ok nw w → (Builtin.append_ #[sT, xT] ty #[.slice base len cap, rx]).run P w =
      ((match base with | some a => storeCells (a.add (len * z)) nw.toList | none => pure ()).run P w).andThen fun _ w' => .ok (.slice base (len + n) cap) w') ∧
    (cap < len + n → len + n < 1073741824 → ∀ old, (Builtin.firstCells z len (.slice base len cap)).run P w.drew = .ok old w.drew → (Builtin.firstCells z n rx).run P w.drew = .ok nw w.drew →
      ∃ newCap rest, len + n ≤ newCap ∧ rest.size = (newCap - (len + n)) * z ∧ (Builtin.append_ #[sT, xT] ty #[.slice base len cap, rx]).run P w =
        .ok (.slice (some ⟨w.heap.size, 0, none⟩) (len + n) newCap) (w.drew.alloc (.cells (old ++ nw ++ rest) e))) := by
  obtain ⟨d, hd, hdn⟩ := T.hx
  have hm : (match d with | .int _ => true | _ => false) = false := by
    cases d <;> first | rfl | exact absurd rfl (hdn _)
  have hlist : ∀ (w : World), (Builtin.lenOf rx).run P w = .ok n w → True := fun _ _ => trivial
  refine ⟨fun h hn => ?_, fun h hb old ho hn' => ?_⟩
  · cases base with
    | none => 
      simp [Builtin.append_, r_under T.hs, r_size T.hi, T.hz, r_under hd, hm, hl, h, hn]
    | some a =>
      simp [Builtin.append_, r_under T.hs, r_size T.hi, T.hz, r_under hd, hm, hl, h, hn]
  · have h1 : ¬ len + n ≤ cap := by omega
    have h2 : ¬ ((len + n : Nat) : Int) > IntKind.i64.max := by
      have : IntKind.i64.max = 9223372036854775807 := by decide
      omega
    have h3 := nextcap_bytes (b := inf.bytes) h hb T.bytes
    have hcut : ∀ t, len + n ≤ (Question.appendCap (len + n) cap e).cut t := fun t => by simp only [Question.cut]; omega
    refine ⟨(Question.appendCap (len + n) cap e).cut (w.tape w.drawn (Question.appendCap (len + n) cap e)), Builtin.zeroCells zv.cells ((Question.appendCap (len + n) cap e).cut (w.tape w.drawn (Question.appendCap (len + n) cap e)) - (len + n)), hcut _, ?_, ?_⟩
    · simp [Builtin.zeroCells, T.zsize]
    · have h2' : ¬ (IntKind.i64.max < ((len : Int) + (n : Int))) := by omega
      have h3' : ¬ (281474976710656 < Builtin.nextslicecap (len + n) cap * inf.bytes) := by simpa using h3
      have e1 : ({ w with drawn := w.drawn + 1 } : World) = w.drew := rfl
      simp [Builtin.append_, r_under T.hs, r_size T.hi, T.hz, r_under hd, hm, hl, h1, r_info T.hi, h2', h3', Question.forced, ho, hn', r_zero T.hi T.zero, newRow]
      intro hh; omega

theorem rows_app {els ys : List (List DV)} {z : Nat} {cell : Nat → Option Value} {Q : DV → Value → Prop}
    (h1 : ∀ (i : Nat) (e : List DV) (k : Nat) (d : DV), els[i]? = some e → e[k]? = some d → ∃ v, cell (i * z + k) = some v ∧ Q d v)
    (h2 : ∀ (i : Nat) (e : List DV) (k : Nat) (d : DV), ys[i]? = some e → e[k]? = some d → ∃ v, cell ((els.length + i) * z + k) = some v ∧ Q d v) :
    ∀ (i : Nat) (e : List DV) (k : Nat) (d : DV), (els ++ ys)[i]? = some e → e[k]? = some d → ∃ v, cell (i * z + k) = some v ∧ Q d v := by
  intro i e k d hi hk
  rw [List.getElem?_append] at hi
  split at hi
  · exact h1 i e k d hi hk
  · have := h2 (i - els.length) e k d hi hk
    rwa [show els.length + (i - els.length) = i by omega] at this

theorem lens_app {els ys : List (List DV)} {z : Nat} (h1 : ∀ (i : Nat) (e : List DV), els[i]? = some e → e.length = z ∧ ∀ d ∈ e, isCell d = true)
    (h2 : ∀ (i : Nat) (e : List DV), ys[i]? = some e → e.length = z ∧ ∀ d ∈ e, isCell d = true) :
    ∀ (i : Nat) (e : List DV), (els ++ ys)[i]? = some e → e.length = z ∧ ∀ d ∈ e, isCell d = true := by
  intro i e hi
  rw [List.getElem?_append] at hi
  split at hi
  · exact h1 i e hi
  · exact h2 _ e hi


/-- what is appended in place: cells behind the others are written -/
theorem app_in {gr ag fix : Bool} {z len cap b R n : Nat} {els ys : List (List DV)} {nw : Array Value} (hr : Rel g H w) (hb : H[b]? = some (.vec gr ag z els)) (hφ : g.φ b = some R)
    (hlen : els.length = len) (hcap : cap * z ≤ csize w R) (hn : n = ys.length) (hle : len + n ≤ cap) (hnw : Rows g H w z ys nw) :
    ∃ w', (storeCells (⟨R, len * z, none⟩ : Addr) nw.toList).run P w = .ok () w' ∧
      (gr = true → Post g H w (H.set b (.vec true ag z (els ++ ys))) (.msl b 0 (len + n)) (.slice (some ⟨R, 0, none⟩) (len + n) cap) w') ∧
      (gr = false → Post g H w (H.set b .dead ++ [.vec false ag z (els ++ ys)]) (.msl H.length 0 (len + n)) (.slice (some ⟨R, 0, none⟩) (len + n) cap) w') := by
  obtain ⟨R', hφ', hR, ⟨c, ty, fr, hc, hcl, hf⟩, hels, hcell, hI⟩ := hr.blk b _ hb trivial
  rw [hφ] at hφ'; obtain rfl := Option.some.inj hφ'
  obtain ⟨hs, hys, hyc⟩ := hnw
  have hcs := csize_eq hc
  have hblt : b < H.length := (List.getElem?_eq_some_iff.1 hb).1
  have hm1 : (len + n) * z = len * z + n * z := Nat.add_mul _ _ _
  have hm2 : (len + n) * z ≤ cap * z := Nat.mul_le_mul_right _ hle
  have hnl : nw.toList.length = n * z := by rw [Array.length_toList, hs, hn]
  obtain ⟨w', c', e1, e2, e3, e4, e5, e6, e7⟩ := r_storeCells (P := P) (a := ⟨R, len * z, none⟩) rfl nw.toList 0 w c ty fr hc hf (by simp only [hnl]; omega) (fun u hu => by
    obtain ⟨m, hm⟩ := List.getElem?_of_mem hu
    have hmlt : m < n * z := by have := (List.getElem?_eq_some_iff.1 hm).1; omega
    have hz : 0 < z := by rcases Nat.eq_zero_or_pos z with h0 | h0
                          · subst h0; simp at hmlt
                          · exact h0
    have h1 : m / z < ys.length := by rw [← hn]; exact Nat.div_lt_of_lt_mul (by rw [Nat.mul_comm]; exact hmlt)
    have h2 := (hys _ _ (show ys[m / z]? = some ys[m / z] by simp [h1])).1
    have h3 : m % z < (ys[m / z]).length := by rw [h2]; exact Nat.mod_lt _ hz
    obtain ⟨v, h4, _, h5⟩ := hyc (m / z) _ (m % z) _ (show ys[m / z]? = some ys[m / z] by simp [h1]) (show (ys[m / z])[m % z]? = some _ by simp [h3]; rfl)
    rw [show m / z * z + m % z = m by rw [Nat.mul_comm]; exact Nat.div_add_mod m z] at h4
    rw [Array.getElem?_toList, h4] at hm
    obtain rfl := Option.some.inj hm; exact h5)
  simp only [Nat.add_zero, hnl] at e4
  have hcells : ∀ o, w'.cell? ⟨R, o, none⟩ = if len * z ≤ o ∧ o < len * z + n * z then nw[o - len * z]? else w.cell? ⟨R, o, none⟩ := fun o => by
    rw [cell?_eq e2, cell?_eq hc, e4, Array.getElem?_toList]
  -- cells of the elements, in the new world
  have hrows : ∀ {g' : Gh} {H' : Heap}, Ev g H w g' H' w' → ∀ (i : Nat) (e : List DV) (k : Nat) (d : DV), (els ++ ys)[i]? = some e → e[k]? = some d → ∃ v, w'.cell? ⟨R, i * z + k, none⟩ = some v ∧ DRel g' H' w' d v := by
    intro g' H' hv
    refine rows_app (cell := fun o => w'.cell? ⟨R, o, none⟩) (fun i e k d hi hk => ?_) fun i e k d hi hk => ?_
    · have hil : i < els.length := (List.getElem?_eq_some_iff.1 hi).1
      have hkz : k < z := by rw [← (hels i e hi).1]; exact (List.getElem?_eq_some_iff.1 hk).1
      have := mul_le_of_lt (z := z) hil
      obtain ⟨v, h1, h2⟩ := hcell i e k d hi hk
      refine ⟨v, ?_, h2.mono hv⟩
      show w'.cell? ⟨R, i * z + k, none⟩ = some v
      rw [hcells, if_neg (by rw [hlen] at this; omega), h1]
    · have hkz : k < z := by rw [← (hys i e hi).1]; exact (List.getElem?_eq_some_iff.1 hk).1
      have := mul_le_of_lt (z := z) (show i < n by rw [hn]; exact (List.getElem?_eq_some_iff.1 hi).1)
      obtain ⟨v, h1, h2, _⟩ := hyc i e k d hi hk
      refine ⟨v, ?_, h2.mono hv⟩
      show w'.cell? ⟨R, (els.length + i) * z + k, none⟩ = some v
      rw [hcells, hlen, Nat.add_mul, if_pos (by omega), show len * z + i * z + k - len * z = i * z + k by omega, h1]
  refine ⟨w', by simpa using e1, fun hg => ?_, fun hg => ?_⟩
  · subst hg
    have hI' : ∀ o, g.I R o ↔ o < len * z := fun o => by rw [hI, hlen]; simp
    let g' : Gh := g.addI R ((len + n) * z)
    have st : Step1 g H w g' (H.set b (.vec true ag z (els ++ ys))) w' b (.vec true ag z els) R := {
      hb := hb, ha := trivial, hφ := hφ, size := by rw [e6]; exact Nat.le_refl _, same := fun R' _ h => e5 R' h, cs := by rw [hcs, csize_eq e2, e3]; exact Nat.le_refl _, tape := e7
      I1 := fun _ _ h => .inl h
      Ic := fun o h => by rw [hcells, if_neg (by have := (hI' o).1 h; omega)]
      Im := fun es cl o h hh => by rw [hc] at hh; simp at hh
      I2 := fun R' o h => by rcases h with h | ⟨h, _⟩
                             · exact .inl h
                             · exact .inr (.inl h)
      H1 := fun b' k hb' hne => ⟨by rw [List.getElem?_set_ne (Ne.symm hne)]; exact hb', rfl⟩
      H0 := ⟨_, by rw [List.getElem?_set_self hblt], .inl ⟨ys, R, R, rfl, hφ, hφ, fun _ => rfl, fun m hm => by rw [hcells, if_neg (by rw [hlen] at hm; omega)]⟩⟩
      Hn := fun b' k' hb' ha' => by
        by_cases e : b' = b
        · subst e; exact .inr ⟨.inl rfl, R, hφ, .inl rfl, by rw [e6]; exact hR⟩
        · rw [List.getElem?_set_ne (Ne.symm e)] at hb'; exact .inl ⟨e, hb'⟩
      len := by simp }
    have hv := st.ev hr
    have hrel : Rel g' (H.set b (.vec true ag z (els ++ ys))) w' := st.rel hr (fun b' k' R' hb' ha' h0 hR' => by
        have hbb : b' = b := by
          rcases h0 with h0 | h0
          · exact h0
          · have := (List.getElem?_eq_some_iff.1 hb').1; simp at this; omega
        subst hbb
        rw [List.getElem?_set_self hblt] at hb'
        obtain rfl := Option.some.inj hb'
        have hRR : R' = R := by have : g.φ b' = some R' := hR'; rw [hφ] at this; exact (Option.some.inj this).symm
        subst hRR
        refine ⟨⟨c', ty, fr, e2, by rw [e3]; simp only [List.length_append, hlen, ← hn]; omega, by rw [e3]; exact hf⟩, lens_app hels hys, hrows hv, fun o => ?_⟩
        show (g.I R' o ∨ R' = R' ∧ o < (len + n) * z) ↔ _
        rw [hI']
        simp only [List.length_append, hlen, ← hn, true_and]
        constructor
        · rintro (h | h)
          · omega
          · exact h
        · exact .inr)
      (fun b1 b2 k1 k2 R1 hb1 _ hb2 _ h1 h2 _ _ => by
        have l1 := (List.getElem?_eq_some_iff.1 hb1).1
        have l2 := (List.getElem?_eq_some_iff.1 hb2).1
        simp at l1 l2; omega)
      (fun R' o h => by
        rw [e6]
        rcases h with h | ⟨h, _⟩
        · exact hr.low _ _ h
        · subst h; exact hR)
    refine ⟨g', hrel, hv, .gmsl b 0 (len + n) cap R z ⟨R, 0, none⟩ ag (els ++ ys) (by rw [List.getElem?_set_self hblt]) hφ rfl (by simp [hlen, hn]) hle (fun m hm => ⟨?_, by simp⟩) fun _ _ => ⟨rfl, ?_⟩⟩
    · show g.I R (0 + m) ∨ R = R ∧ 0 + m < (len + n) * z
      exact .inr ⟨rfl, by omega⟩
    · rw [csize_eq e2, e3, ← hcs]; exact hcap
  · subst hg
    have hI' : ∀ o, ¬ g.I R o := fun o h => by have := (hI o).1 h; simp at this
    let g' : Gh := ⟨fun b' => if b' = H.length then some R else g.φ b', g.I⟩
    let H' : Heap := H.set b .dead ++ [.vec false ag z (els ++ ys)]
    have hlook : H'[H.length]? = some (.vec false ag z (els ++ ys)) := by
      show (H.set b .dead ++ [_])[H.length]? = _
      rw [List.getElem?_append_right (by simp)]; simp
    have hold : ∀ b', b' < H.length → b' ≠ b → H'[b']? = H[b']? := fun b' h1 h2 => by
      show (H.set b .dead ++ [_])[b']? = _
      rw [List.getElem?_append_left (by simpa using h1), List.getElem?_set_ne (Ne.symm h2)]
    have hdead : H'[b]? = some .dead := by
      show (H.set b .dead ++ [_])[b]? = _
      rw [List.getElem?_append_left (by simpa using hblt), List.getElem?_set_self hblt]
    have hlast : ∀ (b' : Nat) (k' : Blk), H'[b']? = some k' → k'.alive → (b' = b ∨ H.length ≤ b') → b' = H.length := fun b' k' h1 h2 h3 => by
      rcases h3 with rfl | h3
      · rw [hdead] at h1; obtain rfl := Option.some.inj h1; exact h2.elim
      · have := (List.getElem?_eq_some_iff.1 h1).1
        simp only [H', List.length_append, List.length_set, List.length_cons, List.length_nil] at this; omega
    have st : Step1 g H w g' H' w' b (.vec false ag z els) R := {
      hb := hb, ha := trivial, hφ := hφ, size := by rw [e6]; exact Nat.le_refl _, same := fun R' _ h => e5 R' h, cs := by rw [hcs, csize_eq e2, e3]; exact Nat.le_refl _, tape := e7
      I1 := fun _ _ h => h
      Ic := fun o h => absurd h (hI' o)
      Im := fun es cl o h hh => absurd h (hI' o)
      I2 := fun R' o h => .inl h
      H1 := fun b' k hb' hne => by
        have h1 := (List.getElem?_eq_some_iff.1 hb').1
        exact ⟨by rw [hold b' h1 hne]; exact hb', by simp only [g']; rw [if_neg (by omega)]⟩
      H0 := ⟨_, hdead, .inr rfl⟩
      Hn := fun b' k' hb' ha' => by
        by_cases e : b' < H.length ∧ b' ≠ b
        · rw [hold b' e.1 e.2] at hb'; exact .inl ⟨e.2, hb'⟩
        · have h0 := hlast b' k' hb' ha' (by omega)
          subst h0
          exact .inr ⟨.inr (Nat.le_refl _), R, by simp only [g', if_true], .inl rfl, by rw [e6]; exact hR⟩
      len := by simp only [H', List.length_append, List.length_set]; omega }
    have hv := st.ev hr
    have hφn : g'.φ H.length = some R := by simp only [g', if_true]
    have hrel : Rel g' H' w' := st.rel hr (fun b' k' R' hb' ha' h0 hR' => by
        have hbb := hlast b' k' hb' ha' h0
        subst hbb
        rw [hlook] at hb'; obtain rfl := Option.some.inj hb'
        rw [hφn] at hR'; obtain rfl := Option.some.inj hR'
        refine ⟨⟨c', ty, fr, e2, by rw [e3]; simp only [List.length_append, hlen, ← hn]; omega, by rw [e3]; exact hf⟩, lens_app hels hys, hrows hv, fun o => ⟨fun h => absurd h (hI' o), fun h => by simp at h⟩⟩)
      (fun b1 b2 k1 k2 R1 hb1 a1 hb2 a2 h1 h2 _ _ => by rw [hlast b1 k1 hb1 a1 h1, hlast b2 k2 hb2 a2 h2])
      (fun R' o h => by rw [e6]; exact hr.low _ _ h)
    refine ⟨g', hrel, hv, ?_⟩
    have := DRel.fmsl (g := g') (w := w') H.length 0 (len + n) cap R z ag (els ++ ys) hlook hφn (by simp [hlen, hn]) hle (by rw [csize_eq e2, e3, ← hcs]; simpa using hcap)
    simpa using this

/-- what is appended in a new row -/
theorem app_new {gr ag : Bool} {z len b R n cap : Nat} {els ys : List (List DV)} {old nw rest : Array Value} {e : TypeId} (hr : Rel g H w) (hb : H[b]? = some (.vec gr ag z els)) (hφ : g.φ b = some R)
    (hlen : els.length = len) (hn : n = ys.length) (hcap : len + n ≤ cap) (hold : Rows g H w z els old) (hnw : Rows g H w z ys nw) (hrest : rest.size = (cap - (len + n)) * z)
    (hsame : ∀ j k, j < len → k < z → old[j * z + k]? = w.cell? ⟨R, j * z + k, none⟩) (hne : ys ≠ []) :
    (gr = true → Post g H w (H.set b (.vec true ag z (els ++ ys))) (.msl b 0 (len + n)) (.slice (some ⟨w.heap.size, 0, none⟩) (len + n) cap) (w.alloc (.cells (old ++ nw ++ rest) e))) ∧
    (gr = false → Post g H w (H.set b .dead ++ [.vec false ag z (els ++ ys)]) (.msl H.length 0 (len + n)) (.slice (some ⟨w.heap.size, 0, none⟩) (len + n) cap) (w.alloc (.cells (old ++ nw ++ rest) e))) := by
  obtain ⟨R', hφ', hR, ⟨c, ty, fr, hc, hcl, hf⟩, hels, hcell, hI⟩ := hr.blk b _ hb trivial
  rw [hφ] at hφ'; obtain rfl := Option.some.inj hφ'
  obtain ⟨hos, _, hoc⟩ := hold
  obtain ⟨hs, hys, hyc⟩ := hnw
  have hblt : b < H.length := (List.getElem?_eq_some_iff.1 hb).1
  have hm1 : (len + n) * z = len * z + n * z := Nat.add_mul _ _ _
  have hm2 : (len + n) * z ≤ cap * z := Nat.mul_le_mul_right _ hcap
  have hm3 : (cap - (len + n)) * z + (len + n) * z = cap * z := by rw [← Nat.add_mul]; congr 1; omega
  have hsz : (old ++ nw ++ rest).size = cap * z := by simp only [Array.size_append, hos, hs, hrest, hlen, ← hn]; omega
  let c' := old ++ nw ++ rest
  let w' := w.alloc (.cells c' e)
  have hnewc : ∀ o, w'.cell? ⟨w.heap.size, o, none⟩ = c'[o]? := fun o => World.cell?_alloc_new _ _ _ _
  have hoR : ∀ R1, R1 < w.heap.size → w'.heap[R1]? = w.heap[R1]? := fun R1 h => heap_alloc_lt h
  have hrows : ∀ {g' : Gh} {H' : Heap}, Ev g H w g' H' w' → ∀ (i : Nat) (e : List DV) (k : Nat) (d : DV), (els ++ ys)[i]? = some e → e[k]? = some d → ∃ v, w'.cell? ⟨w.heap.size, i * z + k, none⟩ = some v ∧ DRel g' H' w' d v := by
    intro g' H' hv
    refine rows_app (cell := fun o => w'.cell? ⟨w.heap.size, o, none⟩) (fun i e k d hi hk => ?_) fun i e k d hi hk => ?_
    · have hil : i < els.length := (List.getElem?_eq_some_iff.1 hi).1
      have hkz : k < z := by rw [← (hels i e hi).1]; exact (List.getElem?_eq_some_iff.1 hk).1
      have := mul_le_of_lt (z := z) hil
      obtain ⟨v, h1, h2, _⟩ := hoc i e k d hi hk
      refine ⟨v, ?_, h2.mono hv⟩
      show w'.cell? ⟨w.heap.size, i * z + k, none⟩ = some v
      rw [hnewc]
      show ((old ++ nw) ++ rest)[i * z + k]? = _
      rw [Array.getElem?_append_left (by rw [Array.size_append]; omega), Array.getElem?_append_left (by omega), h1]
    · have hkz : k < z := by rw [← (hys i e hi).1]; exact (List.getElem?_eq_some_iff.1 hk).1
      have := mul_le_of_lt (z := z) (show i < n by rw [hn]; exact (List.getElem?_eq_some_iff.1 hi).1)
      obtain ⟨v, h1, h2, _⟩ := hyc i e k d hi hk
      refine ⟨v, ?_, h2.mono hv⟩
      show w'.cell? ⟨w.heap.size, (els.length + i) * z + k, none⟩ = some v
      rw [hnewc]
      show ((old ++ nw) ++ rest)[(els.length + i) * z + k]? = _
      have e5 : (els.length + i) * z = els.length * z + i * z := Nat.add_mul _ _ _
      rw [Array.getElem?_append_left (by rw [Array.size_append, hs, ← hn, hos]; omega), Array.getElem?_append_right (by omega), hos, show (els.length + i) * z + k - els.length * z = i * z + k by omega, h1]
  have holdcell : ∀ m, m < els.length * z → w'.cell? ⟨w.heap.size, m, none⟩ = w.cell? ⟨R, m, none⟩ := fun m hm => by
    have hz : 0 < z := by rcases Nat.eq_zero_or_pos z with h0 | h0
                          · subst h0; simp at hm
                          · exact h0
    have h1 : m / z < len := by rw [← hlen]; exact Nat.div_lt_of_lt_mul (by rw [Nat.mul_comm]; exact hm)
    have h2 := hsame (m / z) (m % z) h1 (Nat.mod_lt _ hz)
    rw [show m / z * z + m % z = m by rw [Nat.mul_comm]; exact Nat.div_add_mod m z] at h2
    rw [hnewc, ← h2]
    show ((old ++ nw) ++ rest)[m]? = _
    rw [Array.getElem?_append_left (by rw [Array.size_append]; omega), Array.getElem?_append_left (by omega)]
  refine ⟨fun hg => ?_, fun hg => ?_⟩
  · subst hg
    have hI' : ∀ o, g.I R o ↔ o < len * z := fun o => by rw [hI, hlen]; simp
    let g' : Gh := ⟨fun b' => if b' = b then some w.heap.size else g.φ b', fun R' o => g.I R' o ∨ (R' = w.heap.size ∧ o < (len + n) * z)⟩
    have hφn : g'.φ b = some w.heap.size := by simp only [g', if_true]
    have st : Step1 g H w g' (H.set b (.vec true ag z (els ++ ys))) w' b (.vec true ag z els) R := {
      hb := hb, ha := trivial, hφ := hφ, size := by simp [w'], same := fun R' h _ => hoR R' h, cs := Nat.le_of_eq (csize_of_heap (hoR R hR)).symm, tape := ⟨rfl, rfl, rfl⟩
      I1 := fun _ _ h => .inl h
      Ic := fun o h => cell?_of_heap (hoR R hR) o
      Im := fun es cl o h hh => by rw [hc] at hh; simp at hh
      I2 := fun R' o h => by rcases h with h | ⟨h, _⟩
                             · exact .inl h
                             · exact .inr (.inr (by omega))
      H1 := fun b' k hb' hne => ⟨by rw [List.getElem?_set_ne (Ne.symm hne)]; exact hb', by simp only [g']; rw [if_neg hne]⟩
      H0 := ⟨_, by rw [List.getElem?_set_self hblt], .inl ⟨ys, R, w.heap.size, rfl, hφ, hφn, fun h => absurd h hne, fun m hm => holdcell m hm⟩⟩
      Hn := fun b' k' hb' ha' => by
        by_cases e : b' = b
        · subst e; exact .inr ⟨.inl rfl, w.heap.size, hφn, .inr (Nat.le_refl _), by simp [w']⟩
        · rw [List.getElem?_set_ne (Ne.symm e)] at hb'; exact .inl ⟨e, hb'⟩
      len := by simp }
    have hv := st.ev hr
    have hrel : Rel g' (H.set b (.vec true ag z (els ++ ys))) w' := st.rel hr (fun b' k' R' hb' ha' h0 hR' => by
        have hbb : b' = b := by
          rcases h0 with h0 | h0
          · exact h0
          · have := (List.getElem?_eq_some_iff.1 hb').1; simp at this; omega
        subst hbb
        rw [List.getElem?_set_self hblt] at hb'
        obtain rfl := Option.some.inj hb'
        rw [hφn] at hR'; obtain rfl := Option.some.inj hR'
        refine ⟨⟨c', e, (0, 0), heap_alloc_new, by simp only [c', hsz, List.length_append, hlen, ← hn]; omega, .inl rfl⟩, lens_app hels hys, hrows hv, fun o => ?_⟩
        show (g.I w.heap.size o ∨ w.heap.size = w.heap.size ∧ o < (len + n) * z) ↔ _
        simp only [List.length_append, hlen, ← hn, true_and]
        constructor
        · rintro (h | h)
          · exact absurd (hr.low _ _ h) (Nat.lt_irrefl _)
          · exact h
        · exact .inr)
      (fun b1 b2 k1 k2 R1 hb1 _ hb2 _ h1 h2 _ _ => by
        have l1 := (List.getElem?_eq_some_iff.1 hb1).1
        have l2 := (List.getElem?_eq_some_iff.1 hb2).1
        simp at l1 l2; omega)
      (fun R' o h => by
        rcases h with h | ⟨h, _⟩
        · have := hr.low _ _ h; simp [w']; omega
        · subst h; simp [w'])
    have hcsz : csize w' w.heap.size = cap * z := by rw [show csize w' w.heap.size = c'.size from csize_alloc]; exact hsz
    refine ⟨g', hrel, hv, .gmsl b 0 (len + n) cap w.heap.size z ⟨w.heap.size, 0, none⟩ ag (els ++ ys) (by rw [List.getElem?_set_self hblt]) hφn rfl (by simp [hlen, hn]) hcap (fun m hm => ⟨?_, by simp⟩) fun _ _ => ⟨rfl, by rw [hcsz]; exact Nat.le_refl _⟩⟩
    show g.I w.heap.size (0 + m) ∨ w.heap.size = w.heap.size ∧ 0 + m < (len + n) * z
    exact .inr ⟨rfl, by omega⟩
  · subst hg
    have hI' : ∀ o, ¬ g.I R o := fun o h => by have := (hI o).1 h; simp at this
    let g' : Gh := ⟨fun b' => if b' = H.length then some w.heap.size else g.φ b', g.I⟩
    let H' : Heap := H.set b .dead ++ [.vec false ag z (els ++ ys)]
    have hlook : H'[H.length]? = some (.vec false ag z (els ++ ys)) := by
      show (H.set b .dead ++ [_])[H.length]? = _
      rw [List.getElem?_append_right (by simp)]; simp
    have hold : ∀ b', b' < H.length → b' ≠ b → H'[b']? = H[b']? := fun b' h1 h2 => by
      show (H.set b .dead ++ [_])[b']? = _
      rw [List.getElem?_append_left (by simpa using h1), List.getElem?_set_ne (Ne.symm h2)]
    have hdead : H'[b]? = some .dead := by
      show (H.set b .dead ++ [_])[b]? = _
      rw [List.getElem?_append_left (by simpa using hblt), List.getElem?_set_self hblt]
    have hlast : ∀ (b' : Nat) (k' : Blk), H'[b']? = some k' → k'.alive → (b' = b ∨ H.length ≤ b') → b' = H.length := fun b' k' h1 h2 h3 => by
      rcases h3 with rfl | h3
      · rw [hdead] at h1; obtain rfl := Option.some.inj h1; exact h2.elim
      · have := (List.getElem?_eq_some_iff.1 h1).1
        simp only [H', List.length_append, List.length_set, List.length_cons, List.length_nil] at this; omega
    have st : Step1 g H w g' H' w' b (.vec false ag z els) R := {
      hb := hb, ha := trivial, hφ := hφ, size := by simp [w'], same := fun R' h _ => hoR R' h, cs := Nat.le_of_eq (csize_of_heap (hoR R hR)).symm, tape := ⟨rfl, rfl, rfl⟩
      I1 := fun _ _ h => h
      Ic := fun o h => absurd h (hI' o)
      Im := fun es cl o h hh => absurd h (hI' o)
      I2 := fun R' o h => .inl h
      H1 := fun b' k hb' hne => by
        have h1 := (List.getElem?_eq_some_iff.1 hb').1
        exact ⟨by rw [hold b' h1 hne]; exact hb', by simp only [g']; rw [if_neg (by omega)]⟩
      H0 := ⟨_, hdead, .inr rfl⟩
      Hn := fun b' k' hb' ha' => by
        by_cases e : b' < H.length ∧ b' ≠ b
        · rw [hold b' e.1 e.2] at hb'; exact .inl ⟨e.2, hb'⟩
        · have h0 := hlast b' k' hb' ha' (by omega)
          subst h0
          exact .inr ⟨.inr (Nat.le_refl _), w.heap.size, by simp only [g', if_true], .inr (Nat.le_refl _), by simp [w']⟩
      len := by simp only [H', List.length_append, List.length_set]; omega }
    have hv := st.ev hr
    have hφn : g'.φ H.length = some w.heap.size := by simp only [g', if_true]
    have hrel : Rel g' H' w' := st.rel hr (fun b' k' R' hb' ha' h0 hR' => by
        have hbb := hlast b' k' hb' ha' h0
        subst hbb
        rw [hlook] at hb'; obtain rfl := Option.some.inj hb'
        rw [hφn] at hR'; obtain rfl := Option.some.inj hR'
        refine ⟨⟨c', e, (0, 0), heap_alloc_new, by simp only [c', hsz, List.length_append, hlen, ← hn]; omega, .inl rfl⟩, lens_app hels hys, hrows hv, fun o => ⟨fun h => absurd (hr.low _ _ h) (Nat.lt_irrefl _), fun h => by simp at h⟩⟩)
      (fun b1 b2 k1 k2 R1 hb1 a1 hb2 a2 h1 h2 _ _ => by rw [hlast b1 k1 hb1 a1 h1, hlast b2 k2 hb2 a2 h2])
      (fun R' o h => by have := hr.low _ _ h; simp [w']; omega)
    refine ⟨g', hrel, hv, ?_⟩
    have hcsz : csize w' w.heap.size = cap * z := by rw [show csize w' w.heap.size = c'.size from csize_alloc]; exact hsz
    have := DRel.fmsl (g := g') (w := w') H.length 0 (len + n) cap w.heap.size z ag (els ++ ys) hlook hφn (by simp [hlen, hn]) hcap (by rw [hcsz]; simp)
    rw [Nat.zero_mul] at this; exact this

theorem headLen_of {z : Nat} {els : List (List DV)} (h : ∀ (i : Nat) (e : List DV), els[i]? = some e → e.length = z ∧ ∀ d ∈ e, isCell d = true) : headLen z els = true := by
  cases els with
  | nil => rfl
  | cons e r => simp [headLen, (h 0 e rfl).1]

theorem Post.drew {H' : Heap} {v : DV} {rv : Value} {w' : World} (hr : Rel g H w) (h : Post g H w.drew H' v rv w') : Post g H w H' v rv w' := by
  obtain ⟨g', h1, h2, h3⟩ := h
  exact ⟨g', h1, (ev_drew hr).trans h2, h3⟩

/-- append. -/
theorem s_app {sT xT e ty : TypeId} {inf : TypeInfo} {zv : Value} {esz lo : Nat} {fix ag : Bool} {s x v : DV} {rs rx : Value} {ys : List (List DV)} {H' : Heap} (T : AppTy P sT xT e inf zv esz) (hr : Rel g H w)
    (hs : DRel g H w s rs) (hx : DRel g H w x rx) (he : elems H x = some ys) (h : appDV lo H fix ag esz s ys = some (v, H')) :
    ∃ rv w', (Builtin.append_ #[sT, xT] ty #[rs, rx]).run P w = .ok rv w' ∧ Post g H w H' v rv w' := by
  have e1 : maxLen' = 1073741824 := rfl
  unfold appDV at h
  split at h
  · rename_i hh
    obtain ⟨nw, hl, hn, hrows⟩ := s_elems (P := P) hr hx he hh
    have hr2 := rel_drew hr
    have hev := ev_drew hr
    obtain ⟨nw2, _, hn2, hrows2⟩ := s_elems (P := P) hr2 (hx.mono hev) he hh
    split at h
    · -- onto nil
      have := hs.pure; cases this
      split at h
      · rename_i hemp
        obtain ⟨rfl, rfl⟩ := by simpa using h
        have hy : ys = [] := List.isEmpty_iff.1 hemp
        subst hy
        have := (r_append (ty := ty) T (base := none) (len := 0) (cap := 0) hl).1 (Nat.le_refl _) hn
        exact ⟨_, w, by simpa using this, Post.same hr (.p _ _ .nils)⟩
      · rename_i hne
        split at h
        · rename_i hlt
          obtain ⟨rfl, rfl⟩ := by simpa using h
          have hpos : 0 < ys.length := by rcases Nat.eq_zero_or_pos ys.length with h0 | h0
                                          · exact absurd (List.isEmpty_iff.2 (List.eq_nil_of_length_eq_zero h0)) hne
                                          · exact h0
          obtain ⟨newCap, rest, hc1, hc2, hrun⟩ := (r_append (ty := ty) T (base := none) (len := 0) (cap := 0) hl).2 (by omega) (by rw [← e1]; omega) #[] (by simp [Builtin.firstCells]) hn2
          refine ⟨_, _, hrun, Post.drew hr ?_⟩
          obtain ⟨hsz, hys, hyc⟩ := hrows2
          simp only [Nat.zero_add] at hc1 hc2
          have hcell : ∀ (i : Nat) (e : List DV) (k : Nat) (d : DV), ys[i]? = some e → e[k]? = some d → ∃ v, (#[] ++ nw2 ++ rest)[i * esz + k]? = some v ∧ DRel g H w.drew d v := fun i e k d hi hk => by
            obtain ⟨v, h1, h2, _⟩ := hyc i e k d hi hk
            refine ⟨v, ?_, h2⟩
            have hlt' := (Array.getElem?_eq_some_iff.1 h1).1
            rw [Array.getElem?_append_left (by simpa using hlt')]; simpa using h1
          have hm : (newCap - ys.length) * esz + ys.length * esz = newCap * esz := by rw [← Nat.add_mul]; congr 1; omega
          have hsize : (#[] ++ nw2 ++ rest).size = newCap * esz := by simp only [Array.size_append, hsz, hc2]; simp; omega
          obtain ⟨h7, h8⟩ := new_vec (gr := !fix) (ag := ag) (z := esz) (els := ys) (c := #[] ++ nw2 ++ rest) (t := e) hr2 (by rw [hsize]; exact Nat.mul_le_mul_right _ hc1) hys hcell
          have hcs : csize (w.drew.alloc (.cells (#[] ++ nw2 ++ rest) e)) w.drew.heap.size = newCap * esz := by rw [csize_alloc, hsize]
          refine ⟨_, h7, h8, ?_⟩
          rw [Nat.zero_add]
          cases fix with
          | true =>
            have := DRel.fmsl (g := g.put H.length w.drew.heap.size (if !true then ys.length * esz else 0)) (w := w.drew.alloc (.cells (#[] ++ nw2 ++ rest) e)) H.length 0 ys.length newCap w.drew.heap.size esz ag ys
              (look_last (Blk.vec (!true) ag esz ys)) (by simp [Gh.put]) (by simp) hc1 (by rw [hcs]; simp)
            rw [Nat.zero_mul] at this; exact this
          | false =>
            exact DRel.gmsl H.length 0 ys.length newCap w.drew.heap.size esz ⟨w.drew.heap.size, 0, none⟩ ag ys (look_last (Blk.vec (!false) ag esz ys)) (by simp [Gh.put]) rfl (by simp) hc1
              (fun m hm => ⟨by simp only [Gh.put, Bool.not_false, if_true, Nat.zero_add]; exact .inr ⟨trivial, hm⟩, by simp⟩) (fun _ _ => ⟨rfl, by rw [hcs]; exact Nat.le_refl _⟩)
        · simp at h
    · rename_i b len
      rw [getN_eq] at h
      split at h
      · rename_i gr a z els hb
        split at h
        · rename_i hc
          obtain ⟨hlen, rfl, rfl, hmax, hlo, rfl⟩ := hc
          have hblt : b < H.length := (List.getElem?_eq_some_iff.1 hb).1
          -- where it stands
          have hst : ∃ R cap, g.φ b = some R ∧ rs = .slice (some ⟨R, 0, none⟩) len cap ∧ len ≤ cap ∧ cap * z ≤ csize w R := by
            cases hs with
            | dmsl b off len cap A h => rw [hb] at h; simp at h
            | fmsl b off len cap R z' ag' els' hH hφ hbd hcap hc =>
              rw [hb] at hH; simp only [Option.some.injEq, Blk.vec.injEq] at hH
              obtain ⟨_, rfl, rfl, rfl⟩ := hH
              exact ⟨R, cap, hφ, by rw [Nat.zero_mul], hcap, by simpa using hc⟩
            | gmsl b off len cap R z' A ag' els' hH hφ hs' hbd hcap hc hf =>
              rw [hb] at hH; simp only [Option.some.injEq, Blk.vec.injEq] at hH
              obtain ⟨_, rfl, rfl, rfl⟩ := hH
              obtain ⟨h1, h2⟩ := hf rfl hlen.symm
              exact ⟨R, cap, hφ, by rw [h1], hcap, h2⟩
          obtain ⟨R, cap, hφ, rfl, hcap, hcz⟩ := hst
          by_cases hemp : ys = []
          · -- nothing is appended
            subst hemp
            have hrun := (r_append (ty := ty) T (base := some ⟨R, 0, none⟩) (len := len) (cap := cap) hl).1 (by simpa using hcap) hn
            have hnw : nw.toList = [] := by
              have h1 := hrows.1; simp at h1; simp [h1]
            simp only [hnw, storeCells, Sem.run_pure, Result.andThen_ok, List.length_nil, Nat.add_zero] at hrun
            refine ⟨_, w, hrun, ?_⟩
            have hset : ∀ k, H[b]? = some k → H.set b k = H := fun k hk => by
              apply List.ext_getElem?; intro i
              rw [List.getElem?_set]
              split
              · rename_i e; subst e; exact hk.symm
              · rfl
            cases fix with
            | true =>
              simp only [if_true, List.isEmpty_nil] at h
              obtain ⟨rfl, rfl⟩ := by simpa using h
              exact Post.same hr hs
            | false =>
              simp only [Bool.false_eq_true, if_false, List.append_nil, List.length_nil, Nat.add_zero, setN_eq, Option.some.injEq, Prod.mk.injEq] at h
              obtain ⟨rfl, rfl⟩ := h
              rw [hset _ hb]
              exact Post.same hr hs
          · have hne : ys.isEmpty = false := by cases ys with
              | nil => exact absurd rfl hemp
              | cons _ _ => rfl
            by_cases hin : len + ys.length ≤ cap
            · -- in place
              obtain ⟨w', h1, h2, h3⟩ := app_in (P := P) (fix := fix) hr hb hφ hlen hcz rfl hin hrows
              have hrun := (r_append (ty := ty) T (base := some ⟨R, 0, none⟩) (len := len) (cap := cap) hl).1 hin hn
              simp only [add_eq, Nat.zero_add, h1, Result.andThen_ok] at hrun
              refine ⟨_, w', hrun, ?_⟩
              cases fix with
              | true =>
                simp only [if_true, hne, Bool.false_eq_true, if_false, Option.some.injEq, Prod.mk.injEq, setN_eq] at h
                obtain ⟨rfl, rfl⟩ := h
                exact h3 rfl
              | false =>
                simp only [Bool.false_eq_true, if_false, setN_eq, Option.some.injEq, Prod.mk.injEq] at h
                obtain ⟨rfl, rfl⟩ := h
                exact h2 rfl
            · -- in a new row
              obtain ⟨R', hφ', hR, ⟨c, ty', fr, hc, hcl, hf⟩, hels, hcell, hI⟩ := hr2.blk b _ hb trivial
              rw [hφ] at hφ'; obtain rfl := Option.some.inj hφ'
              have hcells : ∀ j k, j < len → k < z → ∃ v, w.drew.cell? ⟨R, 0 + (j * z + k), none⟩ = some v := fun j k hj hk => by
                have hj' : j < els.length := by omega
                have h1 := hels j els[j] (by simp [hj'])
                obtain ⟨v, h2, _⟩ := hcell j els[j] k (els[j][k]'(by omega)) (by simp [hj']) (by simp [show k < els[j].length by omega])
                exact ⟨v, by rw [Nat.zero_add]; exact h2⟩
              obtain ⟨old, ho1, ho2, ho3⟩ := r_rows (P := P) (w := w.drew) (A := ⟨R, 0, none⟩) rfl len z hcells
              simp only [Nat.zero_add] at ho3
              have hold : Rows g H w.drew z els old := ⟨by rw [hlen]; exact ho2, hels, fun i e k d hi hk => by
                have hil : i < len := by rw [← hlen]; exact (List.getElem?_eq_some_iff.1 hi).1
                have hkz : k < z := by rw [← (hels i e hi).1]; exact (List.getElem?_eq_some_iff.1 hk).1
                obtain ⟨v, h1, h2⟩ := hcell i e k d hi hk
                exact ⟨v, by rw [ho3 i k hil hkz]; exact h1, h2, (h2.cell ((hels i e hi).2 d (List.mem_of_getElem? hk))).1⟩⟩
              obtain ⟨newCap, rest, hc1, hc2, hrun⟩ := (r_append (ty := ty) T (base := some ⟨R, 0, none⟩) (len := len) (cap := cap) hl).2 (by omega) (by rw [← e1]; omega) old (by simpa [Builtin.firstCells] using ho1) hn2
              have hnew := app_new (e := e) hr2 hb hφ hlen rfl hc1 hold hrows2 hc2 ho3 hemp
              refine ⟨_, _, hrun, Post.drew hr ?_⟩
              cases fix with
              | true =>
                simp only [if_true, hne, Bool.false_eq_true, if_false, Option.some.injEq, Prod.mk.injEq, setN_eq] at h
                obtain ⟨rfl, rfl⟩ := h
                exact hnew.2 rfl
              | false =>
                simp only [Bool.false_eq_true, if_false, setN_eq, Option.some.injEq, Prod.mk.injEq] at h
                obtain ⟨rfl, rfl⟩ := h
                exact hnew.1 rfl
        · simp at h
      · simp at h
    · simp at h
  · simp at h

end Go.Lv
