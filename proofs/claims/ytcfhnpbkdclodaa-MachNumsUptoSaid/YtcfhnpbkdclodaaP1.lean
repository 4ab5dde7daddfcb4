/-
  Parts of the proof, merged: SuData, SuEval, SuRel, SuState, SuBase, SuOp1, SuOp2, SuOp3, SuOp4, SuOp5, SuOp6.
-/
import Derived.Calls
import Derived.Control
import Derived.Laws.Cells
import Derived.Laws.Entries
import Derived.Laws.Sem
import Derived.Laws.Slices
import Derived.Laws.StructEq
import Derived.Laws.World
import Derived.LoopN
import Derived.Orders
set_option linter.unusedVariables false
set_option linter.unusedSimpArgs false
/-
  THE DATA MACHINE, part 1: values as plain data, states, and one operation at a time.
  No program is named here. What is proved about it stands in the parts behind.
-/
namespace Go.Su

/-- Plain data: no reference to memory is ever inside. `list sz ds`: a slice's elements, each of `sz` cells. -/
inductive DV where
  | undef
  | int (k : IntKind) (n : Int)
  | bool (b : Bool)
  | str (s : ByteArray)
  | agg (cs : List DV)
  | tup (cs : List DV)
  | list (sz : Nat) (ds : List DV)
  /-- the nil pointer -/
  | pnil
  /-- a pointer to `sz` cells that are written no more -/
  | pref (sz : Nat) (d : DV)
  deriving Inhabited

/-- What a register is besides its data. -/
inductive Meta where
  /-- data; a slice may be read, not appended to -/
  | val
  /-- a slice whose capacity is its length -/
  | full
  /-- a slice that alone owns what lies behind its length -/
  | own
  /-- an address in the private variable `s` -/
  | loc (s o : Nat)
  /-- an address in a sealed element of `sz` cells (the data: the element); `ag`: the element is an aggregate -/
  | rop (ag : Bool) (sz o : Nat)
  /-- an address in the shared variable `i` -/
  | ptr (i o : Nat)
  | nilp
  | map (i : Nat)
  | nilm
  /-- a slice of the writable array `i` -/
  | arr (i sz off len : Nat)
  /-- an address in element `idx` of the writable array `i` -/
  | ept (i sz idx o : Nat)
  /-- the address of element `idx` of the slice `i` whose last elements are open -/
  | opt (i sz idx : Nat)
  /-- a slice of the vector `i`, as it was in its state `n`: `len` elements of `sz` cells -/
  | vec (i n sz len : Nat)
  /-- an address in element `idx` of the vector `i`, as it was in its state `n` -/
  | vpt (i n sz idx o : Nat)
  /-- a function with the addresses of the shared variables that it captured -/
  | fn (f : FuncId) (caps : List (Nat × Nat))
  | tupm (ms : List Meta)
  /-- an aggregate whose cells are besides these -/
  | aggm (ms : List Meta)
  deriving Inhabited

inductive SObj where
  | box (cs : List (DV × Meta))
  | arr (sz : Nat) (ds : List DV)
  /-- `ks`: its keys are texts (else numbers) -/
  | map (ks : Bool) (es : List (DV × DV))
  /-- a slice's elements: sealed ones, then open ones; the room behind is its own -/
  | opn (sz : Nat) (pre ds : List DV)
  /-- a vector in its state `n`: elements that may be written; the room behind is its own -/
  | vec (n sz : Nat) (ds : List DV)
  deriving Inhabited

structure St where
  tm : List DV
  mt : List Meta
  bx : List (Option (List (DV × Meta)))
  sg : List SObj

def ob {α β : Type} (x : Option α) (f : α → Option β) : Option β :=
  match x with
  | some a => f a
  | none => none

def oif {β : Type} (d : DV) (t e : Option β) : Option β :=
  match d with
  | .bool true => t
  | .bool false => e
  | _ => none

def og {β : Type} (t : Bool) (x : Option β) : Option β :=
  match t with
  | true => x
  | false => none

def isAggN (n : Nat) : DV → Bool
  | .agg cs => cs.length == n
  | _ => false

def proj (j : Nat) : DV → DV
  | .agg cs => cs.getD j .undef
  | _ => .undef

def cells (n o : Nat) (d : DV) : List DV := (List.range n).map fun j => proj (o + j) d

def isLeaf : DV → Bool
  | .agg _ | .tup _ => false
  | _ => true

/-- Data that fill just one cell. -/
def isCell : DV → Bool
  | .int _ _ => true
  | .bool _ => true
  | .str _ => true
  | .list _ _ => true
  | .pnil => true
  | .pref _ _ => true
  | _ => false

/-- What a pointer leads to. -/
def dRef (sz : Nat) : DV → Option DV
  | .pref sz' d => if sz' = sz then some d else none
  | _ => none

def dLen : DV → Option DV
  | .list _ ds => some (.int .i64 ds.length)
  | _ => none

def dList : DV → Option (Nat × List DV)
  | .list sz ds => some (sz, ds)
  | _ => none

def dLenS : DV → Option DV
  | .str s => some (.int .i64 s.size)
  | _ => none

def dIdx (sz : Nat) (d i : DV) : Option DV :=
  match d, i with
  | .list sz' ds, .int _ n => if sz' = sz ∧ 0 ≤ n then ds[n.toNat]? else none
  | _, _ => none

def dStrIdx (d i : DV) : Option DV :=
  match d, i with
  | .str s, .int _ n => if 0 ≤ n then (s.data[n.toNat]?).map fun b => .int .u8 b.toNat else none
  | _, _ => none

/-- How long a slice that the machine makes may become. -/
def lim : Nat := 2 ^ 32

def dApp (sz : Nat) (d e : DV) : Option DV :=
  match d, e with
  | .list a ds, .list b es => if (a = sz ∧ b = sz) ∧ ds.length + es.length ≤ lim then some (.list sz (ds ++ es)) else none
  | _, _ => none

def dApp2 (sz : Nat) (d e : DV) : Option (List DV × List DV) :=
  match d, e with
  | .list a ds, .list b es => if (a = sz ∧ b = sz) ∧ ds.length + es.length ≤ lim ∧ 0 < es.length then some (ds, es) else none
  | _, _ => none

/-- A bound that is given, or not. -/
def bnd (dflt : Nat) : Option DV → Option Nat
  | none => some dflt
  | some (.int _ n) => if 0 ≤ n then some n.toNat else none
  | _ => none

/-- `x[lo:hi]` of a slice. -/
def dSlice (sz : Nat) (d : DV) (lo hi : Option DV) : Option DV :=
  match d with
  | .list sz' ds => ob (bnd ds.length hi) fun h => ob (bnd 0 lo) fun l =>
    if sz' = sz ∧ l ≤ h ∧ h ≤ ds.length then some (.list sz ((ds.take h).drop l)) else none
  | _ => none

/-- `x[lo:hi]` of a text. -/
def dSliceS (d : DV) (lo hi : Option DV) : Option DV :=
  match d with
  | .str s => ob (bnd s.size hi) fun h => ob (bnd 0 lo) fun l =>
    if l ≤ h ∧ h ≤ s.size then some (.str (s.extract l h)) else none
  | _ => none

/-- `x[lo:hi:mx]`, where `mx` is `hi`. -/
def dSlice3 (sz : Nat) (d : DV) (lo : Option DV) (hi mx : DV) : Option DV :=
  match hi, mx with
  | .int _ h, .int _ m => if h = m then dSlice sz d lo (some hi) else none
  | _, _ => none

/-- The kinds of leaves that can be held against each other. -/
inductive LK where
  | int | bool | str

def dEqK (k : LK) (x y : DV) : Option Bool :=
  match k, x, y with
  | .int, .int k a, .int k' b => if k = k' then some (a == b) else none
  | .bool, .bool a, .bool b => some (a == b)
  | .str, .str a, .str b => some (a.toList == b.toList)
  | _, _, _ => none

def dEqLeaves : List LK → List DV → List DV → Option Bool
  | [], [], [] => some true
  | k :: ks, x :: xs, y :: ys => ob (dEqK k x y) fun b => if b then dEqLeaves ks xs ys else some false
  | _, _, _ => none

def bytesLt : List UInt8 → List UInt8 → Bool
  | _, [] => false
  | [], _ :: _ => true
  | a :: x, b :: y => a < b || (a == b && bytesLt x y)

def isShift : BinOp → Bool
  | .shl => true
  | .shr => true
  | _ => false

def dShift (op : BinOp) (k : IntKind) (a b : Int) : Option DV :=
  if b < 0 then none else
  match op with
  | .shl => some (.int k (k.wrap (a * 2 ^ (min b.toNat k.bits))))
  | .shr => some (.int k (a.fdiv (2 ^ (min b.toNat k.bits))))
  | _ => none

def dArith (op : BinOp) (k : IntKind) (a b : Int) : Option DV :=
  match op with
  | .add => some (.int k (k.wrap (a + b)))
  | .sub => some (.int k (k.wrap (a - b)))
  | .mul => some (.int k (k.wrap (a * b)))
  | .eql => some (.bool (a == b))
  | .neq => some (.bool (a != b))
  | .lss => some (.bool (a < b))
  | .leq => some (.bool (a ≤ b))
  | .gtr => some (.bool (a > b))
  | .geq => some (.bool (a ≥ b))
  | .quo => if b = 0 then none else some (.int k (k.wrap (a.tdiv b)))
  | .rem => if b = 0 then none else some (.int k (a.tmod b))
  | .and => some (.int k (k.wrap (BitVec.ofInt k.bits a &&& BitVec.ofInt k.bits b).toNat))
  | .or => some (.int k (k.wrap (BitVec.ofInt k.bits a ||| BitVec.ofInt k.bits b).toNat))
  | .xor => some (.int k (k.wrap (BitVec.ofInt k.bits a ^^^ BitVec.ofInt k.bits b).toNat))
  | _ => none

def dStrOp (op : BinOp) (a b : ByteArray) : Option DV :=
  match op with
  | .add => if a.size + b.size ≤ lim then some (.str (a ++ b)) else none
  | .eql => some (.bool (a.toList == b.toList))
  | .neq => some (.bool !(a.toList == b.toList))
  | .lss => some (.bool (bytesLt a.toList b.toList))
  | .leq => some (.bool (bytesLt a.toList b.toList || a.toList == b.toList))
  | .gtr => some (.bool !(bytesLt a.toList b.toList || a.toList == b.toList))
  | .geq => some (.bool !bytesLt a.toList b.toList)
  | _ => none

/-- Numbers and texts. -/
def dBin (op : BinOp) (x y : DV) : Option DV :=
  match x, y with
  | .int k a, .int k' b => match isShift op with
    | true => dShift op k a b
    | false => if k = k' then dArith op k a b else none
  | .str a, .str b => dStrOp op a b
  | _, _ => none

/-- Are two bools the same? -/
def dEqB (x y : DV) : Option Bool :=
  match x, y with
  | .bool a, .bool b => some (a == b)
  | _, _ => none

/-- Are two structs of leaves the same? -/
def dEqA (ks : List LK) (x y : DV) : Option Bool :=
  match x, y with
  | .agg xs, .agg ys => dEqLeaves ks xs ys
  | _, _ => none

def dUn (op : UnOp) (x : DV) : Option DV :=
  match op, x with
  | .not, .bool b => some (.bool !b)
  | .neg, .int k n => some (.int k (k.wrap (0 - n)))
  | _, _ => none

def dPick (c a b : DV) : Option DV :=
  match c with
  | .bool true => some a
  | .bool false => some b
  | _ => none

def dMax (x y : DV) : Option DV :=
  match x, y with
  | .int k a, .int k' b => if k = k' then some (.int k (if b > a then b else a)) else none
  | _, _ => none

def dMin (x y : DV) : Option DV :=
  match x, y with
  | .int k a, .int k' b => if k = k' then some (.int k (if b < a then b else a)) else none
  | _, _ => none

def dConv (k : IntKind) : DV → Option DV
  | .int _ n => some (.int k (k.wrap n))
  | _ => none

def dExt (i : Nat) : DV → Option DV
  | .tup cs => cs[i]?
  | _ => none

def keyEq (x y : DV) : Bool :=
  match x, y with
  | .int _ a, .int _ b => a == b
  | .str a, .str b => a.toList == b.toList
  | _, _ => false

def isKey (ks : Bool) : DV → Bool
  | .int k _ => !ks && k == .i64
  | .str _ => ks
  | _ => false

def mGet (es : List (DV × DV)) (k : DV) : Option DV := (es.find? fun e => keyEq k e.1).map (·.2)

def mSet : List (DV × DV) → DV → DV → List (DV × DV)
  | [], k, v => [(k, v)]
  | e :: es, k, v => if keyEq k e.1 then (e.1, v) :: es else e :: mSet es k v

end Go.Su

/-
  THE DATA MACHINE, part 2: the program's own code, run over plain data. Nothing is proved here.
-/
namespace Go.Su

/-- What a caller hands, or is handed, in each place of a function that is no plain one. -/
inductive MK where
  | val | own
  /-- a pointer to a shared variable, or nil -/
  | ptr
  /-- a struct of `n` cells, of which these slices come with what they own -/
  | aggo (n : Nat) (os : List Nat)
  deriving Inhabited

structure Sig where
  params : List MK
  results : List MK
  /-- arrays in its results are sealed -/
  lock : Bool := false

/-- What the code's reader adds to a function: none of it can make a false thing true. -/
structure Flags where
  /-- registers that take a slice's ownership along -/
  steal : List Nat := []
  /-- variables that are shared -/
  shared : List Nat := []
  /-- registers whose aggregate shows no writable arrays -/
  hide : List Nat := []
  /-- slices with open elements, and these elements' addresses -/
  opn : List Nat := []
  /-- registers that hold a new vector's slice -/
  vecs : List Nat := []
  /-- registers that hold the slice of a vector that is one already -/
  vecr : List Nat := []
  /-- where a region ends: the register that leads to a slice with open elements, which are sealed now -/
  seals : List (Nat × Nat) := []
  /-- pointers to sealed variables that are held against nil: of how many cells these are -/
  refs : List (Nat × Nat) := []
  /-- variables that are sealed at once -/
  refb : List Nat := []
  /-- what is live where a region begins: registers, variables; registers and variables whose full slices are handed on as owned; those whose data are handed on as plain data -/
  keep : List (Nat × List Nat × List Nat × List Nat × List Nat) := []

/-- A function whose middle is no code of the machine: what comes ahead, what the middle makes of a state, what comes behind. -/
structure Cut where
  pre : List Code
  mid : St → Option St
  post : Code

/-- A function that defers one call, under a condition: what comes ahead; the condition; what comes under it ahead of the region that ends with the deferral; what comes behind. -/
structure DCut where
  pre : List Code
  r : Code
  c : Operand
  a : Code
  id : Nat
  ops : List Oper
  dop : Oper
  post : Code

/-- One after another. -/
def seqs : List Code → Code → Code
  | [], c => c
  | p :: ps, c => .seq p (seqs ps c)

structure Cfg where
  P : Program
  fl : FuncId → Flags
  sig : FuncId → Option Sig
  prim : FuncId → Option Cut
  clone : FuncId → Bool
  /-- of how many cells the elements are that a clone function copies -/
  csz : FuncId → Nat
  /-- a function that gives an iterator over its argument: which closure -/
  mki : FuncId → Option FuncId := fun _ => none
  /-- a closure that is an iterator: which elements come, out of the cells of what it captured -/
  iter : FuncId → Option (List DV → Option (List DV)) := fun _ => none
  /-- pointer types whose variables are written no more once they are laid -/
  ref : TypeId → Bool := fun _ => false
  dcut : FuncId → Option DCut := fun _ => none
  /-- functions that may be deferred -/
  dfn : FuncId → Bool := fun _ => false

structure Orc where
  p : FuncId → List DV → Option DV
  r : FuncId → List (DV × Meta) → List SObj → Option (List DV × List SObj)

def isAggD : TypeDesc → Bool
  | .struct _ => true
  | .array _ _ => true
  | _ => false

def tz (P : Program) (t : TypeId) : Option (Nat × Bool) :=
  ob (P.info? t) fun i => ob (P.underlying t) fun d => if isAggD d || i.size == 1 then some (i.size, isAggD d) else none

def elemT (P : Program) (t : TypeId) : Option TypeId :=
  match P.underlying t with
  | some (.slice e) => some e
  | _ => none

def fieldOf (P : Program) (t : TypeId) (f : Nat) : Option Field :=
  match P.underlying t with
  | some (.struct fs) => fs[f]?
  | _ => none

def elemSz (P : Program) (t : TypeId) : Nat :=
  match elemT P t with
  | some e => match tz P e with
    | some z => z.1
    | none => 0
  | none => 0

/-- A constant of a type. -/
def cst (P : Program) (t : TypeId) : Value → Option (DV × Meta)
  | .int k n => some (.int k n, .val)
  | .bool b => some (.bool b, .val)
  | .string s => some (.str s, .val)
  | .slice none 0 0 => some (.list (elemSz P t) [], .full)
  | .pointer none => some (.pnil, .nilp)
  | .map none => some (.undef, .nilm)
  | _ => none

def leafTys (P : Program) : Nat → TypeId → Option (List TypeId)
  | 0, _ => none
  | n + 1, t =>
    match P.underlying t with
    | some (.struct fs) => fs.toList.foldr (fun f acc => ob (leafTys P n f.type) fun l => ob acc fun r => some (l ++ r)) (some [])
    | some (.array _ _) => none
    | some _ => some [t]
    | none => none

def cstAll (P : Program) : List TypeId → List Value → Option (List (DV × Meta))
  | [], [] => some []
  | t :: ts, v :: vs => ob (cst P t v) fun r => ob (cstAll P ts vs) fun rs => some (r :: rs)
  | _, _ => none

def zeroRegs (P : Program) (t : TypeId) : Option (List (DV × Meta)) :=
  ob (leafTys P 8 t) fun ts => ob (P.info? t) fun i => ob i.zero fun v => cstAll P ts v.cells.toList

def dm1 : Meta → Meta
  | .own => .val
  | m => m

/-- What a copy is besides its data: no owner. -/
def dm : Meta → Meta
  | .own => .val
  | .tupm ms => .tupm (ms.map dm1)
  | .aggm ms => .aggm (ms.map dm1)
  | m => m

def isData : Meta → Bool
  | .val => true
  | .full => true
  | .own => true
  | .nilp => true
  | .aggm ms => ms.all fun m => match m with
    | .val => true
    | .full => true
    | .own => true
    | .nilp => true
    | _ => false
  | _ => false

/-- May a variable hold it? -/
def mayLie : Meta → Bool
  | .val => true
  | .full => true
  | .own => true
  | .ptr _ _ => true
  | .nilp => true
  | .map _ => true
  | .nilm => true
  | .arr _ _ _ _ => true
  | .vec _ _ _ _ => true
  | .fn _ _ => true
  | _ => false

def St.get (st : St) (t : Nat) : DV × Meta := (st.tm.getD t .undef, st.mt.getD t .val)

def St.put (st : St) (dst : Option Nat) (d : DV) (m : Meta) : St :=
  match dst with
  | none => st
  | some t => { st with tm := st.tm.set t d, mt := st.mt.set t m }

def St.release (st : St) : Operand → St
  | .tmp t => { st with mt := st.mt.set t (dm (st.mt.getD t .val)) }
  | _ => st

/-- A part of a result is taken. -/
def St.untup (st : St) (x : Operand) (m : Meta) : St :=
  match x with
  | .tmp t => { st with mt := st.mt.set t m }
  | _ => st

def clearLoc (s : Nat) : Meta → Meta
  | .loc s' o => if s' = s then .val else .loc s' o
  | m => m

def St.newBox (st : St) (shared : Bool) (dst : Option Nat) (cs : List (DV × Meta)) : St :=
  match dst with
  | none => st
  | some t =>
    if shared then { st with sg := st.sg ++ [SObj.box cs] }.put dst .undef (.ptr st.sg.length 0)
    else { st with mt := st.mt.map (clearLoc t), bx := st.bx.set t (some cs) }.put dst .undef (.loc t 0)

/-- No register points at the variable. -/
def noLoc (t : Nat) (mt : List Meta) : Bool :=
  mt.all fun m => match m with
    | .loc s _ => s != t
    | _ => true

def boxOk (shared : Bool) (dst : Option Nat) (st : St) : Bool :=
  match dst with
  | none => true
  | some t => shared || noLoc t st.mt

def keepL {α : Type} (ts : List Nat) (d : α) : Nat → List α → List α
  | _, [] => []
  | i, x :: xs => (if ts.contains i then x else d) :: keepL ts d (i + 1) xs

def toOwn : Meta → Meta
  | .full => .own
  | m => m

def ownL {α : Type} (f : α → α) (ts : List Nat) : Nat → List α → List α
  | _, [] => []
  | i, x :: xs => (if ts.contains i then f x else x) :: ownL f ts (i + 1) xs

def ownCells : Option (List (DV × Meta)) → Option (List (DV × Meta))
  | some cs => some (cs.map fun c => (c.1, toOwn c.2))
  | none => none

def toVal (m : Meta) : Meta := if isData m then .val else m

def valCells : Option (List (DV × Meta)) → Option (List (DV × Meta))
  | some cs => some (cs.map fun c => (c.1, toVal c.2))
  | none => none

def St.keep (st : St) (ts bs os vs : List Nat) : St :=
  { st with tm := keepL ts .undef 0 st.tm, mt := ownL toVal vs 0 (ownL toOwn os 0 (keepL ts .val 0 st.mt)), bx := ownL valCells vs 0 (ownL ownCells os 0 (keepL bs none 0 st.bx)) }

def src (P : Program) (t : TypeId) (st : St) : Operand → Option (DV × Meta)
  | .tmp x => some (st.get x)
  | .const v => cst P t v
  | .func f => some (.undef, .fn f [])
  | .global _ => none

def srcs (P : Program) (st : St) : List TypeId → List Operand → Option (List (DV × Meta))
  | t :: ts, x :: xs => ob (src P t st x) fun r => ob (srcs P st ts xs) fun rs => some (r :: rs)
  | [], x :: xs => ob (src P 0 st x) fun r => ob (srcs P st [] xs) fun rs => some (r :: rs)
  | _, [] => some []

def zipM : List DV → List Meta → List (DV × Meta)
  | d :: ds, m :: ms => (d, m) :: zipM ds ms
  | _, _ => []

def cellsM (n : Nat) (r : DV × Meta) : Option (List (DV × Meta)) :=
  match r.2 with
  | .val => some ((cells n 0 r.1).map fun d => (d, .val))
  | .aggm ms => if ms.length = n then some (zipM (cells n 0 r.1) ms) else none
  | _ => none

/-- A value as one cell. -/
def cellOf {X : Type} (r : DV × Meta) (k : DV × Meta → Option X) : Option X :=
  match r.2 with
  | .val => og (isCell r.1) (k (r.1, .val))
  | .full => k (r.1, .full)
  | .own => k (r.1, .own)
  | .nilp => k (.pnil, .nilp)
  | m => og (mayLie m) (k (.undef, m))

/-- A value of a type as cells. -/
def explode {X : Type} (P : Program) (t : TypeId) (r : DV × Meta) (k : List (DV × Meta) → Option X) : Option X :=
  ob (tz P t) fun z =>
    if z.2 then og (isAggN z.1 r.1) (ob (cellsM z.1 r) fun cs => k (cs.map fun c => (c.1, dm c.2)))
    else cellOf r fun c => k [(c.1, dm c.2)]

/-- The same, with what the cells own. -/
def explodeO {X : Type} (P : Program) (t : TypeId) (r : DV × Meta) (k : List (DV × Meta) → Option X) : Option X :=
  ob (tz P t) fun z =>
    if z.2 then og (isAggN z.1 r.1) (ob (cellsM z.1 r) k)
    else cellOf r fun c => k [(c.1, dm c.2)]

def putAt {α : Type} (l : List α) (o : Nat) (cs : List α) : List α := l.take o ++ cs ++ l.drop (o + cs.length)

/-- A struct's fields' places and sizes. -/
def places (P : Program) (t : TypeId) : Option (List (Nat × Nat)) :=
  match P.underlying t with
  | some (.struct fs) => fs.toList.mapM fun f => (P.info? f.type).map fun i => (f.offset, i.size)
  | _ => none

def buildParts {X : Type} (P : Program) (t : TypeId) (st : St) : List (Nat × Operand) → List (DV × Meta) → (List (DV × Meta) → Option X) → Option X
  | [], cs, k => k cs
  | (i, x) :: rest, cs, k =>
    ob (fieldOf P t i) fun f => ob (src P f.type st x) fun r => explode P f.type r fun xs =>
      if f.offset + xs.length ≤ cs.length then buildParts P t st rest (putAt cs f.offset xs) k else none

def aggOf (cs : List (DV × Meta)) : DV × Meta := (.agg (cs.map (·.1)), .aggm (cs.map fun c => dm c.2))

/-- A value that becomes an element: sealed. -/
def elemVal {X : Type} (z : Nat × Bool) (r : DV × Meta) (k : DV → Option X) : Option X :=
  og (isData r.2) (if z.2 then og (isAggN z.1 r.1) (k r.1) else og (isCell r.1) (k r.1))

/-- A source that is to be an element: a constant struct, too. -/
def srcE (P : Program) (t : TypeId) (st : St) (x : Operand) : Option (DV × Meta) :=
  match x with
  | .const (.agg vs) => ob (leafTys P 8 t) fun ts => ob (cstAll P ts vs.toList) fun rs => og (rs.all fun c => isData c.2) (some (.agg (rs.map (·.1)), .val))
  | x => src P t st x

def sliceParts {X : Type} (P : Program) (e : TypeId) (z : Nat × Bool) (st : St) : List (Nat × Operand) → List DV → (List DV → Option X) → Option X
  | [], ds, k => k ds
  | (i, x) :: rest, ds, k => ob (srcE P e st x) fun r => elemVal z r fun d => if i < ds.length then sliceParts P e z st rest (ds.set i d) k else none

def zeroElem (z : Nat × Bool) (cs : List (DV × Meta)) : Option DV :=
  if z.2 then some (.agg (cs.map (·.1)))
  else match cs with
    | [c] => some c.1
    | _ => none

def sgBox (sg : List SObj) (i : Nat) : Option (List (DV × Meta)) :=
  match sg[i]? with
  | some (.box cs) => some cs
  | _ => none

def sgArr (sg : List SObj) (i : Nat) : Option (Nat × List DV) :=
  match sg[i]? with
  | some (.arr sz ds) => some (sz, ds)
  | _ => none

def sgOpn (sg : List SObj) (i : Nat) : Option (Nat × List DV × List DV) :=
  match sg[i]? with
  | some (.opn sz pre ds) => some (sz, pre, ds)
  | _ => none

/-- The vector `i`, if it is in the state `n`. -/
def sgVec (sg : List SObj) (i n : Nat) : Option (Nat × List DV) :=
  match sg[i]? with
  | some (.vec n' sz ds) => if n' = n then some (sz, ds) else none
  | _ => none

/-- An open element is written. -/
def openSet (q : Nat × List DV × List DV) (idx : Nat) (e : DV) : Option SObj :=
  if q.2.1.length ≤ idx ∧ idx - q.2.1.length < q.2.2.length then some (.opn q.1 q.2.1 (q.2.2.set (idx - q.2.1.length) e)) else none

/-- All elements, sealed. -/
def closeObj (q : Nat × List DV × List DV) (sz len : Nat) : Option DV :=
  if q.1 = sz ∧ q.2.1.length + q.2.2.length = len ∧ 0 < len then some (.list sz (q.2.1 ++ q.2.2)) else none

def sgMap (sg : List SObj) (i : Nat) : Option (Bool × List (DV × DV)) :=
  match sg[i]? with
  | some (.map ks es) => some (ks, es)
  | _ => none

def cellDat (cs : List (DV × Meta)) (o : Nat) : Option DV :=
  match cs[o]? with
  | some (d, .val) => some d
  | some (d, .full) => some d
  | some (d, .own) => some d
  | some (d, .nilp) => some d
  | _ => none

def cellOwn (cs : List (DV × Meta)) (o : Nat) : Option DV :=
  match cs[o]? with
  | some (d, .full) => some d
  | some (d, .own) => some d
  | _ => none

/-- A slice of a whole array. -/
def cellArr (cs : List (DV × Meta)) (o : Nat) : Option (Nat × Nat × Nat) :=
  match cs[o]? with
  | some (_, .arr i sz 0 len) => some (i, sz, len)
  | _ => none

def cellVec (cs : List (DV × Meta)) (o sz : Nat) : Option (Nat × Nat × Nat) :=
  match cs[o]? with
  | some (_, .vec i n sz' len) => if sz' = sz then some (i, n, len) else none
  | _ => none

/-- The vector of a cell; the empty slice becomes a vector. -/
def vecIn (sg : List SObj) (i off : Nat) (cs : List (DV × Meta)) (sz : Nat) : Option (List SObj × Nat × Nat × Nat) :=
  match cs[off]? with
  | some (_, .vec j n sz' len) => if sz' = sz then some (sg, j, n, len) else none
  | some (.list sz' [], .full) => if sz' = sz ∧ 0 < sz then some (sg.set i (.box (cs.set off (.undef, .vec sg.length 1 sz 0))) ++ [.vec 1 sz []], sg.length, 1, 0) else none
  | _ => none

def cellMap (cs : List (DV × Meta)) (o : Nat) : Option Nat :=
  match cs[o]? with
  | some (_, .map i) => some i
  | _ => none

def cellPtr (cs : List (DV × Meta)) (o : Nat) : Option Nat :=
  match cs[o]? with
  | some (_, .ptr i 0) => some i
  | _ => none

def segDat : Nat → Nat → List (DV × Meta) → Option (List DV)
  | _, 0, _ => some []
  | o, n + 1, cs => ob (cellDat cs o) fun d => ob (segDat (o + 1) n cs) fun ds => some (d :: ds)

/-- How a cell of a type is read out of a shared variable. -/
inductive CellKind where
  | dat | map | ptr

def cellKind (C : Cfg) (t : TypeId) : CellKind :=
  match C.P.underlying t with
  | some (.map _ _) => .map
  | some (.pointer _) => if C.ref t then .dat else .ptr
  | _ => .dat

/-- The zero of a type of one cell. -/
def zeroLeaf (P : Program) (t : TypeId) : Option DV :=
  ob (P.info? t) fun i => ob i.zero fun v => ob (cst P t v) fun r => og (isData r.2) (some r.1)

/-- Are a map's keys texts (else numbers)? And its elements' type. -/
def mapKeys (P : Program) (t : TypeId) : Option (Bool × TypeId) :=
  match P.underlying t with
  | some (.map kt et) =>
    match P.underlying kt with
    | some (.int .i64) => some (false, et)
    | some .string => some (true, et)
    | _ => none
  | _ => none

section
variable {X : Type} (C : Cfg) (R : Orc)

def dstIn (l : List Nat) : Option Nat → Bool
  | some t => l.contains t
  | none => false

def hideCell (c : DV × Meta) : DV × Meta :=
  match c.2 with
  | .arr _ _ _ _ => (.undef, .val)
  | _ => c

def evLoad (fl : Flags) (o : Oper) (t : TypeId) (x : Operand) (st : St) (k : St → Option X) : Option X :=
  ob (src C.P 0 st x) fun r => ob (tz C.P t) fun z =>
    match r.2 with
    | .loc s off => ob (st.bx.getD s none) fun cs =>
      if off + z.1 ≤ cs.length then
        if z.2 then
          let seg := (cs.drop off).take z.1
          if dstIn fl.steal o.dst then
            k ({ st with bx := st.bx.set s (some (putAt cs off (seg.map fun c : DV × Meta => (c.1, dm c.2)))) }.put o.dst (.agg (seg.map fun c : DV × Meta => c.1)) (.aggm (seg.map fun c : DV × Meta => c.2)))
          else
            let a := aggOf (if dstIn fl.hide o.dst then seg.map hideCell else seg)
            k (st.put o.dst a.1 a.2)
        else
          let c := cs.getD off (.undef, .val)
          if dstIn fl.steal o.dst then k ({ st with bx := st.bx.set s (some (cs.set off (c.1, dm c.2))) }.put o.dst c.1 c.2)
          else k (st.put o.dst c.1 (dm c.2))
      else none
    | .rop ag sz off =>
      if off + z.1 ≤ sz then
        if z.2 then og ag (k (st.put o.dst (.agg (cells z.1 off r.1)) .val))
        else k (st.put o.dst (if ag then proj off r.1 else r.1) .val)
      else none
    | .ptr i off => ob (sgBox st.sg i) fun cs =>
      if z.2 then og (z.1 != 0) (ob (segDat off z.1 cs) fun ds => k (st.put o.dst (.agg ds) .val))
      else match cellKind C t with
        | .map => ob (cellMap cs off) fun j => k (st.put o.dst .undef (.map j))
        | .ptr => ob (cellPtr cs off) fun j => k (st.put o.dst .undef (.ptr j 0))
        | .dat =>
          if dstIn fl.vecr o.dst then
            ob (elemT C.P t) fun e => ob (tz C.P e) fun ze => ob (cellVec cs off ze.1) fun q => k (st.put o.dst .undef (.vec q.1 q.2.1 ze.1 q.2.2))
          else if dstIn fl.vecs o.dst then
            ob (elemT C.P t) fun e => ob (tz C.P e) fun ze => ob (vecIn st.sg i off cs ze.1) fun q => k ({ st with sg := q.1 }.put o.dst .undef (.vec q.2.1 q.2.2.1 ze.1 q.2.2.2))
          else if dstIn fl.steal o.dst then
            ob (cellOwn cs off) fun d => k ({ st with sg := st.sg.set i (.box (cs.set off (d, .val))) }.put o.dst d .own)
          else ob (cellDat cs off) fun d => k (st.put o.dst d .val)
    | .ept i sz idx off => ob (sgArr st.sg i) fun a => ob a.2[idx]? fun d =>
      og (a.1 == sz)
        (if off + z.1 ≤ sz then
          if z.2 then k (st.put o.dst (.agg (cells z.1 off d)) .val)
          else if sz = 1 then og (isLeaf d) (k (st.put o.dst d .val)) else k (st.put o.dst (proj off d) .val)
        else none)
    | .vpt i n sz idx off => ob (sgVec st.sg i n) fun a => ob a.2[idx]? fun d =>
      og (a.1 == sz)
        (if off + z.1 ≤ sz then
          if z.2 then k (st.put o.dst (.agg (cells z.1 off d)) .val)
          else if sz = 1 then og (isLeaf d) (k (st.put o.dst d .val)) else k (st.put o.dst (proj off d) .val)
        else none)
    | _ => none

/-- A part of an element is another. -/
def setPart (sz off : Nat) (d : DV) (xs : List (DV × Meta)) : Option DV :=
  match d with
  | .agg cs => if xs.all (fun c => isData c.2 && isLeaf c.1) = true ∧ cs.length = sz ∧ off + xs.length ≤ sz then some (.agg (putAt cs off (xs.map (·.1)))) else none
  | _ => none

def evStore (o : Oper) (t : TypeId) (x y : Operand) (st : St) (k : St → Option X) : Option X :=
  ob (src C.P 0 st x) fun r => ob (src C.P t st y) fun v => ob (tz C.P t) fun z =>
    match r.2 with
    | .loc s off => ob (st.bx.getD s none) fun cs =>
      if z.2 then explodeO C.P t v fun xs =>
        if off + xs.length ≤ cs.length then k (({ st with bx := st.bx.set s (some (putAt cs off xs)) }.release y).put o.dst (.tup []) .val) else none
      else cellOf v fun c =>
        if off < cs.length then k (({ st with bx := st.bx.set s (some (cs.set off c)) }.release y).put o.dst (.tup []) .val) else none
    | .ptr i off => ob (sgBox st.sg i) fun cs =>
      if z.2 then explode C.P t v fun xs =>
        if off + xs.length ≤ cs.length then k ({ st with sg := st.sg.set i (.box (putAt cs off xs)) }.put o.dst (.tup []) .val) else none
      else cellOf v fun c =>
        ob cs[off]? fun _ => k (({ st with sg := st.sg.set i (.box (cs.set off c)) }.release y).put o.dst (.tup []) .val)
    | .ept i sz idx off => ob (sgArr st.sg i) fun a => ob a.2[idx]? fun _ => elemVal z v fun e =>
      og (a.1 == sz)
        (if z.1 = sz ∧ off = 0 then k ({ st with sg := st.sg.set i (.arr sz (a.2.set idx e)) }.put o.dst (.tup []) .val)
        else none)
    | .opt i sz idx => ob (sgOpn st.sg i) fun q => elemVal z v fun e => og (q.1 == sz && z.1 == sz)
        (ob (openSet q idx e) fun x => k ({ st with sg := st.sg.set i x }.put o.dst (.tup []) .val))
    | .vpt i n sz idx off => ob (sgVec st.sg i n) fun a => ob a.2[idx]? fun d => og (a.1 == sz)
        (if z.2 then explode C.P t v fun xs => ob (setPart sz off d xs) fun e => k ({ st with sg := st.sg.set i (.vec n sz (a.2.set idx e)) }.put o.dst (.tup []) .val)
        else cellOf v fun c => ob (setPart sz off d [c]) fun e => k ({ st with sg := st.sg.set i (.vec n sz (a.2.set idx e)) }.put o.dst (.tup []) .val))
    | _ => none

/-- Is a pointer nil? -/
def ptrNil (r : DV × Meta) : Option Bool :=
  match r.2 with
  | .nilp => some true
  | .ptr _ _ => some false
  | .val => match r.1 with
    | .pnil => some true
    | .pref _ _ => some false
    | _ => none
  | _ => none

def eqNil (r s : DV × Meta) : Option Bool :=
  match ptrNil r, ptrNil s with
  | some true, some b => some b
  | some false, some true => some false
  | _, _ => none

def metaEqNilM (m n : Meta) : Option Bool :=
  match m, n with
  | .nilm, .nilm => some true
  | .nilm, .map _ => some false
  | .map _, .nilm => some false
  | _, _ => none

/-- What kind of operands a type's operators have. -/
inductive BinKind where
  | num | bool | flat (ks : List LK) | ptr | map | ref

def leafK (P : Program) (t : TypeId) : Option LK :=
  match P.underlying t with
  | some .bool => some .bool
  | some (.int _) => some .int
  | some .string => some .str
  | _ => none

/-- Field `i` lies at place `i`, and is a leaf with a name. -/
def flatKinds (P : Program) : Nat → List Field → Option (List LK)
  | _, [] => some []
  | i, f :: fs => if f.name != "_" && f.offset == i then ob (leafK P f.type) fun k => ob (flatKinds P (i + 1) fs) fun ks => some (k :: ks) else none

def binKind (P : Program) (t : TypeId) : BinKind :=
  match P.underlying t with
  | some (.int _) => .num
  | some .string => .num
  | some .bool => .bool
  | some (.pointer _) => .ptr
  | some (.map _ _) => .map
  | some (.struct fs) =>
    match flatKinds P 0 fs.toList, P.stoodInHeld t, P.eqGuardType P.depth t with
    | some ks, false, false => .flat ks
    | _, _, _ => .ref
  | _ => .ref

def eqOut (op : BinOp) (b : Bool) : Option DV :=
  match op with
  | .eql => some (.bool b)
  | .neq => some (.bool !b)
  | _ => none

def evBin (o : Oper) (op : BinOp) (t : TypeId) (x y : Operand) (st : St) (k : St → Option X) : Option X :=
  ob (src C.P t st x) fun r => ob (src C.P t st y) fun s =>
    match binKind C.P t with
    | .num => og (isData r.2 && isData s.2) (ob (dBin op r.1 s.1) fun d => k (st.put o.dst d .val))
    | .bool => og (isData r.2 && isData s.2) (ob (dEqB r.1 s.1) fun b => ob (eqOut op b) fun d => k (st.put o.dst d .val))
    | .flat ks => og (isData r.2 && isData s.2) (ob (dEqA ks r.1 s.1) fun b => ob (eqOut op b) fun d => k (st.put o.dst d .val))
    | .ptr => ob (eqNil r s) fun b => ob (eqOut op b) fun d => k (st.put o.dst d .val)
    | .map => ob (metaEqNilM r.2 s.2) fun b => ob (eqOut op b) fun d => k (st.put o.dst d .val)
    | .ref => none

def evFieldAddr (o : Oper) (t : TypeId) (x : Operand) (f : Nat) (st : St) (k : St → Option X) : Option X :=
  ob (src C.P 0 st x) fun r => ob (fieldOf C.P t f) fun fd => ob (tz C.P fd.type) fun z =>
    if z.1 = 0 then none
    else match r.2 with
      | .loc s off => k (st.put o.dst .undef (.loc s (off + fd.offset)))
      | .rop ag sz off => k (st.put o.dst r.1 (.rop ag sz (off + fd.offset)))
      | .ptr i off => k (st.put o.dst .undef (.ptr i (off + fd.offset)))
      | .ept i sz idx off => k (st.put o.dst .undef (.ept i sz idx (off + fd.offset)))
      | .vpt i n sz idx off => k (st.put o.dst .undef (.vpt i n sz idx (off + fd.offset)))
      | _ => none

def arrIdx (off len : Nat) : DV → Option Nat
  | .int _ n => if 0 ≤ n ∧ n < len then some (off + n.toNat) else none
  | _ => none

def evIndexAddr (fl : Flags) (o : Oper) (t : TypeId) (x i : Operand) (st : St) (k : St → Option X) : Option X :=
  ob (src C.P t st x) fun r => ob (src C.P 0 st i) fun j => ob (elemT C.P t) fun e => ob (tz C.P e) fun z =>
    match r.2 with
    | .arr a sz off len => og (sz == z.1 && isData j.2) (ob (arrIdx off len j.1) fun n => k (st.put o.dst .undef (if dstIn fl.opn o.dst then .opt a sz n else .ept a sz n 0)))
    | .vec i n sz len => og (sz == z.1 && isData j.2) (ob (arrIdx 0 len j.1) fun idx => k (st.put o.dst .undef (.vpt i n sz idx 0)))
    | m => og (isData m && isData j.2) (ob (dIdx z.1 r.1 j.1) fun d =>
      if z.2 then k (st.put o.dst d (.rop true z.1 0)) else og (isLeaf d) (k (st.put o.dst d (.rop false z.1 0))))

def optSrc (P : Program) (st : St) : Option Operand → Option (Option DV)
  | none => some none
  | some x => ob (src P 0 st x) fun r => og (isData r.2) (some (some r.1))

def arrOf : Meta → Option (Nat × Nat × Nat × Nat)
  | .arr i sz off len => some (i, sz, off, len)
  | _ => none

def vecOf : Meta → Option (Nat × Nat × Nat × Nat)
  | .vec i n sz len => some (i, n, sz, len)
  | _ => none

def evSlice (o : Oper) (t : TypeId) (x : Operand) (lo hi mx : Option Operand) (st : St) (k : St → Option X) : Option X :=
  ob (src C.P t st x) fun r => ob (optSrc C.P st lo) fun l => ob (optSrc C.P st hi) fun h => ob (optSrc C.P st mx) fun m =>
    match arrOf r.2 with
    | some q => ob (elemT C.P t) fun e => ob (tz C.P e) fun z => og (m.isNone && q.2.1 == z.1) (ob (bnd q.2.2.2 h) fun hh => ob (bnd 0 l) fun ll =>
      if ll ≤ hh ∧ hh ≤ q.2.2.2 then k (st.put o.dst .undef (.arr q.1 q.2.1 (q.2.2.1 + ll) (hh - ll))) else none)
    | none => match vecOf r.2 with
    | some q => ob (elemT C.P t) fun e => ob (tz C.P e) fun z => og (m.isNone && l.isNone && q.2.2.1 == z.1) (ob (bnd q.2.2.2 h) fun hh =>
      if hh ≤ q.2.2.2 then k (st.put o.dst .undef (.vec q.1 q.2.1 q.2.2.1 hh)) else none)
    | none => og (isData r.2)
      (match C.P.underlying t with
        | some (.slice e) => ob (tz C.P e) fun z =>
          match m, h with
          | none, _ => ob (dSlice z.1 r.1 l h) fun d => k (st.put o.dst d .val)
          | some m, some h => ob (dSlice3 z.1 r.1 l h m) fun d => k (st.put o.dst d .full)
          | _, _ => none
        | some .string =>
          match m with
          | none => ob (dSliceS r.1 l h) fun d => k (st.put o.dst d .val)
          | some _ => none
        | _ => none)

def mapLen (sg : List SObj) : Meta → Option Nat
  | .map i => ob (sgMap sg i) fun p => some p.2.length
  | .nilm => some 0
  | _ => none

/-- A number that is not looked into. -/
def vLen : Nat → Option DV
  | 0 => some (.int .i64 0)
  | n + 1 => some (.int .i64 ((n + 1 : Nat) : Int))
theorem vLen_eq (n : Nat) : vLen n = some (.int .i64 n) := by cases n <;> rfl

def evLen (o : Oper) (x : Operand) (t : TypeId) (st : St) (k : St → Option X) : Option X :=
  ob (src C.P t st x) fun r =>
    match C.P.underlying t with
    | some (.slice _) =>
      match r.2 with
      | .arr _ _ _ len => k (st.put o.dst (.int .i64 len) .val)
      | .vec _ _ _ len => ob (vLen len) fun d => k (st.put o.dst d .val)
      | m => og (isData m) (ob (dLen r.1) fun d => k (st.put o.dst d .val))
    | some .string => og (isData r.2) (ob (dLenS r.1) fun d => k (st.put o.dst d .val))
    | some (.map _ _) => ob (mapLen st.sg r.2) fun n => k (st.put o.dst (.int .i64 n) .val)
    | _ => none

def isRoom : Meta → Bool
  | .full => true
  | .own => true
  | _ => false

/-- The size of the elements, where the slices can be appended. -/
def appSz (P : Program) (t u : TypeId) : Option Nat :=
  ob (elemT P t) fun e => ob (elemT P u) fun _ => ob (tz P e) fun z => ob (P.info? e) fun i => ob (zeroRegs P e) fun zs =>
    if z.1 ≠ 0 ∧ i.bytes ≤ 2 ^ 14 ∧ zs.length = z.1 then some z.1 else none

/-- A vector grows. -/
def evVApp (o : Oper) (x y : Operand) (t u : TypeId) (st : St) (k : St → Option X) : Option X :=
  ob (src C.P t st x) fun r => ob (src C.P u st y) fun s =>
    ob (appSz C.P t u) fun sz => og (isData s.2 && o.dst.isSome) (ob (vecOf r.2) fun q =>
      ob (sgVec st.sg q.1 q.2.1) fun a => og (a.1 == sz && q.2.2.1 == sz && decide (q.2.2.2 ≤ a.2.length))
        (ob (dApp2 sz (.list sz (a.2.take q.2.2.2)) s.1) fun p => k ({ st with sg := st.sg.set q.1 (.vec (q.2.1 + 1) sz (p.1 ++ p.2)) }.put o.dst .undef (.vec q.1 (q.2.1 + 1) sz (p.1.length + p.2.length)))))

def evAppend (fl : Flags) (o : Oper) (x y : Operand) (t u : TypeId) (st : St) (k : St → Option X) : Option X :=
  if dstIn fl.vecs o.dst then evVApp C o x y t u st k else
  ob (src C.P t st x) fun r => ob (src C.P u st y) fun s =>
    ob (appSz C.P t u) fun sz => og (isRoom r.2 && isData s.2 && o.dst.isSome)
      (if dstIn fl.opn o.dst then ob (dApp2 sz r.1 s.1) fun p => k ({ st.release x with sg := st.sg ++ [SObj.opn sz p.1 p.2] }.put o.dst .undef (.arr st.sg.length sz 0 (p.1.length + p.2.length)))
      else ob (dApp sz r.1 s.1) fun d => k ((st.release x).put o.dst d .own))

/-- A writable array's elements are cleared, to its end: they are forgotten. -/
def evClear (o : Oper) (x : Operand) (t : TypeId) (st : St) (k : St → Option X) : Option X :=
  ob (src C.P t st x) fun r => ob (arrOf r.2) fun q => ob (sgArr st.sg q.1) fun a => ob (elemT C.P t) fun e => ob (tz C.P e) fun z => ob (zeroRegs C.P e) fun zs =>
    og (a.1 == q.2.1 && q.2.1 == z.1 && zs.length == z.1 && decide (q.2.2.1 + q.2.2.2 ≤ a.2.length))
      (k ({ st with sg := st.sg.set q.1 (.arr q.2.1 (a.2.take q.2.2.1)) }.put o.dst (.tup []) .val))

/-- An argument that is plain data is just that. -/
def dmv (m : Meta) : Meta := if isData m then .val else dm m

/-- A struct's cells: these with what they own, the others as plain data. -/
def ownMs (os : List Nat) : Nat → List Meta → List Meta
  | _, [] => []
  | i, m :: ms => (if os.contains i then toOwn m else dmv m) :: ownMs os (i + 1) ms

def ownArg (m : Meta) (k : MK) : Meta :=
  match k, m with
  | .own, .full => .own
  | .own, m => m
  | .aggo _ os, .aggm ms => .aggm (ownMs os 0 ms)
  | _, m => dmv m

def sigArgs : List MK → List (DV × Meta) → List (DV × Meta)
  | k :: ks, r :: rs => (r.1, ownArg r.2 k) :: sigArgs ks rs
  | [], rs => rs.map fun r => (r.1, dmv r.2)
  | _, [] => []

/-- No address of a private variable goes into a call. -/
def mayGo : Meta → Bool
  | .loc _ _ => false
  | .rop _ _ _ => false
  | .tupm _ => false
  | .aggm ms => ms.all mayLie
  | _ => true

/-- The argument that is handed with what it owns. -/
def isOwn : MK → Bool
  | .own => true
  | .aggo _ _ => true
  | _ => false

def ownPlace : Nat → List MK → List Operand → Option (Nat × Operand)
  | i, k :: ks, x :: xs => if isOwn k then some (i, x) else ownPlace (i + 1) ks xs
  | _, _, _ => none

def St.giveArg (st : St) : Option (Nat × Operand) → St
  | some p => st.release p.2
  | none => st

def resReg (k : MK) (d : DV) : DV × Meta :=
  match k with
  | .val => (d, .val)
  | .own => (d, .own)
  | .ptr => match d with
    | .int _ i => (.undef, .ptr i.toNat 0)
    | .pnil => (.pnil, .nilp)
    | _ => (.undef, .val)
  | .aggo n os => (d, .aggm ((List.range n).map fun i => if os.contains i then .own else .val))

def okRes (ks : List MK) : Bool := ks.length == 1 || ks.all fun k => match k with
  | .val => true
  | .own => true
  | _ => false

def packRes (ks : List MK) (ds : List DV) : DV × Meta :=
  match ks with
  | [k] => resReg k (ds.getD 0 .undef)
  | _ => (.tup ds, .tupm (ks.map fun k => (resReg k .undef).2))

def dPtr : DV → Option Nat
  | .int _ n => some n.toNat
  | _ => none

/-- What a call's register gets: a pointer is no nil. -/
def resPut {X : Type} (ks : List MK) (ds : List DV) (k : DV × Meta → Option X) : Option X :=
  match ks with
  | [.ptr] => ob (dPtr (ds.getD 0 .undef)) fun i => k (.undef, .ptr i 0)
  | ks => k (packRes ks ds)

theorem resPut_some {X : Type} {ks : List MK} {ds : List DV} {k : DV × Meta → Option X} {x : X} (h : resPut ks ds k = some x) : k (packRes ks ds) = some x ∧ ∀ (Y : Type) (k' : DV × Meta → Option Y), resPut ks ds k' = k' (packRes ks ds) := by
  unfold resPut at h
  split at h
  · cases hd : dPtr (ds.getD 0 .undef) with
    | none => rw [hd] at h; cases h
    | some i =>
      have e : packRes [.ptr] ds = (.undef, .ptr i 0) := by
        unfold dPtr at hd
        split at hd <;> simp only [Option.some.injEq, reduceCtorEq] at hd
        rename_i kk n hx
        simp only [packRes, resReg]
        rw [hx, ← hd]
      rw [hd] at h
      rw [e]
      exact ⟨h, fun Y k' => by simp only [resPut, hd, ob]⟩
  · rename_i hne
    refine ⟨h, fun Y k' => ?_⟩
    unfold resPut
    split
    · exact absurd rfl hne
    · rfl

def aggD : DV → Option (List DV)
  | .agg cs => some cs
  | _ => none

def callF (o : Oper) (f : FuncId) (xs : List Operand) (rs : List (DV × Meta)) (st : St) (k : St → Option X) : Option X :=
  if C.clone f then
    match rs with
    | [r] => ob (dList r.1) fun p => og (isData r.2 && p.1 == C.csz f && decide (p.2.length ≤ lim)) (k ({ st with sg := st.sg ++ [SObj.arr (C.csz f) p.2] }.put o.dst .undef (.arr st.sg.length (C.csz f) 0 p.2.length)))
    | _ => none
  else match C.mki f with
  | some g =>
    match rs with
    | [r] => ob (aggD r.1) fun cs => og (isData r.2 && cs.length == C.csz f) (k ({ st with sg := st.sg ++ [SObj.box (cs.map fun d => (d, .val))] }.put o.dst .undef (.fn g [(st.sg.length, 0)])))
    | _ => none
  | none => match C.sig f with
    | none => og (rs.all fun r => isData r.2) (ob (R.p f (rs.map (·.1))) fun d => k (st.put o.dst d .val))
    | some s => og ((rs.all fun r => mayGo r.2) && decide ((s.params.filter isOwn).length ≤ 1) && okRes s.results)
      (ob (R.r f (sigArgs s.params rs) st.sg) fun q =>
        resPut s.results q.1 fun r => k (({ st with sg := q.2 }.giveArg (ownPlace 0 s.params xs)).put o.dst r.1 r.2))

def evCall (fl : Flags) (o : Oper) (c : Call) (st : St) (k : St → Option X) : Option X :=
  match c.callee with
  | .builtin b =>
    match b, c.args.toList, c.argTypes.toList with
    | .len, [x], [t] => evLen C o x t st k
    | .append, [x, y], [t, u] => evAppend C fl o x y t u st k
    | .clear, [x], [t] => evClear C o x t st k
    | .max, [x, y], [t, u] => ob (src C.P t st x) fun r => ob (src C.P u st y) fun s => og (isData r.2 && isData s.2) (ob (dMax r.1 s.1) fun d => k (st.put o.dst d .val))
    | .min, [x, y], [t, u] => ob (src C.P t st x) fun r => ob (src C.P u st y) fun s => og (isData r.2 && isData s.2) (ob (dMin r.1 s.1) fun d => k (st.put o.dst d .val))
    | _, _, _ => none
  | .value fv => ob (src C.P 0 st fv) fun r => ob (srcs C.P st c.argTypes.toList c.args.toList) fun rs =>
    match r.2 with
    | .fn f caps => callF C R o f c.args.toList (rs ++ caps.map fun m => (.undef, .ptr m.1 m.2)) st k
    | _ => none
  | .invoke _ _ => none

def capMetas : List (DV × Meta) → Option (List (Nat × Nat))
  | [] => some []
  | (_, .ptr i o) :: rs => ob (capMetas rs) fun ms => some ((i, o) :: ms)
  | _ => none

def evOp (fl : Flags) (o : Oper) (st : St) (k : St → Option X) : Option X :=
  match o.op with
  | .move x => ob (src C.P o.type st x) fun r =>
    if dstIn fl.steal o.dst then k ((st.release x).put o.dst r.1 r.2) else k (st.put o.dst r.1 (dm r.2))
  | .assign x => ob (src C.P o.type st x) fun r =>
    if dstIn fl.steal o.dst then k ((st.release x).put o.dst r.1 r.2) else k (st.put o.dst r.1 (dm r.2))
  | .pick c a b => ob (src C.P 0 st c) fun rc => ob (src C.P o.type st a) fun ra => ob (src C.P o.type st b) fun rb =>
    og (isData rc.2 && isData ra.2 && isData rb.2) (ob (dPick rc.1 ra.1 rb.1) fun d => k (st.put o.dst d .val))
  | .alloc t => ob (zeroRegs C.P t) fun cs => og (boxOk (dstIn fl.shared o.dst) o.dst st) (k (st.newBox (dstIn fl.shared o.dst) o.dst cs))
  | .box t x => ob (src C.P t st x) fun r =>
    if dstIn fl.refb o.dst then ob (tz C.P t) fun z => og (isData r.2 && isAggN z.1 r.1 && z.2) (k (st.put o.dst (.pref z.1 r.1) .val))
    else if dstIn fl.steal o.dst then explodeO C.P t r fun cs => og (boxOk false o.dst st) (k ((st.release x).newBox false o.dst cs))
    else explode C.P t r fun cs => og (boxOk (dstIn fl.shared o.dst) o.dst st) (k (st.newBox (dstIn fl.shared o.dst) o.dst cs))
  | .build t ps => ob (zeroRegs C.P t) fun zs => ob (places C.P t) fun _ => buildParts C.P t st ps.toList zs fun cs =>
    k (st.put o.dst (aggOf cs).1 (aggOf cs).2)
  | .buildSlice t n ps => ob (elemT C.P t) fun e => ob (tz C.P e) fun z => ob (zeroRegs C.P e) fun zs => ob (zeroElem z zs) fun ze =>
    if (n * z.1 ≤ 2 ^ 24 ∧ z.1 ≠ 0) ∧ zs.length = z.1 ∧ zs.all (fun c => isData c.2) = true then sliceParts C.P e z st ps.toList (List.replicate n ze) fun ds => k (st.put o.dst (.list z.1 ds) .full)
    else none
  | .load t x => evLoad C fl o t x st k
  | .store t x y => evStore C o t x y st k
  | .nilCheck x => ob (src C.P 0 st x) fun r =>
    match r.2 with
    | .loc s o' => k (st.put o.dst .undef (.loc s o'))
    | .rop ag sz o' => k (st.put o.dst r.1 (.rop ag sz o'))
    | .ptr i o' => k (st.put o.dst .undef (.ptr i o'))
    | .ept i sz j o' => k (st.put o.dst .undef (.ept i sz j o'))
    | .opt i sz j => k (st.put o.dst .undef (.opt i sz j))
    | .fn f cs => k (st.put o.dst .undef (.fn f cs))
    | .val => ob (o.dst.bind fun t => fl.refs.find? (·.1 == t)) fun q => ob (dRef q.2 r.1) fun d => k (st.put o.dst d (.rop true q.2 0))
    | _ => none
  | .binOp op t x y _ => evBin C o op t x y st k
  | .unOp op t x => ob (src C.P t st x) fun r => og (isData r.2) (ob (dUn op r.1) fun d => k (st.put o.dst d .val))
  | .convert t u x => ob (src C.P t st x) fun r =>
    match C.P.underlying u with
    | some (.int kd) => og (isData r.2 && (C.P.underlying t).isSome) (ob (dConv kd r.1) fun d => k (st.put o.dst d .val))
    | _ => none
  | .fieldAddr t x f => evFieldAddr C o t x f st k
  | .field t x f => ob (src C.P t st x) fun r => ob (fieldOf C.P t f) fun fd => ob (tz C.P fd.type) fun z => ob (tz C.P t) fun zt =>
    og (isData r.2 && isAggN zt.1 r.1)
      (if fd.offset + z.1 ≤ zt.1 then
        if z.2 then k (st.put o.dst (.agg (cells z.1 fd.offset r.1)) .val) else k (st.put o.dst (proj fd.offset r.1) .val)
      else none)
  | .indexAddr t x i => evIndexAddr C fl o t x i st k
  | .index t x i => ob (src C.P t st x) fun r => ob (src C.P 0 st i) fun j =>
    match C.P.underlying t with
    | some .string => og (isData r.2 && isData j.2) (ob (dStrIdx r.1 j.1) fun d => k (st.put o.dst d .val))
    | _ => none
  | .slice t x lo hi mx => evSlice C o t x lo hi mx st k
  | .makeFunc (.func f) first caps =>
    if first.isEmpty then ob (srcs C.P st [] caps.toList) fun rs => ob (capMetas rs) fun ms => k (st.put o.dst .undef (.fn f ms))
    else none
  | .makeMap t none => ob (mapKeys C.P t) fun q => k ({ st with sg := st.sg ++ [SObj.map q.1 []] }.put o.dst .undef (.map st.sg.length))
  | .lookup t x y ok => ob (src C.P t st x) fun r => ob (src C.P 0 st y) fun key => ob (mapKeys C.P t) fun q =>
    ob (zeroLeaf C.P q.2) fun ze =>
      og (isKey q.1 key.1 && isData key.2)
        (match r.2 with
          | .map i => ob (sgMap st.sg i) fun p => og (p.1 == q.1)
            (if ok then k (st.put o.dst (.tup [(mGet p.2 key.1).getD ze, .bool (mGet p.2 key.1).isSome]) .val)
            else k (st.put o.dst ((mGet p.2 key.1).getD ze) .val))
          | _ => none)
  | .mapUpdate t x y v => ob (src C.P t st x) fun r => ob (src C.P 0 st y) fun key => ob (src C.P 0 st v) fun val => ob (mapKeys C.P t) fun q =>
    og (isKey q.1 key.1 && isData key.2 && isData val.2)
      (match r.2 with
        | .map i => ob (sgMap st.sg i) fun p => og (p.1 == q.1) (k ({ st with sg := st.sg.set i (.map q.1 (mSet p.2 key.1 val.1)) }.put o.dst (.tup []) .val))
        | _ => none)
  | .extract x i => ob (src C.P 0 st x) fun r =>
    match r.2 with
    | .val => ob (dExt i r.1) fun d => k (st.put o.dst d .val)
    | .tupm ms => ob (dExt i r.1) fun d =>
      match ms.getD i .val with
      | .own => if dstIn fl.steal o.dst then k ((st.untup x (.tupm (ms.set i .val))).put o.dst d .own) else k (st.put o.dst d .val)
      | .val => k (st.put o.dst d .val)
      | _ => none
    | _ => none
  | .call c => evCall C R fl o c st k
  | _ => none

def forceL {α X : Type} : List α → (List α → X) → X
  | [], k => k []
  | a :: l, k => forceL l fun l' => k (a :: l')

def forceM {X : Type} (m : Meta) (k : Meta → X) : X :=
  match m with
  | .val => k .val
  | .full => k .full
  | .own => k .own
  | .loc s o => k (.loc s o)
  | .rop ag sz o => k (.rop ag sz o)
  | .ptr i o => k (.ptr i o)
  | .nilp => k .nilp
  | .map i => k (.map i)
  | .nilm => k .nilm
  | .arr i sz off len => k (.arr i sz off len)
  | .ept i sz idx o => k (.ept i sz idx o)
  | .opt i sz idx => k (.opt i sz idx)
  | .vec i n sz len => k (.vec i n sz len)
  | .vpt i n sz idx o => k (.vpt i n sz idx o)
  | .fn f caps => k (.fn f caps)
  | .tupm ms => k (.tupm ms)
  | .aggm ms => k (.aggm ms)

def forceMs {X : Type} : List Meta → (List Meta → X) → X
  | [], k => k []
  | m :: l, k => forceM m fun m' => forceMs l fun l' => k (m' :: l')

/-- The same state, its lists written out. -/
def forceSt {X : Type} (st : St) (k : St → X) : X :=
  forceL st.tm fun tm => forceMs st.mt fun mt => forceL st.bx fun bx => k { tm := tm, mt := mt, bx := bx, sg := st.sg }

theorem forceL_eq {α X : Type} : ∀ (l : List α) (k : List α → X), forceL l k = k l
  | [], _ => rfl
  | a :: l, k => by simp only [forceL, forceL_eq l]

theorem forceMs_eq {X : Type} : ∀ (l : List Meta) (k : List Meta → X), forceMs l k = k l
  | [], _ => rfl
  | m :: l, k => by
    have h : ∀ (m : Meta) (k : Meta → X), forceM m k = k m := fun m k => by cases m <;> rfl
    simp only [forceMs, forceMs_eq l, h]

theorem forceSt_eq {X : Type} (st : St) (k : St → X) : forceSt st k = k st := by
  simp only [forceSt, forceL_eq, forceMs_eq]

/-- The register that a guard looks at. -/
def guardTmp (ops : List Oper) (g : Nat) : Option Nat := ob ops[g]? fun o => o.dst

/-- A register whose data are known. -/
def St.know (st : St) (t : Nat) (d : DV) : St := { st with tm := st.tm.set t d }

def ogd {β : Type} (d : DV) (a b c : Option β) : Option β :=
  match d with
  | .bool true => a
  | .bool false => b
  | .tup [] => c
  | _ => none

def evOps (fl : Flags) (all : List Oper) : List Oper → St → (St → Option X) → Option X
  | [], st, k => k st
  | o :: os, st, k => forceSt st fun st =>
    match o.guard with
    | none => evOp C R fl o st fun st => evOps fl all os st k
    | some (g, want) => ob (guardTmp all g) fun t => og (isData (st.get t).2) <|
      ogd (st.get t).1
        (if want then evOp C R fl o (st.know t (.bool true)) fun st => evOps fl all os st k else evOps fl all os ((st.know t (.bool true)).put o.dst (.tup []) .val) k)
        (if want then evOps fl all os ((st.know t (.bool false)).put o.dst (.tup []) .val) k else evOp C R fl o (st.know t (.bool false)) fun st => evOps fl all os st k)
        (evOps fl all os ((st.know t (.tup [])).put o.dst (.tup []) .val) k)

structure Fp where
  rt : List Nat := []
  wt : List Nat := []
  rb : List Nat := []
  wb : List Nat := []
  wl : List Nat := []
  rs : Bool := false
  ws : Bool := false
  nb : Option Nat := none
  /-- a part is taken: of which register, which part, into which register -/
  ex : Option (Nat × Nat × Nat) := none
  /-- a store: into which shared object -/
  so : Option Bool := none

def exOf (x : Operand) (i : Nat) (d : Option Nat) : Option (Nat × Nat × Nat) :=
  match x, d with
  | .tmp t, some u => some (t, i, u)
  | _, _ => none

def tmpOf : Operand → List Nat
  | .tmp t => [t]
  | _ => []

def tmpsOf (xs : List Operand) : List Nat := xs.flatMap tmpOf

def locAt (mt : List Meta) (t : Nat) : List Nat :=
  match mt.getD t .val with
  | .loc s _ => [s]
  | _ => []

/-- The shared object that an address leads into. -/
def objAt (m : Meta) : Option Nat :=
  match m with
  | .ptr i _ => some i
  | .opt i _ _ => some i
  | _ => none

/-- Of which kind it is: are its last elements open? -/
def objKd (m : Meta) : Option Bool :=
  match m with
  | .ptr _ _ => some false
  | .opt _ _ _ => some true
  | _ => none

/-- The places that an address leads to. -/
def fpAt (m : Meta) : List Nat × Bool :=
  match m with
  | .loc s _ => ([s], false)
  | .rop _ _ _ => ([], false)
  | _ => ([], true)

def Fp.locs (f : Fp) (st st1 : St) : Fp := { f with wl := f.wt.flatMap (locAt st.mt) ++ f.wt.flatMap (locAt st1.mt) }

/-- The register that gives up what it owns. -/
def relT (mt : List Meta) : Operand → List Nat
  | .tmp t => match mt.getD t .val with
    | .arr _ _ _ _ => []
    | _ => [t]
  | _ => []

/-- Before the operation's result is known. -/
def fp0 (fl : Flags) (o : Oper) (st : St) : Fp :=
  let d := o.dst.toList
  let steal := dstIn fl.steal o.dst
  match o.op with
  | .move x => { rt := tmpOf x, wt := d ++ (if steal then tmpOf x else []) }
  | .assign x => { rt := tmpOf x, wt := d ++ (if steal then tmpOf x else []) }
  | .pick c a b => { rt := tmpsOf [c, a, b], wt := d }
  | .alloc _ => if dstIn fl.shared o.dst then { wt := d, rs := true, ws := true } else { wt := d, wb := d, nb := o.dst }
  | .box _ x => if dstIn fl.refb o.dst then { rt := tmpOf x, wt := d } else if dstIn fl.steal o.dst then { rt := tmpOf x, wt := d ++ tmpOf x, wb := d, nb := o.dst } else if dstIn fl.shared o.dst then { rt := tmpOf x, wt := d, rs := true, ws := true } else { rt := tmpOf x, wt := d, wb := d, nb := o.dst }
  | .build _ ps => { rt := tmpsOf (ps.toList.map (·.2)), wt := d }
  | .buildSlice _ _ ps => { rt := tmpsOf (ps.toList.map (·.2)), wt := d }
  | .load _ x =>
    match src default 0 st x with
    | some r => { rt := tmpOf x, wt := d, rb := (fpAt r.2).1, wb := if steal then (fpAt r.2).1 else [], rs := (fpAt r.2).2, ws := (steal || dstIn fl.vecs o.dst) && (fpAt r.2).2 }
    | none => {}
  | .store _ x y =>
    match src default 0 st x with
    | some r => { rt := tmpsOf [x, y], wt := d ++ relT st.mt y, rb := (fpAt r.2).1, wb := (fpAt r.2).1, rs := (fpAt r.2).2, ws := (fpAt r.2).2, so := if o.dst.isNone then objKd r.2 else none }
    | none => {}
  | .nilCheck x => { rt := tmpOf x, wt := d }
  | .binOp _ _ x y _ => { rt := tmpsOf [x, y], wt := d }
  | .unOp _ _ x => { rt := tmpOf x, wt := d }
  | .convert _ _ x => { rt := tmpOf x, wt := d }
  | .fieldAddr _ x _ => { rt := tmpOf x, wt := d }
  | .field _ x _ => { rt := tmpOf x, wt := d }
  | .indexAddr _ x i => { rt := tmpsOf [x, i], wt := d }
  | .index _ x i => { rt := tmpsOf [x, i], wt := d }
  | .slice _ x lo hi mx => { rt := tmpsOf (x :: (lo.toList ++ hi.toList ++ mx.toList)), wt := d }
  | .makeFunc _ _ caps => { rt := tmpsOf caps.toList, wt := d }
  | .lookup _ x y _ => { rt := tmpsOf [x, y], wt := d, rs := true }
  | .extract x i => { rt := tmpOf x, wt := d ++ (if steal then tmpOf x else []), ex := exOf x i o.dst }
  | .call c =>
    match c.callee with
    | .builtin .len => { rt := tmpsOf c.args.toList, wt := d, rs := true }
    | .builtin .append => { rt := tmpsOf c.args.toList, wt := d ++ tmpsOf c.args.toList, rs := dstIn fl.opn o.dst || dstIn fl.vecs o.dst, ws := dstIn fl.opn o.dst || dstIn fl.vecs o.dst }
    | .builtin .clear => { rt := tmpsOf c.args.toList, wt := d, rs := true, ws := true }
    | .builtin _ => { rt := tmpsOf c.args.toList, wt := d }
    | .value x => { rt := tmpsOf (x :: c.args.toList), wt := d ++ tmpsOf c.args.toList, rs := true, ws := true }
    | .invoke _ _ => {}
  | op => { rt := tmpsOf op.operands.toList, wt := d ++ tmpsOf op.operands.toList, rs := true, ws := true }

/-- A call of a plain function looks at its arguments alone. -/
def isPure (C : Cfg) (o : Oper) : Bool :=
  match o.op with
  | .call c => match c.callee with
    | .value (.func f) => !C.clone f && (C.mki f).isNone && (C.sig f).isNone
    | _ => false
  | _ => false

def fpOf (C : Cfg) (fl : Flags) (o : Oper) (st st1 : St) : Fp :=
  (if isPure C o then { rt := tmpsOf o.op.operands.toList, wt := o.dst.toList } else fp0 fl o st).locs st st1

def disj (a b : List Nat) : Bool := a.all fun x => !b.contains x

def noNew (f g : Fp) : Bool :=
  match f.nb with
  | some t => !g.wl.contains t
  | none => true

/-- They can change places. -/
def comm0 (f g : Fp) : Bool :=
  disj f.wt g.rt && disj f.wt g.wt && disj g.wt f.rt && disj f.wb g.rb && disj f.wb g.wb && disj g.wb f.rb &&
    !(f.ws && (g.rs || g.ws)) && !(g.ws && (f.rs || f.ws)) && noNew f g && noNew g f

/-- Two parts of one result. -/
def exComm (f g : Fp) : Bool :=
  match f.ex, g.ex with
  | some (x, i, d), some (y, j, e) => x == y && i != j && d != e && d != x && e != x
  | _, _ => false

/-- Two stores into two shared objects, of two kinds. -/
def soComm (f g : Fp) : Bool :=
  match f.so, g.so with
  | some i, some j => i != j && disj f.wt g.rt && disj f.wt g.wt && disj g.wt f.rt
  | _, _ => false

def comm (f g : Fp) : Bool := comm0 f g || exComm f g || soComm f g

def forceN {X : Type} (n : Nat) (k : Nat → X) : X :=
  match n with
  | 0 => k 0
  | n + 1 => k (n + 1)

def forceNs {X : Type} : List Nat → (List Nat → X) → X
  | [], k => k []
  | a :: l, k => forceN a fun a' => forceNs l fun l' => k (a' :: l')

def forceNss {X : Type} : List (List Nat) → (List (List Nat) → X) → X
  | [], k => k []
  | a :: l, k => forceNs a fun a' => forceNss l fun l' => k (a' :: l')

theorem forceN_eq {X : Type} (n : Nat) (k : Nat → X) : forceN n k = k n := by cases n <;> rfl
theorem forceNs_eq {X : Type} : ∀ (l : List Nat) (k : List Nat → X), forceNs l k = k l
  | [], _ => rfl
  | a :: l, k => by simp only [forceNs, forceN_eq, forceNs_eq l]
theorem forceNss_eq {X : Type} : ∀ (l : List (List Nat)) (k : List (List Nat) → X), forceNss l k = k l
  | [], _ => rfl
  | a :: l, k => by simp only [forceNss, forceNs_eq, forceNss_eq l]
/-- Each once. -/
def uniq : List Nat → List Nat
  | [] => []
  | a :: l => if l.contains a then uniq l else a :: uniq l

theorem mem_uniq {x : Nat} : ∀ {l : List Nat}, x ∈ uniq l ↔ x ∈ l
  | [] => by simp [uniq]
  | a :: l => by
    simp only [uniq]
    split
    · rename_i h
      rw [mem_uniq (l := l), List.mem_cons]
      constructor
      · exact .inr
      · rintro (rfl | h')
        · simpa using h
        · exact h'
    · rw [List.mem_cons, List.mem_cons, mem_uniq (l := l)]

/-- The operations that come before in every order, for each. -/
def befores : List Oper → List (List Nat) → List (List Nat)
  | [], acc => acc
  | o :: os, acc => forceNs (uniq ((o.after.toList.filter (Region.binds .any)).flatMap fun e => e.on :: acc.getD e.on [])) fun l => befores os (acc ++ [l])

/-- An operation waits for earlier ones alone. -/
def edgesOk : Nat → List Oper → Bool
  | _, [] => true
  | i, o :: os => (o.after.toList.filter (Region.binds .any)).all (fun e => decide (e.on < i)) && edgesOk (i + 1) os

/-- May the operation `i` be where it is, behind those that have come up? -/
def mayCome (bf : List (List Nat)) (i : Nat) (acc : List (Nat × Fp)) (f : Fp) : Bool :=
  acc.all fun p => (bf.getD i []).contains p.1 || comm p.2 f

def forceB {X : Type} (b : Bool) (k : Bool → X) : X :=
  match b with
  | true => k true
  | false => k false

def forceO {X : Type} (o : Option Nat) (k : Option Nat → X) : X :=
  match o with
  | none => k none
  | some n => forceN n fun n => k (some n)

def forceOB {X : Type} (o : Option Bool) (k : Option Bool → X) : X :=
  match o with
  | none => k none
  | some b => forceB b fun b => k (some b)

def forceFp {X : Type} (f : Fp) (k : Fp → X) : X :=
  forceNs f.rt fun rt => forceNs f.wt fun wt => forceNs f.rb fun rb => forceNs f.wb fun wb => forceNs f.wl fun wl =>
    forceB f.rs fun rs => forceB f.ws fun ws => forceO f.nb fun nb => forceOB f.so fun so => k { rt := rt, wt := wt, rb := rb, wb := wb, wl := wl, rs := rs, ws := ws, nb := nb, ex := f.ex, so := so }

theorem forceB_eq {X : Type} (b : Bool) (k : Bool → X) : forceB b k = k b := by cases b <;> rfl
theorem forceO_eq {X : Type} (o : Option Nat) (k : Option Nat → X) : forceO o k = k o := by cases o <;> simp only [forceO, forceN_eq]
theorem forceOB_eq {X : Type} (o : Option Bool) (k : Option Bool → X) : forceOB o k = k o := by cases o <;> simp only [forceOB, forceB_eq]
theorem forceFp_eq {X : Type} (f : Fp) (k : Fp → X) : forceFp f k = k f := by
  simp only [forceFp, forceNs_eq, forceB_eq, forceO_eq, forceOB_eq]

def Fp.look (f : Fp) (t : Nat) : Fp := { f with rt := t :: f.rt, ex := none, so := none }

def skipFp (o : Oper) (t : Nat) (st : St) : Fp := Fp.locs { rt := [t], wt := o.dst.toList } st (st.put o.dst (.tup []) .val)

/-- An operation under a guard: it is wanted. -/
def drawRun (fl : Flags) (o : Oper) (t : Nat) (st : St) (J : Fp → St → Option X) : Option X :=
  evOp C R fl o st fun st1 => J ((fpOf C fl o st st1).look t) st1

/-- It is passed over. -/
def drawSkip (o : Oper) (t : Nat) (st : St) (J : Fp → St → Option X) : Option X :=
  J (skipFp o t st) (st.put o.dst (.tup []) .val)

/-- A region whose order is drawn: the operations in the text's order, and what has come up. -/
def evDraw (fl : Flags) (all : List Oper) (bf : List (List Nat)) : List Oper → Nat → List (Nat × Fp) → St → (St → Option X) → Option X
  | [], _, _, st, k => k st
  | o :: os, i, acc, st, k => forceSt st fun st =>
    match o.guard with
    | none => evOp C R fl o st fun st1 => forceFp (fpOf C fl o st st1) fun f => og (mayCome bf i acc f) (evDraw fl all bf os (i + 1) ((i, f) :: acc) st1 k)
    | some (g, want) => ob (guardTmp all g) fun t => og (isData (st.get t).2) <|
      ogd (st.get t).1
        (if want then drawRun C R fl o t (st.know t (.bool true)) fun f st1 => forceFp f fun f => og (mayCome bf i acc f) (evDraw fl all bf os (i + 1) ((i, f) :: acc) st1 k)
         else drawSkip o t (st.know t (.bool true)) fun f st1 => forceFp f fun f => og (mayCome bf i acc f) (evDraw fl all bf os (i + 1) ((i, f) :: acc) st1 k))
        (if want then drawSkip o t (st.know t (.bool false)) fun f st1 => forceFp f fun f => og (mayCome bf i acc f) (evDraw fl all bf os (i + 1) ((i, f) :: acc) st1 k)
         else drawRun C R fl o t (st.know t (.bool false)) fun f st1 => forceFp f fun f => og (mayCome bf i acc f) (evDraw fl all bf os (i + 1) ((i, f) :: acc) st1 k))
        (drawSkip o t (st.know t (.tup [])) fun f st1 => forceFp f fun f => og (mayCome bf i acc f) (evDraw fl all bf os (i + 1) ((i, f) :: acc) st1 k))

inductive Out where
  | normal
  | exit (id : Nat)
  | ret
  deriving Inhabited

def keepAt (fl : Flags) (id : Nat) (st : St) : St :=
  match fl.keep.find? (·.1 == id) with
  | some e => st.keep e.2.1 e.2.2.1 e.2.2.2.1 e.2.2.2.2
  | none => st

/-- The first region of a code. -/
def headId : Code → Option Nat
  | .region id _ _ => some id
  | .seq a _ => headId a
  | .block _ b => headId b
  | .loop b => headId b
  | _ => none

/-- What is live where a code begins. -/
def clean (fl : Flags) (c : Code) (st : St) : St :=
  match headId c with
  | some id => keepAt fl id st
  | none => st

/-- The open elements of the slice that a register leads to are sealed. -/
def closeSt {X : Type} (r : Nat) (st : St) (k : St → Option X) : Option X :=
  match (st.get r).2 with
  | .arr i sz 0 len => ob (sgOpn st.sg i) fun q => ob (closeObj q sz len) fun d => k ({ st with sg := st.sg.set i (.arr 1 []) }.put (some r) d .own)
  | .ptr b off => ob (sgBox st.sg b) fun cs => ob (cellArr cs off) fun a => ob (sgOpn st.sg a.1) fun q => ob (closeObj q a.2.1 a.2.2) fun d =>
      k { st with sg := (st.sg.set b (.box (cs.set off (d, .own)))).set a.1 (.arr 1 []) }
  | _ => none

def closeAt {X : Type} (fl : Flags) (id : Nat) (st : St) (k : St → Option X) : Option X :=
  match fl.seals.find? (·.1 == id) with
  | some e => closeSt e.2 st k
  | none => k st

/-- A condition: its register is known behind it. -/
def evCond (P : Program) (c : Operand) (st : St) (a b : St → Option X) : Option X :=
  ob (src P 0 st c) fun r => og (isData r.2) <|
    match c with
    | .tmp t => oif r.1 (a (st.know t (.bool true))) (b (st.know t (.bool false)))
    | _ => oif r.1 (a st) (b st)

/-- The limit of a functional on partial answers. -/
def iter {S X : Type} (F : (S → Option X) → S → Option X) : Nat → S → Option X
  | 0, _ => none
  | n + 1, s => F (iter F n) s

/-- What stays of a register when a round begins, and behind the loop. -/
def stayR (r : DV × Meta) : DV × Meta :=
  match r.2 with
  | .val => (r.1, .val)
  | .full => (r.1, .full)
  | .own => (r.1, .val)
  | .ptr i o => (.undef, .ptr i o)
  | .nilp => (.pnil, .nilp)
  | .map i => (.undef, .map i)
  | .nilm => (.undef, .nilm)
  | .fn f caps => (.undef, .fn f caps)
  | _ => (.undef, .val)

/-- Behind the loop. -/
def outerSt (st : St) (sg : List SObj) : St :=
  { tm := (st.tm.zip st.mt).map (fun r => (stayR r).1), mt := (st.tm.zip st.mt).map (fun r => (stayR r).2), bx := st.bx.map (fun _ => none), sg := sg }

/-- Where a round begins. -/
def roundSt (st : St) (p : Nat) (d : DV) (sg : List SObj) : St := (outerSt st sg).put (some p) d .val

def allDat : List (DV × Meta) → Option (List DV)
  | [] => some []
  | c :: cs => og (match c.2 with
    | .val => true
    | .full => true
    | .own => true
    | _ => false) (ob (allDat cs) fun ds => some (c.1 :: ds))

def plainC : Code → Bool
  | .rangeFunc _ _ _ _ => false
  | .seq a b => plainC a && plainC b
  | .cond _ a b => plainC a && plainC b
  | .block _ b => plainC b
  | .loop b => plainC b
  | _ => true

def isReg : Code → Bool
  | .region _ _ false => true
  | .skip => true
  | _ => false

def foldIt {X : Type} (step : DV → (List SObj → Option X) → List SObj → Option X) (fin : List SObj → Option X) : List DV → List SObj → Option X
  | [], sg => fin sg
  | d :: ds, sg => step d (foldIt step fin ds) sg

def evItr {X : Type} (C : Cfg) (st : St) (g : Operand) (ps : Array Nat) (pl : Bool) (fin : St → Option X) (step : Nat → DV → (List SObj → Option X) → List SObj → Option X) : Option X :=
  match g, ps.toList with
  | .tmp t, [p] =>
    match (st.get t).2 with
    | .fn f [(i, 0)] => ob (C.iter f) fun it => ob (sgBox st.sg i) fun cs => ob (allDat cs) fun cd => ob (it cd) fun ds => og pl
        (foldIt (step p) (fun sg => fin (outerSt st sg)) ds (st.sg.set i (.arr 1 [])))
    | _ => none
  | _, _ => none

open Classical in
noncomputable def loopL {S X : Type} (F : (S → Option X) → S → Option X) (s : S) : Option X :=
  if h : ∃ x n, iter F n s = some x then some h.choose else none

noncomputable def evK (fl : Flags) : Code → (Out → St → Option X) → St → Option X
  | .skip, K, st => K .normal st
  | .region id ops false, K, st => evOps C R fl ops.toList ops.toList (keepAt fl id st) fun st => closeAt fl id st (K .normal)
  | .region id ops true, K, st => og (edgesOk 0 ops.toList) (forceNss (befores ops.toList []) fun bf => evDraw C R fl ops.toList bf ops.toList 0 [] (keepAt fl id st) fun st => closeAt fl id st (K .normal))
  | .seq a b, K, st => evK fl a (fun o st => match o with
      | .normal => evK fl b K (clean fl b st)
      | .exit i => K (.exit i) st
      | .ret => K .ret st) st
  | .cond c a b, K, st => evCond C.P c st (fun st => evK fl a K (clean fl a st)) (fun st => evK fl b K (clean fl b st))
  | .block id b, K, st => evK fl b (fun o st => match o with
      | .normal => K .normal st
      | .exit i => if i = id then K .normal st else K (.exit i) st
      | .ret => K .ret st) st
  | .loop b, K, st => loopL (fun J st => evK fl b (fun o st => match o with
      | .normal => J (clean fl b st)
      | .exit i => K (.exit i) st
      | .ret => K .ret st) st) (clean fl b st)
  | .rangeFunc g ps assign body, K, st => evItr C st g ps (isReg assign && plainC body) (fun st => K .normal st) fun p d J sg =>
      evK fl assign (fun o st1 => match o with
        | .normal => evK fl body (fun o st2 => match o with
          | .normal => J st2.sg
          | .exit e => K (.exit e) (outerSt st st2.sg)
          | .ret => K .ret (outerSt st st2.sg)) (clean fl body st1)
        | .exit _ => none
        | .ret => none) (clean fl assign (roundSt st p d sg))
  | .exit id, K, st => K (.exit id) st
  | .ret, K, st => K .ret st
  | _, _, _ => none

end

def initSt (fn : Func) (rs : List (DV × Meta)) (sg : List SObj) : St where
  tm := rs.map (·.1) ++ List.replicate (fn.ntmps - rs.length) (.tup [])
  mt := rs.map (·.2) ++ List.replicate (fn.ntmps - rs.length) .val
  bx := List.replicate (rs.length + (fn.ntmps - rs.length)) none
  sg := sg

/-- A cell of a result that is handed back sealed. -/
def sealCell (sg : List SObj) (c : DV × Meta) : Option DV :=
  match c.2 with
  | .val => some c.1
  | .full => some c.1
  | .own => some c.1
  | .nilp => some c.1
  | .arr i sz off len => ob (sgArr sg i) fun a => og (a.1 == sz) (if off + len ≤ a.2.length then some (.list sz ((a.2.drop off).take len)) else none)
  | _ => none

def sealCells (sg : List SObj) : List (DV × Meta) → Option (List DV)
  | [] => some []
  | c :: cs => ob (sealCell sg c) fun d => ob (sealCells sg cs) fun ds => some (d :: ds)

/-- One result, sealed. -/
def resVal (P : Program) (st : St) : ResultVar → Option DV
  | .tmp t =>
    match (st.get t).2 with
    | .aggm ms =>  og (isData (.aggm ms)) (some (st.get t).1)
    | _ => sealCell st.sg (st.get t)
  | .cell a t =>
    match (st.get a).2 with
    | .loc s 0 => ob (st.bx.getD s none) fun cs => ob (tz P t) fun z =>
      if z.1 = cs.length then
        if z.2 then ob (sealCells st.sg cs) fun ds => some (.agg ds)
        else match cs with
          | [c] => sealCell st.sg c
          | _ => none
      else none
    | .ptr i 0 => ob (sgBox st.sg i) fun cs => ob (tz P t) fun z =>
      if z.1 = cs.length then
        if z.2 then ob (sealCells st.sg cs) fun ds => some (.agg ds)
        else match cs with
          | [c] => sealCell st.sg c
          | _ => none
      else none
    | _ => none

def resVals (P : Program) (st : St) : List ResultVar → Option (List DV)
  | [] => some []
  | v :: vs => ob (resVal P st v) fun d => ob (resVals P st vs) fun ds => some (d :: ds)

def pack : List DV → DV
  | [d] => d
  | ds => .tup ds

/-- What a plain function gives. -/
def retP (P : Program) (fn : Func) : Out → St → Option DV
  | .exit _, _ => none
  | _, st => ob (resVals P st fn.results.toList) fun ds => some (pack ds)

/-- Which arrays a result is made of. -/
def arrIx : Meta → List Nat
  | .arr i _ _ _ => [i]
  | _ => []

def arrsOf (st : St) : ResultVar → List Nat
  | .tmp t => arrIx (st.get t).2
  | .cell a _ =>
    match (st.get a).2 with
    | .loc s _ =>
      match st.bx.getD s none with
      | some cs => cs.flatMap fun c => arrIx c.2
      | none => []
    | _ => []

/-- Arrays that are sealed are written no more. -/
def kill (sg : List SObj) (us : List Nat) : List SObj := us.foldl (fun g i => g.set i (.arr 1 [])) sg

def isLocRes (st : St) : ResultVar → Bool
  | .tmp _ => true
  | .cell a _ =>
    match (st.get a).2 with
    | .loc _ _ => true
    | _ => false

/-- A result that is a pointer. -/
def ptrRes (r : DV × Meta) : Option DV :=
  match r.2 with
  | .ptr i 0 => some (.int .u64 i)
  | .nilp => some .pnil
  | _ => none

/-- These cells are slices with what they own, the others are plain data. -/
def aggoOk (os : List Nat) : Nat → List (DV × Meta) → Bool
  | _, [] => true
  | i, c :: cs => (if os.contains i then isRoom c.2 else isData c.2) && aggoOk os (i + 1) cs

/-- One result of a function that is no plain one. -/
def resOf (P : Program) (sl : Bool) (st : St) (k : MK) (v : ResultVar) : Option DV :=
  match k with
  | .val => match sl && isLocRes st v with
    | true => resVal P st v
    | false => resVal P { st with sg := [] } v
  | .own =>
    match v with
    | .tmp t => og (isRoom (st.get t).2) (some (st.get t).1)
    | _ => none
  | .ptr =>
    match v with
    | .tmp t => ptrRes (st.get t)
    | _ => none
  | .aggo n os =>
    match v with
    | .cell a t =>
      match (st.get a).2 with
      | .loc s 0 => ob (st.bx.getD s none) fun cs => ob (tz P t) fun z => og (z.2 && z.1 == cs.length && n == z.1 && aggoOk os 0 cs) (some (.agg (cs.map (·.1))))
      | _ => none
    | _ => none

def resOfs (P : Program) (sl : Bool) (st : St) : List MK → List ResultVar → Option (List DV)
  | [], [] => some []
  | k :: ks, v :: vs => ob (resOf P sl st k v) fun d => ob (resOfs P sl st ks vs) fun ds => some (d :: ds)
  | _, _ => none

def retR (P : Program) (fn : Func) (s : Sig) : Out → St → Option (List DV × List SObj)
  | .exit _, _ => none
  | _, st => og (decide ((s.results.filter isOwn).length ≤ 1)) (ob (resOfs P s.lock st s.results fn.results.toList) fun ds => some (ds, match s.lock with
    | true => kill st.sg (fn.results.toList.flatMap (arrsOf st))
    | false => st.sg))

/-- Behind the code that comes ahead: the middle, then the code that comes behind. -/
noncomputable def cutK {X : Type} (C : Cfg) (R : Orc) (fl : Flags) (p : Cut) (K : Out → St → Option X) : Out → St → Option X
  | .normal, st => ob (p.mid st) fun st => evK C R fl p.post K (clean fl p.post st)
  | .exit _, _ => none
  | .ret, st => K .ret st

/-- A body, cut or not. -/
noncomputable def evBody {X : Type} (C : Cfg) (R : Orc) (fl : Flags) (q : Option Cut) (c : Code) (K : Out → St → Option X) (st : St) : Option X :=
  match q with
  | some p => evK C R fl (seqs p.pre .skip) (cutK C R fl p K) st
  | none => evK C R fl c K st

/-- May an argument wait for a deferred call? -/
def stays : Meta → Bool
  | .val => true
  | .full => true
  | .own => true
  | .nilp => true
  | .ptr _ _ => true
  | .map _ => true
  | _ => false

/-- What a deferral keeps. -/
def dfrArgs (C : Cfg) (o : Oper) (st : St) : Option (FuncId × List (DV × Meta)) :=
  match o.op with
  | .defer c =>
    match c.callee with
    | .value (.func f) => ob (srcs C.P st c.argTypes.toList c.args.toList) fun rs =>
        og (C.dfn f && o.guard.isNone && o.dst.isNone && rs.all fun r => stays r.2) (some (f, rs.map fun r => stayR (r.1, dmv r.2)))
    | _ => none
  | _ => none

/-- At the end the deferred call is made, then the results are taken. -/
def dfrK (R : Orc) (K : Out → St → Option (List DV × List SObj)) (q : FuncId × List (DV × Meta)) : Out → St → Option (List DV × List SObj)
  | .exit _, _ => none
  | o, st => ob (R.r q.1 q.2 st.sg) fun p => K o { st with sg := p.2 }

/-- Behind what comes ahead. -/
noncomputable def dcutK {X : Type} (C : Cfg) (R : Orc) (fl : Flags) (p : DCut) (K : Out → St → Option X) (Kd : FuncId × List (DV × Meta) → Out → St → Option X) : Out → St → Option X
  | .exit _, _ => none
  | .ret, st => K .ret st
  | .normal, st => evCond C.P p.c st
      (fun st => evK C R fl p.a (fun o st => match o with
        | .normal => evOps C R fl (p.ops ++ [p.dop]) p.ops (keepAt fl p.id st) fun st => ob (dfrArgs C p.dop st) fun q => evK C R fl p.post (Kd q) (clean fl p.post st)
        | .exit _ => none
        | .ret => K .ret st) (clean fl p.a st))
      (fun st => evK C R fl p.post K (clean fl p.post st))

noncomputable def stepOrc (C : Cfg) (R : Orc) : Orc where
  p f ds := ob C.P.funcs[f]? fun fn => ob fn.body fun c =>
      evBody C R (C.fl f) (C.prim f) c (retP C.P fn) (initSt fn (ds.map fun d => (d, .val)) [])
  r f rs sg := ob (C.sig f) fun s => ob C.P.funcs[f]? fun fn => ob fn.body fun c =>
    match C.dcut f with
    | none => evK C R (C.fl f) c (retR C.P fn s) (initSt fn rs sg)
    | some p => evK C R (C.fl f) (seqs (p.pre ++ [p.r]) .skip) (dcutK C R (C.fl f) p (retR C.P fn s) (dfrK R (retR C.P fn s))) (initSt fn rs sg)

noncomputable def orcN (C : Cfg) : Nat → Orc
  | 0 => { p := fun _ _ => none, r := fun _ _ _ => none }
  | n + 1 => stepOrc C (orcN C n)

open Classical in
/-- What the program's functions give, however long it takes. -/
noncomputable def run (C : Cfg) : Orc where
  p f ds := if h : ∃ x n, (orcN C n).p f ds = some x then some h.choose else none
  r f rs sg := if h : ∃ x n, (orcN C n).r f rs sg = some x then some h.choose else none

end Go.Su

/-
  THE DATA MACHINE, part 3: what it means that memory holds plain data, and what keeps it so.
-/
namespace Go.Su

abbrev Heap := Array Obj
abbrev Seal := Nat → Nat → Prop

def hc (h : Heap) (b o : Nat) : Option Value :=
  match h[b]? with
  | some (.cells c _ _) => c[o]?
  | _ => none

theorem cell_hc (w : World) (b o : Nat) : w.cell? ⟨b, o, none⟩ = hc w.heap b o := by
  unfold World.cell? hc
  split <;> simp_all

def At (S : Seal) (h : Heap) (b o : Nat) (vs : List Value) : Prop :=
  ∀ j v, vs[j]? = some v → hc h b (o + j) = some v ∧ S b (o + j)

mutual
def RC (S : Seal) (h : Heap) : DV → List Value → Prop
  | .undef, vs => ∃ v, vs = [v] ∧ v.oneCell' = true
  | .int k n, vs => vs = [.int k n]
  | .bool b, vs => vs = [.bool b]
  | .str s, vs => vs = [.string s]
  | .agg cs, vs => RLs S h cs vs
  | .tup _, _ => False
  | .list sz ds, vs => ∃ a len cap, vs = [.slice a len cap] ∧ len = ds.length ∧ len ≤ cap ∧ (a = none → cap = 0) ∧ (ds ≠ [] → 0 < sz) ∧
      ∀ x, a = some x → (0 < cap → x.spot = none) ∧ RElems S h sz x.block x.off ds
  | .pnil, vs => vs = [.pointer none]
  | .pref sz d, vs => ∃ b o, vs = [.pointer (some ⟨b, o, none⟩)] ∧ ∃ us : List Value, us.length = sz ∧ At S h b o us ∧ RC S h d us
def RLs (S : Seal) (h : Heap) : List DV → List Value → Prop
  | [], vs => vs = []
  | d :: ds, vs => ∃ v vs', vs = v :: vs' ∧ isLeaf d = true ∧ RC S h d [v] ∧ RLs S h ds vs'
def RElems (S : Seal) (h : Heap) (sz b : Nat) : Nat → List DV → Prop
  | _, [] => True
  | o, d :: ds => (∃ vs, vs.length = sz ∧ At S h b o vs ∧ RC S h d vs) ∧ RElems S h sz b (o + sz) ds
end

mutual
def RV (S : Seal) (h : Heap) : DV → Value → Prop
  | .undef, _ => True
  | .int k n, v => v = .int k n
  | .bool b, v => v = .bool b
  | .str s, v => v = .string s
  | .agg cs, v => ∃ vs, v = .agg vs ∧ RLs S h cs vs.toList
  | .tup ds, v => ∃ vs, v = .tuple vs ∧ RVs S h ds vs.toList
  | .list sz ds, v => RC S h (.list sz ds) [v]
  | .pnil, v => v = .pointer none
  | .pref sz d, v => RC S h (.pref sz d) [v]
def RVs (S : Seal) (h : Heap) : List DV → List Value → Prop
  | [], vs => vs = []
  | d :: ds, vs => ∃ v vs', vs = v :: vs' ∧ RV S h d v ∧ RVs S h ds vs'
end

theorem RLs_iff {S : Seal} {h : Heap} : ∀ {cs : List DV} {vs : List Value}, RLs S h cs vs ↔
    cs.length = vs.length ∧ ∀ (i : Nat) d v, cs[i]? = some d → vs[i]? = some v → isLeaf d = true ∧ RC S h d [v]
  | [], vs => by
    simp only [RLs]
    constructor
    · rintro rfl; simp
    · rintro ⟨h1, -⟩; exact List.eq_nil_of_length_eq_zero h1.symm
  | d :: ds, vs => by
    simp only [RLs]
    constructor
    · rintro ⟨v, vs', rfl, hl, hc, hr⟩
      obtain ⟨h1, h2⟩ := RLs_iff.1 hr
      refine ⟨by simp [h1], fun i d' v' hd hv => ?_⟩
      cases i with
      | zero => simp at hd hv; subst hd hv; exact ⟨hl, hc⟩
      | succ i => simp at hd hv; exact h2 i d' v' hd hv
    · rintro ⟨h1, h2⟩
      cases vs with
      | nil => simp at h1
      | cons v vs' =>
        refine ⟨v, vs', rfl, (h2 0 d v rfl rfl).1, (h2 0 d v rfl rfl).2, RLs_iff.2 ⟨by simpa using h1, fun i d' v' hd hv => h2 (i + 1) d' v' (by simpa using hd) (by simpa using hv)⟩⟩

theorem RVs_iff {S : Seal} {h : Heap} : ∀ {cs : List DV} {vs : List Value}, RVs S h cs vs ↔
    cs.length = vs.length ∧ ∀ (i : Nat) d v, cs[i]? = some d → vs[i]? = some v → RV S h d v
  | [], vs => by
    simp only [RVs]
    constructor
    · rintro rfl; simp
    · rintro ⟨h1, -⟩; exact List.eq_nil_of_length_eq_zero h1.symm
  | d :: ds, vs => by
    simp only [RVs]
    constructor
    · rintro ⟨v, vs', rfl, hc, hr⟩
      obtain ⟨h1, h2⟩ := RVs_iff.1 hr
      refine ⟨by simp [h1], fun i d' v' hd hv => ?_⟩
      cases i with
      | zero => simp at hd hv; subst hd hv; exact hc
      | succ i => simp at hd hv; exact h2 i d' v' hd hv
    · rintro ⟨h1, h2⟩
      cases vs with
      | nil => simp at h1
      | cons v vs' =>
        refine ⟨v, vs', rfl, h2 0 d v rfl rfl, RVs_iff.2 ⟨by simpa using h1, fun i d' v' hd hv => h2 (i + 1) d' v' (by simpa using hd) (by simpa using hv)⟩⟩

/-- Element `i` lies where it must. -/
def Elem (S : Seal) (h : Heap) (sz b o : Nat) (d : DV) : Prop := ∃ vs : List Value, vs.length = sz ∧ At S h b o vs ∧ RC S h d vs

theorem RElems_iff {S : Seal} {h : Heap} {sz b : Nat} : ∀ {ds : List DV} {o : Nat}, RElems S h sz b o ds ↔
    ∀ (i : Nat) d, ds[i]? = some d → Elem S h sz b (o + i * sz) d
  | [], o => by simp [RElems]
  | d :: ds, o => by
    simp only [RElems]
    constructor
    · rintro ⟨h1, h2⟩ i d' hd
      cases i with
      | zero => simp at hd; subst hd; simpa [Elem] using h1
      | succ i =>
        have := RElems_iff.1 h2 i d' (by simpa using hd)
        rw [Nat.succ_mul, Nat.add_comm (i * sz), ← Nat.add_assoc]
        exact this
    · intro hh
      refine ⟨by simpa [Elem] using hh 0 d rfl, RElems_iff.2 fun i d' hd => ?_⟩
      have := hh (i + 1) d' (by simpa using hd)
      rw [Nat.succ_mul, Nat.add_comm (i * sz), ← Nat.add_assoc] at this
      exact this

/-- What sealed memory holds stays. -/
structure SealLe (S : Seal) (h : Heap) (S' : Seal) (h' : Heap) : Prop where
  s : ∀ b o, S b o → S' b o
  c : ∀ b o v, S b o → hc h b o = some v → hc h' b o = some v

theorem At.mono {S S' : Seal} {h h' : Heap} {b o : Nat} {vs : List Value} (hle : SealLe S h S' h') (H : At S h b o vs) : At S' h' b o vs :=
  fun j v hv => ⟨hle.c _ _ _ (H j v hv).2 (H j v hv).1, hle.s _ _ (H j v hv).2⟩

mutual
theorem RC.mono {S S' : Seal} {h h' : Heap} (hle : SealLe S h S' h') : ∀ (d : DV) {vs : List Value}, RC S h d vs → RC S' h' d vs
  | .undef, _, H => by simpa only [RC] using H
  | .int _ _, _, H => by simpa only [RC] using H
  | .bool _, _, H => by simpa only [RC] using H
  | .str _, _, H => by simpa only [RC] using H
  | .agg cs, _, H => by simp only [RC] at H ⊢; exact RLs.mono hle cs H
  | .tup _, _, H => by simp only [RC] at H
  | .list sz ds, _, H => by
    simp only [RC] at H ⊢
    obtain ⟨a, len, cap, h1, h2, h3, h4, h5, h6⟩ := H
    exact ⟨a, len, cap, h1, h2, h3, h4, h5, fun x hx => ⟨(h6 x hx).1, RElems.mono hle ds (h6 x hx).2⟩⟩
  | .pnil, _, H => by simpa only [RC] using H
  | .pref sz d, _, H => by
    simp only [RC] at H ⊢
    obtain ⟨b, o, h1, us, h2, h3, h4⟩ := H
    exact ⟨b, o, h1, us, h2, h3.mono hle, RC.mono hle d h4⟩
theorem RLs.mono {S S' : Seal} {h h' : Heap} (hle : SealLe S h S' h') : ∀ (ds : List DV) {vs : List Value}, RLs S h ds vs → RLs S' h' ds vs
  | [], _, H => by simpa only [RLs] using H
  | d :: ds, _, H => by
    simp only [RLs] at H ⊢
    obtain ⟨v, vs', h1, h2, h3, h4⟩ := H
    exact ⟨v, vs', h1, h2, RC.mono hle d h3, RLs.mono hle ds h4⟩
theorem RElems.mono {S S' : Seal} {h h' : Heap} (hle : SealLe S h S' h') {sz b : Nat} : ∀ (ds : List DV) {o : Nat}, RElems S h sz b o ds → RElems S' h' sz b o ds
  | [], _, _ => by simp only [RElems]
  | d :: ds, _, H => by
    simp only [RElems] at H ⊢
    obtain ⟨⟨vs, h1, h2, h3⟩, h4⟩ := H
    exact ⟨⟨vs, h1, h2.mono hle, RC.mono hle d h3⟩, RElems.mono hle ds h4⟩
end

theorem Elem.mono {S S' : Seal} {h h' : Heap} (hle : SealLe S h S' h') {sz b o : Nat} {d : DV} (H : Elem S h sz b o d) : Elem S' h' sz b o d :=
  let ⟨vs, h1, h2, h3⟩ := H
  ⟨vs, h1, h2.mono hle, RC.mono hle d h3⟩

mutual
theorem RV.mono {S S' : Seal} {h h' : Heap} (hle : SealLe S h S' h') : ∀ (d : DV) {v : Value}, RV S h d v → RV S' h' d v
  | .undef, _, _ => by simp only [RV]
  | .int _ _, _, H => by simpa only [RV] using H
  | .bool _, _, H => by simpa only [RV] using H
  | .str _, _, H => by simpa only [RV] using H
  | .agg cs, _, H => by simp only [RV] at H ⊢; obtain ⟨vs, h1, h2⟩ := H; exact ⟨vs, h1, RLs.mono hle cs h2⟩
  | .tup ds, _, H => by simp only [RV] at H ⊢; obtain ⟨vs, h1, h2⟩ := H; exact ⟨vs, h1, RVs.mono hle ds h2⟩
  | .list _ _, _, H => by simp only [RV] at H ⊢; exact RC.mono hle _ H
  | .pnil, _, H => by simpa only [RV] using H
  | .pref _ _, _, H => by simp only [RV] at H ⊢; exact RC.mono hle _ H
theorem RVs.mono {S S' : Seal} {h h' : Heap} (hle : SealLe S h S' h') : ∀ (ds : List DV) {vs : List Value}, RVs S h ds vs → RVs S' h' ds vs
  | [], _, H => by simpa only [RVs] using H
  | d :: ds, _, H => by
    simp only [RVs] at H ⊢
    obtain ⟨v, vs', h1, h2, h3⟩ := H
    exact ⟨v, vs', h1, RV.mono hle d h2, RVs.mono hle ds h3⟩
end

theorem RC_one {S : Seal} {h : Heap} {d : DV} {v : Value} (hl : isLeaf d = true) (H : RC S h d [v]) : v.oneCell' = true := by
  cases d <;> simp only [RC, isLeaf] at H hl <;> try contradiction
  · obtain ⟨u, hu, hv⟩ := H; simp at hu; subst hu; exact hv
  · simp at H; subst H; rfl
  · simp at H; subst H; rfl
  · simp at H; subst H; rfl
  · obtain ⟨a, len, cap, hu, -⟩ := H; simp at hu; subst hu; rfl
  · simp at H; subst H; rfl
  · obtain ⟨b, o, hu, -⟩ := H; simp at hu; subst hu; rfl

theorem RC_leaf {S : Seal} {h : Heap} {d : DV} {vs : List Value} (hl : isLeaf d = true) (H : RC S h d vs) : ∃ v, vs = [v] := by
  cases d <;> simp only [RC, isLeaf] at H hl <;> try contradiction
  · obtain ⟨u, hu, -⟩ := H; exact ⟨u, hu⟩
  · exact ⟨_, H⟩
  · exact ⟨_, H⟩
  · exact ⟨_, H⟩
  · obtain ⟨a, len, cap, hu, -⟩ := H; exact ⟨_, hu⟩
  · exact ⟨_, H⟩
  · obtain ⟨b, o, hu, -⟩ := H; exact ⟨_, hu⟩

theorem RV_of_RC {S : Seal} {h : Heap} {d : DV} {v : Value} (hl : isLeaf d = true) (H : RC S h d [v]) : RV S h d v := by
  cases d <;> simp only [RC, RV, isLeaf] at H hl ⊢ <;> try contradiction
  · simpa using H
  · simpa using H
  · simpa using H
  · exact H
  · simpa using H
  · exact H

theorem RC_of_RV {S : Seal} {h : Heap} {d : DV} {v : Value} (hl : isLeaf d = true) (hv : v.oneCell' = true) (H : RV S h d v) : RC S h d [v] := by
  cases d <;> simp only [RC, RV, isLeaf] at H hl ⊢ <;> try contradiction
  · exact ⟨v, rfl, hv⟩
  · simpa using H
  · simpa using H
  · simpa using H
  · exact H
  · simpa using H
  · exact H

/-- The cells of an element, by their places. -/
theorem RC_proj {S : Seal} {h : Heap} {d : DV} {vs : List Value} (H : RC S h d vs) {j : Nat} {v : Value} (hv : vs[j]? = some v) :
    isLeaf (proj j d) = true ∧ RC S h (proj j d) [v] := by
  have und : ∀ u : Value, u.oneCell' = true → isLeaf DV.undef = true ∧ RC S h DV.undef [u] := fun u hu => ⟨rfl, by simp only [RC]; exact ⟨u, rfl, hu⟩⟩
  cases d with
  | agg cs =>
    simp only [RC] at H
    obtain ⟨h1, h2⟩ := RLs_iff.1 H
    have hj : j < vs.length := (List.getElem?_eq_some_iff.1 hv).1
    have hc : cs[j]? = some (cs[j]'(by omega)) := List.getElem?_eq_getElem (by omega)
    have := h2 j _ v hc hv
    simp only [proj, List.getD_eq_getElem?_getD, hc, Option.getD_some]
    exact this
  | tup _ => simp only [RC] at H
  | undef =>
    obtain ⟨u, rfl⟩ := RC_leaf (d := .undef) rfl H
    have h1 := RC_one (d := .undef) rfl H
    cases j with
    | zero => simp at hv; subst hv; exact und _ h1
    | succ j => simp at hv
  | int k n =>
    obtain ⟨u, rfl⟩ := RC_leaf (d := .int k n) rfl H
    have h1 := RC_one (d := .int k n) rfl H
    cases j with
    | zero => simp at hv; subst hv; exact und _ h1
    | succ j => simp at hv
  | bool b =>
    obtain ⟨u, rfl⟩ := RC_leaf (d := .bool b) rfl H
    have h1 := RC_one (d := .bool b) rfl H
    cases j with
    | zero => simp at hv; subst hv; exact und _ h1
    | succ j => simp at hv
  | str s =>
    obtain ⟨u, rfl⟩ := RC_leaf (d := .str s) rfl H
    have h1 := RC_one (d := .str s) rfl H
    cases j with
    | zero => simp at hv; subst hv; exact und _ h1
    | succ j => simp at hv
  | list sz ds =>
    obtain ⟨u, rfl⟩ := RC_leaf (d := .list sz ds) rfl H
    have h1 := RC_one (d := .list sz ds) rfl H
    cases j with
    | zero => simp at hv; subst hv; exact und _ h1
    | succ j => simp at hv
  | pnil =>
    obtain ⟨u, rfl⟩ := RC_leaf (d := .pnil) rfl H
    have h1 := RC_one (d := .pnil) rfl H
    cases j with
    | zero => simp at hv; subst hv; exact und _ h1
    | succ j => simp at hv
  | pref sz d =>
    obtain ⟨u, rfl⟩ := RC_leaf (d := .pref sz d) rfl H
    have h1 := RC_one (d := .pref sz d) rfl H
    cases j with
    | zero => simp at hv; subst hv; exact und _ h1
    | succ j => simp at hv

end Go.Su

/-
  THE DATA MACHINE, part 4: a state of the data machine and a state of the model that hold the same.
-/
namespace Go.Su

/-- Whose an address is. -/
inductive Tag where
  | other
  | shut
  | priv (s : Nat)
  | obj (i : Nat)
  | sp (k a b : Nat)
  deriving DecidableEq

structure Env where
  blk : Nat → Nat
  obj : Nat → Nat
  base : Nat → Nat
  /-- where the room of an array ends -/
  top : Nat → Nat
  O : Nat → Nat → Tag
  n : Nat
  /-- a vector's state; 0: it is none -/
  ver : Nat → Nat

/-- An object that is no vector: it stays where it is. -/
def Env.In (E : Env) (i : Nat) : Prop := i < E.n ∧ E.ver i = 0

def Env.S (E : Env) : Seal := fun b o => E.O b o = .shut

/-- What lies behind a slice's length belongs to `tg` alone. -/
def Spare (E : Env) (h : Heap) (tg : Tag) (sz : Nat) (v : Value) : Prop :=
  ∀ (x : Addr) (len cap : Nat), v = .slice (some x) len cap → len < cap → ∃ c T f, h[x.block]? = some (.cells c T f) ∧ x.off + cap * sz ≤ c.size ∧
    ∀ o, x.off + len * sz ≤ o → o < x.off + cap * sz → E.O x.block o = tg ∧ ¬(f.1 ≤ o ∧ o < f.2)

def RM1 (E : Env) (h : Heap) (tg : Tag) (d : DV) (m : Meta) (v : Value) : Prop :=
  match m with
  | .val => RV E.S h d v
  | .full => RV E.S h d v ∧ (∃ (a : Option Addr) (n : Nat), v = .slice a n n) ∧ ∃ sz ds, d = .list sz ds
  | .own => RV E.S h d v ∧ ∃ sz ds, d = .list sz ds ∧ Spare E h tg sz v
  | .loc s o => d = .undef ∧ v = .pointer (some ⟨E.blk s, o, none⟩)
  | .rop ag sz o => ∃ b o0, v = .pointer (some ⟨b, o0 + o, none⟩) ∧ Elem E.S h sz b o0 d ∧ (ag = false → isLeaf d = true)
  | .ptr i o => E.In i ∧ v = .pointer (some ⟨E.obj i, o, none⟩)
  | .nilp => d = .pnil ∧ v = .pointer none
  | .map i => E.In i ∧ v = .map (some (E.obj i))
  | .nilm => v = .map none
  | .arr i sz off len => E.In i ∧ ∃ (a : Option Addr) (cap : Nat), v = .slice a len cap ∧ (0 < len → a = some ⟨E.obj i, E.base i + off * sz, none⟩) ∧ len ≤ cap ∧ (a = none → cap = 0) ∧ (∀ x, a = some x → x.spot = none) ∧ (0 < len → E.base i + (off + cap) * sz ≤ E.top i)
  | .ept i sz idx o => E.In i ∧ v = .pointer (some ⟨E.obj i, E.base i + idx * sz + o, none⟩)
  | .opt i sz idx => E.In i ∧ v = .pointer (some ⟨E.obj i, E.base i + idx * sz, none⟩)
  | .vec i n sz len => i < E.n ∧ 0 < n ∧ n ≤ E.ver i ∧ ∃ (a : Option Addr) (cap : Nat), v = .slice a len cap ∧ len ≤ cap ∧ (a = none → cap = 0) ∧ (0 < cap → ∀ x, a = some x → x.spot = none) ∧
      (E.ver i = n → 0 < cap → a = some ⟨E.obj i, E.base i, none⟩ ∧ E.base i + cap * sz ≤ E.top i)
  | .vpt i n sz idx o => i < E.n ∧ 0 < n ∧ n ≤ E.ver i ∧ ∃ b p, v = .pointer (some ⟨b, p + o, none⟩) ∧ (E.ver i = n → b = E.obj i ∧ p = E.base i + idx * sz)
  | .fn f caps => v = .func (.func f) #[] (caps.map fun c => Value.pointer (some ⟨E.obj c.1, c.2, none⟩)).toArray ∧ ∀ c ∈ caps, E.In c.1
  | .tupm _ => False
  | .aggm _ => False

def RR (E : Env) (h : Heap) (k a : Nat) (d : DV) (m : Meta) (v : Value) : Prop :=
  match m with
  | .tupm ms => ∃ (ds : List DV) (vs : Array Value), d = .tup ds ∧ v = .tuple vs ∧ ds.length = ms.length ∧ vs.size = ms.length ∧
      ∀ (i : Nat) m' d' u, ms[i]? = some m' → ds[i]? = some d' → vs[i]? = some u → mayLie m' = true ∧ RM1 E h (.sp k a (i + 1)) d' m' u
  | .aggm ms => ∃ (ds : List DV) (vs : Array Value), d = .agg ds ∧ v = .agg vs ∧ ds.length = ms.length ∧ vs.size = ms.length ∧
      ∀ (i : Nat) m' d' u, ms[i]? = some m' → ds[i]? = some d' → vs[i]? = some u → isLeaf d' = true ∧ u.oneCell' = true ∧ mayLie m' = true ∧ RM1 E h (.sp k a (i + 1)) d' m' u
  | m => RM1 E h (.sp k a 0) d m v

/-- A block of a variable. -/
def RBox (E : Env) (h : Heap) (tg : Tag) (k a : Nat) (b : Nat) (cs : List (DV × Meta)) : Prop :=
  ∃ c T, h[b]? = some (.cells c T (0, 0)) ∧ c.size = cs.length ∧ (∀ o, E.O b o = tg ∨ c.size ≤ o) ∧
    ∀ (j : Nat) r v, cs[j]? = some r → c[j]? = some v → isLeaf r.1 = true ∧ v.oneCell' = true ∧ mayLie r.2 = true ∧ RM1 E h (.sp k a j) r.1 r.2 v

def RMap (S : Seal) (h : Heap) (ks : Bool) (es : List (DV × DV)) (ens : Array MapEntry) : Prop :=
  es.length = ens.size ∧ ∀ (j : Nat) e n, es[j]? = some e → ens[j]? = some n → isKey ks e.1 = true ∧ RV S h e.1 n.key ∧ RV S h e.2 n.val

/-- The stamps of a map's entries: below the clock, each once. -/
def Born (ens : Array MapEntry) (clk : Nat) : Prop :=
  (∀ (j : Nat) n, ens[j]? = some n → n.born < clk) ∧ ∀ (i j : Nat) m n, ens[i]? = some m → ens[j]? = some n → m.born = n.born → i = j

def RO (E : Env) (h : Heap) (i : Nat) : SObj → Prop
  | .box cs => RBox E h (.obj i) 2 i (E.obj i) cs
  | .arr sz ds => ds ≠ [] → ∃ c T, h[E.obj i]? = some (.cells c T (0, 0)) ∧ E.base i + ds.length * sz ≤ c.size ∧ 0 < sz ∧
      (∀ o, E.base i ≤ o → o < E.base i + ds.length * sz → E.O (E.obj i) o = .obj i) ∧
      ∀ (j : Nat) d, ds[j]? = some d → ∃ vs : List Value, vs.length = sz ∧ (∀ (x : Nat) u, vs[x]? = some u → c[E.base i + j * sz + x]? = some u) ∧ RC E.S h d vs
  | .opn sz pre ds => ∃ c T f, h[E.obj i]? = some (.cells c T f) ∧ E.base i + (pre.length + ds.length) * sz ≤ E.top i ∧ E.top i ≤ c.size ∧ 0 < sz ∧
      (∀ o, E.base i + pre.length * sz ≤ o → o < E.top i → E.O (E.obj i) o = .obj i ∧ ¬(f.1 ≤ o ∧ o < f.2)) ∧
      (∀ (j : Nat) d, pre[j]? = some d → Elem E.S h sz (E.obj i) (E.base i + j * sz) d) ∧
      ∀ (j : Nat) d, ds[j]? = some d → ∃ vs : List Value, vs.length = sz ∧ (∀ (x : Nat) u, vs[x]? = some u → c[E.base i + (pre.length + j) * sz + x]? = some u) ∧ RC E.S h d vs
  | .vec n sz ds => E.ver i = n ∧ 0 < n ∧ 0 < sz ∧ ((ds = [] ∧ E.top i = E.base i) ∨ ∃ c T f, h[E.obj i]? = some (.cells c T f) ∧ E.base i + ds.length * sz ≤ E.top i ∧ E.top i ≤ c.size ∧
      (∀ o, E.base i ≤ o → o < E.top i → E.O (E.obj i) o = .obj i ∧ ¬(f.1 ≤ o ∧ o < f.2)) ∧
      ∀ (j : Nat) d, ds[j]? = some d → ∃ vs : List Value, vs.length = sz ∧ (∀ (x : Nat) u, vs[x]? = some u → c[E.base i + j * sz + x]? = some u) ∧ RC E.S h d vs)
  | .map ks es => ∃ ens clk, h[E.obj i]? = some (.map ens clk) ∧ (∀ o, E.O (E.obj i) o = .obj i) ∧ RMap E.S h ks es ens ∧ Born ens clk

structure Rel (E : Env) (st : St) (a : Act) (h : Heap) : Prop where
  size : a.tmps.size = st.tm.length
  mlen : st.mt.length = st.tm.length
  blen : st.bx.length = st.tm.length
  n : st.sg.length = E.n
  regs : ∀ (t : Nat) v, a.tmps[t]? = some v → RR E h 0 t (st.get t).1 (st.get t).2 v
  boxes : ∀ (s : Nat) cs, st.bx.getD s none = some cs → RBox E h (.priv s) 1 s (E.blk s) cs
  objs : ∀ (i : Nat) ob, st.sg[i]? = some ob → RO E h i ob
  fresh : ∀ b o, h.size ≤ b → E.O b o = .other

/-- What is no memory stays. -/
structure Outer (w w' : World) : Prop where
  os : w'.os = w.os
  tape : w'.tape = w.tape
  output : w'.output = w.output

theorem Outer.refl (w : World) : Outer w w := ⟨rfl, rfl, rfl⟩
theorem Outer.trans {a b c : World} (h : Outer a b) (k : Outer b c) : Outer a c := ⟨k.os.trans h.os, k.tape.trans h.tape, k.output.trans h.output⟩

def KeepBlk (keep : Nat → Prop) (x y : Option Obj) : Prop :=
  match x with
  | none => True
  | some (.cells c T f) => ∃ c', y = some (.cells c' T f) ∧ c'.size = c.size ∧ ∀ o, keep o → c'[o]? = c[o]?
  | some ob => keep 0 → y = some ob

def VerOk (ch : Tag → Prop) (E E' : Env) : Prop := ∀ i, i < E.n → (E.ver i = 0 → E'.ver i = 0) ∧ E.ver i ≤ E'.ver i ∧ (¬ ch (.obj i) → E'.ver i = E.ver i)
theorem ver_same {ch : Tag → Prop} {E E' : Env} (h : E'.ver = E.ver) : VerOk ch E E' := fun i _ => by rw [h]; exact ⟨id, Nat.le_refl _, fun _ => rfl⟩

theorem ver_new {ch : Tag → Prop} {E E' : Env} (h : E'.ver = fun i => if i = E.n then 0 else E.ver i) : VerOk ch E E' := fun i hi => by
  have : E'.ver i = E.ver i := by rw [h]; exact if_neg (by omega)
  rw [this]; exact ⟨id, Nat.le_refl _, fun _ => rfl⟩

structure Pr (ch : Tag → Prop) (E : Env) (h : Heap) (E' : Env) (h' : Heap) : Prop where
  size : h.size ≤ h'.size
  blk : ∀ b, b < h.size → KeepBlk (fun o => ¬ ch (E.O b o)) h[b]? h'[b]?
  tags : ∀ b o, b < h.size → ¬ ch (E.O b o) → E'.O b o = E.O b o
  n : E.n ≤ E'.n
  objs : ∀ i, i < E.n → E'.ver i = E.ver i → E'.obj i = E.obj i ∧ E'.base i = E.base i ∧ E'.top i = E.top i
  blks : ∀ s, ¬ ch (.priv s) → E'.blk s = E.blk s
  vers : VerOk ch E E'

theorem KeepBlk.refl (keep : Nat → Prop) (x : Option Obj) : KeepBlk keep x x := by
  unfold KeepBlk
  split
  · trivial
  · exact ⟨_, rfl, rfl, fun _ _ => rfl⟩
  · exact fun _ => rfl

theorem Pr.refl (ch : Tag → Prop) (E : Env) (h : Heap) : Pr ch E h E h :=
  ⟨Nat.le_refl _, fun _ _ => KeepBlk.refl _ _, fun _ _ _ _ => rfl, Nat.le_refl _, fun _ _ _ => ⟨rfl, rfl, rfl⟩, fun _ _ => rfl, ver_same rfl⟩

theorem Pr.old {ch : Tag → Prop} {E E' : Env} {h h' : Heap} (H : Pr ch E h E' h') {i : Nat} (hi : E.In i) : E'.obj i = E.obj i ∧ E'.base i = E.base i ∧ E'.top i = E.top i :=
  H.objs i hi.1 (((H.vers i hi.1).1 hi.2).trans hi.2.symm)
theorem Pr.In {ch : Tag → Prop} {E E' : Env} {h h' : Heap} (H : Pr ch E h E' h') {i : Nat} (hi : E.In i) : E'.In i := ⟨Nat.lt_of_lt_of_le hi.1 H.n, (H.vers i hi.1).1 hi.2⟩

theorem Pr.weaken {ch ch' : Tag → Prop} {E E' : Env} {h h' : Heap} (H : Pr ch E h E' h') (hc : ∀ t, ch t → ch' t) : Pr ch' E h E' h' := by
  refine ⟨H.size, fun b hb => ?_, fun b o hb hn => H.tags b o hb fun x => hn (hc _ x), H.n, H.objs, fun s hn => H.blks s fun x => hn (hc _ x), fun i hi => ⟨(H.vers i hi).1, (H.vers i hi).2.1, fun hn => (H.vers i hi).2.2 fun x => hn (hc _ x)⟩⟩
  have := H.blk b hb
  unfold KeepBlk at this ⊢
  split at this
  · trivial
  · obtain ⟨c', h1, h2, h3⟩ := this
    exact ⟨c', h1, h2, fun o ho => h3 o fun x => ho (hc _ x)⟩
  · exact fun h0 => this fun x => h0 (hc _ x)

theorem Pr.trans {ch : Tag → Prop} {E E1 E2 : Env} {h h1 h2 : Heap} (A : Pr ch E h E1 h1) (B : Pr ch E1 h1 E2 h2) : Pr ch E h E2 h2 := by
  refine ⟨Nat.le_trans A.size B.size, fun b hb => ?_, fun b o hb hn => ?_, Nat.le_trans A.n B.n, fun i hi hv => ?_, fun s hn => (B.blks s hn).trans (A.blks s hn), fun i hi => ?_⟩
  · have a := A.blk b hb
    have bb := B.blk b (Nat.lt_of_lt_of_le hb A.size)
    unfold KeepBlk at a
    unfold KeepBlk
    split at a
    · trivial
    · obtain ⟨c', e1, e2, e3⟩ := a
      unfold KeepBlk at bb
      rw [e1] at bb
      obtain ⟨c2, f1, f2, f3⟩ := bb
      refine ⟨c2, f1, f2.trans e2, fun o ho => (f3 o ?_).trans (e3 o ho)⟩
      show ¬ ch (E1.O b o)
      rw [A.tags b o hb ho]; exact ho
    · rename_i ob hne _
      intro h0
      have e1 := a h0
      rw [e1] at bb
      have h0' : ¬ ch (E1.O b 0) := by rw [A.tags b 0 hb h0]; exact h0
      unfold KeepBlk at bb
      split at bb
      · simp_all
      · rename_i heq; simp only [Option.some.injEq] at heq; exact absurd heq (hne _ _ _)
      · rename_i heq; rw [← heq] at bb; exact heq ▸ bb h0'
  · have := A.tags b o hb hn
    exact (B.tags b o (Nat.lt_of_lt_of_le hb A.size) (by rw [this]; exact hn)).trans this
  · have v1 := (A.vers i hi).2.1
    have v2 := (B.vers i (Nat.lt_of_lt_of_le hi A.n)).2.1
    have x := A.objs i hi (by omega)
    have y := B.objs i (Nat.lt_of_lt_of_le hi A.n) (by omega)
    exact ⟨y.1.trans x.1, y.2.1.trans x.2.1, y.2.2.trans x.2.2⟩
  · have v1 := A.vers i hi
    have v2 := B.vers i (Nat.lt_of_lt_of_le hi A.n)
    exact ⟨fun h => v2.1 (v1.1 h), Nat.le_trans v1.2.1 v2.2.1, fun hn => (v2.2.2 hn).trans (v1.2.2 hn)⟩

/-- A cell that does not change. -/
theorem Pr.hc {ch : Tag → Prop} {E E' : Env} {h h' : Heap} (H : Pr ch E h E' h') {b o : Nat} {v : Value} (hn : ¬ ch (E.O b o)) (hv : hc h b o = some v) : Su.hc h' b o = some v := by
  have hb : b < h.size := by
    rcases Nat.lt_or_ge b h.size with h1 | h1
    · exact h1
    · simp [Su.hc, Array.getElem?_eq_none h1] at hv
  have := H.blk b hb
  unfold KeepBlk at this
  unfold Su.hc at hv ⊢
  split at this
  · simp_all
  · rename_i c T f he
    obtain ⟨c', e1, e2, e3⟩ := this
    rw [he] at hv
    rw [e1]
    simp only at hv ⊢
    rw [e3 o hn]; exact hv
  · rename_i ob hne he
    rw [he] at hv
    split at hv
    · rename_i heq; simp only [Option.some.injEq] at heq; exact absurd heq (hne _ _ _)
    · simp at hv

theorem Pr.shut {ch : Tag → Prop} {E E' : Env} {h h' : Heap} (H : Pr ch E h E' h') (hs : ¬ ch .shut) (hf : ∀ b o, h.size ≤ b → E.O b o = .other) : SealLe E.S h E'.S h' := by
  refine ⟨fun b o h1 => ?_, fun b o v h1 hv => H.hc (by rw [show E.O b o = .shut from h1]; exact hs) hv⟩
  have hb : b < h.size := by
    rcases Nat.lt_or_ge b h.size with h2 | h2
    · exact h2
    · have := hf b o h2
      rw [show E.O b o = .shut from h1] at this
      cases this
  have := H.tags b o hb (by rw [show E.O b o = .shut from h1]; exact hs)
  exact this.trans h1

theorem Spare.mono {ch : Tag → Prop} {E E' : Env} {h h' : Heap} (H : Pr ch E h E' h') {tg : Tag} (ht : ¬ ch tg) {sz : Nat} {v : Value} (hs : Spare E h tg sz v) : Spare E' h' tg sz v := by
  intro x len cap hv hlt
  obtain ⟨c, T, f, h1, h2, h3⟩ := hs x len cap hv hlt
  have hb : x.block < h.size := (Array.getElem?_eq_some_iff.1 h1).1
  have := H.blk x.block hb
  unfold KeepBlk at this
  rw [h1] at this
  obtain ⟨c', e1, e2, e3⟩ := this
  refine ⟨c', T, f, e1, by rw [e2]; exact h2, fun o h4 h5 => ?_⟩
  obtain ⟨h6, h7⟩ := h3 o h4 h5
  exact ⟨(H.tags _ _ hb (by rw [h6]; exact ht)).trans h6, h7⟩

theorem RM1.mono {ch : Tag → Prop} {E E' : Env} {h h' : Heap} (H : Pr ch E h E' h') (hle : SealLe E.S h E'.S h') {tg : Tag} {d : DV} {m : Meta} {v : Value}
    (ht : m = .own → ¬ ch tg) (hl : ∀ s o, m = .loc s o → ¬ ch (.priv s)) (R : RM1 E h tg d m v) : RM1 E' h' tg d m v := by
  cases m <;> simp only [RM1] at R ⊢
  case val => exact R.mono hle
  case full => exact ⟨R.1.mono hle, R.2⟩
  case own =>
    obtain ⟨r1, sz, ds, r2, r3⟩ := R
    exact ⟨r1.mono hle, sz, ds, r2, r3.mono H (ht rfl)⟩
  case loc s o => rw [H.blks s (hl s o rfl)]; exact R
  case rop ag sz o =>
    obtain ⟨b, o0, r1, r2, r3⟩ := R
    exact ⟨b, o0, r1, r2.mono hle, r3⟩
  case ptr i o => rw [(H.old R.1).1]; exact ⟨H.In R.1, R.2⟩
  case nilp => exact R
  case map i => rw [(H.old R.1).1]; exact ⟨H.In R.1, R.2⟩
  case nilm => exact R
  case arr i sz off len => rw [(H.old R.1).1, (H.old R.1).2.1, (H.old R.1).2.2]; exact ⟨H.In R.1, R.2⟩
  case ept i sz idx o => rw [(H.old R.1).1, (H.old R.1).2.1]; exact ⟨H.In R.1, R.2⟩
  case opt i sz idx => rw [(H.old R.1).1, (H.old R.1).2.1]; exact ⟨H.In R.1, R.2⟩
  case fn f caps =>
    refine ⟨?_, fun c hc => H.In (R.2 c hc)⟩
    rw [R.1]
    congr 2
    exact List.map_congr_left fun c hc => by rw [(H.old (R.2 c hc)).1]
  case vec i n sz len =>
    obtain ⟨r1, r2, r3, a, cap, r4, r5, r6, r7, r8⟩ := R
    have hv := (H.vers i r1).2.1
    refine ⟨Nat.lt_of_lt_of_le r1 H.n, r2, by omega, a, cap, r4, r5, r6, r7, fun e => ?_⟩
    have q := H.objs i r1 (by omega)
    rw [q.1, q.2.1, q.2.2]
    exact r8 (by omega)
  case vpt i n sz idx o =>
    obtain ⟨r1, r2, r3, b, p, r4, r5⟩ := R
    have hv := (H.vers i r1).2.1
    refine ⟨Nat.lt_of_lt_of_le r1 H.n, r2, by omega, b, p, r4, fun e => ?_⟩
    have q := H.objs i r1 (by omega)
    rw [q.1, q.2.1]
    exact r5 (by omega)

theorem RR.mono {ch : Tag → Prop} {E E' : Env} {h h' : Heap} (H : Pr ch E h E' h') (hle : SealLe E.S h E'.S h') {k a : Nat} {d : DV} {m : Meta} {v : Value}
    (ht : ∀ b, ¬ ch (.sp k a b)) (hl : ∀ s o, m = .loc s o → ¬ ch (.priv s)) (R : RR E h k a d m v) : RR E' h' k a d m v := by
  have gen : (∀ ms, m ≠ .tupm ms) → (∀ ms, m ≠ .aggm ms) → RM1 E h (.sp k a 0) d m v → RM1 E' h' (.sp k a 0) d m v :=
    fun _ _ r => r.mono H hle (fun _ => ht 0) hl
  cases m <;> simp only [RR] at R ⊢ <;> try (exact gen (by simp) (by simp) R)
  case tupm ms =>
    obtain ⟨ds, vs, h1, h2, h3, h4, h5⟩ := R
    exact ⟨ds, vs, h1, h2, h3, h4, fun i m' d' u e1 e2 e3 => let ⟨a0, a4⟩ := h5 i m' d' u e1 e2 e3
      ⟨a0, a4.mono H hle (fun _ => ht _) fun s o hm => by rw [hm] at a0; simp [mayLie] at a0⟩⟩
  case aggm ms =>
    obtain ⟨ds, vs, h1, h2, h3, h4, h5⟩ := R
    exact ⟨ds, vs, h1, h2, h3, h4, fun i m' d' u e1 e2 e3 => let ⟨a1, a2, a0, a4⟩ := h5 i m' d' u e1 e2 e3
      ⟨a1, a2, a0, a4.mono H hle (fun _ => ht _) fun s o hm => by rw [hm] at a0; simp [mayLie] at a0⟩⟩

theorem RBox.mono {ch : Tag → Prop} {E E' : Env} {h h' : Heap} (H : Pr ch E h E' h') (hle : SealLe E.S h E'.S h') {tg : Tag} (ht : ¬ ch tg) {k a b : Nat} {cs : List (DV × Meta)}
    (hs : ∀ j, ¬ ch (.sp k a j)) (R : RBox E h tg k a b cs) : RBox E' h' tg k a b cs := by
  obtain ⟨c, T, h1, h2, h3, h4⟩ := R
  have hb : b < h.size := (Array.getElem?_eq_some_iff.1 h1).1
  have := H.blk b hb
  unfold KeepBlk at this
  rw [h1] at this
  obtain ⟨c', e1, e2, e3⟩ := this
  refine ⟨c', T, e1, e2.trans h2, fun o => ?_, fun j r v hr hv => ?_⟩
  · rcases h3 o with h5 | h5
    · exact .inl ((H.tags b o hb (by rw [h5]; exact ht)).trans h5)
    · exact .inr (by omega)
  · have hj : j < c.size := by have := (List.getElem?_eq_some_iff.1 hr).1; omega
    have hne : ¬ ch (E.O b j) := by
      rcases h3 j with h5 | h5
      · rw [h5]; exact ht
      · omega
    rw [e3 j hne] at hv
    obtain ⟨a1, a2, a0, a3⟩ := h4 j r v hr hv
    exact ⟨a1, a2, a0, a3.mono H hle (fun _ => hs j) fun s o hm => by rw [hm] at a0; simp [mayLie] at a0⟩

theorem RO.mono {ch : Tag → Prop} {E E' : Env} {h h' : Heap} (H : Pr ch E h E' h') (hle : SealLe E.S h E'.S h') {i : Nat} (hi : i < E.n) (ht : ¬ ch (.obj i))
    (hs : ∀ j, ¬ ch (.sp 2 i j)) {ob : SObj} (R : RO E h i ob) : RO E' h' i ob := by
  obtain ⟨ho, hbase, htop⟩ := H.objs i hi ((H.vers i hi).2.2 ht)
  cases ob with
  | box cs => simp only [RO] at R ⊢; rw [ho]; exact R.mono H hle ht hs
  | arr sz ds =>
    simp only [RO] at R ⊢
    intro hne
    obtain ⟨c, T, h1, h2, hz, h3, h4⟩ := R hne
    rw [ho, hbase]
    have hb : E.obj i < h.size := (Array.getElem?_eq_some_iff.1 h1).1
    have := H.blk _ hb
    unfold KeepBlk at this
    rw [h1] at this
    obtain ⟨c', e1, e2, e3⟩ := this
    refine ⟨c', T, e1, by omega, hz, fun o h5 h6 => ?_, fun j d hd => ?_⟩
    · have := h3 o h5 h6
      exact (H.tags _ o hb (by rw [this]; exact ht)).trans this
    · obtain ⟨vs, v1, v2, v3⟩ := h4 j d hd
      refine ⟨vs, v1, fun x u hu => ?_, v3.mono hle⟩
      have hx : x < sz := by have := (List.getElem?_eq_some_iff.1 hu).1; omega
      have hj : j < ds.length := (List.getElem?_eq_some_iff.1 hd).1
      have hlt : j * sz + x < ds.length * sz := by
        calc j * sz + x < j * sz + sz := by omega
          _ = (j + 1) * sz := by rw [Nat.succ_mul]
          _ ≤ ds.length * sz := Nat.mul_le_mul_right _ hj
      rw [e3 _ (by show ¬ ch _; rw [h3 _ (by omega) (by omega)]; exact ht)]
      exact v2 x u hu
  | opn sz pre ds =>
    simp only [RO] at R ⊢
    obtain ⟨c, T, f, h1, h2, h2', hz, h3, h4, h5⟩ := R
    rw [ho, hbase, htop]
    have hb : E.obj i < h.size := (Array.getElem?_eq_some_iff.1 h1).1
    have := H.blk _ hb
    unfold KeepBlk at this
    rw [h1] at this
    obtain ⟨c', e1, e2, e3⟩ := this
    refine ⟨c', T, f, e1, h2, by omega, hz, fun o h6 h7 => ?_, fun j d hd => (h4 j d hd).mono hle, fun j d hd => ?_⟩
    · have := h3 o h6 h7
      exact ⟨(H.tags _ o hb (by rw [this.1]; exact ht)).trans this.1, this.2⟩
    · obtain ⟨vs, v1, v2, v3⟩ := h5 j d hd
      refine ⟨vs, v1, fun x u hu => ?_, v3.mono hle⟩
      have hx : x < sz := by have := (List.getElem?_eq_some_iff.1 hu).1; omega
      have hj : j < ds.length := (List.getElem?_eq_some_iff.1 hd).1
      have hlt : (pre.length + j) * sz + x < (pre.length + ds.length) * sz := by
        calc (pre.length + j) * sz + x < (pre.length + j) * sz + sz := by omega
          _ = (pre.length + j + 1) * sz := by rw [Nat.succ_mul]
          _ ≤ (pre.length + ds.length) * sz := Nat.mul_le_mul_right _ (by omega)
      have hge : pre.length * sz ≤ (pre.length + j) * sz := Nat.mul_le_mul_right _ (by omega)
      rw [e3 _ (by show ¬ ch _; rw [(h3 _ (by omega) (by omega)).1]; exact ht)]
      exact v2 x u hu
  | vec n sz ds =>
    simp only [RO] at R ⊢
    obtain ⟨hv, hn, hz, R⟩ := R
    rw [ho, hbase, htop]
    refine ⟨((H.vers i hi).2.2 ht).trans hv, hn, hz, ?_⟩
    rcases R with R | ⟨c, T, f, h1, h2, h2', h3, h5⟩
    · exact .inl R
    right
    have hb : E.obj i < h.size := (Array.getElem?_eq_some_iff.1 h1).1
    have := H.blk _ hb
    unfold KeepBlk at this
    rw [h1] at this
    obtain ⟨c', e1, e2, e3⟩ := this
    refine ⟨c', T, f, e1, h2, by omega, fun o h6 h7 => ?_, fun j d hd => ?_⟩
    · have := h3 o h6 h7
      exact ⟨(H.tags _ o hb (by rw [this.1]; exact ht)).trans this.1, this.2⟩
    · obtain ⟨vs, v1, v2, v3⟩ := h5 j d hd
      refine ⟨vs, v1, fun x u hu => ?_, v3.mono hle⟩
      have hx : x < sz := by have := (List.getElem?_eq_some_iff.1 hu).1; omega
      have hj : j < ds.length := (List.getElem?_eq_some_iff.1 hd).1
      have hlt : j * sz + x < ds.length * sz := by
        calc j * sz + x < j * sz + sz := by omega
          _ = (j + 1) * sz := by rw [Nat.succ_mul]
          _ ≤ ds.length * sz := Nat.mul_le_mul_right _ (by omega)
      rw [e3 _ (by show ¬ ch _; rw [(h3 _ (by omega) (by omega)).1]; exact ht)]
      exact v2 x u hu
  | map ks es =>
    simp only [RO] at R ⊢
    obtain ⟨ens, clk, h1, h2, h3, h4⟩ := R
    rw [ho]
    have hb : E.obj i < h.size := (Array.getElem?_eq_some_iff.1 h1).1
    have hk := H.blk _ hb
    unfold KeepBlk at hk
    rw [h1] at hk
    refine ⟨ens, clk, hk (by show ¬ ch _; rw [h2 0]; exact ht), fun o => (H.tags _ o hb (by rw [h2 o]; exact ht)).trans (h2 o), ⟨h3.1, fun j e n he hn => ?_⟩, h4⟩
    obtain ⟨a1, a2, a3⟩ := h3.2 j e n he hn
    exact ⟨a1, a2.mono hle, a3.mono hle⟩

end Go.Su

/-
  THE DATA MACHINE, part 5: operands; registers written; how one operation of the model is met.
-/
namespace Go.Su

/-- Everything that is ours may change. -/
def Ours (t : Tag) : Prop := t ≠ .other ∧ t ≠ .shut

theorem RM1.tag {E : Env} {h : Heap} {tg tg' : Tag} {d : DV} {m : Meta} {v : Value} (hm : m ≠ .own) (R : RM1 E h tg d m v) : RM1 E h tg' d m v := by
  cases m <;> simp only [RM1] at R ⊢ <;> first | exact R | exact absurd rfl hm

theorem RM1.dm1 {E : Env} {h : Heap} {tg tg' : Tag} {d : DV} {m : Meta} {v : Value} (R : RM1 E h tg d m v) : RM1 E h tg' d (dm1 m) v := by
  cases m <;> simp only [RM1, Su.dm1] at R ⊢ <;> first | exact R | exact R.1

theorem RR.of_RM1 {E : Env} {h : Heap} {k a : Nat} {d : DV} {m : Meta} {v : Value} (R : RM1 E h (.sp k a 0) d m v) : RR E h k a d m v := by
  cases m <;> first | exact R | (simp only [RM1] at R)

theorem RR.to_RM1 {E : Env} {h : Heap} {k a : Nat} {d : DV} {m : Meta} {v : Value} (h1 : ∀ ms, m ≠ .tupm ms) (h2 : ∀ ms, m ≠ .aggm ms) (R : RR E h k a d m v) : RM1 E h (.sp k a 0) d m v := by
  cases m <;> first | exact R | exact absurd rfl (h1 _) | exact absurd rfl (h2 _)

theorem RR.dm {E : Env} {h : Heap} {k a k' a' : Nat} {d : DV} {m : Meta} {v : Value} (R : RR E h k a d m v) : RR E h k' a' d (dm m) v := by
  cases m
  case aggm ms =>
    simp only [RR, Su.dm] at R ⊢
    obtain ⟨ds, vs, h1, h2, h3, h4, h5⟩ := R
    refine ⟨ds, vs, h1, h2, by simpa using h3, by simpa using h4, fun i m' d' u e1 e2 e3 => ?_⟩
    simp only [List.getElem?_map, Option.map_eq_some_iff] at e1
    obtain ⟨m0, e1, rfl⟩ := e1
    obtain ⟨a1, a2, a0, a4⟩ := h5 i m0 d' u e1 e2 e3
    exact ⟨a1, a2, by cases m0 <;> simp_all [mayLie, Su.dm1], a4.dm1⟩
  case tupm ms =>
    simp only [RR, Su.dm] at R ⊢
    obtain ⟨ds, vs, h1, h2, h3, h4, h5⟩ := R
    refine ⟨ds, vs, h1, h2, by simpa using h3, by simpa using h4, fun i m' d' u e1 e2 e3 => ?_⟩
    simp only [List.getElem?_map, Option.map_eq_some_iff] at e1
    obtain ⟨m0, e1, rfl⟩ := e1
    obtain ⟨a0, a4⟩ := h5 i m0 d' u e1 e2 e3
    exact ⟨by cases m0 <;> simp_all [mayLie, Su.dm1], a4.dm1⟩
  all_goals exact RR.of_RM1 (RM1.dm1 (RR.to_RM1 (by simp) (by simp) R))

/-- Data with its own meta can be read as data. -/
theorem RR.data {E : Env} {h : Heap} {k a : Nat} {d : DV} {m : Meta} {v : Value} (hm : isData m = true) (R : RR E h k a d m v) : RV E.S h d v := by
  cases m <;> simp only [isData] at hm <;> try contradiction
  · exact R
  · exact R.1
  · exact R.1
  · obtain ⟨rfl, rfl⟩ := (R : _ ∧ _)
    simp only [RV]
  · rename_i ms
    simp only [RR] at R
    obtain ⟨ds, vs, rfl, rfl, h3, h4, h5⟩ := R
    simp only [RV]
    refine ⟨vs, rfl, RLs_iff.2 ⟨by simp [h3, h4], fun i d v hd hv => ?_⟩⟩
    have hi : i < ms.length := by have := (List.getElem?_eq_some_iff.1 hd).1; omega
    have hmi : ms[i]? = some ms[i] := List.getElem?_eq_getElem hi
    obtain ⟨a1, a2, a0, a4⟩ := h5 i _ d v hmi hd (by simpa using hv)
    refine ⟨a1, RC_of_RV a1 a2 ?_⟩
    have := List.all_eq_true.1 hm ms[i] (List.getElem_mem hi)
    cases hx : ms[i] <;> simp only [hx] at this a4 <;> first | contradiction | exact a4 | exact a4.1 | (obtain ⟨rfl, rfl⟩ := (a4 : _ ∧ _); simp only [RV])

theorem RR.val {E : Env} {h : Heap} {k a : Nat} {d : DV} {v : Value} (R : RV E.S h d v) : RR E h k a d .val v := R

theorem cst_RR {P : Program} {t : TypeId} {v : Value} {r : DV × Meta} {E : Env} {h : Heap} (H : cst P t v = some r) (k a : Nat) : RR E h k a r.1 r.2 v := by
  unfold cst at H
  split at H <;> simp only [Option.some.injEq, reduceCtorEq] at H <;> subst H <;> simp only [RR, RM1, RV, and_self]
  refine ⟨?_, ⟨_, _, rfl⟩, _, _, rfl⟩
  simp only [RC]
  exact ⟨none, 0, 0, rfl, rfl, Nat.le_refl _, fun _ => rfl, by simp, fun x hx => by simp at hx⟩

theorem cst_noagg {P : Program} {t : TypeId} {v : Value} {r : DV × Meta} (H : cst P t v = some r) (ms : List Meta) : r.2 ≠ .aggm ms := by
  unfold cst at H
  split at H <;> simp only [Option.some.injEq, reduceCtorEq] at H <;> subst H <;> simp

theorem cst_noown {P : Program} {t : TypeId} {v : Value} {r : DV × Meta} (H : cst P t v = some r) : r.2 ≠ .own ∧ (∀ ms, r.2 ≠ .tupm ms) := by
  unfold cst at H
  split at H <;> simp only [Option.some.injEq, reduceCtorEq] at H <;> subst H <;> simp

/-- An operand's place in the tags. -/
def plc : Operand → Nat
  | .tmp t => t
  | _ => 0

theorem get_of_ge {st : St} {t : Nat} (ht : st.tm.length ≤ t) (hm : st.mt.length = st.tm.length) : st.get t = (.undef, .val) := by
  simp [St.get, List.getD_eq_getElem?_getD, List.getElem?_eq_none ht, List.getElem?_eq_none (hm ▸ ht)]

theorem Rel.src {P : Program} {t : TypeId} {st : St} {E : Env} {a : Act} {h : Heap} (R : Rel E st a h) {x : Operand} {r : DV × Meta} (H : src P t st x = some r) :
    RR E h 0 (plc x) r.1 r.2 (a.eval x) := by
  cases x with
  | tmp i =>
    simp only [Su.src, Option.some.injEq] at H
    subst H
    simp only [plc, Act.eval]
    by_cases hi : i < a.tmps.size
    · have : a.tmps[i]? = some a.tmps[i] := Array.getElem?_eq_getElem hi
      simpa [Array.getD_eq_getD_getElem?, this] using R.regs i _ this
    · have hi' : st.tm.length ≤ i := by rw [← R.size]; exact Nat.le_of_not_lt hi
      rw [get_of_ge hi' R.mlen]
      simp only [RR, RM1, RV]
  | const v => exact cst_RR H _ _
  | func f =>
    simp only [Su.src, Option.some.injEq] at H
    subst H
    simp only [RR, RM1, Act.eval]
    exact ⟨rfl, by simp⟩
  | global g => simp [Su.src] at H

/-- An operand that is no register can be had anywhere. -/
theorem Rel.src_any {P : Program} {t : TypeId} {st : St} {E : Env} {a : Act} {h : Heap} {x : Operand} {r : DV × Meta} (H : Su.src P t st x = some r)
    (hx : ∀ i, x ≠ .tmp i) (k b : Nat) : RR E h k b r.1 r.2 (a.eval x) := by
  cases x with
  | tmp i => exact absurd rfl (hx i)
  | const v => exact cst_RR H _ _
  | func f =>
    simp only [Su.src, Option.some.injEq] at H
    subst H
    simp only [RR, RM1, Act.eval]
    exact ⟨rfl, by simp⟩
  | global g => simp [Su.src] at H

theorem put_tm (st : St) (dst : Option Nat) (d : DV) (m : Meta) : (st.put dst d m).tm.length = st.tm.length := by cases dst <;> simp [St.put]
theorem put_mt (st : St) (dst : Option Nat) (d : DV) (m : Meta) : (st.put dst d m).mt.length = st.mt.length := by cases dst <;> simp [St.put]
@[simp] theorem put_bx (st : St) (dst : Option Nat) (d : DV) (m : Meta) : (st.put dst d m).bx = st.bx := by cases dst <;> rfl
@[simp] theorem put_sg (st : St) (dst : Option Nat) (d : DV) (m : Meta) : (st.put dst d m).sg = st.sg := by cases dst <;> rfl

theorem put_get_same {st : St} {t : Nat} {d : DV} {m : Meta} (ht : t < st.tm.length) (hm : st.mt.length = st.tm.length) : (st.put (some t) d m).get t = (d, m) := by
  simp [St.put, St.get, List.getD_eq_getElem?_getD, List.getElem?_set_self ht, List.getElem?_set_self (hm ▸ ht)]

theorem put_get_other {st : St} {t u : Nat} {d : DV} {m : Meta} (h : t ≠ u) : (st.put (some t) d m).get u = st.get u := by
  simp [St.put, St.get, List.getD_eq_getElem?_getD, List.getElem?_set_ne h]

theorem act_put_size (a : Act) (dst : Option Nat) (v : Value) : (a.put dst v).tmps.size = a.tmps.size := by cases dst <;> simp [Act.put]
theorem act_put_defers (a : Act) (dst : Option Nat) (v : Value) : (a.put dst v).defers = a.defers := by cases dst <;> rfl

theorem Rel.put {E : Env} {st : St} {a : Act} {h : Heap} (R : Rel E st a h) {dst : Option Nat} {d : DV} {m : Meta} {v : Value}
    (hv : ∀ t, dst = some t → RR E h 0 t d m v) : Rel E (st.put dst d m) (a.put dst v) h := by
  refine ⟨by rw [act_put_size, put_tm]; exact R.size, by rw [put_mt, put_tm]; exact R.mlen, by rw [put_bx, put_tm]; exact R.blen, by rw [put_sg]; exact R.n, fun u w hu => ?_,
    fun s cs hs => R.boxes s cs (by rwa [put_bx] at hs), fun i ob hi => R.objs i ob (by rwa [put_sg] at hi), R.fresh⟩
  cases dst with
  | none => exact R.regs u w hu
  | some t =>
    by_cases htu : t = u
    · subst htu
      have ht : t < a.tmps.size := by
        have := (Array.getElem?_eq_some_iff.1 hu).1
        simpa [Act.put] using this
      rw [put_get_same (by rw [← R.size]; exact ht) R.mlen]
      simp only [Act.put, Array.getElem?_setIfInBounds_self_of_lt ht, Option.some.injEq] at hu
      subst hu
      exact hv t rfl
    · rw [put_get_other htu]
      simp only [Act.put, Array.getElem?_setIfInBounds_ne htu] at hu
      exact R.regs u w hu

/-- How an operation of ours ends: with a value, with nothing, or in a function of the program. -/
def Gp (P : Program) (o : Oper) (a : Act) (w : World) (K : Act → World → Prop) : Prop :=
  (∃ v w', (execOp a.eval o).run P w = .ok (.value v) w' ∧ K (a.put o.dst v) w') ∨ (∃ w', (execOp a.eval o).run P w = .ok .skip w' ∧ K (a.put o.dst undef) w') ∨
    ∃ f args, (execOp a.eval o).run P w = .ok (.enter f args) w ∧ Calls P f args w fun e w' => ∃ v, e = .returned v ∧ K (a.put o.dst v) w'

theorem Gp.mono {P : Program} {o : Oper} {a : Act} {w : World} {K K' : Act → World → Prop} (H : Gp P o a w K) (h : ∀ a' w', a'.defers = a.defers → K a' w' → K' a' w') : Gp P o a w K' := by
  have hd : ∀ v, (a.put o.dst v).defers = a.defers := fun v => act_put_defers a o.dst v
  rcases H with ⟨v, w', h1, h2⟩ | ⟨w', h1, h2⟩ | ⟨f, args, h1, h2⟩
  · exact .inl ⟨v, w', h1, h _ _ (hd v) h2⟩
  · exact .inr (.inl ⟨w', h1, h _ _ (hd _) h2⟩)
  · exact .inr (.inr ⟨f, args, h1, h2.mono fun e w' ⟨v, he, hk⟩ => ⟨v, he, h _ _ (hd v) hk⟩⟩)

theorem wp_value {P : Program} {o : Oper} {a : Act} {w w' : World} {K : Act → World → Prop} {v : Value}
    (h : (execOp a.eval o).run P w = .ok (.value v) w') (hk : K (a.put o.dst v) w') : Gp P o a w K := .inl ⟨v, w', h, hk⟩

theorem wp_skip' {P : Program} {o : Oper} {a : Act} {w w' : World} {K : Act → World → Prop}
    (h : (execOp a.eval o).run P w = .ok .skip w') (hk : K (a.put o.dst undef) w') : Gp P o a w K := .inr (.inl ⟨w', h, hk⟩)

theorem run_v {P : Program} {x : Sem Value} {w w' : World} {v : Value} (h : x.run P w = .ok v w') :
    (do pure (Next.value (← x)) : Sem Next).run P w = .ok (.value v) w' := by
  simp [h]

theorem run_u {P : Program} {x : Sem Unit} {w w' : World} (h : x.run P w = .ok () w') :
    (do x; pure Next.skip : Sem Next).run P w = .ok .skip w' := by
  simp [h]

theorem ob_some {α β : Type} {x : Option α} {f : α → Option β} {b : β} (h : ob x f = some b) : ∃ a, x = some a ∧ f a = some b := by
  cases x with
  | none => simp [ob] at h
  | some a => exact ⟨a, rfl, h⟩

theorem og_some {β : Type} {t : Bool} {x : Option β} {b : β} (h : og t x = some b) : t = true ∧ x = some b := by
  cases t with
  | false => simp [og] at h
  | true => exact ⟨rfl, h⟩

theorem oif_some {β : Type} {d : DV} {t e : Option β} {b : β} (h : oif d t e = some b) : (d = .bool true ∧ t = some b) ∨ (d = .bool false ∧ e = some b) := by
  unfold oif at h
  split at h
  · exact .inl ⟨rfl, h⟩
  · exact .inr ⟨rfl, h⟩
  · simp at h

theorem ite_some {β : Type} {c : Prop} [Decidable c] {x : Option β} {b : β} (h : (if c then x else none) = some b) : c ∧ x = some b := by
  split at h
  · exact ⟨‹_›, h⟩
  · simp at h

theorem tz_some {P : Program} {t : TypeId} {z : Nat × Bool} (H : tz P t = some z) : ∃ i d, P.info? t = some i ∧ P.underlying t = some d ∧ z = (i.size, isAggD d) ∧ (z.2 = false → z.1 = 1) := by
  unfold tz at H
  obtain ⟨i, hi, H⟩ := ob_some H
  obtain ⟨d, hd, H⟩ := ob_some H
  obtain ⟨hc, H⟩ := ite_some H
  simp only [Option.some.injEq] at H
  subst H
  refine ⟨i, d, hi, hd, rfl, fun h => ?_⟩
  simp only at h
  simpa [h] using hc

theorem tz_isAgg {P : Program} {t : TypeId} {z : Nat × Bool} (H : tz P t = some z) (w : World) : (isAgg t).run P w = .ok z.2 w := by
  obtain ⟨i, d, hi, hd, rfl, -⟩ := tz_some H
  unfold isAgg
  simp only [Sem.run_bind, run_underlying hd, Result.andThen_ok]
  cases d <;> rfl

theorem tz_sizeOf {P : Program} {t : TypeId} {z : Nat × Bool} (H : tz P t = some z) (w : World) : (sizeOf t).run P w = .ok z.1 w := by
  obtain ⟨i, d, hi, hd, rfl, -⟩ := tz_some H
  simp [sizeOf, typeInfo, hi]

end Go.Su

/-
  THE DATA MACHINE, part 6: operations that make a value and leave memory as it is.
-/
namespace Go.Su

theorem dm1_dm1 (m : Meta) : dm1 (dm1 m) = dm1 m := by cases m <;> rfl
theorem dm_dm (m : Meta) : dm (dm m) = dm m := by
  cases m <;> simp only [dm]
  all_goals simp [dm1_dm1]

theorem RR.dm_any {E : Env} {h : Heap} {k a k' a' : Nat} {d : DV} {m : Meta} {v : Value} (R : RR E h k a d (Su.dm m) v) : RR E h k' a' d (Su.dm m) v := by
  have := R.dm (k' := k') (a' := a')
  rwa [dm_dm] at this

def Env.re (E : Env) (f : Tag → Tag) : Env := { E with O := fun b o => f (E.O b o) }

theorem Pr.re {E : Env} {h : Heap} {f : Tag → Tag} {ch : Tag → Prop} (hf : ∀ T, ¬ ch T → f T = T) : Pr ch E h (E.re f) h :=
  ⟨Nat.le_refl _, fun _ _ => KeepBlk.refl _ _, fun _ _ _ hn => hf _ hn, Nat.le_refl _, fun _ _ _ => ⟨rfl, rfl, rfl⟩, fun _ _ => rfl, ver_same rfl⟩

theorem re_le {E : Env} {h : Heap} {f : Tag → Tag} (hf : f .shut = .shut) : SealLe E.S h (E.re f).S h :=
  ⟨fun b o hs => by simp only [Env.S, Env.re] at hs ⊢; rw [hs, hf], fun _ _ _ _ hv => hv⟩

theorem RM1.re {E : Env} {h : Heap} {f : Tag → Tag} {tg tg' : Tag} {d : DV} {m : Meta} {v : Value} (hs : f .shut = .shut) (ht : f tg = tg') (R : RM1 E h tg d m v) :
    RM1 (E.re f) h tg' d m v := by
  cases m <;> simp only [RM1] at R ⊢
  case val => exact R.mono (re_le hs)
  case full => exact ⟨R.1.mono (re_le hs), R.2⟩
  case own =>
    obtain ⟨r1, sz, ds, r2, r3⟩ := R
    refine ⟨r1.mono (re_le hs), sz, ds, r2, fun x len cap hv hlt => ?_⟩
    obtain ⟨c, T, g, e1, e2, e3⟩ := r3 x len cap hv hlt
    refine ⟨c, T, g, e1, e2, fun o ho ho' => ?_⟩
    obtain ⟨e4, e5⟩ := e3 o ho ho'
    exact ⟨by simp only [Env.re]; rw [e4, ht], e5⟩
  case rop ag sz o =>
    obtain ⟨b, o0, r1, r2, r3⟩ := R
    exact ⟨b, o0, r1, r2.mono (re_le hs), r3⟩
  all_goals exact R

theorem RR.re {E : Env} {h : Heap} {f : Tag → Tag} {k a k' a' : Nat} {d : DV} {m : Meta} {v : Value} (hs : f .shut = .shut) (ho : f .other = .other) (ht : ∀ b, f (.sp k a b) = .sp k' a' b) (R : RR E h k a d m v) :
    RR (E.re f) h k' a' d m v := by
  cases m
  case tupm ms =>
    simp only [RR] at R ⊢
    obtain ⟨ds, vs, h1, h2, h3, h4, h5⟩ := R
    exact ⟨ds, vs, h1, h2, h3, h4, fun i m' d' u e1 e2 e3 => let ⟨a0, a4⟩ := h5 i m' d' u e1 e2 e3; ⟨a0, a4.re hs (ht _)⟩⟩
  case aggm ms =>
    simp only [RR] at R ⊢
    obtain ⟨ds, vs, h1, h2, h3, h4, h5⟩ := R
    exact ⟨ds, vs, h1, h2, h3, h4, fun i m' d' u e1 e2 e3 => let ⟨a1, a2, a0, a4⟩ := h5 i m' d' u e1 e2 e3; ⟨a1, a2, a0, a4.re hs (ht _)⟩⟩
  all_goals exact RR.of_RM1 ((RR.to_RM1 (by simp) (by simp) R).re hs (ht 0))

/-- The register `s` gives up what it owns. -/
theorem Rel.release {E : Env} {st : St} {a : Act} {h : Heap} (R : Rel E st a h) {x : Operand} {f : Tag → Tag}
    (hf : ∀ T, (∀ s b, x = .tmp s → T ≠ .sp 0 s b) → f T = T) : Rel (E.re f) (st.release x) a h := by
  have hseal : f .shut = .shut := hf _ (by simp)
  have hoth : f .other = .other := hf _ (by simp)
  have P : Pr (fun T => ∃ s b, x = .tmp s ∧ T = .sp 0 s b) E h (E.re f) h := Pr.re fun T hT => hf T fun s b hx hb => hT ⟨s, b, hx, hb⟩
  have hle : SealLe E.S h (E.re f).S h := re_le hseal
  have lm : (st.release x).mt.length = st.mt.length := by cases x <;> simp [St.release]
  have lt : (st.release x).tm = st.tm := by cases x <;> simp [St.release]
  have lb : (st.release x).bx = st.bx := by cases x <;> simp [St.release]
  have lg : (st.release x).sg = st.sg := by cases x <;> simp [St.release]
  refine ⟨by rw [lt]; exact R.size, by rw [lm, lt]; exact R.mlen, by rw [lb, lt]; exact R.blen, by rw [lg]; exact R.n, fun u v hu => ?_, fun s cs hs => ?_, fun i ob hi => ?_, fun b o hb => ?_⟩
  · have h0 := R.regs u v hu
    by_cases hx : x = .tmp u
    · subst hx
      have hg : (st.release (.tmp u)).get u = ((st.get u).1, dm (st.get u).2) := by
        have hu' : u < st.tm.length := by rw [← R.size]; exact (Array.getElem?_eq_some_iff.1 hu).1
        simp [St.release, St.get, List.getD_eq_getElem?_getD, List.getElem?_set_self (R.mlen ▸ hu')]
      rw [hg]
      have h1 : RR E h 9 0 (st.get u).1 (dm (st.get u).2) v := h0.dm
      have h2 : RR (E.re f) h 9 0 (st.get u).1 (dm (st.get u).2) v := h1.re hseal hoth fun b => hf _ (by simp)
      exact h2.dm_any
    · have hg : (st.release x).get u = st.get u := by
        cases x with
        | tmp s =>
          have : s ≠ u := fun e => hx (by rw [e])
          simp [St.release, St.get, List.getD_eq_getElem?_getD, List.getElem?_set_ne this]
        | _ => rfl
      rw [hg]
      exact h0.re hseal hoth fun b => hf _ fun s b' hs he => by simp only [Tag.sp.injEq] at he; exact hx (by rw [hs, he.2.1])
  · exact (R.boxes s cs (by rwa [lb] at hs)).mono P hle (by simp) (by simp)
  · exact (R.objs i ob (by rwa [lg] at hi)).mono P hle (by rw [← R.n]; rw [lg] at hi; exact (List.getElem?_eq_some_iff.1 hi).1) (by simp) (by simp)
  · simp only [Env.re]; rw [R.fresh b o hb, hoth]

/-- `tmp s`'s tags become those of place `t` of kind `k`. -/
def mvTag (x : Operand) (k t : Nat) (T : Tag) : Tag :=
  match x, T with
  | .tmp s', .sp 0 s b => if s' = s then .sp k t b else .sp 0 s b
  | _, T => T

theorem mvTag_id {x : Operand} {k t : Nat} {T : Tag} (h : ∀ s b, x = .tmp s → T ≠ .sp 0 s b) : mvTag x k t T = T := by
  unfold mvTag
  split
  · split
    · rename_i hx; subst hx; exact absurd rfl (h _ _ rfl)
    · rfl
  · rfl

section
variable {X : Type} {C : Cfg} {R : Orc} {o : Oper} {st : St} {k : St → Option X} {x : X} {E : Env} {a : Act} {w : World} {K : Act → World → Prop} {Q : Exit → Act → World → Prop}

/-- What is left to show behind an operation. -/
def Then (E : Env) (w : World) (k : St → Option X) (x : X) (K : Act → World → Prop) : Prop :=
  ∀ E' st' a' w', k st' = some x → Rel E' st' a' w'.heap → Pr Ours E w.heap E' w'.heap → (_ : Outer w w' := by exact ⟨rfl, rfl, rfl⟩) → K a' w'

theorem sim_value {d : DV} {m : Meta} {v : Value} (hr : (execOp a.eval o).run C.P w = .ok (.value v) w) (hk : k (st.put o.dst d m) = some x) (Rl : Rel E st a w.heap)
    (hv : ∀ t, o.dst = some t → RR E w.heap 0 t d m v) (T : Then E w k x K) : Gp C.P o a w K :=
  wp_value hr (T E _ _ w hk (Rl.put hv) (Pr.refl _ _ _))

/-- `y` is moved, and what it owns with it. -/
theorem sim_take {P : Program} {t : TypeId} {y : Operand} {r : DV × Meta} (hr : (execOp a.eval o).run C.P w = .ok (.value (a.eval y)) w) (hs : src P t st y = some r)
    (hk : k ((st.release y).put o.dst r.1 r.2) = some x) (Rl : Rel E st a w.heap) (T : Then E w k x K) : Gp C.P o a w K := by
  refine wp_value hr ?_
  cases hd : o.dst with
  | none =>
    rw [hd] at hk
    have P1 : Pr Ours E w.heap (E.re id) w.heap := Pr.re fun _ _ => rfl
    exact T (E.re id) _ _ w hk ((Rl.release (x := y) (f := id) fun _ _ => rfl).put (fun t ht => by simp at ht)) P1
  | some t0 =>
    rw [hd] at hk
    have P1 : Pr Ours E w.heap (E.re (mvTag y 0 t0)) w.heap := Pr.re fun T hT => mvTag_id fun s b _ he => hT (by rw [he]; simp [Ours])
    refine T (E.re (mvTag y 0 t0)) _ _ w hk ((Rl.release fun T hT => mvTag_id hT).put fun t ht => ?_) P1
    simp only [Option.some.injEq] at ht
    subst ht
    by_cases hy : ∃ i, y = .tmp i
    · obtain ⟨i, rfl⟩ := hy
      have := Rl.src hs
      refine this.re (mvTag_id (by simp)) (mvTag_id (by simp)) fun b => ?_
      simp [mvTag, plc]
    · have := Rel.src_any (E := E) (a := a) (h := w.heap) hs (fun i hi => hy ⟨i, hi⟩) 9 0
      have h2 : RR (E.re (mvTag y 0 t0)) w.heap 9 0 r.1 r.2 (a.eval y) := this.re (mvTag_id (by simp)) (mvTag_id (by simp)) fun b => mvTag_id (by simp)
      -- such an operand owns nothing
      have hno : dm r.2 = r.2 := by
        cases y with
        | tmp i => exact absurd ⟨i, rfl⟩ hy
        | const v =>
          obtain ⟨h1, h3⟩ := cst_noown hs
          have h4 := cst_noagg hs
          cases hm : r.2 <;> simp_all [dm]
        | func f => simp only [src, Option.some.injEq] at hs; subst hs; rfl
        | global g => simp [src] at hs
      rw [← hno] at h2 ⊢
      exact h2.dm_any

theorem sim_move {fl : Flags} {y : Operand} {t : TypeId} (hr : (execOp a.eval o).run C.P w = .ok (.value (a.eval y)) w)
    (H : (ob (src C.P t st y) fun r => if dstIn fl.steal o.dst then k ((st.release y).put o.dst r.1 r.2) else k (st.put o.dst r.1 (dm r.2))) = some x)
    (Rl : Rel E st a w.heap) (T : Then E w k x K) : Gp C.P o a w K := by
  obtain ⟨r, hs, H⟩ := ob_some H
  split at H
  · exact sim_take hr hs H Rl @T
  · exact sim_value hr H Rl (fun t _ => (Rl.src hs).dm) @T

end
end Go.Su

/-
  THE DATA MACHINE, part 7: arithmetic, comparison, indexes, lengths, parts of strings and slices.
-/
namespace Go.Su

theorem RV_int {S : Seal} {h : Heap} {k : IntKind} {n : Int} {v : Value} : RV S h (.int k n) v ↔ v = .int k n := by simp only [RV]
theorem RV_bool {S : Seal} {h : Heap} {b : Bool} {v : Value} : RV S h (.bool b) v ↔ v = .bool b := by simp only [RV]
theorem RV_str {S : Seal} {h : Heap} {s : ByteArray} {v : Value} : RV S h (.str s) v ↔ v = .string s := by simp only [RV]

theorem dUn_some {op : UnOp} {y d : DV} (h : dUn op y = some d) : (∃ b, op = .not ∧ y = .bool b ∧ d = .bool !b) ∨ (∃ k n, op = .neg ∧ y = .int k n ∧ d = .int k (k.wrap (0 - n))) := by
  unfold dUn at h
  split at h <;> simp only [Option.some.injEq, reduceCtorEq] at h <;> subst h
  · exact .inl ⟨_, rfl, rfl, rfl⟩
  · exact .inr ⟨_, _, rfl, rfl, rfl⟩

theorem dPick_some {c y z d : DV} (h : dPick c y z = some d) : (c = .bool true ∧ d = y) ∨ (c = .bool false ∧ d = z) := by
  unfold dPick at h
  split at h <;> simp only [Option.some.injEq, reduceCtorEq] at h <;> subst h
  · exact .inl ⟨rfl, rfl⟩
  · exact .inr ⟨rfl, rfl⟩

theorem dConv_some {kd : IntKind} {y d : DV} (h : dConv kd y = some d) : ∃ k n, y = .int k n ∧ d = .int kd (kd.wrap n) := by
  unfold dConv at h
  split at h <;> simp only [Option.some.injEq, reduceCtorEq] at h <;> subst h
  exact ⟨_, _, rfl, rfl⟩

theorem dExt_some {i : Nat} {y d : DV} (h : dExt i y = some d) : ∃ cs, y = .tup cs ∧ cs[i]? = some d := by
  unfold dExt at h
  split at h
  · exact ⟨_, rfl, h⟩
  · simp at h

theorem dIdx_some {sz : Nat} {y i d : DV} (h : dIdx sz y i = some d) : ∃ ds kd n, y = .list sz ds ∧ i = .int kd n ∧ 0 ≤ n ∧ ds[n.toNat]? = some d := by
  unfold dIdx at h
  split at h
  · obtain ⟨⟨hsz, h0⟩, hd⟩ := ite_some h
    subst hsz
    exact ⟨_, _, _, rfl, rfl, h0, hd⟩
  · simp at h

theorem arrIdx_some {off len n : Nat} {i : DV} (h : arrIdx off len i = some n) : ∃ (kd : IntKind) (q : Int), i = .int kd q ∧ 0 ≤ q ∧ q < len ∧ n = off + q.toNat := by
  unfold arrIdx at h
  split at h
  · obtain ⟨⟨h0, hlt⟩, hn⟩ := ite_some h
    simp only [Option.some.injEq] at hn
    exact ⟨_, _, rfl, h0, hlt, hn.symm⟩
  · simp at h

theorem bytesLt_eq : ∀ x y : List UInt8, Op.bytesLess x y = bytesLt x y
  | _, [] => by simp [Op.bytesLess, bytesLt]
  | [], _ :: _ => by simp [Op.bytesLess, bytesLt]
  | a :: x, b :: y => by simp [Op.bytesLess, bytesLt, bytesLt_eq x y]

section
variable {X : Type} {C : Cfg} {R : Orc} {o : Oper} {st : St} {k : St → Option X} {x : X} {E : Env} {a : Act} {w : World} {K : Act → World → Prop} {Q : Exit → Act → World → Prop}

theorem sim_dat {d : DV} {v : Value} (hr : (execOp a.eval o).run C.P w = .ok (.value v) w) (hk : k (st.put o.dst d .val) = some x) (Rl : Rel E st a w.heap)
    (hv : RV E.S w.heap d v) (T : Then E w k x K) : Gp C.P o a w K :=
  sim_value hr hk Rl (fun _ _ => hv) @T

theorem run_dBin {P : Program} {S : Seal} {h : Heap} {op : BinOp} {t : TypeId} {x y : Operand} {dx dy d : DV} {vx vy : Value} (H : dBin op dx dy = some d) (hx : RV S h dx vx) (hy : RV S h dy vy) (w : World) :
    ∃ v, (do eqGuard op t x y vx vy; binOp op t vx vy : Sem Value).run P w = .ok v w ∧ RV S h d v := by
  unfold dBin at H
  split at H
  · rw [RV_int] at hx hy
    subst hx hy
    split at H
    · rename_i hsh
      unfold dShift at H
      split at H
      · cases H
      · rename_i hb
        cases op <;> simp only [isShift, Bool.false_eq_true] at hsh <;> simp only [Option.some.injEq] at H <;> subst H <;>
          (refine ⟨_, ?_, by simp only [RV]; rfl⟩; simp [eqGuard_at_int, binOp, Op.shift, hb])
    obtain ⟨hk, H1⟩ := ite_some H
    clear H
    subst hk
    by_cases hq : op = .quo ∨ op = .rem
    · rcases hq with rfl | rfl <;> simp only [dArith] at H1 <;> split at H1 <;> simp only [reduceCtorEq, Option.some.injEq] at H1 <;> subst H1 <;>
        (rename_i hb; refine ⟨_, ?_, by simp only [RV]; rfl⟩; simp [eqGuard_at_int, binOp, Op.intDiv, hb])
    simp only [not_or] at hq
    cases op <;> (try exact absurd rfl hq.1) <;> (try exact absurd rfl hq.2) <;> simp only [dArith, reduceCtorEq, Option.some.injEq] at H1 <;> subst H1 <;>
      (refine ⟨_, ?_, by simp only [RV]; rfl⟩; simp [eqGuard_at_int, binOp, Op.intArith, Op.intCmp, Op.intBits])
  · rw [RV_str] at hx hy
    subst hx hy
    cases op <;> simp only [dStrOp, reduceCtorEq, Option.some.injEq] at H
    case add =>
      obtain ⟨hc, H1⟩ := ite_some H
      clear H
      simp only [Option.some.injEq] at H1
      subst H1
      refine ⟨_, ?_, by simp only [RV]; rfl⟩
      rename_i sa sb
      have : ¬ (((sa.size + sb.size : Nat) : Int) > IntKind.i64.max) := by
        rw [IntKind.max_i64]
        have := hc
        unfold lim at this
        omega
      simp only [eqGuard_at_string, binOp, Op.stringOp, Sem.run_bind, Sem.run_pure, Result.andThen_ok]
      rw [if_neg this]
      rfl
    all_goals
      subst H
      refine ⟨_, ?_, by simp only [RV]; rfl⟩
      simp [eqGuard_at_string, binOp, Op.stringOp, bytesLt_eq]
  · simp at H

theorem sim_pick {c y z : Operand} (hop : o.op = .pick c y z) 
    (H : (ob (src C.P 0 st c) fun rc => ob (src C.P o.type st y) fun ra => ob (src C.P o.type st z) fun rb =>
      og (isData rc.2 && isData ra.2 && isData rb.2) (ob (dPick rc.1 ra.1 rb.1) fun d => k (st.put o.dst d .val))) = some x)
    (Rl : Rel E st a w.heap) (T : Then E w k x K) : Gp C.P o a w K := by
  obtain ⟨rc, h1, H⟩ := ob_some H
  obtain ⟨ra, h2, H⟩ := ob_some H
  obtain ⟨rb, h3, H⟩ := ob_some H
  obtain ⟨hc, H⟩ := og_some H
  obtain ⟨d, hd, H⟩ := ob_some H
  simp only [Bool.and_eq_true] at hc
  have e1 := (Rl.src h1).data hc.1.1
  have e2 := (Rl.src h2).data hc.1.2
  have e3 := (Rl.src h3).data hc.2
  rcases dPick_some hd with ⟨hb, hd⟩ | ⟨hb, hd⟩
  · rw [hb, RV_bool] at e1
    subst hd
    refine sim_dat (v := a.eval y) ?_ H Rl e2 @T
    simp [execOp, hop, e1, asBool]
  · rw [hb, RV_bool] at e1
    subst hd
    refine sim_dat (v := a.eval z) ?_ H Rl e3 @T
    simp [execOp, hop, e1, asBool]

theorem sim_un {op : UnOp} {t : TypeId} {y : Operand} (hop : o.op = .unOp op t y)
    (H : (ob (src C.P t st y) fun r => og (isData r.2) (ob (dUn op r.1) fun d => k (st.put o.dst d .val))) = some x)
    (Rl : Rel E st a w.heap) (T : Then E w k x K) : Gp C.P o a w K := by
  obtain ⟨r, h1, H⟩ := ob_some H
  obtain ⟨hc, H⟩ := og_some H
  obtain ⟨d, hd, H⟩ := ob_some H
  have e1 := (Rl.src h1).data hc
  rcases dUn_some hd with ⟨b, rfl, hb, rfl⟩ | ⟨kd, n, rfl, hb, rfl⟩
  · rw [hb, RV_bool] at e1
    refine sim_dat (v := .bool _) ?_ H Rl (by rw [RV_bool]) @T
    simp [execOp, hop, e1, Op.unary]
  · rw [hb, RV_int] at e1
    refine sim_dat (v := .int _ _) ?_ H Rl (by rw [RV_int]) @T
    simp [execOp, hop, e1, Op.unary, Op.intArith]

theorem sim_conv {t u : TypeId} {y : Operand} (hop : o.op = .convert t u y)
    (H : (ob (src C.P t st y) fun r => match C.P.underlying u with
      | some (.int kd) => og (isData r.2 && (C.P.underlying t).isSome) (ob (dConv kd r.1) fun d => k (st.put o.dst d .val))
      | _ => none) = some x)
    (Rl : Rel E st a w.heap) (T : Then E w k x K) : Gp C.P o a w K := by
  obtain ⟨r, h1, H⟩ := ob_some H
  split at H
  · rename_i kd hu
    obtain ⟨hc, H⟩ := og_some H
    obtain ⟨d, hd, H⟩ := ob_some H
    simp only [Bool.and_eq_true] at hc
    have e1 := (Rl.src h1).data hc.1
    obtain ⟨dt, ht⟩ := Option.isSome_iff_exists.1 hc.2
    obtain ⟨_, _, hb, rfl⟩ := dConv_some hd
    rw [hb, RV_int] at e1
    refine sim_dat (v := .int _ _) ?_ H Rl (by rw [RV_int]) @T
    simp only [execOp, hop]
    refine run_v ?_
    simp only [convert, e1, Sem.run_bind, run_underlying ht, run_underlying hu, Result.andThen_ok]
    cases dt <;> rfl
  · simp at H

theorem sim_ext {y : Operand} {i : Nat} {r : DV × Meta} {d : DV} {m : Meta} (hop : o.op = .extract y i) (h1 : src C.P 0 st y = some r) (hm : r.2 = .val) (hd : dExt i r.1 = some d)
    (hmv : m = .val) (H : k (st.put o.dst d m) = some x) (Rl : Rel E st a w.heap) (T : Then E w k x K) : Gp C.P o a w K := by
  subst hmv
  have e1 := (Rl.src h1).data (by rw [hm]; rfl)
  obtain ⟨cs, hb, hd⟩ := dExt_some hd
  rw [hb] at e1
  simp only [RV] at e1
  obtain ⟨vs, hv, hr⟩ := e1
  obtain ⟨l1, l2⟩ := RVs_iff.1 hr
  have hi := (List.getElem?_eq_some_iff.1 hd).1
  have hvi : vs.toList[i]? = some (vs.toList[i]'(by omega)) := List.getElem?_eq_getElem (by omega)
  refine sim_dat (v := vs.toList[i]'(by omega)) ?_ H Rl (l2 i d _ hd hvi) @T
  simp only [execOp, hop]
  refine run_v ?_
  have hvi' : vs[i]? = some (vs.toList[i]'(by omega)) := by simp
  simp only [Instr.extract, hv, hvi', Sem.run_pure]

theorem sim_fieldAddr {t : TypeId} {y : Operand} {f : Nat} (hop : o.op = .fieldAddr t y f) (H : evFieldAddr C o t y f st k = some x) (Rl : Rel E st a w.heap) (T : Then E w k x K) : Gp C.P o a w K := by
  unfold evFieldAddr at H
  obtain ⟨r, h1, H⟩ := ob_some H
  obtain ⟨fd, h2, H⟩ := ob_some H
  obtain ⟨z, h3, H⟩ := ob_some H
  have hz : z.1 ≠ 0 := by intro h; rw [if_pos h] at H; simp at H
  rw [if_neg hz] at H
  have hu : ∃ fs, C.P.underlying t = some (.struct fs) ∧ fs[f]? = some fd := by
    unfold fieldOf at h2
    split at h2
    · exact ⟨_, ‹_›, h2⟩
    · simp at h2
  obtain ⟨fs, hu, hf⟩ := hu
  have run : ∀ b off, a.eval y = .pointer (some ⟨b, off, none⟩) → (execOp a.eval o).run C.P w = .ok (.value (.pointer (some ⟨b, off + fd.offset, none⟩))) w := by
    intro b off he
    simp only [execOp, hop]
    refine run_v ?_
    simp only [Instr.fieldAt, Sem.run_bind, run_underlying hu, Result.andThen_ok, hf, he, Instr.sureAddr, Sem.run_pure, fieldPlace, tz_sizeOf h3, hz, if_false, Addr.add_lit]
  have e1 := Rl.src h1
  revert e1 H
  cases hm : r.2 <;> intro H e1 <;> simp only [reduceCtorEq] at H <;> simp only [RR, RM1] at e1
  case loc s off => exact sim_value (run _ _ e1.2) H Rl (fun _ _ => ⟨rfl, rfl⟩) @T
  case rop ag sz off =>
    obtain ⟨b, o0, r1, r2, r3⟩ := e1
    exact sim_value (run _ _ r1) H Rl (fun _ _ => ⟨b, o0, by rw [Nat.add_assoc], r2, r3⟩) @T
  case ptr i off => exact sim_value (run _ _ e1.2) H Rl (fun _ _ => ⟨e1.1, rfl⟩) @T
  case ept i sz idx off => exact sim_value (run _ _ e1.2) H Rl (fun _ _ => ⟨e1.1, by rw [Nat.add_assoc]⟩) @T
  case vpt i n sz idx off =>
    obtain ⟨r1, r2, r3, b, p, r4, r5⟩ := e1
    exact sim_value (run _ _ r4) H Rl (fun _ _ => ⟨r1, r2, r3, b, p, by rw [Nat.add_assoc], r5⟩) @T

theorem run_index_slice {P : Program} {t e : TypeId} {z : Nat × Bool} (hu : P.underlying t = some (.slice e)) (hz : tz P e = some z) {b : Addr} {len cap : Nat} {kd : IntKind} {i : Int} (h0 : 0 ≤ i) (h1 : i < len) (w : World) :
    (Instr.indexAt t (.slice (some b) len cap) (.int kd i)).run P w = .ok (.pointer (some (b.add (i.toNat * z.1)))) w := by
  simp [Instr.indexAt, run_underlying hu, asIntOf, tz_sizeOf hz, h0, h1]

theorem sim_indexAddr {fl : Flags} {t : TypeId} {y i : Operand} (hop : o.op = .indexAddr t y i) (H : evIndexAddr C fl o t y i st k = some x) (Rl : Rel E st a w.heap) (T : Then E w k x K) : Gp C.P o a w K := by
  unfold evIndexAddr at H
  obtain ⟨r, h1, H⟩ := ob_some H
  obtain ⟨j, h2, H⟩ := ob_some H
  obtain ⟨e, h3, H⟩ := ob_some H
  obtain ⟨z, h4, H⟩ := ob_some H
  have hu : C.P.underlying t = some (.slice e) := by
    unfold elemT at h3
    split at h3
    · simp only [Option.some.injEq] at h3; subst h3; assumption
    · simp at h3
  have e1 := Rl.src h1
  have e2 := Rl.src h2
  have dat : isData r.2 = true → og (isData r.2 && isData j.2) (ob (dIdx z.1 r.1 j.1) fun d =>
      if z.2 then k (st.put o.dst d (.rop true z.1 0)) else og (isLeaf d) (k (st.put o.dst d (.rop false z.1 0)))) = some x → Gp C.P o a w K := by
    intro hdat H
    obtain ⟨hc, H⟩ := og_some H
    obtain ⟨d, hd, H⟩ := ob_some H
    simp only [Bool.and_eq_true] at hc
    have f1 := e1.data hc.1
    have f2 := e2.data hc.2
    obtain ⟨ds, kd, n, hr, hj, h0, hd⟩ := dIdx_some hd
    rw [hr] at f1
    rw [hj, RV_int] at f2
    simp only [RV, RC] at f1
    obtain ⟨b, len, cap, hv, hlen, hcap, hnil, hpos, hel⟩ := f1
    simp only [List.cons.injEq, and_true] at hv
    have hn : n.toNat < ds.length := (List.getElem?_eq_some_iff.1 hd).1
    cases b with
    | none => have := hnil rfl; omega
    | some b =>
      obtain ⟨hs, hE⟩ := hel b rfl
      have hs := hs (by omega)
      have hE := RElems_iff.1 hE n.toNat d hd
      have hb : b = ⟨b.block, b.off, none⟩ := by cases b; simp only at hs; subst hs; rfl
      have hr' : (execOp a.eval o).run C.P w = .ok (.value (.pointer (some ⟨b.block, b.off + n.toNat * z.1 + 0, none⟩))) w := by
        simp only [execOp, hop]
        refine run_v ?_
        rw [hv, f2, run_index_slice hu h4 h0 (by omega)]
        rw [hb]
        simp only [Addr.add_lit, Nat.add_zero]
      by_cases hz : z.2 = true
      · rw [if_pos hz] at H
        exact sim_value hr' H Rl (fun _ _ => ⟨b.block, b.off + n.toNat * z.1, rfl, hE, by simp⟩) @T
      · rw [if_neg hz] at H
        obtain ⟨hl, H⟩ := og_some H
        exact sim_value hr' H Rl (fun _ _ => ⟨b.block, b.off + n.toNat * z.1, rfl, hE, fun _ => hl⟩) @T
  revert e1 H dat
  cases hm : r.2 <;> intro H e1 dat
  case arr i sz off len =>
    obtain ⟨hc, H⟩ := og_some H
    obtain ⟨n, hn, H⟩ := ob_some H
    simp only [Bool.and_eq_true, beq_iff_eq] at hc
    have f2 := e2.data hc.2
    obtain ⟨kd, q, hj, h0, hlt, rfl⟩ := arrIdx_some hn
    rw [hj, RV_int] at f2
    simp only [RR, RM1] at e1
    obtain ⟨hi, b, cap, hv, hb⟩ := e1
    have hb := hb.1 (by omega)
    subst hb
    refine sim_value (v := .pointer (some ⟨E.obj i, E.base i + (off + q.toNat) * sz + 0, none⟩)) ?_ H Rl (fun _ _ => ?_) @T
    · simp only [execOp, hop]
      refine run_v ?_
      rw [hv, f2, run_index_slice hu h4 h0 hlt]
      simp only [Addr.add_lit, Nat.add_zero, hc.1, Nat.add_mul, Nat.add_assoc]
    · split
      · exact ⟨hi, rfl⟩
      · exact ⟨hi, rfl⟩
  case vec i n sz len =>
    obtain ⟨hc, H⟩ := og_some H
    obtain ⟨idx, hn, H⟩ := ob_some H
    simp only [Bool.and_eq_true, beq_iff_eq] at hc
    have f2 := e2.data hc.2
    obtain ⟨kd, q, hj, h0, hlt, rfl⟩ := arrIdx_some hn
    rw [hj, RV_int] at f2
    simp only [RR, RM1] at e1
    obtain ⟨r1, r2, r3, a', cap, r4, r5, r6, r7, r8⟩ := e1
    cases a' with
    | none => have := r6 rfl; omega
    | some b =>
      have hs := r7 (by omega) b rfl
      have hb : b = ⟨b.block, b.off, none⟩ := by cases b; simp only at hs; subst hs; rfl
      refine sim_value (v := .pointer (some ⟨b.block, b.off + q.toNat * sz + 0, none⟩)) ?_ H Rl (fun _ _ => ⟨r1, r2, r3, b.block, b.off + q.toNat * sz, by rw [Nat.add_zero], fun e => ?_⟩) @T
      · simp only [execOp, hop]
        refine run_v ?_
        rw [r4, f2, run_index_slice hu h4 h0 hlt, hb]
        simp only [Addr.add_lit, Nat.add_zero, hc.1]
      · obtain ⟨q1, -⟩ := r8 e (by omega)
        simp only [Option.some.injEq] at q1
        rw [q1]
        exact ⟨rfl, by rw [Nat.zero_add]⟩
  all_goals exact dat (by have := (og_some H).1; simp only [Bool.and_eq_true] at this; exact this.1) H

end
end Go.Su

/-
  THE DATA MACHINE, part 8: comparison, lengths, bytes of texts, parts of slices, fields of values.
-/
namespace Go.Su

theorem RV_list {S : Seal} {h : Heap} {sz : Nat} {ds : List DV} {v : Value} (H : RV S h (.list sz ds) v) :
    ∃ a len cap, v = .slice a len cap ∧ len = ds.length ∧ len ≤ cap ∧ (a = none → cap = 0) ∧ (ds ≠ [] → 0 < sz) ∧ ∀ x, a = some x → (0 < cap → x.spot = none) ∧ RElems S h sz x.block x.off ds := by
  simp only [RV, RC] at H
  obtain ⟨a, len, cap, h1, h2⟩ := H
  simp only [List.cons.injEq, and_true] at h1
  exact ⟨a, len, cap, h1, h2⟩

theorem RV_list_mk {S : Seal} {h : Heap} {sz : Nat} {ds : List DV} {a : Option Addr} {len cap : Nat} (h1 : len = ds.length) (h2 : len ≤ cap) (h3 : a = none → cap = 0) (h4 : ds ≠ [] → 0 < sz)
    (h5 : ∀ x, a = some x → (0 < cap → x.spot = none) ∧ RElems S h sz x.block x.off ds) : RV S h (.list sz ds) (.slice a len cap) := by
  simp only [RV, RC]
  exact ⟨a, len, cap, rfl, h1, h2, h3, h4, h5⟩

theorem dLen_some {y d : DV} (h : dLen y = some d) : ∃ sz ds, y = .list sz ds ∧ d = .int .i64 ds.length := by
  unfold dLen at h
  split at h
  · simp only [Option.some.injEq] at h; exact ⟨_, _, rfl, h.symm⟩
  · simp at h

theorem dLenS_some {y d : DV} (h : dLenS y = some d) : ∃ s, y = .str s ∧ d = .int .i64 s.size := by
  unfold dLenS at h
  split at h
  · simp only [Option.some.injEq] at h; exact ⟨_, rfl, h.symm⟩
  · simp at h

theorem dStrIdx_some {y i d : DV} (h : dStrIdx y i = some d) : ∃ s kd n b, y = .str s ∧ i = .int kd n ∧ 0 ≤ n ∧ s.data[n.toNat]? = some b ∧ d = .int .u8 b.toNat := by
  unfold dStrIdx at h
  split at h
  · obtain ⟨h0, h⟩ := ite_some h
    simp only [Option.map_eq_some_iff] at h
    obtain ⟨b, hb, rfl⟩ := h
    exact ⟨_, _, _, b, rfl, rfl, h0, hb, rfl⟩
  · simp at h

theorem bnd_some {n m : Nat} {x : Option DV} (h : bnd n x = some m) : (x = none ∧ m = n) ∨ ∃ kd q, x = some (.int kd q) ∧ 0 ≤ q ∧ m = q.toNat := by
  unfold bnd at h
  split at h
  · simp only [Option.some.injEq] at h; exact .inl ⟨rfl, h.symm⟩
  · obtain ⟨h0, h⟩ := ite_some h
    simp only [Option.some.injEq] at h
    exact .inr ⟨_, _, rfl, h0, h.symm⟩
  · simp at h

theorem dSlice_some {sz : Nat} {y d : DV} {lo hi : Option DV} (h : dSlice sz y lo hi = some d) : ∃ ds hh ll, y = .list sz ds ∧ bnd ds.length hi = some hh ∧ bnd 0 lo = some ll ∧ ll ≤ hh ∧ hh ≤ ds.length ∧ d = .list sz ((ds.take hh).drop ll) := by
  unfold dSlice at h
  split at h
  · obtain ⟨hh, b1, h⟩ := ob_some h
    obtain ⟨ll, b2, h⟩ := ob_some h
    obtain ⟨⟨c1, c2, c3⟩, h⟩ := ite_some h
    simp only [Option.some.injEq] at h
    subst c1
    exact ⟨_, hh, ll, rfl, b1, b2, c2, c3, h.symm⟩
  · simp at h

theorem dSlice3_some {sz : Nat} {y d hi mx : DV} {lo : Option DV} (h : dSlice3 sz y lo hi mx = some d) : ∃ kd kd' q, hi = .int kd q ∧ mx = .int kd' q ∧ dSlice sz y lo (some hi) = some d := by
  unfold dSlice3 at h
  split at h
  · obtain ⟨hqm, h1⟩ := ite_some h
    subst hqm
    exact ⟨_, _, _, rfl, rfl, h1⟩
  · simp at h

theorem RElems_drop {S : Seal} {h : Heap} {sz b o l n : Nat} {ds : List DV} (H : RElems S h sz b o ds) : RElems S h sz b (o + l * sz) ((ds.take n).drop l) := by
  rw [RElems_iff] at H ⊢
  intro i d hd
  rw [List.getElem?_drop] at hd
  have hd2 : ds[l + i]? = some d := by
    rw [List.getElem?_take] at hd
    split at hd
    · exact hd
    · simp at hd
  have := H (l + i) d hd2
  rwa [Nat.add_mul, ← Nat.add_assoc] at this

section
variable {X : Type} {C : Cfg} {R : Orc} {o : Oper} {st : St} {k : St → Option X} {x : X} {E : Env} {a : Act} {w : World} {K : Act → World → Prop} {Q : Exit → Act → World → Prop}

/-- Bounds of a slice expression, as the model reckons them. -/
theorem run_bnd {P : Program} {isS : Bool} {len cap h l : Nat} {lo hi : Option DV} {vlo vhi : Option Value} {S : Seal} {hp : Heap} (hh : bnd len hi = some h) (hl : bnd 0 lo = some l) (h1 : l ≤ h) (h2 : h ≤ len) (h3 : len ≤ cap)
    (elo : ∀ d, lo = some d → ∃ v, vlo = some v ∧ RV S hp d v) (nlo : lo = none → vlo = none) (ehi : ∀ d, hi = some d → ∃ v, vhi = some v ∧ RV S hp d v) (nhi : hi = none → vhi = none) (w : World) :
    (Instr.sliceBounds isS len cap vlo vhi none).run P w = .ok (l, h, cap) w := by
  have A : ∀ (kd : IntKind) (q : Int) (y : Nat) (code : BoundsCode), 0 ≤ q → q.toNat ≤ y → (Instr.sliceBound (.int kd q) y code).run P w = .ok q.toNat w := by
    intro kd q y code h0 h4
    unfold Instr.sliceBound
    simp only [asIntOf, pure_bind, Sem.run_ite]
    rw [if_pos ⟨h0, by omega⟩]
    rfl
  unfold Instr.sliceBounds
  rcases bnd_some hh with ⟨rfl, rfl⟩ | ⟨kd, q, rfl, h0, rfl⟩
  · rw [nhi rfl]
    rcases bnd_some hl with ⟨rfl, rfl⟩ | ⟨kd', q', rfl, h0', rfl⟩
    · rw [nlo rfl]; simp
    · obtain ⟨v, rfl, hv⟩ := elo _ rfl
      rw [RV_int] at hv
      subst hv
      simp only [Sem.run_bind, Sem.run_pure, Result.andThen_ok, A _ _ _ _ h0' h1]
  · obtain ⟨v, rfl, hv⟩ := ehi _ rfl
    rw [RV_int] at hv
    subst hv
    rcases bnd_some hl with ⟨rfl, rfl⟩ | ⟨kd', q', rfl, h0', rfl⟩
    · rw [nlo rfl]
      simp only [Sem.run_bind, Sem.run_pure, Result.andThen_ok, A _ _ _ _ h0 (by omega : q.toNat ≤ cap)]
    · obtain ⟨v, rfl, hv⟩ := elo _ rfl
      rw [RV_int] at hv
      subst hv
      simp only [Sem.run_bind, Sem.run_pure, Result.andThen_ok, A _ _ _ _ h0 (by omega : q.toNat ≤ cap), A _ _ _ _ h0' h1]

theorem opt_src {P : Program} {y : Option Operand} {l : Option DV} (h : optSrc P st y = some l) (Rl : Rel E st a w.heap) :
    (∀ d, l = some d → ∃ v, y.map a.eval = some v ∧ RV E.S w.heap d v) ∧ (l = none → y.map a.eval = none) := by
  unfold optSrc at h
  split at h
  · simp only [Option.some.injEq] at h; subst h; simp
  · obtain ⟨r, h1, h⟩ := ob_some h
    obtain ⟨h2, h⟩ := og_some h
    simp only [Option.some.injEq] at h
    subst h
    refine ⟨fun d hd => ?_, by simp⟩
    simp only [Option.some.injEq] at hd
    subst hd
    exact ⟨_, rfl, (Rl.src h1).data h2⟩

theorem slice_at {P : Program} {t e : TypeId} {z : Nat × Bool} (hu : P.underlying t = some (.slice e)) (hz : tz P e = some z) {b : Option Addr} {len cap l h m : Nat} {vlo vhi vmx : Option Value}
    (hb : (Instr.sliceBounds true len cap vlo vhi vmx).run P w = .ok (l, h, m) w) :
    (Instr.sliceAt t (.slice b len cap) vlo vhi vmx).run P w = .ok (.slice (if m = l then b else b.map (·.add (l * z.1))) (h - l) (m - l)) w := by
  unfold Instr.sliceAt
  simp only [Sem.run_bind, run_underlying hu, Result.andThen_ok]
  unfold Instr.slice
  simp only [Sem.run_bind, run_underlying hu, Result.andThen_ok, hb, tz_sizeOf hz, Sem.run_pure]

theorem slice_RV {S : Seal} {hp : Heap} {b : Option Addr} {len cap l h m sz : Nat} {ds : List DV} (H : RV S hp (.list sz ds) (.slice b len cap)) (h1 : l ≤ h) (h2 : h ≤ ds.length) (h3 : h ≤ m) (h4 : m ≤ cap) :
    RV S hp (.list sz ((ds.take h).drop l)) (.slice (if m = l then b else b.map (·.add (l * sz))) (h - l) (m - l)) := by
  obtain ⟨b', len', cap', hv, e1, e2, e3, e4, e5⟩ := RV_list H
  simp only [Value.slice.injEq] at hv
  obtain ⟨rfl, rfl, rfl⟩ := hv
  refine RV_list_mk ?_ (by omega) ?_ ?_ ?_
  · simp only [List.length_drop, List.length_take]; omega
  · intro hn
    split at hn
    · omega
    · cases b with
      | none => have := e3 rfl; omega
      | some y => simp at hn
  · intro hne
    exact e4 fun hd => hne (by simp [hd])
  · intro y hy
    split at hy
    · rename_i hml
      have hlh : h = l := by omega
      obtain ⟨s1, s2⟩ := e5 y hy
      refine ⟨fun h0 => absurd h0 (by omega), ?_⟩
      have : (ds.take h).drop l = [] := by
        apply List.drop_eq_nil_of_le
        simp only [List.length_take]
        omega
      rw [this]
      simp only [RElems]
    · cases b with
      | none => simp at hy
      | some z =>
        simp only [Option.map_some, Option.some.injEq] at hy
        subst hy
        obtain ⟨s1, s2⟩ := e5 z rfl
        have s1 := s1 (by omega)
        have hz : z = ⟨z.block, z.off, none⟩ := by cases z; simp only at s1; subst s1; rfl
        rw [hz]
        simp only [Addr.add_lit]
        exact ⟨fun _ => trivial, RElems_drop s2⟩

theorem arrOf_some {m : Meta} {q : Nat × Nat × Nat × Nat} (h : arrOf m = some q) : m = .arr q.1 q.2.1 q.2.2.1 q.2.2.2 := by
  unfold arrOf at h
  split at h
  · simp only [Option.some.injEq] at h; subst h; rfl
  · cases h
theorem elemT_some {P : Program} {t e : TypeId} (h : elemT P t = some e) : P.underlying t = some (.slice e) := by
  unfold elemT at h
  split at h
  · simp only [Option.some.injEq] at h; subst h; assumption
  · cases h

/-- A part of a writable array. -/
theorem arr_part {E : Env} {h : Heap} {tg : Tag} {i sz off len l hh cap : Nat} {b : Option Addr} (e1 : RM1 E h tg .undef (.arr i sz off len) (.slice b len cap)) (c2 : l ≤ hh) (c3 : hh ≤ len) :
    RM1 E h tg .undef (.arr i sz (off + l) (hh - l)) (.slice (if cap = l then b else b.map (·.add (l * sz))) (hh - l) (cap - l)) := by
  obtain ⟨f0, b', cap', hv, f1, f2, f3, f4, f5⟩ := e1
  simp only [Value.slice.injEq, true_and] at hv
  obtain ⟨rfl, rfl⟩ := hv
  refine ⟨f0, _, _, rfl, fun hp => ?_, by omega, fun hb => ?_, fun y hy => ?_, fun hp => ?_⟩
  · rw [if_neg (by omega), f1 (by omega), Option.map_some, Addr.add_lit, Nat.add_assoc, ← Nat.add_mul]
  · split at hb
    · rw [f3 hb]; omega
    · cases b with
      | none => rw [f3 rfl]; omega
      | some z => simp at hb
  · split at hy
    · exact f4 y hy
    · cases b with
      | none => simp at hy
      | some z =>
        simp only [Option.map_some, Option.some.injEq] at hy
        subst hy
        have := f4 z rfl
        have hz : z = ⟨z.block, z.off, none⟩ := by cases z; simp only at this; subst this; rfl
        rw [hz, Addr.add_lit]
  · have := f5 (by omega)
    rwa [show off + l + (cap - l) = off + cap by omega]

theorem vecOf_some {m : Meta} {q : Nat × Nat × Nat × Nat} (h : vecOf m = some q) : m = .vec q.1 q.2.1 q.2.2.1 q.2.2.2 := by
  unfold vecOf at h
  split at h
  · simp only [Option.some.injEq] at h; subst h; rfl
  · cases h
/-- The first elements of a vector. -/
theorem vec_part {E : Env} {h : Heap} {tg : Tag} {i n sz len hh cap : Nat} {b : Option Addr} (e1 : RM1 E h tg .undef (.vec i n sz len) (.slice b len cap)) (c3 : hh ≤ len) :
    RM1 E h tg .undef (.vec i n sz hh) (.slice (if cap = 0 then b else b.map (·.add (0 * sz))) (hh - 0) (cap - 0)) := by
  obtain ⟨r1, r2, r3, b', cap', hv, f2, f3, f4, f5⟩ := e1
  simp only [Value.slice.injEq, true_and] at hv
  obtain ⟨rfl, rfl⟩ := hv
  have eb : (if cap = 0 then b else b.map (·.add (0 * sz))) = b := by
    split
    · rfl
    · cases b with
      | none => rfl
      | some z =>
        have := f4 (by omega) z rfl
        have hz : z = ⟨z.block, z.off, none⟩ := by cases z; simp only at this; subst this; rfl
        rw [Option.map_some, hz, Addr.add_lit, Nat.zero_mul, Nat.add_zero]
  rw [eb]
  exact ⟨r1, r2, r3, b, cap, rfl, by omega, f3, f4, f5⟩

theorem sim_slice {t : TypeId} {y : Operand} {lo hi mx : Option Operand} (hop : o.op = .slice t y lo hi mx) (H : evSlice C o t y lo hi mx st k = some x) (Rl : Rel E st a w.heap) (T : Then E w k x K) : Gp C.P o a w K := by
  unfold evSlice at H
  obtain ⟨r, h1, H⟩ := ob_some H
  obtain ⟨l, h2, H⟩ := ob_some H
  obtain ⟨h, h3, H⟩ := ob_some H
  obtain ⟨m, h4, H⟩ := ob_some H
  obtain ⟨l1, l2⟩ := opt_src h2 Rl
  obtain ⟨k1, k2⟩ := opt_src h3 Rl
  obtain ⟨m1, m2⟩ := opt_src h4 Rl
  have hrun : ∀ v, (Instr.sliceAt t (a.eval y) (lo.map a.eval) (hi.map a.eval) (mx.map a.eval)).run C.P w = .ok v w → (execOp a.eval o).run C.P w = .ok (.value v) w := by
    intro v hv
    simp only [execOp, hop]
    exact run_v hv
  split at H
  · rename_i q hq
    have hm := arrOf_some hq
    have e1 := Rl.src h1
    rw [hm] at e1
    simp only [RR, RM1] at e1
    obtain ⟨e, he, H⟩ := ob_some H
    obtain ⟨z, hz, H⟩ := ob_some H
    obtain ⟨hms, H⟩ := og_some H
    obtain ⟨hh, b1, H⟩ := ob_some H
    obtain ⟨ll, b2, H⟩ := ob_some H
    obtain ⟨⟨c2, c3⟩, H⟩ := ite_some H
    rw [Bool.and_eq_true, beq_iff_eq] at hms
    have hmn : m = none := by cases m; rfl; exact absurd hms.1 (by simp)
    have hu := elemT_some he
    obtain ⟨f0, b, cap, hv, fr⟩ := e1
    rw [hv] at hrun
    refine sim_value (m := .arr q.1 q.2.1 (q.2.2.1 + ll) (hh - ll)) (hrun (.slice (if cap = ll then b else b.map (·.add (ll * q.2.1))) (hh - ll) (cap - ll)) ?_) H Rl (fun _ _ => ?_) @T
    · rw [m2 hmn, hms.2]
      exact slice_at hu hz (run_bnd b1 b2 c2 c3 fr.2.1 l1 l2 k1 k2 w)
    · exact arr_part (h := w.heap) (tg := .other) ⟨f0, b, cap, rfl, fr⟩ c2 c3
  split at H
  · rename_i q hq
    have hm := vecOf_some hq
    have e1 := Rl.src h1
    rw [hm] at e1
    simp only [RR] at e1
    obtain ⟨e, he, H⟩ := ob_some H
    obtain ⟨z, hz, H⟩ := ob_some H
    obtain ⟨hms, H⟩ := og_some H
    obtain ⟨hh, b1, H⟩ := ob_some H
    obtain ⟨c3, H⟩ := ite_some H
    simp only [Bool.and_eq_true, beq_iff_eq] at hms
    have hmn : m = none := by cases m; rfl; exact absurd hms.1.1 (by simp)
    have hln : l = none := by cases l; rfl; exact absurd hms.1.2 (by simp)
    have hu := elemT_some he
    have e0 := e1
    simp only [RM1] at e0
    obtain ⟨-, -, -, b, cap, hv, fc, -⟩ := e0
    rw [hv] at hrun e1
    have b2 : bnd 0 l = some 0 := by rw [hln]; rfl
    refine sim_value (m := .vec q.1 q.2.1 q.2.2.1 hh) (hrun (.slice (if cap = 0 then b else b.map (·.add (0 * q.2.2.1))) (hh - 0) (cap - 0)) ?_) H Rl (fun _ _ => ?_) @T
    · rw [m2 hmn, hms.2]
      exact slice_at hu hz (run_bnd b1 b2 (Nat.zero_le _) c3 fc l1 l2 k1 k2 w)
    · exact vec_part (h := w.heap) (tg := .other) e1 c3
  rename_i hq _
  obtain ⟨hd, H⟩ := og_some H
  have e1 := (Rl.src h1).data hd
  split at H
  · rename_i e hu
    obtain ⟨z, hz, H⟩ := ob_some H
    split at H
    · obtain ⟨d, hd2, H⟩ := ob_some H
      obtain ⟨ds, hh, ll, hr, b1, b2, c2, c3, rfl⟩ := dSlice_some hd2
      rw [hr] at e1
      obtain ⟨b, len, cap, hv, f1, f2, f3⟩ := RV_list e1
      rw [hv] at e1
      refine sim_dat (hrun _ ?_) H Rl (slice_RV (m := cap) e1 c2 c3 (by omega) (Nat.le_refl _)) @T
      rw [hv, m2 rfl]
      exact slice_at hu hz (run_bnd (f1 ▸ b1) b2 c2 (by omega) f2 l1 l2 k1 k2 w)
    · obtain ⟨d, hd2, H⟩ := ob_some H
      obtain ⟨kd, kd', qh, rfl, rfl, hd3⟩ := dSlice3_some hd2
      obtain ⟨ds, hh, ll, hr, b1, b2, c2, c3, rfl⟩ := dSlice_some hd3
      rw [hr] at e1
      obtain ⟨b, len, cap, hv, f1, f2, f3⟩ := RV_list e1
      rw [hv] at e1
      have hb := bnd_some b1
      simp only [reduceCtorEq, false_and, Option.some.injEq, DV.int.injEq, false_or] at hb
      obtain ⟨kd1, q1, ⟨rfl, rfl⟩, hq0, rfl⟩ := hb
      have hR := slice_RV (m := qh.toNat) e1 c2 c3 (Nat.le_refl _) (by omega)
      refine sim_value (m := .full) (hrun _ ?_) H Rl (fun _ _ => ⟨hR, ⟨_, _, rfl⟩, _, _, rfl⟩) @T
      obtain ⟨vh, evh, rvh⟩ := k1 _ rfl
      obtain ⟨vm, evm, rvm⟩ := m1 _ rfl
      rw [RV_int] at rvh rvm
      subst rvh rvm
      rw [hv, evh, evm]
      refine slice_at hu hz ?_
      have A : ∀ (kd : IntKind) (q : Int) (y : Nat) (code : BoundsCode), 0 ≤ q → q.toNat ≤ y → (Instr.sliceBound (.int kd q) y code).run C.P w = .ok q.toNat w := by
        intro kd q y code h0 h4
        unfold Instr.sliceBound
        simp only [asIntOf, pure_bind, Sem.run_ite]
        rw [if_pos ⟨h0, by omega⟩]
        rfl
      unfold Instr.sliceBounds
      rcases bnd_some b2 with ⟨rfl, rfl⟩ | ⟨kd', q', rfl, h0', rfl⟩
      · rw [l2 rfl]
        simp only [Sem.run_bind, Sem.run_pure, Result.andThen_ok, A _ _ _ _ hq0 (by omega : qh.toNat ≤ cap), A _ _ _ _ hq0 (Nat.le_refl _)]
      · obtain ⟨v, evl, hv⟩ := l1 _ rfl
        rw [RV_int] at hv
        subst hv
        rw [evl]
        simp only [Sem.run_bind, Sem.run_pure, Result.andThen_ok, A _ _ _ _ hq0 (by omega : qh.toNat ≤ cap), A _ _ _ _ hq0 (Nat.le_refl _), A _ _ _ _ h0' c2]
    · simp at H
  · rename_i hu
    split at H
    · obtain ⟨d, hd2, H⟩ := ob_some H
      unfold dSliceS at hd2
      split at hd2
      · rename_i s hr
        obtain ⟨hh, b1, hd2⟩ := ob_some hd2
        obtain ⟨ll, b2, hd2⟩ := ob_some hd2
        obtain ⟨⟨c2, c3⟩, hd2⟩ := ite_some hd2
        simp only [Option.some.injEq] at hd2
        subst hd2
        rw [hr, RV_str] at e1
        refine sim_dat (v := .string _) (hrun _ ?_) H Rl (by rw [RV_str]) @T
        rw [e1, m2 rfl]
        unfold Instr.sliceAt
        simp only [Sem.run_bind, run_underlying hu, Result.andThen_ok]
        unfold Instr.slice
        simp only [Sem.run_bind, run_underlying hu, Result.andThen_ok, Option.isSome_none, Bool.false_eq_true, if_false, Sem.run_pure, run_bnd b1 b2 c2 c3 (Nat.le_refl _) l1 l2 k1 k2 w]
      · simp at hd2
    · simp at H
  · simp at H

theorem call_builtin {b : Builtin} {c : Call} (hop : o.op = .call c) (hc : c.callee = .builtin b) {v : Value} {w' : World}
    (h : (builtin b c.argTypes o.type (c.args.map fun | .const _ => true | _ => false) (c.args.map a.eval)).run C.P w = .ok (.value v) w') : (execOp a.eval o).run C.P w = .ok (.value v) w' := by
  simp only [execOp, hop, resolve, hc, Sem.run_bind, Sem.run_pure, Result.andThen_ok, invoke]
  exact h

theorem arr_one {α : Type} {xs : Array α} {y : α} (h : xs.toList = [y]) : xs = #[y] := by
  cases xs; simp at h; subst h; rfl

theorem arr_two {α : Type} {xs : Array α} {y z : α} (h : xs.toList = [y, z]) : xs = #[y, z] := by
  cases xs; simp at h; subst h; rfl

theorem sim_len {c : Call} {y : Operand} {t : TypeId} (hop : o.op = .call c) (hc : c.callee = .builtin .len) (ha : c.args.toList = [y]) (ht : c.argTypes.toList = [t]) (H : evLen C o y t st k = some x)
    (Rl : Rel E st a w.heap) (T : Then E w k x K) : Gp C.P o a w K := by
  unfold evLen at H
  obtain ⟨r, h1, H⟩ := ob_some H
  have e1 := Rl.src h1
  have hrun : ∀ v, (Builtin.len_ #[t] o.type #[a.eval y]).run C.P w = .ok v w → (execOp a.eval o).run C.P w = .ok (.value v) w := by
    intro v hv
    refine call_builtin hop hc ?_
    rw [arr_one ht, show c.args.map a.eval = #[a.eval y] from by rw [arr_one ha]; simp]
    exact run_v hv
  have fin : ∀ {n : Nat}, k (st.put o.dst (.int .i64 n) .val) = some x → (Builtin.len_ #[t] o.type #[a.eval y]).run C.P w = .ok (.int .i64 n) w → Gp C.P o a w K :=
    fun H hv => sim_dat (hrun _ hv) H Rl (by rw [RV_int]) @T
  split at H
  · rename_i e hu
    have dat : og (isData r.2) (ob (dLen r.1) fun d => k (st.put o.dst d .val)) = some x → Gp C.P o a w K := by
      intro H
      obtain ⟨hd, H⟩ := og_some H
      obtain ⟨d, hd2, H⟩ := ob_some H
      obtain ⟨sz, ds, hr, rfl⟩ := dLen_some hd2
      have e2 := e1.data hd
      rw [hr] at e2
      obtain ⟨b, len, cap, hv, f1, -⟩ := RV_list e2
      refine fin H ?_
      rw [hv, f1]
      unfold Builtin.len_
      simp [run_underlying hu, goInt]
    split at H
    · rename_i i sz off len hm
      rw [hm] at e1
      simp only [RR, RM1] at e1
      obtain ⟨hi, b, cap, hv, -⟩ := e1
      refine fin H ?_
      rw [hv]
      unfold Builtin.len_
      simp [run_underlying hu, goInt]
    · rename_i i n sz len hm
      rw [vLen_eq] at H
      rw [hm] at e1
      simp only [RR, RM1] at e1
      obtain ⟨-, -, -, b, cap, hv, -⟩ := e1
      refine fin H ?_
      rw [hv]
      unfold Builtin.len_
      simp [run_underlying hu, goInt]
    · exact dat H
  · rename_i hu
    obtain ⟨hd, H⟩ := og_some H
    obtain ⟨d, hd2, H⟩ := ob_some H
    obtain ⟨s, hr, rfl⟩ := dLenS_some hd2
    have e2 := e1.data hd
    rw [hr, RV_str] at e2
    refine fin H ?_
    rw [e2]
    unfold Builtin.len_
    simp [run_underlying hu, goInt]
  · rename_i kt et hu
    obtain ⟨n, hn, H⟩ := ob_some H
    unfold mapLen at hn
    split at hn
    · rename_i i hm
      obtain ⟨es, hes, hn⟩ := ob_some hn
      simp only [Option.some.injEq] at hn
      subst hn
      rw [hm] at e1
      simp only [RR, RM1] at e1
      have hO : st.sg[i]? = some (.map es.1 es.2) := by
        unfold sgMap at hes
        split at hes
        · simp only [Option.some.injEq] at hes; subst hes; assumption
        · simp at hes
      obtain ⟨ens, clk, g1, g2, g3, -⟩ := Rl.objs i _ hO
      refine fin H ?_
      rw [e1.2, g3.1]
      unfold Builtin.len_
      simp [run_underlying hu, goInt, getObj, Sem.run, g1]
    · rename_i hm
      simp only [Option.some.injEq] at hn
      subst hn
      rw [hm] at e1
      simp only [RR, RM1] at e1
      refine fin H ?_
      rw [e1]
      unfold Builtin.len_
      simp [run_underlying hu, goInt]
    · simp at hn
  · simp at H

end
end Go.Su

/-
  THE DATA MACHINE, part 9: operators, bytes of texts, fields of values, checked addresses, max and min.
-/
namespace Go.Su

theorem dEqB_some {y z : DV} {b : Bool} (h : dEqB y z = some b) : ∃ p q, y = .bool p ∧ z = .bool q ∧ b = (p == q) := by
  unfold dEqB at h
  split at h
  · simp only [Option.some.injEq] at h; exact ⟨_, _, rfl, rfl, h.symm⟩
  · simp at h

theorem dEqA_some {ks : List LK} {y z : DV} {b : Bool} (h : dEqA ks y z = some b) : ∃ p q, y = .agg p ∧ z = .agg q ∧ dEqLeaves ks p q = some b := by
  unfold dEqA at h
  split at h
  · exact ⟨_, _, rfl, rfl, h⟩
  · simp at h

theorem eqOut_some {op : BinOp} {b : Bool} {d : DV} (h : eqOut op b = some d) : (op = .eql ∧ d = .bool b) ∨ (op = .neq ∧ d = .bool !b) := by
  unfold eqOut at h
  split at h <;> simp only [Option.some.injEq, reduceCtorEq] at h <;> subst h
  · exact .inl ⟨rfl, rfl⟩
  · exact .inr ⟨rfl, rfl⟩

theorem dMax_some {y z d : DV} (h : dMax y z = some d) : ∃ k p q, y = .int k p ∧ z = .int k q ∧ d = .int k (if q > p then q else p) := by
  unfold dMax at h
  split at h
  · obtain ⟨hk, h1⟩ := ite_some h
    simp only [Option.some.injEq] at h1
    subst hk
    exact ⟨_, _, _, rfl, rfl, h1.symm⟩
  · simp at h

theorem dMin_some {y z d : DV} (h : dMin y z = some d) : ∃ k p q, y = .int k p ∧ z = .int k q ∧ d = .int k (if q < p then q else p) := by
  unfold dMin at h
  split at h
  · obtain ⟨hk, h1⟩ := ite_some h
    simp only [Option.some.injEq] at h1
    subst hk
    exact ⟨_, _, _, rfl, rfl, h1.symm⟩
  · simp at h

theorem leafK_agg {P : Program} {t : TypeId} {lk : LK} (h : leafK P t = some lk) (w : World) : (isAgg t).run P w = .ok false w := by
  unfold leafK at h
  split at h
  · rename_i hu; unfold isAgg; simp [run_underlying hu]
  · rename_i hu; unfold isAgg; simp [run_underlying hu]
  · rename_i hu; unfold isAgg; simp [run_underlying hu]
  · simp at h

theorem equalIn_leaf {P : Program} {S : Seal} {hp : Heap} {t : TypeId} {lk : LK} {dx dy : DV} {vx vy : Value} {b : Bool} (hk : leafK P t = some lk) (H : dEqK lk dx dy = some b) (hx : RC S hp dx [vx]) (hy : RC S hp dy [vy])
    (n : Nat) (w : World) : (Op.equalIn (n + 1) t vx vy).run P w = .ok b w := by
  unfold dEqK at H
  split at H
  · obtain ⟨hkk, H1⟩ := ite_some H
    simp only [Option.some.injEq] at H1
    subst H1 hkk
    simp only [RC, List.cons.injEq, and_true] at hx hy
    subst hx hy
    unfold leafK at hk
    split at hk <;> simp only [Option.some.injEq, reduceCtorEq] at hk
    rename_i hu
    exact run_equalIn_int w n t _ _ _ _ hu
  · simp only [Option.some.injEq] at H
    subst H
    simp only [RC, List.cons.injEq, and_true] at hx hy
    subst hx hy
    unfold leafK at hk
    split at hk <;> simp only [Option.some.injEq, reduceCtorEq] at hk
    rename_i hu
    exact run_equalIn_bool' w n t _ _ hu
  · simp only [Option.some.injEq] at H
    subst H
    simp only [RC, List.cons.injEq, and_true] at hx hy
    subst hx hy
    unfold leafK at hk
    split at hk <;> simp only [Option.some.injEq, reduceCtorEq] at hk
    rename_i hu
    exact run_equalIn_string w n t _ _ hu
  · simp at H

theorem part_leaf {P : Program} {t : TypeId} {lk : LK} (h : leafK P t = some lk) {cs : Array Value} {off : Nat} {v : Value} (hv : cs[off]? = some v) (w : World) : (part t cs off).run P w = .ok v w := by
  unfold part
  simp [leafK_agg h, hv]

theorem eqFields_flat {P : Program} {S : Seal} {hp : Heap} {n : Nat} {xs ys : Array Value} {ax ay : List DV} (hx : RLs S hp ax xs.toList) (hy : RLs S hp ay ys.toList) : ∀ (fs : List Field) (ks : List LK) (i : Nat) (b : Bool),
    flatKinds P i fs = some ks → dEqLeaves ks (ax.drop i) (ay.drop i) = some b → ∀ w : World, (Op.eqFields (n + 1) xs ys fs).run P w = .ok b w := by
  obtain ⟨lx, hx⟩ := RLs_iff.1 hx
  obtain ⟨ly, hy⟩ := RLs_iff.1 hy
  intro fs
  induction fs with
  | nil =>
    intro ks i b h1 h2 w
    simp only [flatKinds, Option.some.injEq] at h1
    subst h1
    unfold dEqLeaves at h2
    split at h2 <;> simp_all [Op.eqFields]
  | cons f fs ih =>
    intro ks i b h1 h2 w
    simp only [flatKinds] at h1
    obtain ⟨hc, h1⟩ := ite_some h1
    obtain ⟨lk, hk, h1⟩ := ob_some h1
    obtain ⟨ks', hks, h1⟩ := ob_some h1
    simp only [Option.some.injEq] at h1
    subst h1
    simp only [Bool.and_eq_true, bne_iff_ne, ne_eq, beq_iff_eq] at hc
    -- the two cells
    cases hax : ax.drop i with
    | nil => rw [hax] at h2; simp [dEqLeaves] at h2
    | cons dx rx =>
      cases hay : ay.drop i with
      | nil => rw [hax, hay] at h2; simp [dEqLeaves] at h2
      | cons dy ry =>
        rw [hax, hay] at h2
        simp only [dEqLeaves] at h2
        obtain ⟨q, hq, h2⟩ := ob_some h2
        have hax' : ax[i]? = some dx := by have := congrArg (fun l : List DV => l[0]?) hax; simpa using this
        have hay' : ay[i]? = some dy := by have := congrArg (fun l : List DV => l[0]?) hay; simpa using this
        have hi1 : i < xs.toList.length := by have := (List.getElem?_eq_some_iff.1 hax').1; omega
        have hi2 : i < ys.toList.length := by have := (List.getElem?_eq_some_iff.1 hay').1; omega
        have hvx : xs.toList[i]? = some xs.toList[i] := List.getElem?_eq_getElem hi1
        have hvy : ys.toList[i]? = some ys.toList[i] := List.getElem?_eq_getElem hi2
        have rx' : rx = ax.drop (i + 1) := by rw [← List.tail_drop, hax]; rfl
        have ry' : ry = ay.drop (i + 1) := by rw [← List.tail_drop, hay]; rfl
        have e1 : (part f.type xs f.offset).run P w = .ok xs.toList[i] w := part_leaf hk (by rw [hc.2]; simp) w
        have e2 : (part f.type ys f.offset).run P w = .ok ys.toList[i] w := part_leaf hk (by rw [hc.2]; simp) w
        have e3 := equalIn_leaf (P := P) hk hq (hx i dx _ hax' hvx).2 (hy i dy _ hay' hvy).2 n w
        simp only [Op.eqFields, Sem.run_ite]
        rw [if_pos hc.1]
        simp only [Sem.run_bind, e1, e2, e3, Result.andThen_ok, Sem.run_ite]
        cases q with
        | false => simp only [Bool.false_eq_true, if_false, Option.some.injEq] at h2; subst h2; simp
        | true =>
          simp only [if_true] at h2
          rw [rx', ry'] at h2
          simpa using ih ks' (i + 1) b hks h2 w

section
variable {X : Type} {C : Cfg} {R : Orc} {o : Oper} {st : St} {k : St → Option X} {x : X} {E : Env} {a : Act} {w : World} {K : Act → World → Prop} {Q : Exit → Act → World → Prop}

theorem eq_nil_ptr {P : Program} {t e : TypeId} (hu : P.underlying t = some (.pointer e)) (n : Nat) (b : Option Addr) (w : World) : (Op.equalIn (n + 1) t (.pointer none) (.pointer b)).run P w = .ok b.isNone w := by
  simp [Op.equalIn, run_underlying hu]

theorem eq_ptr_nil {P : Program} {t e : TypeId} (hu : P.underlying t = some (.pointer e)) (n : Nat) (b : Addr) (w : World) : (Op.equalIn (n + 1) t (.pointer (some b)) (.pointer none)).run P w = .ok false w := by
  simp [Op.equalIn, run_underlying hu]

theorem ptrNil_ok {E : Env} {h : Heap} {k a : Nat} {r : DV × Meta} {v : Value} {b : Bool} (H : ptrNil r = some b) (R : RR E h k a r.1 r.2 v) : ∃ p : Option Addr, v = .pointer p ∧ p.isNone = b := by
  obtain ⟨d, m⟩ := r
  unfold ptrNil at H
  simp only at H R
  split at H
  · simp only [Option.some.injEq] at H
    subst H
    obtain ⟨-, rfl⟩ := (R : _ ∧ _)
    exact ⟨none, rfl, rfl⟩
  · simp only [Option.some.injEq] at H
    subst H
    obtain ⟨-, rfl⟩ := (R : _ ∧ _)
    exact ⟨_, rfl, rfl⟩
  · split at H <;> simp only [Option.some.injEq, reduceCtorEq] at H <;> subst H
    · exact ⟨none, by simpa only [RR, RM1, RV] using R, rfl⟩
    · simp only [RR, RM1, RV, RC] at R
      obtain ⟨b, o, hv, -⟩ := R
      simp only [List.cons.injEq, and_true] at hv
      exact ⟨_, hv, rfl⟩
  · cases H

theorem eqNil_ok {P : Program} {t e : TypeId} (hu : P.underlying t = some (.pointer e)) {E : Env} {h : Heap} {k a k' a' : Nat} {r s : DV × Meta} {u v : Value} {b : Bool} {n : Nat} (w : World) (H : eqNil r s = some b) (R : RR E h k a r.1 r.2 u) (S : RR E h k' a' s.1 s.2 v) :
    ∃ p q, u = .pointer p ∧ v = .pointer q ∧ (Op.equalIn (n + 1) t u v).run P w = .ok b w := by
  unfold eqNil at H
  split at H <;> simp only [Option.some.injEq, reduceCtorEq] at H <;> subst H <;> rename_i h1 h2
  · obtain ⟨p, rfl, hp⟩ := ptrNil_ok h1 R
    obtain ⟨q, rfl, hq⟩ := ptrNil_ok h2 S
    simp only [Option.isNone_iff_eq_none] at hp
    subst hp hq
    exact ⟨_, _, rfl, rfl, eq_nil_ptr hu _ _ w⟩
  · obtain ⟨p, rfl, hp⟩ := ptrNil_ok h1 R
    obtain ⟨q, rfl, hq⟩ := ptrNil_ok h2 S
    simp only [Option.isNone_iff_eq_none] at hq
    subst hq
    cases p with
    | none => cases hp
    | some p => exact ⟨_, _, rfl, rfl, eq_ptr_nil hu _ _ w⟩

theorem eq_nil_map {P : Program} {t e e' : TypeId} (hu : P.underlying t = some (.map e e')) (n : Nat) (b : Option Nat) (w : World) : (Op.equalIn (n + 1) t (.map none) (.map b)).run P w = .ok b.isNone w := by
  simp [Op.equalIn, run_underlying hu]

theorem eq_map_nil {P : Program} {t e e' : TypeId} (hu : P.underlying t = some (.map e e')) (n : Nat) (b : Nat) (w : World) : (Op.equalIn (n + 1) t (.map (some b)) (.map none)).run P w = .ok false w := by
  simp [Op.equalIn, run_underlying hu]

theorem sim_eqOut {op : BinOp} {t : TypeId} {y z : Operand} {yt : TypeId} {b : Bool} {d : DV} (hop : o.op = .binOp op t y z yt) (he : eqOut op b = some d) (hg : (eqGuard op t y z (a.eval y) (a.eval z)).run C.P w = .ok () w)
    (hq : (Op.equal t (a.eval y) (a.eval z)).run C.P w = .ok b w)
    (hb : ∀ op', binOp op' t (a.eval y) (a.eval z) = (match op' with | .eql => (do pure (.bool (← Op.equal t (a.eval y) (a.eval z)))) | .neq => (do pure (.bool (!(← Op.equal t (a.eval y) (a.eval z))))) | _ => binOp op' t (a.eval y) (a.eval z)))
    (H : k (st.put o.dst d .val) = some x) (Rl : Rel E st a w.heap) (T : Then E w k x K) : Gp C.P o a w K := by
  rcases eqOut_some he with ⟨rfl, rfl⟩ | ⟨rfl, rfl⟩
  · refine sim_dat (v := .bool b) ?_ H Rl (by rw [RV_bool]) @T
    simp only [execOp, hop]
    refine run_v ?_
    rw [hb]
    simp [hg, hq]
  · refine sim_dat (v := .bool !b) ?_ H Rl (by rw [RV_bool]) @T
    simp only [execOp, hop]
    refine run_v ?_
    rw [hb]
    simp [hg, hq]

theorem sim_bin {op : BinOp} {t : TypeId} {y z : Operand} {yt : TypeId} (hop : o.op = .binOp op t y z yt) (H : evBin C o op t y z st k = some x) (Rl : Rel E st a w.heap) (T : Then E w k x K) : Gp C.P o a w K := by
  unfold evBin at H
  obtain ⟨r, h1, H⟩ := ob_some H
  obtain ⟨s, h2, H⟩ := ob_some H
  have e1 := Rl.src h1
  have e2 := Rl.src h2
  split at H
  · obtain ⟨hc, H⟩ := og_some H
    obtain ⟨d, hd, H⟩ := ob_some H
    simp only [Bool.and_eq_true] at hc
    obtain ⟨v, hv, hR⟩ := run_dBin (P := C.P) (t := t) (x := y) (y := z) hd (e1.data hc.1) (e2.data hc.2) w
    refine sim_dat (v := v) ?_ H Rl hR @T
    simp only [execOp, hop]
    exact run_v hv
  · rename_i hbk
    have hu : C.P.underlying t = some .bool := by
      unfold binKind at hbk
      split at hbk <;> first | assumption | (simp at hbk; done) | (split at hbk <;> simp at hbk)
    obtain ⟨hc, H⟩ := og_some H
    obtain ⟨b, hb, H⟩ := ob_some H
    obtain ⟨d, hd, H⟩ := ob_some H
    simp only [Bool.and_eq_true] at hc
    obtain ⟨p, q, hp, hq, hpq⟩ := dEqB_some hb
    have f1 := e1.data hc.1
    have f2 := e2.data hc.2
    rw [hp, RV_bool] at f1
    rw [hq, RV_bool] at f2
    refine sim_eqOut hop hd ?_ ?_ ?_ H Rl @T
    · rw [f1, eqGuard_at_bool]; rfl
    · rw [f1, f2, hpq]; exact run_equalIn_bool' w _ t p q hu
    · intro op'; rw [f1, f2]; cases op' <;> rfl
  · rename_i ks hbk
    have hu : ∃ fs, C.P.underlying t = some (.struct fs) ∧ flatKinds C.P 0 fs.toList = some ks ∧ C.P.stoodInHeld t = false ∧ C.P.eqGuardType C.P.depth t = false := by
      unfold binKind at hbk
      split at hbk <;> first | (simp at hbk; done) | skip
      rename_i fs hfs
      split at hbk <;> first | (simp at hbk; done) | skip
      rename_i ks' g1 g2 g3
      simp only [BinKind.flat.injEq] at hbk
      subst hbk
      exact ⟨fs, hfs, g1, g2, g3⟩
    obtain ⟨fs, hu, hfl, hst, hgt⟩ := hu
    obtain ⟨hc, H⟩ := og_some H
    obtain ⟨b, hb, H⟩ := ob_some H
    obtain ⟨d, hd, H⟩ := ob_some H
    simp only [Bool.and_eq_true] at hc
    obtain ⟨p, q, hp, hq, hbb⟩ := dEqA_some hb
    have f1 := e1.data hc.1
    have f2 := e2.data hc.2
    rw [hp] at f1
    rw [hq] at f2
    simp only [RV] at f1 f2
    obtain ⟨vs, hvs, rvs⟩ := f1
    obtain ⟨us, hus, rus⟩ := f2
    refine sim_eqOut hop hd ?_ ?_ ?_ H Rl @T
    · rw [hvs, hus]; exact run_eqGuard_agg w op t y z vs us hgt
    · rw [hvs, hus]
      show (Op.equalIn 10000 t _ _).run C.P w = _
      have hfs : C.P.fieldsOf t = fs := by unfold Program.fieldsOf; rw [hu]
      rw [run_equalIn_struct w 9999 t vs us (by rw [hfs]; exact hu) hst, hfs]
      exact eqFields_flat rvs rus fs.toList ks 0 b hfl hbb w
    · intro op'; rw [hvs, hus]; cases op' <;> rfl
  · rename_i hbk
    have hu : ∃ e, C.P.underlying t = some (.pointer e) := by
      unfold binKind at hbk
      split at hbk <;> first | exact ⟨_, by assumption⟩ | (simp at hbk; done) | (split at hbk <;> simp at hbk)
    obtain ⟨et, hu⟩ := hu
    obtain ⟨b, hb, H⟩ := ob_some H
    obtain ⟨d, hd, H⟩ := ob_some H
    have key : ∃ p q, a.eval y = .pointer p ∧ a.eval z = .pointer q ∧ (Op.equal t (a.eval y) (a.eval z)).run C.P w = .ok b w := by
      exact eqNil_ok hu w hb e1 e2
    obtain ⟨p, q, hp, hq, he⟩ := key
    refine sim_eqOut hop hd ?_ he ?_ H Rl @T
    · rw [hp, eqGuard_at_pointer]; rfl
    · intro op'
      rcases eqOut_some hd with ⟨rfl, -⟩ | ⟨rfl, -⟩ <;> rw [hp, hq] <;> cases op' <;> first | rfl | skip
  · rename_i hbk
    have hu : ∃ e e', C.P.underlying t = some (.map e e') := by
      unfold binKind at hbk
      split at hbk <;> first | exact ⟨_, _, by assumption⟩ | (simp at hbk; done) | (split at hbk <;> simp at hbk)
    obtain ⟨et, et', hu⟩ := hu
    obtain ⟨b, hb, H⟩ := ob_some H
    obtain ⟨d, hd, H⟩ := ob_some H
    have key : ∃ p q, a.eval y = .map p ∧ a.eval z = .map q ∧ (Op.equal t (a.eval y) (a.eval z)).run C.P w = .ok b w := by
      revert hb e1 e2
      unfold metaEqNilM
      split <;> intro e1 e2 hb <;> simp only [Option.some.injEq, reduceCtorEq] at hb <;> subst hb <;> rename_i hm hn <;> rw [hm] at e1 <;> rw [hn] at e2 <;> simp only [RR, RM1] at e1 e2
      · refine ⟨_, _, e1, e2, ?_⟩
        rw [e1, e2]; exact eq_nil_map hu _ _ w
      · refine ⟨_, _, e1, e2.2, ?_⟩
        rw [e1, e2.2]; exact eq_nil_map hu _ _ w
      · refine ⟨_, _, e1.2, e2, ?_⟩
        rw [e1.2, e2]; exact eq_map_nil hu _ _ w
    obtain ⟨p, q, hp, hq, he⟩ := key
    refine sim_eqOut hop hd ?_ he ?_ H Rl @T
    · rw [hp, eqGuard_at_map]; rfl
    · intro op'; rw [hp, hq]; cases op' <;> rfl
  · simp at H

end
end Go.Su

/-
  THE DATA MACHINE, part 10: bytes of texts, fields of values, checked addresses, max and min; addresses read.
-/
namespace Go.Su

section
variable {X : Type} {C : Cfg} {R : Orc} {o : Oper} {st : St} {k : St → Option X} {x : X} {E : Env} {a : Act} {w : World} {K : Act → World → Prop} {Q : Exit → Act → World → Prop}

theorem sim_index {t : TypeId} {y i : Operand} (hop : o.op = .index t y i)
    (H : (ob (src C.P t st y) fun r => ob (src C.P 0 st i) fun j => match C.P.underlying t with
      | some .string => og (isData r.2 && isData j.2) (ob (dStrIdx r.1 j.1) fun d => k (st.put o.dst d .val))
      | _ => none) = some x) (Rl : Rel E st a w.heap) (T : Then E w k x K) : Gp C.P o a w K := by
  obtain ⟨r, h1, H⟩ := ob_some H
  obtain ⟨j, h2, H⟩ := ob_some H
  split at H
  · rename_i hu
    obtain ⟨hc, H⟩ := og_some H
    obtain ⟨d, hd, H⟩ := ob_some H
    simp only [Bool.and_eq_true] at hc
    have e1 := (Rl.src h1).data hc.1
    have e2 := (Rl.src h2).data hc.2
    obtain ⟨s, kd, n, b, hr, hj, h0, hb, hdd⟩ := dStrIdx_some hd
    rw [hr, RV_str] at e1
    rw [hj, RV_int] at e2
    rw [hdd] at H
    refine sim_dat (v := .int .u8 b.toNat) ?_ H Rl (by rw [RV_int]) @T
    simp only [execOp, hop]
    refine run_v ?_
    have hs : s[n.toNat]? = some b := by
      have hlt : n.toNat < s.data.size := (Array.getElem?_eq_some_iff.1 hb).1
      have hv : s.data[n.toNat] = b := (Array.getElem?_eq_some_iff.1 hb).2
      rw [getElem?_pos s n.toNat hlt]
      exact congrArg some hv
    unfold Instr.index
    simp only [e1, e2, asIntOf, Sem.run_bind, Sem.run_pure, Result.andThen_ok, run_underlying hu, h0, if_true, hs]
  · simp at H

theorem part_run {P : Program} {t : TypeId} {z : Nat × Bool} (hz : tz P t = some z) {cs : Array Value} {off : Nat} (h : off + z.1 ≤ cs.size) (w : World) :
    ∃ v, (part t cs off).run P w = .ok v w ∧ (z.2 = true → v = .agg (cs.extract off (off + z.1))) ∧ (z.2 = false → cs[off]? = some v) := by
  unfold part
  simp only [Sem.run_bind, tz_isAgg hz, Result.andThen_ok, Sem.run_ite]
  by_cases h2 : z.2 = true
  · rw [if_pos h2]
    refine ⟨_, by simp only [tz_sizeOf hz, Result.andThen_ok, Sem.run_pure], fun _ => rfl, fun h3 => ?_⟩
    rw [h2] at h3
    cases h3
  · rw [if_neg h2]
    have hz1 : z.1 = 1 := by
      obtain ⟨i, d, -, -, -, h4⟩ := tz_some hz
      exact h4 (by simpa using h2)
    have hlt : off < cs.size := by omega
    have hg : cs[off]? = some cs[off] := Array.getElem?_eq_getElem hlt
    exact ⟨cs[off], by simp [hg], fun h3 => absurd h3 h2, fun _ => hg⟩

/-- A run of cells of an aggregate. -/
theorem RLs_cells {S : Seal} {h : Heap} {d : DV} {vs : List Value} (H : RC S h d vs) {off n : Nat} (hn : off + n ≤ vs.length) : RLs S h (cells n off d) ((vs.drop off).take n) := by
  refine RLs_iff.2 ⟨by simp only [cells, List.length_map, List.length_range, List.length_take, List.length_drop]; omega, fun i d' v hd hv => ?_⟩
  have hi : i < n := by have := (List.getElem?_eq_some_iff.1 hd).1; simpa [cells] using this
  simp only [cells, List.getElem?_map, List.getElem?_range hi, Option.map_some, Option.some.injEq] at hd
  subst hd
  rw [List.getElem?_take_of_lt hi, List.getElem?_drop] at hv
  exact RC_proj H hv

theorem RV_agg_RC {S : Seal} {h : Heap} {n : Nat} {d : DV} {v : Value} (hg : isAggN n d = true) (H : RV S h d v) : ∃ vs, v = .agg vs ∧ vs.size = n ∧ RC S h d vs.toList := by
  cases d <;> simp only [isAggN] at hg <;> try contradiction
  rename_i cs
  simp only [RV] at H
  obtain ⟨vs, rfl, H⟩ := H
  refine ⟨vs, rfl, ?_, by simp only [RC]; exact H⟩
  have := (RLs_iff.1 H).1
  simp only [beq_iff_eq] at hg
  simp at this
  omega

theorem sim_field {t : TypeId} {y : Operand} {f : Nat} (hop : o.op = .field t y f)
    (H : (ob (src C.P t st y) fun r => ob (fieldOf C.P t f) fun fd => ob (tz C.P fd.type) fun z => ob (tz C.P t) fun zt =>
      og (isData r.2 && isAggN zt.1 r.1)
        (if fd.offset + z.1 ≤ zt.1 then
          if z.2 then k (st.put o.dst (.agg (cells z.1 fd.offset r.1)) .val) else k (st.put o.dst (proj fd.offset r.1) .val)
        else none)) = some x) (Rl : Rel E st a w.heap) (T : Then E w k x K) : Gp C.P o a w K := by
  obtain ⟨r, h1, H⟩ := ob_some H
  obtain ⟨fd, h2, H⟩ := ob_some H
  obtain ⟨z, h3, H⟩ := ob_some H
  obtain ⟨zt, h4, H⟩ := ob_some H
  obtain ⟨hc, H⟩ := og_some H
  obtain ⟨hle, H⟩ := ite_some H
  simp only [Bool.and_eq_true] at hc
  obtain ⟨vs, hv, hsz, hR⟩ := RV_agg_RC hc.2 ((Rl.src h1).data hc.1)
  have hu : ∃ fs, C.P.underlying t = some (.struct fs) ∧ fs[f]? = some fd := by
    unfold fieldOf at h2
    split at h2
    · exact ⟨_, ‹_›, h2⟩
    · simp at h2
  obtain ⟨fs, hu, hf⟩ := hu
  obtain ⟨v, p1, p2, p3⟩ := part_run h3 (cs := vs) (off := fd.offset) (by omega) w
  have hrun : (execOp a.eval o).run C.P w = .ok (.value v) w := by
    simp only [execOp, hop]
    refine run_v ?_
    unfold Instr.field
    simp only [Sem.run_bind, run_underlying hu, Result.andThen_ok, hf, hv, asAgg, Sem.run_pure, p1]
  by_cases hz : z.2 = true
  · rw [if_pos hz] at H
    refine sim_dat hrun H Rl ?_ @T
    rw [p2 hz]
    simp only [RV]
    refine ⟨_, rfl, ?_⟩
    have := RLs_cells hR (off := fd.offset) (n := z.1) (by simpa using by omega)
    simpa [Array.toList_extract, List.extract_eq_take_drop] using this
  · rw [if_neg hz] at H
    have hl := p3 (by simpa using hz)
    obtain ⟨q1, q2⟩ := RC_proj hR (j := fd.offset) (v := v) (by simpa using hl)
    exact sim_dat hrun H Rl (RV_of_RC q1 q2) @T

theorem sim_max {c : Call} {y z : Operand} {t u : TypeId} (hop : o.op = .call c) (hc : c.callee = .builtin .max) (ha : c.args.toList = [y, z])
    (H : (ob (src C.P t st y) fun r => ob (src C.P u st z) fun s => og (isData r.2 && isData s.2) (ob (dMax r.1 s.1) fun d => k (st.put o.dst d .val))) = some x)
    (Rl : Rel E st a w.heap) (T : Then E w k x K) : Gp C.P o a w K := by
  obtain ⟨r, h1, H⟩ := ob_some H
  obtain ⟨s, h2, H⟩ := ob_some H
  obtain ⟨hcc, H⟩ := og_some H
  obtain ⟨d, hd, H⟩ := ob_some H
  simp only [Bool.and_eq_true] at hcc
  obtain ⟨kd, p, q, hr, hs, hdd⟩ := dMax_some hd
  have e1 := (Rl.src h1).data hcc.1
  have e2 := (Rl.src h2).data hcc.2
  rw [hr, RV_int] at e1
  rw [hs, RV_int] at e2
  rw [hdd] at H
  refine sim_dat (v := .int kd (if q > p then q else p)) ?_ H Rl (by rw [RV_int]) @T
  refine call_builtin hop hc ?_
  rw [show c.args.map a.eval = #[a.eval y, a.eval z] from by rw [arr_two ha]; simp]
  refine run_v ?_
  rw [e1, e2]
  simp [Builtin.max_, Builtin.max2]

theorem sim_min {c : Call} {y z : Operand} {t u : TypeId} (hop : o.op = .call c) (hc : c.callee = .builtin .min) (ha : c.args.toList = [y, z])
    (H : (ob (src C.P t st y) fun r => ob (src C.P u st z) fun s => og (isData r.2 && isData s.2) (ob (dMin r.1 s.1) fun d => k (st.put o.dst d .val))) = some x)
    (Rl : Rel E st a w.heap) (T : Then E w k x K) : Gp C.P o a w K := by
  obtain ⟨r, h1, H⟩ := ob_some H
  obtain ⟨s, h2, H⟩ := ob_some H
  obtain ⟨hcc, H⟩ := og_some H
  obtain ⟨d, hd, H⟩ := ob_some H
  simp only [Bool.and_eq_true] at hcc
  obtain ⟨kd, p, q, hr, hs, hdd⟩ := dMin_some hd
  have e1 := (Rl.src h1).data hcc.1
  have e2 := (Rl.src h2).data hcc.2
  rw [hr, RV_int] at e1
  rw [hs, RV_int] at e2
  rw [hdd] at H
  refine sim_dat (v := .int kd (if q < p then q else p)) ?_ H Rl (by rw [RV_int]) @T
  refine call_builtin hop hc ?_
  rw [show c.args.map a.eval = #[a.eval y, a.eval z] from by rw [arr_two ha]; simp]
  refine run_v ?_
  rw [e1, e2]
  simp [Builtin.min_, Builtin.min2]

theorem dRef_ok {S : Seal} {h : Heap} {sz : Nat} {d e : DV} {v : Value} (H : dRef sz d = some e) (R : RV S h d v) : ∃ b o, v = .pointer (some ⟨b, o, none⟩) ∧ Elem S h sz b o e := by
  unfold dRef at H
  split at H
  · rename_i sz' d'
    split at H
    · rename_i hs
      simp only [Option.some.injEq] at H
      subst H hs
      simp only [RV, RC] at R
      obtain ⟨b, o, hv, us, h1, h2, h3⟩ := R
      simp only [List.cons.injEq, and_true] at hv
      exact ⟨b, o, hv, us, h1, h2, h3⟩
    · cases H
  · cases H

theorem sim_nilCheck {fl : Flags} {y : Operand} (hop : o.op = .nilCheck y)
    (H : (ob (src C.P 0 st y) fun r => match r.2 with
      | .loc s o' => k (st.put o.dst .undef (.loc s o'))
      | .rop ag sz o' => k (st.put o.dst r.1 (.rop ag sz o'))
      | .ptr i o' => k (st.put o.dst .undef (.ptr i o'))
      | .ept i sz j o' => k (st.put o.dst .undef (.ept i sz j o'))
      | .opt i sz j => k (st.put o.dst .undef (.opt i sz j))
      | .fn f cs => k (st.put o.dst .undef (.fn f cs))
      | .val => ob (o.dst.bind fun t => fl.refs.find? (·.1 == t)) fun q => ob (dRef q.2 r.1) fun d => k (st.put o.dst d (.rop true q.2 0))
      | _ => none) = some x) (Rl : Rel E st a w.heap) (T : Then E w k x K) : Gp C.P o a w K := by
  obtain ⟨r, h1, H⟩ := ob_some H
  have e1 := Rl.src h1
  have hp : ∀ b, a.eval y = .pointer (some b) → (execOp a.eval o).run C.P w = .ok (.value (.pointer (some b))) w := by
    intro b hb
    simp only [execOp, hop, hb, Sem.run_pure]
  have hf : ∀ f c d, a.eval y = .func (.func f) c d → (execOp a.eval o).run C.P w = .ok (.value (.func (.func f) c d)) w := by
    intro f c d hb
    simp only [execOp, hop, hb, Sem.run_pure]
  revert e1 H
  cases hm : r.2 <;> intro H e1 <;> simp only [reduceCtorEq] at H <;> simp only [RR, RM1] at e1
  case val =>
    obtain ⟨q, -, H⟩ := ob_some H
    obtain ⟨d, hd, H⟩ := ob_some H
    obtain ⟨b, o0, r1, r2⟩ := dRef_ok hd e1
    exact sim_value (hp _ r1) H Rl (fun _ _ => ⟨b, o0, rfl, r2, fun h => by cases h⟩) @T
  case loc s off => exact sim_value (hp _ e1.2) H Rl (fun _ _ => ⟨rfl, rfl⟩) @T
  case rop ag sz off =>
    obtain ⟨b, o0, r1, r2, r3⟩ := e1
    exact sim_value (hp _ r1) H Rl (fun _ _ => ⟨b, o0, rfl, r2, r3⟩) @T
  case ptr i off => exact sim_value (hp _ e1.2) H Rl (fun _ _ => ⟨e1.1, rfl⟩) @T
  case ept i sz idx off => exact sim_value (hp _ e1.2) H Rl (fun _ _ => ⟨e1.1, rfl⟩) @T
  case opt i sz idx => exact sim_value (hp _ e1.2) H Rl (fun _ _ => ⟨e1.1, rfl⟩) @T
  case fn f cs => exact sim_value (hf _ _ _ e1.1) H Rl (fun _ _ => ⟨rfl, e1.2⟩) @T

theorem run_loadVar {P : Program} {t : TypeId} {z : Nat × Bool} (hz : tz P t = some z) {b off : Nat} {vs : List Value} (hl : vs.length = z.1) (hc : ∀ (j : Nat) v, vs[j]? = some v → hc w.heap b (off + j) = some v) :
    ∃ v, (loadVar t ⟨b, off, none⟩).run P w = .ok v w ∧ (z.2 = true → v = .agg vs.toArray) ∧ (z.2 = false → vs = [v]) := by
  unfold loadVar
  simp only [Sem.run_bind, tz_isAgg hz, Result.andThen_ok, Sem.run_ite]
  by_cases h2 : z.2 = true
  · rw [if_pos h2]
    have h3 : (loadCells ⟨b, off, none⟩ z.1).run P w = .ok vs.toArray w := by
      rw [← hl]
      refine run_loadCells_list w _ vs fun j v hv => ?_
      rw [Addr.add_lit, cell_hc]
      exact hc j v hv
    refine ⟨_, by simp only [tz_sizeOf hz, h3, Result.andThen_ok, Sem.run_pure], fun _ => rfl, fun h4 => ?_⟩
    rw [h2] at h4
    cases h4
  · rw [if_neg h2]
    have hz1 : z.1 = 1 := by
      obtain ⟨i, d, -, -, -, h4⟩ := tz_some hz
      exact h4 (by simpa using h2)
    match vs, hl.trans hz1 with
    | [v], _ =>
      have h5 := hc 0 v rfl
      refine ⟨v, ?_, fun h3 => absurd h3 h2, fun _ => rfl⟩
      rw [run_load, cell_hc]
      simp only [Nat.add_zero] at h5
      rw [h5]

theorem run_loadOp {P : Program} {t : TypeId} {y : Operand} (hop : o.op = .load t y) {b off : Nat} {v : Value} (he : a.eval y = .pointer (some ⟨b, off, none⟩)) (h : (loadVar t ⟨b, off, none⟩).run P w = .ok v w) :
    (execOp a.eval o).run P w = .ok (.value v) w := by
  simp only [execOp, hop]
  refine run_v ?_
  simp only [Instr.loadAt, he, Instr.sureAddr, Sem.run_bind, Sem.run_pure, Result.andThen_ok, h]

end
end Go.Su

/-
  THE DATA MACHINE, part 11: memory read.
-/
namespace Go.Su

theorem RBox_read {E : Env} {h : Heap} {tg : Tag} {k a b : Nat} {cs : List (DV × Meta)} (B : RBox E h tg k a b cs) {off n : Nat} (hn : off + n ≤ cs.length) :
    ∃ vs : List Value, vs.length = n ∧ (∀ (j : Nat) v, vs[j]? = some v → hc h b (off + j) = some v) ∧
      ∀ (j : Nat) v r, vs[j]? = some v → cs[off + j]? = some r → isLeaf r.1 = true ∧ v.oneCell' = true ∧ mayLie r.2 = true ∧ RM1 E h (.sp k a (off + j)) r.1 r.2 v := by
  obtain ⟨c, T, h1, h2, h3, h4⟩ := B
  have e : ∀ (j : Nat) v, ((c.toList.drop off).take n)[j]? = some v → c[off + j]? = some v := by
    intro j v hv
    have hj : j < n := by have := (List.getElem?_eq_some_iff.1 hv).1; simp only [List.length_take, List.length_drop] at this; omega
    rw [List.getElem?_take_of_lt hj, List.getElem?_drop] at hv
    simpa using hv
  refine ⟨(c.toList.drop off).take n, by simp only [List.length_take, List.length_drop, Array.length_toList]; omega, fun j v hv => ?_, fun j v r hv hr => h4 (off + j) r v hr (e j v hv)⟩
  unfold hc
  rw [h1]
  exact e j v hv

theorem mayLie_dm {m : Meta} (h : mayLie m = true) : dm m = dm1 m ∧ mayLie (dm m) = true ∧ dm m ≠ .own := by
  cases m <;> simp_all [mayLie, dm, dm1]

theorem RM1.mayLie_dm {E : Env} {h : Heap} {tg tg' : Tag} {d : DV} {m : Meta} {v : Value} (hm : mayLie m = true) (R : RM1 E h tg d m v) : RM1 E h tg' d (dm m) v := by
  rw [(Su.mayLie_dm hm).1]
  exact R.dm1

/-- A slice that ends where its memory does owns what lies behind: nothing. -/
theorem RM1.full_own {E : Env} {h : Heap} {tg tg' : Tag} {d : DV} {v : Value} (R : RM1 E h tg d .full v) : RM1 E h tg' d .own v := by
  simp only [RM1] at R ⊢
  obtain ⟨r1, ⟨p, n, rfl⟩, sz, ds, r2⟩ := R
  refine ⟨r1, sz, ds, r2, fun x len cap hv hlt => ?_⟩
  simp only [Value.slice.injEq] at hv
  omega

section
variable {X : Type} {C : Cfg} {R : Orc} {o : Oper} {st : St} {k : St → Option X} {x : X} {E : Env} {a : Act} {w : World} {K : Act → World → Prop} {Q : Exit → Act → World → Prop}

theorem aggOf_RR {cs : List (DV × Meta)} {vs : List Value} (hl : vs.length = cs.length) (H : ∀ (j : Nat) v r, vs[j]? = some v → cs[j]? = some r → isLeaf r.1 = true ∧ v.oneCell' = true ∧ mayLie r.2 = true ∧ ∃ tg, RM1 E w.heap tg r.1 r.2 v) (p q : Nat) :
    RR E w.heap p q (aggOf cs).1 (aggOf cs).2 (.agg vs.toArray) := by
  simp only [aggOf, RR]
  refine ⟨_, _, rfl, rfl, by simp, by simp [hl], fun i m d v h1 h2 h3 => ?_⟩
  simp only [List.getElem?_map, Option.map_eq_some_iff] at h1 h2
  obtain ⟨r, hr, rfl⟩ := h1
  obtain ⟨r', hr', rfl⟩ := h2
  rw [hr] at hr'
  simp only [Option.some.injEq] at hr'
  subst hr'
  obtain ⟨a1, a2, a3, tg, a4⟩ := H i v r (by simpa using h3) hr
  exact ⟨a1, a2, (Su.mayLie_dm a3).2.1, a4.mayLie_dm a3⟩

theorem hideCell_ok {r : DV × Meta} {v : Value} {tg : Tag} (h1 : isLeaf r.1 = true) (h2 : v.oneCell' = true) (h3 : mayLie r.2 = true) (h4 : RM1 E w.heap tg r.1 r.2 v) :
    isLeaf (hideCell r).1 = true ∧ v.oneCell' = true ∧ mayLie (hideCell r).2 = true ∧ ∃ tg, RM1 E w.heap tg (hideCell r).1 (hideCell r).2 v := by
  unfold hideCell
  split
  · exact ⟨rfl, h2, rfl, tg, by simp only [RM1, RV]⟩
  · exact ⟨h1, h2, h3, tg, h4⟩

/-- The data of the cells of a shared variable. -/
theorem cellDat_some {cs : List (DV × Meta)} {off : Nat} {d : DV} (h : cellDat cs off = some d) : ∃ m, cs[off]? = some (d, m) ∧ (m = .val ∨ m = .full ∨ m = .own ∨ m = .nilp) := by
  unfold cellDat at h
  split at h <;> simp only [Option.some.injEq, reduceCtorEq] at h <;> subst h
  · exact ⟨_, ‹_›, .inl rfl⟩
  · exact ⟨_, ‹_›, .inr (.inl rfl)⟩
  · exact ⟨_, ‹_›, .inr (.inr (.inl rfl))⟩
  · exact ⟨_, ‹_›, .inr (.inr (.inr rfl))⟩

theorem RM1_dat {E : Env} {h : Heap} {tg : Tag} {d : DV} {m : Meta} {v : Value} (hm : m = .val ∨ m = .full ∨ m = .own ∨ m = .nilp) (R : RM1 E h tg d m v) : RV E.S h d v := by
  rcases hm with rfl | rfl | rfl | rfl
  · exact R
  · exact R.1
  · exact R.1
  · obtain ⟨rfl, rfl⟩ := (R : _ ∧ _)
    simp only [RV]

theorem segDat_some : ∀ {n off : Nat} {cs : List (DV × Meta)} {ds : List DV}, segDat off n cs = some ds → ds.length = n ∧ ∀ (i : Nat) d, ds[i]? = some d → cellDat cs (off + i) = some d
  | 0, off, cs, ds, h => by simp only [segDat, Option.some.injEq] at h; subst h; simp
  | n + 1, off, cs, ds, h => by
    simp only [segDat] at h
    obtain ⟨d, hd, h⟩ := ob_some h
    obtain ⟨ds', hds, h⟩ := ob_some h
    simp only [Option.some.injEq] at h
    subst h
    obtain ⟨l1, l2⟩ := segDat_some hds
    refine ⟨by simp [l1], fun i d' hi => ?_⟩
    cases i with
    | zero => simp only [List.getElem?_cons_zero, Option.some.injEq] at hi; subst hi; simpa using hd
    | succ i => simp only [List.getElem?_cons_succ] at hi; have := l2 i d' hi; rwa [Nat.add_assoc, Nat.add_comm 1 i] at this

theorem sgBox_some {sg : List SObj} {i : Nat} {cs : List (DV × Meta)} (h : sgBox sg i = some cs) : sg[i]? = some (.box cs) := by
  unfold sgBox at h
  split at h
  · simp only [Option.some.injEq] at h; subst h; assumption
  · simp at h

theorem sgArr_some {sg : List SObj} {i : Nat} {p : Nat × List DV} (h : sgArr sg i = some p) : sg[i]? = some (.arr p.1 p.2) := by
  unfold sgArr at h
  split at h
  · simp only [Option.some.injEq] at h; subst h; assumption
  · simp at h

theorem sgOpn_some {sg : List SObj} {i : Nat} {sz : Nat} {pre ds : List DV} (h : sgOpn sg i = some (sz, pre, ds)) : sg[i]? = some (.opn sz pre ds) := by
  unfold sgOpn at h
  split at h
  · rename_i heq
    simp only [Option.some.injEq, Prod.mk.injEq] at h
    obtain ⟨rfl, rfl, rfl⟩ := h
    exact heq
  · simp at h

theorem sgVec_some {sg : List SObj} {i n : Nat} {p : Nat × List DV} (h : sgVec sg i n = some p) : sg[i]? = some (.vec n p.1 p.2) := by
  unfold sgVec at h
  split at h
  · split at h
    · rename_i heq hn
      simp only [Option.some.injEq] at h
      subst h hn
      exact heq
    · cases h
  · simp at h

theorem sgMap_some {sg : List SObj} {i : Nat} {p : Bool × List (DV × DV)} (h : sgMap sg i = some p) : sg[i]? = some (.map p.1 p.2) := by
  unfold sgMap at h
  split at h
  · simp only [Option.some.injEq] at h; subst h; assumption
  · simp at h

theorem lt_of_sg (Rl : Rel E st a w.heap) {i : Nat} {ob : SObj} (h : st.sg[i]? = some ob) : i < E.n := by
  rw [← Rl.n]; exact (List.getElem?_eq_some_iff.1 h).1

theorem putAt_get {α : Type} {l cs : List α} {o : Nat} (h : o + cs.length ≤ l.length) (j : Nat) : (putAt l o cs)[j]? = if o ≤ j ∧ j < o + cs.length then cs[j - o]? else l[j]? := by
  unfold putAt
  by_cases h1 : j < o
  · rw [if_neg (by omega), List.append_assoc, List.getElem?_append_left (by simp; omega), List.getElem?_take_of_lt h1]
  · by_cases h2 : j < o + cs.length
    · rw [if_pos (by omega), List.append_assoc, List.getElem?_append_right (by simp; omega), List.getElem?_append_left (by simp; omega)]
      congr 1
      simp
      omega
    · rw [if_neg (by omega), List.getElem?_append_right (by simp; omega), List.getElem?_drop]
      congr 1
      simp
      omega

theorem putAt_length {α : Type} {l cs : List α} {o : Nat} (h : o + cs.length ≤ l.length) : (putAt l o cs).length = l.length := by
  unfold putAt; simp; omega

/-- Cells of a variable give up what they own. -/
theorem Rel.cells_give (Rl : Rel E st a w.heap) {s off n : Nat} {cs : List (DV × Meta)} (hb : st.bx.getD s none = some cs) (hn : off + n ≤ cs.length) {f : Tag → Tag}
    (hf : ∀ T, (∀ j, off ≤ j → j < off + n → T ≠ .sp 1 s j) → f T = T) : Rel (E.re f) { st with bx := st.bx.set s (some (putAt cs off (((cs.drop off).take n).map fun c : DV × Meta => (c.1, dm c.2)))) } a w.heap := by
  have hseal : f .shut = .shut := hf _ (by simp)
  have hoth : f .other = .other := hf _ (by simp)
  have P : Pr (fun T => ∃ j, off ≤ j ∧ j < off + n ∧ T = .sp 1 s j) E w.heap (E.re f) w.heap := Pr.re fun T hT => hf T fun j h1 h2 h3 => hT ⟨j, h1, h2, h3⟩
  have hle : SealLe E.S w.heap (E.re f).S w.heap := re_le hseal
  have hl : (((cs.drop off).take n).map fun c : DV × Meta => (c.1, dm c.2)).length = n := by simp; omega
  refine ⟨Rl.size, Rl.mlen, by simp [Rl.blen], Rl.n, fun u v hu => ?_, fun s' cs' hs => ?_, fun i ob hi => ?_, fun b o hb => ?_⟩
  · exact (Rl.regs u v hu).re hseal hoth fun b => hf _ (by simp)
  · have hslt : s < st.bx.length := by
      rcases Nat.lt_or_ge s st.bx.length with h1 | h1
      · exact h1
      · simp [List.getD_eq_getElem?_getD, List.getElem?_eq_none h1] at hb
    by_cases hss : s = s'
    · subst hss
      simp only [List.getD_eq_getElem?_getD, List.getElem?_set_self hslt, Option.getD_some, Option.some.injEq] at hs
      subst hs
      obtain ⟨cv, T, h1, h2, h3, h4⟩ := Rl.boxes s cs hb
      refine ⟨cv, T, h1, by rw [putAt_length (by omega)]; exact h2, fun o => ?_, fun j r v hr hv => ?_⟩
      · rcases h3 o with h5 | h5
        · left; simp only [Env.re]; rw [h5]; exact hf _ (by simp)
        · exact .inr h5
      · rw [putAt_get (by omega), hl] at hr
        by_cases hj : off ≤ j ∧ j < off + n
        · rw [if_pos hj, List.getElem?_map, List.getElem?_take_of_lt (by omega), List.getElem?_drop, Option.map_eq_some_iff] at hr
          obtain ⟨c, hcc, rfl⟩ := hr
          rw [show off + (j - off) = j by omega] at hcc
          obtain ⟨a1, a2, a3, a4⟩ := h4 j c v hcc hv
          have a5 : RM1 E w.heap .other c.1 (dm c.2) v := a4.mayLie_dm a3
          exact ⟨a1, a2, (Su.mayLie_dm a3).2.1, (a5.re hseal hoth : RM1 (E.re f) w.heap .other c.1 (dm c.2) v).tag (Su.mayLie_dm a3).2.2⟩
        · rw [if_neg hj] at hr
          obtain ⟨a1, a2, a3, a4⟩ := h4 j r v hr hv
          exact ⟨a1, a2, a3, a4.re hseal (hf _ fun j' q1 q2 he => by simp only [Tag.sp.injEq, true_and] at he; exact hj (by omega))⟩
    · simp only [List.getD_eq_getElem?_getD, List.getElem?_set_ne hss] at hs
      have := Rl.boxes s' cs' (by simpa [List.getD_eq_getElem?_getD] using hs)
      exact this.mono P hle (by simp) (by rintro j ⟨j', -, -, h⟩; simp only [Tag.sp.injEq, true_and] at h; exact hss h.1.symm)
  · exact (Rl.objs i ob hi).mono P hle (by rw [← Rl.n]; exact (List.getElem?_eq_some_iff.1 hi).1) (by simp) (by simp)
  · simp only [Env.re]; rw [Rl.fresh b o hb, hoth]

/-- A cell of a variable gives up what it owns. -/
theorem Rel.cell_give (Rl : Rel E st a w.heap) {s off : Nat} {cs : List (DV × Meta)} {c : DV × Meta} (hb : st.bx.getD s none = some cs) (hcc : cs[off]? = some c) {f : Tag → Tag}
    (hf : ∀ T, T ≠ .sp 1 s off → f T = T) : Rel (E.re f) { st with bx := st.bx.set s (some (cs.set off (c.1, dm c.2))) } a w.heap := by
  have hseal : f .shut = .shut := hf _ (by simp)
  have hoth : f .other = .other := hf _ (by simp)
  have P : Pr (fun T => T = .sp 1 s off) E w.heap (E.re f) w.heap := Pr.re fun T hT => hf T hT
  have hle : SealLe E.S w.heap (E.re f).S w.heap := re_le hseal
  refine ⟨Rl.size, Rl.mlen, by simp [Rl.blen], Rl.n, fun u v hu => ?_, fun s' cs' hs => ?_, fun i ob hi => ?_, fun b o hb => ?_⟩
  · exact (Rl.regs u v hu).re hseal hoth fun b => hf _ (by simp)
  · have hslt : s < st.bx.length := by
      rcases Nat.lt_or_ge s st.bx.length with h1 | h1
      · exact h1
      · simp [List.getD_eq_getElem?_getD, List.getElem?_eq_none h1] at hb
    by_cases hss : s = s'
    · subst hss
      simp only [List.getD_eq_getElem?_getD, List.getElem?_set_self hslt, Option.getD_some, Option.some.injEq] at hs
      subst hs
      obtain ⟨cv, T, h1, h2, h3, h4⟩ := Rl.boxes s cs hb
      refine ⟨cv, T, h1, by simpa using h2, fun o => ?_, fun j r v hr hv => ?_⟩
      · rcases h3 o with h5 | h5
        · left; simp only [Env.re]; rw [h5]; exact hf _ (by simp)
        · exact .inr h5
      · by_cases hj : off = j
        · subst hj
          have hlt := (List.getElem?_eq_some_iff.1 hcc).1
          rw [List.getElem?_set_self hlt] at hr
          simp only [Option.some.injEq] at hr
          subst hr
          obtain ⟨a1, a2, a3, a4⟩ := h4 off c v hcc hv
          have a5 : RM1 E w.heap .other c.1 (dm c.2) v := a4.mayLie_dm a3
          exact ⟨a1, a2, (Su.mayLie_dm a3).2.1, (a5.re hseal hoth : RM1 (E.re f) w.heap .other c.1 (dm c.2) v).tag (Su.mayLie_dm a3).2.2⟩
        · rw [List.getElem?_set_ne hj] at hr
          obtain ⟨a1, a2, a3, a4⟩ := h4 j r v hr hv
          exact ⟨a1, a2, a3, a4.re hseal (hf _ (by simp; exact fun h => hj h.symm))⟩
    · simp only [List.getD_eq_getElem?_getD, List.getElem?_set_ne hss] at hs
      have := Rl.boxes s' cs' (by simpa [List.getD_eq_getElem?_getD] using hs)
      exact this.mono P hle (by simp) (by simp; intro h; exact absurd h.symm hss)
  · exact (Rl.objs i ob hi).mono P hle (by rw [← Rl.n]; exact (List.getElem?_eq_some_iff.1 hi).1) (by simp) (by simp)
  · simp only [Env.re]; rw [Rl.fresh b o hb, hoth]

/-- The same of a shared variable. -/
theorem Rel.shared_give (Rl : Rel E st a w.heap) {i off : Nat} {cs : List (DV × Meta)} {d : DV} {m : Meta} (hb : st.sg[i]? = some (.box cs)) (hcc : cs[off]? = some (d, m)) (hm : m = .full ∨ m = .own) {f : Tag → Tag}
    (hf : ∀ T, T ≠ .sp 2 i off → f T = T) : Rel (E.re f) { st with sg := st.sg.set i (.box (cs.set off (d, .val))) } a w.heap := by
  have hseal : f .shut = .shut := hf _ (by simp)
  have hoth : f .other = .other := hf _ (by simp)
  have P : Pr (fun T => T = .sp 2 i off) E w.heap (E.re f) w.heap := Pr.re fun T hT => hf T hT
  have hle : SealLe E.S w.heap (E.re f).S w.heap := re_le hseal
  have hilt := (List.getElem?_eq_some_iff.1 hb).1
  refine ⟨Rl.size, Rl.mlen, Rl.blen, by simpa [Env.re] using Rl.n, fun u v hu => ?_, fun s' cs' hs => ?_, fun i' ob hi => ?_, fun b o hb => ?_⟩
  · exact (Rl.regs u v hu).re hseal hoth fun b => hf _ (by simp)
  · exact (Rl.boxes s' cs' hs).mono P hle (by simp) (by simp)
  · by_cases hii : i = i'
    · subst hii
      simp only [List.getElem?_set_self hilt, Option.some.injEq] at hi
      subst hi
      obtain ⟨cv, T, h1, h2, h3, h4⟩ := Rl.objs i _ hb
      refine ⟨cv, T, h1, by simpa using h2, fun o => ?_, fun j r v hr hv => ?_⟩
      · rcases h3 o with h5 | h5
        · left; simp only [Env.re]; rw [h5]; exact hf _ (by simp)
        · exact .inr h5
      · by_cases hj : off = j
        · subst hj
          have hlt := (List.getElem?_eq_some_iff.1 hcc).1
          rw [List.getElem?_set_self hlt] at hr
          simp only [Option.some.injEq] at hr
          subst hr
          obtain ⟨a1, a2, a3, a4⟩ := h4 off _ v hcc hv
          have a5 : RV E.S w.heap d v := RM1_dat (by rcases hm with h | h <;> simp [h]) a4
          exact ⟨a1, a2, rfl, a5.mono hle⟩
        · rw [List.getElem?_set_ne hj] at hr
          obtain ⟨a1, a2, a3, a4⟩ := h4 j r v hr hv
          exact ⟨a1, a2, a3, a4.re hseal (hf _ (by simp; exact fun h => hj h.symm))⟩
    · simp only [List.getElem?_set_ne hii] at hi
      exact (Rl.objs i' ob hi).mono P hle (lt_of_sg Rl hi) (by simp) (by simp; intro h; exact absurd h.symm hii)
  · simp only [Env.re]; rw [Rl.fresh b o hb, hoth]

/-- An empty slice in a shared variable becomes a vector. -/
def Env.newVec (E : Env) : Env :=
  { E with base := fun i => if i = E.n then 0 else E.base i, top := fun i => if i = E.n then 0 else E.top i, ver := fun i => if i = E.n then 1 else E.ver i, n := E.n + 1 }

theorem Rel.newVec (Rl : Rel E st a w.heap) {i off sz : Nat} {cs : List (DV × Meta)} {v : Value} (hb : st.sg[i]? = some (.box cs)) (hcc : cs[off]? = some (.list sz [], .full)) (hv : RM1 E w.heap (.sp 2 i off) (.list sz []) .full v) (hpos : 0 < sz) :
    Rel E.newVec { st with sg := st.sg.set i (.box (cs.set off (.undef, .vec st.sg.length 1 sz 0))) ++ [.vec 1 sz []] } a w.heap ∧ Pr (fun _ => False) E w.heap E.newVec w.heap ∧ ∀ tg, RM1 E.newVec w.heap tg .undef (.vec st.sg.length 1 sz 0) v := by
  have hn := Rl.n
  have vE : E.newVec.ver E.n = 1 := if_pos rfl
  have P1 : Pr (fun _ => False) E w.heap E.newVec w.heap := by
    refine ⟨Nat.le_refl _, fun _ _ => KeepBlk.refl _ _, fun _ _ _ _ => rfl, Nat.le_succ _, fun j hj _ => ?_, fun _ _ => rfl, fun j hj => ?_⟩
    · have hj' : j ≠ E.n := Nat.ne_of_lt hj
      refine ⟨rfl, ?_, ?_⟩ <;> (show (if _ then _ else _) = _; rw [if_neg hj'])
    · have : E.newVec.ver j = E.ver j := if_neg (Nat.ne_of_lt hj)
      rw [this]; exact ⟨id, Nat.le_refl _, fun _ => rfl⟩
  have hle := P1.shut (by simp) Rl.fresh
  have key : ∀ tg, RM1 E.newVec w.heap tg .undef (.vec st.sg.length 1 sz 0) v := by
    intro tg
    simp only [RM1] at hv ⊢
    obtain ⟨g1, ⟨x, m, rfl⟩, -⟩ := hv
    obtain ⟨b0, len0, cap0, hv0, q1, -, q3, -⟩ := RV_list g1
    simp only [Value.slice.injEq] at hv0
    obtain ⟨rfl, rfl, rfl⟩ := hv0
    have hm0 : m = 0 := by simpa using q1
    subst hm0
    exact ⟨by rw [hn]; exact Nat.lt_succ_self _, by omega, by rw [hn, vE]; exact Nat.le_refl _, x, 0, rfl, Nat.le_refl _, q3, fun h => by omega, fun _ h => by omega⟩
  have hilt := (List.getElem?_eq_some_iff.1 hb).1
  refine ⟨⟨Rl.size, Rl.mlen, Rl.blen, by simp [Env.newVec, hn], fun u v hu => (Rl.regs u v hu).mono P1 hle (by simp) (by simp), fun s' cs' hs => (Rl.boxes s' cs' hs).mono P1 hle (by simp) (by simp), fun i' ob hi => ?_, Rl.fresh⟩, P1, key⟩
  by_cases hlt : i' < st.sg.length
  · rw [List.getElem?_append_left (by simpa using hlt)] at hi
    by_cases hii : i = i'
    · subst hii
      simp only [List.getElem?_set_self hilt, Option.some.injEq] at hi
      subst hi
      obtain ⟨cv, T, h1, h2, h3, h4⟩ := (Rl.objs i _ hb : RO E w.heap i (.box cs)).mono P1 hle (lt_of_sg Rl hb) (by simp) (by simp)
      refine ⟨cv, T, h1, by simpa using h2, h3, fun j r v' hr hv' => ?_⟩
      by_cases hj : off = j
      · subst hj
        have hlt2 := (List.getElem?_eq_some_iff.1 hcc).1
        rw [List.getElem?_set_self hlt2] at hr
        simp only [Option.some.injEq] at hr
        subst hr
        obtain ⟨cv0, T0, g1, g2, g3, g4⟩ := Rl.objs i _ hb
        have hobj : E.newVec.obj i = E.obj i := rfl
        rw [hobj, g1] at h1
        simp only [Option.some.injEq, Obj.cells.injEq] at h1
        obtain ⟨rfl, -⟩ := h1
        obtain ⟨a1, a2, a3, a4⟩ := g4 off _ v' hcc hv'
        refine ⟨rfl, a2, rfl, ?_⟩
        simp only [RM1] at a4 ⊢
        obtain ⟨k1, ⟨x, m, rfl⟩, -⟩ := a4
        obtain ⟨b0, len0, cap0, hv0, q1, -, q3, -⟩ := RV_list k1
        simp only [Value.slice.injEq] at hv0
        obtain ⟨rfl, rfl, rfl⟩ := hv0
        have hm0 : m = 0 := by simpa using q1
        subst hm0
        exact ⟨by rw [hn]; exact Nat.lt_succ_self _, by omega, by rw [hn, vE]; exact Nat.le_refl _, x, 0, rfl, Nat.le_refl _, q3, fun h => by omega, fun _ h => by omega⟩
      · rw [List.getElem?_set_ne hj] at hr
        exact h4 j r v' hr hv'
    · rw [List.getElem?_set_ne hii] at hi
      exact (Rl.objs i' ob hi).mono P1 hle (lt_of_sg Rl hi) (by simp) (by simp)
  · have hi1 : i' = st.sg.length := by
      have := (List.getElem?_eq_some_iff.1 hi).1
      simp at this; omega
    subst hi1
    rw [List.getElem?_append_right (by simp)] at hi
    simp only [List.length_set, Nat.sub_self, List.getElem?_cons_zero, Option.some.injEq] at hi
    subst hi
    simp only [RO]
    rw [hn]
    refine ⟨vE, by omega, hpos, .inl ⟨trivial, ?_⟩⟩
    show (if _ then _ else _) = (if _ then _ else _)
    rw [if_pos rfl, if_pos rfl]

/-- The tag `T0` becomes register `t`'s. -/
def giveTag (T0 : Tag) (t : Nat) (T : Tag) : Tag := if T = T0 then .sp 0 t 0 else T

/-- The tags of these cells become register `t`'s. -/
def giveTags (s off n t : Nat) (T : Tag) : Tag :=
  match T with
  | .sp 1 s' j => if s' = s ∧ off ≤ j ∧ j < off + n then .sp 0 t (j - off + 1) else .sp 1 s' j
  | T => T

theorem giveTags_id {s off n t : Nat} {T : Tag} (h : ∀ j, off ≤ j → j < off + n → T ≠ .sp 1 s j) : giveTags s off n t T = T := by
  unfold giveTags
  split
  · split
    · rename_i hx; obtain ⟨rfl, h1, h2⟩ := hx; exact absurd rfl (h _ h1 h2)
    · rfl
  · rfl

theorem giveTag_ne {T0 : Tag} {t : Nat} {T : Tag} (h : T ≠ T0) : giveTag T0 t T = T := by simp [giveTag, h]

theorem sim_load {fl : Flags} {t : TypeId} {y : Operand} (hop : o.op = .load t y) (H : evLoad C fl o t y st k = some x) (Rl : Rel E st a w.heap) (T : Then E w k x K) : Gp C.P o a w K := by
  unfold evLoad at H
  obtain ⟨r, h1, H⟩ := ob_some H
  obtain ⟨z, hz, H⟩ := ob_some H
  have e1 := Rl.src h1
  have hz1 : z.2 = false → z.1 = 1 := by
    obtain ⟨i, d, -, -, -, h4⟩ := tz_some hz
    exact h4
  split at H
  · -- a private variable
    rename_i s off hm
    rw [hm] at e1
    simp only [RR, RM1] at e1
    obtain ⟨cs, hb, H⟩ := ob_some H
    obtain ⟨hle, H⟩ := ite_some H
    have B := Rl.boxes s cs hb
    obtain ⟨vs, l1, l2, l3⟩ := RBox_read B hle
    obtain ⟨v, g1, g2, g3⟩ := run_loadVar (w := w) hz l1 l2
    have hrun := run_loadOp hop e1.2 g1
    by_cases h2 : z.2 = true
    · rw [if_pos h2] at H
      simp only at H
      by_cases hst : dstIn fl.steal o.dst = true
      · rw [if_pos hst] at H
        cases hd : o.dst with
        | none =>
          rw [hd] at hst
          simp [dstIn] at hst
        | some t0 =>
          rw [hd] at H
          refine wp_value hrun ?_
          rw [hd]
          refine T (E.re (giveTags s off z.1 t0)) _ _ w H ((Rl.cells_give hb hle fun T hT => giveTags_id hT).put fun t1 ht => ?_) (Pr.re fun T hT => giveTags_id fun j _ _ he => hT (by rw [he]; simp [Ours]))
          simp only [Option.some.injEq] at ht
          subst ht
          rw [g2 h2]
          simp only [RR]
          refine ⟨_, _, rfl, rfl, by simp, by simp; omega, fun i m d v e1 e2 e3 => ?_⟩
          simp only [List.getElem?_map, Option.map_eq_some_iff] at e1 e2
          obtain ⟨r1, q1, rfl⟩ := e1
          obtain ⟨r2, q2, rfl⟩ := e2
          rw [q1] at q2
          simp only [Option.some.injEq] at q2
          subst q2
          have hi : i < z.1 := by have := (List.getElem?_eq_some_iff.1 q1).1; simp only [List.length_take] at this; omega
          rw [List.getElem?_take_of_lt hi, List.getElem?_drop] at q1
          obtain ⟨a1, a2, a3, a4⟩ := l3 i v r1 (by simpa using e3) q1
          exact ⟨a1, a2, a3, a4.re (giveTags_id (by simp)) (by simp [giveTags, hi])⟩
      rw [if_neg hst] at H
      refine sim_value hrun H Rl (fun t0 _ => ?_) @T
      rw [g2 h2]
      have lseg : ((cs.drop off).take z.1).length = z.1 := by simp only [List.length_take, List.length_drop]; omega
      have hseg : ∀ (j : Nat) v r, vs[j]? = some v → ((cs.drop off).take z.1)[j]? = some r → isLeaf r.1 = true ∧ v.oneCell' = true ∧ mayLie r.2 = true ∧ ∃ tg, RM1 E w.heap tg r.1 r.2 v := by
        intro j v r hv hr
        have hj : j < z.1 := by have := (List.getElem?_eq_some_iff.1 hr).1; omega
        rw [List.getElem?_take_of_lt hj, List.getElem?_drop] at hr
        obtain ⟨a1, a2, a3, a4⟩ := l3 j v r hv hr
        exact ⟨a1, a2, a3, _, a4⟩
      split
      · refine aggOf_RR (by simp only [List.length_map]; omega) (fun j v r hv hr => ?_) 0 t0
        simp only [List.getElem?_map, Option.map_eq_some_iff] at hr
        obtain ⟨r0, hr0, rfl⟩ := hr
        obtain ⟨a1, a2, a3, tg, a4⟩ := hseg j v r0 hv hr0
        exact hideCell_ok a1 a2 a3 a4
      · exact aggOf_RR (by omega) hseg 0 t0
    · rw [if_neg h2] at H
      have hv := g3 (by simpa using h2)
      subst hv
      have hlt : off < cs.length := by have := hz1 (by simpa using h2); omega
      have hcell : cs[off]? = some (cs.getD off (.undef, .val)) := by simp [List.getD_eq_getElem?_getD, List.getElem?_eq_getElem hlt]
      obtain ⟨a1, a2, a3, a4⟩ := l3 0 v _ rfl (by simpa using hcell)
      simp only [Nat.add_zero] at a4
      split at H
      · cases hd : o.dst with
        | none =>
          rename_i hst
          rw [hd] at hst
          simp [dstIn] at hst
        | some t0 =>
          rw [hd] at H
          refine wp_value hrun ?_
          rw [hd]
          refine T (E.re (giveTag (.sp 1 s off) t0)) _ _ w H ((Rl.cell_give hb hcell fun T hT => giveTag_ne hT).put fun t1 ht => ?_) (Pr.re fun T hT => giveTag_ne fun he => hT (by rw [he]; simp [Ours]))
          simp only [Option.some.injEq] at ht
          subst ht
          exact RR.of_RM1 (a4.re (giveTag_ne (by simp)) (by simp [giveTag]))
      · exact sim_value hrun H Rl (fun _ _ => RR.of_RM1 (a4.mayLie_dm a3)) @T
  · -- an element
    rename_i ag sz off hm
    rw [hm] at e1
    simp only [RR, RM1] at e1
    obtain ⟨b, o0, r1, ⟨us, u1, u2, u3⟩, r3⟩ := e1
    obtain ⟨hle, H⟩ := ite_some H
    have l2 : ∀ (j : Nat) v, ((us.drop off).take z.1)[j]? = some v → hc w.heap b (o0 + off + j) = some v := by
      intro j v hv
      have hj : j < z.1 := by have := (List.getElem?_eq_some_iff.1 hv).1; simp only [List.length_take, List.length_drop] at this; omega
      rw [List.getElem?_take_of_lt hj, List.getElem?_drop] at hv
      rw [Nat.add_assoc]
      exact (u2 _ v hv).1
    obtain ⟨v, g1, g2, g3⟩ := run_loadVar (w := w) hz (vs := (us.drop off).take z.1) (by simp only [List.length_take, List.length_drop]; omega) l2
    have hrun := run_loadOp hop r1 g1
    by_cases h2 : z.2 = true
    · rw [if_pos h2] at H
      obtain ⟨hag, H⟩ := og_some H
      refine sim_dat hrun H Rl ?_ @T
      rw [g2 h2]
      simp only [RV]
      exact ⟨_, rfl, RLs_cells u3 (by omega)⟩
    · rw [if_neg h2] at H
      have hv := g3 (by simpa using h2)
      have hlt : off < us.length := by have := hz1 (by simpa using h2); omega
      have huv : us[off]? = some v := by
        have := congrArg (fun l : List Value => l[0]?) hv
        simp only [List.getElem?_cons_zero] at this
        rw [List.getElem?_take_of_lt (by have := hz1 (by simpa using h2); omega), List.getElem?_drop, Nat.add_zero] at this
        exact this
      refine sim_dat hrun H Rl ?_ @T
      split
      · obtain ⟨q1, q2⟩ := RC_proj u3 huv
        exact RV_of_RC q1 q2
      · rename_i hag
        have hl := r3 (by simpa using hag)
        obtain ⟨u, rfl⟩ := RC_leaf hl u3
        have hoff : off = 0 := by simp at hlt; omega
        subst hoff
        simp only [List.getElem?_cons_zero, Option.some.injEq] at huv
        subst huv
        exact RV_of_RC hl u3
  · -- a shared variable
    rename_i i off hm
    rw [hm] at e1
    simp only [RR, RM1] at e1
    obtain ⟨cs, hb, H⟩ := ob_some H
    have hb := sgBox_some hb
    have B := Rl.objs i _ hb
    simp only [RO] at B
    have one : ∀ (n : Nat) c, cs[n]? = some c → n < cs.length := fun n c hc => (List.getElem?_eq_some_iff.1 hc).1
    by_cases h2 : z.2 = true
    · rw [if_pos h2] at H
      obtain ⟨hz0, H⟩ := og_some H
      obtain ⟨ds, hds, H⟩ := ob_some H
      obtain ⟨d1, d2⟩ := segDat_some hds
      have hz0' : z.1 ≠ 0 := by simpa using hz0
      have hle : off + z.1 ≤ cs.length := by
        have := d2 (z.1 - 1) _ (List.getElem?_eq_getElem (by omega))
        obtain ⟨m, hm, -⟩ := cellDat_some this
        have := one _ _ hm
        omega
      obtain ⟨vs, l1, l2, l3⟩ := RBox_read B hle
      obtain ⟨v, g1, g2, g3⟩ := run_loadVar (w := w) hz l1 l2
      refine sim_dat (run_loadOp hop e1.2 g1) H Rl ?_ @T
      rw [g2 h2]
      simp only [RV]
      refine ⟨_, rfl, RLs_iff.2 ⟨by simp only [d1]; omega, fun j d v hd hv => ?_⟩⟩
      obtain ⟨m, hcm, hm⟩ := cellDat_some (d2 j d hd)
      obtain ⟨a1, a2, a3, a4⟩ := l3 j v _ (by simpa using hv) hcm
      exact ⟨a1, RC_of_RV a1 a2 (RM1_dat hm a4)⟩
    · rw [if_neg h2] at H
      have hz1' := hz1 (by simpa using h2)
      have fin : ∀ c, cs[off]? = some c → ∃ v, (execOp a.eval o).run C.P w = .ok (.value v) w ∧ isLeaf c.1 = true ∧ v.oneCell' = true ∧ mayLie c.2 = true ∧ RM1 E w.heap (.sp 2 i off) c.1 c.2 v := by
        intro c hc
        have hle : off + z.1 ≤ cs.length := by have := one _ _ hc; omega
        obtain ⟨vs, l1, l2, l3⟩ := RBox_read B hle
        obtain ⟨v, g1, g2, g3⟩ := run_loadVar (w := w) hz l1 l2
        have hv := g3 (by simpa using h2)
        subst hv
        exact ⟨v, run_loadOp hop e1.2 g1, by simpa using l3 0 v c rfl (by simpa using hc)⟩
      split at H
      · obtain ⟨j, hj, H⟩ := ob_some H
        unfold cellMap at hj
        split at hj <;> simp only [Option.some.injEq, reduceCtorEq] at hj
        rename_i hc
        subst hj
        obtain ⟨v, f1, f2, f3, f4, f5⟩ := fin _ hc
        exact sim_value f1 H Rl (fun _ _ => RR.of_RM1 (by simp only [RM1] at f5 ⊢; exact f5)) @T
      · obtain ⟨j, hj, H⟩ := ob_some H
        unfold cellPtr at hj
        split at hj <;> simp only [Option.some.injEq, reduceCtorEq] at hj
        rename_i hc
        subst hj
        obtain ⟨v, f1, f2, f3, f4, f5⟩ := fin _ hc
        exact sim_value f1 H Rl (fun _ _ => RR.of_RM1 (by simp only [RM1] at f5 ⊢; exact f5)) @T
      · by_cases hvr : dstIn fl.vecr o.dst = true
        · rw [if_pos hvr] at H
          obtain ⟨e, he, H⟩ := ob_some H
          obtain ⟨ze, hze, H⟩ := ob_some H
          obtain ⟨q, hq, H⟩ := ob_some H
          unfold cellVec at hq
          split at hq <;> try cases hq
          rename_i hc
          obtain ⟨hz', hq2⟩ := ite_some hq
          subst hz'
          simp only [Option.some.injEq] at hq2
          subst hq2
          obtain ⟨v, f1, f2, f3, f4, f5⟩ := fin _ hc
          exact sim_value f1 H Rl (fun _ _ => RR.of_RM1 (by simp only [RM1] at f5 ⊢; exact f5)) @T
        rw [if_neg hvr] at H
        by_cases hvc : dstIn fl.vecs o.dst = true
        · rw [if_pos hvc] at H
          obtain ⟨e, he, H⟩ := ob_some H
          obtain ⟨ze, hze, H⟩ := ob_some H
          obtain ⟨q, hq, H⟩ := ob_some H
          unfold vecIn at hq
          split at hq
          · rename_i d0 j n sz' len hc
            obtain ⟨hz', hq2⟩ := ite_some hq
            subst hz'
            simp only [Option.some.injEq] at hq2
            subst hq2
            obtain ⟨v, f1, f2, f3, f4, f5⟩ := fin _ hc
            exact sim_value f1 H Rl (fun _ _ => RR.of_RM1 (by simp only [RM1] at f5 ⊢; exact f5)) @T
          · rename_i sz' hc
            obtain ⟨⟨hz', hpos⟩, hq2⟩ := ite_some hq
            subst hz'
            simp only [Option.some.injEq] at hq2
            subst hq2
            obtain ⟨v, f1, f2, f3, f4, f5⟩ := fin _ hc
            obtain ⟨R1, P1, R2⟩ := Rl.newVec hb hc f5 hpos
            exact wp_value f1 (T (E.newVec) _ _ w H (R1.put fun t1 _ => RR.of_RM1 (R2 _)) (P1.weaken (by simp)))
          · cases hq
        · rw [if_neg hvc] at H
          by_cases hst : dstIn fl.steal o.dst = true
          · rw [if_pos hst] at H
            obtain ⟨d, hd, H⟩ := ob_some H
            have hc : ∃ m, cs[off]? = some (d, m) ∧ (m = .full ∨ m = .own) := by
              unfold cellOwn at hd
              split at hd <;> simp only [Option.some.injEq, reduceCtorEq] at hd <;> subst hd
              · exact ⟨_, ‹_›, .inl rfl⟩
              · exact ⟨_, ‹_›, .inr rfl⟩
            obtain ⟨m, hc, hm⟩ := hc
            obtain ⟨v, f1, f2, f3, f4, f5⟩ := fin _ hc
            cases hdst : o.dst with
            | none =>
              rw [hdst] at hst
              simp [dstIn] at hst
            | some t0 =>
              rw [hdst] at H
              refine wp_value f1 ?_
              rw [hdst]
              refine T (E.re (giveTag (.sp 2 i off) t0)) _ _ w H ((Rl.shared_give hb hc hm fun T hT => giveTag_ne hT).put fun t1 ht => ?_) (Pr.re fun T hT => giveTag_ne fun he => hT (by rw [he]; simp [Ours]))
              simp only [Option.some.injEq] at ht
              subst ht
              have f6 : RM1 (E.re (giveTag (.sp 2 i off) t0)) w.heap (.sp 0 t0 0) d m v := f5.re (giveTag_ne (by simp)) (by simp [giveTag])
              rcases hm with rfl | rfl
              · -- a slice that ends where its memory does owns what lies behind: nothing
                exact RR.of_RM1 f6.full_own
              · exact RR.of_RM1 f6
          · rw [if_neg hst] at H
            obtain ⟨d, hd, H⟩ := ob_some H
            obtain ⟨m, hc, hm⟩ := cellDat_some hd
            obtain ⟨v, f1, f2, f3, f4, f5⟩ := fin _ hc
            exact sim_dat f1 H Rl (RM1_dat hm f5) @T
  · -- an element of a writable array
    rename_i i sz idx off hm
    rw [hm] at e1
    simp only [RR, RM1] at e1
    obtain ⟨p, hp, H⟩ := ob_some H
    obtain ⟨d, hd, H⟩ := ob_some H
    obtain ⟨hsz, H⟩ := og_some H
    obtain ⟨hle, H⟩ := ite_some H
    have hp := sgArr_some hp
    have hsz : p.1 = sz := by simpa using hsz
    rw [hsz] at hp
    have B := Rl.objs i _ hp
    simp only [RO] at B
    have hne : p.2 ≠ [] := by intro h; rw [h] at hd; simp at hd
    obtain ⟨c, TT, b1, b2, b3, b4, b5⟩ := B hne
    obtain ⟨us, u1, u2, u3⟩ := b5 idx d hd
    have l2 : ∀ (j : Nat) v, ((us.drop off).take z.1)[j]? = some v → hc w.heap (E.obj i) (E.base i + idx * sz + off + j) = some v := by
      intro j v hv
      have hj : j < z.1 := by have := (List.getElem?_eq_some_iff.1 hv).1; simp only [List.length_take, List.length_drop] at this; omega
      rw [List.getElem?_take_of_lt hj, List.getElem?_drop] at hv
      rw [Nat.add_assoc]
      unfold hc
      rw [b1]
      exact u2 _ v hv
    obtain ⟨v, g1, g2, g3⟩ := run_loadVar (w := w) hz (vs := (us.drop off).take z.1) (by simp only [List.length_take, List.length_drop]; omega) l2
    have hrun := run_loadOp hop e1.2 g1
    by_cases h2 : z.2 = true
    · rw [if_pos h2] at H
      refine sim_dat hrun H Rl ?_ @T
      rw [g2 h2]
      simp only [RV]
      exact ⟨_, rfl, RLs_cells u3 (by omega)⟩
    · rw [if_neg h2] at H
      have hv := g3 (by simpa using h2)
      have hz1' := hz1 (by simpa using h2)
      have huv : us[off]? = some v := by
        have := congrArg (fun l : List Value => l[0]?) hv
        simp only [List.getElem?_cons_zero] at this
        rw [List.getElem?_take_of_lt (by omega), List.getElem?_drop, Nat.add_zero] at this
        exact this
      split at H
      · obtain ⟨hl, H⟩ := og_some H
        refine sim_dat hrun H Rl ?_ @T
        obtain ⟨u, rfl⟩ := RC_leaf hl u3
        have hoff : off = 0 := by have := (List.getElem?_eq_some_iff.1 huv).1; simp at this; omega
        subst hoff
        simp only [List.getElem?_cons_zero, Option.some.injEq] at huv
        subst huv
        exact RV_of_RC hl u3
      · refine sim_dat hrun H Rl ?_ @T
        obtain ⟨q1, q2⟩ := RC_proj u3 huv
        exact RV_of_RC q1 q2
  · -- an element of a vector
    rename_i i n sz idx off hm
    rw [hm] at e1
    simp only [RR, RM1] at e1
    obtain ⟨p, hp, H⟩ := ob_some H
    obtain ⟨d, hd, H⟩ := ob_some H
    obtain ⟨hsz, H⟩ := og_some H
    obtain ⟨hle, H⟩ := ite_some H
    have hp := sgVec_some hp
    have hsz : p.1 = sz := by simpa using hsz
    rw [hsz] at hp
    have B := Rl.objs i _ hp
    simp only [RO] at B
    obtain ⟨bv, b0, b3, B⟩ := B
    have hne : p.2 ≠ [] := by intro h; rw [h] at hd; simp at hd
    obtain ⟨c, TT, ff, b1, b2, b2', b4, b5⟩ := B.resolve_left fun h => hne h.1
    obtain ⟨-, -, -, eb, ep, ev, ex⟩ := e1
    obtain ⟨rfl, rfl⟩ := ex bv
    obtain ⟨us, u1, u2, u3⟩ := b5 idx d hd
    have l2 : ∀ (j : Nat) v, ((us.drop off).take z.1)[j]? = some v → hc w.heap (E.obj i) (E.base i + idx * sz + off + j) = some v := by
      intro j v hv
      have hj : j < z.1 := by have := (List.getElem?_eq_some_iff.1 hv).1; simp only [List.length_take, List.length_drop] at this; omega
      rw [List.getElem?_take_of_lt hj, List.getElem?_drop] at hv
      rw [Nat.add_assoc]
      unfold hc
      rw [b1]
      exact u2 _ v hv
    obtain ⟨v, g1, g2, g3⟩ := run_loadVar (w := w) hz (vs := (us.drop off).take z.1) (by simp only [List.length_take, List.length_drop]; omega) l2
    have hrun := run_loadOp hop ev g1
    by_cases h2 : z.2 = true
    · rw [if_pos h2] at H
      refine sim_dat hrun H Rl ?_ @T
      rw [g2 h2]
      simp only [RV]
      exact ⟨_, rfl, RLs_cells u3 (by omega)⟩
    · rw [if_neg h2] at H
      have hv := g3 (by simpa using h2)
      have hz1' := hz1 (by simpa using h2)
      have huv : us[off]? = some v := by
        have := congrArg (fun l : List Value => l[0]?) hv
        simp only [List.getElem?_cons_zero] at this
        rw [List.getElem?_take_of_lt (by omega), List.getElem?_drop, Nat.add_zero] at this
        exact this
      split at H
      · obtain ⟨hl, H⟩ := og_some H
        refine sim_dat hrun H Rl ?_ @T
        obtain ⟨u, rfl⟩ := RC_leaf hl u3
        have hoff : off = 0 := by have := (List.getElem?_eq_some_iff.1 huv).1; simp at this; omega
        subst hoff
        simp only [List.getElem?_cons_zero, Option.some.injEq] at huv
        subst huv
        exact RV_of_RC hl u3
      · refine sim_dat hrun H Rl ?_ @T
        obtain ⟨q1, q2⟩ := RC_proj u3 huv
        exact RV_of_RC q1 q2
  · simp at H

end
end Go.Su
