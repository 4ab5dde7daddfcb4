/-
  Parts of the proof, merged: SuData, SuEval, SuRel, SuState, SuBase, SuOp1, SuOp2, SuOp3, SuOp4, SuOp5, SuOp6, SuOp7.
-/
import Derived.Calls
import Derived.Control
import Derived.Laws.Cells
import Derived.Laws.Entries
import Derived.Laws.Sem
import Derived.Laws.Slices
import Derived.Laws.StructEq
import Derived.Laws.World
import Derived.LoopN
import Derived.Orders
set_option linter.unusedVariables false
set_option linter.unusedSimpArgs false
/-
 THE DATA MACHINE, part 1: values as plain data, states, and one operation at a time.
 No program is named here. What is proved about it stands in the parts behind.
-/
open Array renaming getElem?_eq_some_iff → z4q, getElem?_eq_getElem → z28q, size_push → z33q
open Bool renaming and_eq_true → z8q, false_eq_true → z23q
open List renaming getElem?_eq_some_iff → z0q, getD_eq_getElem?_getD → z1q, getElem?_cons_zero → z2q, getElem?_take_of_lt → z3q, getElem?_set_self → z5q, getElem?_drop → z6q, getElem?_eq_getElem → z9q, getElem?_set_ne → z10q, length_take → z11q, getElem?_map → z13q, length_drop → z14q, getElem?_append_right → z17q, getElem?_append_left → z18q, getElem?_eq_none → z19q, getElem?_cons_succ → z22q, eq_nil_of_length_eq_zero → z24q, size_toArray → z31q, getElem?_range → z32q, mem_cons → z34q, append_assoc → z37q
open Nat renaming le_refl → z7q, lt_of_lt_of_le → z15q, add_assoc → z16q, add_zero → z20q, mul_le_mul_right → z21q, succ_mul → z26q, lt_or_ge → z27q, add_comm → z35q, le_trans → z36q, sub_self → z38q, add_mul → z39q
open Option renaming map_eq_some_iff → z12q, map_some → z25q, getD_some → z29q, isNone_iff_eq_none → z30q
namespace Go.Su
inductive DV where
 | undef
 | int (k : IntKind) (n : Int)
 | bool (b : Bool)
 | str (s : ByteArray)
 | agg (cs : List DV)
 | H7 (cs : List DV)
 | list (sz : Nat) (ds : List DV)
 | B_
 | Hz (sz : Nat) (d : DV)
 deriving Inhabited
inductive Meta where
 | val
 | full
 | own
 | loc (s o : Nat)
 | Na (ag : Bool) (sz o : Nat)
 | ptr (i o : Nat)
 | Ba
 | map (i : Nat)
 | PX
 | arr (i sz off len : Nat)
 | Yy (i sz idx o : Nat)
 | opt (i sz idx : Nat)
 | M6 (i n sz len : Nat)
 | o_ (i n sz idx o : Nat)
 | fn (f : FuncId) (caps : List (Nat × Nat))
 | Bf (ms : List Meta)
 | DZ (ms : List Meta)
 deriving Inhabited
inductive C9 where
 | box (cs : List (DV × Meta))
 | arr (sz : Nat) (ds : List DV)
 | map (ks : Bool) (es : List (DV × DV))
 | opn (sz : Nat) (pre ds : List DV)
 | M6 (n sz : Nat) (ds : List DV)
 deriving Inhabited
structure St where
 tm : List DV
 mt : List Meta
 bx : List (Option (List (DV × Meta)))
 sg : List C9
variable {β : Type}
def ob {α : Type} (x : Option α) (f : α -> Option β) : Option β :=
 match x with
 | some a => f a
 | none => none
variable (d : DV)
def D7 (t e : Option β) : Option β :=
 match d with
 | .bool true => t
 | .bool false => e
 | _ => none
def og (t : Bool) (x : Option β) : Option β :=
 match t with
 | true => x
 | false => none
def D6 (n : Nat) : DV -> Bool
 | .agg cs => cs.length == n
 | _ => false
def A7 (j : Nat) : DV -> DV
 | .agg cs => cs.getD j .undef
 | _ => .undef
def cells (n o : Nat) (d : DV) : List DV := (List.range n).map fun j => A7 (o + j) d
def M4 : DV -> Bool
 | .agg _ | .H7 _ => false
 | _ => true
def H6 : DV -> Bool
 | .int _ _ => true
 | .bool _ => true
 | .str _ => true
 | .list _ _ => true
 | .B_ => true
 | .Hz _ _ => true
 | _ => false
variable (sz : Nat)
def bB : DV -> Option DV
 | .Hz sz' d => if sz' = sz then some d else none
 | _ => none
def dLen : DV -> Option DV
 | .list _ ds => some (.int .i64 ds.length)
 | _ => none
def qB : DV -> Option (Nat × List DV)
 | .list sz ds => some (sz, ds)
 | _ => none
def CF : DV -> Option DV
 | .str s => some (.int .i64 s.size)
 | _ => none
def F5 (d i : DV) : Option DV :=
 match d, i with
 | .list sz' ds, .int _ n => if sz' = sz /\ 0 <= n then ds[n.toNat]? else none
 | _, _ => none
def j6 (i : DV) : Option DV :=
 match d, i with
 | .str s, .int _ n => if 0 <= n then (s.data[n.toNat]?).map fun b => .int .u8 b.toNat else none
 | _, _ => none
def lim : Nat := 2 ^ 32
def AQ (d e : DV) : Option DV :=
 match d, e with
 | .list a ds, .list b es => if (a = sz /\ b = sz) /\ ds.length + es.length <= lim then some (.list sz (ds ++ es)) else none
 | _, _ => none
def Kb (d e : DV) : Option (List DV × List DV) :=
 match d, e with
 | .list a ds, .list b es => if (a = sz /\ b = sz) /\ ds.length + es.length <= lim /\ 0 < es.length then some (ds, es) else none
 | _, _ => none
def bnd (dflt : Nat) : Option DV -> Option Nat
 | none => some dflt
 | some (.int _ n) => if 0 <= n then some n.toNat else none
 | _ => none
def Ak (d : DV) (lo hi : Option DV) : Option DV :=
 match d with
 | .list sz' ds => ob (bnd ds.length hi) fun h => ob (bnd 0 lo) fun l =>
   if sz' = sz /\ l <= h /\ h <= ds.length then some (.list sz ((ds.take h).drop l)) else none
 | _ => none
def lW (lo hi : Option DV) : Option DV :=
 match d with
 | .str s => ob (bnd s.size hi) fun h => ob (bnd 0 lo) fun l =>
   if l <= h /\ h <= s.size then some (.str (s.extract l h)) else none
 | _ => none
def A05 (d : DV) (lo : Option DV) (hi mx : DV) : Option DV :=
 match hi, mx with
 | .int _ h, .int _ m => if h = m then Ak sz d lo (some hi) else none
 | _, _ => none
inductive LK where
 | int | bool | str
def xq (k : LK) (x y : DV) : Option Bool :=
 match k, x, y with
 | .int, .int k a, .int k' b => if k = k' then some (a == b) else none
 | .bool, .bool a, .bool b => some (a == b)
 | .str, .str a, .str b => some (a.toList == b.toList)
 | _, _, _ => none
def Cm : List LK -> List DV -> List DV -> Option Bool
 | [], [], [] => some true
 | k :: ks, x :: xs, y :: ys => ob (xq k x y) fun b => if b then Cm ks xs ys else some false
 | _, _, _ => none
def OO : List UInt8 -> List UInt8 -> Bool
 | _, [] => false
 | [], _ :: _ => true
 | a :: x, b :: y => a < b || (a == b && OO x y)
def Jz : BinOp -> Bool
 | .shl => true
 | .shr => true
 | _ => false
variable (op : BinOp) (k : IntKind)
def B3v (a b : Int) : Option DV :=
 if b < 0 then none else
 match op with
 | .shl => some (.int k (k.wrap (a * 2 ^ (min b.toNat k.bits))))
 | .shr => some (.int k (a.fdiv (2 ^ (min b.toNat k.bits))))
 | _ => none
def LD (a b : Int) : Option DV :=
 match op with
 | .add => some (.int k (k.wrap (a + b)))
 | .sub => some (.int k (k.wrap (a - b)))
 | .mul => some (.int k (k.wrap (a * b)))
 | .eql => some (.bool (a == b))
 | .neq => some (.bool (a != b))
 | .lss => some (.bool (a < b))
 | .leq => some (.bool (a <= b))
 | .gtr => some (.bool (a > b))
 | .geq => some (.bool (a ≥ b))
 | .quo => if b = 0 then none else some (.int k (k.wrap (a.tdiv b)))
 | .rem => if b = 0 then none else some (.int k (a.tmod b))
 | .and => some (.int k (k.wrap (BitVec.ofInt k.bits a &&& BitVec.ofInt k.bits b).toNat))
 | .or => some (.int k (k.wrap (BitVec.ofInt k.bits a ||| BitVec.ofInt k.bits b).toNat))
 | .xor => some (.int k (k.wrap (BitVec.ofInt k.bits a ^^^ BitVec.ofInt k.bits b).toNat))
 | _ => none
def lX (a b : ByteArray) : Option DV :=
 match op with
 | .add => if a.size + b.size <= lim then some (.str (a ++ b)) else none
 | .eql => some (.bool (a.toList == b.toList))
 | .neq => some (.bool !(a.toList == b.toList))
 | .lss => some (.bool (OO a.toList b.toList))
 | .leq => some (.bool (OO a.toList b.toList || a.toList == b.toList))
 | .gtr => some (.bool !(OO a.toList b.toList || a.toList == b.toList))
 | .geq => some (.bool !OO a.toList b.toList)
 | _ => none
variable (x : DV)
def A8 (y : DV) : Option DV :=
 match x, y with
 | .int k a, .int k' b => match Jz op with
   | true => B3v op k a b
   | false => if k = k' then LD op k a b else none
 | .str a, .str b => lX op a b
 | _, _ => none
def UE (y : DV) : Option Bool :=
 match x, y with
 | .bool a, .bool b => some (a == b)
 | _, _ => none
def WA (ks : List LK) (x y : DV) : Option Bool :=
 match x, y with
 | .agg xs, .agg ys => Cm ks xs ys
 | _, _ => none
def M5 (op : UnOp) (x : DV) : Option DV :=
 match op, x with
 | .not, .bool b => some (.bool !b)
 | .neg, .int k n => some (.int k (k.wrap (0 - n)))
 | _, _ => none
def A7X (c a b : DV) : Option DV :=
 match c with
 | .bool true => some a
 | .bool false => some b
 | _ => none
def UF (y : DV) : Option DV :=
 match x, y with
 | .int k a, .int k' b => if k = k' then some (.int k (if b > a then b else a)) else none
 | _, _ => none
def YU (y : DV) : Option DV :=
 match x, y with
 | .int k a, .int k' b => if k = k' then some (.int k (if b < a then b else a)) else none
 | _, _ => none
def B1X : DV -> Option DV
 | .int _ n => some (.int k (k.wrap n))
 | _ => none
def J5 (i : Nat) : DV -> Option DV
 | .H7 cs => cs[i]?
 | _ => none
def EK (y : DV) : Bool :=
 match x, y with
 | .int _ a, .int _ b => a == b
 | .str a, .str b => a.toList == b.toList
 | _, _ => false
def isKey (ks : Bool) : DV -> Bool
 | .int k _ => !ks && k == .i64
 | .str _ => ks
 | _ => false
def FQ (es : List (DV × DV)) (k : DV) : Option DV := (es.find? fun e => EK k e.1).map (·.2)
def JJ : List (DV × DV) -> DV -> DV -> List (DV × DV)
 | [], k, v => [(k, v)]
 | e :: es, k, v => if EK k e.1 then (e.1, v) :: es else e :: JJ es k v
abbrev W9 : DV := .agg [A7 0 d, A7 1 d, A7 2 d]
abbrev P6 : DV := .agg [A7 0 d, A7 1 d, A7 2 d, A7 3 d, A7 4 d]
abbrev IP : DV := .agg [A7 0 d, A7 1 d, A7 2 d, A7 3 d, A7 4 d, A7 5 d, A7 6 d]
abbrev R8 : DV := .agg [A7 0 d, A7 1 d, A7 2 d, A7 3 d, A7 4 d, A7 5 d, A7 6 d, A7 7 d, A7 8 d]
abbrev EU : DV := .agg [A7 0 d, A7 1 d, A7 2 d, A7 3 d, A7 4 d, A7 5 d, A7 6 d, A7 7 d, A7 8 d, A7 9 d, A7 10 d, A7 11 d, A7 12 d, A7 13 d, A7 14 d]
abbrev A3v : DV := .agg [A7 0 d, A7 1 d, A7 2 d, A7 3 d, A7 4 d, A7 5 d, A7 6 d, A7 7 d, A7 8 d, A7 9 d, A7 10 d, A7 11 d, A7 12 d, A7 13 d, A7 14 d, A7 15 d]
abbrev Q6 : DV := .agg [A7 0 d, A7 1 d, A7 2 d, A7 3 d, A7 4 d, A7 5 d, A7 6 d, A7 7 d, A7 8 d, A7 9 d, A7 10 d, A7 11 d, A7 12 d, A7 13 d, A7 14 d, A7 15 d, A7 16 d, A7 17 d, A7 18 d, A7 19 d]
abbrev iI (n : Int) : DV := .int .i64 n
end Go.Su

/-
 THE DATA MACHINE, part 2: the program's own code, run over plain data. Nothing is proved here.
-/
namespace Go.Su
noncomputable section
inductive MK where
 | val | own
 | ptr
 | YT (n : Nat) (os : List Nat)
 deriving Inhabited
structure Ag where
 params : List MK
 results : List MK
 lock : Bool := false
structure Flags where
 P7 : List Nat := []
 shared : List Nat := []
 hide : List Nat := []
 opn : List Nat := []
 DR : List Nat := []
 B20 : List Nat := []
 B2F : List (Nat × Nat) := []
 refs : List (Nat × Nat) := []
 Wp : List Nat := []
 keep : List (Nat × List Nat × List Nat × List Nat × List Nat) := []
inductive Cut : Type
inductive B8i : Type
structure AO where
 P : Program
 fl : FuncId -> Flags
 sig : FuncId -> Option Ag
 A0x : FuncId -> Option Cut
 clone : FuncId -> Bool
 lV : FuncId -> Nat
 jA : FuncId -> Option FuncId := fun _ => none
 iter : FuncId -> Option (List DV -> Option (List DV)) := fun _ => none
 ref : TypeId -> Bool := fun _ => false
 B48 : FuncId -> Option B8i := fun _ => none
 dfn : FuncId -> Bool := fun _ => false
structure Q8 where
 p : FuncId -> List DV -> Option DV
 r : FuncId -> List (DV × Meta) -> List C9 -> Option (List DV × List C9)
def A81 : TypeDesc -> Bool
 | .struct _ => true
 | .array _ _ => true
 | _ => false
variable (P : Program) (t : TypeId)
def tz : Option (Nat × Bool) :=
 ob (P.info? t) fun i => ob (P.underlying t) fun d => if A81 d || i.size == 1 then some (i.size, A81 d) else none
def IL : Option TypeId :=
 match P.underlying t with
 | some (.slice e) => some e
 | _ => none
def B1a (f : Nat) : Option Field :=
 match P.underlying t with
 | some (.struct fs) => fs[f]?
 | _ => none
def B8A : Nat :=
 match IL P t with
 | some e => match tz P e with
   | some z => z.1
   | none => 0
 | none => 0
def cst : Value -> Option (DV × Meta)
 | .int k n => some (.int k n, .val)
 | .bool b => some (.bool b, .val)
 | .string s => some (.str s, .val)
 | .slice none 0 0 => some (.list (B8A P t) [], .full)
 | .pointer none => some (.B_, .Ba)
 | .map none => some (.undef, .PX)
 | _ => none
def A1d (P : Program) : Nat -> TypeId -> Option (List TypeId)
 | 0, _ => none
 | n + 1, t =>
   match P.underlying t with
   | some (.struct fs) => fs.toList.foldr (fun f acc => ob (A1d P n f.type) fun l => ob acc fun r => some (l ++ r)) (some [])
   | some (.array m e) => ob (A1d P n e) fun l => some (List.replicate m l).flatten
   | some _ => some [t]
   | none => none
def Xj (P : Program) : List TypeId -> List Value -> Option (List (DV × Meta))
 | [], [] => some []
 | t :: ts, v :: vs => ob (cst P t v) fun r => ob (Xj P ts vs) fun rs => some (r :: rs)
 | _, _ => none
def Ku : Option (List (DV × Meta)) :=
 ob (A1d P 8 t) fun ts => ob (P.info? t) fun i => ob i.zero fun v => Xj P ts v.cells.toList
def Xm : Meta -> Meta
 | .own => .val
 | m => m
def dm : Meta -> Meta
 | .own => .val
 | .Bf ms => .Bf (ms.map Xm)
 | .DZ ms => .DZ (ms.map Xm)
 | m => m
def J6 : Meta -> Bool
 | .val => true
 | .full => true
 | .own => true
 | .Ba => true
 | .DZ ms => ms.all fun m => match m with
   | .val => true
   | .full => true
   | .own => true
   | .Ba => true
   | _ => false
 | _ => false
def Y8 : Meta -> Bool
 | .val => true
 | .full => true
 | .own => true
 | .ptr _ _ => true
 | .Ba => true
 | .map _ => true
 | .PX => true
 | .arr _ _ _ _ => true
 | .M6 _ _ _ _ => true
 | .fn _ _ => true
 | _ => false
variable (st : St)
def St.get (t : Nat) : DV × Meta := (st.tm.getD t .undef, st.mt.getD t .val)
variable (dst : Option Nat) (d : DV) (m : Meta)
def St.put : St :=
 match dst with
 | none => st
 | some t => { st with tm := st.tm.set t d, mt := st.mt.set t m }
def St.release : Operand -> St
 | .tmp t => { st with mt := st.mt.set t (dm (st.mt.getD t .val)) }
 | _ => st
variable (x : Operand)
def St.rH (m : Meta) : St :=
 match x with
 | .tmp t => { st with mt := st.mt.set t m }
 | _ => st
def JE (s : Nat) : Meta -> Meta
 | .loc s' o => if s' = s then .val else .loc s' o
 | m => m
variable (shared : Bool)
def St.Am (dst : Option Nat) (cs : List (DV × Meta)) : St :=
 match dst with
 | none => st
 | some t =>
   if shared then { st with sg := st.sg ++ [C9.box cs] }.put dst .undef (.ptr st.sg.length 0)
   else { st with mt := st.mt.map (JE t), bx := st.bx.set t (some cs) }.put dst .undef (.loc t 0)
def Jc (t : Nat) (mt : List Meta) : Bool :=
 mt.all fun m => match m with
  | .loc s _ => s != t
  | _ => true
def OM (dst : Option Nat) (st : St) : Bool :=
 match dst with
 | none => true
 | some t => shared || Jc t st.mt
def XU {α : Type} (ts : List Nat) (d : α) : Nat -> List α -> List α
 | _, [] => []
 | i, x :: xs => (if ts.contains i then x else d) :: XU ts d (i + 1) xs
def Mg : Meta -> Meta
 | .full => .own
 | m => m
def eT {α : Type} (f : α -> α) (ts : List Nat) : Nat -> List α -> List α
 | _, [] => []
 | i, x :: xs => (if ts.contains i then f x else x) :: eT f ts (i + 1) xs
def Wn : Option (List (DV × Meta)) -> Option (List (DV × Meta))
 | some cs => some (cs.map fun c => (c.1, Mg c.2))
 | none => none
def XY : Meta := if J6 m then .val else m
def rJ : Option (List (DV × Meta)) -> Option (List (DV × Meta))
 | some cs => some (cs.map fun c => (c.1, XY c.2))
 | none => none
def St.keep (ts bs os vs : List Nat) : St :=
 { st with tm := XU ts .undef 0 st.tm, mt := eT XY vs 0 (eT Mg os 0 (XU ts .val 0 st.mt)), bx := eT rJ vs 0 (eT Wn os 0 (XU bs none 0 st.bx)) }
def src : Operand -> Option (DV × Meta)
 | .tmp x => some (st.get x)
 | .const v => cst P t v
 | .func f => some (.undef, .fn f [])
 | .global _ => none
def IU (P : Program) (st : St) : List TypeId -> List Operand -> Option (List (DV × Meta))
 | t :: ts, x :: xs => ob (src P t st x) fun r => ob (IU P st ts xs) fun rs => some (r :: rs)
 | [], x :: xs => ob (src P 0 st x) fun r => ob (IU P st [] xs) fun rs => some (r :: rs)
 | _, [] => some []
def rP : List DV -> List Meta -> List (DV × Meta)
 | d :: ds, m :: ms => (d, m) :: rP ds ms
 | _, _ => []
variable (n : Nat)
def lT (r : DV × Meta) : Option (List (DV × Meta)) :=
 match r.2 with
 | .val => some ((cells n 0 r.1).map fun d => (d, .val))
 | .DZ ms => if ms.length = n then some (rP (cells n 0 r.1) ms) else none
 | _ => none
variable {X : Type}
def cellOf (r : DV × Meta) (k : DV × Meta -> Option X) : Option X :=
 match r.2 with
 | .val => og (H6 r.1) (k (r.1, .val))
 | .full => k (r.1, .full)
 | .own => k (r.1, .own)
 | .Ba => k (.B_, .Ba)
 | m => og (Y8 m) (k (.undef, m))
def explode (r : DV × Meta) (k : List (DV × Meta) -> Option X) : Option X :=
 ob (tz P t) fun z =>
  if z.2 then og (D6 z.1 r.1) (ob (lT z.1 r) fun cs => k (cs.map fun c => (c.1, dm c.2)))
  else cellOf r fun c => k [(c.1, dm c.2)]
def Hw (r : DV × Meta) (k : List (DV × Meta) -> Option X) : Option X :=
 ob (tz P t) fun z =>
  if z.2 then og (D6 z.1 r.1) (ob (lT z.1 r) k)
  else cellOf r fun c => k [(c.1, dm c.2)]
def putAt {α : Type} (l : List α) (o : Nat) (cs : List α) : List α := l.take o ++ cs ++ l.drop (o + cs.length)
def B8m : Option (Nat × TypeId) :=
 match P.underlying t with
 | some (.array n e) => some (n, e)
 | _ => none
def places : Option (List (Nat × Nat)) :=
 match P.underlying t with
 | some (.struct fs) => fs.toList.mapM fun f => (P.info? f.type).map fun i => (f.offset, i.size)
 | some (.array _ e) => (P.info? e).map fun i => [(0, i.size)]
 | _ => none
variable (i : Nat)
def partAt : Option (TypeId × Nat) :=
 match P.underlying t with
 | some (.struct fs) => fs[i]?.map fun f => (f.type, f.offset)
 | some (.array _ e) => (P.info? e).map fun q => (e, i * q.size)
 | _ => none
def GV {X : Type} (P : Program) (t : TypeId) (st : St) : List (Nat × Operand) -> List (DV × Meta) -> (List (DV × Meta) -> Option X) -> Option X
 | [], cs, k => k cs
 | (i, x) :: rest, cs, k =>
   ob (partAt P t i) fun f => ob (src P f.1 st x) fun r => explode P f.1 r fun xs =>
    if f.2 + xs.length <= cs.length then GV P t st rest (putAt cs f.2 xs) k else none
variable (cs : List (DV × Meta))
def gM : DV × Meta := (.agg (cs.map (·.1)), .DZ (cs.map fun c => dm c.2))
def Lb (z : Nat × Bool) (r : DV × Meta) (k : DV -> Option X) : Option X :=
 og (J6 r.2) (if z.2 then og (D6 z.1 r.1) (k r.1) else og (H6 r.1) (k r.1))
def kW : Option (DV × Meta) :=
 match x with
 | .const (.agg vs) => ob (A1d P 8 t) fun ts => ob (Xj P ts vs.toList) fun rs => og (rs.all fun c => J6 c.2) (some (.agg (rs.map (·.1)), .val))
 | x => src P t st x
def Gm {X : Type} (P : Program) (e : TypeId) (z : Nat × Bool) (st : St) : List (Nat × Operand) -> List DV -> (List DV -> Option X) -> Option X
 | [], ds, k => k ds
 | (i, x) :: rest, ds, k => ob (kW P e st x) fun r => Lb z r fun d => if i < ds.length then Gm P e z st rest (ds.set i d) k else none
def rO (z : Nat × Bool) (cs : List (DV × Meta)) : Option DV :=
 if z.2 then some (.agg (cs.map (·.1)))
 else match cs with
  | [c] => some c.1
  | _ => none
variable (sg : List C9)
def E9 (i : Nat) : Option (List (DV × Meta)) :=
 match sg[i]? with
 | some (.box cs) => some cs
 | _ => none
def DX (i : Nat) : Option (Nat × List DV) :=
 match sg[i]? with
 | some (.arr sz ds) => some (sz, ds)
 | _ => none
def Fw (i : Nat) : Option (Nat × List DV × List DV) :=
 match sg[i]? with
 | some (.opn sz pre ds) => some (sz, pre, ds)
 | _ => none
def AX (i n : Nat) : Option (Nat × List DV) :=
 match sg[i]? with
 | some (.M6 n' sz ds) => if n' = n then some (sz, ds) else none
 | _ => none
def Lf (q : Nat × List DV × List DV) (idx : Nat) (e : DV) : Option C9 :=
 if q.2.1.length <= idx /\ idx - q.2.1.length < q.2.2.length then some (.opn q.1 q.2.1 (q.2.2.set (idx - q.2.1.length) e)) else none
def Hr (q : Nat × List DV × List DV) (sz len : Nat) : Option DV :=
 if q.1 = sz /\ q.2.1.length + q.2.2.length = len /\ 0 < len then some (.list sz (q.2.1 ++ q.2.2)) else none
def Ko (i : Nat) : Option (Bool × List (DV × DV)) :=
 match sg[i]? with
 | some (.map ks es) => some (ks, es)
 | _ => none
variable (o : Nat)
def H5 : Option DV :=
 match cs[o]? with
 | some (d, .val) => some d
 | some (d, .full) => some d
 | some (d, .own) => some d
 | some (d, .Ba) => some d
 | _ => none
def X9 : Option DV :=
 match cs[o]? with
 | some (d, .full) => some d
 | some (d, .own) => some d
 | _ => none
def OP : Option (Nat × Nat × Nat) :=
 match cs[o]? with
 | some (_, .arr i sz 0 len) => some (i, sz, len)
 | _ => none
def Jo (sz : Nat) : Option (Nat × Nat × Nat) :=
 match cs[o]? with
 | some (_, .M6 i n sz' len) => if sz' = sz then some (i, n, len) else none
 | _ => none
def CG (i off : Nat) (cs : List (DV × Meta)) (sz : Nat) : Option (List C9 × Nat × Nat × Nat) :=
 match cs[off]? with
 | some (_, .M6 j n sz' len) => if sz' = sz then some (sg, j, n, len) else none
 | some (.list sz' [], .full) => if sz' = sz /\ 0 < sz then some (sg.set i (.box (cs.set off (.undef, .M6 sg.length 1 sz 0))) ++ [.M6 1 sz []], sg.length, 1, 0) else none
 | _ => none
def SB : Option Nat :=
 match cs[o]? with
 | some (_, .map i) => some i
 | _ => none
def lS : Option Nat :=
 match cs[o]? with
 | some (_, .ptr i 0) => some i
 | _ => none
def O8 : Nat -> Nat -> List (DV × Meta) -> Option (List DV)
 | _, 0, _ => some []
 | o, n + 1, cs => ob (H5 cs o) fun d => ob (O8 (o + 1) n cs) fun ds => some (d :: ds)
inductive B4O where
 | dat | map | ptr
variable (C : AO)
def B4Z (t : TypeId) : B4O :=
 match C.P.underlying t with
 | some (.map _ _) => .map
 | some (.pointer _) => if C.ref t then .dat else .ptr
 | _ => .dat
def A33 : Option DV :=
 ob (P.info? t) fun i => ob i.zero fun v => ob (cst P t v) fun r => og (J6 r.2) (some r.1)
def mapKeys : Option (Bool × TypeId) :=
 match P.underlying t with
 | some (.map kt et) =>
   match P.underlying kt with
   | some (.int .i64) => some (false, et)
   | some .string => some (true, et)
   | _ => none
 | _ => none
section
variable {X : Type} (C : AO) (R : Q8)
def J4 (l : List Nat) : Option Nat -> Bool
 | some t => l.contains t
 | none => false
def Wh (c : DV × Meta) : DV × Meta :=
 match c.2 with
 | .arr _ _ _ _ => (.undef, .val)
 | _ => c
def Br (fl : Flags) (o : Oper) (t : TypeId) (x : Operand) (st : St) (k : St -> Option X) : Option X :=
 ob (src C.P 0 st x) fun r => ob (tz C.P t) fun z =>
  match r.2 with
  | .loc s off => ob (st.bx.getD s none) fun cs =>
    if off + z.1 <= cs.length then
     if z.2 then
      let oV := (cs.drop off).take z.1
      if J4 fl.P7 o.dst then
       k ({ st with bx := st.bx.set s (some (putAt cs off (oV.map fun c : DV × Meta => (c.1, dm c.2)))) }.put o.dst (.agg (oV.map fun c : DV × Meta => c.1)) (.DZ (oV.map fun c : DV × Meta => c.2)))
      else
       let a := gM (if J4 fl.hide o.dst then oV.map Wh else oV)
       k (st.put o.dst a.1 a.2)
     else
      let c := cs.getD off (.undef, .val)
      if J4 fl.P7 o.dst then k ({ st with bx := st.bx.set s (some (cs.set off (c.1, dm c.2))) }.put o.dst c.1 c.2)
      else k (st.put o.dst c.1 (dm c.2))
    else none
  | .Na ag sz off =>
    if off + z.1 <= sz then
     if z.2 then og ag (k (st.put o.dst (.agg (cells z.1 off r.1)) .val))
     else k (st.put o.dst (if ag then A7 off r.1 else r.1) .val)
    else none
  | .ptr i off => ob (E9 st.sg i) fun cs =>
    if z.2 then og (z.1 != 0) (ob (O8 off z.1 cs) fun ds => k (st.put o.dst (.agg ds) .val))
    else match B4Z C t with
     | .map => ob (SB cs off) fun j => k (st.put o.dst .undef (.map j))
     | .ptr => ob (lS cs off) fun j => k (st.put o.dst .undef (.ptr j 0))
     | .dat =>
       if J4 fl.B20 o.dst then
        ob (IL C.P t) fun e => ob (tz C.P e) fun ze => ob (Jo cs off ze.1) fun q => k (st.put o.dst .undef (.M6 q.1 q.2.1 ze.1 q.2.2))
       else if J4 fl.DR o.dst then
        ob (IL C.P t) fun e => ob (tz C.P e) fun ze => ob (CG st.sg i off cs ze.1) fun q => k ({ st with sg := q.1 }.put o.dst .undef (.M6 q.2.1 q.2.2.1 ze.1 q.2.2.2))
       else if J4 fl.P7 o.dst then
        ob (X9 cs off) fun d => k ({ st with sg := st.sg.set i (.box (cs.set off (d, .val))) }.put o.dst d .own)
       else ob (H5 cs off) fun d => k (st.put o.dst d .val)
  | .Yy i sz idx off => ob (DX st.sg i) fun a => ob a.2[idx]? fun d =>
    og (a.1 == sz)
     (if off + z.1 <= sz then
       if z.2 then k (st.put o.dst (.agg (cells z.1 off d)) .val)
       else if sz = 1 then og (M4 d) (k (st.put o.dst d .val)) else k (st.put o.dst (A7 off d) .val)
     else none)
  | .o_ i n sz idx off => ob (AX st.sg i n) fun a => ob a.2[idx]? fun d =>
    og (a.1 == sz)
     (if off + z.1 <= sz then
       if z.2 then k (st.put o.dst (.agg (cells z.1 off d)) .val)
       else if sz = 1 then og (M4 d) (k (st.put o.dst d .val)) else k (st.put o.dst (A7 off d) .val)
     else none)
  | _ => none
def IZ (sz off : Nat) (d : DV) (xs : List (DV × Meta)) : Option DV :=
 match d with
 | .agg cs => if xs.all (fun c => J6 c.2 && M4 c.1) = true /\ cs.length = sz /\ off + xs.length <= sz then some (.agg (putAt cs off (xs.map (·.1)))) else none
 | _ => none
def Cc (o : Oper) (t : TypeId) (x y : Operand) (st : St) (k : St -> Option X) : Option X :=
 ob (src C.P 0 st x) fun r => ob (src C.P t st y) fun v => ob (tz C.P t) fun z =>
  match r.2 with
  | .loc s off => ob (st.bx.getD s none) fun cs =>
    if z.2 then Hw C.P t v fun xs =>
     if off + xs.length <= cs.length then k (({ st with bx := st.bx.set s (some (putAt cs off xs)) }.release y).put o.dst (.H7 []) .val) else none
    else cellOf v fun c =>
     if off < cs.length then k (({ st with bx := st.bx.set s (some (cs.set off c)) }.release y).put o.dst (.H7 []) .val) else none
  | .ptr i off => ob (E9 st.sg i) fun cs =>
    if z.2 then explode C.P t v fun xs =>
     if off + xs.length <= cs.length then k ({ st with sg := st.sg.set i (.box (putAt cs off xs)) }.put o.dst (.H7 []) .val) else none
    else cellOf v fun c =>
     ob cs[off]? fun _ => k (({ st with sg := st.sg.set i (.box (cs.set off c)) }.release y).put o.dst (.H7 []) .val)
  | .Yy i sz idx off => ob (DX st.sg i) fun a => ob a.2[idx]? fun _ => Lb z v fun e =>
    og (a.1 == sz)
     (if z.1 = sz /\ off = 0 then k ({ st with sg := st.sg.set i (.arr sz (a.2.set idx e)) }.put o.dst (.H7 []) .val)
     else none)
  | .opt i sz idx => ob (Fw st.sg i) fun q => Lb z v fun e => og (q.1 == sz && z.1 == sz)
     (ob (Lf q idx e) fun x => k ({ st with sg := st.sg.set i x }.put o.dst (.H7 []) .val))
  | .o_ i n sz idx off => ob (AX st.sg i n) fun a => ob a.2[idx]? fun d => og (a.1 == sz)
     (if z.2 then explode C.P t v fun xs => ob (IZ sz off d xs) fun e => k ({ st with sg := st.sg.set i (.M6 n sz (a.2.set idx e)) }.put o.dst (.H7 []) .val)
     else cellOf v fun c => ob (IZ sz off d [c]) fun e => k ({ st with sg := st.sg.set i (.M6 n sz (a.2.set idx e)) }.put o.dst (.H7 []) .val))
  | _ => none
def YJ (r : DV × Meta) : Option Bool :=
 match r.2 with
 | .Ba => some true
 | .ptr _ _ => some false
 | .val => match r.1 with
   | .B_ => some true
   | .Hz _ _ => some false
   | _ => none
 | _ => none
def OQ (r s : DV × Meta) : Option Bool :=
 match YJ r, YJ s with
 | some true, some b => some b
 | some false, some true => some false
 | _, _ => none
def A5l (m n : Meta) : Option Bool :=
 match m, n with
 | .PX, .PX => some true
 | .PX, .map _ => some false
 | .map _, .PX => some false
 | _, _ => none
inductive B06 where
 | num | bool | flat (ks : List LK) | ptr | map | ref
def iy (P : Program) (t : TypeId) : Option LK :=
 match P.underlying t with
 | some .bool => some .bool
 | some (.int _) => some .int
 | some .string => some .str
 | _ => none
def Sl (P : Program) : Nat -> List Field -> Option (List LK)
 | _, [] => some []
 | i, f :: fs => if f.name != "_" && f.offset == i then ob (iy P f.type) fun k => ob (Sl P (i + 1) fs) fun ks => some (k :: ks) else none
def lM (P : Program) (t : TypeId) : B06 :=
 match P.underlying t with
 | some (.int _) => .num
 | some .string => .num
 | some .bool => .bool
 | some (.pointer _) => .ptr
 | some (.map _ _) => .map
 | some (.struct fs) =>
   match Sl P 0 fs.toList, P.stoodInHeld t, P.eqGuardType P.depth t with
   | some ks, false, false => .flat ks
   | _, _, _ => .ref
 | _ => .ref
def qE (op : BinOp) (b : Bool) : Option DV :=
 match op with
 | .eql => some (.bool b)
 | .neq => some (.bool !b)
 | _ => none
def Zo (o : Oper) (op : BinOp) (t : TypeId) (x y : Operand) (st : St) (k : St -> Option X) : Option X :=
 ob (src C.P t st x) fun r => ob (src C.P t st y) fun s =>
  match lM C.P t with
  | .num => og (J6 r.2 && J6 s.2) (ob (A8 op r.1 s.1) fun d => k (st.put o.dst d .val))
  | .bool => og (J6 r.2 && J6 s.2) (ob (UE r.1 s.1) fun b => ob (qE op b) fun d => k (st.put o.dst d .val))
  | .flat ks => og (J6 r.2 && J6 s.2) (ob (WA ks r.1 s.1) fun b => ob (qE op b) fun d => k (st.put o.dst d .val))
  | .ptr => ob (OQ r s) fun b => ob (qE op b) fun d => k (st.put o.dst d .val)
  | .map => ob (A5l r.2 s.2) fun b => ob (qE op b) fun d => k (st.put o.dst d .val)
  | .ref => none
def QC (o : Oper) (t : TypeId) (x : Operand) (f : Nat) (st : St) (k : St -> Option X) : Option X :=
 ob (src C.P 0 st x) fun r => ob (B1a C.P t f) fun fd => ob (tz C.P fd.type) fun z =>
  if z.1 = 0 then none
  else match r.2 with
   | .loc s off => k (st.put o.dst .undef (.loc s (off + fd.offset)))
   | .Na ag sz off => k (st.put o.dst r.1 (.Na ag sz (off + fd.offset)))
   | .ptr i off => k (st.put o.dst .undef (.ptr i (off + fd.offset)))
   | .Yy i sz idx off => k (st.put o.dst .undef (.Yy i sz idx (off + fd.offset)))
   | .o_ i n sz idx off => k (st.put o.dst .undef (.o_ i n sz idx (off + fd.offset)))
   | _ => none
def AF (off len : Nat) : DV -> Option Nat
 | .int _ n => if 0 <= n /\ n < len then some (off + n.toNat) else none
 | _ => none
def qG (o : Oper) (t : TypeId) (r j : DV × Meta) (st : St) (k : St -> Option X) : Option X :=
 ob (B8m C.P t) fun q => ob (tz C.P q.2) fun z =>
  match r.2 with
  | .loc s off => og (J6 j.2) (ob (AF 0 q.1 j.1) fun n => k (st.put o.dst .undef (.loc s (off + n * z.1))))
  | _ => none
def E_ (fl : Flags) (o : Oper) (t : TypeId) (x i : Operand) (st : St) (k : St -> Option X) : Option X :=
 ob (src C.P t st x) fun r => ob (src C.P 0 st i) fun j => match IL C.P t with
 | none => qG C o t r j st k
 | some e => ob (tz C.P e) fun z =>
   match r.2 with
   | .arr a sz off len => og (sz == z.1 && J6 j.2) (ob (AF off len j.1) fun n => k (st.put o.dst .undef (if J4 fl.opn o.dst then .opt a sz n else .Yy a sz n 0)))
   | .M6 i n sz len => og (sz == z.1 && J6 j.2) (ob (AF 0 len j.1) fun idx => k (st.put o.dst .undef (.o_ i n sz idx 0)))
   | m => og (J6 m && J6 j.2) (ob (F5 z.1 r.1 j.1) fun d =>
     if z.2 then k (st.put o.dst d (.Na true z.1 0)) else og (M4 d) (k (st.put o.dst d (.Na false z.1 0))))
def YG (P : Program) (st : St) : Option Operand -> Option (Option DV)
 | none => some none
 | some x => ob (src P 0 st x) fun r => og (J6 r.2) (some (some r.1))
def B1Q : Meta -> Option (Nat × Nat × Nat × Nat)
 | .arr i sz off len => some (i, sz, off, len)
 | _ => none
def A77 : Meta -> Option (Nat × Nat × Nat × Nat)
 | .M6 i n sz len => some (i, n, sz, len)
 | _ => none
def OU (o : Oper) (t : TypeId) (x : Operand) (lo hi mx : Option Operand) (st : St) (k : St -> Option X) : Option X :=
 ob (src C.P t st x) fun r => ob (YG C.P st lo) fun l => ob (YG C.P st hi) fun h => ob (YG C.P st mx) fun m =>
  match B1Q r.2 with
  | some q => ob (IL C.P t) fun e => ob (tz C.P e) fun z => og (m.isNone && q.2.1 == z.1) (ob (bnd q.2.2.2 h) fun hh => ob (bnd 0 l) fun ll =>
    if ll <= hh /\ hh <= q.2.2.2 then k (st.put o.dst .undef (.arr q.1 q.2.1 (q.2.2.1 + ll) (hh - ll))) else none)
  | none => match A77 r.2 with
  | some q => ob (IL C.P t) fun e => ob (tz C.P e) fun z => og (m.isNone && l.isNone && q.2.2.1 == z.1) (ob (bnd q.2.2.2 h) fun hh =>
    if hh <= q.2.2.2 then k (st.put o.dst .undef (.M6 q.1 q.2.1 q.2.2.1 hh)) else none)
  | none => og (J6 r.2)
    (match C.P.underlying t with
      | some (.slice e) => ob (tz C.P e) fun z =>
        match m, h with
        | none, _ => ob (Ak z.1 r.1 l h) fun d => k (st.put o.dst d .val)
        | some m, some h => ob (A05 z.1 r.1 l h m) fun d => k (st.put o.dst d .full)
        | _, _ => none
      | some .string =>
        match m with
        | none => ob (lW r.1 l h) fun d => k (st.put o.dst d .val)
        | some _ => none
      | _ => none)
def B3T (sg : List C9) : Meta -> Option Nat
 | .map i => ob (Ko sg i) fun p => some p.2.length
 | .PX => some 0
 | _ => none
def VQ : Nat -> Option DV
 | 0 => some (.int .i64 0)
 | n + 1 => some (.int .i64 ((n + 1 : Nat) : Int))
theorem A1o (n : Nat) : VQ n = some (.int .i64 n) := by cases n <;> rfl
def Um (o : Oper) (x : Operand) (t : TypeId) (st : St) (k : St -> Option X) : Option X :=
 ob (src C.P t st x) fun r =>
  match C.P.underlying t with
  | some (.slice _) =>
    match r.2 with
    | .arr _ _ _ len => k (st.put o.dst (.int .i64 len) .val)
    | .M6 _ _ _ len => ob (VQ len) fun d => k (st.put o.dst d .val)
    | m => og (J6 m) (ob (dLen r.1) fun d => k (st.put o.dst d .val))
  | some .string => og (J6 r.2) (ob (CF r.1) fun d => k (st.put o.dst d .val))
  | some (.map _ _) => ob (B3T st.sg r.2) fun n => k (st.put o.dst (.int .i64 n) .val)
  | _ => none
def Jy : Meta -> Bool
 | .full => true
 | .own => true
 | _ => false
def A4I (P : Program) (t u : TypeId) : Option Nat :=
 ob (IL P t) fun e => ob (IL P u) fun _ => ob (tz P e) fun z => ob (P.info? e) fun i => ob (Ku P e) fun zs =>
  if z.1 ≠ 0 /\ i.bytes <= 2 ^ 14 /\ zs.length = z.1 then some z.1 else none
def A45 (o : Oper) (x y : Operand) (t u : TypeId) (st : St) (k : St -> Option X) : Option X :=
 ob (src C.P t st x) fun r => ob (src C.P u st y) fun s =>
  ob (A4I C.P t u) fun sz => og (J6 s.2 && o.dst.isSome) (ob (A77 r.2) fun q =>
   ob (AX st.sg q.1 q.2.1) fun a => og (a.1 == sz && q.2.2.1 == sz && decide (q.2.2.2 <= a.2.length))
    (ob (Kb sz (.list sz (a.2.take q.2.2.2)) s.1) fun p => k ({ st with sg := st.sg.set q.1 (.M6 (q.2.1 + 1) sz (p.1 ++ p.2)) }.put o.dst .undef (.M6 q.1 (q.2.1 + 1) sz (p.1.length + p.2.length)))))
def Eh (fl : Flags) (o : Oper) (x y : Operand) (t u : TypeId) (st : St) (k : St -> Option X) : Option X :=
 if J4 fl.DR o.dst then A45 C o x y t u st k else
 ob (src C.P t st x) fun r => ob (src C.P u st y) fun s =>
  ob (A4I C.P t u) fun sz => og (Jy r.2 && J6 s.2 && o.dst.isSome)
   (if J4 fl.opn o.dst then ob (Kb sz r.1 s.1) fun p => k ({ st.release x with sg := st.sg ++ [C9.opn sz p.1 p.2] }.put o.dst .undef (.arr st.sg.length sz 0 (p.1.length + p.2.length)))
   else ob (AQ sz r.1 s.1) fun d => k ((st.release x).put o.dst d .own))
def Yx (m : Meta) : Meta := if J6 m then .val else dm m
def jD (os : List Nat) : Nat -> List Meta -> List Meta
 | _, [] => []
 | i, m :: ms => (if os.contains i then Mg m else Yx m) :: jD os (i + 1) ms
def YH (m : Meta) (k : MK) : Meta :=
 match k, m with
 | .own, .full => .own
 | .own, m => m
 | .YT _ os, .DZ ms => .DZ (jD os 0 ms)
 | _, m => Yx m
def Gz : List MK -> List (DV × Meta) -> List (DV × Meta)
 | k :: ks, r :: rs => (r.1, YH r.2 k) :: Gz ks rs
 | [], rs => rs.map fun r => (r.1, Yx r.2)
 | _, [] => []
def B6I : Meta -> Bool
 | .loc _ _ => false
 | .Na _ _ _ => false
 | .Bf _ => false
 | .DZ ms => ms.all Y8
 | _ => true
def Co : MK -> Bool
 | .own => true
 | .YT _ _ => true
 | _ => false
def En : Nat -> List MK -> List Operand -> Option (Nat × Operand)
 | i, k :: ks, x :: xs => if Co k then some (i, x) else En (i + 1) ks xs
 | _, _, _ => none
def St.Gy (st : St) : Option (Nat × Operand) -> St
 | some p => st.release p.2
 | none => st
def KD (k : MK) (d : DV) : DV × Meta :=
 match k with
 | .val => (d, .val)
 | .own => (d, .own)
 | .ptr => match d with
   | .int _ i => (.undef, .ptr i.toNat 0)
   | .B_ => (.B_, .Ba)
   | _ => (.undef, .val)
 | .YT n os => (d, .DZ ((List.range n).map fun i => if os.contains i then .own else .val))
def A75 (ks : List MK) : Bool := ks.length == 1 || ks.all fun k => match k with
 | .val => true
 | .own => true
 | _ => false
def Lg (ks : List MK) (ds : List DV) : DV × Meta :=
 match ks with
 | [k] => KD k (ds.getD 0 .undef)
 | _ => (.H7 ds, .Bf (ks.map fun k => (KD k .undef).2))
def PL : DV -> Option Nat
 | .int _ n => some n.toNat
 | _ => none
def ed {X : Type} (ks : List MK) (ds : List DV) (k : DV × Meta -> Option X) : Option X :=
 match ks with
 | [.ptr] => ob (PL (ds.getD 0 .undef)) fun i => k (.undef, .ptr i 0)
 | ks => k (Lg ks ds)
theorem A3j {X : Type} {ks : List MK} {ds : List DV} {k : DV × Meta -> Option X} {x : X} (h : ed ks ds k = some x) : k (Lg ks ds) = some x /\ ∀ (Y : Type) (k' : DV × Meta -> Option Y), ed ks ds k' = k' (Lg ks ds) := by
 unfold ed at h
 split at h
 ·cases hd : PL (ds.getD 0 .undef) with
  | none => rw [hd] at h; cases h
  | some i =>
    have e : Lg [.ptr] ds = (.undef, .ptr i 0) := by
     unfold PL at hd
     split at hd <;> simp only [Option.some.injEq, reduceCtorEq] at hd
     rename_i kk n hx;simp only [Lg, KD];rw [hx, <- hd]
    rw [hd] at h;rw [e];exact ⟨h, fun Y k' => by simp only [ed, hd, ob]⟩
 ·rename_i hne
  refine ⟨h, fun Y k' => ?_⟩
  unfold ed
  split
  ·exact absurd rfl hne
  ·rfl
def B4S : DV -> Option (List DV)
 | .agg cs => some cs
 | _ => none
def Iu (o : Oper) (f : FuncId) (xs : List Operand) (rs : List (DV × Meta)) (st : St) (k : St -> Option X) : Option X :=
 if C.clone f then
  match rs with
  | [r] => ob (qB r.1) fun p => og (J6 r.2 && p.1 == C.lV f && decide (p.2.length <= lim)) (k ({ st with sg := st.sg ++ [C9.arr (C.lV f) p.2] }.put o.dst .undef (.arr st.sg.length (C.lV f) 0 p.2.length)))
  | _ => none
 else match C.jA f with
 | some g =>
   match rs with
   | [r] => ob (B4S r.1) fun cs => og (J6 r.2 && cs.length == C.lV f) (k ({ st with sg := st.sg ++ [C9.box (cs.map fun d => (d, .val))] }.put o.dst .undef (.fn g [(st.sg.length, 0)])))
   | _ => none
 | none => match C.sig f with
   | none => og (rs.all fun r => J6 r.2) (ob (R.p f (rs.map (·.1))) fun d => k (st.put o.dst d .val))
   | some s => og ((rs.all fun r => B6I r.2) && decide ((s.params.filter Co).length <= 1) && A75 s.results)
     (ob (R.r f (Gz s.params rs) st.sg) fun q =>
       ed s.results q.1 fun r => k (({ st with sg := q.2 }.Gy (En 0 s.params xs)).put o.dst r.1 r.2))
def FK (fl : Flags) (o : Oper) (c : Call) (st : St) (k : St -> Option X) : Option X :=
 match c.callee with
 | .builtin b =>
   match b, c.args.toList, c.argTypes.toList with
   | .len, [x], [t] => Um C o x t st k
   | .append, [x, y], [t, u] => Eh C fl o x y t u st k
   | .max, [x, y], [t, u] => ob (src C.P t st x) fun r => ob (src C.P u st y) fun s => og (J6 r.2 && J6 s.2) (ob (UF r.1 s.1) fun d => k (st.put o.dst d .val))
   | .min, [x, y], [t, u] => ob (src C.P t st x) fun r => ob (src C.P u st y) fun s => og (J6 r.2 && J6 s.2) (ob (YU r.1 s.1) fun d => k (st.put o.dst d .val))
   | _, _, _ => none
 | .value fv => ob (src C.P 0 st fv) fun r => ob (IU C.P st c.argTypes.toList c.args.toList) fun rs =>
   match r.2 with
   | .fn f caps => Iu C R o f c.args.toList (rs ++ caps.map fun m => (.undef, .ptr m.1 m.2)) st k
   | _ => none
 | .invoke _ _ => none
def V_ : List (DV × Meta) -> Option (List (Nat × Nat))
 | [] => some []
 | (_, .ptr i o) :: rs => ob (V_ rs) fun ms => some ((i, o) :: ms)
 | _ => none
def I4 (fl : Flags) (o : Oper) (st : St) (k : St -> Option X) : Option X :=
 match o.op with
 | .move x => ob (src C.P o.type st x) fun r =>
   if J4 fl.P7 o.dst then k ((st.release x).put o.dst r.1 r.2) else k (st.put o.dst r.1 (dm r.2))
 | .assign x => ob (src C.P o.type st x) fun r =>
   if J4 fl.P7 o.dst then k ((st.release x).put o.dst r.1 r.2) else k (st.put o.dst r.1 (dm r.2))
 | .pick c a b => ob (src C.P 0 st c) fun rc => ob (src C.P o.type st a) fun ra => ob (src C.P o.type st b) fun rb =>
   og (J6 rc.2 && J6 ra.2 && J6 rb.2) (ob (A7X rc.1 ra.1 rb.1) fun d => k (st.put o.dst d .val))
 | .alloc t => ob (Ku C.P t) fun cs => og (OM (J4 fl.shared o.dst) o.dst st) (k (st.Am (J4 fl.shared o.dst) o.dst cs))
 | .box t x => ob (src C.P t st x) fun r =>
   if J4 fl.Wp o.dst then ob (tz C.P t) fun z => og (J6 r.2 && D6 z.1 r.1 && z.2) (k (st.put o.dst (.Hz z.1 r.1) .val))
   else if J4 fl.P7 o.dst then Hw C.P t r fun cs => og (OM false o.dst st) (k ((st.release x).Am false o.dst cs))
   else explode C.P t r fun cs => og (OM (J4 fl.shared o.dst) o.dst st) (k (st.Am (J4 fl.shared o.dst) o.dst cs))
 | .build t ps => ob (Ku C.P t) fun zs => ob (places C.P t) fun _ => GV C.P t st ps.toList zs fun cs =>
   k (st.put o.dst (gM cs).1 (gM cs).2)
 | .buildSlice t n ps => ob (IL C.P t) fun e => ob (tz C.P e) fun z => ob (Ku C.P e) fun zs => ob (rO z zs) fun ze =>
   if (n * z.1 <= 2 ^ 24 /\ z.1 ≠ 0) /\ zs.length = z.1 /\ zs.all (fun c => J6 c.2) = true then Gm C.P e z st ps.toList (List.replicate n ze) fun ds =>
    if J4 fl.DR o.dst then k ({ st with sg := st.sg ++ [C9.M6 1 z.1 ds] }.put o.dst .undef (.M6 st.sg.length 1 z.1 n)) else k (st.put o.dst (.list z.1 ds) .full)
   else none
 | .load t x => Br C fl o t x st k
 | .store t x y => Cc C o t x y st k
 | .nilCheck x => ob (src C.P 0 st x) fun r =>
   match r.2 with
   | .loc s o' => k (st.put o.dst .undef (.loc s o'))
   | .Na ag sz o' => k (st.put o.dst r.1 (.Na ag sz o'))
   | .ptr i o' => k (st.put o.dst .undef (.ptr i o'))
   | .Yy i sz j o' => k (st.put o.dst .undef (.Yy i sz j o'))
   | .opt i sz j => k (st.put o.dst .undef (.opt i sz j))
   | .fn f cs => k (st.put o.dst .undef (.fn f cs))
   | .val => ob (o.dst.bind fun t => fl.refs.find? (·.1 == t)) fun q => ob (bB q.2 r.1) fun d => k (st.put o.dst d (.Na true q.2 0))
   | _ => none
 | .binOp op t x y _ => Zo C o op t x y st k
 | .unOp op t x => ob (src C.P t st x) fun r => og (J6 r.2) (ob (M5 op r.1) fun d => k (st.put o.dst d .val))
 | .fieldAddr t x f => QC C o t x f st k
 | .indexAddr t x i => E_ C fl o t x i st k
 | .index t x i => ob (src C.P t st x) fun r => ob (src C.P 0 st i) fun j =>
   match C.P.underlying t with
   | some .string => og (J6 r.2 && J6 j.2) (ob (j6 r.1 j.1) fun d => k (st.put o.dst d .val))
   | _ => none
 | .slice t x lo hi mx => OU C o t x lo hi mx st k
 | .makeFunc (.func f) first caps =>
   if first.isEmpty then ob (IU C.P st [] caps.toList) fun rs => ob (V_ rs) fun ms => k (st.put o.dst .undef (.fn f ms))
   else none
 | .makeMap t none => ob (mapKeys C.P t) fun q => k ({ st with sg := st.sg ++ [C9.map q.1 []] }.put o.dst .undef (.map st.sg.length))
 | .lookup t x y ok => ob (src C.P t st x) fun r => ob (src C.P 0 st y) fun key => ob (mapKeys C.P t) fun q =>
   ob (A33 C.P q.2) fun ze =>
    og (isKey q.1 key.1 && J6 key.2)
     (match r.2 with
       | .map i => ob (Ko st.sg i) fun p => og (p.1 == q.1)
         (if ok then k (st.put o.dst (.H7 [(FQ p.2 key.1).getD ze, .bool (FQ p.2 key.1).isSome]) .val)
         else k (st.put o.dst ((FQ p.2 key.1).getD ze) .val))
       | _ => none)
 | .mapUpdate t x y v => ob (src C.P t st x) fun r => ob (src C.P 0 st y) fun key => ob (src C.P 0 st v) fun val => ob (mapKeys C.P t) fun q =>
   og (isKey q.1 key.1 && J6 key.2 && J6 val.2)
    (match r.2 with
      | .map i => ob (Ko st.sg i) fun p => og (p.1 == q.1) (k ({ st with sg := st.sg.set i (.map q.1 (JJ p.2 key.1 val.1)) }.put o.dst (.H7 []) .val))
      | _ => none)
 | .extract x i => ob (src C.P 0 st x) fun r =>
   match r.2 with
   | .val => ob (J5 i r.1) fun d => k (st.put o.dst d .val)
   | .Bf ms => ob (J5 i r.1) fun d =>
     match ms.getD i .val with
     | .own => if J4 fl.P7 o.dst then k ((st.rH x (.Bf (ms.set i .val))).put o.dst d .own) else k (st.put o.dst d .val)
     | .val => k (st.put o.dst d .val)
     | _ => none
   | _ => none
 | .call c => FK C R fl o c st k
 | _ => none
def A0e {α X : Type} : List α -> (List α -> X) -> X
 | [], k => k []
 | a :: l, k => A0e l fun l' => k (a :: l')
def B3E {X : Type} (m : Meta) (k : Meta -> X) : X :=
 match m with
 | .val => k .val
 | .full => k .full
 | .own => k .own
 | .loc s o => k (.loc s o)
 | .Na ag sz o => k (.Na ag sz o)
 | .ptr i o => k (.ptr i o)
 | .Ba => k .Ba
 | .map i => k (.map i)
 | .PX => k .PX
 | .arr i sz off len => k (.arr i sz off len)
 | .Yy i sz idx o => k (.Yy i sz idx o)
 | .opt i sz idx => k (.opt i sz idx)
 | .M6 i n sz len => k (.M6 i n sz len)
 | .o_ i n sz idx o => k (.o_ i n sz idx o)
 | .fn f caps => k (.fn f caps)
 | .Bf ms => k (.Bf ms)
 | .DZ ms => k (.DZ ms)
def A09 {X : Type} : List Meta -> (List Meta -> X) -> X
 | [], k => k []
 | m :: l, k => B3E m fun m' => A09 l fun l' => k (m' :: l')
def A1a {X : Type} (st : St) (k : St -> X) : X :=
 A0e st.tm fun tm => A09 st.mt fun mt => A0e st.bx fun bx => k { tm := tm, mt := mt, bx := bx, sg := st.sg }
theorem A6Z {α X : Type} : ∀ (l : List α) (k : List α -> X), A0e l k = k l
 | [], _ => rfl
 | a :: l, k => by simp only [A0e, A6Z l]
theorem A5f {X : Type} : ∀ (l : List Meta) (k : List Meta -> X), A09 l k = k l
 | [], _ => rfl
 | m :: l, k => by
   have h : ∀ (m : Meta) (k : Meta -> X), B3E m k = k m := fun m k => by cases m <;> rfl
   simp only [A09, A5f l, h]
theorem Zw {X : Type} (st : St) (k : St -> X) : A1a st k = k st := by
 simp only [A1a, A6Z, A5f]
def JH (ops : List Oper) (g : Nat) : Option Nat := ob ops[g]? fun o => o.dst
def St.know (st : St) (t : Nat) (d : DV) : St := { st with tm := st.tm.set t d }
def F7 {β : Type} (d : DV) (a b c : Option β) : Option β :=
 match d with
 | .bool true => a
 | .bool false => b
 | .H7 [] => c
 | _ => none
def EC (fl : Flags) (all : List Oper) : List Oper -> St -> (St -> Option X) -> Option X
 | [], st, k => k st
 | o :: os, st, k => A1a st fun st =>
   match o.guard with
   | none => I4 C R fl o st fun st => EC fl all os st k
   | some (g, want) => ob (JH all g) fun t => og (J6 (st.get t).2) <|
     F7 (st.get t).1
      (if want then I4 C R fl o (st.know t (.bool true)) fun st => EC fl all os st k else EC fl all os ((st.know t (.bool true)).put o.dst (.H7 []) .val) k)
      (if want then EC fl all os ((st.know t (.bool false)).put o.dst (.H7 []) .val) k else I4 C R fl o (st.know t (.bool false)) fun st => EC fl all os st k)
      (EC fl all os ((st.know t (.H7 [])).put o.dst (.H7 []) .val) k)
structure Fp where
 rt : List Nat := []
 wt : List Nat := []
 rb : List Nat := []
 wb : List Nat := []
 wl : List Nat := []
 rs : Bool := false
 ws : Bool := false
 nb : Option Nat := none
 ex : Option (Nat × Nat × Nat) := none
 so : Option Bool := none
def B5g (x : Operand) (i : Nat) (d : Option Nat) : Option (Nat × Nat × Nat) :=
 match x, d with
 | .tmp t, some u => some (t, i, u)
 | _, _ => none
def M3 : Operand -> List Nat
 | .tmp t => [t]
 | _ => []
def tmpsOf (xs : List Operand) : List Nat := xs.flatMap M3
def Gg (mt : List Meta) (t : Nat) : List Nat :=
 match mt.getD t .val with
 | .loc s _ => [s]
 | _ => []
def Z_ (m : Meta) : Option Nat :=
 match m with
 | .ptr i _ => some i
 | .opt i _ _ => some i
 | .o_ i _ _ _ _ => some i
 | _ => none
def aA (m : Meta) : Option Bool :=
 match m with
 | .ptr _ _ => some false
 | .opt _ _ _ => some true
 | .o_ _ _ _ _ _ => some true
 | _ => none
def Dp (m : Meta) : List Nat × Bool :=
 match m with
 | .loc s _ => ([s], false)
 | .Na _ _ _ => ([], false)
 | _ => ([], true)
def Fp.Ae (f : Fp) (st st1 : St) : Fp := { f with wl := f.wt.flatMap (Gg st.mt) ++ f.wt.flatMap (Gg st1.mt) }
def EM (mt : List Meta) : Operand -> List Nat
 | .tmp t => match mt.getD t .val with
   | .arr _ _ _ _ => []
   | .M6 _ _ _ _ => []
   | _ => [t]
 | _ => []
def Es (fl : Flags) (o : Oper) (st : St) : Fp :=
 let d := o.dst.toList
 let P7 := J4 fl.P7 o.dst
 match o.op with
 | .move x => { rt := M3 x, wt := d ++ (if P7 then M3 x else []) }
 | .assign x => { rt := M3 x, wt := d ++ (if P7 then M3 x else []) }
 | .pick c a b => { rt := tmpsOf [c, a, b], wt := d }
 | .alloc _ => if J4 fl.shared o.dst then { wt := d, rs := true, ws := true } else { wt := d, wb := d, nb := o.dst }
 | .box _ x => if J4 fl.Wp o.dst then { rt := M3 x, wt := d } else if J4 fl.P7 o.dst then { rt := M3 x, wt := d ++ M3 x, wb := d, nb := o.dst } else if J4 fl.shared o.dst then { rt := M3 x, wt := d, rs := true, ws := true } else { rt := M3 x, wt := d, wb := d, nb := o.dst }
 | .build _ ps => { rt := tmpsOf (ps.toList.map (·.2)), wt := d }
 | .buildSlice _ _ ps => { rt := tmpsOf (ps.toList.map (·.2)), wt := d, rs := J4 fl.DR o.dst, ws := J4 fl.DR o.dst }
 | .load _ x =>
   match src default 0 st x with
   | some r => { rt := M3 x, wt := d, rb := (Dp r.2).1, wb := if P7 then (Dp r.2).1 else [], rs := (Dp r.2).2, ws := (P7 || J4 fl.DR o.dst) && (Dp r.2).2 }
   | none => {}
 | .store _ x y =>
   match src default 0 st x with
   | some r => { rt := tmpsOf [x, y], wt := d ++ EM st.mt y, rb := (Dp r.2).1, wb := (Dp r.2).1, rs := (Dp r.2).2, ws := (Dp r.2).2, so := if o.dst.isNone then aA r.2 else none }
   | none => {}
 | .nilCheck x => { rt := M3 x, wt := d }
 | .binOp _ _ x y _ => { rt := tmpsOf [x, y], wt := d }
 | .unOp _ _ x => { rt := M3 x, wt := d }
 | .fieldAddr _ x _ => { rt := M3 x, wt := d }
 | .indexAddr _ x i => { rt := tmpsOf [x, i], wt := d }
 | .index _ x i => { rt := tmpsOf [x, i], wt := d }
 | .slice _ x lo hi mx => { rt := tmpsOf (x :: (lo.toList ++ hi.toList ++ mx.toList)), wt := d }
 | .makeFunc _ _ caps => { rt := tmpsOf caps.toList, wt := d }
 | .lookup _ x y _ => { rt := tmpsOf [x, y], wt := d, rs := true }
 | .extract x i => { rt := M3 x, wt := d ++ (if P7 then M3 x else []), ex := B5g x i o.dst }
 | .call c =>
   match c.callee with
   | .builtin .len => { rt := tmpsOf c.args.toList, wt := d, rs := true }
   | .builtin .append => { rt := tmpsOf c.args.toList, wt := d ++ tmpsOf c.args.toList, rs := J4 fl.opn o.dst || J4 fl.DR o.dst, ws := J4 fl.opn o.dst || J4 fl.DR o.dst }
   | .builtin _ => { rt := tmpsOf c.args.toList, wt := d }
   | .value x => { rt := tmpsOf (x :: c.args.toList), wt := d ++ tmpsOf c.args.toList, rs := true, ws := true }
   | .invoke _ _ => {}
 | op => { rt := tmpsOf op.operands.toList, wt := d ++ tmpsOf op.operands.toList, rs := true, ws := true }
def YC (C : AO) (o : Oper) : Bool :=
 match o.op with
 | .call c => match c.callee with
   | .value (.func f) => !C.clone f && (C.jA f).isNone && (C.sig f).isNone
   | _ => false
 | _ => false
def B8E (C : AO) (fl : Flags) (o : Oper) (st st1 : St) : Fp :=
 (if YC C o then { rt := tmpsOf o.op.operands.toList, wt := o.dst.toList } else Es fl o st).Ae st st1
def ji (a b : List Nat) : Bool := a.all fun x => !b.contains x
def A1f (f g : Fp) : Bool :=
 match f.nb with
 | some t => !g.wl.contains t
 | none => true
def B1W (f g : Fp) : Bool :=
 ji f.wt g.rt && ji f.wt g.wt && ji g.wt f.rt && ji f.wb g.rb && ji f.wb g.wb && ji g.wb f.rb &&
  !(f.ws && (g.rs || g.ws)) && !(g.ws && (f.rs || f.ws)) && A1f f g && A1f g f
def B3A (f g : Fp) : Bool :=
 match f.ex, g.ex with
 | some (x, i, d), some (y, j, e) => x == y && i != j && d != e && d != x && e != x
 | _, _ => false
def A9L (f g : Fp) : Bool :=
 match f.so, g.so with
 | some i, some j => i != j && ji f.wt g.rt && ji f.wt g.wt && ji g.wt f.rt
 | _, _ => false
def comm (f g : Fp) : Bool := B1W f g || B3A f g || A9L f g
def A8J {X : Type} (n : Nat) (k : Nat -> X) : X :=
 match n with
 | 0 => k 0
 | n + 1 => k (n + 1)
def Ld {X : Type} : List Nat -> (List Nat -> X) -> X
 | [], k => k []
 | a :: l, k => A8J a fun a' => Ld l fun l' => k (a' :: l')
def dU {X : Type} : List (List Nat) -> (List (List Nat) -> X) -> X
 | [], k => k []
 | a :: l, k => Ld a fun a' => dU l fun l' => k (a' :: l')
theorem A60 {X : Type} (n : Nat) (k : Nat -> X) : A8J n k = k n := by cases n <;> rfl
theorem VB {X : Type} : ∀ (l : List Nat) (k : List Nat -> X), Ld l k = k l
 | [], _ => rfl
 | a :: l, k => by simp only [Ld, A60, VB l]
theorem kF {X : Type} : ∀ (l : List (List Nat)) (k : List (List Nat) -> X), dU l k = k l
 | [], _ => rfl
 | a :: l, k => by simp only [dU, VB, kF l]
def uniq : List Nat -> List Nat
 | [] => []
 | a :: l => if l.contains a then uniq l else a :: uniq l
theorem A3N {x : Nat} : ∀ {l : List Nat}, x ∈ uniq l ↔ x ∈ l
 | [] => by simp [uniq]
 | a :: l => by
   simp only [uniq]
   split
   ·rename_i h
    rw [A3N (l := l), z34q];constructor
    ·exact .inr
    ·rintro (rfl | h')
     ·simpa using h
     ·exact h'
   ·rw [z34q, z34q, A3N (l := l)]
def Jn : List Oper -> List (List Nat) -> List (List Nat)
 | [], acc => acc
 | o :: os, acc => Ld (uniq ((o.after.toList.filter (Region.binds .any)).flatMap fun e => e.on :: acc.getD e.on [])) fun l => Jn os (acc ++ [l])
def SE : Nat -> List Oper -> Bool
 | _, [] => true
 | i, o :: os => (o.after.toList.filter (Region.binds .any)).all (fun e => decide (e.on < i)) && SE (i + 1) os
def IY (bf : List (List Nat)) (i : Nat) (acc : List (Nat × Fp)) (f : Fp) : Bool :=
 acc.all fun p => (bf.getD i []).contains p.1 || comm p.2 f
def A5d {X : Type} (b : Bool) (k : Bool -> X) : X :=
 match b with
 | true => k true
 | false => k false
def A8K {X : Type} (o : Option Nat) (k : Option Nat -> X) : X :=
 match o with
 | none => k none
 | some n => A8J n fun n => k (some n)
def A5Y {X : Type} (o : Option Bool) (k : Option Bool -> X) : X :=
 match o with
 | none => k none
 | some b => A5d b fun b => k (some b)
def Sm {X : Type} (f : Fp) (k : Fp -> X) : X :=
 Ld f.rt fun rt => Ld f.wt fun wt => Ld f.rb fun rb => Ld f.wb fun wb => Ld f.wl fun wl =>
  A5d f.rs fun rs => A5d f.ws fun ws => A8K f.nb fun nb => A5Y f.so fun so => k { rt := rt, wt := wt, rb := rb, wb := wb, wl := wl, rs := rs, ws := ws, nb := nb, ex := f.ex, so := so }
theorem A6Y {X : Type} (b : Bool) (k : Bool -> X) : A5d b k = k b := by cases b <;> rfl
theorem B3F {X : Type} (o : Option Nat) (k : Option Nat -> X) : A8K o k = k o := by cases o <;> simp only [A8K, A60]
theorem B2a {X : Type} (o : Option Bool) (k : Option Bool -> X) : A5Y o k = k o := by cases o <;> simp only [A5Y, A6Y]
theorem A5e {X : Type} (f : Fp) (k : Fp -> X) : Sm f k = k f := by
 simp only [Sm, VB, A6Y, B3F, B2a]
def Fp.look (f : Fp) (t : Nat) : Fp := { f with rt := t :: f.rt, ex := none, so := none }
def B9E (o : Oper) (t : Nat) (st : St) : Fp := Fp.Ae { rt := [t], wt := o.dst.toList } st (st.put o.dst (.H7 []) .val)
def lY (fl : Flags) (o : Oper) (t : Nat) (st : St) (J : Fp -> St -> Option X) : Option X :=
 I4 C R fl o st fun st1 => J ((B8E C fl o st st1).look t) st1
def WB (o : Oper) (t : Nat) (st : St) (J : Fp -> St -> Option X) : Option X :=
 J (B9E o t st) (st.put o.dst (.H7 []) .val)
def CQ (fl : Flags) (all : List Oper) (bf : List (List Nat)) : List Oper -> Nat -> List (Nat × Fp) -> St -> (St -> Option X) -> Option X
 | [], _, _, st, k => k st
 | o :: os, i, acc, st, k => A1a st fun st =>
   match o.guard with
   | none => I4 C R fl o st fun st1 => Sm (B8E C fl o st st1) fun f => og (IY bf i acc f) (CQ fl all bf os (i + 1) ((i, f) :: acc) st1 k)
   | some (g, want) => ob (JH all g) fun t => og (J6 (st.get t).2) <|
     F7 (st.get t).1
      (if want then lY C R fl o t (st.know t (.bool true)) fun f st1 => Sm f fun f => og (IY bf i acc f) (CQ fl all bf os (i + 1) ((i, f) :: acc) st1 k)
       else WB o t (st.know t (.bool true)) fun f st1 => Sm f fun f => og (IY bf i acc f) (CQ fl all bf os (i + 1) ((i, f) :: acc) st1 k))
      (if want then WB o t (st.know t (.bool false)) fun f st1 => Sm f fun f => og (IY bf i acc f) (CQ fl all bf os (i + 1) ((i, f) :: acc) st1 k)
       else lY C R fl o t (st.know t (.bool false)) fun f st1 => Sm f fun f => og (IY bf i acc f) (CQ fl all bf os (i + 1) ((i, f) :: acc) st1 k))
      (WB o t (st.know t (.H7 [])) fun f st1 => Sm f fun f => og (IY bf i acc f) (CQ fl all bf os (i + 1) ((i, f) :: acc) st1 k))
inductive Out where
 | normal
 | exit (id : Nat)
 | ret
 deriving Inhabited
def NR (fl : Flags) (id : Nat) (st : St) : St :=
 match fl.keep.find? (·.1 == id) with
 | some e => st.keep e.2.1 e.2.2.1 e.2.2.2.1 e.2.2.2.2
 | none => st
def A0g : Code -> Option Nat
 | .region id _ _ => some id
 | .seq a _ => A0g a
 | .block _ b => A0g b
 | .loop b => A0g b
 | _ => none
def clean (fl : Flags) (c : Code) (st : St) : St :=
 match A0g c with
 | some id => NR fl id st
 | none => st
def aI {X : Type} (r : Nat) (st : St) (k : St -> Option X) : Option X :=
 match (st.get r).2 with
 | .arr i sz 0 len => ob (Fw st.sg i) fun q => ob (Hr q sz len) fun d => k ({ st with sg := st.sg.set i (.arr 1 []) }.put (some r) d .own)
 | .ptr b off => ob (E9 st.sg b) fun cs => ob (OP cs off) fun a => ob (Fw st.sg a.1) fun q => ob (Hr q a.2.1 a.2.2) fun d =>
    k { st with sg := (st.sg.set b (.box (cs.set off (d, .own)))).set a.1 (.arr 1 []) }
 | _ => none
def Ff {X : Type} (fl : Flags) (id : Nat) (st : St) (k : St -> Option X) : Option X :=
 match fl.B2F.find? (·.1 == id) with
 | some e => aI e.2 st k
 | none => k st
def A41 (P : Program) (c : Operand) (st : St) (a b : St -> Option X) : Option X :=
 ob (src P 0 st c) fun r => og (J6 r.2) <|
  match c with
  | .tmp t => D7 r.1 (a (st.know t (.bool true))) (b (st.know t (.bool false)))
  | _ => D7 r.1 (a st) (b st)
def iter {S X : Type} (F : (S -> Option X) -> S -> Option X) : Nat -> S -> Option X
 | 0, _ => none
 | n + 1, s => F (iter F n) s
def A1n (r : DV × Meta) : DV × Meta :=
 match r.2 with
 | .val => (r.1, .val)
 | .full => (r.1, .full)
 | .own => (r.1, .val)
 | .ptr i o => (.undef, .ptr i o)
 | .Ba => (.B_, .Ba)
 | .map i => (.undef, .map i)
 | .PX => (.undef, .PX)
 | .fn f caps => (.undef, .fn f caps)
 | _ => (.undef, .val)
def AA (st : St) (sg : List C9) : St :=
 { tm := (st.tm.zip st.mt).map (fun r => (A1n r).1), mt := (st.tm.zip st.mt).map (fun r => (A1n r).2), bx := st.bx.map (fun _ => none), sg := sg }
def Wt (st : St) (p : Nat) (d : DV) (sg : List C9) : St := (AA st sg).put (some p) d .val
def BL : List (DV × Meta) -> Option (List DV)
 | [] => some []
 | c :: cs => og (match c.2 with
   | .val => true
   | .full => true
   | .own => true
   | _ => false) (ob (BL cs) fun ds => some (c.1 :: ds))
def Bu : Code -> Bool
 | .rangeFunc _ _ _ _ => false
 | .seq a b => Bu a && Bu b
 | .cond _ a b => Bu a && Bu b
 | .block _ b => Bu b
 | .loop b => Bu b
 | _ => true
def qU : Code -> Bool
 | .region _ _ false => true
 | .skip => true
 | _ => false
def LP {X : Type} (step : DV -> (List C9 -> Option X) -> List C9 -> Option X) (fin : List C9 -> Option X) : List DV -> List C9 -> Option X
 | [], sg => fin sg
 | d :: ds, sg => step d (LP step fin ds) sg
def A06 {X : Type} (C : AO) (st : St) (g : Operand) (ps : Array Nat) (pl : Bool) (fin : St -> Option X) (step : Nat -> DV -> (List C9 -> Option X) -> List C9 -> Option X) : Option X :=
 match g, ps.toList with
 | .tmp t, [p] =>
   match (st.get t).2 with
   | .fn f [(i, 0)] => ob (C.iter f) fun it => ob (E9 st.sg i) fun cs => ob (BL cs) fun cd => ob (it cd) fun ds => og pl
      (LP (step p) (fun sg => fin (AA st sg)) ds (st.sg.set i (.arr 1 [])))
   | _ => none
 | _, _ => none
open Classical in
def Gh {S X : Type} (F : (S -> Option X) -> S -> Option X) (s : S) : Option X :=
 if h : ∃ x n, iter F n s = some x then some h.choose else none
def l6 (fl : Flags) : Code -> (Out -> St -> Option X) -> St -> Option X
 | .skip, K, st => K .normal st
 | .region id ops false, K, st => EC C R fl ops.toList ops.toList (NR fl id st) fun st => Ff fl id st (K .normal)
 | .region id ops true, K, st => og (SE 0 ops.toList) (dU (Jn ops.toList []) fun bf => CQ C R fl ops.toList bf ops.toList 0 [] (NR fl id st) fun st => Ff fl id st (K .normal))
 | .seq a b, K, st => l6 fl a (fun o st => match o with
    | .normal => l6 fl b K (clean fl b st)
    | .exit i => K (.exit i) st
    | .ret => K .ret st) st
 | .cond c a b, K, st => A41 C.P c st (fun st => l6 fl a K (clean fl a st)) (fun st => l6 fl b K (clean fl b st))
 | .block id b, K, st => l6 fl b (fun o st => match o with
    | .normal => K .normal st
    | .exit i => if i = id then K .normal st else K (.exit i) st
    | .ret => K .ret st) st
 | .loop b, K, st => Gh (fun J st => l6 fl b (fun o st => match o with
    | .normal => J (clean fl b st)
    | .exit i => K (.exit i) st
    | .ret => K .ret st) st) (clean fl b st)
 | .rangeFunc g ps assign body, K, st => A06 C st g ps (qU assign && Bu body) (fun st => K .normal st) fun p d J sg =>
    l6 fl assign (fun o st1 => match o with
     | .normal => l6 fl body (fun o st2 => match o with
       | .normal => J st2.sg
       | .exit e => K (.exit e) (AA st st2.sg)
       | .ret => K .ret (AA st st2.sg)) (clean fl body st1)
     | .exit _ => none
     | .ret => none) (clean fl assign (Wt st p d sg))
 | .exit id, K, st => K (.exit id) st
 | .ret, K, st => K .ret st
 | _, _, _ => none
end
variable (fn : Func)
def F4 (rs : List (DV × Meta)) (sg : List C9) : St where
 tm := rs.map (·.1) ++ List.replicate (fn.ntmps - rs.length) (.H7 [])
 mt := rs.map (·.2) ++ List.replicate (fn.ntmps - rs.length) .val
 bx := List.replicate (rs.length + (fn.ntmps - rs.length)) none
 sg := sg
def Z0 (c : DV × Meta) : Option DV :=
 match c.2 with
 | .val => some c.1
 | .full => some c.1
 | .own => some c.1
 | .Ba => some c.1
 | .arr i sz off len => ob (DX sg i) fun a => og (a.1 == sz) (if off + len <= a.2.length then some (.list sz ((a.2.drop off).take len)) else none)
 | _ => none
def Y4 (sg : List C9) : List (DV × Meta) -> Option (List DV)
 | [] => some []
 | c :: cs => ob (Z0 sg c) fun d => ob (Y4 sg cs) fun ds => some (d :: ds)
def fB : ResultVar -> Option DV
 | .tmp t =>
   match (st.get t).2 with
   | .DZ ms =>  og (J6 (.DZ ms)) (some (st.get t).1)
   | _ => Z0 st.sg (st.get t)
 | .cell a t =>
   match (st.get a).2 with
   | .loc s 0 => ob (st.bx.getD s none) fun cs => ob (tz P t) fun z =>
     if z.1 = cs.length then
      if z.2 then ob (Y4 st.sg cs) fun ds => some (.agg ds)
      else match cs with
       | [c] => Z0 st.sg c
       | _ => none
     else none
   | .ptr i 0 => ob (E9 st.sg i) fun cs => ob (tz P t) fun z =>
     if z.1 = cs.length then
      if z.2 then ob (Y4 st.sg cs) fun ds => some (.agg ds)
      else match cs with
       | [c] => Z0 st.sg c
       | _ => none
     else none
   | _ => none
def aN (P : Program) (st : St) : List ResultVar -> Option (List DV)
 | [] => some []
 | v :: vs => ob (fB P st v) fun d => ob (aN P st vs) fun ds => some (d :: ds)
def pack : List DV -> DV
 | [d] => d
 | ds => .H7 ds
def Yo : Out -> St -> Option DV
 | .exit _, _ => none
 | _, st => ob (aN P st fn.results.toList) fun ds => some (pack ds)
def A01 : Meta -> List Nat
 | .arr i _ _ _ => [i]
 | _ => []
def UD : ResultVar -> List Nat
 | .tmp t => A01 (st.get t).2
 | .cell a _ =>
   match (st.get a).2 with
   | .loc s _ =>
     match st.bx.getD s none with
     | some cs => cs.flatMap fun c => A01 c.2
     | none => []
   | _ => []
def kill (us : List Nat) : List C9 := us.foldl (fun g i => g.set i (.arr 1 [])) sg
def A3J : ResultVar -> Bool
 | .tmp _ => true
 | .cell a _ =>
   match (st.get a).2 with
   | .loc _ _ => true
   | _ => false
def A9r (r : DV × Meta) : Option DV :=
 match r.2 with
 | .ptr i 0 => some (.int .u64 i)
 | .Ba => some .B_
 | _ => none
def lL (os : List Nat) : Nat -> List (DV × Meta) -> Bool
 | _, [] => true
 | i, c :: cs => (if os.contains i then Jy c.2 else J6 c.2) && lL os (i + 1) cs
def A5s (sl : Bool) (st : St) (k : MK) (v : ResultVar) : Option DV :=
 match k with
 | .val => match sl && A3J st v with
   | true => fB P st v
   | false => fB P { st with sg := [] } v
 | .own =>
   match v with
   | .tmp t => og (Jy (st.get t).2) (some (st.get t).1)
   | _ => none
 | .ptr =>
   match v with
   | .tmp t => A9r (st.get t)
   | _ => none
 | .YT n os =>
   match v with
   | .cell a t =>
     match (st.get a).2 with
     | .loc s 0 => ob (st.bx.getD s none) fun cs => ob (tz P t) fun z => og (z.2 && z.1 == cs.length && n == z.1 && lL os 0 cs) (some (.agg (cs.map (·.1))))
     | _ => none
   | _ => none
def YK (P : Program) (sl : Bool) (st : St) : List MK -> List ResultVar -> Option (List DV)
 | [], [] => some []
 | k :: ks, v :: vs => ob (A5s P sl st k v) fun d => ob (YK P sl st ks vs) fun ds => some (d :: ds)
 | _, _ => none
def fC (s : Ag) : Out -> St -> Option (List DV × List C9)
 | .exit _, _ => none
 | _, st => og (decide ((s.results.filter Co).length <= 1)) (ob (YK P s.lock st s.results fn.results.toList) fun ds => some (ds, match s.lock with
   | true => kill st.sg (fn.results.toList.flatMap (UD st))
   | false => st.sg))
def Cu (R : Q8) : Q8 where
 p f ds := ob C.P.funcs[f]? fun fn => ob fn.body fun c =>
     l6 C R (C.fl f) c (Yo C.P fn) (F4 fn (ds.map fun d => (d, .val)) [])
 r f rs sg := ob (C.sig f) fun s => ob C.P.funcs[f]? fun fn => ob fn.body fun c =>
   l6 C R (C.fl f) c (fC C.P fn s) (F4 fn rs sg)
def Kl (C : AO) : Nat -> Q8
 | 0 => { p := fun _ _ => none, r := fun _ _ _ => none }
 | n + 1 => Cu C (Kl C n)
open Classical in
def run : Q8 where
 p f ds := if h : ∃ x n, (Kl C n).p f ds = some x then some h.choose else none
 r f rs sg := if h : ∃ x n, (Kl C n).r f rs sg = some x then some h.choose else none
abbrev pt : DV × Meta := (.undef, .ptr i 0)
abbrev oc {α : Type} (q : Option (List DV × List C9)) (k : DV -> List C9 -> Option α) : Option α := ob q fun r => k (r.1.getD 0 .undef) r.2
end
end Go.Su

/-
 THE DATA MACHINE, part 3: what it means that memory holds plain data, and what keeps it so.
-/
namespace Go.Su
abbrev Heap := Array Obj
abbrev Z5 := Nat -> Nat -> Prop
variable (h : Heap)
def hc (b o : Nat) : Option Value :=
 match h[b]? with
 | some (.cells c _ _) => c[o]?
 | _ => none
theorem SC (w : World) (b o : Nat) : w.cell? ⟨b, o, none⟩ = hc w.heap b o := by
 unfold World.cell? hc
 split <;> simp_all
variable (S : Z5)
def At (h : Heap) (b o : Nat) (vs : List Value) : Prop :=
 ∀ j v, vs[j]? = some v -> hc h b (o + j) = some v /\ S b (o + j)
mutual
def RC (S : Z5) (h : Heap) : DV -> List Value -> Prop
 | .undef, vs => ∃ v, vs = [v] /\ v.oneCell' = true
 | .int k n, vs => vs = [.int k n]
 | .bool b, vs => vs = [.bool b]
 | .str s, vs => vs = [.string s]
 | .agg cs, vs => GI S h cs vs
 | .H7 _, _ => False
 | .list sz ds, vs => ∃ a len cap, vs = [.slice a len cap] /\ len = ds.length /\ len <= cap /\ (a = none -> cap = 0) /\ (ds ≠ [] -> 0 < sz) /\
    ∀ x, a = some x -> (0 < cap -> x.spot = none) /\ Di S h sz x.block x.off ds
 | .B_, vs => vs = [.pointer none]
 | .Hz sz d, vs => ∃ b o, vs = [.pointer (some ⟨b, o, none⟩)] /\ ∃ us : List Value, us.length = sz /\ At S h b o us /\ RC S h d us
def GI (S : Z5) (h : Heap) : List DV -> List Value -> Prop
 | [], vs => vs = []
 | d :: ds, vs => ∃ v vs', vs = v :: vs' /\ M4 d = true /\ RC S h d [v] /\ GI S h ds vs'
def Di (S : Z5) (h : Heap) (sz b : Nat) : Nat -> List DV -> Prop
 | _, [] => True
 | o, d :: ds => (∃ vs, vs.length = sz /\ At S h b o vs /\ RC S h d vs) /\ Di S h sz b (o + sz) ds
end
mutual
def RV (S : Z5) (h : Heap) : DV -> Value -> Prop
 | .undef, _ => True
 | .int k n, v => v = .int k n
 | .bool b, v => v = .bool b
 | .str s, v => v = .string s
 | .agg cs, v => ∃ vs, v = .agg vs /\ GI S h cs vs.toList
 | .H7 ds, v => ∃ vs, v = .tuple vs /\ Pq S h ds vs.toList
 | .list sz ds, v => RC S h (.list sz ds) [v]
 | .B_, v => v = .pointer none
 | .Hz sz d, v => RC S h (.Hz sz d) [v]
def Pq (S : Z5) (h : Heap) : List DV -> List Value -> Prop
 | [], vs => vs = []
 | d :: ds, vs => ∃ v vs', vs = v :: vs' /\ RV S h d v /\ Pq S h ds vs'
end
theorem EO {S : Z5} {h : Heap} : ∀ {cs : List DV} {vs : List Value}, GI S h cs vs ↔
 cs.length = vs.length /\ ∀ (i : Nat) d v, cs[i]? = some d -> vs[i]? = some v -> M4 d = true /\ RC S h d [v]
 | [], vs => by
   simp only [GI];constructor
   ·rintro rfl; simp
   ·rintro ⟨h1, -⟩; exact z24q h1.symm
 | d :: ds, vs => by
   simp only [GI];constructor
   ·rintro ⟨v, vs', rfl, hl, hc, hr⟩
    obtain ⟨h1, h2⟩ := EO.1 hr;refine ⟨by simp [h1], fun i d' v' hd hv => ?_⟩
    cases i with
    | zero => simp at hd hv; subst hd hv; exact ⟨hl, hc⟩
    | succ i => simp at hd hv; exact h2 i d' v' hd hv
   ·rintro ⟨h1, h2⟩
    cases vs with
    | nil => simp at h1
    | cons v vs' =>
      refine ⟨v, vs', rfl, (h2 0 d v rfl rfl).1, (h2 0 d v rfl rfl).2, EO.2 ⟨by simpa using h1, fun i d' v' hd hv => h2 (i + 1) d' v' (by simpa using hd) (by simpa using hv)⟩⟩
theorem Vy {S : Z5} {h : Heap} : ∀ {cs : List DV} {vs : List Value}, Pq S h cs vs ↔
 cs.length = vs.length /\ ∀ (i : Nat) d v, cs[i]? = some d -> vs[i]? = some v -> RV S h d v
 | [], vs => by
   simp only [Pq];constructor
   ·rintro rfl; simp
   ·rintro ⟨h1, -⟩; exact z24q h1.symm
 | d :: ds, vs => by
   simp only [Pq];constructor
   ·rintro ⟨v, vs', rfl, hc, hr⟩
    obtain ⟨h1, h2⟩ := Vy.1 hr;refine ⟨by simp [h1], fun i d' v' hd hv => ?_⟩
    cases i with
    | zero => simp at hd hv; subst hd hv; exact hc
    | succ i => simp at hd hv; exact h2 i d' v' hd hv
   ·rintro ⟨h1, h2⟩
    cases vs with
    | nil => simp at h1
    | cons v vs' =>
      refine ⟨v, vs', rfl, h2 0 d v rfl rfl, Vy.2 ⟨by simpa using h1, fun i d' v' hd hv => h2 (i + 1) d' v' (by simpa using hd) (by simpa using hv)⟩⟩
def Elem (S : Z5) (h : Heap) (sz b o : Nat) (d : DV) : Prop := ∃ vs : List Value, vs.length = sz /\ At S h b o vs /\ RC S h d vs
theorem EA {S : Z5} {h : Heap} {sz b : Nat} : ∀ {ds : List DV} {o : Nat}, Di S h sz b o ds ↔
 ∀ (i : Nat) d, ds[i]? = some d -> Elem S h sz b (o + i * sz) d
 | [], o => by simp [Di]
 | d :: ds, o => by
   simp only [Di];constructor
   ·rintro ⟨h1, h2⟩ i d' hd
    cases i with
    | zero => simp at hd; subst hd; simpa [Elem] using h1
    | succ i =>
      have := EA.1 h2 i d' (by simpa using hd)
      rw [z26q, z35q (i * sz), <- z16q];exact this
   ·intro hh
    refine ⟨by simpa [Elem] using hh 0 d rfl, EA.2 fun i d' hd => ?_⟩
    have := hh (i + 1) d' (by simpa using hd)
    rw [z26q, z35q (i * sz), <- z16q] at this;exact this
structure Z9 (S : Z5) (h : Heap) (S' : Z5) (h' : Heap) : Prop where
 s : ∀ b o, S b o -> S' b o
 c : ∀ b o v, S b o -> hc h b o = some v -> hc h' b o = some v
variable {S : Z5} {h : Heap} {vs : List Value}
theorem At.mono {S' : Z5} {h' : Heap} {b o : Nat} (J3 : Z9 S h S' h') (H : At S h b o vs) : At S' h' b o vs :=
 fun j v hv => ⟨J3.c _ _ _ (H j v hv).2 (H j v hv).1, J3.s _ _ (H j v hv).2⟩
mutual
theorem RC.mono {S S' : Z5} {h h' : Heap} (J3 : Z9 S h S' h') : ∀ (d : DV) {vs : List Value}, RC S h d vs -> RC S' h' d vs
 | .undef, _, H => by simpa only [RC] using H
 | .int _ _, _, H => by simpa only [RC] using H
 | .bool _, _, H => by simpa only [RC] using H
 | .str _, _, H => by simpa only [RC] using H
 | .agg cs, _, H => by simp only [RC] at H ⊢; exact GI.mono J3 cs H
 | .H7 _, _, H => by simp only [RC] at H
 | .list sz ds, _, H => by
   simp only [RC] at H ⊢;obtain ⟨a, len, cap, h1, h2, h3, h4, h5, h6⟩ := H;exact ⟨a, len, cap, h1, h2, h3, h4, h5, fun x hx => ⟨(h6 x hx).1, Di.mono J3 ds (h6 x hx).2⟩⟩
 | .B_, _, H => by simpa only [RC] using H
 | .Hz sz d, _, H => by
   simp only [RC] at H ⊢;obtain ⟨b, o, h1, us, h2, h3, h4⟩ := H;exact ⟨b, o, h1, us, h2, h3.mono J3, RC.mono J3 d h4⟩
theorem GI.mono {S S' : Z5} {h h' : Heap} (J3 : Z9 S h S' h') : ∀ (ds : List DV) {vs : List Value}, GI S h ds vs -> GI S' h' ds vs
 | [], _, H => by simpa only [GI] using H
 | d :: ds, _, H => by
   simp only [GI] at H ⊢;obtain ⟨v, vs', h1, h2, h3, h4⟩ := H;exact ⟨v, vs', h1, h2, RC.mono J3 d h3, GI.mono J3 ds h4⟩
theorem Di.mono {S S' : Z5} {h h' : Heap} (J3 : Z9 S h S' h') {sz b : Nat} : ∀ (ds : List DV) {o : Nat}, Di S h sz b o ds -> Di S' h' sz b o ds
 | [], _, _ => by simp only [Di]
 | d :: ds, _, H => by
   simp only [Di] at H ⊢;obtain ⟨⟨vs, h1, h2, h3⟩, h4⟩ := H;exact ⟨⟨vs, h1, h2.mono J3, RC.mono J3 d h3⟩, Di.mono J3 ds h4⟩
end
variable {S : Z5} {h : Heap} {d : DV}
theorem Elem.mono {S' : Z5} {h' : Heap} (J3 : Z9 S h S' h') {sz b o : Nat} (H : Elem S h sz b o d) : Elem S' h' sz b o d :=
 let ⟨vs, h1, h2, h3⟩ := H
 ⟨vs, h1, h2.mono J3, RC.mono J3 d h3⟩
mutual
theorem RV.mono {S S' : Z5} {h h' : Heap} (J3 : Z9 S h S' h') : ∀ (d : DV) {v : Value}, RV S h d v -> RV S' h' d v
 | .undef, _, _ => by simp only [RV]
 | .int _ _, _, H => by simpa only [RV] using H
 | .bool _, _, H => by simpa only [RV] using H
 | .str _, _, H => by simpa only [RV] using H
 | .agg cs, _, H => by simp only [RV] at H ⊢; obtain ⟨vs, h1, h2⟩ := H; exact ⟨vs, h1, GI.mono J3 cs h2⟩
 | .H7 ds, _, H => by simp only [RV] at H ⊢; obtain ⟨vs, h1, h2⟩ := H; exact ⟨vs, h1, Pq.mono J3 ds h2⟩
 | .list _ _, _, H => by simp only [RV] at H ⊢; exact RC.mono J3 _ H
 | .B_, _, H => by simpa only [RV] using H
 | .Hz _ _, _, H => by simp only [RV] at H ⊢; exact RC.mono J3 _ H
theorem Pq.mono {S S' : Z5} {h h' : Heap} (J3 : Z9 S h S' h') : ∀ (ds : List DV) {vs : List Value}, Pq S h ds vs -> Pq S' h' ds vs
 | [], _, H => by simpa only [Pq] using H
 | d :: ds, _, H => by
   simp only [Pq] at H ⊢;obtain ⟨v, vs', h1, h2, h3⟩ := H;exact ⟨v, vs', h1, RV.mono J3 d h2, Pq.mono J3 ds h3⟩
end
variable {S : Z5} {h : Heap} {d : DV} {v : Value}
theorem Ir (hl : M4 d = true) (H : RC S h d [v]) : v.oneCell' = true := by
 cases d <;> simp only [RC, M4] at H hl <;> try contradiction
 ·obtain ⟨u, hu, hv⟩ := H; simp at hu; subst hu; exact hv
 ·simp at H; subst H; rfl
 ·simp at H; subst H; rfl
 ·simp at H; subst H; rfl
 ·obtain ⟨a, len, cap, hu, -⟩ := H; simp at hu; subst hu; rfl
 ·simp at H; subst H; rfl
 ·obtain ⟨b, o, hu, -⟩ := H; simp at hu; subst hu; rfl
variable {vs : List Value}
theorem Jm (hl : M4 d = true) (H : RC S h d vs) : ∃ v, vs = [v] := by
 cases d <;> simp only [RC, M4] at H hl <;> try contradiction
 ·obtain ⟨u, hu, -⟩ := H; exact ⟨u, hu⟩
 ·exact ⟨_, H⟩
 ·exact ⟨_, H⟩
 ·exact ⟨_, H⟩
 ·obtain ⟨a, len, cap, hu, -⟩ := H; exact ⟨_, hu⟩
 ·exact ⟨_, H⟩
 ·obtain ⟨b, o, hu, -⟩ := H; exact ⟨_, hu⟩
theorem Ms (hl : M4 d = true) (H : RC S h d [v]) : RV S h d v := by
 cases d <;> simp only [RC, RV, M4] at H hl ⊢ <;> try contradiction
 ·simpa using H
 ·simpa using H
 ·simpa using H
 ·exact H
 ·simpa using H
 ·exact H
theorem Mr (hl : M4 d = true) (hv : v.oneCell' = true) (H : RV S h d v) : RC S h d [v] := by
 cases d <;> simp only [RC, RV, M4] at H hl ⊢ <;> try contradiction
 ·exact ⟨v, rfl, hv⟩
 ·simpa using H
 ·simpa using H
 ·simpa using H
 ·exact H
 ·simpa using H
 ·exact H
theorem OL (H : RC S h d vs) {j : Nat} (hv : vs[j]? = some v) :
 M4 (A7 j d) = true /\ RC S h (A7 j d) [v] := by
 have und : ∀ u : Value, u.oneCell' = true -> M4 DV.undef = true /\ RC S h DV.undef [u] := fun u hu => ⟨rfl, by simp only [RC]; exact ⟨u, rfl, hu⟩⟩
 cases d with
 | agg cs =>
   simp only [RC] at H;obtain ⟨h1, h2⟩ := EO.1 H;have hj : j < vs.length := (z0q.1 hv).1;have hc : cs[j]? = some (cs[j]'(by omega)) := z9q (by omega)
   have := h2 j _ v hc hv;simp only [A7, z1q, hc, z29q];exact this
 | H7 _ => simp only [RC] at H
 | undef =>
   obtain ⟨u, rfl⟩ := Jm (d := .undef) rfl H;have h1 := Ir (d := .undef) rfl H;cases j with
   | zero => simp at hv; subst hv; exact und _ h1
   | succ j => simp at hv
 | int k n =>
   obtain ⟨u, rfl⟩ := Jm (d := .int k n) rfl H;have h1 := Ir (d := .int k n) rfl H;cases j with
   | zero => simp at hv; subst hv; exact und _ h1
   | succ j => simp at hv
 | bool b =>
   obtain ⟨u, rfl⟩ := Jm (d := .bool b) rfl H;have h1 := Ir (d := .bool b) rfl H;cases j with
   | zero => simp at hv; subst hv; exact und _ h1
   | succ j => simp at hv
 | str s =>
   obtain ⟨u, rfl⟩ := Jm (d := .str s) rfl H;have h1 := Ir (d := .str s) rfl H;cases j with
   | zero => simp at hv; subst hv; exact und _ h1
   | succ j => simp at hv
 | list sz ds =>
   obtain ⟨u, rfl⟩ := Jm (d := .list sz ds) rfl H;have h1 := Ir (d := .list sz ds) rfl H;cases j with
   | zero => simp at hv; subst hv; exact und _ h1
   | succ j => simp at hv
 | B_ =>
   obtain ⟨u, rfl⟩ := Jm (d := .B_) rfl H;have h1 := Ir (d := .B_) rfl H;cases j with
   | zero => simp at hv; subst hv; exact und _ h1
   | succ j => simp at hv
 | Hz sz d =>
   obtain ⟨u, rfl⟩ := Jm (d := .Hz sz d) rfl H;have h1 := Ir (d := .Hz sz d) rfl H;cases j with
   | zero => simp at hv; subst hv; exact und _ h1
   | succ j => simp at hv
end Go.Su

/-
 THE DATA MACHINE, part 4: a state of the data machine and a state of the model that hold the same.
-/
namespace Go.Su
inductive Tag where
 | other
 | shut
 | Rt (s : Nat)
 | obj (i : Nat)
 | sp (k a b : Nat)
 deriving DecidableEq
structure Env where
 blk : Nat -> Nat
 obj : Nat -> Nat
 base : Nat -> Nat
 top : Nat -> Nat
 O : Nat -> Nat -> Tag
 n : Nat
 Aa : Nat -> Nat
variable (E : Env)
def Env.In (i : Nat) : Prop := i < E.n /\ E.Aa i = 0
def Env.S : Z5 := fun b o => E.O b o = .shut
variable (h : Heap) (tg : Tag)
def A7T (sz : Nat) (v : Value) : Prop :=
 ∀ (x : Addr) (len cap : Nat), v = .slice (some x) len cap -> len < cap -> ∃ c T f, h[x.block]? = some (.cells c T f) /\ x.off + cap * sz <= c.size /\
   ∀ o, x.off + len * sz <= o -> o < x.off + cap * sz -> E.O x.block o = tg /\ ¬(f.1 <= o /\ o < f.2)
def J8 (d : DV) (m : Meta) (v : Value) : Prop :=
 match m with
 | .val => RV E.S h d v
 | .full => RV E.S h d v /\ (∃ (a : Option Addr) (n : Nat), v = .slice a n n) /\ ∃ sz ds, d = .list sz ds
 | .own => RV E.S h d v /\ ∃ sz ds, d = .list sz ds /\ A7T E h tg sz v
 | .loc s o => d = .undef /\ v = .pointer (some ⟨E.blk s, o, none⟩)
 | .Na ag sz o => ∃ b o0, v = .pointer (some ⟨b, o0 + o, none⟩) /\ Elem E.S h sz b o0 d /\ (ag = false -> M4 d = true)
 | .ptr i o => E.In i /\ v = .pointer (some ⟨E.obj i, o, none⟩)
 | .Ba => d = .B_ /\ v = .pointer none
 | .map i => E.In i /\ v = .map (some (E.obj i))
 | .PX => v = .map none
 | .arr i sz off len => E.In i /\ ∃ (a : Option Addr) (cap : Nat), v = .slice a len cap /\ (0 < len -> a = some ⟨E.obj i, E.base i + off * sz, none⟩) /\ len <= cap /\ (a = none -> cap = 0) /\ (∀ x, a = some x -> x.spot = none) /\ (0 < len -> E.base i + (off + cap) * sz <= E.top i)
 | .Yy i sz idx o => E.In i /\ v = .pointer (some ⟨E.obj i, E.base i + idx * sz + o, none⟩)
 | .opt i sz idx => E.In i /\ v = .pointer (some ⟨E.obj i, E.base i + idx * sz, none⟩)
 | .M6 i n sz len => i < E.n /\ 0 < n /\ n <= E.Aa i /\ ∃ (a : Option Addr) (cap : Nat), v = .slice a len cap /\ len <= cap /\ (a = none -> cap = 0) /\ (0 < cap -> ∀ x, a = some x -> x.spot = none) /\
    (E.Aa i = n -> 0 < cap -> a = some ⟨E.obj i, E.base i, none⟩ /\ E.base i + cap * sz <= E.top i)
 | .o_ i n sz idx o => i < E.n /\ 0 < n /\ n <= E.Aa i /\ ∃ b p, v = .pointer (some ⟨b, p + o, none⟩) /\ (E.Aa i = n -> b = E.obj i /\ p = E.base i + idx * sz)
 | .fn f caps => v = .func (.func f) #[] (caps.map fun c => Value.pointer (some ⟨E.obj c.1, c.2, none⟩)).toArray /\ ∀ c ∈ caps, E.In c.1
 | .Bf _ => False
 | .DZ _ => False
def RR (k a : Nat) (d : DV) (m : Meta) (v : Value) : Prop :=
 match m with
 | .Bf ms => ∃ (ds : List DV) (vs : Array Value), d = .H7 ds /\ v = .tuple vs /\ ds.length = ms.length /\ vs.size = ms.length /\
    ∀ (i : Nat) m' d' u, ms[i]? = some m' -> ds[i]? = some d' -> vs[i]? = some u -> Y8 m' = true /\ J8 E h (.sp k a (i + 1)) d' m' u
 | .DZ ms => ∃ (ds : List DV) (vs : Array Value), d = .agg ds /\ v = .agg vs /\ ds.length = ms.length /\ vs.size = ms.length /\
    ∀ (i : Nat) m' d' u, ms[i]? = some m' -> ds[i]? = some d' -> vs[i]? = some u -> M4 d' = true /\ u.oneCell' = true /\ Y8 m' = true /\ J8 E h (.sp k a (i + 1)) d' m' u
 | m => J8 E h (.sp k a 0) d m v
def ah (k a : Nat) (b : Nat) (cs : List (DV × Meta)) : Prop :=
 ∃ c T, h[b]? = some (.cells c T (0, 0)) /\ c.size = cs.length /\ (∀ o, E.O b o = tg \/ c.size <= o) /\
   ∀ (j : Nat) r v, cs[j]? = some r -> c[j]? = some v -> M4 r.1 = true /\ v.oneCell' = true /\ Y8 r.2 = true /\ J8 E h (.sp k a j) r.1 r.2 v
def B8k (S : Z5) (h : Heap) (ks : Bool) (es : List (DV × DV)) (ens : Array MapEntry) : Prop :=
 es.length = ens.size /\ ∀ (j : Nat) e n, es[j]? = some e -> ens[j]? = some n -> isKey ks e.1 = true /\ RV S h e.1 n.key /\ RV S h e.2 n.val
def pF (ens : Array MapEntry) (clk : Nat) : Prop :=
 (∀ (j : Nat) n, ens[j]? = some n -> n.born < clk) /\ ∀ (i j : Nat) m n, ens[i]? = some m -> ens[j]? = some n -> m.born = n.born -> i = j
def RO (i : Nat) : C9 -> Prop
 | .box cs => ah E h (.obj i) 2 i (E.obj i) cs
 | .arr sz ds => ds ≠ [] -> ∃ c T, h[E.obj i]? = some (.cells c T (0, 0)) /\ E.base i + ds.length * sz <= c.size /\ 0 < sz /\
    (∀ o, E.base i <= o -> o < E.base i + ds.length * sz -> E.O (E.obj i) o = .obj i) /\
    ∀ (j : Nat) d, ds[j]? = some d -> ∃ vs : List Value, vs.length = sz /\ (∀ (x : Nat) u, vs[x]? = some u -> c[E.base i + j * sz + x]? = some u) /\ RC E.S h d vs
 | .opn sz pre ds => ∃ c T f, h[E.obj i]? = some (.cells c T f) /\ E.base i + (pre.length + ds.length) * sz <= E.top i /\ E.top i <= c.size /\ 0 < sz /\
    (∀ o, E.base i + pre.length * sz <= o -> o < E.top i -> E.O (E.obj i) o = .obj i /\ ¬(f.1 <= o /\ o < f.2)) /\
    (∀ (j : Nat) d, pre[j]? = some d -> Elem E.S h sz (E.obj i) (E.base i + j * sz) d) /\
    ∀ (j : Nat) d, ds[j]? = some d -> ∃ vs : List Value, vs.length = sz /\ (∀ (x : Nat) u, vs[x]? = some u -> c[E.base i + (pre.length + j) * sz + x]? = some u) /\ RC E.S h d vs
 | .M6 n sz ds => E.Aa i = n /\ 0 < n /\ 0 < sz /\ ((ds = [] /\ E.top i = E.base i) \/ ∃ c T f, h[E.obj i]? = some (.cells c T f) /\ E.base i + ds.length * sz <= E.top i /\ E.top i <= c.size /\
    (∀ o, E.base i <= o -> o < E.top i -> E.O (E.obj i) o = .obj i /\ ¬(f.1 <= o /\ o < f.2)) /\
    ∀ (j : Nat) d, ds[j]? = some d -> ∃ vs : List Value, vs.length = sz /\ (∀ (x : Nat) u, vs[x]? = some u -> c[E.base i + j * sz + x]? = some u) /\ RC E.S h d vs)
 | .map ks es => ∃ ens clk, h[E.obj i]? = some (.map ens clk) /\ (∀ o, E.O (E.obj i) o = .obj i) /\ B8k E.S h ks es ens /\ pF ens clk
structure K3 (E : Env) (st : St) (a : Act) (h : Heap) : Prop where
 size : a.tmps.size = st.tm.length
 Af : st.mt.length = st.tm.length
 Ca : st.bx.length = st.tm.length
 n : st.sg.length = E.n
 regs : ∀ (t : Nat) v, a.tmps[t]? = some v -> RR E h 0 t (st.get t).1 (st.get t).2 v
 boxes : ∀ (s : Nat) cs, st.bx.getD s none = some cs -> ah E h (.Rt s) 1 s (E.blk s) cs
 U4 : ∀ (i : Nat) ob, st.sg[i]? = some ob -> RO E h i ob
 fresh : ∀ b o, h.size <= b -> E.O b o = .other
structure Z4 (w w' : World) : Prop where
 os : w'.os = w.os
 tape : w'.tape = w.tape
 output : w'.output = w.output
theorem Z4.refl (w : World) : Z4 w w := ⟨rfl, rfl, rfl⟩
theorem Z4.trans {a b c : World} (h : Z4 a b) (k : Z4 b c) : Z4 a c := ⟨k.os.trans h.os, k.tape.trans h.tape, k.output.trans h.output⟩
def X8 (keep : Nat -> Prop) (x y : Option Obj) : Prop :=
 match x with
 | none => True
 | some (.cells c T f) => ∃ c', y = some (.cells c' T f) /\ c'.size = c.size /\ ∀ o, keep o -> c'[o]? = c[o]?
 | some ob => keep 0 -> y = some ob
def A7U (ch : Tag -> Prop) (E E' : Env) : Prop := ∀ i, i < E.n -> (E.Aa i = 0 -> E'.Aa i = 0) /\ E.Aa i <= E'.Aa i /\ (¬ ch (.obj i) -> E'.Aa i = E.Aa i)
variable {E : Env} {E' : Env}
theorem Dc {ch : Tag -> Prop} (h : E'.Aa = E.Aa) : A7U ch E E' := fun i _ => by rw [h]; exact ⟨id, z7q _, fun _ => rfl⟩
theorem aP {ch : Tag -> Prop} (h : E'.Aa = fun i => if i = E.n then 0 else E.Aa i) : A7U ch E E' := fun i hi => by
 have : E'.Aa i = E.Aa i := by rw [h]; exact if_neg (by omega)
 rw [this]; exact ⟨id, z7q _, fun _ => rfl⟩
structure Pr (ch : Tag -> Prop) (E : Env) (h : Heap) (E' : Env) (h' : Heap) : Prop where
 size : h.size <= h'.size
 blk : ∀ b, b < h.size -> X8 (fun o => ¬ ch (E.O b o)) h[b]? h'[b]?
 tags : ∀ b o, b < h.size -> ¬ ch (E.O b o) -> E'.O b o = E.O b o
 n : E.n <= E'.n
 U4 : ∀ i, i < E.n -> E'.Aa i = E.Aa i -> E'.obj i = E.obj i /\ E'.base i = E.base i /\ E'.top i = E.top i
 jg : ∀ s, ¬ ch (.Rt s) -> E'.blk s = E.blk s
 Nj : A7U ch E E'
theorem X8.refl (keep : Nat -> Prop) (x : Option Obj) : X8 keep x x := by
 unfold X8
 split
 ·trivial
 ·exact ⟨_, rfl, rfl, fun _ _ => rfl⟩
 ·exact fun _ => rfl
theorem Pr.refl (ch : Tag -> Prop) (E : Env) (h : Heap) : Pr ch E h E h :=
 ⟨z7q _, fun _ _ => X8.refl _ _, fun _ _ _ _ => rfl, z7q _, fun _ _ _ => ⟨rfl, rfl, rfl⟩, fun _ _ => rfl, Dc rfl⟩
variable {h : Heap} {h' : Heap} {i : Nat}
theorem Pr.old {ch : Tag -> Prop} (H : Pr ch E h E' h') (hi : E.In i) : E'.obj i = E.obj i /\ E'.base i = E.base i /\ E'.top i = E.top i :=
 H.U4 i hi.1 (((H.Nj i hi.1).1 hi.2).trans hi.2.symm)
theorem Pr.In {ch : Tag -> Prop} (H : Pr ch E h E' h') (hi : E.In i) : E'.In i := ⟨z15q hi.1 H.n, (H.Nj i hi.1).1 hi.2⟩
theorem Pr.weaken {ch ch' : Tag -> Prop} (H : Pr ch E h E' h') (hc : ∀ t, ch t -> ch' t) : Pr ch' E h E' h' := by
 refine ⟨H.size, fun b hb => ?_, fun b o hb hn => H.tags b o hb fun x => hn (hc _ x), H.n, H.U4, fun s hn => H.jg s fun x => hn (hc _ x), fun i hi => ⟨(H.Nj i hi).1, (H.Nj i hi).2.1, fun hn => (H.Nj i hi).2.2 fun x => hn (hc _ x)⟩⟩
 have := H.blk b hb;unfold X8 at this ⊢
 split at this
 ·trivial
 ·obtain ⟨c', h1, h2, h3⟩ := this
  exact ⟨c', h1, h2, fun o ho => h3 o fun x => ho (hc _ x)⟩
 ·exact fun h0 => this fun x => h0 (hc _ x)
theorem Pr.trans {ch : Tag -> Prop} {E1 E2 : Env} {h1 h2 : Heap} (A : Pr ch E h E1 h1) (B : Pr ch E1 h1 E2 h2) : Pr ch E h E2 h2 := by
 refine ⟨z36q A.size B.size, fun b hb => ?_, fun b o hb hn => ?_, z36q A.n B.n, fun i hi hv => ?_, fun s hn => (B.jg s hn).trans (A.jg s hn), fun i hi => ?_⟩
 ·have a := A.blk b hb
  have bb := B.blk b (z15q hb A.size);unfold X8 at a;unfold X8
  split at a
  ·trivial
  ·obtain ⟨c', e1, e2, e3⟩ := a
   unfold X8 at bb;rw [e1] at bb;obtain ⟨c2, f1, f2, f3⟩ := bb;refine ⟨c2, f1, f2.trans e2, fun o ho => (f3 o ?_).trans (e3 o ho)⟩
   show ¬ ch (E1.O b o)
   rw [A.tags b o hb ho]; exact ho
  ·rename_i ob hne _
   intro h0;have e1 := a h0;rw [e1] at bb;have VD : ¬ ch (E1.O b 0) := by rw [A.tags b 0 hb h0]; exact h0
   unfold X8 at bb
   split at bb
   ·simp_all
   ·rename_i heq; simp only [Option.some.injEq] at heq; exact absurd heq (hne _ _ _)
   ·rename_i heq; rw [<- heq] at bb; exact heq ▸ bb VD
 ·have := A.tags b o hb hn
  exact (B.tags b o (z15q hb A.size) (by rw [this]; exact hn)).trans this
 ·have v1 := (A.Nj i hi).2.1
  have v2 := (B.Nj i (z15q hi A.n)).2.1;have x := A.U4 i hi (by omega)
  have y := B.U4 i (z15q hi A.n) (by omega)
  exact ⟨y.1.trans x.1, y.2.1.trans x.2.1, y.2.2.trans x.2.2⟩
 ·have v1 := A.Nj i hi
  have v2 := B.Nj i (z15q hi A.n);exact ⟨fun h => v2.1 (v1.1 h), z36q v1.2.1 v2.2.1, fun hn => (v2.2.2 hn).trans (v1.2.2 hn)⟩
variable {v : Value}
theorem Pr.hc {ch : Tag -> Prop} (H : Pr ch E h E' h') {b o : Nat} (hn : ¬ ch (E.O b o)) (hv : hc h b o = some v) : Su.hc h' b o = some v := by
 have hb : b < h.size := by
  rcases z27q b h.size with h1 | h1
  ·exact h1
  ·simp [Su.hc, Array.getElem?_eq_none h1] at hv
 have := H.blk b hb;unfold X8 at this;unfold Su.hc at hv ⊢
 split at this
 ·simp_all
 ·rename_i c T f he
  obtain ⟨c', e1, e2, e3⟩ := this;rw [he] at hv;rw [e1];simp only at hv ⊢;rw [e3 o hn]; exact hv
 ·rename_i ob hne he
  rw [he] at hv
  split at hv
  ·rename_i heq; simp only [Option.some.injEq] at heq; exact absurd heq (hne _ _ _)
  ·simp at hv
theorem Pr.shut {ch : Tag -> Prop} (H : Pr ch E h E' h') (hs : ¬ ch .shut) (hf : ∀ b o, h.size <= b -> E.O b o = .other) : Z9 E.S h E'.S h' := by
 refine ⟨fun b o h1 => ?_, fun b o v h1 hv => H.hc (by rw [show E.O b o = .shut from h1]; exact hs) hv⟩
 have hb : b < h.size := by
  rcases z27q b h.size with h2 | h2
  ·exact h2
  ·have := hf b o h2
   rw [show E.O b o = .shut from h1] at this
   cases this
 have := H.tags b o hb (by rw [show E.O b o = .shut from h1]; exact hs)
 exact this.trans h1
variable {tg : Tag}
theorem A7T.mono {ch : Tag -> Prop} (H : Pr ch E h E' h') (ht : ¬ ch tg) {sz : Nat} (hs : A7T E h tg sz v) : A7T E' h' tg sz v := by
 intro x len cap hv L8;obtain ⟨c, T, f, h1, h2, h3⟩ := hs x len cap hv L8;have hb : x.block < h.size := (z4q.1 h1).1;have := H.blk x.block hb;unfold X8 at this;rw [h1] at this;obtain ⟨c', e1, e2, e3⟩ := this;refine ⟨c', T, f, e1, by rw [e2]; exact h2, fun o h4 h5 => ?_⟩
 obtain ⟨h6, h7⟩ := h3 o h4 h5;exact ⟨(H.tags _ _ hb (by rw [h6]; exact ht)).trans h6, h7⟩
theorem J8.mono {ch : Tag -> Prop} (H : Pr ch E h E' h') (J3 : Z9 E.S h E'.S h') {d : DV} {m : Meta} (ht : m = .own -> ¬ ch tg) (hl : ∀ s o, m = .loc s o -> ¬ ch (.Rt s)) (R : J8 E h tg d m v) : J8 E' h' tg d m v := by
 cases m <;> simp only [J8] at R ⊢
 case val => exact R.mono J3
 case full => exact ⟨R.1.mono J3, R.2⟩
 case own =>
  obtain ⟨r1, sz, ds, r2, r3⟩ := R;exact ⟨r1.mono J3, sz, ds, r2, r3.mono H (ht rfl)⟩
 case loc s o => rw [H.jg s (hl s o rfl)]; exact R
 case Na ag sz o =>
  obtain ⟨b, o0, r1, r2, r3⟩ := R;exact ⟨b, o0, r1, r2.mono J3, r3⟩
 case ptr i o => rw [(H.old R.1).1]; exact ⟨H.In R.1, R.2⟩
 case Ba => exact R
 case map i => rw [(H.old R.1).1]; exact ⟨H.In R.1, R.2⟩
 case PX => exact R
 case arr i sz off len => rw [(H.old R.1).1, (H.old R.1).2.1, (H.old R.1).2.2]; exact ⟨H.In R.1, R.2⟩
 case Yy i sz idx o => rw [(H.old R.1).1, (H.old R.1).2.1]; exact ⟨H.In R.1, R.2⟩
 case opt i sz idx => rw [(H.old R.1).1, (H.old R.1).2.1]; exact ⟨H.In R.1, R.2⟩
 case fn f caps =>
  refine ⟨?_, fun c hc => H.In (R.2 c hc)⟩
  rw [R.1]
  congr 2
  exact List.map_congr_left fun c hc => by rw [(H.old (R.2 c hc)).1]
 case M6 i n sz len =>
  obtain ⟨r1, r2, r3, a, cap, r4, r5, r6, r7, r8⟩ := R;have hv := (H.Nj i r1).2.1;refine ⟨z15q r1 H.n, r2, by omega, a, cap, r4, r5, r6, r7, fun e => ?_⟩
  have q := H.U4 i r1 (by omega)
  rw [q.1, q.2.1, q.2.2];exact r8 (by omega)
 case o_ i n sz idx o =>
  obtain ⟨r1, r2, r3, b, p, r4, r5⟩ := R;have hv := (H.Nj i r1).2.1;refine ⟨z15q r1 H.n, r2, by omega, b, p, r4, fun e => ?_⟩
  have q := H.U4 i r1 (by omega)
  rw [q.1, q.2.1];exact r5 (by omega)
theorem RR.mono {ch : Tag -> Prop} (H : Pr ch E h E' h') (J3 : Z9 E.S h E'.S h') {k a : Nat} {d : DV} {m : Meta} (ht : ∀ b, ¬ ch (.sp k a b)) (hl : ∀ s o, m = .loc s o -> ¬ ch (.Rt s)) (R : RR E h k a d m v) : RR E' h' k a d m v := by
 have gen : (∀ ms, m ≠ .Bf ms) -> (∀ ms, m ≠ .DZ ms) -> J8 E h (.sp k a 0) d m v -> J8 E' h' (.sp k a 0) d m v :=
  fun _ _ r => r.mono H J3 (fun _ => ht 0) hl
 cases m <;> simp only [RR] at R ⊢ <;> try (exact gen (by simp) (by simp) R)
 case Bf ms =>
  obtain ⟨ds, vs, h1, h2, h3, h4, h5⟩ := R;exact ⟨ds, vs, h1, h2, h3, h4, fun i m' d' u e1 e2 e3 => let ⟨a0, a4⟩ := h5 i m' d' u e1 e2 e3
   ⟨a0, a4.mono H J3 (fun _ => ht _) fun s o hm => by rw [hm] at a0; simp [Y8] at a0⟩⟩
 case DZ ms =>
  obtain ⟨ds, vs, h1, h2, h3, h4, h5⟩ := R;exact ⟨ds, vs, h1, h2, h3, h4, fun i m' d' u e1 e2 e3 => let ⟨a1, a2, a0, a4⟩ := h5 i m' d' u e1 e2 e3
   ⟨a1, a2, a0, a4.mono H J3 (fun _ => ht _) fun s o hm => by rw [hm] at a0; simp [Y8] at a0⟩⟩
theorem ah.mono {ch : Tag -> Prop} (H : Pr ch E h E' h') (J3 : Z9 E.S h E'.S h') (ht : ¬ ch tg) {k a b : Nat} {cs : List (DV × Meta)} (hs : ∀ j, ¬ ch (.sp k a j)) (R : ah E h tg k a b cs) : ah E' h' tg k a b cs := by
 obtain ⟨c, T, h1, h2, h3, h4⟩ := R;have hb : b < h.size := (z4q.1 h1).1;have := H.blk b hb;unfold X8 at this;rw [h1] at this;obtain ⟨c', e1, e2, e3⟩ := this;refine ⟨c', T, e1, e2.trans h2, fun o => ?_, fun j r v hr hv => ?_⟩
 ·rcases h3 o with h5 | h5
  ·exact .inl ((H.tags b o hb (by rw [h5]; exact ht)).trans h5)
  ·exact .inr (by omega)
 ·have hj : j < c.size := by have := (z0q.1 hr).1; omega
  have hne : ¬ ch (E.O b j) := by
   rcases h3 j with h5 | h5
   ·rw [h5]; exact ht
   ·omega
  rw [e3 j hne] at hv;obtain ⟨a1, a2, a0, a3⟩ := h4 j r v hr hv;exact ⟨a1, a2, a0, a3.mono H J3 (fun _ => hs j) fun s o hm => by rw [hm] at a0; simp [Y8] at a0⟩
theorem RO.mono {ch : Tag -> Prop} (H : Pr ch E h E' h') (J3 : Z9 E.S h E'.S h') (hi : i < E.n) (ht : ¬ ch (.obj i)) (hs : ∀ j, ¬ ch (.sp 2 i j)) {ob : C9} (R : RO E h i ob) : RO E' h' i ob := by
 obtain ⟨ho, B2g, B2o⟩ := H.U4 i hi ((H.Nj i hi).2.2 ht);cases ob with
 | box cs => simp only [RO] at R ⊢; rw [ho]; exact R.mono H J3 ht hs
 | arr sz ds =>
   simp only [RO] at R ⊢;intro hne;obtain ⟨c, T, h1, h2, hz, h3, h4⟩ := R hne;rw [ho, B2g];have hb : E.obj i < h.size := (z4q.1 h1).1;have := H.blk _ hb;unfold X8 at this;rw [h1] at this;obtain ⟨c', e1, e2, e3⟩ := this;refine ⟨c', T, e1, by omega, hz, fun o h5 h6 => ?_, fun j d hd => ?_⟩
   ·have := h3 o h5 h6
    exact (H.tags _ o hb (by rw [this]; exact ht)).trans this
   ·obtain ⟨vs, v1, v2, v3⟩ := h4 j d hd
    refine ⟨vs, v1, fun x u hu => ?_, v3.mono J3⟩
    have hx : x < sz := by have := (z0q.1 hu).1; omega
    have hj : j < ds.length := (z0q.1 hd).1;have L8 : j * sz + x < ds.length * sz := by
     calc j * sz + x < j * sz + sz := by omega
      _ = (j + 1) * sz := by rw [z26q]
      _ <= ds.length * sz := z21q _ hj
    rw [e3 _ (by show ¬ ch _; rw [h3 _ (by omega) (by omega)]; exact ht)]
    exact v2 x u hu
 | opn sz pre ds =>
   simp only [RO] at R ⊢;obtain ⟨c, T, f, h1, h2, vw, hz, h3, h4, h5⟩ := R;rw [ho, B2g, B2o];have hb : E.obj i < h.size := (z4q.1 h1).1;have := H.blk _ hb;unfold X8 at this;rw [h1] at this;obtain ⟨c', e1, e2, e3⟩ := this;refine ⟨c', T, f, e1, h2, by omega, hz, fun o h6 h7 => ?_, fun j d hd => (h4 j d hd).mono J3, fun j d hd => ?_⟩
   ·have := h3 o h6 h7
    exact ⟨(H.tags _ o hb (by rw [this.1]; exact ht)).trans this.1, this.2⟩
   ·obtain ⟨vs, v1, v2, v3⟩ := h5 j d hd
    refine ⟨vs, v1, fun x u hu => ?_, v3.mono J3⟩
    have hx : x < sz := by have := (z0q.1 hu).1; omega
    have hj : j < ds.length := (z0q.1 hd).1;have L8 : (pre.length + j) * sz + x < (pre.length + ds.length) * sz := by
     calc (pre.length + j) * sz + x < (pre.length + j) * sz + sz := by omega
      _ = (pre.length + j + 1) * sz := by rw [z26q]
      _ <= (pre.length + ds.length) * sz := z21q _ (by omega)
    have hge : pre.length * sz <= (pre.length + j) * sz := z21q _ (by omega)
    rw [e3 _ (by show ¬ ch _; rw [(h3 _ (by omega) (by omega)).1]; exact ht)]
    exact v2 x u hu
 | M6 n sz ds =>
   simp only [RO] at R ⊢;obtain ⟨hv, hn, hz, R⟩ := R;rw [ho, B2g, B2o];refine ⟨((H.Nj i hi).2.2 ht).trans hv, hn, hz, ?_⟩;rcases R with R | ⟨c, T, f, h1, h2, vw, h3, h5⟩
   ·exact .inl R
   right
   have hb : E.obj i < h.size := (z4q.1 h1).1;have := H.blk _ hb;unfold X8 at this;rw [h1] at this;obtain ⟨c', e1, e2, e3⟩ := this;refine ⟨c', T, f, e1, h2, by omega, fun o h6 h7 => ?_, fun j d hd => ?_⟩
   ·have := h3 o h6 h7
    exact ⟨(H.tags _ o hb (by rw [this.1]; exact ht)).trans this.1, this.2⟩
   ·obtain ⟨vs, v1, v2, v3⟩ := h5 j d hd
    refine ⟨vs, v1, fun x u hu => ?_, v3.mono J3⟩
    have hx : x < sz := by have := (z0q.1 hu).1; omega
    have hj : j < ds.length := (z0q.1 hd).1;have L8 : j * sz + x < ds.length * sz := by
     calc j * sz + x < j * sz + sz := by omega
      _ = (j + 1) * sz := by rw [z26q]
      _ <= ds.length * sz := z21q _ (by omega)
    rw [e3 _ (by show ¬ ch _; rw [(h3 _ (by omega) (by omega)).1]; exact ht)]
    exact v2 x u hu
 | map ks es =>
   simp only [RO] at R ⊢;obtain ⟨ens, clk, h1, h2, h3, h4⟩ := R;rw [ho];have hb : E.obj i < h.size := (z4q.1 h1).1;have hk := H.blk _ hb;unfold X8 at hk;rw [h1] at hk;refine ⟨ens, clk, hk (by show ¬ ch _; rw [h2 0]; exact ht), fun o => (H.tags _ o hb (by rw [h2 o]; exact ht)).trans (h2 o), ⟨h3.1, fun j e n he hn => ?_⟩, h4⟩
   obtain ⟨a1, a2, a3⟩ := h3.2 j e n he hn;exact ⟨a1, a2.mono J3, a3.mono J3⟩
end Go.Su

/-
 THE DATA MACHINE, part 5: operands; registers written; how one operation of the model is met.
-/
namespace Go.Su
def O3 (t : Tag) : Prop := t ≠ .other /\ t ≠ .shut
variable {E : Env} {h : Heap} {d : DV} {m : Meta} {v : Value}
theorem J8.tag {tg tg' : Tag} (hm : m ≠ .own) (R : J8 E h tg d m v) : J8 E h tg' d m v := by
 cases m <;> simp only [J8] at R ⊢ <;> first | exact R | exact absurd rfl hm
theorem J8.Xm {tg tg' : Tag} (R : J8 E h tg d m v) : J8 E h tg' d (Xm m) v := by
 cases m <;> simp only [J8, Su.Xm] at R ⊢ <;> first | exact R | exact R.1
theorem RR.AU {k a : Nat} (R : J8 E h (.sp k a 0) d m v) : RR E h k a d m v := by
 cases m <;> first | exact R | (simp only [J8] at R)
theorem RR.A0T {k a : Nat} (h1 : ∀ ms, m ≠ .Bf ms) (h2 : ∀ ms, m ≠ .DZ ms) (R : RR E h k a d m v) : J8 E h (.sp k a 0) d m v := by
 cases m <;> first | exact R | exact absurd rfl (h1 _) | exact absurd rfl (h2 _)
theorem RR.dm {k a k' a' : Nat} (R : RR E h k a d m v) : RR E h k' a' d (dm m) v := by
 cases m
 case DZ ms =>
  simp only [RR, Su.dm] at R ⊢;obtain ⟨ds, vs, h1, h2, h3, h4, h5⟩ := R;refine ⟨ds, vs, h1, h2, by simpa using h3, by simpa using h4, fun i m' d' u e1 e2 e3 => ?_⟩
  simp only [z13q, z12q] at e1;obtain ⟨m0, e1, rfl⟩ := e1;obtain ⟨a1, a2, a0, a4⟩ := h5 i m0 d' u e1 e2 e3;exact ⟨a1, a2, by cases m0 <;> simp_all [Y8, Su.Xm], a4.Xm⟩
 case Bf ms =>
  simp only [RR, Su.dm] at R ⊢;obtain ⟨ds, vs, h1, h2, h3, h4, h5⟩ := R;refine ⟨ds, vs, h1, h2, by simpa using h3, by simpa using h4, fun i m' d' u e1 e2 e3 => ?_⟩
  simp only [z13q, z12q] at e1;obtain ⟨m0, e1, rfl⟩ := e1;obtain ⟨a0, a4⟩ := h5 i m0 d' u e1 e2 e3;exact ⟨by cases m0 <;> simp_all [Y8, Su.Xm], a4.Xm⟩
 all_goals exact RR.AU (J8.Xm (RR.A0T (by simp) (by simp) R))
theorem RR.data {k a : Nat} (hm : J6 m = true) (R : RR E h k a d m v) : RV E.S h d v := by
 cases m <;> simp only [J6] at hm <;> try contradiction
 ·exact R
 ·exact R.1
 ·exact R.1
 ·obtain ⟨rfl, rfl⟩ := (R : _ /\ _)
  simp only [RV]
 ·rename_i ms
  simp only [RR] at R;obtain ⟨ds, vs, rfl, rfl, h3, h4, h5⟩ := R;simp only [RV];refine ⟨vs, rfl, EO.2 ⟨by simp [h3, h4], fun i d v hd hv => ?_⟩⟩
  have hi : i < ms.length := by have := (z0q.1 hd).1; omega
  have hmi : ms[i]? = some ms[i] := z9q hi;obtain ⟨a1, a2, a0, a4⟩ := h5 i _ d v hmi hd (by simpa using hv)
  refine ⟨a1, Mr a1 a2 ?_⟩;have := List.all_eq_true.1 hm ms[i] (List.getElem_mem hi);cases hx : ms[i] <;> simp only [hx] at this a4 <;> first | contradiction | exact a4 | exact a4.1 | (obtain ⟨rfl, rfl⟩ := (a4 : _ /\ _); simp only [RV])
theorem RR.val {k a : Nat} (R : RV E.S h d v) : RR E h k a d .val v := R
variable {P : Program} {t : TypeId}
theorem A4N {r : DV × Meta} (H : cst P t v = some r) (k a : Nat) : RR E h k a r.1 r.2 v := by
 unfold cst at H
 split at H <;> simp only [Option.some.injEq, reduceCtorEq] at H <;> subst H <;> simp only [RR, J8, RV, and_self]
 refine ⟨?_, ⟨_, _, rfl⟩, _, _, rfl⟩;simp only [RC];exact ⟨none, 0, 0, rfl, rfl, z7q _, fun _ => rfl, by simp, fun x hx => by simp at hx⟩
theorem A6H {r : DV × Meta} (H : cst P t v = some r) (ms : List Meta) : r.2 ≠ .DZ ms := by
 unfold cst at H
 split at H <;> simp only [Option.some.injEq, reduceCtorEq] at H <;> subst H <;> simp
theorem Xk {r : DV × Meta} (H : cst P t v = some r) : r.2 ≠ .own /\ (∀ ms, r.2 ≠ .Bf ms) := by
 unfold cst at H
 split at H <;> simp only [Option.some.injEq, reduceCtorEq] at H <;> subst H <;> simp
def oM : Operand -> Nat
 | .tmp t => t
 | _ => 0
variable {st : St} {t : Nat}
theorem iZ (ht : st.tm.length <= t) (hm : st.mt.length = st.tm.length) : st.get t = (.undef, .val) := by
 simp [St.get, z1q, z19q ht, z19q (hm ▸ ht)]
variable {t : TypeId} {a : Act} {x : Operand}
theorem K3.src (R : K3 E st a h) {r : DV × Meta} (H : src P t st x = some r) :
 RR E h 0 (oM x) r.1 r.2 (a.eval x) := by
 cases x with
 | tmp i =>
   simp only [Su.src, Option.some.injEq] at H;subst H;simp only [oM, Act.eval]
   by_cases hi : i < a.tmps.size
   ·have : a.tmps[i]? = some a.tmps[i] := z28q hi
    simpa [Array.getD_eq_getD_getElem?, this] using R.regs i _ this
   ·have hi' : st.tm.length <= i := by rw [<- R.size]; exact Nat.le_of_not_lt hi
    rw [iZ hi' R.Af];simp only [RR, J8, RV]
 | const v => exact A4N H _ _
 | func f =>
   simp only [Su.src, Option.some.injEq] at H;subst H;simp only [RR, J8, Act.eval];exact ⟨rfl, by simp⟩
 | global g => simp [Su.src] at H
theorem K3.B1G {r : DV × Meta} (H : Su.src P t st x = some r) (hx : ∀ i, x ≠ .tmp i) (k b : Nat) : RR E h k b r.1 r.2 (a.eval x) := by
 cases x with
 | tmp i => exact absurd rfl (hx i)
 | const v => exact A4N H _ _
 | func f =>
   simp only [Su.src, Option.some.injEq] at H;subst H;simp only [RR, J8, Act.eval];exact ⟨rfl, by simp⟩
 | global g => simp [Su.src] at H
variable (st : St) (dst : Option Nat) (d : DV) (m : Meta)
theorem oP : (st.put dst d m).tm.length = st.tm.length := by cases dst <;> simp [St.put]
theorem B4c : (st.put dst d m).mt.length = st.mt.length := by cases dst <;> simp [St.put]
@[simp] theorem A5r : (st.put dst d m).bx = st.bx := by cases dst <;> rfl
@[simp] theorem A0z : (st.put dst d m).sg = st.sg := by cases dst <;> rfl
variable {st : St} {d : DV} {m : Meta}
theorem VG {t : Nat} (ht : t < st.tm.length) (hm : st.mt.length = st.tm.length) : (st.put (some t) d m).get t = (d, m) := by
 simp [St.put, St.get, z1q, z5q ht, z5q (hm ▸ ht)]
theorem wI {t u : Nat} (h : t ≠ u) : (st.put (some t) d m).get u = st.get u := by
 simp [St.put, St.get, z1q, z10q h]
variable (a : Act)
theorem aj (dst : Option Nat) (v : Value) : (a.put dst v).tmps.size = a.tmps.size := by cases dst <;> simp [Act.put]
theorem lK (dst : Option Nat) (v : Value) : (a.put dst v).defers = a.defers := by cases dst <;> rfl
variable {a : Act}
theorem K3.put (R : K3 E st a h) {dst : Option Nat} (hv : ∀ t, dst = some t -> RR E h 0 t d m v) : K3 E (st.put dst d m) (a.put dst v) h := by
 refine ⟨by rw [aj, oP]; exact R.size, by rw [B4c, oP]; exact R.Af, by rw [A5r, oP]; exact R.Ca, by rw [A0z]; exact R.n, fun u w hu => ?_,
  fun s cs hs => R.boxes s cs (by rwa [A5r] at hs), fun i ob hi => R.U4 i ob (by rwa [A0z] at hi), R.fresh⟩
 cases dst with
 | none => exact R.regs u w hu
 | some t =>
   by_cases htu : t = u
   ·subst htu
    have ht : t < a.tmps.size := by
     have := (z4q.1 hu).1;simpa [Act.put] using this
    rw [VG (by rw [<- R.size]; exact ht) R.Af]
    simp only [Act.put, Array.getElem?_setIfInBounds_self_of_lt ht, Option.some.injEq] at hu;subst hu;exact hv t rfl
   ·rw [wI htu]
    simp only [Act.put, Array.getElem?_setIfInBounds_ne htu] at hu;exact R.regs u w hu
def Gp (P : Program) (o : Oper) (a : Act) (w : World) (K : Act -> World -> Prop) : Prop :=
 (∃ v w', (execOp a.eval o).run P w = .ok (.value v) w' /\ K (a.put o.dst v) w') \/ (∃ w', (execOp a.eval o).run P w = .ok .skip w' /\ K (a.put o.dst undef) w') \/
   ∃ f args, (execOp a.eval o).run P w = .ok (.enter f args) w /\ Calls P f args w fun e w' => ∃ v, e = .returned v /\ K (a.put o.dst v) w'
variable {o : Oper}
theorem Gp.mono {w : World} {K K' : Act -> World -> Prop} (H : Gp P o a w K) (h : ∀ a' w', a'.defers = a.defers -> K a' w' -> K' a' w') : Gp P o a w K' := by
 have hd : ∀ v, (a.put o.dst v).defers = a.defers := fun v => lK a o.dst v
 rcases H with ⟨v, w', h1, h2⟩ | ⟨w', h1, h2⟩ | ⟨f, args, h1, h2⟩
 ·exact .inl ⟨v, w', h1, h _ _ (hd v) h2⟩
 ·exact .inr (.inl ⟨w', h1, h _ _ (hd _) h2⟩)
 ·exact .inr (.inr ⟨f, args, h1, h2.mono fun e w' ⟨v, he, hk⟩ => ⟨v, he, h _ _ (hd v) hk⟩⟩)
theorem Ap {w w' : World} {K : Act -> World -> Prop} (h : (execOp a.eval o).run P w = .ok (.value v) w') (hk : K (a.put o.dst v) w') : Gp P o a w K := .inl ⟨v, w', h, hk⟩
theorem Kt {w w' : World} {K : Act -> World -> Prop} (h : (execOp a.eval o).run P w = .ok .skip w') (hk : K (a.put o.dst undef) w') : Gp P o a w K := .inr (.inl ⟨w', h, hk⟩)
theorem Bv {x : Sem Value} {w w' : World} (h : x.run P w = .ok v w') :
 (do pure (Next.value (<- x)) : Sem Next).run P w = .ok (.value v) w' := by
 simp [h]
theorem B6T {x : Sem Unit} {w w' : World} (h : x.run P w = .ok () w') :
 (do x; pure Next.skip : Sem Next).run P w = .ok .skip w' := by
 simp [h]
variable {β : Type}
theorem C8 {α : Type} {x : Option α} {f : α -> Option β} {b : β} (h : ob x f = some b) : ∃ a, x = some a /\ f a = some b := by
 cases x with
 | none => simp [ob] at h
 | some a => exact ⟨a, rfl, h⟩
theorem F9 {t : Bool} {x : Option β} {b : β} (h : og t x = some b) : t = true /\ x = some b := by
 cases t with
 | false => simp [og] at h
 | true => exact ⟨rfl, h⟩
theorem qZ {t e : Option β} {b : β} (h : D7 d t e = some b) : (d = .bool true /\ t = some b) \/ (d = .bool false /\ e = some b) := by
 unfold D7 at h
 split at h
 ·exact .inl ⟨rfl, h⟩
 ·exact .inr ⟨rfl, h⟩
 ·simp at h
theorem K9 {c : Prop} [Decidable c] {x : Option β} {b : β} (h : (if c then x else none) = some b) : c /\ x = some b := by
 split at h
 ·exact ⟨‹_›, h⟩
 ·simp at h
theorem HY {z : Nat × Bool} (H : tz P t = some z) : ∃ i d, P.info? t = some i /\ P.underlying t = some d /\ z = (i.size, A81 d) /\ (z.2 = false -> z.1 = 1) := by
 unfold tz at H;obtain ⟨i, hi, H⟩ := C8 H;obtain ⟨d, hd, H⟩ := C8 H;obtain ⟨hc, H⟩ := K9 H;simp only [Option.some.injEq] at H;subst H;refine ⟨i, d, hi, hd, rfl, fun h => ?_⟩
 simp only at h;simpa [h] using hc
theorem B6m {z : Nat × Bool} (H : tz P t = some z) (w : World) : (isAgg t).run P w = .ok z.2 w := by
 obtain ⟨i, d, hi, hd, rfl, -⟩ := HY H;unfold isAgg;simp only [Sem.run_bind, run_underlying hd, Result.andThen_ok];cases d <;> rfl
theorem Ni {z : Nat × Bool} (H : tz P t = some z) (w : World) : (sizeOf t).run P w = .ok z.1 w := by
 obtain ⟨i, d, hi, hd, rfl, -⟩ := HY H;simp [sizeOf, typeInfo, hi]
end Go.Su

/-
 THE DATA MACHINE, part 6: operations that make a value and leave memory as it is.
-/
namespace Go.Su
theorem B69 (m : Meta) : Xm (Xm m) = Xm m := by cases m <;> rfl
theorem B98 (m : Meta) : dm (dm m) = dm m := by
 cases m <;> simp only [dm]
 all_goals simp [B69]
variable {E : Env} {h : Heap} {d : DV} {m : Meta} {v : Value}
theorem RR.A8s {k a k' a' : Nat} (R : RR E h k a d (Su.dm m) v) : RR E h k' a' d (Su.dm m) v := by
 have := R.dm (k' := k') (a' := a')
 rwa [B98] at this
def Env.re (E : Env) (f : Tag -> Tag) : Env := { E with O := fun b o => f (E.O b o) }
theorem Pr.re {f : Tag -> Tag} {ch : Tag -> Prop} (hf : ∀ T, ¬ ch T -> f T = T) : Pr ch E h (E.re f) h :=
 ⟨z7q _, fun _ _ => X8.refl _ _, fun _ _ _ hn => hf _ hn, z7q _, fun _ _ _ => ⟨rfl, rfl, rfl⟩, fun _ _ => rfl, Dc rfl⟩
theorem Je {f : Tag -> Tag} (hf : f .shut = .shut) : Z9 E.S h (E.re f).S h :=
 ⟨fun b o hs => by simp only [Env.S, Env.re] at hs ⊢; rw [hs, hf], fun _ _ _ _ hv => hv⟩
theorem J8.re {f : Tag -> Tag} {tg tg' : Tag} (hs : f .shut = .shut) (ht : f tg = tg') (R : J8 E h tg d m v) :
 J8 (E.re f) h tg' d m v := by
 cases m <;> simp only [J8] at R ⊢
 case val => exact R.mono (Je hs)
 case full => exact ⟨R.1.mono (Je hs), R.2⟩
 case own =>
  obtain ⟨r1, sz, ds, r2, r3⟩ := R;refine ⟨r1.mono (Je hs), sz, ds, r2, fun x len cap hv L8 => ?_⟩
  obtain ⟨c, T, g, e1, e2, e3⟩ := r3 x len cap hv L8;refine ⟨c, T, g, e1, e2, fun o ho ho' => ?_⟩
  obtain ⟨e4, e5⟩ := e3 o ho ho';exact ⟨by simp only [Env.re]; rw [e4, ht], e5⟩
 case Na ag sz o =>
  obtain ⟨b, o0, r1, r2, r3⟩ := R;exact ⟨b, o0, r1, r2.mono (Je hs), r3⟩
 all_goals exact R
theorem RR.re {f : Tag -> Tag} {k a k' a' : Nat} (hs : f .shut = .shut) (ho : f .other = .other) (ht : ∀ b, f (.sp k a b) = .sp k' a' b) (R : RR E h k a d m v) :
 RR (E.re f) h k' a' d m v := by
 cases m
 case Bf ms =>
  simp only [RR] at R ⊢;obtain ⟨ds, vs, h1, h2, h3, h4, h5⟩ := R;exact ⟨ds, vs, h1, h2, h3, h4, fun i m' d' u e1 e2 e3 => let ⟨a0, a4⟩ := h5 i m' d' u e1 e2 e3; ⟨a0, a4.re hs (ht _)⟩⟩
 case DZ ms =>
  simp only [RR] at R ⊢;obtain ⟨ds, vs, h1, h2, h3, h4, h5⟩ := R;exact ⟨ds, vs, h1, h2, h3, h4, fun i m' d' u e1 e2 e3 => let ⟨a1, a2, a0, a4⟩ := h5 i m' d' u e1 e2 e3; ⟨a1, a2, a0, a4.re hs (ht _)⟩⟩
 all_goals exact RR.AU ((RR.A0T (by simp) (by simp) R).re hs (ht 0))
variable {x : Operand}
theorem K3.release {st : St} {a : Act} (R : K3 E st a h) {f : Tag -> Tag} (hf : ∀ T, (∀ s b, x = .tmp s -> T ≠ .sp 0 s b) -> f T = T) : K3 (E.re f) (st.release x) a h := by
 have FB : f .shut = .shut := hf _ (by simp)
 have NM : f .other = .other := hf _ (by simp)
 have P : Pr (fun T => ∃ s b, x = .tmp s /\ T = .sp 0 s b) E h (E.re f) h := Pr.re fun T hT => hf T fun s b hx hb => hT ⟨s, b, hx, hb⟩
 have J3 : Z9 E.S h (E.re f).S h := Je FB;have lm : (st.release x).mt.length = st.mt.length := by cases x <;> simp [St.release]
 have lt : (st.release x).tm = st.tm := by cases x <;> simp [St.release]
 have lb : (st.release x).bx = st.bx := by cases x <;> simp [St.release]
 have lg : (st.release x).sg = st.sg := by cases x <;> simp [St.release]
 refine ⟨by rw [lt]; exact R.size, by rw [lm, lt]; exact R.Af, by rw [lb, lt]; exact R.Ca, by rw [lg]; exact R.n, fun u v hu => ?_, fun s cs hs => ?_, fun i ob hi => ?_, fun b o hb => ?_⟩
 ·have h0 := R.regs u v hu
  by_cases hx : x = .tmp u
  ·subst hx
   have hg : (st.release (.tmp u)).get u = ((st.get u).1, dm (st.get u).2) := by
    have Iz : u < st.tm.length := by rw [<- R.size]; exact (z4q.1 hu).1
    simp [St.release, St.get, z1q, z5q (R.Af ▸ Iz)]
   rw [hg];have h1 : RR E h 9 0 (st.get u).1 (dm (st.get u).2) v := h0.dm;have h2 : RR (E.re f) h 9 0 (st.get u).1 (dm (st.get u).2) v := h1.re FB NM fun b => hf _ (by simp)
   exact h2.A8s
  ·have hg : (st.release x).get u = st.get u := by
    cases x with
    | tmp s =>
      have : s ≠ u := fun e => hx (by rw [e])
      simp [St.release, St.get, z1q, z10q this]
    | _ => rfl
   rw [hg];exact h0.re FB NM fun b => hf _ fun s b' hs he => by simp only [Tag.sp.injEq] at he; exact hx (by rw [hs, he.2.1])
 ·exact (R.boxes s cs (by rwa [lb] at hs)).mono P J3 (by simp) (by simp)
 ·exact (R.U4 i ob (by rwa [lg] at hi)).mono P J3 (by rw [<- R.n]; rw [lg] at hi; exact (z0q.1 hi).1) (by simp) (by simp)
 ·simp only [Env.re]; rw [R.fresh b o hb, NM]
def jB (x : Operand) (k t : Nat) (T : Tag) : Tag :=
 match x, T with
 | .tmp s', .sp 0 s b => if s' = s then .sp k t b else .sp 0 s b
 | _, T => T
theorem NV {k t : Nat} {T : Tag} (h : ∀ s b, x = .tmp s -> T ≠ .sp 0 s b) : jB x k t T = T := by
 unfold jB
 split
 ·split
  ·rename_i hx; subst hx; exact absurd rfl (h _ _ rfl)
  ·rfl
 ·rfl
section
variable {X : Type} {C : AO} {R : Q8} {o : Oper} {st : St} {k : St -> Option X} {x : X} {E : Env} {a : Act} {w : World} {K : Act -> World -> Prop} {Q : Exit -> Act -> World -> Prop}
def Then (E : Env) (w : World) (k : St -> Option X) (x : X) (K : Act -> World -> Prop) : Prop :=
 ∀ E' st' a' w', k st' = some x -> K3 E' st' a' w'.heap -> Pr O3 E w.heap E' w'.heap -> (_ : Z4 w w' := by exact ⟨rfl, rfl, rfl⟩) -> K a' w'
theorem V4 (hr : (execOp a.eval o).run C.P w = .ok (.value v) w) (hk : k (st.put o.dst d m) = some x) (Rl : K3 E st a w.heap) (hv : ∀ t, o.dst = some t -> RR E w.heap 0 t d m v) (T : Then E w k x K) : Gp C.P o a w K :=
 Ap hr (T E _ _ w hk (Rl.put hv) (Pr.refl _ _ _))
variable {t : TypeId} {y : Operand}
theorem B6c {P : Program} {r : DV × Meta} (hr : (execOp a.eval o).run C.P w = .ok (.value (a.eval y)) w) (hs : src P t st y = some r) (hk : k ((st.release y).put o.dst r.1 r.2) = some x) (Rl : K3 E st a w.heap) (T : Then E w k x K) : Gp C.P o a w K := by
 refine Ap hr ?_;cases hd : o.dst with
 | none =>
   rw [hd] at hk;have P1 : Pr O3 E w.heap (E.re id) w.heap := Pr.re fun _ _ => rfl
   exact T (E.re id) _ _ w hk ((Rl.release (x := y) (f := id) fun _ _ => rfl).put (fun t ht => by simp at ht)) P1
 | some t0 =>
   rw [hd] at hk;have P1 : Pr O3 E w.heap (E.re (jB y 0 t0)) w.heap := Pr.re fun T hT => NV fun s b _ he => hT (by rw [he]; simp [O3])
   refine T (E.re (jB y 0 t0)) _ _ w hk ((Rl.release fun T hT => NV hT).put fun t ht => ?_) P1
   simp only [Option.some.injEq] at ht;subst ht
   by_cases hy : ∃ i, y = .tmp i
   ·obtain ⟨i, rfl⟩ := hy
    have := Rl.src hs;refine this.re (NV (by simp)) (NV (by simp)) fun b => ?_
    simp [jB, oM]
   ·have := K3.B1G (E := E) (a := a) (h := w.heap) hs (fun i hi => hy ⟨i, hi⟩) 9 0
    have h2 : RR (E.re (jB y 0 t0)) w.heap 9 0 r.1 r.2 (a.eval y) := this.re (NV (by simp)) (NV (by simp)) fun b => NV (by simp)
    have ZR : dm r.2 = r.2 := by
     cases y with
     | tmp i => exact absurd ⟨i, rfl⟩ hy
     | const v =>
       obtain ⟨h1, h3⟩ := Xk hs;have h4 := A6H hs;cases hm : r.2 <;> simp_all [dm]
     | func f => simp only [src, Option.some.injEq] at hs; subst hs; rfl
     | global g => simp [src] at hs
    rw [<- ZR] at h2 ⊢;exact h2.A8s
theorem A9I {fl : Flags} (hr : (execOp a.eval o).run C.P w = .ok (.value (a.eval y)) w) (H : (ob (src C.P t st y) fun r => if J4 fl.P7 o.dst then k ((st.release y).put o.dst r.1 r.2) else k (st.put o.dst r.1 (dm r.2))) = some x) (Rl : K3 E st a w.heap) (T : Then E w k x K) : Gp C.P o a w K := by
 obtain ⟨r, hs, H⟩ := C8 H
 split at H
 ·exact B6c hr hs H Rl @T
 ·exact V4 hr H Rl (fun t _ => (Rl.src hs).dm) @T
end
end Go.Su

/-
 THE DATA MACHINE, part 7: arithmetic, comparison, indexes, lengths, parts of strings and slices.
-/
namespace Go.Su
variable {S : Z5} {h : Heap} {v : Value}
theorem Bp {k : IntKind} {n : Int} : RV S h (.int k n) v ↔ v = .int k n := by simp only [RV]
theorem LY {b : Bool} : RV S h (.bool b) v ↔ v = .bool b := by simp only [RV]
theorem Xg {s : ByteArray} : RV S h (.str s) v ↔ v = .string s := by simp only [RV]
variable {op : UnOp} {d : DV}
theorem B45 {y : DV} (h : M5 op y = some d) : (∃ b, op = .not /\ y = .bool b /\ d = .bool !b) \/ (∃ k n, op = .neg /\ y = .int k n /\ d = .int k (k.wrap (0 - n))) := by
 unfold M5 at h
 split at h <;> simp only [Option.some.injEq, reduceCtorEq] at h <;> subst h
 ·exact .inl ⟨_, rfl, rfl, rfl⟩
 ·exact .inr ⟨_, _, rfl, rfl, rfl⟩
theorem B1Z {c y z : DV} (h : A7X c y z = some d) : (c = .bool true /\ d = y) \/ (c = .bool false /\ d = z) := by
 unfold A7X at h
 split at h <;> simp only [Option.some.injEq, reduceCtorEq] at h <;> subst h
 ·exact .inl ⟨rfl, rfl⟩
 ·exact .inr ⟨rfl, rfl⟩
theorem A6I {i : Nat} {y : DV} (h : J5 i y = some d) : ∃ cs, y = .H7 cs /\ cs[i]? = some d := by
 unfold J5 at h
 split at h
 ·exact ⟨_, rfl, h⟩
 ·simp at h
theorem B3r {sz : Nat} {y i : DV} (h : F5 sz y i = some d) : ∃ ds kd n, y = .list sz ds /\ i = .int kd n /\ 0 <= n /\ ds[n.toNat]? = some d := by
 unfold F5 at h
 split at h
 ·obtain ⟨⟨BF, h0⟩, hd⟩ := K9 h
  subst BF;exact ⟨_, _, _, rfl, rfl, h0, hd⟩
 ·simp at h
theorem je {off len n : Nat} {i : DV} (h : AF off len i = some n) : ∃ (kd : IntKind) (q : Int), i = .int kd q /\ 0 <= q /\ q < len /\ n = off + q.toNat := by
 unfold AF at h
 split at h
 ·obtain ⟨⟨h0, L8⟩, hn⟩ := K9 h
  simp only [Option.some.injEq] at hn;exact ⟨_, _, rfl, h0, L8, hn.symm⟩
 ·simp at h
theorem A4L : ∀ x y : List UInt8, Op.bytesLess x y = OO x y
 | _, [] => by simp [Op.bytesLess, OO]
 | [], _ :: _ => by simp [Op.bytesLess, OO]
 | a :: x, b :: y => by simp [Op.bytesLess, OO, A4L x y]
section
variable {X : Type} {C : AO} {R : Q8} {o : Oper} {st : St} {k : St -> Option X} {x : X} {E : Env} {a : Act} {w : World} {K : Act -> World -> Prop} {Q : Exit -> Act -> World -> Prop}
theorem AB (hr : (execOp a.eval o).run C.P w = .ok (.value v) w) (hk : k (st.put o.dst d .val) = some x) (Rl : K3 E st a w.heap) (hv : RV E.S w.heap d v) (T : Then E w k x K) : Gp C.P o a w K :=
 V4 hr hk Rl (fun _ _ => hv) @T
variable {P : Program} {t : TypeId} {y : Operand}
theorem B53 {op : BinOp} {x : Operand} {dx dy : DV} {vx vy : Value} (H : A8 op dx dy = some d) (hx : RV S h dx vx) (hy : RV S h dy vy) (w : World) :
 ∃ v, (do eqGuard op t x y vx vy; binOp op t vx vy : Sem Value).run P w = .ok v w /\ RV S h d v := by
 unfold A8 at H
 split at H
 ·rw [Bp] at hx hy
  subst hx hy
  split at H
  ·rename_i hsh
   unfold B3v at H
   split at H
   ·cases H
   ·rename_i hb
    cases op <;> simp only [Jz, z23q] at hsh <;> simp only [Option.some.injEq] at H <;> subst H <;>
     (refine ⟨_, ?_, by simp only [RV]; rfl⟩; simp [eqGuard_at_int, binOp, Op.shift, hb])
  obtain ⟨hk, H1⟩ := K9 H;clear H;subst hk
  by_cases hq : op = .quo \/ op = .rem
  ·rcases hq with rfl | rfl <;> simp only [LD] at H1 <;> split at H1 <;> simp only [reduceCtorEq, Option.some.injEq] at H1 <;> subst H1 <;>
    (rename_i hb; refine ⟨_, ?_, by simp only [RV]; rfl⟩; simp [eqGuard_at_int, binOp, Op.intDiv, hb])
  simp only [not_or] at hq;cases op <;> (try exact absurd rfl hq.1) <;> (try exact absurd rfl hq.2) <;> simp only [LD, reduceCtorEq, Option.some.injEq] at H1 <;> subst H1 <;>
   (refine ⟨_, ?_, by simp only [RV]; rfl⟩; simp [eqGuard_at_int, binOp, Op.intArith, Op.intCmp, Op.intBits])
 ·rw [Xg] at hx hy
  subst hx hy;cases op <;> simp only [lX, reduceCtorEq, Option.some.injEq] at H
  case add =>
   obtain ⟨hc, H1⟩ := K9 H;clear H;simp only [Option.some.injEq] at H1;subst H1;refine ⟨_, ?_, by simp only [RV]; rfl⟩
   rename_i sa sb;have : ¬ (((sa.size + sb.size : Nat) : Int) > IntKind.i64.max) := by
    rw [IntKind.max_i64];have := hc;unfold lim at this;omega
   simp only [eqGuard_at_string, binOp, Op.stringOp, Sem.run_bind, Sem.run_pure, Result.andThen_ok];rw [if_neg this];rfl
  all_goals
   subst H;refine ⟨_, ?_, by simp only [RV]; rfl⟩
   simp [eqGuard_at_string, binOp, Op.stringOp, A4L]
 ·simp at H
theorem B6a {c z : Operand} (F3 : o.op = .pick c y z) (H : (ob (src C.P 0 st c) fun rc => ob (src C.P o.type st y) fun ra => ob (src C.P o.type st z) fun rb =>
   og (J6 rc.2 && J6 ra.2 && J6 rb.2) (ob (A7X rc.1 ra.1 rb.1) fun d => k (st.put o.dst d .val))) = some x) (Rl : K3 E st a w.heap) (T : Then E w k x K) : Gp C.P o a w K := by
 obtain ⟨rc, h1, H⟩ := C8 H;obtain ⟨ra, h2, H⟩ := C8 H;obtain ⟨rb, h3, H⟩ := C8 H;obtain ⟨hc, H⟩ := F9 H;obtain ⟨d, hd, H⟩ := C8 H;simp only [z8q] at hc;have e1 := (Rl.src h1).data hc.1.1;have e2 := (Rl.src h2).data hc.1.2;have e3 := (Rl.src h3).data hc.2;rcases B1Z hd with ⟨hb, hd⟩ | ⟨hb, hd⟩
 ·rw [hb, LY] at e1
  subst hd;refine AB (v := a.eval y) ?_ H Rl e2 @T;simp [execOp, F3, e1, asBool]
 ·rw [hb, LY] at e1
  subst hd;refine AB (v := a.eval z) ?_ H Rl e3 @T;simp [execOp, F3, e1, asBool]
theorem B9D (F3 : o.op = .unOp op t y) (H : (ob (src C.P t st y) fun r => og (J6 r.2) (ob (M5 op r.1) fun d => k (st.put o.dst d .val))) = some x) (Rl : K3 E st a w.heap) (T : Then E w k x K) : Gp C.P o a w K := by
 obtain ⟨r, h1, H⟩ := C8 H;obtain ⟨hc, H⟩ := F9 H;obtain ⟨d, hd, H⟩ := C8 H;have e1 := (Rl.src h1).data hc;rcases B45 hd with ⟨b, rfl, hb, rfl⟩ | ⟨kd, n, rfl, hb, rfl⟩
 ·rw [hb, LY] at e1
  refine AB (v := .bool _) ?_ H Rl (by rw [LY]) @T
  simp [execOp, F3, e1, Op.unary]
 ·rw [hb, Bp] at e1
  refine AB (v := .int _ _) ?_ H Rl (by rw [Bp]) @T
  simp [execOp, F3, e1, Op.unary, Op.intArith]
theorem B7M {i : Nat} {r : DV × Meta} {m : Meta} (F3 : o.op = .extract y i) (h1 : src C.P 0 st y = some r) (hm : r.2 = .val) (hd : J5 i r.1 = some d) (hmv : m = .val) (H : k (st.put o.dst d m) = some x) (Rl : K3 E st a w.heap) (T : Then E w k x K) : Gp C.P o a w K := by
 subst hmv;have e1 := (Rl.src h1).data (by rw [hm]; rfl)
 obtain ⟨cs, hb, hd⟩ := A6I hd;rw [hb] at e1;simp only [RV] at e1;obtain ⟨vs, hv, hr⟩ := e1;obtain ⟨l1, l2⟩ := Vy.1 hr;have hi := (z0q.1 hd).1;have hvi : vs.toList[i]? = some (vs.toList[i]'(by omega)) := z9q (by omega)
 refine AB (v := vs.toList[i]'(by omega)) ?_ H Rl (l2 i d _ hd hvi) @T
 simp only [execOp, F3];refine Bv ?_;have C1v : vs[i]? = some (vs.toList[i]'(by omega)) := by simp
 simp only [Instr.extract, hv, C1v, Sem.run_pure]
theorem A7D {f : Nat} (F3 : o.op = .fieldAddr t y f) (H : QC C o t y f st k = some x) (Rl : K3 E st a w.heap) (T : Then E w k x K) : Gp C.P o a w K := by
 unfold QC at H;obtain ⟨r, h1, H⟩ := C8 H;obtain ⟨fd, h2, H⟩ := C8 H;obtain ⟨z, h3, H⟩ := C8 H;have hz : z.1 ≠ 0 := by intro h; rw [if_pos h] at H; simp at H
 rw [if_neg hz] at H;have hu : ∃ fs, C.P.underlying t = some (.struct fs) /\ fs[f]? = some fd := by
  unfold B1a at h2
  split at h2
  ·exact ⟨_, ‹_›, h2⟩
  ·simp at h2
 obtain ⟨fs, hu, hf⟩ := hu;have run : ∀ b off, a.eval y = .pointer (some ⟨b, off, none⟩) -> (execOp a.eval o).run C.P w = .ok (.value (.pointer (some ⟨b, off + fd.offset, none⟩))) w := by
  intro b off he;simp only [execOp, F3];refine Bv ?_;simp only [Instr.fieldAt, Sem.run_bind, run_underlying hu, Result.andThen_ok, hf, he, Instr.sureAddr, Sem.run_pure, fieldPlace, Ni h3, hz, if_false, Addr.add_lit]
 have e1 := Rl.src h1
 revert e1 H
 cases hm : r.2 <;> intro H e1 <;> simp only [reduceCtorEq] at H <;> simp only [RR, J8] at e1
 case loc s off => exact V4 (run _ _ e1.2) H Rl (fun _ _ => ⟨rfl, rfl⟩) @T
 case Na ag sz off =>
  obtain ⟨b, o0, r1, r2, r3⟩ := e1;exact V4 (run _ _ r1) H Rl (fun _ _ => ⟨b, o0, by rw [z16q], r2, r3⟩) @T
 case ptr i off => exact V4 (run _ _ e1.2) H Rl (fun _ _ => ⟨e1.1, rfl⟩) @T
 case Yy i sz idx off => exact V4 (run _ _ e1.2) H Rl (fun _ _ => ⟨e1.1, by rw [z16q]⟩) @T
 case o_ i n sz idx off =>
  obtain ⟨r1, r2, r3, b, p, r4, r5⟩ := e1;exact V4 (run _ _ r4) H Rl (fun _ _ => ⟨r1, r2, r3, b, p, by rw [z16q], r5⟩) @T
variable {kd : IntKind}
theorem VI {e : TypeId} {z : Nat × Bool} (hu : P.underlying t = some (.slice e)) (hz : tz P e = some z) {b : Addr} {len cap : Nat} {i : Int} (h0 : 0 <= i) (h1 : i < len) (w : World) :
 (Instr.indexAt t (.slice (some b) len cap) (.int kd i)).run P w = .ok (.pointer (some (b.add (i.toNat * z.1)))) w := by
 simp [Instr.indexAt, run_underlying hu, asIntOf, Ni hz, h0, h1]
theorem A5x {e : TypeId} {m : Nat} {z : Nat × Bool} (hu : P.underlying t = some (.array m e)) (hz : tz P e = some z) {b off : Nat} {i : Int} (h0 : 0 <= i) (h1 : i < m) (w : World) :
 (Instr.indexAt t (.pointer (some ⟨b, off, none⟩)) (.int kd i)).run P w = .ok (.pointer (some ⟨b, off + i.toNat * z.1, none⟩)) w := by
 simp [Instr.indexAt, run_underlying hu, asIntOf, Ni hz, h0, h1, Instr.sureAddr, Addr.add_lit]
theorem A7E {fl : Flags} {i : Operand} (F3 : o.op = .indexAddr t y i) (H : E_ C fl o t y i st k = some x) (Rl : K3 E st a w.heap) (T : Then E w k x K) : Gp C.P o a w K := by
 unfold E_ at H;obtain ⟨r, h1, H⟩ := C8 H;obtain ⟨j, h2, H⟩ := C8 H;cases h3 : IL C.P t with
 | none =>
   rw [h3] at H;simp only [qG] at H;obtain ⟨q, h4, H⟩ := C8 H;obtain ⟨z, h5, H⟩ := C8 H
   split at H
   ·rename_i s off hm
    obtain ⟨h6, H⟩ := F9 H;obtain ⟨n, h7, H⟩ := C8 H;have hu : C.P.underlying t = some (.array q.1 q.2) := by
     unfold B8m at h4
     split at h4
     ·simp only [Option.some.injEq] at h4; subst h4; assumption
     ·simp at h4
    have e1 := Rl.src h1;have f2 := (Rl.src h2).data h6;obtain ⟨kd, i, hj, h0, L8, rfl⟩ := je h7;rw [hj, Bp] at f2;rw [hm] at e1;simp only [RR, J8] at e1;refine V4 (v := .pointer (some ⟨_, _, none⟩)) ?_ H Rl (fun _ _ => ⟨rfl, rfl⟩) @T
    simp only [execOp, F3];refine Bv ?_;rw [e1.2, f2, A5x hu h5 h0 L8, Nat.zero_add]
   ·cases H
 | some e =>
 rw [h3] at H;simp only at H;obtain ⟨z, h4, H⟩ := C8 H;have hu : C.P.underlying t = some (.slice e) := by
  unfold IL at h3
  split at h3
  ·simp only [Option.some.injEq] at h3; subst h3; assumption
  ·simp at h3
 have e1 := Rl.src h1;have e2 := Rl.src h2;have dat : J6 r.2 = true -> og (J6 r.2 && J6 j.2) (ob (F5 z.1 r.1 j.1) fun d =>
  if z.2 then k (st.put o.dst d (.Na true z.1 0)) else og (M4 d) (k (st.put o.dst d (.Na false z.1 0)))) = some x -> Gp C.P o a w K := by
  intro Yl H;obtain ⟨hc, H⟩ := F9 H;obtain ⟨d, hd, H⟩ := C8 H;simp only [z8q] at hc;have f1 := e1.data hc.1;have f2 := e2.data hc.2;obtain ⟨ds, kd, n, hr, hj, h0, hd⟩ := B3r hd;rw [hr] at f1;rw [hj, Bp] at f2;simp only [RV, RC] at f1;obtain ⟨b, len, cap, hv, JI, A5Z, C1q, hpos, hel⟩ := f1;simp only [List.cons.injEq, and_true] at hv;have hn : n.toNat < ds.length := (z0q.1 hd).1;cases b with
  | none => have := C1q rfl; omega
  | some b =>
    obtain ⟨hs, hE⟩ := hel b rfl;have hs := hs (by omega)
    have hE := EA.1 hE n.toNat d hd;have hb : b = ⟨b.block, b.off, none⟩ := by cases b; simp only at hs; subst hs; rfl
    have AR : (execOp a.eval o).run C.P w = .ok (.value (.pointer (some ⟨b.block, b.off + n.toNat * z.1 + 0, none⟩))) w := by
     simp only [execOp, F3];refine Bv ?_;rw [hv, f2, VI hu h4 h0 (by omega)]
     rw [hb];simp only [Addr.add_lit, z20q]
    by_cases hz : z.2 = true
    ·rw [if_pos hz] at H
     exact V4 AR H Rl (fun _ _ => ⟨b.block, b.off + n.toNat * z.1, rfl, hE, by simp⟩) @T
    ·rw [if_neg hz] at H
     obtain ⟨hl, H⟩ := F9 H;exact V4 AR H Rl (fun _ _ => ⟨b.block, b.off + n.toNat * z.1, rfl, hE, fun _ => hl⟩) @T
 revert e1 H dat
 cases hm : r.2 <;> intro H e1 dat
 case arr i sz off len =>
  obtain ⟨hc, H⟩ := F9 H;obtain ⟨n, hn, H⟩ := C8 H;simp only [z8q, beq_iff_eq] at hc;have f2 := e2.data hc.2;obtain ⟨kd, q, hj, h0, L8, rfl⟩ := je hn;rw [hj, Bp] at f2;simp only [RR, J8] at e1;obtain ⟨hi, b, cap, hv, hb⟩ := e1;have hb := hb.1 (by omega)
  subst hb;refine V4 (v := .pointer (some ⟨E.obj i, E.base i + (off + q.toNat) * sz + 0, none⟩)) ?_ H Rl (fun _ _ => ?_) @T
  ·simp only [execOp, F3]
   refine Bv ?_;rw [hv, f2, VI hu h4 h0 L8];simp only [Addr.add_lit, z20q, hc.1, z39q, z16q]
  ·split
   ·exact ⟨hi, rfl⟩
   ·exact ⟨hi, rfl⟩
 case M6 i n sz len =>
  obtain ⟨hc, H⟩ := F9 H;obtain ⟨idx, hn, H⟩ := C8 H;simp only [z8q, beq_iff_eq] at hc;have f2 := e2.data hc.2;obtain ⟨kd, q, hj, h0, L8, rfl⟩ := je hn;rw [hj, Bp] at f2;simp only [RR, J8] at e1;obtain ⟨r1, r2, r3, a', cap, r4, r5, r6, r7, r8⟩ := e1;cases a' with
  | none => have := r6 rfl; omega
  | some b =>
    have hs := r7 (by omega) b rfl
    have hb : b = ⟨b.block, b.off, none⟩ := by cases b; simp only at hs; subst hs; rfl
    refine V4 (v := .pointer (some ⟨b.block, b.off + q.toNat * sz + 0, none⟩)) ?_ H Rl (fun _ _ => ⟨r1, r2, r3, b.block, b.off + q.toNat * sz, by rw [z20q], fun e => ?_⟩) @T
    ·simp only [execOp, F3]
     refine Bv ?_;rw [r4, f2, VI hu h4 h0 L8, hb];simp only [Addr.add_lit, z20q, hc.1]
    ·obtain ⟨q1, -⟩ := r8 e (by omega)
     simp only [Option.some.injEq] at q1;rw [q1];exact ⟨rfl, by rw [Nat.zero_add]⟩
 all_goals exact dat (by have := (F9 H).1; simp only [z8q] at this; exact this.1) H
end
end Go.Su

/-
 THE DATA MACHINE, part 8: comparison, lengths, bytes of texts, parts of slices, fields of values.
-/
namespace Go.Su
variable {S : Z5} {h : Heap} {sz : Nat} {ds : List DV} {v : Value}
theorem LZ (H : RV S h (.list sz ds) v) :
 ∃ a len cap, v = .slice a len cap /\ len = ds.length /\ len <= cap /\ (a = none -> cap = 0) /\ (ds ≠ [] -> 0 < sz) /\ ∀ x, a = some x -> (0 < cap -> x.spot = none) /\ Di S h sz x.block x.off ds := by
 simp only [RV, RC] at H;obtain ⟨a, len, cap, h1, h2⟩ := H;simp only [List.cons.injEq, and_true] at h1;exact ⟨a, len, cap, h1, h2⟩
variable {len : Nat} {cap : Nat}
theorem UB {a : Option Addr} (h1 : len = ds.length) (h2 : len <= cap) (h3 : a = none -> cap = 0) (h4 : ds ≠ [] -> 0 < sz) (h5 : ∀ x, a = some x -> (0 < cap -> x.spot = none) /\ Di S h sz x.block x.off ds) : RV S h (.list sz ds) (.slice a len cap) := by
 simp only [RV, RC];exact ⟨a, len, cap, rfl, h1, h2, h3, h4, h5⟩
theorem B3s {y d : DV} (h : dLen y = some d) : ∃ sz ds, y = .list sz ds /\ d = .int .i64 ds.length := by
 unfold dLen at h
 split at h
 ·simp only [Option.some.injEq] at h; exact ⟨_, _, rfl, h.symm⟩
 ·simp at h
theorem B1Y {y d : DV} (h : CF y = some d) : ∃ s, y = .str s /\ d = .int .i64 s.size := by
 unfold CF at h
 split at h
 ·simp only [Option.some.injEq] at h; exact ⟨_, rfl, h.symm⟩
 ·simp at h
theorem A8r {y i d : DV} (h : j6 y i = some d) : ∃ s kd n b, y = .str s /\ i = .int kd n /\ 0 <= n /\ s.data[n.toNat]? = some b /\ d = .int .u8 b.toNat := by
 unfold j6 at h
 split at h
 ·obtain ⟨h0, h⟩ := K9 h
  simp only [z12q] at h;obtain ⟨b, hb, rfl⟩ := h;exact ⟨_, _, _, b, rfl, rfl, h0, hb, rfl⟩
 ·simp at h
theorem av {n m : Nat} {x : Option DV} (h : bnd n x = some m) : (x = none /\ m = n) \/ ∃ kd q, x = some (.int kd q) /\ 0 <= q /\ m = q.toNat := by
 unfold bnd at h
 split at h
 ·simp only [Option.some.injEq] at h; exact .inl ⟨rfl, h.symm⟩
 ·obtain ⟨h0, h⟩ := K9 h
  simp only [Option.some.injEq] at h;exact .inr ⟨_, _, rfl, h0, h.symm⟩
 ·simp at h
theorem A17 {y d : DV} {lo hi : Option DV} (h : Ak sz y lo hi = some d) : ∃ ds hh ll, y = .list sz ds /\ bnd ds.length hi = some hh /\ bnd 0 lo = some ll /\ ll <= hh /\ hh <= ds.length /\ d = .list sz ((ds.take hh).drop ll) := by
 unfold Ak at h
 split at h
 ·obtain ⟨hh, b1, h⟩ := C8 h
  obtain ⟨ll, b2, h⟩ := C8 h;obtain ⟨⟨c1, c2, c3⟩, h⟩ := K9 h;simp only [Option.some.injEq] at h;subst c1;exact ⟨_, hh, ll, rfl, b1, b2, c2, c3, h.symm⟩
 ·simp at h
theorem A8q {y d hi mx : DV} {lo : Option DV} (h : A05 sz y lo hi mx = some d) : ∃ kd kd' q, hi = .int kd q /\ mx = .int kd' q /\ Ak sz y lo (some hi) = some d := by
 unfold A05 at h
 split at h
 ·obtain ⟨hqm, h1⟩ := K9 h
  subst hqm;exact ⟨_, _, _, rfl, rfl, h1⟩
 ·simp at h
theorem B0i {b o l n : Nat} (H : Di S h sz b o ds) : Di S h sz b (o + l * sz) ((ds.take n).drop l) := by
 rw [EA] at H ⊢;intro i d hd;rw [z6q] at hd;have NL : ds[l + i]? = some d := by
  rw [List.getElem?_take] at hd
  split at hd
  ·exact hd
  ·simp at hd
 have := H (l + i) d NL
 rwa [z39q, <- z16q] at this
section
variable {X : Type} {C : AO} {R : Q8} {o : Oper} {st : St} {k : St -> Option X} {x : X} {E : Env} {a : Act} {w : World} {K : Act -> World -> Prop} {Q : Exit -> Act -> World -> Prop} {P : Program} {hp : Heap}
theorem A1k {isS : Bool} {h l : Nat} {lo hi : Option DV} {vlo vhi : Option Value} (hh : bnd len hi = some h) (hl : bnd 0 lo = some l) (h1 : l <= h) (h2 : h <= len) (h3 : len <= cap) (elo : ∀ d, lo = some d -> ∃ v, vlo = some v /\ RV S hp d v) (nlo : lo = none -> vlo = none) (ehi : ∀ d, hi = some d -> ∃ v, vhi = some v /\ RV S hp d v) (nhi : hi = none -> vhi = none) (w : World) :
 (Instr.sliceBounds isS len cap vlo vhi none).run P w = .ok (l, h, cap) w := by
 have A : ∀ (kd : IntKind) (q : Int) (y : Nat) (code : BoundsCode), 0 <= q -> q.toNat <= y -> (Instr.sliceBound (.int kd q) y code).run P w = .ok q.toNat w := by
  intro kd q y code h0 h4;unfold Instr.sliceBound;simp only [asIntOf, pure_bind, Sem.run_ite];rw [if_pos ⟨h0, by omega⟩]
  rfl
 unfold Instr.sliceBounds;rcases av hh with ⟨rfl, rfl⟩ | ⟨kd, q, rfl, h0, rfl⟩
 ·rw [nhi rfl]
  rcases av hl with ⟨rfl, rfl⟩ | ⟨kd', q', rfl, VD, rfl⟩
  ·rw [nlo rfl]; simp
  ·obtain ⟨v, rfl, hv⟩ := elo _ rfl
   rw [Bp] at hv;subst hv;simp only [Sem.run_bind, Sem.run_pure, Result.andThen_ok, A _ _ _ _ VD h1]
 ·obtain ⟨v, rfl, hv⟩ := ehi _ rfl
  rw [Bp] at hv;subst hv;rcases av hl with ⟨rfl, rfl⟩ | ⟨kd', q', rfl, VD, rfl⟩
  ·rw [nlo rfl]
   simp only [Sem.run_bind, Sem.run_pure, Result.andThen_ok, A _ _ _ _ h0 (by omega : q.toNat <= cap)]
  ·obtain ⟨v, rfl, hv⟩ := elo _ rfl
   rw [Bp] at hv;subst hv;simp only [Sem.run_bind, Sem.run_pure, Result.andThen_ok, A _ _ _ _ h0 (by omega : q.toNat <= cap), A _ _ _ _ VD h1]
theorem A56 {y : Option Operand} {l : Option DV} (h : YG P st y = some l) (Rl : K3 E st a w.heap) :
 (∀ d, l = some d -> ∃ v, y.map a.eval = some v /\ RV E.S w.heap d v) /\ (l = none -> y.map a.eval = none) := by
 unfold YG at h
 split at h
 ·simp only [Option.some.injEq] at h; subst h; simp
 ·obtain ⟨r, h1, h⟩ := C8 h
  obtain ⟨h2, h⟩ := F9 h;simp only [Option.some.injEq] at h;subst h;refine ⟨fun d hd => ?_, by simp⟩
  simp only [Option.some.injEq] at hd;subst hd;exact ⟨_, rfl, (Rl.src h1).data h2⟩
variable {t : TypeId} {b : Option Addr}
theorem qx {e : TypeId} {z : Nat × Bool} (hu : P.underlying t = some (.slice e)) (hz : tz P e = some z) {l h m : Nat} {vlo vhi vmx : Option Value} (hb : (Instr.sliceBounds true len cap vlo vhi vmx).run P w = .ok (l, h, m) w) :
 (Instr.sliceAt t (.slice b len cap) vlo vhi vmx).run P w = .ok (.slice (if m = l then b else b.map (·.add (l * z.1))) (h - l) (m - l)) w := by
 unfold Instr.sliceAt;simp only [Sem.run_bind, run_underlying hu, Result.andThen_ok];unfold Instr.slice;simp only [Sem.run_bind, run_underlying hu, Result.andThen_ok, hb, Ni hz, Sem.run_pure]
theorem A9K {l h m : Nat} (H : RV S hp (.list sz ds) (.slice b len cap)) (h1 : l <= h) (h2 : h <= ds.length) (h3 : h <= m) (h4 : m <= cap) :
 RV S hp (.list sz ((ds.take h).drop l)) (.slice (if m = l then b else b.map (·.add (l * sz))) (h - l) (m - l)) := by
 obtain ⟨b', len', cap', hv, e1, e2, e3, e4, e5⟩ := LZ H;simp only [Value.slice.injEq] at hv;obtain ⟨rfl, rfl, rfl⟩ := hv;refine UB ?_ (by omega) ?_ ?_ ?_
 ·simp only [z14q, z11q]; omega
 ·intro hn
  split at hn
  ·omega
  ·cases b with
   | none => have := e3 rfl; omega
   | some y => simp at hn
 ·intro hne
  exact e4 fun hd => hne (by simp [hd])
 ·intro y hy
  split at hy
  ·rename_i hml
   have hlh : h = l := by omega
   obtain ⟨s1, s2⟩ := e5 y hy;refine ⟨fun h0 => absurd h0 (by omega), ?_⟩
   have : (ds.take h).drop l = [] := by
    apply List.drop_eq_nil_of_le;simp only [z11q];omega
   rw [this];simp only [Di]
  ·cases b with
   | none => simp at hy
   | some z =>
     simp only [z25q, Option.some.injEq] at hy;subst hy;obtain ⟨s1, s2⟩ := e5 z rfl;have s1 := s1 (by omega)
     have hz : z = ⟨z.block, z.off, none⟩ := by cases z; simp only at s1; subst s1; rfl
     rw [hz];simp only [Addr.add_lit];exact ⟨fun _ => trivial, B0i s2⟩
theorem B1R {m : Meta} {q : Nat × Nat × Nat × Nat} (h : B1Q m = some q) : m = .arr q.1 q.2.1 q.2.2.1 q.2.2.2 := by
 unfold B1Q at h
 split at h
 ·simp only [Option.some.injEq] at h; subst h; rfl
 ·cases h
theorem A4Q {e : TypeId} (h : IL P t = some e) : P.underlying t = some (.slice e) := by
 unfold IL at h
 split at h
 ·simp only [Option.some.injEq] at h; subst h; assumption
 ·cases h
theorem B4T {E : Env} {tg : Tag} {i off l hh : Nat} (e1 : J8 E h tg .undef (.arr i sz off len) (.slice b len cap)) (c2 : l <= hh) (c3 : hh <= len) :
 J8 E h tg .undef (.arr i sz (off + l) (hh - l)) (.slice (if cap = l then b else b.map (·.add (l * sz))) (hh - l) (cap - l)) := by
 obtain ⟨f0, b', cap', hv, f1, f2, f3, f4, f5⟩ := e1;simp only [Value.slice.injEq, true_and] at hv;obtain ⟨rfl, rfl⟩ := hv;refine ⟨f0, _, _, rfl, fun hp => ?_, by omega, fun hb => ?_, fun y hy => ?_, fun hp => ?_⟩
 ·rw [if_neg (by omega), f1 (by omega), z25q, Addr.add_lit, z16q, <- z39q]
 ·split at hb
  ·rw [f3 hb]; omega
  ·cases b with
   | none => rw [f3 rfl]; omega
   | some z => simp at hb
 ·split at hy
  ·exact f4 y hy
  ·cases b with
   | none => simp at hy
   | some z =>
     simp only [z25q, Option.some.injEq] at hy;subst hy;have := f4 z rfl;have hz : z = ⟨z.block, z.off, none⟩ := by cases z; simp only at this; subst this; rfl
     rw [hz, Addr.add_lit]
 ·have := f5 (by omega)
  rwa [show off + l + (cap - l) = off + cap by omega]
theorem A5S {m : Meta} {q : Nat × Nat × Nat × Nat} (h : A77 m = some q) : m = .M6 q.1 q.2.1 q.2.2.1 q.2.2.2 := by
 unfold A77 at h
 split at h
 ·simp only [Option.some.injEq] at h; subst h; rfl
 ·cases h
theorem B6u {E : Env} {tg : Tag} {i n hh : Nat} (e1 : J8 E h tg .undef (.M6 i n sz len) (.slice b len cap)) (c3 : hh <= len) :
 J8 E h tg .undef (.M6 i n sz hh) (.slice (if cap = 0 then b else b.map (·.add (0 * sz))) (hh - 0) (cap - 0)) := by
 obtain ⟨r1, r2, r3, b', cap', hv, f2, f3, f4, f5⟩ := e1;simp only [Value.slice.injEq, true_and] at hv;obtain ⟨rfl, rfl⟩ := hv;have eb : (if cap = 0 then b else b.map (·.add (0 * sz))) = b := by
  split
  ·rfl
  ·cases b with
   | none => rfl
   | some z =>
     have := f4 (by omega) z rfl
     have hz : z = ⟨z.block, z.off, none⟩ := by cases z; simp only at this; subst this; rfl
     rw [z25q, hz, Addr.add_lit, Nat.zero_mul, z20q]
 rw [eb];exact ⟨r1, r2, r3, b, cap, rfl, by omega, f3, f4, f5⟩
variable {y : Operand}
theorem B4n {lo hi mx : Option Operand} (F3 : o.op = .slice t y lo hi mx) (H : OU C o t y lo hi mx st k = some x) (Rl : K3 E st a w.heap) (T : Then E w k x K) : Gp C.P o a w K := by
 unfold OU at H;obtain ⟨r, h1, H⟩ := C8 H;obtain ⟨l, h2, H⟩ := C8 H;obtain ⟨h, h3, H⟩ := C8 H;obtain ⟨m, h4, H⟩ := C8 H;obtain ⟨l1, l2⟩ := A56 h2 Rl;obtain ⟨k1, k2⟩ := A56 h3 Rl;obtain ⟨m1, m2⟩ := A56 h4 Rl;have U1 : ∀ v, (Instr.sliceAt t (a.eval y) (lo.map a.eval) (hi.map a.eval) (mx.map a.eval)).run C.P w = .ok v w -> (execOp a.eval o).run C.P w = .ok (.value v) w := by
  intro v hv;simp only [execOp, F3];exact Bv hv
 split at H
 ·rename_i q hq
  have hm := B1R hq;have e1 := Rl.src h1;rw [hm] at e1;simp only [RR, J8] at e1;obtain ⟨e, he, H⟩ := C8 H;obtain ⟨z, hz, H⟩ := C8 H;obtain ⟨wB, H⟩ := F9 H;obtain ⟨hh, b1, H⟩ := C8 H;obtain ⟨ll, b2, H⟩ := C8 H;obtain ⟨⟨c2, c3⟩, H⟩ := K9 H;rw [z8q, beq_iff_eq] at wB;have hmn : m = none := by cases m; rfl; exact absurd wB.1 (by simp)
  have hu := A4Q he;obtain ⟨f0, b, cap, hv, fr⟩ := e1;rw [hv] at U1;refine V4 (m := .arr q.1 q.2.1 (q.2.2.1 + ll) (hh - ll)) (U1 (.slice (if cap = ll then b else b.map (·.add (ll * q.2.1))) (hh - ll) (cap - ll)) ?_) H Rl (fun _ _ => ?_) @T
  ·rw [m2 hmn, wB.2]
   exact qx hu hz (A1k b1 b2 c2 c3 fr.2.1 l1 l2 k1 k2 w)
  ·exact B4T (h := w.heap) (tg := .other) ⟨f0, b, cap, rfl, fr⟩ c2 c3
 split at H
 ·rename_i q hq
  have hm := A5S hq;have e1 := Rl.src h1;rw [hm] at e1;simp only [RR] at e1;obtain ⟨e, he, H⟩ := C8 H;obtain ⟨z, hz, H⟩ := C8 H;obtain ⟨wB, H⟩ := F9 H;obtain ⟨hh, b1, H⟩ := C8 H;obtain ⟨c3, H⟩ := K9 H;simp only [z8q, beq_iff_eq] at wB;have hmn : m = none := by cases m; rfl; exact absurd wB.1.1 (by simp)
  have hln : l = none := by cases l; rfl; exact absurd wB.1.2 (by simp)
  have hu := A4Q he;have e0 := e1;simp only [J8] at e0;obtain ⟨-, -, -, b, cap, hv, fc, -⟩ := e0;rw [hv] at U1 e1;have b2 : bnd 0 l = some 0 := by rw [hln]; rfl
  refine V4 (m := .M6 q.1 q.2.1 q.2.2.1 hh) (U1 (.slice (if cap = 0 then b else b.map (·.add (0 * q.2.2.1))) (hh - 0) (cap - 0)) ?_) H Rl (fun _ _ => ?_) @T
  ·rw [m2 hmn, wB.2]
   exact qx hu hz (A1k b1 b2 (Nat.zero_le _) c3 fc l1 l2 k1 k2 w)
  ·exact B6u (h := w.heap) (tg := .other) e1 c3
 rename_i hq _;obtain ⟨hd, H⟩ := F9 H;have e1 := (Rl.src h1).data hd
 split at H
 ·rename_i e hu
  obtain ⟨z, hz, H⟩ := C8 H
  split at H
  ·obtain ⟨d, NL, H⟩ := C8 H
   obtain ⟨ds, hh, ll, hr, b1, b2, c2, c3, rfl⟩ := A17 NL;rw [hr] at e1;obtain ⟨b, len, cap, hv, f1, f2, f3⟩ := LZ e1;rw [hv] at e1;refine AB (U1 _ ?_) H Rl (A9K (m := cap) e1 c2 c3 (by omega) (z7q _)) @T
   rw [hv, m2 rfl];exact qx hu hz (A1k (f1 ▸ b1) b2 c2 (by omega) f2 l1 l2 k1 k2 w)
  ·obtain ⟨d, NL, H⟩ := C8 H
   obtain ⟨kd, kd', qh, rfl, rfl, hd3⟩ := A8q NL;obtain ⟨ds, hh, ll, hr, b1, b2, c2, c3, rfl⟩ := A17 hd3;rw [hr] at e1;obtain ⟨b, len, cap, hv, f1, f2, f3⟩ := LZ e1;rw [hv] at e1;have hb := av b1;simp only [reduceCtorEq, false_and, Option.some.injEq, DV.int.injEq, false_or] at hb;obtain ⟨kd1, q1, ⟨rfl, rfl⟩, hq0, rfl⟩ := hb;have hR := A9K (m := qh.toNat) e1 c2 c3 (z7q _) (by omega)
   refine V4 (m := .full) (U1 _ ?_) H Rl (fun _ _ => ⟨hR, ⟨_, _, rfl⟩, _, _, rfl⟩) @T
   obtain ⟨vh, evh, rvh⟩ := k1 _ rfl;obtain ⟨vm, evm, rvm⟩ := m1 _ rfl;rw [Bp] at rvh rvm;subst rvh rvm;rw [hv, evh, evm];refine qx hu hz ?_;have A : ∀ (kd : IntKind) (q : Int) (y : Nat) (code : BoundsCode), 0 <= q -> q.toNat <= y -> (Instr.sliceBound (.int kd q) y code).run C.P w = .ok q.toNat w := by
    intro kd q y code h0 h4;unfold Instr.sliceBound;simp only [asIntOf, pure_bind, Sem.run_ite];rw [if_pos ⟨h0, by omega⟩]
    rfl
   unfold Instr.sliceBounds;rcases av b2 with ⟨rfl, rfl⟩ | ⟨kd', q', rfl, VD, rfl⟩
   ·rw [l2 rfl]
    simp only [Sem.run_bind, Sem.run_pure, Result.andThen_ok, A _ _ _ _ hq0 (by omega : qh.toNat <= cap), A _ _ _ _ hq0 (z7q _)]
   ·obtain ⟨v, evl, hv⟩ := l1 _ rfl
    rw [Bp] at hv;subst hv;rw [evl];simp only [Sem.run_bind, Sem.run_pure, Result.andThen_ok, A _ _ _ _ hq0 (by omega : qh.toNat <= cap), A _ _ _ _ hq0 (z7q _), A _ _ _ _ VD c2]
  ·simp at H
 ·rename_i hu
  split at H
  ·obtain ⟨d, NL, H⟩ := C8 H
   unfold lW at NL
   split at NL
   ·rename_i s hr
    obtain ⟨hh, b1, NL⟩ := C8 NL;obtain ⟨ll, b2, NL⟩ := C8 NL;obtain ⟨⟨c2, c3⟩, NL⟩ := K9 NL;simp only [Option.some.injEq] at NL;subst NL;rw [hr, Xg] at e1;refine AB (v := .string _) (U1 _ ?_) H Rl (by rw [Xg]) @T
    rw [e1, m2 rfl];unfold Instr.sliceAt;simp only [Sem.run_bind, run_underlying hu, Result.andThen_ok];unfold Instr.slice;simp only [Sem.run_bind, run_underlying hu, Result.andThen_ok, Option.isSome_none, z23q, if_false, Sem.run_pure, A1k b1 b2 c2 c3 (z7q _) l1 l2 k1 k2 w]
   ·simp at NL
  ·simp at H
 ·simp at H
theorem Hq {b : Builtin} {c : Call} (F3 : o.op = .call c) (hc : c.callee = .builtin b) {w' : World} (h : (builtin b c.argTypes o.type (c.args.map fun | .const _ => true | _ => false) (c.args.map a.eval)).run C.P w = .ok (.value v) w') : (execOp a.eval o).run C.P w = .ok (.value v) w' := by
 simp only [execOp, F3, resolve, hc, Sem.run_bind, Sem.run_pure, Result.andThen_ok, invoke];exact h
theorem B07 {α : Type} {xs : Array α} {y : α} (h : xs.toList = [y]) : xs = #[y] := by
 cases xs; simp at h; subst h; rfl
theorem SA {α : Type} {xs : Array α} {y z : α} (h : xs.toList = [y, z]) : xs = #[y, z] := by
 cases xs; simp at h; subst h; rfl
theorem B7N {c : Call} (F3 : o.op = .call c) (hc : c.callee = .builtin .len) (ha : c.args.toList = [y]) (ht : c.argTypes.toList = [t]) (H : Um C o y t st k = some x) (Rl : K3 E st a w.heap) (T : Then E w k x K) : Gp C.P o a w K := by
 unfold Um at H;obtain ⟨r, h1, H⟩ := C8 H;have e1 := Rl.src h1;have U1 : ∀ v, (Builtin.len_ #[t] o.type #[a.eval y]).run C.P w = .ok v w -> (execOp a.eval o).run C.P w = .ok (.value v) w := by
  intro v hv;refine Hq F3 hc ?_;rw [B07 ht, show c.args.map a.eval = #[a.eval y] from by rw [B07 ha]; simp]
  exact Bv hv
 have fin : ∀ {n : Nat}, k (st.put o.dst (.int .i64 n) .val) = some x -> (Builtin.len_ #[t] o.type #[a.eval y]).run C.P w = .ok (.int .i64 n) w -> Gp C.P o a w K :=
  fun H hv => AB (U1 _ hv) H Rl (by rw [Bp]) @T
 split at H
 ·rename_i e hu
  have dat : og (J6 r.2) (ob (dLen r.1) fun d => k (st.put o.dst d .val)) = some x -> Gp C.P o a w K := by
   intro H;obtain ⟨hd, H⟩ := F9 H;obtain ⟨d, NL, H⟩ := C8 H;obtain ⟨sz, ds, hr, rfl⟩ := B3s NL;have e2 := e1.data hd;rw [hr] at e2;obtain ⟨b, len, cap, hv, f1, -⟩ := LZ e2;refine fin H ?_;rw [hv, f1];unfold Builtin.len_;simp [run_underlying hu, goInt]
  split at H
  ·rename_i i sz off len hm
   rw [hm] at e1;simp only [RR, J8] at e1;obtain ⟨hi, b, cap, hv, -⟩ := e1;refine fin H ?_;rw [hv];unfold Builtin.len_;simp [run_underlying hu, goInt]
  ·rename_i i n sz len hm
   rw [A1o] at H;rw [hm] at e1;simp only [RR, J8] at e1;obtain ⟨-, -, -, b, cap, hv, -⟩ := e1;refine fin H ?_;rw [hv];unfold Builtin.len_;simp [run_underlying hu, goInt]
  ·exact dat H
 ·rename_i hu
  obtain ⟨hd, H⟩ := F9 H;obtain ⟨d, NL, H⟩ := C8 H;obtain ⟨s, hr, rfl⟩ := B1Y NL;have e2 := e1.data hd;rw [hr, Xg] at e2;refine fin H ?_;rw [e2];unfold Builtin.len_;simp [run_underlying hu, goInt]
 ·rename_i kt et hu
  obtain ⟨n, hn, H⟩ := C8 H;unfold B3T at hn
  split at hn
  ·rename_i i hm
   obtain ⟨es, hes, hn⟩ := C8 hn;simp only [Option.some.injEq] at hn;subst hn;rw [hm] at e1;simp only [RR, J8] at e1;have hO : st.sg[i]? = some (.map es.1 es.2) := by
    unfold Ko at hes
    split at hes
    ·simp only [Option.some.injEq] at hes; subst hes; assumption
    ·simp at hes
   obtain ⟨ens, clk, g1, g2, g3, -⟩ := Rl.U4 i _ hO;refine fin H ?_;rw [e1.2, g3.1];unfold Builtin.len_;simp [run_underlying hu, goInt, getObj, Sem.run, g1]
  ·rename_i hm
   simp only [Option.some.injEq] at hn;subst hn;rw [hm] at e1;simp only [RR, J8] at e1;refine fin H ?_;rw [e1];unfold Builtin.len_;simp [run_underlying hu, goInt]
  ·simp at hn
 ·simp at H
end
end Go.Su

/-
 THE DATA MACHINE, part 9: operators, bytes of texts, fields of values, checked addresses, max and min.
-/
namespace Go.Su
variable {b : Bool}
theorem B3m {y z : DV} (h : UE y z = some b) : ∃ p q, y = .bool p /\ z = .bool q /\ b = (p == q) := by
 unfold UE at h
 split at h
 ·simp only [Option.some.injEq] at h; exact ⟨_, _, rfl, rfl, h.symm⟩
 ·simp at h
theorem B3l {ks : List LK} {y z : DV} (h : WA ks y z = some b) : ∃ p q, y = .agg p /\ z = .agg q /\ Cm ks p q = some b := by
 unfold WA at h
 split at h
 ·exact ⟨_, _, rfl, rfl, h⟩
 ·simp at h
variable {op : BinOp} {d : DV}
theorem A4S (h : qE op b = some d) : (op = .eql /\ d = .bool b) \/ (op = .neq /\ d = .bool !b) := by
 unfold qE at h
 split at h <;> simp only [Option.some.injEq, reduceCtorEq] at h <;> subst h
 ·exact .inl ⟨rfl, rfl⟩
 ·exact .inr ⟨rfl, rfl⟩
theorem B3t {y z : DV} (h : UF y z = some d) : ∃ k p q, y = .int k p /\ z = .int k q /\ d = .int k (if q > p then q else p) := by
 unfold UF at h
 split at h
 ·obtain ⟨hk, h1⟩ := K9 h
  simp only [Option.some.injEq] at h1;subst hk;exact ⟨_, _, _, rfl, rfl, h1.symm⟩
 ·simp at h
theorem B3u {y z : DV} (h : YU y z = some d) : ∃ k p q, y = .int k p /\ z = .int k q /\ d = .int k (if q < p then q else p) := by
 unfold YU at h
 split at h
 ·obtain ⟨hk, h1⟩ := K9 h
  simp only [Option.some.injEq] at h1;subst hk;exact ⟨_, _, _, rfl, rfl, h1.symm⟩
 ·simp at h
variable {P : Program} {t : TypeId} {lk : LK}
theorem B3S (h : iy P t = some lk) (w : World) : (isAgg t).run P w = .ok false w := by
 unfold iy at h
 split at h
 ·rename_i hu; unfold isAgg; simp [run_underlying hu]
 ·rename_i hu; unfold isAgg; simp [run_underlying hu]
 ·rename_i hu; unfold isAgg; simp [run_underlying hu]
 ·simp at h
variable {hp : Heap}
theorem A8C {S : Z5} {dx dy : DV} {vx vy : Value} (hk : iy P t = some lk) (H : xq lk dx dy = some b) (hx : RC S hp dx [vx]) (hy : RC S hp dy [vy]) (n : Nat) (w : World) : (Op.equalIn (n + 1) t vx vy).run P w = .ok b w := by
 unfold xq at H
 split at H
 ·obtain ⟨ZQ, H1⟩ := K9 H
  simp only [Option.some.injEq] at H1;subst H1 ZQ;simp only [RC, List.cons.injEq, and_true] at hx hy;subst hx hy;unfold iy at hk
  split at hk <;> simp only [Option.some.injEq, reduceCtorEq] at hk
  rename_i hu;exact run_equalIn_int w n t _ _ _ _ hu
 ·simp only [Option.some.injEq] at H
  subst H;simp only [RC, List.cons.injEq, and_true] at hx hy;subst hx hy;unfold iy at hk
  split at hk <;> simp only [Option.some.injEq, reduceCtorEq] at hk
  rename_i hu;exact run_equalIn_bool' w n t _ _ hu
 ·simp only [Option.some.injEq] at H
  subst H;simp only [RC, List.cons.injEq, and_true] at hx hy;subst hx hy;unfold iy at hk
  split at hk <;> simp only [Option.some.injEq, reduceCtorEq] at hk
  rename_i hu;exact run_equalIn_string w n t _ _ hu
 ·simp at H
variable {v : Value}
theorem A7b (h : iy P t = some lk) {cs : Array Value} {off : Nat} (hv : cs[off]? = some v) (w : World) : (part t cs off).run P w = .ok v w := by
 unfold part;simp [B3S h, hv]
theorem A7w {S : Z5} {n : Nat} {xs ys : Array Value} {ax ay : List DV} (hx : GI S hp ax xs.toList) (hy : GI S hp ay ys.toList) : ∀ (fs : List Field) (ks : List LK) (i : Nat) (b : Bool),
 Sl P i fs = some ks -> Cm ks (ax.drop i) (ay.drop i) = some b -> ∀ w : World, (Op.eqFields (n + 1) xs ys fs).run P w = .ok b w := by
 obtain ⟨lx, hx⟩ := EO.1 hx;obtain ⟨ly, hy⟩ := EO.1 hy;intro fs
 induction fs with
 | nil =>
   intro ks i b h1 h2 w;simp only [Sl, Option.some.injEq] at h1;subst h1;unfold Cm at h2
   split at h2 <;> simp_all [Op.eqFields]
 | cons f fs ih =>
   intro ks i b h1 h2 w;simp only [Sl] at h1;obtain ⟨hc, h1⟩ := K9 h1;obtain ⟨lk, hk, h1⟩ := C8 h1;obtain ⟨ks', hks, h1⟩ := C8 h1;simp only [Option.some.injEq] at h1;subst h1;simp only [z8q, bne_iff_ne, ne_eq, beq_iff_eq] at hc;cases hax : ax.drop i with
   | nil => rw [hax] at h2; simp [Cm] at h2
   | cons dx rx =>
     cases hay : ay.drop i with
     | nil => rw [hax, hay] at h2; simp [Cm] at h2
     | cons dy ry =>
       rw [hax, hay] at h2;simp only [Cm] at h2;obtain ⟨q, hq, h2⟩ := C8 h2;have B8N : ax[i]? = some dx := by have := congrArg (fun l : List DV => l[0]?) hax; simpa using this
       have B8O : ay[i]? = some dy := by have := congrArg (fun l : List DV => l[0]?) hay; simpa using this
       have JR : i < xs.toList.length := by have := (z0q.1 B8N).1; omega
       have Xz : i < ys.toList.length := by have := (z0q.1 B8O).1; omega
       have hvx : xs.toList[i]? = some xs.toList[i] := z9q JR;have hvy : ys.toList[i]? = some ys.toList[i] := z9q Xz;have rx' : rx = ax.drop (i + 1) := by rw [<- List.tail_drop, hax]; rfl
       have ry' : ry = ay.drop (i + 1) := by rw [<- List.tail_drop, hay]; rfl
       have e1 : (part f.type xs f.offset).run P w = .ok xs.toList[i] w := A7b hk (by rw [hc.2]; simp) w
       have e2 : (part f.type ys f.offset).run P w = .ok ys.toList[i] w := A7b hk (by rw [hc.2]; simp) w
       have e3 := A8C (P := P) hk hq (hx i dx _ B8N hvx).2 (hy i dy _ B8O hvy).2 n w;simp only [Op.eqFields, Sem.run_ite];rw [if_pos hc.1];simp only [Sem.run_bind, e1, e2, e3, Result.andThen_ok, Sem.run_ite];cases q with
       | false => simp only [z23q, if_false, Option.some.injEq] at h2; subst h2; simp
       | true =>
         simp only [if_true] at h2;rw [rx', ry'] at h2;simpa using ih ks' (i + 1) b hks h2 w
section
variable {X : Type} {C : AO} {R : Q8} {o : Oper} {st : St} {k : St -> Option X} {x : X} {E : Env} {a : Act} {w : World} {K : Act -> World -> Prop} {Q : Exit -> Act -> World -> Prop}
theorem B17 {e : TypeId} (hu : P.underlying t = some (.pointer e)) (n : Nat) (b : Option Addr) (w : World) : (Op.equalIn (n + 1) t (.pointer none) (.pointer b)).run P w = .ok b.isNone w := by
 simp [Op.equalIn, run_underlying hu]
theorem B18 {e : TypeId} (hu : P.underlying t = some (.pointer e)) (n : Nat) (b : Addr) (w : World) : (Op.equalIn (n + 1) t (.pointer (some b)) (.pointer none)).run P w = .ok false w := by
 simp [Op.equalIn, run_underlying hu]
theorem jE {E : Env} {h : Heap} {k a : Nat} {r : DV × Meta} (H : YJ r = some b) (R : RR E h k a r.1 r.2 v) : ∃ p : Option Addr, v = .pointer p /\ p.isNone = b := by
 obtain ⟨d, m⟩ := r;unfold YJ at H;simp only at H R
 split at H
 ·simp only [Option.some.injEq] at H
  subst H;obtain ⟨-, rfl⟩ := (R : _ /\ _);exact ⟨none, rfl, rfl⟩
 ·simp only [Option.some.injEq] at H
  subst H;obtain ⟨-, rfl⟩ := (R : _ /\ _);exact ⟨_, rfl, rfl⟩
 ·split at H <;> simp only [Option.some.injEq, reduceCtorEq] at H <;> subst H
  ·exact ⟨none, by simpa only [RR, J8, RV] using R, rfl⟩
  ·simp only [RR, J8, RV, RC] at R
   obtain ⟨b, o, hv, -⟩ := R;simp only [List.cons.injEq, and_true] at hv;exact ⟨_, hv, rfl⟩
 ·cases H
theorem B5c {e : TypeId} (hu : P.underlying t = some (.pointer e)) {E : Env} {h : Heap} {k a k' a' : Nat} {r s : DV × Meta} {u : Value} {n : Nat} (w : World) (H : OQ r s = some b) (R : RR E h k a r.1 r.2 u) (S : RR E h k' a' s.1 s.2 v) :
 ∃ p q, u = .pointer p /\ v = .pointer q /\ (Op.equalIn (n + 1) t u v).run P w = .ok b w := by
 unfold OQ at H
 split at H <;> simp only [Option.some.injEq, reduceCtorEq] at H <;> subst H <;> rename_i h1 h2
 ·obtain ⟨p, rfl, hp⟩ := jE h1 R
  obtain ⟨q, rfl, hq⟩ := jE h2 S;simp only [z30q] at hp;subst hp hq;exact ⟨_, _, rfl, rfl, B17 hu _ _ w⟩
 ·obtain ⟨p, rfl, hp⟩ := jE h1 R
  obtain ⟨q, rfl, hq⟩ := jE h2 S;simp only [z30q] at hq;subst hq;cases p with
  | none => cases hp
  | some p => exact ⟨_, _, rfl, rfl, B18 hu _ _ w⟩
theorem A4U {e e' : TypeId} (hu : P.underlying t = some (.map e e')) (n : Nat) (b : Option Nat) (w : World) : (Op.equalIn (n + 1) t (.map none) (.map b)).run P w = .ok b.isNone w := by
 simp [Op.equalIn, run_underlying hu]
theorem B16 {e e' : TypeId} (hu : P.underlying t = some (.map e e')) (n : Nat) (b : Nat) (w : World) : (Op.equalIn (n + 1) t (.map (some b)) (.map none)).run P w = .ok false w := by
 simp [Op.equalIn, run_underlying hu]
variable {yt : TypeId}
theorem jI {y z : Operand} (F3 : o.op = .binOp op t y z yt) (he : qE op b = some d) (hg : (eqGuard op t y z (a.eval y) (a.eval z)).run C.P w = .ok () w) (hq : (Op.equal t (a.eval y) (a.eval z)).run C.P w = .ok b w) (hb : ∀ op', binOp op' t (a.eval y) (a.eval z) = (match op' with | .eql => (do pure (.bool (<- Op.equal t (a.eval y) (a.eval z)))) | .neq => (do pure (.bool (!(<- Op.equal t (a.eval y) (a.eval z))))) | _ => binOp op' t (a.eval y) (a.eval z))) (H : k (st.put o.dst d .val) = some x) (Rl : K3 E st a w.heap) (T : Then E w k x K) : Gp C.P o a w K := by
 rcases A4S he with ⟨rfl, rfl⟩ | ⟨rfl, rfl⟩
 ·refine AB (v := .bool b) ?_ H Rl (by rw [LY]) @T
  simp only [execOp, F3];refine Bv ?_;rw [hb];simp [hg, hq]
 ·refine AB (v := .bool !b) ?_ H Rl (by rw [LY]) @T
  simp only [execOp, F3];refine Bv ?_;rw [hb];simp [hg, hq]
theorem B7K {y z : Operand} (F3 : o.op = .binOp op t y z yt) (H : Zo C o op t y z st k = some x) (Rl : K3 E st a w.heap) (T : Then E w k x K) : Gp C.P o a w K := by
 unfold Zo at H;obtain ⟨r, h1, H⟩ := C8 H;obtain ⟨s, h2, H⟩ := C8 H;have e1 := Rl.src h1;have e2 := Rl.src h2
 split at H
 ·obtain ⟨hc, H⟩ := F9 H
  obtain ⟨d, hd, H⟩ := C8 H;simp only [z8q] at hc;obtain ⟨v, hv, hR⟩ := B53 (P := C.P) (t := t) (x := y) (y := z) hd (e1.data hc.1) (e2.data hc.2) w;refine AB (v := v) ?_ H Rl hR @T;simp only [execOp, F3];exact Bv hv
 ·rename_i FM
  have hu : C.P.underlying t = some .bool := by
   unfold lM at FM
   split at FM <;> first | assumption | (simp at FM; done) | (split at FM <;> simp at FM)
  obtain ⟨hc, H⟩ := F9 H;obtain ⟨b, hb, H⟩ := C8 H;obtain ⟨d, hd, H⟩ := C8 H;simp only [z8q] at hc;obtain ⟨p, q, hp, hq, hpq⟩ := B3m hb;have f1 := e1.data hc.1;have f2 := e2.data hc.2;rw [hp, LY] at f1;rw [hq, LY] at f2;refine jI F3 hd ?_ ?_ ?_ H Rl @T
  ·rw [f1, eqGuard_at_bool]; rfl
  ·rw [f1, f2, hpq]; exact run_equalIn_bool' w _ t p q hu
  ·intro op'; rw [f1, f2]; cases op' <;> rfl
 ·rename_i ks FM
  have hu : ∃ fs, C.P.underlying t = some (.struct fs) /\ Sl C.P 0 fs.toList = some ks /\ C.P.stoodInHeld t = false /\ C.P.eqGuardType C.P.depth t = false := by
   unfold lM at FM
   split at FM <;> first | (simp at FM; done) | skip
   rename_i fs hfs
   split at FM <;> first | (simp at FM; done) | skip
   rename_i ks' g1 g2 g3;simp only [B06.flat.injEq] at FM;subst FM;exact ⟨fs, hfs, g1, g2, g3⟩
  obtain ⟨fs, hu, Vk, S9, hgt⟩ := hu;obtain ⟨hc, H⟩ := F9 H;obtain ⟨b, hb, H⟩ := C8 H;obtain ⟨d, hd, H⟩ := C8 H;simp only [z8q] at hc;obtain ⟨p, q, hp, hq, ZO⟩ := B3l hb;have f1 := e1.data hc.1;have f2 := e2.data hc.2;rw [hp] at f1;rw [hq] at f2;simp only [RV] at f1 f2;obtain ⟨vs, Vm, rvs⟩ := f1;obtain ⟨us, hus, rus⟩ := f2;refine jI F3 hd ?_ ?_ ?_ H Rl @T
  ·rw [Vm, hus]; exact run_eqGuard_agg w op t y z vs us hgt
  ·rw [Vm, hus]
   show (Op.equalIn 10000 t _ _).run C.P w = _
   have hfs : C.P.fieldsOf t = fs := by unfold Program.fieldsOf; rw [hu]
   rw [run_equalIn_struct w 9999 t vs us (by rw [hfs]; exact hu) S9, hfs]
   exact A7w rvs rus fs.toList ks 0 b Vk ZO w
  ·intro op'; rw [Vm, hus]; cases op' <;> rfl
 ·rename_i FM
  have hu : ∃ e, C.P.underlying t = some (.pointer e) := by
   unfold lM at FM
   split at FM <;> first | exact ⟨_, by assumption⟩ | (simp at FM; done) | (split at FM <;> simp at FM)
  obtain ⟨et, hu⟩ := hu;obtain ⟨b, hb, H⟩ := C8 H;obtain ⟨d, hd, H⟩ := C8 H;have key : ∃ p q, a.eval y = .pointer p /\ a.eval z = .pointer q /\ (Op.equal t (a.eval y) (a.eval z)).run C.P w = .ok b w := by
   exact B5c hu w hb e1 e2
  obtain ⟨p, q, hp, hq, he⟩ := key;refine jI F3 hd ?_ he ?_ H Rl @T
  ·rw [hp, eqGuard_at_pointer]; rfl
  ·intro op'
   rcases A4S hd with ⟨rfl, -⟩ | ⟨rfl, -⟩ <;> rw [hp, hq] <;> cases op' <;> first | rfl | skip
 ·rename_i FM
  have hu : ∃ e e', C.P.underlying t = some (.map e e') := by
   unfold lM at FM
   split at FM <;> first | exact ⟨_, _, by assumption⟩ | (simp at FM; done) | (split at FM <;> simp at FM)
  obtain ⟨et, et', hu⟩ := hu;obtain ⟨b, hb, H⟩ := C8 H;obtain ⟨d, hd, H⟩ := C8 H;have key : ∃ p q, a.eval y = .map p /\ a.eval z = .map q /\ (Op.equal t (a.eval y) (a.eval z)).run C.P w = .ok b w := by
   revert hb e1 e2
   unfold A5l
   split <;> intro e1 e2 hb <;> simp only [Option.some.injEq, reduceCtorEq] at hb <;> subst hb <;> rename_i hm hn <;> rw [hm] at e1 <;> rw [hn] at e2 <;> simp only [RR, J8] at e1 e2
   ·refine ⟨_, _, e1, e2, ?_⟩
    rw [e1, e2]; exact A4U hu _ _ w
   ·refine ⟨_, _, e1, e2.2, ?_⟩
    rw [e1, e2.2]; exact A4U hu _ _ w
   ·refine ⟨_, _, e1.2, e2, ?_⟩
    rw [e1.2, e2]; exact B16 hu _ _ w
  obtain ⟨p, q, hp, hq, he⟩ := key;refine jI F3 hd ?_ he ?_ H Rl @T
  ·rw [hp, eqGuard_at_map]; rfl
  ·intro op'; rw [hp, hq]; cases op' <;> rfl
 ·simp at H
end
end Go.Su

/-
 THE DATA MACHINE, part 10: bytes of texts, fields of values, checked addresses, max and min; addresses read.
-/
namespace Go.Su
section
variable {X : Type} {C : AO} {R : Q8} {o : Oper} {st : St} {k : St -> Option X} {x : X} {E : Env} {a : Act} {w : World} {K : Act -> World -> Prop} {Q : Exit -> Act -> World -> Prop} {t : TypeId} {y : Operand}
theorem B4m {i : Operand} (F3 : o.op = .index t y i) (H : (ob (src C.P t st y) fun r => ob (src C.P 0 st i) fun j => match C.P.underlying t with
   | some .string => og (J6 r.2 && J6 j.2) (ob (j6 r.1 j.1) fun d => k (st.put o.dst d .val))
   | _ => none) = some x) (Rl : K3 E st a w.heap) (T : Then E w k x K) : Gp C.P o a w K := by
 obtain ⟨r, h1, H⟩ := C8 H;obtain ⟨j, h2, H⟩ := C8 H
 split at H
 ·rename_i hu
  obtain ⟨hc, H⟩ := F9 H;obtain ⟨d, hd, H⟩ := C8 H;simp only [z8q] at hc;have e1 := (Rl.src h1).data hc.1;have e2 := (Rl.src h2).data hc.2;obtain ⟨s, kd, n, b, hr, hj, h0, hb, QN⟩ := A8r hd;rw [hr, Xg] at e1;rw [hj, Bp] at e2;rw [QN] at H;refine AB (v := .int .u8 b.toNat) ?_ H Rl (by rw [Bp]) @T
  simp only [execOp, F3];refine Bv ?_;have hs : s[n.toNat]? = some b := by
   have L8 : n.toNat < s.data.size := (z4q.1 hb).1;have hv : s.data[n.toNat] = b := (z4q.1 hb).2;rw [getElem?_pos s n.toNat L8];exact congrArg some hv
  unfold Instr.index;simp only [e1, e2, asIntOf, Sem.run_bind, Sem.run_pure, Result.andThen_ok, run_underlying hu, h0, if_true, hs]
 ·simp at H
variable {S : Z5} {h : Heap} {vs : List Value}
theorem xZ {d : DV} (H : RC S h d vs) {off n : Nat} (hn : off + n <= vs.length) : GI S h (cells n off d) ((vs.drop off).take n) := by
 refine EO.2 ⟨by simp only [cells, List.length_map, List.length_range, z11q, z14q]; omega, fun i d' v hd hv => ?_⟩
 have hi : i < n := by have := (z0q.1 hd).1; simpa [cells] using this
 simp only [cells, z13q, z32q hi, z25q, Option.some.injEq] at hd;subst hd;rw [z3q hi, z6q] at hv;exact OL H hv
variable {v : Value}
theorem xc {n : Nat} {d : DV} (hg : D6 n d = true) (H : RV S h d v) : ∃ vs, v = .agg vs /\ vs.size = n /\ RC S h d vs.toList := by
 cases d <;> simp only [D6] at hg <;> try contradiction
 rename_i cs;simp only [RV] at H;obtain ⟨vs, rfl, H⟩ := H;refine ⟨vs, rfl, ?_, by simp only [RC]; exact H⟩
 have := (EO.1 H).1;simp only [beq_iff_eq] at hg;simp at this;omega
theorem B7O {c : Call} {z : Operand} {u : TypeId} (F3 : o.op = .call c) (hc : c.callee = .builtin .max) (ha : c.args.toList = [y, z]) (H : (ob (src C.P t st y) fun r => ob (src C.P u st z) fun s => og (J6 r.2 && J6 s.2) (ob (UF r.1 s.1) fun d => k (st.put o.dst d .val))) = some x) (Rl : K3 E st a w.heap) (T : Then E w k x K) : Gp C.P o a w K := by
 obtain ⟨r, h1, H⟩ := C8 H;obtain ⟨s, h2, H⟩ := C8 H;obtain ⟨QM, H⟩ := F9 H;obtain ⟨d, hd, H⟩ := C8 H;simp only [z8q] at QM;obtain ⟨kd, p, q, hr, hs, QN⟩ := B3t hd;have e1 := (Rl.src h1).data QM.1;have e2 := (Rl.src h2).data QM.2;rw [hr, Bp] at e1;rw [hs, Bp] at e2;rw [QN] at H;refine AB (v := .int kd (if q > p then q else p)) ?_ H Rl (by rw [Bp]) @T
 refine Hq F3 hc ?_;rw [show c.args.map a.eval = #[a.eval y, a.eval z] from by rw [SA ha]; simp]
 refine Bv ?_;rw [e1, e2];simp [Builtin.max_, Builtin.max2]
theorem B7P {c : Call} {z : Operand} {u : TypeId} (F3 : o.op = .call c) (hc : c.callee = .builtin .min) (ha : c.args.toList = [y, z]) (H : (ob (src C.P t st y) fun r => ob (src C.P u st z) fun s => og (J6 r.2 && J6 s.2) (ob (YU r.1 s.1) fun d => k (st.put o.dst d .val))) = some x) (Rl : K3 E st a w.heap) (T : Then E w k x K) : Gp C.P o a w K := by
 obtain ⟨r, h1, H⟩ := C8 H;obtain ⟨s, h2, H⟩ := C8 H;obtain ⟨QM, H⟩ := F9 H;obtain ⟨d, hd, H⟩ := C8 H;simp only [z8q] at QM;obtain ⟨kd, p, q, hr, hs, QN⟩ := B3u hd;have e1 := (Rl.src h1).data QM.1;have e2 := (Rl.src h2).data QM.2;rw [hr, Bp] at e1;rw [hs, Bp] at e2;rw [QN] at H;refine AB (v := .int kd (if q < p then q else p)) ?_ H Rl (by rw [Bp]) @T
 refine Hq F3 hc ?_;rw [show c.args.map a.eval = #[a.eval y, a.eval z] from by rw [SA ha]; simp]
 refine Bv ?_;rw [e1, e2];simp [Builtin.min_, Builtin.min2]
theorem B66 {sz : Nat} {d e : DV} (H : bB sz d = some e) (R : RV S h d v) : ∃ b o, v = .pointer (some ⟨b, o, none⟩) /\ Elem S h sz b o e := by
 unfold bB at H
 split at H
 ·rename_i sz' d'
  split at H
  ·rename_i hs
   simp only [Option.some.injEq] at H;subst H hs;simp only [RV, RC] at R;obtain ⟨b, o, hv, us, h1, h2, h3⟩ := R;simp only [List.cons.injEq, and_true] at hv;exact ⟨b, o, hv, us, h1, h2, h3⟩
  ·cases H
 ·cases H
theorem A9J {fl : Flags} (F3 : o.op = .nilCheck y) (H : (ob (src C.P 0 st y) fun r => match r.2 with
   | .loc s o' => k (st.put o.dst .undef (.loc s o'))
   | .Na ag sz o' => k (st.put o.dst r.1 (.Na ag sz o'))
   | .ptr i o' => k (st.put o.dst .undef (.ptr i o'))
   | .Yy i sz j o' => k (st.put o.dst .undef (.Yy i sz j o'))
   | .opt i sz j => k (st.put o.dst .undef (.opt i sz j))
   | .fn f cs => k (st.put o.dst .undef (.fn f cs))
   | .val => ob (o.dst.bind fun t => fl.refs.find? (·.1 == t)) fun q => ob (bB q.2 r.1) fun d => k (st.put o.dst d (.Na true q.2 0))
   | _ => none) = some x) (Rl : K3 E st a w.heap) (T : Then E w k x K) : Gp C.P o a w K := by
 obtain ⟨r, h1, H⟩ := C8 H;have e1 := Rl.src h1;have hp : ∀ b, a.eval y = .pointer (some b) -> (execOp a.eval o).run C.P w = .ok (.value (.pointer (some b))) w := by
  intro b hb;simp only [execOp, F3, hb, Sem.run_pure]
 have hf : ∀ f c d, a.eval y = .func (.func f) c d -> (execOp a.eval o).run C.P w = .ok (.value (.func (.func f) c d)) w := by
  intro f c d hb;simp only [execOp, F3, hb, Sem.run_pure]
 revert e1 H
 cases hm : r.2 <;> intro H e1 <;> simp only [reduceCtorEq] at H <;> simp only [RR, J8] at e1
 case val =>
  obtain ⟨q, -, H⟩ := C8 H;obtain ⟨d, hd, H⟩ := C8 H;obtain ⟨b, o0, r1, r2⟩ := B66 hd e1;exact V4 (hp _ r1) H Rl (fun _ _ => ⟨b, o0, rfl, r2, fun h => by cases h⟩) @T
 case loc s off => exact V4 (hp _ e1.2) H Rl (fun _ _ => ⟨rfl, rfl⟩) @T
 case Na ag sz off =>
  obtain ⟨b, o0, r1, r2, r3⟩ := e1;exact V4 (hp _ r1) H Rl (fun _ _ => ⟨b, o0, rfl, r2, r3⟩) @T
 case ptr i off => exact V4 (hp _ e1.2) H Rl (fun _ _ => ⟨e1.1, rfl⟩) @T
 case Yy i sz idx off => exact V4 (hp _ e1.2) H Rl (fun _ _ => ⟨e1.1, rfl⟩) @T
 case opt i sz idx => exact V4 (hp _ e1.2) H Rl (fun _ _ => ⟨e1.1, rfl⟩) @T
 case fn f cs => exact V4 (hf _ _ _ e1.1) H Rl (fun _ _ => ⟨rfl, e1.2⟩) @T
variable {P : Program}
theorem FD {z : Nat × Bool} (hz : tz P t = some z) {b off : Nat} (hl : vs.length = z.1) (hc : ∀ (j : Nat) v, vs[j]? = some v -> hc w.heap b (off + j) = some v) :
 ∃ v, (loadVar t ⟨b, off, none⟩).run P w = .ok v w /\ (z.2 = true -> v = .agg vs.toArray) /\ (z.2 = false -> vs = [v]) := by
 unfold loadVar;simp only [Sem.run_bind, B6m hz, Result.andThen_ok, Sem.run_ite]
 by_cases h2 : z.2 = true
 ·rw [if_pos h2]
  have h3 : (loadCells ⟨b, off, none⟩ z.1).run P w = .ok vs.toArray w := by
   rw [<- hl];refine run_loadCells_list w _ vs fun j v hv => ?_
   rw [Addr.add_lit, SC];exact hc j v hv
  refine ⟨_, by simp only [Ni hz, h3, Result.andThen_ok, Sem.run_pure], fun _ => rfl, fun h4 => ?_⟩
  rw [h2] at h4;cases h4
 ·rw [if_neg h2]
  have GL : z.1 = 1 := by
   obtain ⟨i, d, -, -, -, h4⟩ := HY hz;exact h4 (by simpa using h2)
  match vs, hl.trans GL with
  | [v], _ =>
    have h5 := hc 0 v rfl;refine ⟨v, ?_, fun h3 => absurd h3 h2, fun _ => rfl⟩
    rw [run_load, SC];simp only [z20q] at h5;rw [h5]
theorem Ol (F3 : o.op = .load t y) {b off : Nat} (he : a.eval y = .pointer (some ⟨b, off, none⟩)) (h : (loadVar t ⟨b, off, none⟩).run P w = .ok v w) :
 (execOp a.eval o).run P w = .ok (.value v) w := by
 simp only [execOp, F3];refine Bv ?_;simp only [Instr.loadAt, he, Instr.sureAddr, Sem.run_bind, Sem.run_pure, Result.andThen_ok, h]
end
end Go.Su

/-
 THE DATA MACHINE, part 11: memory read.
-/
namespace Go.Su
variable {E : Env} {h : Heap} {tg : Tag} {cs : List (DV × Meta)} {off : Nat}
theorem xY {k a b : Nat} (B : ah E h tg k a b cs) {n : Nat} (hn : off + n <= cs.length) :
 ∃ vs : List Value, vs.length = n /\ (∀ (j : Nat) v, vs[j]? = some v -> hc h b (off + j) = some v) /\
   ∀ (j : Nat) v r, vs[j]? = some v -> cs[off + j]? = some r -> M4 r.1 = true /\ v.oneCell' = true /\ Y8 r.2 = true /\ J8 E h (.sp k a (off + j)) r.1 r.2 v := by
 obtain ⟨c, T, h1, h2, h3, h4⟩ := B;have e : ∀ (j : Nat) v, ((c.toList.drop off).take n)[j]? = some v -> c[off + j]? = some v := by
  intro j v hv;have hj : j < n := by have := (z0q.1 hv).1; simp only [z11q, z14q] at this; omega
  rw [z3q hj, z6q] at hv;simpa using hv
 refine ⟨(c.toList.drop off).take n, by simp only [z11q, z14q, Array.length_toList]; omega, fun j v hv => ?_, fun j v r hv hr => h4 (off + j) r v hr (e j v hv)⟩
 unfold hc;rw [h1];exact e j v hv
variable {m : Meta}
theorem BO (h : Y8 m = true) : dm m = Xm m /\ Y8 (dm m) = true /\ dm m ≠ .own := by
 cases m <;> simp_all [Y8, dm, Xm]
variable {d : DV} {v : Value}
theorem J8.BO {tg' : Tag} (hm : Y8 m = true) (R : J8 E h tg d m v) : J8 E h tg' d (dm m) v := by
 rw [(Su.BO hm).1];exact R.Xm
theorem J8.qN {tg' : Tag} (R : J8 E h tg d .full v) : J8 E h tg' d .own v := by
 simp only [J8] at R ⊢;obtain ⟨r1, ⟨p, n, rfl⟩, sz, ds, r2⟩ := R;refine ⟨r1, sz, ds, r2, fun x len cap hv L8 => ?_⟩
 simp only [Value.slice.injEq] at hv;omega
section
variable {X : Type} {C : AO} {R : Q8} {o : Oper} {st : St} {k : St -> Option X} {x : X} {E : Env} {a : Act} {w : World} {K : Act -> World -> Prop} {Q : Exit -> Act -> World -> Prop}
theorem A3w {vs : List Value} (hl : vs.length = cs.length) (H : ∀ (j : Nat) v r, vs[j]? = some v -> cs[j]? = some r -> M4 r.1 = true /\ v.oneCell' = true /\ Y8 r.2 = true /\ ∃ tg, J8 E w.heap tg r.1 r.2 v) (p q : Nat) :
 RR E w.heap p q (gM cs).1 (gM cs).2 (.agg vs.toArray) := by
 simp only [gM, RR];refine ⟨_, _, rfl, rfl, by simp, by simp [hl], fun i m d v h1 h2 h3 => ?_⟩
 simp only [z13q, z12q] at h1 h2;obtain ⟨r, hr, rfl⟩ := h1;obtain ⟨r', AR, rfl⟩ := h2;rw [hr] at AR;simp only [Option.some.injEq] at AR;subst AR;obtain ⟨a1, a2, a3, tg, a4⟩ := H i v r (by simpa using h3) hr
 exact ⟨a1, a2, (Su.BO a3).2.1, a4.BO a3⟩
theorem B0z {r : DV × Meta} (h1 : M4 r.1 = true) (h2 : v.oneCell' = true) (h3 : Y8 r.2 = true) (h4 : J8 E w.heap tg r.1 r.2 v) :
 M4 (Wh r).1 = true /\ v.oneCell' = true /\ Y8 (Wh r).2 = true /\ ∃ tg, J8 E w.heap tg (Wh r).1 (Wh r).2 v := by
 unfold Wh
 split
 ·exact ⟨rfl, h2, rfl, tg, by simp only [J8, RV]⟩
 ·exact ⟨h1, h2, h3, tg, h4⟩
theorem az (h : H5 cs off = some d) : ∃ m, cs[off]? = some (d, m) /\ (m = .val \/ m = .full \/ m = .own \/ m = .Ba) := by
 unfold H5 at h
 split at h <;> simp only [Option.some.injEq, reduceCtorEq] at h <;> subst h
 ·exact ⟨_, ‹_›, .inl rfl⟩
 ·exact ⟨_, ‹_›, .inr (.inl rfl)⟩
 ·exact ⟨_, ‹_›, .inr (.inr (.inl rfl))⟩
 ·exact ⟨_, ‹_›, .inr (.inr (.inr rfl))⟩
theorem lJ {E : Env} (hm : m = .val \/ m = .full \/ m = .own \/ m = .Ba) (R : J8 E h tg d m v) : RV E.S h d v := by
 rcases hm with rfl | rfl | rfl | rfl
 ·exact R
 ·exact R.1
 ·exact R.1
 ·obtain ⟨rfl, rfl⟩ := (R : _ /\ _)
  simp only [RV]
theorem A3k : ∀ {n off : Nat} {cs : List (DV × Meta)} {ds : List DV}, O8 off n cs = some ds -> ds.length = n /\ ∀ (i : Nat) d, ds[i]? = some d -> H5 cs (off + i) = some d
 | 0, off, cs, ds, h => by simp only [O8, Option.some.injEq] at h; subst h; simp
 | n + 1, off, cs, ds, h => by
   simp only [O8] at h;obtain ⟨d, hd, h⟩ := C8 h;obtain ⟨ds', ic, h⟩ := C8 h;simp only [Option.some.injEq] at h;subst h;obtain ⟨l1, l2⟩ := A3k ic;refine ⟨by simp [l1], fun i d' hi => ?_⟩
   cases i with
   | zero => simp only [z2q, Option.some.injEq] at hi; subst hi; simpa using hd
   | succ i => simp only [z22q] at hi; have := l2 i d' hi; rwa [z16q, z35q 1 i] at this
variable {sg : List C9} {i : Nat}
theorem qo (h : E9 sg i = some cs) : sg[i]? = some (.box cs) := by
 unfold E9 at h
 split at h
 ·simp only [Option.some.injEq] at h; subst h; assumption
 ·simp at h
theorem qm {p : Nat × List DV} (h : DX sg i = some p) : sg[i]? = some (.arr p.1 p.2) := by
 unfold DX at h
 split at h
 ·simp only [Option.some.injEq] at h; subst h; assumption
 ·simp at h
theorem qp {sz : Nat} {pre ds : List DV} (h : Fw sg i = some (sz, pre, ds)) : sg[i]? = some (.opn sz pre ds) := by
 unfold Fw at h
 split at h
 ·rename_i heq
  simp only [Option.some.injEq, Prod.mk.injEq] at h;obtain ⟨rfl, rfl, rfl⟩ := h;exact heq
 ·simp at h
theorem aF {n : Nat} {p : Nat × List DV} (h : AX sg i n = some p) : sg[i]? = some (.M6 n p.1 p.2) := by
 unfold AX at h
 split at h
 ·split at h
  ·rename_i heq hn
   simp only [Option.some.injEq] at h;subst h hn;exact heq
  ·cases h
 ·simp at h
theorem A5B {p : Bool × List (DV × DV)} (h : Ko sg i = some p) : sg[i]? = some (.map p.1 p.2) := by
 unfold Ko at h
 split at h
 ·simp only [Option.some.injEq] at h; subst h; assumption
 ·simp at h
theorem CS (Rl : K3 E st a w.heap) {ob : C9} (h : st.sg[i]? = some ob) : i < E.n := by
 rw [<- Rl.n]; exact (z0q.1 h).1
theorem Dm {α : Type} {l cs : List α} {o : Nat} (h : o + cs.length <= l.length) (j : Nat) : (putAt l o cs)[j]? = if o <= j /\ j < o + cs.length then cs[j - o]? else l[j]? := by
 unfold putAt
 by_cases h1 : j < o
 ·rw [if_neg (by omega), z37q, z18q (by simp; omega), z3q h1]
 ·by_cases h2 : j < o + cs.length
  ·rw [if_pos (by omega), z37q, z17q (by simp; omega), z18q (by simp; omega)]
   congr 1
   simp;omega
  ·rw [if_neg (by omega), z17q (by simp; omega), z6q]
   congr 1
   simp;omega
theorem Be {α : Type} {l cs : List α} {o : Nat} (h : o + cs.length <= l.length) : (putAt l o cs).length = l.length := by
 unfold putAt; simp; omega
theorem K3.B1U (Rl : K3 E st a w.heap) {s n : Nat} (hb : st.bx.getD s none = some cs) (hn : off + n <= cs.length) {f : Tag -> Tag} (hf : ∀ T, (∀ j, off <= j -> j < off + n -> T ≠ .sp 1 s j) -> f T = T) : K3 (E.re f) { st with bx := st.bx.set s (some (putAt cs off (((cs.drop off).take n).map fun c : DV × Meta => (c.1, dm c.2)))) } a w.heap := by
 have FB : f .shut = .shut := hf _ (by simp)
 have NM : f .other = .other := hf _ (by simp)
 have P : Pr (fun T => ∃ j, off <= j /\ j < off + n /\ T = .sp 1 s j) E w.heap (E.re f) w.heap := Pr.re fun T hT => hf T fun j h1 h2 h3 => hT ⟨j, h1, h2, h3⟩
 have J3 : Z9 E.S w.heap (E.re f).S w.heap := Je FB;have hl : (((cs.drop off).take n).map fun c : DV × Meta => (c.1, dm c.2)).length = n := by simp; omega
 refine ⟨Rl.size, Rl.Af, by simp [Rl.Ca], Rl.n, fun u v hu => ?_, fun s' cs' hs => ?_, fun i ob hi => ?_, fun b o hb => ?_⟩
 ·exact (Rl.regs u v hu).re FB NM fun b => hf _ (by simp)
 ·have A3H : s < st.bx.length := by
   rcases z27q s st.bx.length with h1 | h1
   ·exact h1
   ·simp [z1q, z19q h1] at hb
  by_cases d_ : s = s'
  ·subst d_
   simp only [z1q, z5q A3H, z29q, Option.some.injEq] at hs;subst hs;obtain ⟨cv, T, h1, h2, h3, h4⟩ := Rl.boxes s cs hb;refine ⟨cv, T, h1, by rw [Be (by omega)]; exact h2, fun o => ?_, fun j r v hr hv => ?_⟩
   ·rcases h3 o with h5 | h5
    ·left; simp only [Env.re]; rw [h5]; exact hf _ (by simp)
    ·exact .inr h5
   ·rw [Dm (by omega), hl] at hr
    by_cases hj : off <= j /\ j < off + n
    ·rw [if_pos hj, z13q, z3q (by omega), z6q, z12q] at hr
     obtain ⟨c, QM, rfl⟩ := hr;rw [show off + (j - off) = j by omega] at QM
     obtain ⟨a1, a2, a3, a4⟩ := h4 j c v QM hv;have a5 : J8 E w.heap .other c.1 (dm c.2) v := a4.BO a3;exact ⟨a1, a2, (Su.BO a3).2.1, (a5.re FB NM : J8 (E.re f) w.heap .other c.1 (dm c.2) v).tag (Su.BO a3).2.2⟩
    ·rw [if_neg hj] at hr
     obtain ⟨a1, a2, a3, a4⟩ := h4 j r v hr hv;exact ⟨a1, a2, a3, a4.re FB (hf _ fun j' q1 q2 he => by simp only [Tag.sp.injEq, true_and] at he; exact hj (by omega))⟩
  ·simp only [z1q, z10q d_] at hs
   have := Rl.boxes s' cs' (by simpa [z1q] using hs)
   exact this.mono P J3 (by simp) (by rintro j ⟨j', -, -, h⟩; simp only [Tag.sp.injEq, true_and] at h; exact d_ h.1.symm)
 ·exact (Rl.U4 i ob hi).mono P J3 (by rw [<- Rl.n]; exact (z0q.1 hi).1) (by simp) (by simp)
 ·simp only [Env.re]; rw [Rl.fresh b o hb, NM]
theorem K3.B3e (Rl : K3 E st a w.heap) {s : Nat} {c : DV × Meta} (hb : st.bx.getD s none = some cs) (QM : cs[off]? = some c) {f : Tag -> Tag} (hf : ∀ T, T ≠ .sp 1 s off -> f T = T) : K3 (E.re f) { st with bx := st.bx.set s (some (cs.set off (c.1, dm c.2))) } a w.heap := by
 have FB : f .shut = .shut := hf _ (by simp)
 have NM : f .other = .other := hf _ (by simp)
 have P : Pr (fun T => T = .sp 1 s off) E w.heap (E.re f) w.heap := Pr.re fun T hT => hf T hT
 have J3 : Z9 E.S w.heap (E.re f).S w.heap := Je FB;refine ⟨Rl.size, Rl.Af, by simp [Rl.Ca], Rl.n, fun u v hu => ?_, fun s' cs' hs => ?_, fun i ob hi => ?_, fun b o hb => ?_⟩
 ·exact (Rl.regs u v hu).re FB NM fun b => hf _ (by simp)
 ·have A3H : s < st.bx.length := by
   rcases z27q s st.bx.length with h1 | h1
   ·exact h1
   ·simp [z1q, z19q h1] at hb
  by_cases d_ : s = s'
  ·subst d_
   simp only [z1q, z5q A3H, z29q, Option.some.injEq] at hs;subst hs;obtain ⟨cv, T, h1, h2, h3, h4⟩ := Rl.boxes s cs hb;refine ⟨cv, T, h1, by simpa using h2, fun o => ?_, fun j r v hr hv => ?_⟩
   ·rcases h3 o with h5 | h5
    ·left; simp only [Env.re]; rw [h5]; exact hf _ (by simp)
    ·exact .inr h5
   ·by_cases hj : off = j
    ·subst hj
     have L8 := (z0q.1 QM).1;rw [z5q L8] at hr;simp only [Option.some.injEq] at hr;subst hr;obtain ⟨a1, a2, a3, a4⟩ := h4 off c v QM hv;have a5 : J8 E w.heap .other c.1 (dm c.2) v := a4.BO a3;exact ⟨a1, a2, (Su.BO a3).2.1, (a5.re FB NM : J8 (E.re f) w.heap .other c.1 (dm c.2) v).tag (Su.BO a3).2.2⟩
    ·rw [z10q hj] at hr
     obtain ⟨a1, a2, a3, a4⟩ := h4 j r v hr hv;exact ⟨a1, a2, a3, a4.re FB (hf _ (by simp; exact fun h => hj h.symm))⟩
  ·simp only [z1q, z10q d_] at hs
   have := Rl.boxes s' cs' (by simpa [z1q] using hs)
   exact this.mono P J3 (by simp) (by simp; intro h; exact absurd h.symm d_)
 ·exact (Rl.U4 i ob hi).mono P J3 (by rw [<- Rl.n]; exact (z0q.1 hi).1) (by simp) (by simp)
 ·simp only [Env.re]; rw [Rl.fresh b o hb, NM]
theorem K3.B0F (Rl : K3 E st a w.heap) (hb : st.sg[i]? = some (.box cs)) (QM : cs[off]? = some (d, m)) (hm : m = .full \/ m = .own) {f : Tag -> Tag} (hf : ∀ T, T ≠ .sp 2 i off -> f T = T) : K3 (E.re f) { st with sg := st.sg.set i (.box (cs.set off (d, .val))) } a w.heap := by
 have FB : f .shut = .shut := hf _ (by simp)
 have NM : f .other = .other := hf _ (by simp)
 have P : Pr (fun T => T = .sp 2 i off) E w.heap (E.re f) w.heap := Pr.re fun T hT => hf T hT
 have J3 : Z9 E.S w.heap (E.re f).S w.heap := Je FB;have Jw := (z0q.1 hb).1;refine ⟨Rl.size, Rl.Af, Rl.Ca, by simpa [Env.re] using Rl.n, fun u v hu => ?_, fun s' cs' hs => ?_, fun i' ob hi => ?_, fun b o hb => ?_⟩
 ·exact (Rl.regs u v hu).re FB NM fun b => hf _ (by simp)
 ·exact (Rl.boxes s' cs' hs).mono P J3 (by simp) (by simp)
 ·by_cases Dr : i = i'
  ·subst Dr
   simp only [z5q Jw, Option.some.injEq] at hi;subst hi;obtain ⟨cv, T, h1, h2, h3, h4⟩ := Rl.U4 i _ hb;refine ⟨cv, T, h1, by simpa using h2, fun o => ?_, fun j r v hr hv => ?_⟩
   ·rcases h3 o with h5 | h5
    ·left; simp only [Env.re]; rw [h5]; exact hf _ (by simp)
    ·exact .inr h5
   ·by_cases hj : off = j
    ·subst hj
     have L8 := (z0q.1 QM).1;rw [z5q L8] at hr;simp only [Option.some.injEq] at hr;subst hr;obtain ⟨a1, a2, a3, a4⟩ := h4 off _ v QM hv;have a5 : RV E.S w.heap d v := lJ (by rcases hm with h | h <;> simp [h]) a4
     exact ⟨a1, a2, rfl, a5.mono J3⟩
    ·rw [z10q hj] at hr
     obtain ⟨a1, a2, a3, a4⟩ := h4 j r v hr hv;exact ⟨a1, a2, a3, a4.re FB (hf _ (by simp; exact fun h => hj h.symm))⟩
  ·simp only [z10q Dr] at hi
   exact (Rl.U4 i' ob hi).mono P J3 (CS Rl hi) (by simp) (by simp; intro h; exact absurd h.symm Dr)
 ·simp only [Env.re]; rw [Rl.fresh b o hb, NM]
def Env.LQ (E : Env) : Env :=
 { E with base := fun i => if i = E.n then 0 else E.base i, top := fun i => if i = E.n then 0 else E.top i, Aa := fun i => if i = E.n then 1 else E.Aa i, n := E.n + 1 }
theorem K3.LQ (Rl : K3 E st a w.heap) {sz : Nat} (hb : st.sg[i]? = some (.box cs)) (QM : cs[off]? = some (.list sz [], .full)) (hv : J8 E w.heap (.sp 2 i off) (.list sz []) .full v) (hpos : 0 < sz) :
 K3 E.LQ { st with sg := st.sg.set i (.box (cs.set off (.undef, .M6 st.sg.length 1 sz 0))) ++ [.M6 1 sz []] } a w.heap /\ Pr (fun _ => False) E w.heap E.LQ w.heap /\ ∀ tg, J8 E.LQ w.heap tg .undef (.M6 st.sg.length 1 sz 0) v := by
 have hn := Rl.n;have vE : E.LQ.Aa E.n = 1 := if_pos rfl;have P1 : Pr (fun _ => False) E w.heap E.LQ w.heap := by
  refine ⟨z7q _, fun _ _ => X8.refl _ _, fun _ _ _ _ => rfl, Nat.le_succ _, fun j hj _ => ?_, fun _ _ => rfl, fun j hj => ?_⟩
  ·have DI : j ≠ E.n := Nat.ne_of_lt hj
   refine ⟨rfl, ?_, ?_⟩ <;> (show (if _ then _ else _) = _; rw [if_neg DI])
  ·have : E.LQ.Aa j = E.Aa j := if_neg (Nat.ne_of_lt hj)
   rw [this]; exact ⟨id, z7q _, fun _ => rfl⟩
 have J3 := P1.shut (by simp) Rl.fresh
 have key : ∀ tg, J8 E.LQ w.heap tg .undef (.M6 st.sg.length 1 sz 0) v := by
  intro tg;simp only [J8] at hv ⊢;obtain ⟨g1, ⟨x, m, rfl⟩, -⟩ := hv;obtain ⟨b0, A84, cap0, wD, q1, -, q3, -⟩ := LZ g1;simp only [Value.slice.injEq] at wD;obtain ⟨rfl, rfl, rfl⟩ := wD;have hm0 : m = 0 := by simpa using q1
  subst hm0;exact ⟨by rw [hn]; exact Nat.lt_succ_self _, by omega, by rw [hn, vE]; exact z7q _, x, 0, rfl, z7q _, q3, fun h => by omega, fun _ h => by omega⟩
 have Jw := (z0q.1 hb).1;refine ⟨⟨Rl.size, Rl.Af, Rl.Ca, by simp [Env.LQ, hn], fun u v hu => (Rl.regs u v hu).mono P1 J3 (by simp) (by simp), fun s' cs' hs => (Rl.boxes s' cs' hs).mono P1 J3 (by simp) (by simp), fun i' ob hi => ?_, Rl.fresh⟩, P1, key⟩
 by_cases L8 : i' < st.sg.length
 ·rw [z18q (by simpa using L8)] at hi
  by_cases Dr : i = i'
  ·subst Dr
   simp only [z5q Jw, Option.some.injEq] at hi;subst hi;obtain ⟨cv, T, h1, h2, h3, h4⟩ := (Rl.U4 i _ hb : RO E w.heap i (.box cs)).mono P1 J3 (CS Rl hb) (by simp) (by simp)
   refine ⟨cv, T, h1, by simpa using h2, h3, fun j r v' hr YA => ?_⟩
   by_cases hj : off = j
   ·subst hj
    have C1n := (z0q.1 QM).1;rw [z5q C1n] at hr;simp only [Option.some.injEq] at hr;subst hr;obtain ⟨cv0, T0, g1, g2, g3, g4⟩ := Rl.U4 i _ hb;have C1s : E.LQ.obj i = E.obj i := rfl;rw [C1s, g1] at h1;simp only [Option.some.injEq, Obj.cells.injEq] at h1;obtain ⟨rfl, -⟩ := h1;obtain ⟨a1, a2, a3, a4⟩ := g4 off _ v' QM YA;refine ⟨rfl, a2, rfl, ?_⟩;simp only [J8] at a4 ⊢;obtain ⟨k1, ⟨x, m, rfl⟩, -⟩ := a4;obtain ⟨b0, A84, cap0, wD, q1, -, q3, -⟩ := LZ k1;simp only [Value.slice.injEq] at wD;obtain ⟨rfl, rfl, rfl⟩ := wD;have hm0 : m = 0 := by simpa using q1
    subst hm0;exact ⟨by rw [hn]; exact Nat.lt_succ_self _, by omega, by rw [hn, vE]; exact z7q _, x, 0, rfl, z7q _, q3, fun h => by omega, fun _ h => by omega⟩
   ·rw [z10q hj] at hr
    exact h4 j r v' hr YA
  ·rw [z10q Dr] at hi
   exact (Rl.U4 i' ob hi).mono P1 J3 (CS Rl hi) (by simp) (by simp)
 ·have JR : i' = st.sg.length := by
   have := (z0q.1 hi).1;simp at this; omega
  subst JR;rw [z17q (by simp)] at hi
  simp only [List.length_set, z38q, z2q, Option.some.injEq] at hi;subst hi;simp only [RO];rw [hn];refine ⟨vE, by omega, hpos, .inl ⟨trivial, ?_⟩⟩
  show (if _ then _ else _) = (if _ then _ else _)
  rw [if_pos rfl, if_pos rfl]
def Oa (T0 : Tag) (t : Nat) (T : Tag) : Tag := if T = T0 then .sp 0 t 0 else T
def qO (s off n t : Nat) (T : Tag) : Tag :=
 match T with
 | .sp 1 s' j => if s' = s /\ off <= j /\ j < off + n then .sp 0 t (j - off + 1) else .sp 1 s' j
 | T => T
theorem kH {s n t : Nat} {T : Tag} (h : ∀ j, off <= j -> j < off + n -> T ≠ .sp 1 s j) : qO s off n t T = T := by
 unfold qO
 split
 ·split
  ·rename_i hx; obtain ⟨rfl, h1, h2⟩ := hx; exact absurd rfl (h _ h1 h2)
  ·rfl
 ·rfl
theorem Gc {T0 : Tag} {t : Nat} {T : Tag} (h : T ≠ T0) : Oa T0 t T = T := by simp [Oa, h]
theorem B59 {fl : Flags} {t : TypeId} {y : Operand} (F3 : o.op = .load t y) (H : Br C fl o t y st k = some x) (Rl : K3 E st a w.heap) (T : Then E w k x K) : Gp C.P o a w K := by
 unfold Br at H;obtain ⟨r, h1, H⟩ := C8 H;obtain ⟨z, hz, H⟩ := C8 H;have e1 := Rl.src h1;have GL : z.2 = false -> z.1 = 1 := by
  obtain ⟨i, d, -, -, -, h4⟩ := HY hz;exact h4
 split at H
 ·-- a private variable
  rename_i s off hm;rw [hm] at e1;simp only [RR, J8] at e1;obtain ⟨cs, hb, H⟩ := C8 H;obtain ⟨J3, H⟩ := K9 H;have B := Rl.boxes s cs hb;obtain ⟨vs, l1, l2, l3⟩ := xY B J3;obtain ⟨v, g1, g2, g3⟩ := FD (w := w) hz l1 l2;have U1 := Ol F3 e1.2 g1
  by_cases h2 : z.2 = true
  ·rw [if_pos h2] at H
   simp only at H
   by_cases S9 : J4 fl.P7 o.dst = true
   ·rw [if_pos S9] at H
    cases hd : o.dst with
    | none =>
      rw [hd] at S9;simp [J4] at S9
    | some t0 =>
      rw [hd] at H;refine Ap U1 ?_;rw [hd];refine T (E.re (qO s off z.1 t0)) _ _ w H ((Rl.B1U hb J3 fun T hT => kH hT).put fun t1 ht => ?_) (Pr.re fun T hT => kH fun j _ _ he => hT (by rw [he]; simp [O3]))
      simp only [Option.some.injEq] at ht;subst ht;rw [g2 h2];simp only [RR];refine ⟨_, _, rfl, rfl, by simp, by simp; omega, fun i m d v e1 e2 e3 => ?_⟩
      simp only [z13q, z12q] at e1 e2;obtain ⟨r1, q1, rfl⟩ := e1;obtain ⟨r2, q2, rfl⟩ := e2;rw [q1] at q2;simp only [Option.some.injEq] at q2;subst q2;have hi : i < z.1 := by have := (z0q.1 q1).1; simp only [z11q] at this; omega
      rw [z3q hi, z6q] at q1;obtain ⟨a1, a2, a3, a4⟩ := l3 i v r1 (by simpa using e3) q1
      exact ⟨a1, a2, a3, a4.re (kH (by simp)) (by simp [qO, hi])⟩
   rw [if_neg S9] at H;refine V4 U1 H Rl (fun t0 _ => ?_) @T
   rw [g2 h2];have C1V : ((cs.drop off).take z.1).length = z.1 := by simp only [z11q, z14q]; omega
   have B2m : ∀ (j : Nat) v r, vs[j]? = some v -> ((cs.drop off).take z.1)[j]? = some r -> M4 r.1 = true /\ v.oneCell' = true /\ Y8 r.2 = true /\ ∃ tg, J8 E w.heap tg r.1 r.2 v := by
    intro j v r hv hr;have hj : j < z.1 := by have := (z0q.1 hr).1; omega
    rw [z3q hj, z6q] at hr;obtain ⟨a1, a2, a3, a4⟩ := l3 j v r hv hr;exact ⟨a1, a2, a3, _, a4⟩
   split
   ·refine A3w (by simp only [List.length_map]; omega) (fun j v r hv hr => ?_) 0 t0
    simp only [z13q, z12q] at hr;obtain ⟨r0, hr0, rfl⟩ := hr;obtain ⟨a1, a2, a3, tg, a4⟩ := B2m j v r0 hv hr0;exact B0z a1 a2 a3 a4
   ·exact A3w (by omega) B2m 0 t0
  ·rw [if_neg h2] at H
   have hv := g3 (by simpa using h2)
   subst hv;have L8 : off < cs.length := by have := GL (by simpa using h2); omega
   have Gd : cs[off]? = some (cs.getD off (.undef, .val)) := by simp [z1q, z9q L8]
   obtain ⟨a1, a2, a3, a4⟩ := l3 0 v _ rfl (by simpa using Gd)
   simp only [z20q] at a4
   split at H
   ·cases hd : o.dst with
    | none =>
      rename_i S9;rw [hd] at S9;simp [J4] at S9
    | some t0 =>
      rw [hd] at H;refine Ap U1 ?_;rw [hd];refine T (E.re (Oa (.sp 1 s off) t0)) _ _ w H ((Rl.B3e hb Gd fun T hT => Gc hT).put fun t1 ht => ?_) (Pr.re fun T hT => Gc fun he => hT (by rw [he]; simp [O3]))
      simp only [Option.some.injEq] at ht;subst ht;exact RR.AU (a4.re (Gc (by simp)) (by simp [Oa]))
   ·exact V4 U1 H Rl (fun _ _ => RR.AU (a4.BO a3)) @T
 ·-- an element
  rename_i ag sz off hm;rw [hm] at e1;simp only [RR, J8] at e1;obtain ⟨b, o0, r1, ⟨us, u1, u2, u3⟩, r3⟩ := e1;obtain ⟨J3, H⟩ := K9 H;have l2 : ∀ (j : Nat) v, ((us.drop off).take z.1)[j]? = some v -> hc w.heap b (o0 + off + j) = some v := by
   intro j v hv;have hj : j < z.1 := by have := (z0q.1 hv).1; simp only [z11q, z14q] at this; omega
   rw [z3q hj, z6q] at hv;rw [z16q];exact (u2 _ v hv).1
  obtain ⟨v, g1, g2, g3⟩ := FD (w := w) hz (vs := (us.drop off).take z.1) (by simp only [z11q, z14q]; omega) l2
  have U1 := Ol F3 r1 g1
  by_cases h2 : z.2 = true
  ·rw [if_pos h2] at H
   obtain ⟨hag, H⟩ := F9 H;refine AB U1 H Rl ?_ @T;rw [g2 h2];simp only [RV];exact ⟨_, rfl, xZ u3 (by omega)⟩
  ·rw [if_neg h2] at H
   have hv := g3 (by simpa using h2)
   have L8 : off < us.length := by have := GL (by simpa using h2); omega
   have oG : us[off]? = some v := by
    have := congrArg (fun l : List Value => l[0]?) hv
    simp only [z2q] at this;rw [z3q (by have := GL (by simpa using h2); omega), z6q, z20q] at this
    exact this
   refine AB U1 H Rl ?_ @T
   split
   ·obtain ⟨q1, q2⟩ := OL u3 oG
    exact Ms q1 q2
   ·rename_i hag
    have hl := r3 (by simpa using hag)
    obtain ⟨u, rfl⟩ := Jm hl u3;have df : off = 0 := by simp at L8; omega
    subst df;simp only [z2q, Option.some.injEq] at oG;subst oG;exact Ms hl u3
 ·-- a shared variable
  rename_i i off hm;rw [hm] at e1;simp only [RR, J8] at e1;obtain ⟨cs, hb, H⟩ := C8 H;have hb := qo hb;have B := Rl.U4 i _ hb;simp only [RO] at B;have one : ∀ (n : Nat) c, cs[n]? = some c -> n < cs.length := fun n c hc => (z0q.1 hc).1
  by_cases h2 : z.2 = true
  ·rw [if_pos h2] at H
   obtain ⟨hz0, H⟩ := F9 H;obtain ⟨ds, ic, H⟩ := C8 H;obtain ⟨d1, d2⟩ := A3k ic;have C1U : z.1 ≠ 0 := by simpa using hz0
   have J3 : off + z.1 <= cs.length := by
    have := d2 (z.1 - 1) _ (z9q (by omega))
    obtain ⟨m, hm, -⟩ := az this;have := one _ _ hm;omega
   obtain ⟨vs, l1, l2, l3⟩ := xY B J3;obtain ⟨v, g1, g2, g3⟩ := FD (w := w) hz l1 l2;refine AB (Ol F3 e1.2 g1) H Rl ?_ @T;rw [g2 h2];simp only [RV];refine ⟨_, rfl, EO.2 ⟨by simp only [d1]; omega, fun j d v hd hv => ?_⟩⟩
   obtain ⟨m, hcm, hm⟩ := az (d2 j d hd);obtain ⟨a1, a2, a3, a4⟩ := l3 j v _ (by simpa using hv) hcm
   exact ⟨a1, Mr a1 a2 (lJ hm a4)⟩
  ·rw [if_neg h2] at H
   have qR := GL (by simpa using h2)
   have fin : ∀ c, cs[off]? = some c -> ∃ v, (execOp a.eval o).run C.P w = .ok (.value v) w /\ M4 c.1 = true /\ v.oneCell' = true /\ Y8 c.2 = true /\ J8 E w.heap (.sp 2 i off) c.1 c.2 v := by
    intro c hc;have J3 : off + z.1 <= cs.length := by have := one _ _ hc; omega
    obtain ⟨vs, l1, l2, l3⟩ := xY B J3;obtain ⟨v, g1, g2, g3⟩ := FD (w := w) hz l1 l2;have hv := g3 (by simpa using h2)
    subst hv;exact ⟨v, Ol F3 e1.2 g1, by simpa using l3 0 v c rfl (by simpa using hc)⟩
   split at H
   ·obtain ⟨j, hj, H⟩ := C8 H
    unfold SB at hj
    split at hj <;> simp only [Option.some.injEq, reduceCtorEq] at hj
    rename_i hc;subst hj;obtain ⟨v, f1, f2, f3, f4, f5⟩ := fin _ hc;exact V4 f1 H Rl (fun _ _ => RR.AU (by simp only [J8] at f5 ⊢; exact f5)) @T
   ·obtain ⟨j, hj, H⟩ := C8 H
    unfold lS at hj
    split at hj <;> simp only [Option.some.injEq, reduceCtorEq] at hj
    rename_i hc;subst hj;obtain ⟨v, f1, f2, f3, f4, f5⟩ := fin _ hc;exact V4 f1 H Rl (fun _ _ => RR.AU (by simp only [J8] at f5 ⊢; exact f5)) @T
   ·by_cases hvr : J4 fl.B20 o.dst = true
    ·rw [if_pos hvr] at H
     obtain ⟨e, he, H⟩ := C8 H;obtain ⟨ze, eB, H⟩ := C8 H;obtain ⟨q, hq, H⟩ := C8 H;unfold Jo at hq
     split at hq <;> try cases hq
     rename_i hc;obtain ⟨QQ, il⟩ := K9 hq;subst QQ;simp only [Option.some.injEq] at il;subst il;obtain ⟨v, f1, f2, f3, f4, f5⟩ := fin _ hc;exact V4 f1 H Rl (fun _ _ => RR.AU (by simp only [J8] at f5 ⊢; exact f5)) @T
    rw [if_neg hvr] at H
    by_cases QP : J4 fl.DR o.dst = true
    ·rw [if_pos QP] at H
     obtain ⟨e, he, H⟩ := C8 H;obtain ⟨ze, eB, H⟩ := C8 H;obtain ⟨q, hq, H⟩ := C8 H;unfold CG at hq
     split at hq
     ·rename_i d0 j n sz' len hc
      obtain ⟨QQ, il⟩ := K9 hq;subst QQ;simp only [Option.some.injEq] at il;subst il;obtain ⟨v, f1, f2, f3, f4, f5⟩ := fin _ hc;exact V4 f1 H Rl (fun _ _ => RR.AU (by simp only [J8] at f5 ⊢; exact f5)) @T
     ·rename_i sz' hc
      obtain ⟨⟨QQ, hpos⟩, il⟩ := K9 hq;subst QQ;simp only [Option.some.injEq] at il;subst il;obtain ⟨v, f1, f2, f3, f4, f5⟩ := fin _ hc;obtain ⟨R1, P1, R2⟩ := Rl.LQ hb hc f5 hpos;exact Ap f1 (T (E.LQ) _ _ w H (R1.put fun t1 _ => RR.AU (R2 _)) (P1.weaken (by simp)))
     ·cases hq
    ·rw [if_neg QP] at H
     by_cases S9 : J4 fl.P7 o.dst = true
     ·rw [if_pos S9] at H
      obtain ⟨d, hd, H⟩ := C8 H;have hc : ∃ m, cs[off]? = some (d, m) /\ (m = .full \/ m = .own) := by
       unfold X9 at hd
       split at hd <;> simp only [Option.some.injEq, reduceCtorEq] at hd <;> subst hd
       ·exact ⟨_, ‹_›, .inl rfl⟩
       ·exact ⟨_, ‹_›, .inr rfl⟩
      obtain ⟨m, hc, hm⟩ := hc;obtain ⟨v, f1, f2, f3, f4, f5⟩ := fin _ hc;cases FN : o.dst with
      | none =>
        rw [FN] at S9;simp [J4] at S9
      | some t0 =>
        rw [FN] at H;refine Ap f1 ?_;rw [FN];refine T (E.re (Oa (.sp 2 i off) t0)) _ _ w H ((Rl.B0F hb hc hm fun T hT => Gc hT).put fun t1 ht => ?_) (Pr.re fun T hT => Gc fun he => hT (by rw [he]; simp [O3]))
        simp only [Option.some.injEq] at ht;subst ht;have f6 : J8 (E.re (Oa (.sp 2 i off) t0)) w.heap (.sp 0 t0 0) d m v := f5.re (Gc (by simp)) (by simp [Oa])
        rcases hm with rfl | rfl
        ·-- a slice that ends where its memory does owns what lies behind: nothing
         exact RR.AU f6.qN
        ·exact RR.AU f6
     ·rw [if_neg S9] at H
      obtain ⟨d, hd, H⟩ := C8 H;obtain ⟨m, hc, hm⟩ := az hd;obtain ⟨v, f1, f2, f3, f4, f5⟩ := fin _ hc;exact AB f1 H Rl (lJ hm f5) @T
 ·-- an element of a writable array
  rename_i i sz idx off hm;rw [hm] at e1;simp only [RR, J8] at e1;obtain ⟨p, hp, H⟩ := C8 H;obtain ⟨d, hd, H⟩ := C8 H;obtain ⟨BF, H⟩ := F9 H;obtain ⟨J3, H⟩ := K9 H;have hp := qm hp;have BF : p.1 = sz := by simpa using BF
  rw [BF] at hp;have B := Rl.U4 i _ hp;simp only [RO] at B;have hne : p.2 ≠ [] := by intro h; rw [h] at hd; simp at hd
  obtain ⟨c, TT, b1, b2, b3, b4, b5⟩ := B hne;obtain ⟨us, u1, u2, u3⟩ := b5 idx d hd;have l2 : ∀ (j : Nat) v, ((us.drop off).take z.1)[j]? = some v -> hc w.heap (E.obj i) (E.base i + idx * sz + off + j) = some v := by
   intro j v hv;have hj : j < z.1 := by have := (z0q.1 hv).1; simp only [z11q, z14q] at this; omega
   rw [z3q hj, z6q] at hv;rw [z16q];unfold hc;rw [b1];exact u2 _ v hv
  obtain ⟨v, g1, g2, g3⟩ := FD (w := w) hz (vs := (us.drop off).take z.1) (by simp only [z11q, z14q]; omega) l2
  have U1 := Ol F3 e1.2 g1
  by_cases h2 : z.2 = true
  ·rw [if_pos h2] at H
   refine AB U1 H Rl ?_ @T;rw [g2 h2];simp only [RV];exact ⟨_, rfl, xZ u3 (by omega)⟩
  ·rw [if_neg h2] at H
   have hv := g3 (by simpa using h2)
   have qR := GL (by simpa using h2)
   have oG : us[off]? = some v := by
    have := congrArg (fun l : List Value => l[0]?) hv
    simp only [z2q] at this;rw [z3q (by omega), z6q, z20q] at this
    exact this
   split at H
   ·obtain ⟨hl, H⟩ := F9 H
    refine AB U1 H Rl ?_ @T;obtain ⟨u, rfl⟩ := Jm hl u3;have df : off = 0 := by have := (z0q.1 oG).1; simp at this; omega
    subst df;simp only [z2q, Option.some.injEq] at oG;subst oG;exact Ms hl u3
   ·refine AB U1 H Rl ?_ @T
    obtain ⟨q1, q2⟩ := OL u3 oG;exact Ms q1 q2
 ·-- an element of a vector
  rename_i i n sz idx off hm;rw [hm] at e1;simp only [RR, J8] at e1;obtain ⟨p, hp, H⟩ := C8 H;obtain ⟨d, hd, H⟩ := C8 H;obtain ⟨BF, H⟩ := F9 H;obtain ⟨J3, H⟩ := K9 H;have hp := aF hp;have BF : p.1 = sz := by simpa using BF
  rw [BF] at hp;have B := Rl.U4 i _ hp;simp only [RO] at B;obtain ⟨bv, b0, b3, B⟩ := B;have hne : p.2 ≠ [] := by intro h; rw [h] at hd; simp at hd
  obtain ⟨c, TT, ff, b1, b2, b2', b4, b5⟩ := B.resolve_left fun h => hne h.1
  obtain ⟨-, -, -, eb, ep, ev, ex⟩ := e1;obtain ⟨rfl, rfl⟩ := ex bv;obtain ⟨us, u1, u2, u3⟩ := b5 idx d hd;have l2 : ∀ (j : Nat) v, ((us.drop off).take z.1)[j]? = some v -> hc w.heap (E.obj i) (E.base i + idx * sz + off + j) = some v := by
   intro j v hv;have hj : j < z.1 := by have := (z0q.1 hv).1; simp only [z11q, z14q] at this; omega
   rw [z3q hj, z6q] at hv;rw [z16q];unfold hc;rw [b1];exact u2 _ v hv
  obtain ⟨v, g1, g2, g3⟩ := FD (w := w) hz (vs := (us.drop off).take z.1) (by simp only [z11q, z14q]; omega) l2
  have U1 := Ol F3 ev g1
  by_cases h2 : z.2 = true
  ·rw [if_pos h2] at H
   refine AB U1 H Rl ?_ @T;rw [g2 h2];simp only [RV];exact ⟨_, rfl, xZ u3 (by omega)⟩
  ·rw [if_neg h2] at H
   have hv := g3 (by simpa using h2)
   have qR := GL (by simpa using h2)
   have oG : us[off]? = some v := by
    have := congrArg (fun l : List Value => l[0]?) hv
    simp only [z2q] at this;rw [z3q (by omega), z6q, z20q] at this
    exact this
   split at H
   ·obtain ⟨hl, H⟩ := F9 H
    refine AB U1 H Rl ?_ @T;obtain ⟨u, rfl⟩ := Jm hl u3;have df : off = 0 := by have := (z0q.1 oG).1; simp at this; omega
    subst df;simp only [z2q, Option.some.injEq] at oG;subst oG;exact Ms hl u3
   ·refine AB U1 H Rl ?_ @T
    obtain ⟨q1, q2⟩ := OL u3 oG;exact Ms q1 q2
 ·simp at H
end
end Go.Su

/-
 THE DATA MACHINE, part 12: variables made; values and slices built.
-/
namespace Go.Su
variable {h : Heap} {ob : Obj}
theorem B5X {b : Nat} (hb : b < h.size) : (h.push ob)[b]? = h[b]? := by
 rw [Array.getElem?_push_lt hb, z28q hb]
theorem Kn : (h.push ob)[h.size]? = some ob := by simp
variable {E : Env}
theorem Pr.push {ch : Tag -> Prop} {E' : Env} (ht : ∀ b o, b < h.size -> ¬ ch (E.O b o) -> E'.O b o = E.O b o) (hn : E.n <= E'.n) (ho : ∀ i, i < E.n -> E'.Aa i = E.Aa i -> E'.obj i = E.obj i /\ E'.base i = E.base i /\ E'.top i = E.top i) (hb : ∀ s, ¬ ch (.Rt s) -> E'.blk s = E.blk s) (hv : A7U ch E E') : Pr ch E h E' (h.push ob) :=
 ⟨by simp, fun b L8 => by rw [B5X L8]; exact X8.refl _ _, ht, hn, ho, hb, hv⟩
theorem A0f {c : Array Value} {T : TypeId} {f : Nat × Nat} (o : Nat) : hc (h.push (.cells c T f)) h.size o = c[o]? := by
 unfold hc; rw [Kn]
theorem A3e {d : DV} (h : H6 d = true) : M4 d = true := by cases d <;> simp_all [H6, M4]
variable {v : Value}
theorem A5j {S : Z5} {d : DV} (hc : H6 d = true) (H : RV S h d v) : v.oneCell' = true := by
 cases d <;> simp only [H6] at hc <;> try contradiction
 ·rw [Bp] at H; subst H; rfl
 ·rw [LY] at H; subst H; rfl
 ·rw [Xg] at H; subst H; rfl
 ·obtain ⟨a, len, cap, rfl, -⟩ := LZ H; rfl
 ·simp only [RV] at H; subst H; rfl
 ·rename_i sz d
  exact Ir (d := .Hz sz d) rfl (by simpa only [RV] using H)
variable (E : Env) (h : Heap)
def Cv (tg : Tag) (r : DV × Meta) (v : Value) : Prop :=
 M4 r.1 = true /\ v.oneCell' = true /\ Y8 r.2 = true /\ J8 E h tg r.1 r.2 v
variable {X : Type} {E : Env} {h : Heap} {x : X}
theorem Xh {k a : Nat} {r : DV × Meta} {K : DV × Meta -> Option X} (R : RR E h k a r.1 r.2 v) (H : cellOf r K = some x) :
 ∃ c, K c = some x /\ c.2 = r.2 /\ Cv E h (.sp k a 0) c v := by
 unfold cellOf at H
 split at H
 ·rename_i hm
  rw [hm] at R;obtain ⟨hc, H⟩ := F9 H;exact ⟨_, H, hm.symm, A3e hc, A5j hc R, rfl, R⟩
 ·rename_i hm
  rw [hm] at R;simp only [RR, J8] at R;obtain ⟨r1, ⟨p, n, rfl⟩, sz, ds, r2⟩ := R;exact ⟨_, H, hm.symm, by rw [r2]; rfl, rfl, rfl, r1, ⟨_, _, rfl⟩, _, _, r2⟩
 ·rename_i hm
  rw [hm] at R;simp only [RR, J8] at R;obtain ⟨r1, sz, ds, r2, r3⟩ := R;refine ⟨_, H, hm.symm, by rw [r2]; rfl, ?_, rfl, r1, sz, ds, r2, r3⟩
  rw [r2] at r1;obtain ⟨a, len, cap, rfl, -⟩ := LZ r1;rfl
 ·rename_i hm
  rw [hm] at R;obtain ⟨-, rfl⟩ := (R : _ /\ _);exact ⟨_, H, hm.symm, rfl, rfl, rfl, rfl, rfl⟩
 ·obtain ⟨hm, H⟩ := F9 H
  refine ⟨_, H, rfl, ?_⟩;have n1 : r.2 ≠ .val := by intro h; simp_all
  have n2 : r.2 ≠ .full := by intro h; simp_all
  have n3 : r.2 ≠ .own := by intro h; simp_all
  have n4 : r.2 ≠ .Ba := by intro h; simp_all
  revert R hm n1 n2 n3 n4
  generalize r.2 = m;intro R hm n1 n2 n3 n4;cases m <;> simp only [Y8] at hm <;> simp only [RR, J8] at R <;> try contradiction
  case ptr i o => obtain ⟨r1, rfl⟩ := R; exact ⟨rfl, rfl, rfl, r1, rfl⟩
  case map i => obtain ⟨r1, rfl⟩ := R; exact ⟨rfl, rfl, rfl, r1, rfl⟩
  case PX => subst R; exact ⟨rfl, rfl, rfl, rfl⟩
  case arr i sz off len => obtain ⟨r1, p, cap, rfl, r2⟩ := R; exact ⟨rfl, rfl, rfl, r1, _, _, rfl, r2⟩
  case M6 i n sz len => obtain ⟨r1, r2, r3, p, cap, rfl, r4⟩ := R; exact ⟨rfl, rfl, rfl, r1, r2, r3, _, _, rfl, r4⟩
  case fn f caps => obtain ⟨rfl, r2⟩ := R; exact ⟨rfl, rfl, rfl, rfl, r2⟩
def FW (E : Env) (h : Heap) (cs : List (DV × Meta)) (vs : List Value) : Prop :=
 cs.length = vs.length /\ ∀ (j : Nat) r v, cs[j]? = some r -> vs[j]? = some v -> Cv E h .other r v /\ r.2 ≠ .own
theorem B0g : ∀ {ds : List DV} {ms : List Meta} {j : Nat} {r : DV × Meta}, (rP ds ms)[j]? = some r -> ds[j]? = some r.1 /\ ms[j]? = some r.2
 | d :: ds, m :: ms, 0, r, h => by simp only [rP, z2q, Option.some.injEq] at h; subst h; simp
 | d :: ds, m :: ms, j + 1, r, h => by simp only [rP, z22q] at h ⊢; exact B0g h
 | [], ms, j, r, h => by simp [rP] at h
 | d :: ds, [], j, r, h => by simp [rP] at h
theorem ko : ∀ {ds : List DV} {ms : List Meta}, ds.length = ms.length -> (rP ds ms).length = ds.length
 | d :: ds, m :: ms, h => by simp only [rP, List.length_cons]; rw [ko (by simpa using h)]
 | [], [], _ => rfl
theorem Jp (n o : Nat) (d : DV) : (cells n o d).length = n := by simp [cells]
theorem A6E {n o j : Nat} {d e : DV} (h : (cells n o d)[j]? = some e) : j < n /\ e = A7 (o + j) d := by
 have hj : j < n := by have := (z0q.1 h).1; simpa [cells] using this
 simp only [cells, z13q, z32q hj, z25q, Option.some.injEq] at h;exact ⟨hj, h.symm⟩
def A34 (E : Env) (h : Heap) (k a : Nat) (cs : List (DV × Meta)) (vs : List Value) : Prop :=
 cs.length = vs.length /\ ∀ (j : Nat) r v, cs[j]? = some r -> vs[j]? = some v -> Cv E h (.sp k a (j + 1)) r v
theorem Cv.strip {tg tg' : Tag} {r : DV × Meta} (H : Cv E h tg r v) : Cv E h tg' (r.1, dm r.2) v /\ dm r.2 ≠ .own :=
 ⟨⟨H.1, H.2.1, (Su.BO H.2.2.1).2.1, H.2.2.2.BO H.2.2.1⟩, (Su.BO H.2.2.1).2.2⟩
variable {cs : List (DV × Meta)} {vs : List Value}
theorem A34.strip {k a : Nat} (H : A34 E h k a cs vs) : FW E h (cs.map fun c => (c.1, dm c.2)) vs := by
 refine ⟨by simpa using H.1, fun j r v hr hv => ?_⟩
 simp only [z13q, z12q] at hr;obtain ⟨c, hc, rfl⟩ := hr;exact (H.2 j c v hc hv).strip
theorem A6D {z : Nat} {k a : Nat} {r : DV × Meta} (R : RR E h k a r.1 r.2 v) (hg : D6 z r.1 = true) (Fv : lT z r = some cs) :
 cs.length = z /\ A34 E h k a cs v.cells.toList := by
 unfold lT at Fv
 split at Fv
 ·rename_i hm
  simp only [Option.some.injEq] at Fv;subst Fv;rw [hm] at R;obtain ⟨vs, rfl, BF, hR⟩ := xc hg R;refine ⟨by simp [Jp], by simp [Jp, Value.cells, BF], fun j r' u hr hu => ?_⟩
  simp only [z13q, z12q] at hr;obtain ⟨d, hd, rfl⟩ := hr;obtain ⟨hj, rfl⟩ := A6E hd;obtain ⟨q1, q2⟩ := OL hR (j := 0 + j) (v := u) (by simpa [Value.cells] using hu)
  exact ⟨q1, Ir q1 q2, rfl, Ms q1 q2⟩
 ·rename_i ms hm
  obtain ⟨hl, Fv⟩ := K9 Fv;simp only [Option.some.injEq] at Fv;subst Fv;rw [hm] at R;simp only [RR] at R;obtain ⟨ds, vs, hd, rfl, l1, l2, l3⟩ := R;refine ⟨by rw [ko (by rw [Jp, hl])]; exact Jp _ _ _, by rw [ko (by rw [Jp, hl]), Jp]; simp [Value.cells]; omega, fun j r' u hr hu => ?_⟩
  obtain ⟨NN, hr2⟩ := B0g hr;obtain ⟨hj, NN⟩ := A6E NN;have L8 : j < ds.length := by omega
  have hdj : ds[j]? = some r'.1 := by
   rw [NN, hd];simp [A7, z1q, z9q L8]
  obtain ⟨a1, a2, a4, a5⟩ := l3 j r'.2 r'.1 u hr2 hdj (by simpa [Value.cells] using hu)
  exact ⟨a1, a2, a4, a5⟩
 ·simp at Fv
variable {P : Program} {t : TypeId}
theorem Zq {z : Nat × Bool} (hz : tz P t = some z) {k a : Nat} {r : DV × Meta} {K : List (DV × Meta) -> Option X} (R : RR E h k a r.1 r.2 v) (H : explode P t r K = some x) :
 ∃ cs, K cs = some x /\ cs.length = z.1 /\ FW E h cs v.cells.toList := by
 unfold explode at H;obtain ⟨z', QQ, H⟩ := C8 H;rw [hz] at QQ;simp only [Option.some.injEq] at QQ;subst QQ
 split at H
 ·obtain ⟨hg, H⟩ := F9 H
  obtain ⟨cs, Fv, H⟩ := C8 H;obtain ⟨l1, l2⟩ := A6D R hg Fv;exact ⟨_, H, by simpa using l1, l2.strip⟩
 ·rename_i hz2
  obtain ⟨c, H, hm, AJ⟩ := Xh R H;have GL : z.1 = 1 := by
   obtain ⟨i, d, -, -, -, h4⟩ := HY hz;exact h4 (by simpa using hz2)
  have hv : v.cells = #[v] := by
   have := AJ.2.1;cases v <;> first | rfl | (simp [Value.oneCell'] at this)
  refine ⟨_, H, GL.symm, by simp [hv], fun j r' u hr hu => ?_⟩
  rw [hv] at hu;cases j with
  | succ j => simp at hr
  | zero =>
    simp only [z2q, Option.some.injEq] at hr hu;subst hr hu;exact AJ.strip
theorem A8k {n : Nat} {r : DV × Meta} (h : lT n r = some cs) (hr : ∀ ms, r.2 ≠ .DZ ms) : ∀ c ∈ cs, c.2 ≠ .own := by
 unfold lT at h
 split at h
 ·simp only [Option.some.injEq] at h
  subst h;intro c hc;obtain ⟨d, -, rfl⟩ := List.mem_map.1 hc;simp
 ·rename_i ms hm; exact absurd hm (hr ms)
 ·cases h
theorem A2J {z : Nat × Bool} (hz : tz P t = some z) {k a : Nat} {r : DV × Meta} {K : List (DV × Meta) -> Option X} (R : RR E h k a r.1 r.2 v) (H : Hw P t r K = some x) :
 ∃ cs, K cs = some x /\ cs.length = z.1 /\ A34 E h k a cs v.cells.toList /\ ((∀ ms, r.2 ≠ .DZ ms) -> ∀ c ∈ cs, c.2 ≠ .own) := by
 unfold Hw at H;obtain ⟨z', QQ, H⟩ := C8 H;rw [hz] at QQ;simp only [Option.some.injEq] at QQ;subst QQ
 split at H
 ·obtain ⟨hg, H⟩ := F9 H
  obtain ⟨cs, Fv, H⟩ := C8 H;obtain ⟨l1, l2⟩ := A6D R hg Fv;exact ⟨_, H, l1, l2, A8k Fv⟩
 ·rename_i hz2
  obtain ⟨c, H, hm, AJ⟩ := Xh R H;have GL : z.1 = 1 := by
   obtain ⟨i, d, -, -, -, h4⟩ := HY hz;exact h4 (by simpa using hz2)
  have hv : v.cells = #[v] := by
   have := AJ.2.1;cases v <;> first | rfl | (simp [Value.oneCell'] at this)
  refine ⟨_, H, GL.symm, ⟨by simp [hv], fun j r' u hr hu => ?_⟩, fun _ c' hc' => by simp only [List.mem_singleton] at hc'; subst hc'; exact (Su.BO AJ.2.2.1).2.2⟩
  rw [hv] at hu;cases j with
  | succ j => simp at hr
  | zero =>
    simp only [z2q, Option.some.injEq] at hr hu;subst hr hu;exact AJ.strip.1
theorem B8v {r : DV × Meta} (H : cst P t v = some r) : Cv E h .other r v /\ r.2 ≠ .own := by
 have R : RR E h 0 0 r.1 r.2 v := A4N H 0 0;unfold cst at H
 split at H <;> simp only [Option.some.injEq, reduceCtorEq] at H <;> subst H <;> exact ⟨⟨rfl, rfl, rfl, R⟩, by simp⟩
theorem xm {P : Program} {E : Env} {h : Heap} : ∀ {ts : List TypeId} {vs : List Value} {cs : List (DV × Meta)}, Xj P ts vs = some cs -> FW E h cs vs
 | [], [], cs, H => by simp only [Xj, Option.some.injEq] at H; subst H; exact ⟨rfl, by simp⟩
 | [], v :: vs, cs, H => by simp [Xj] at H
 | t :: ts, [], cs, H => by simp [Xj] at H
 | t :: ts, v :: vs, cs, H => by
   simp only [Xj] at H;obtain ⟨r, hr, H⟩ := C8 H;obtain ⟨rs, hrs, H⟩ := C8 H;simp only [Option.some.injEq] at H;subst H;obtain ⟨l1, l2⟩ := xm (E := E) (h := h) hrs;refine ⟨by simp [l1], fun j r' u h1 h2 => ?_⟩
   cases j with
   | zero => simp only [z2q, Option.some.injEq] at h1 h2; subst h1 h2; exact B8v hr
   | succ j => simp only [z22q] at h1 h2; exact l2 j r' u h1 h2
theorem XZ (H : Ku P t = some cs) : ∃ i v, P.info? t = some i /\ i.zero = some v /\ ∀ E h, FW E h cs v.cells.toList := by
 unfold Ku at H;obtain ⟨ts, hts, H⟩ := C8 H;obtain ⟨i, hi, H⟩ := C8 H;obtain ⟨v, hv, H⟩ := C8 H;exact ⟨i, v, hi, hv, fun E h => xm H⟩
section
variable {X : Type} {C : AO} {R : Q8} {o : Oper} {st : St} {k : St -> Option X} {x : X} {E : Env} {a : Act} {w : World} {K : Act -> World -> Prop} {Q : Exit -> Act -> World -> Prop}
def Env.EP (E : Env) (t0 b n : Nat) : Env :=
 { E with blk := fun s => if s = t0 then b else E.blk s,
          O := fun b' o => if b' = b then (if o < n then .Rt t0 else .other) else if E.O b' o = .Rt t0 then .other else E.O b' o }
def Env.newObj (E : Env) (b n : Nat) : Env :=
 { E with obj := fun i => if i = E.n then b else E.obj i, base := fun i => if i = E.n then 0 else E.base i, n := E.n + 1, Aa := fun i => if i = E.n then 0 else E.Aa i,
          O := fun b' o => if b' = b then (if o < n then .obj E.n else .other) else E.O b' o }
theorem Cv.mono {ch : Tag -> Prop} {E E' : Env} {h' : Heap} (H : Pr ch E h E' h') (J3 : Z9 E.S h E'.S h') {r : DV × Meta} (hm : r.2 ≠ .own) {tg : Tag} (R : Cv E h .other r v) : Cv E' h' tg r v := by
 obtain ⟨a1, a2, a3, a4⟩ := R;exact ⟨a1, a2, a3, (a4.mono H J3 (fun x => absurd x hm) fun s o hl => by rw [hl] at a3; simp [Y8] at a3).tag hm⟩
theorem K3.newObj {T0 : TypeId} (hc : FW E w.heap cs vs) (Rl : K3 E st a w.heap) :
 K3 (E.newObj w.heap.size cs.length) { st with sg := st.sg ++ [.box cs] } a (w.heap.push (.cells vs.toArray T0)) /\ Pr (fun _ => False) E w.heap (E.newObj w.heap.size cs.length) (w.heap.push (.cells vs.toArray T0)) := by
 obtain ⟨lc, hc⟩ := hc;have P1 : Pr (fun _ => False) E w.heap (E.newObj w.heap.size cs.length) (w.heap.push (.cells vs.toArray T0)) := by
  refine Pr.push (fun b o hb _ => ?_) (by simp [Env.newObj]) (fun i hi _ => ?_) (fun _ _ => rfl) (aP rfl)
  ·simp only [Env.newObj]; rw [if_neg (by omega)]
  ·refine ⟨?_, ?_, rfl⟩ <;> simp only [Env.newObj] <;> rw [if_neg (by omega)]
 have J3 := P1.shut (by simp) Rl.fresh
 refine ⟨⟨Rl.size, Rl.Af, Rl.Ca, by simp [Env.In, Env.newObj, Rl.n], fun t v hv => (Rl.regs t v hv).mono P1 J3 (by simp) (by simp), fun s cs hs => (Rl.boxes s cs hs).mono P1 J3 (by simp) (by simp), fun i ob hi => ?_,
         fun b o hb => ?_⟩, P1⟩
 ·by_cases L8 : i < st.sg.length
  ·rw [z18q L8] at hi
   exact (Rl.U4 i ob hi).mono P1 J3 (CS Rl hi) (by simp) (by simp)
  ·have JR : i = st.sg.length := by
    have := (z0q.1 hi).1;simp at this; omega
   subst JR;simp only [z17q (z7q _), z38q, z2q, Option.some.injEq] at hi;subst hi;have hn := Rl.n;refine ⟨vs.toArray, T0, ?_, by simp [lc], fun o => ?_, fun j r v hr hv => ?_⟩
   ·simp only [Env.newObj, hn, if_true]; exact Kn
   ·by_cases ho : o < cs.length
    ·left; simp only [Env.newObj, hn, if_true, if_pos ho]
    ·right; simp only [z31q]; omega
   ·obtain ⟨q1, q2⟩ := hc j r v hr (by simpa using hv)
    exact q1.mono P1 J3 q2
 ·simp only [z33q] at hb
  simp only [Env.newObj];rw [if_neg (by omega)]
  exact Rl.fresh b o (by omega)
theorem K3.EP {t0 : Nat} {T0 : TypeId} (lc : cs.length = vs.length) (hc : ∀ (j : Nat) r v, cs[j]? = some r -> vs[j]? = some v -> Cv E w.heap (.sp 1 t0 j) r v) (Rl : K3 E st a w.heap) :
 K3 (E.EP t0 w.heap.size cs.length) { st with mt := st.mt.map (JE t0), bx := st.bx.set t0 (some cs) } a (w.heap.push (.cells vs.toArray T0)) /\ Pr (fun T => T = .Rt t0) E w.heap (E.EP t0 w.heap.size cs.length) (w.heap.push (.cells vs.toArray T0)) := by
 have P1 : Pr (fun T => T = .Rt t0) E w.heap (E.EP t0 w.heap.size cs.length) (w.heap.push (.cells vs.toArray T0)) := by
  refine Pr.push (fun b o hb hn => ?_) (z7q _) (fun i hi _ => ⟨rfl, rfl, rfl⟩) (fun s hs => ?_) (Dc rfl)
  ·simp only [Env.EP]; rw [if_neg (by omega), if_neg hn]
  ·simp only [Env.EP]; rw [if_neg (by simpa using hs)]
 have J3 := P1.shut (by simp) Rl.fresh
 refine ⟨?_, P1⟩
 ·refine ⟨Rl.size, by simpa using Rl.Af, by simpa using Rl.Ca, Rl.n, fun t v hv => ?_, fun s cs' hs => ?_, fun i ob hi => (Rl.U4 i ob hi).mono P1 J3 (CS Rl hi) (by simp) (by simp), fun b o hb => ?_⟩
  ·have h0 := Rl.regs t v hv
   have hg : (St.get { st with mt := st.mt.map (JE t0), bx := st.bx.set t0 (some cs) } t) = ((st.get t).1, JE t0 (st.get t).2) := by
    simp only [St.get, z1q, z13q];cases st.mt[t]? <;> rfl
   rw [hg];cases hm : (st.get t).2
   case loc s o =>
    rw [hm] at h0;simp only [RR, J8] at h0;simp only [JE]
    split
    ·rw [h0.1]; simp only [RR, J8, RV]
    ·rename_i hne
     refine ⟨h0.1, ?_⟩;rw [h0.2];simp only [Env.EP]; rw [if_neg hne]
   all_goals
    rw [hm] at h0;simp only [JE];exact h0.mono P1 J3 (by simp) (by simp)
  ·have A3H : t0 = s -> s < st.bx.length := by
    intro hts;rcases z27q s st.bx.length with h1 | h1
    ·exact h1
    ·simp [z1q, z19q (by simpa using h1 : (st.bx.set t0 (some cs)).length <= s)] at hs
   by_cases d_ : t0 = s
   ·subst d_
    simp only [z1q, z5q (A3H rfl), z29q, Option.some.injEq] at hs;subst hs;refine ⟨vs.toArray, T0, ?_, by simp [lc], fun o => ?_, fun j r v hr hv => ?_⟩
    ·simp only [Env.EP, if_true]; exact Kn
    ·by_cases ho : o < cs.length
     ·left; simp only [Env.EP, if_true, if_pos ho]
     ·right; simp only [z31q]; omega
    ·obtain ⟨q1, q2, q3, q4⟩ := hc j r v hr (by simpa using hv)
     exact ⟨q1, q2, q3, q4.mono P1 J3 (fun _ => by simp) fun s o hl => by rw [hl] at q3; simp [Y8] at q3⟩
   ·simp only [z1q, z10q d_] at hs
    have B := Rl.boxes s cs' (by simpa [z1q] using hs)
    have hne : ¬ s = t0 := fun h => d_ h.symm
    have := B.mono P1 J3 (tg := .Rt s) (by simpa using hne) (by simp)
    simp only [Env.EP] at this ⊢;rw [if_neg hne];exact this
  ·simp only [z33q] at hb
   simp only [Env.EP];rw [if_neg (by omega)]
   have := Rl.fresh b o (by omega)
   rw [this];simp
theorem A5n {sh : Bool} {T0 : TypeId} (hc : FW E w.heap cs vs) (H : k (st.Am sh o.dst cs) = some x) (hr : (execOp a.eval o).run C.P w = .ok (.value (.pointer (some ⟨w.heap.size, 0, none⟩))) (w.alloc (.cells vs.toArray T0))) (Rl : K3 E st a w.heap) (T : Then E w k x K) : Gp C.P o a w K := by
 refine Ap hr ?_;obtain ⟨lc, hc⟩ := hc;cases hd : o.dst with
 | none =>
   rw [hd] at H;simp only [St.Am] at H;have P1 : Pr (fun _ => False) E w.heap E (w.heap.push (.cells vs.toArray T0)) := Pr.push (fun _ _ _ _ => rfl) (z7q _) (fun _ _ _ => ⟨rfl, rfl, rfl⟩) (fun _ _ => rfl) (Dc rfl)
   have J3 := P1.shut (by simp) Rl.fresh
   refine T E st _ (w.alloc (.cells vs.toArray T0)) H ?_ (P1.weaken (by simp))
   exact ⟨Rl.size, Rl.Af, Rl.Ca, Rl.n, fun t v hv => (Rl.regs t v hv).mono P1 J3 (by simp) (by simp), fun s cs hs => (Rl.boxes s cs hs).mono P1 J3 (by simp) (by simp), fun i ob hi => (Rl.U4 i ob hi).mono P1 J3 (CS Rl hi) (by simp) (by simp),
    fun b o hb => Rl.fresh b o (by simp at hb; omega)⟩
 | some t0 =>
   rw [hd] at H;cases sh with
   | true =>
     simp only [St.Am, if_true] at H;have P1 : Pr (fun _ => False) E w.heap (E.newObj w.heap.size cs.length) (w.heap.push (.cells vs.toArray T0)) := by
      refine Pr.push (fun b o hb _ => ?_) (by simp [Env.newObj]) (fun i hi _ => ?_) (fun _ _ => rfl) (aP rfl)
      ·simp only [Env.newObj]; rw [if_neg (by omega)]
      ·refine ⟨?_, ?_, rfl⟩ <;> simp only [Env.newObj] <;> rw [if_neg (by omega)]
     have J3 := P1.shut (by simp) Rl.fresh
     have R1 : K3 (E.newObj w.heap.size cs.length) { st with sg := st.sg ++ [.box cs] } a (w.heap.push (.cells vs.toArray T0)) := by
      refine ⟨Rl.size, Rl.Af, Rl.Ca, by simp [Env.In, Env.newObj, Rl.n], fun t v hv => (Rl.regs t v hv).mono P1 J3 (by simp) (by simp), fun s cs hs => (Rl.boxes s cs hs).mono P1 J3 (by simp) (by simp), fun i ob hi => ?_,
       fun b o hb => ?_⟩
      ·by_cases L8 : i < st.sg.length
       ·rw [z18q L8] at hi
        exact (Rl.U4 i ob hi).mono P1 J3 (CS Rl hi) (by simp) (by simp)
       ·have JR : i = st.sg.length := by
         have := (z0q.1 hi).1;simp at this; omega
        subst JR;simp only [z17q (z7q _), z38q, z2q, Option.some.injEq] at hi;subst hi;have hn := Rl.n;refine ⟨vs.toArray, T0, ?_, by simp [lc], fun o => ?_, fun j r v hr hv => ?_⟩
        ·simp only [Env.newObj, hn, if_true]; exact Kn
        ·by_cases ho : o < cs.length
         ·left; simp only [Env.newObj, hn, if_true, if_pos ho]
         ·right; simp only [z31q]; omega
        ·obtain ⟨q1, q2⟩ := hc j r v hr (by simpa using hv)
         exact q1.mono P1 J3 q2
      ·simp only [z33q] at hb
       simp only [Env.newObj];rw [if_neg (by omega)]
       exact Rl.fresh b o (by omega)
     refine T (E.newObj w.heap.size cs.length) _ _ (w.alloc (.cells vs.toArray T0)) H (R1.put fun t1 _ => ?_) (P1.weaken (by simp))
     refine RR.AU ⟨by simp [Env.In, Env.newObj, Rl.n], ?_⟩
     simp only [Env.newObj, Rl.n, if_true]
   | false =>
     simp only [St.Am, z23q, if_false] at H;obtain ⟨R1, P1⟩ := Rl.EP (t0 := t0) (T0 := T0) lc fun j r v hr hv => ⟨(hc j r v hr hv).1.1, (hc j r v hr hv).1.2.1, (hc j r v hr hv).1.2.2.1, (hc j r v hr hv).1.2.2.2.tag (hc j r v hr hv).2⟩
     refine T (E.EP t0 w.heap.size cs.length) _ _ (w.alloc (.cells vs.toArray T0)) H (R1.put fun t1 ht => ?_) (P1.weaken (by rintro T rfl; simp [O3]))
     simp only [Option.some.injEq] at ht;subst ht;refine RR.AU ⟨rfl, ?_⟩;simp only [Env.EP, if_true]
end
end Go.Su
