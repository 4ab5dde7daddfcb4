/-
  Parts of the proof, merged: SuData, SuEval, SuRel, SuState, SuBase, SuOp1, SuOp2, SuOp3, SuOp4, SuOp5, SuOp6, SuOp7, SuOp8.
-/
import Derived.Calls
import Derived.Control
import Derived.Laws.Cells
import Derived.Laws.Entries
import Derived.Laws.Sem
import Derived.Laws.Slices
import Derived.Laws.StructEq
import Derived.Laws.Tables
import Derived.Laws.World
import Derived.LoopN
import Derived.Orders
set_option linter.unusedVariables false
set_option linter.unusedSimpArgs false
/-
 THE DATA MACHINE, part 1: values as plain data, states, and one operation at a time.
 No program is named here. What is proved about it stands in the parts behind.
-/
open Array renaming getElem?_eq_some_iff → z5q, getElem?_setIfInBounds_self_of_lt → z24q, getElem?_eq_getElem → z25q, getElem?_setIfInBounds_ne → z28q, size_push → z30q
open Bool renaming and_eq_true → z9q, false_eq_true → z23q
open List renaming getElem?_eq_some_iff → z0q, getD_eq_getElem?_getD → z1q, getElem?_cons_zero → z2q, getElem?_eq_getElem → z3q, getElem?_take_of_lt → z4q, getElem?_set_self → z6q, getElem?_map → z7q, getElem?_cons_succ → z10q, getElem?_drop → z11q, getElem?_set_ne → z12q, length_take → z14q, getElem?_append_right → z16q, getElem?_append_left → z17q, length_drop → z18q, getElem?_eq_none → z22q, eq_nil_of_length_eq_zero → z29q, mem_of_getElem? → z31q, size_toArray → z35q, all_eq_true → z36q, getElem?_range → z38q, mem_cons → z39q, append_assoc → z41q, length_cons → z44q, zipIdx_cons → z45q
open Nat renaming lt_of_lt_of_le → z13q, le_refl → z15q, mul_le_mul_right → z19q, add_assoc → z20q, add_zero → z21q, succ_mul → z26q, lt_or_ge → z32q, sub_self → z37q, add_comm → z40q, mul_comm → z42q, zero_add → z43q, add_mul → z46q
open Option renaming map_eq_some_iff → z8q, map_some → z27q, getD_some → z33q, isNone_iff_eq_none → z34q
namespace Go.Su
inductive DV where
 | undef
 | int (k : IntKind) (n : Int)
 | bool (b : Bool)
 | str (s : ByteArray)
 | agg (cs : List DV)
 | I6 (cs : List DV)
 | list (sz : Nat) (ds : List DV)
 | QK
 | VI (sz : Nat) (d : DV)
 deriving Inhabited
inductive Meta where
 | val
 | full
 | own
 | loc (s o : Nat)
 | OT (ag : Bool) (sz o : Nat)
 | ptr (i o : Nat)
 | FT
 | map (i : Nat)
 | QJ
 | arr (i sz off len : Nat)
 | Yw (i sz idx o : Nat)
 | opt (i sz idx : Nat)
 | fn (f : FuncId) (caps : List (Nat × Nat))
 | Bi (ms : List Meta)
 | Ad (ms : List Meta)
 deriving Inhabited
inductive D7 where
 | box (cs : List (DV × Meta))
 | arr (sz : Nat) (ds : List DV)
 | map (ks : Bool) (es : List (DV × DV))
 | opn (sz : Nat) (pre ds : List DV)
 deriving Inhabited
structure St where
 tm : List DV
 mt : List Meta
 bx : List (Option (List (DV × Meta)))
 sg : List D7
def ob {α β : Type} (x : Option α) (f : α → Option β) : Option β :=
 match x with
 | some a => f a
 | none => none
def D6 {β : Type} (d : DV) (t e : Option β) : Option β :=
 match d with
 | .bool true => t
 | .bool false => e
 | _ => none
def og {β : Type} (t : Bool) (x : Option β) : Option β :=
 match t with
 | true => x
 | false => none
def C9 (n : Nat) : DV → Bool
 | .agg cs => cs.length == n
 | _ => false
def A7 (j : Nat) : DV → DV
 | .agg cs => cs.getD j .undef
 | _ => .undef
def cells (n o : Nat) (d : DV) : List DV := (List.range n).map fun j => A7 (o + j) d
def M9 : DV → Bool
 | .agg _ | .I6 _ => false
 | _ => true
def I7 : DV → Bool
 | .int _ _ => true
 | .bool _ => true
 | .str _ => true
 | .list _ _ => true
 | .QK => true
 | .VI _ _ => true
 | _ => false
def A9p (sz : Nat) : DV → Option DV
 | .VI sz' d => if sz' = sz then some d else none
 | _ => none
def dLen : DV → Option DV
 | .list _ ds => some (.int .i64 ds.length)
 | _ => none
def A9n : DV → Option (Nat × List DV)
 | .list sz ds => some (sz, ds)
 | _ => none
def Dr : DV → Option DV
 | .str s => some (.int .i64 s.size)
 | _ => none
def E8 (sz : Nat) (d i : DV) : Option DV :=
 match d, i with
 | .list sz' ds, .int _ n => if sz' = sz ∧ 0 ≤ n then ds[n.toNat]? else none
 | _, _ => none
def Y4 (d i : DV) : Option DV :=
 match d, i with
 | .str s, .int _ n => if 0 ≤ n then (s.data[n.toNat]?).map fun b => .int .u8 b.toNat else none
 | _, _ => none
def lim : Nat := 2 ^ 32
def R8 (sz : Nat) (d e : DV) : Option DV :=
 match d, e with
 | .list a ds, .list b es => if (a = sz ∧ b = sz) ∧ ds.length + es.length ≤ lim then some (.list sz (ds ++ es)) else none
 | _, _ => none
def A9j (sz : Nat) (d e : DV) : Option (List DV × List DV) :=
 match d, e with
 | .list a ds, .list b es => if (a = sz ∧ b = sz) ∧ ds.length + es.length ≤ lim ∧ 0 < es.length then some (ds, es) else none
 | _, _ => none
def bnd (dflt : Nat) : Option DV → Option Nat
 | none => some dflt
 | some (.int _ n) => if 0 ≤ n then some n.toNat else none
 | _ => none
def Ca (sz : Nat) (d : DV) (lo hi : Option DV) : Option DV :=
 match d with
 | .list sz' ds => ob (bnd ds.length hi) fun h => ob (bnd 0 lo) fun l =>
   if sz' = sz ∧ l ≤ h ∧ h ≤ ds.length then some (.list sz ((ds.take h).drop l)) else none
 | _ => none
def kP (d : DV) (lo hi : Option DV) : Option DV :=
 match d with
 | .str s => ob (bnd s.size hi) fun h => ob (bnd 0 lo) fun l =>
   if l ≤ h ∧ h ≤ s.size then some (.str (s.extract l h)) else none
 | _ => none
def aD (sz : Nat) (d : DV) (lo : Option DV) (hi mx : DV) : Option DV :=
 match hi, mx with
 | .int _ h, .int _ m => if h = m then Ca sz d lo (some hi) else none
 | _, _ => none
inductive LK where
 | int | bool | str
def uz (k : LK) (x y : DV) : Option Bool :=
 match k, x, y with
 | .int, .int k a, .int k' b => if k = k' then some (a == b) else none
 | .bool, .bool a, .bool b => some (a == b)
 | .str, .str a, .str b => some (a.toList == b.toList)
 | _, _, _ => none
def Cw : List LK → List DV → List DV → Option Bool
 | [], [], [] => some true
 | k :: ks, x :: xs, y :: ys => ob (uz k x y) fun b => if b then Cw ks xs ys else some false
 | _, _, _ => none
def PP : List UInt8 → List UInt8 → Bool
 | _, [] => false
 | [], _ :: _ => true
 | a :: x, b :: y => a < b || (a == b && PP x y)
def Kl : BinOp → Bool
 | .shl => true
 | .shr => true
 | _ => false
def B0K (op : BinOp) (k : IntKind) (a b : Int) : Option DV :=
 if b < 0 then none else
 match op with
 | .shl => some (.int k (k.wrap (a * 2 ^ (min b.toNat k.bits))))
 | .shr => some (.int k (a.fdiv (2 ^ (min b.toNat k.bits))))
 | _ => none
def MN (op : BinOp) (k : IntKind) (a b : Int) : Option DV :=
 match op with
 | .add => some (.int k (k.wrap (a + b)))
 | .sub => some (.int k (k.wrap (a - b)))
 | .mul => some (.int k (k.wrap (a * b)))
 | .eql => some (.bool (a == b))
 | .neq => some (.bool (a != b))
 | .lss => some (.bool (a < b))
 | .leq => some (.bool (a ≤ b))
 | .gtr => some (.bool (a > b))
 | .geq => some (.bool (a ≥ b))
 | .quo => if b = 0 then none else some (.int k (k.wrap (a.tdiv b)))
 | .rem => if b = 0 then none else some (.int k (a.tmod b))
 | .and => some (.int k (k.wrap (BitVec.ofInt k.bits a &&& BitVec.ofInt k.bits b).toNat))
 | .or => some (.int k (k.wrap (BitVec.ofInt k.bits a ||| BitVec.ofInt k.bits b).toNat))
 | .xor => some (.int k (k.wrap (BitVec.ofInt k.bits a ^^^ BitVec.ofInt k.bits b).toNat))
 | _ => none
def kQ (op : BinOp) (a b : ByteArray) : Option DV :=
 match op with
 | .add => if a.size + b.size ≤ lim then some (.str (a ++ b)) else none
 | .eql => some (.bool (a.toList == b.toList))
 | .neq => some (.bool !(a.toList == b.toList))
 | .lss => some (.bool (PP a.toList b.toList))
 | .leq => some (.bool (PP a.toList b.toList || a.toList == b.toList))
 | .gtr => some (.bool !(PP a.toList b.toList || a.toList == b.toList))
 | .geq => some (.bool !PP a.toList b.toList)
 | _ => none
def A8 (op : BinOp) (x y : DV) : Option DV :=
 match x, y with
 | .int k a, .int k' b => match Kl op with
   | true => B0K op k a b
   | false => if k = k' then MN op k a b else none
 | .str a, .str b => kQ op a b
 | _, _ => none
def A6b (x y : DV) : Option Bool :=
 match x, y with
 | .bool a, .bool b => some (a == b)
 | _, _ => none
def jI (ks : List LK) (x y : DV) : Option Bool :=
 match x, y with
 | .agg xs, .agg ys => Cw ks xs ys
 | _, _ => none
def O9 (op : UnOp) (x : DV) : Option DV :=
 match op, x with
 | .not, .bool b => some (.bool !b)
 | .neg, .int k n => some (.int k (k.wrap (0 - n)))
 | _, _ => none
def A5O (c a b : DV) : Option DV :=
 match c with
 | .bool true => some a
 | .bool false => some b
 | _ => none
def A3V (x y : DV) : Option DV :=
 match x, y with
 | .int k a, .int k' b => if k = k' then some (.int k (if b > a then b else a)) else none
 | _, _ => none
def A1E (x y : DV) : Option DV :=
 match x, y with
 | .int k a, .int k' b => if k = k' then some (.int k (if b < a then b else a)) else none
 | _, _ => none
def A5N (k : IntKind) : DV → Option DV
 | .int _ n => some (.int k (k.wrap n))
 | _ => none
def O4 (i : Nat) : DV → Option DV
 | .I6 cs => cs[i]?
 | _ => none
def CJ (x y : DV) : Bool :=
 match x, y with
 | .int _ a, .int _ b => a == b
 | .str a, .str b => a.toList == b.toList
 | _, _ => false
def isKey (ks : Bool) : DV → Bool
 | .int k _ => !ks && k == .i64
 | .str _ => ks
 | _ => false
def Y7 (es : List (DV × DV)) (k : DV) : Option DV := (es.find? fun e => CJ k e.1).map (·.2)
def Cm : List (DV × DV) → DV → DV → List (DV × DV)
 | [], k, v => [(k, v)]
 | e :: es, k, v => if CJ k e.1 then (e.1, v) :: es else e :: Cm es k v
abbrev H6 (d : DV) : DV := .agg [A7 0 d, A7 1 d, A7 2 d]
abbrev Gb (d : DV) : DV := .agg [A7 0 d, A7 1 d, A7 2 d, A7 3 d, A7 4 d, A7 5 d, A7 6 d]
abbrev L8 (d : DV) : DV := .agg [A7 0 d, A7 1 d, A7 2 d, A7 3 d, A7 4 d, A7 5 d, A7 6 d, A7 7 d, A7 8 d, A7 9 d, A7 10 d, A7 11 d, A7 12 d, A7 13 d, A7 14 d, A7 15 d]
abbrev jC (d : DV) : DV := .agg [A7 0 d, A7 1 d, A7 2 d, A7 3 d, A7 4 d, A7 5 d, A7 6 d, A7 7 d, A7 8 d, A7 9 d, A7 10 d, A7 11 d, A7 12 d, A7 13 d, A7 14 d, A7 15 d, A7 16 d, A7 17 d, A7 18 d, A7 19 d]
abbrev iI (n : Int) : DV := .int .i64 n
end Go.Su

/-
 THE DATA MACHINE, part 2: the program's own code, run over plain data. Nothing is proved here.
-/
namespace Go.Su
noncomputable section
inductive MK where
 | val | own
 | ptr
 | T_ (n : Nat) (os : List Nat)
 deriving Inhabited
structure AB where
 params : List MK
 results : List MK
 lock : Bool := false
structure Flags where
 M0 : List Nat := []
 shared : List Nat := []
 hide : List Nat := []
 opn : List Nat := []
 B7f : List (Nat × Nat) := []
 refs : List (Nat × Nat) := []
 Yo : List Nat := []
 keep : List (Nat × List Nat × List Nat × List Nat × List Nat) := []
structure Cut where
 pre : List Code
 mid : St → Option St
 post : Code
structure aK where
 pre : List Code
 r : Code
 c : Operand
 a : Code
 id : Nat
 ops : List Oper
 Xl : Oper
 post : Code
def Bh : List Code → Code → Code
 | [], c => c
 | p :: ps, c => .seq p (Bh ps c)
structure X5 where
 P : Program
 fl : FuncId → Flags
 sig : FuncId → Option AB
 jg : FuncId → Option Cut
 clone : FuncId → Bool
 qH : FuncId → Nat
 iD : FuncId → Option FuncId := fun _ => none
 iter : FuncId → Option (List DV → Option (List DV)) := fun _ => none
 ref : TypeId → Bool := fun _ => false
 YW : FuncId → Option aK := fun _ => none
 dfn : FuncId → Bool := fun _ => false
structure N7 where
 p : FuncId → List DV → Option DV
 r : FuncId → List (DV × Meta) → List D7 → Option (List DV × List D7)
def A6K : TypeDesc → Bool
 | .struct _ => true
 | .array _ _ => true
 | _ => false
def tz (P : Program) (t : TypeId) : Option (Nat × Bool) :=
 ob (P.info? t) fun i => ob (P.underlying t) fun d => if A6K d || i.size == 1 then some (i.size, A6K d) else none
def NK (P : Program) (t : TypeId) : Option TypeId :=
 match P.underlying t with
 | some (.slice e) => some e
 | _ => none
def WR (P : Program) (t : TypeId) (f : Nat) : Option Field :=
 match P.underlying t with
 | some (.struct fs) => fs[f]?
 | _ => none
def B5b (P : Program) (t : TypeId) : Nat :=
 match NK P t with
 | some e => match tz P e with
   | some z => z.1
   | none => 0
 | none => 0
def cst (P : Program) (t : TypeId) : Value → Option (DV × Meta)
 | .int k n => some (.int k n, .val)
 | .bool b => some (.bool b, .val)
 | .string s => some (.str s, .val)
 | .slice none 0 0 => some (.list (B5b P t) [], .full)
 | .pointer none => some (.QK, .FT)
 | .map none => some (.undef, .QJ)
 | _ => none
def A4a (P : Program) : Nat → TypeId → Option (List TypeId)
 | 0, _ => none
 | n + 1, t =>
   match P.underlying t with
   | some (.struct fs) => fs.toList.foldr (fun f acc => ob (A4a P n f.type) fun l => ob acc fun r => some (l ++ r)) (some [])
   | some (.array _ _) => none
   | some _ => some [t]
   | none => none
def Xh (P : Program) : List TypeId → List Value → Option (List (DV × Meta))
 | [], [] => some []
 | t :: ts, v :: vs => ob (cst P t v) fun r => ob (Xh P ts vs) fun rs => some (r :: rs)
 | _, _ => none
def JY (P : Program) (t : TypeId) : Option (List (DV × Meta)) :=
 ob (A4a P 8 t) fun ts => ob (P.info? t) fun i => ob i.zero fun v => Xh P ts v.cells.toList
def Xk : Meta → Meta
 | .own => .val
 | m => m
def dm : Meta → Meta
 | .own => .val
 | .Bi ms => .Bi (ms.map Xk)
 | .Ad ms => .Ad (ms.map Xk)
 | m => m
def J3 : Meta → Bool
 | .val => true
 | .full => true
 | .own => true
 | .FT => true
 | .Ad ms => ms.all fun m => match m with
   | .val => true
   | .full => true
   | .own => true
   | .FT => true
   | _ => false
 | _ => false
def X0 : Meta → Bool
 | .val => true
 | .full => true
 | .own => true
 | .ptr _ _ => true
 | .FT => true
 | .map _ => true
 | .QJ => true
 | .arr _ _ _ _ => true
 | .fn _ _ => true
 | _ => false
def St.get (st : St) (t : Nat) : DV × Meta := (st.tm.getD t .undef, st.mt.getD t .val)
def St.put (st : St) (dst : Option Nat) (d : DV) (m : Meta) : St :=
 match dst with
 | none => st
 | some t => { st with tm := st.tm.set t d, mt := st.mt.set t m }
def St.release (st : St) : Operand → St
 | .tmp t => { st with mt := st.mt.set t (dm (st.mt.getD t .val)) }
 | _ => st
def St.pG (st : St) (x : Operand) (m : Meta) : St :=
 match x with
 | .tmp t => { st with mt := st.mt.set t m }
 | _ => st
def JI (s : Nat) : Meta → Meta
 | .loc s' o => if s' = s then .val else .loc s' o
 | m => m
def St.EL (st : St) (shared : Bool) (dst : Option Nat) (cs : List (DV × Meta)) : St :=
 match dst with
 | none => st
 | some t =>
   if shared then { st with sg := st.sg ++ [D7.box cs] }.put dst .undef (.ptr st.sg.length 0)
   else { st with mt := st.mt.map (JI t), bx := st.bx.set t (some cs) }.put dst .undef (.loc t 0)
def Jp (t : Nat) (mt : List Meta) : Bool :=
 mt.all fun m => match m with
  | .loc s _ => s != t
  | _ => true
def PO (shared : Bool) (dst : Option Nat) (st : St) : Bool :=
 match dst with
 | none => true
 | some t => shared || Jp t st.mt
def XW {α : Type} (ts : List Nat) (d : α) : Nat → List α → List α
 | _, [] => []
 | i, x :: xs => (if ts.contains i then x else d) :: XW ts d (i + 1) xs
def NV : Meta → Meta
 | .full => .own
 | m => m
def dY {α : Type} (f : α → α) (ts : List Nat) : Nat → List α → List α
 | _, [] => []
 | i, x :: xs => (if ts.contains i then f x else x) :: dY f ts (i + 1) xs
def Wn : Option (List (DV × Meta)) → Option (List (DV × Meta))
 | some cs => some (cs.map fun c => (c.1, NV c.2))
 | none => none
def Xa (m : Meta) : Meta := if J3 m then .val else m
def pI : Option (List (DV × Meta)) → Option (List (DV × Meta))
 | some cs => some (cs.map fun c => (c.1, Xa c.2))
 | none => none
def St.keep (st : St) (ts bs os vs : List Nat) : St :=
 { st with tm := XW ts .undef 0 st.tm, mt := dY Xa vs 0 (dY NV os 0 (XW ts .val 0 st.mt)), bx := dY pI vs 0 (dY Wn os 0 (XW bs none 0 st.bx)) }
def src (P : Program) (t : TypeId) (st : St) : Operand → Option (DV × Meta)
 | .tmp x => some (st.get x)
 | .const v => cst P t v
 | .func f => some (.undef, .fn f [])
 | .global _ => none
def Hq (P : Program) (st : St) : List TypeId → List Operand → Option (List (DV × Meta))
 | t :: ts, x :: xs => ob (src P t st x) fun r => ob (Hq P st ts xs) fun rs => some (r :: rs)
 | [], x :: xs => ob (src P 0 st x) fun r => ob (Hq P st [] xs) fun rs => some (r :: rs)
 | _, [] => some []
def pO : List DV → List Meta → List (DV × Meta)
 | d :: ds, m :: ms => (d, m) :: pO ds ms
 | _, _ => []
def kN (n : Nat) (r : DV × Meta) : Option (List (DV × Meta)) :=
 match r.2 with
 | .val => some ((cells n 0 r.1).map fun d => (d, .val))
 | .Ad ms => if ms.length = n then some (pO (cells n 0 r.1) ms) else none
 | _ => none
def cellOf {X : Type} (r : DV × Meta) (k : DV × Meta → Option X) : Option X :=
 match r.2 with
 | .val => og (I7 r.1) (k (r.1, .val))
 | .full => k (r.1, .full)
 | .own => k (r.1, .own)
 | .FT => k (.QK, .FT)
 | m => og (X0 m) (k (.undef, m))
def explode {X : Type} (P : Program) (t : TypeId) (r : DV × Meta) (k : List (DV × Meta) → Option X) : Option X :=
 ob (tz P t) fun z =>
  if z.2 then og (C9 z.1 r.1) (ob (kN z.1 r) fun cs => k (cs.map fun c => (c.1, dm c.2)))
  else cellOf r fun c => k [(c.1, dm c.2)]
def HV {X : Type} (P : Program) (t : TypeId) (r : DV × Meta) (k : List (DV × Meta) → Option X) : Option X :=
 ob (tz P t) fun z =>
  if z.2 then og (C9 z.1 r.1) (ob (kN z.1 r) k)
  else cellOf r fun c => k [(c.1, dm c.2)]
def putAt {α : Type} (l : List α) (o : Nat) (cs : List α) : List α := l.take o ++ cs ++ l.drop (o + cs.length)
def places (P : Program) (t : TypeId) : Option (List (Nat × Nat)) :=
 match P.underlying t with
 | some (.struct fs) => fs.toList.mapM fun f => (P.info? f.type).map fun i => (f.offset, i.size)
 | _ => none
def GU {X : Type} (P : Program) (t : TypeId) (st : St) : List (Nat × Operand) → List (DV × Meta) → (List (DV × Meta) → Option X) → Option X
 | [], cs, k => k cs
 | (i, x) :: rest, cs, k =>
   ob (WR P t i) fun f => ob (src P f.type st x) fun r => explode P f.type r fun xs =>
    if f.offset + xs.length ≤ cs.length then GU P t st rest (putAt cs f.offset xs) k else none
def fO (cs : List (DV × Meta)) : DV × Meta := (.agg (cs.map (·.1)), .Ad (cs.map fun c => dm c.2))
def Mg {X : Type} (z : Nat × Bool) (r : DV × Meta) (k : DV → Option X) : Option X :=
 og (J3 r.2) (if z.2 then og (C9 z.1 r.1) (k r.1) else og (I7 r.1) (k r.1))
def ji (P : Program) (t : TypeId) (st : St) (x : Operand) : Option (DV × Meta) :=
 match x with
 | .const (.agg vs) => ob (A4a P 8 t) fun ts => ob (Xh P ts vs.toList) fun rs => og (rs.all fun c => J3 c.2) (some (.agg (rs.map (·.1)), .val))
 | x => src P t st x
def Ga {X : Type} (P : Program) (e : TypeId) (z : Nat × Bool) (st : St) : List (Nat × Operand) → List DV → (List DV → Option X) → Option X
 | [], ds, k => k ds
 | (i, x) :: rest, ds, k => ob (ji P e st x) fun r => Mg z r fun d => if i < ds.length then Ga P e z st rest (ds.set i d) k else none
def pK (z : Nat × Bool) (cs : List (DV × Meta)) : Option DV :=
 if z.2 then some (.agg (cs.map (·.1)))
 else match cs with
  | [c] => some c.1
  | _ => none
def M7 (sg : List D7) (i : Nat) : Option (List (DV × Meta)) :=
 match sg[i]? with
 | some (.box cs) => some cs
 | _ => none
def VO (sg : List D7) (i : Nat) : Option (Nat × List DV) :=
 match sg[i]? with
 | some (.arr sz ds) => some (sz, ds)
 | _ => none
def Zz (sg : List D7) (i : Nat) : Option (Nat × List DV × List DV) :=
 match sg[i]? with
 | some (.opn sz pre ds) => some (sz, pre, ds)
 | _ => none
def A4c (q : Nat × List DV × List DV) (idx : Nat) (e : DV) : Option D7 :=
 if q.2.1.length ≤ idx ∧ idx - q.2.1.length < q.2.2.length then some (.opn q.1 q.2.1 (q.2.2.set (idx - q.2.1.length) e)) else none
def nT (q : Nat × List DV × List DV) (sz len : Nat) : Option DV :=
 if q.1 = sz ∧ q.2.1.length + q.2.2.length = len ∧ 0 < len then some (.list sz (q.2.1 ++ q.2.2)) else none
def p9 (sg : List D7) (i : Nat) : Option (Bool × List (DV × DV)) :=
 match sg[i]? with
 | some (.map ks es) => some (ks, es)
 | _ => none
def U4 (cs : List (DV × Meta)) (o : Nat) : Option DV :=
 match cs[o]? with
 | some (d, .val) => some d
 | some (d, .full) => some d
 | some (d, .own) => some d
 | some (d, .FT) => some d
 | _ => none
def Vu (cs : List (DV × Meta)) (o : Nat) : Option DV :=
 match cs[o]? with
 | some (d, .full) => some d
 | some (d, .own) => some d
 | _ => none
def A8E (cs : List (DV × Meta)) (o : Nat) : Option (Nat × Nat × Nat) :=
 match cs[o]? with
 | some (_, .arr i sz 0 len) => some (i, sz, len)
 | _ => none
def KN (cs : List (DV × Meta)) (o : Nat) : Option Nat :=
 match cs[o]? with
 | some (_, .map i) => some i
 | _ => none
def A3T (cs : List (DV × Meta)) (o : Nat) : Option Nat :=
 match cs[o]? with
 | some (_, .ptr i 0) => some i
 | _ => none
def yM : Nat → Nat → List (DV × Meta) → Option (List DV)
 | _, 0, _ => some []
 | o, n + 1, cs => ob (U4 cs o) fun d => ob (yM (o + 1) n cs) fun ds => some (d :: ds)
inductive B1R where
 | dat | map | ptr
def B15 (C : X5) (t : TypeId) : B1R :=
 match C.P.underlying t with
 | some (.map _ _) => .map
 | some (.pointer _) => if C.ref t then .dat else .ptr
 | _ => .dat
def A11 (P : Program) (t : TypeId) : Option DV :=
 ob (P.info? t) fun i => ob i.zero fun v => ob (cst P t v) fun r => og (J3 r.2) (some r.1)
def mapKeys (P : Program) (t : TypeId) : Option (Bool × TypeId) :=
 match P.underlying t with
 | some (.map kt et) =>
   match P.underlying kt with
   | some (.int .i64) => some (false, et)
   | some .string => some (true, et)
   | _ => none
 | _ => none
section
variable {X : Type} (C : X5) (R : N7)
def K8 (l : List Nat) : Option Nat → Bool
 | some t => l.contains t
 | none => false
def Wh (c : DV × Meta) : DV × Meta :=
 match c.2 with
 | .arr _ _ _ _ => (.undef, .val)
 | _ => c
def EB (fl : Flags) (o : Oper) (t : TypeId) (x : Operand) (st : St) (k : St → Option X) : Option X :=
 ob (src C.P 0 st x) fun r => ob (tz C.P t) fun z =>
  match r.2 with
  | .loc s off => ob (st.bx.getD s none) fun cs =>
    if off + z.1 ≤ cs.length then
     if z.2 then
      let seg := (cs.drop off).take z.1
      if K8 fl.M0 o.dst then
       k ({ st with bx := st.bx.set s (some (putAt cs off (seg.map fun c : DV × Meta => (c.1, dm c.2)))) }.put o.dst (.agg (seg.map fun c : DV × Meta => c.1)) (.Ad (seg.map fun c : DV × Meta => c.2)))
      else
       let a := fO (if K8 fl.hide o.dst then seg.map Wh else seg)
       k (st.put o.dst a.1 a.2)
     else
      let c := cs.getD off (.undef, .val)
      if K8 fl.M0 o.dst then k ({ st with bx := st.bx.set s (some (cs.set off (c.1, dm c.2))) }.put o.dst c.1 c.2)
      else k (st.put o.dst c.1 (dm c.2))
    else none
  | .OT ag sz off =>
    if off + z.1 ≤ sz then
     if z.2 then og ag (k (st.put o.dst (.agg (cells z.1 off r.1)) .val))
     else k (st.put o.dst (if ag then A7 off r.1 else r.1) .val)
    else none
  | .ptr i off => ob (M7 st.sg i) fun cs =>
    if z.2 then og (z.1 != 0) (ob (yM off z.1 cs) fun ds => k (st.put o.dst (.agg ds) .val))
    else match B15 C t with
     | .map => ob (KN cs off) fun j => k (st.put o.dst .undef (.map j))
     | .ptr => ob (A3T cs off) fun j => k (st.put o.dst .undef (.ptr j 0))
     | .dat =>
       if K8 fl.M0 o.dst then
        ob (Vu cs off) fun d => k ({ st with sg := st.sg.set i (.box (cs.set off (d, .val))) }.put o.dst d .own)
       else ob (U4 cs off) fun d => k (st.put o.dst d .val)
  | .Yw i sz idx off => ob (VO st.sg i) fun a => ob a.2[idx]? fun d =>
    og (a.1 == sz)
     (if off + z.1 ≤ sz then
       if z.2 then k (st.put o.dst (.agg (cells z.1 off d)) .val)
       else if sz = 1 then og (M9 d) (k (st.put o.dst d .val)) else k (st.put o.dst (A7 off d) .val)
     else none)
  | _ => none
def Eh (o : Oper) (t : TypeId) (x y : Operand) (st : St) (k : St → Option X) : Option X :=
 ob (src C.P 0 st x) fun r => ob (src C.P t st y) fun v => ob (tz C.P t) fun z =>
  match r.2 with
  | .loc s off => ob (st.bx.getD s none) fun cs =>
    if z.2 then HV C.P t v fun xs =>
     if off + xs.length ≤ cs.length then k (({ st with bx := st.bx.set s (some (putAt cs off xs)) }.release y).put o.dst (.I6 []) .val) else none
    else cellOf v fun c =>
     if off < cs.length then k (({ st with bx := st.bx.set s (some (cs.set off c)) }.release y).put o.dst (.I6 []) .val) else none
  | .ptr i off => ob (M7 st.sg i) fun cs =>
    if z.2 then explode C.P t v fun xs =>
     if off + xs.length ≤ cs.length then k ({ st with sg := st.sg.set i (.box (putAt cs off xs)) }.put o.dst (.I6 []) .val) else none
    else cellOf v fun c =>
     ob cs[off]? fun _ => k (({ st with sg := st.sg.set i (.box (cs.set off c)) }.release y).put o.dst (.I6 []) .val)
  | .Yw i sz idx off => ob (VO st.sg i) fun a => ob a.2[idx]? fun _ => Mg z v fun e =>
    og (a.1 == sz)
     (if z.1 = sz ∧ off = 0 then k ({ st with sg := st.sg.set i (.arr sz (a.2.set idx e)) }.put o.dst (.I6 []) .val)
     else none)
  | .opt i sz idx => ob (Zz st.sg i) fun q => Mg z v fun e => og (q.1 == sz && z.1 == sz)
     (ob (A4c q idx e) fun x => k ({ st with sg := st.sg.set i x }.put o.dst (.I6 []) .val))
  | _ => none
def A3v (r : DV × Meta) : Option Bool :=
 match r.2 with
 | .FT => some true
 | .ptr _ _ => some false
 | .val => match r.1 with
   | .QK => some true
   | .VI _ _ => some false
   | _ => none
 | _ => none
def A9r (r s : DV × Meta) : Option Bool :=
 match A3v r, A3v s with
 | some true, some b => some b
 | some false, some true => some false
 | _, _ => none
def A3j (m n : Meta) : Option Bool :=
 match m, n with
 | .QJ, .QJ => some true
 | .QJ, .map _ => some false
 | .map _, .QJ => some false
 | _, _ => none
inductive A8B where
 | num | bool | flat (ks : List LK) | ptr | map | ref
def iC (P : Program) (t : TypeId) : Option LK :=
 match P.underlying t with
 | some .bool => some .bool
 | some (.int _) => some .int
 | some .string => some .str
 | _ => none
def TA (P : Program) : Nat → List Field → Option (List LK)
 | _, [] => some []
 | i, f :: fs => if f.name != "_" && f.offset == i then ob (iC P f.type) fun k => ob (TA P (i + 1) fs) fun ks => some (k :: ks) else none
def kJ (P : Program) (t : TypeId) : A8B :=
 match P.underlying t with
 | some (.int _) => .num
 | some .string => .num
 | some .bool => .bool
 | some (.pointer _) => .ptr
 | some (.map _ _) => .map
 | some (.struct fs) =>
   match TA P 0 fs.toList, P.stoodInHeld t, P.eqGuardType P.depth t with
   | some ks, false, false => .flat ks
   | _, _, _ => .ref
 | _ => .ref
def nV (op : BinOp) (b : Bool) : Option DV :=
 match op with
 | .eql => some (.bool b)
 | .neq => some (.bool !b)
 | _ => none
def Za (o : Oper) (op : BinOp) (t : TypeId) (x y : Operand) (st : St) (k : St → Option X) : Option X :=
 ob (src C.P t st x) fun r => ob (src C.P t st y) fun s =>
  match kJ C.P t with
  | .num => og (J3 r.2 && J3 s.2) (ob (A8 op r.1 s.1) fun d => k (st.put o.dst d .val))
  | .bool => og (J3 r.2 && J3 s.2) (ob (A6b r.1 s.1) fun b => ob (nV op b) fun d => k (st.put o.dst d .val))
  | .flat ks => og (J3 r.2 && J3 s.2) (ob (jI ks r.1 s.1) fun b => ob (nV op b) fun d => k (st.put o.dst d .val))
  | .ptr => ob (A9r r s) fun b => ob (nV op b) fun d => k (st.put o.dst d .val)
  | .map => ob (A3j r.2 s.2) fun b => ob (nV op b) fun d => k (st.put o.dst d .val)
  | .ref => none
def Qg (o : Oper) (t : TypeId) (x : Operand) (f : Nat) (st : St) (k : St → Option X) : Option X :=
 ob (src C.P 0 st x) fun r => ob (WR C.P t f) fun fd => ob (tz C.P fd.type) fun z =>
  if z.1 = 0 then none
  else match r.2 with
   | .loc s off => k (st.put o.dst .undef (.loc s (off + fd.offset)))
   | .OT ag sz off => k (st.put o.dst r.1 (.OT ag sz (off + fd.offset)))
   | .ptr i off => k (st.put o.dst .undef (.ptr i (off + fd.offset)))
   | .Yw i sz idx off => k (st.put o.dst .undef (.Yw i sz idx (off + fd.offset)))
   | _ => none
def A54 (off len : Nat) : DV → Option Nat
 | .int _ n => if 0 ≤ n ∧ n < len then some (off + n.toNat) else none
 | _ => none
def JM (fl : Flags) (o : Oper) (t : TypeId) (x i : Operand) (st : St) (k : St → Option X) : Option X :=
 ob (src C.P t st x) fun r => ob (src C.P 0 st i) fun j => ob (NK C.P t) fun e => ob (tz C.P e) fun z =>
  match r.2 with
  | .arr a sz off len => og (sz == z.1 && J3 j.2) (ob (A54 off len j.1) fun n => k (st.put o.dst .undef (if K8 fl.opn o.dst then .opt a sz n else .Yw a sz n 0)))
  | m => og (J3 m && J3 j.2) (ob (E8 z.1 r.1 j.1) fun d =>
    if z.2 then k (st.put o.dst d (.OT true z.1 0)) else og (M9 d) (k (st.put o.dst d (.OT false z.1 0))))
def YD (P : Program) (st : St) : Option Operand → Option (Option DV)
 | none => some none
 | some x => ob (src P 0 st x) fun r => og (J3 r.2) (some (some r.1))
def A5M : Meta → Option (Nat × Nat × Nat × Nat)
 | .arr i sz off len => some (i, sz, off, len)
 | _ => none
def Sw (o : Oper) (t : TypeId) (x : Operand) (lo hi mx : Option Operand) (st : St) (k : St → Option X) : Option X :=
 ob (src C.P t st x) fun r => ob (YD C.P st lo) fun l => ob (YD C.P st hi) fun h => ob (YD C.P st mx) fun m =>
  match A5M r.2 with
  | some q => ob (NK C.P t) fun e => ob (tz C.P e) fun z => og (m.isNone && q.2.1 == z.1) (ob (bnd q.2.2.2 h) fun hh => ob (bnd 0 l) fun ll =>
    if ll ≤ hh ∧ hh ≤ q.2.2.2 then k (st.put o.dst .undef (.arr q.1 q.2.1 (q.2.2.1 + ll) (hh - ll))) else none)
  | none => og (J3 r.2)
    (match C.P.underlying t with
      | some (.slice e) => ob (tz C.P e) fun z =>
        match m, h with
        | none, _ => ob (Ca z.1 r.1 l h) fun d => k (st.put o.dst d .val)
        | some m, some h => ob (aD z.1 r.1 l h m) fun d => k (st.put o.dst d .full)
        | _, _ => none
      | some .string =>
        match m with
        | none => ob (kP r.1 l h) fun d => k (st.put o.dst d .val)
        | some _ => none
      | _ => none)
def B1f (sg : List D7) : Meta → Option Nat
 | .map i => ob (p9 sg i) fun p => some p.2.length
 | .QJ => some 0
 | _ => none
def XP (o : Oper) (x : Operand) (t : TypeId) (st : St) (k : St → Option X) : Option X :=
 ob (src C.P t st x) fun r =>
  match C.P.underlying t with
  | some (.slice _) =>
    match r.2 with
    | .arr _ _ _ len => k (st.put o.dst (.int .i64 len) .val)
    | m => og (J3 m) (ob (dLen r.1) fun d => k (st.put o.dst d .val))
  | some .string => og (J3 r.2) (ob (Dr r.1) fun d => k (st.put o.dst d .val))
  | some (.map _ _) => ob (B1f st.sg r.2) fun n => k (st.put o.dst (.int .i64 n) .val)
  | _ => none
def Kk : Meta → Bool
 | .full => true
 | .own => true
 | _ => false
def A9c (P : Program) (t u : TypeId) : Option Nat :=
 ob (NK P t) fun e => ob (NK P u) fun _ => ob (tz P e) fun z => ob (P.info? e) fun i => ob (JY P e) fun zs =>
  if z.1 ≠ 0 ∧ i.bytes ≤ 2 ^ 14 ∧ zs.length = z.1 then some z.1 else none
def JK (fl : Flags) (o : Oper) (x y : Operand) (t u : TypeId) (st : St) (k : St → Option X) : Option X :=
 ob (src C.P t st x) fun r => ob (src C.P u st y) fun s =>
  ob (A9c C.P t u) fun sz => og (Kk r.2 && J3 s.2 && o.dst.isSome)
   (if K8 fl.opn o.dst then ob (A9j sz r.1 s.1) fun p => k ({ st.release x with sg := st.sg ++ [D7.opn sz p.1 p.2] }.put o.dst .undef (.arr st.sg.length sz 0 (p.1.length + p.2.length)))
   else ob (R8 sz r.1 s.1) fun d => k ((st.release x).put o.dst d .own))
def WQ (o : Oper) (x : Operand) (t : TypeId) (st : St) (k : St → Option X) : Option X :=
 ob (src C.P t st x) fun r => ob (A5M r.2) fun q => ob (VO st.sg q.1) fun a => ob (NK C.P t) fun e => ob (tz C.P e) fun z => ob (JY C.P e) fun zs =>
  og (a.1 == q.2.1 && q.2.1 == z.1 && zs.length == z.1 && decide (q.2.2.1 + q.2.2.2 ≤ a.2.length))
   (k ({ st with sg := st.sg.set q.1 (.arr q.2.1 (a.2.take q.2.2.1)) }.put o.dst (.I6 []) .val))
def Qa (m : Meta) : Meta := if J3 m then .val else dm m
def iJ (os : List Nat) : Nat → List Meta → List Meta
 | _, [] => []
 | i, m :: ms => (if os.contains i then NV m else Qa m) :: iJ os (i + 1) ms
def YE (m : Meta) (k : MK) : Meta :=
 match k, m with
 | .own, .full => .own
 | .own, m => m
 | .T_ _ os, .Ad ms => .Ad (iJ os 0 ms)
 | _, m => Qa m
def Gq : List MK → List (DV × Meta) → List (DV × Meta)
 | k :: ks, r :: rs => (r.1, YE r.2 k) :: Gq ks rs
 | [], rs => rs.map fun r => (r.1, Qa r.2)
 | _, [] => []
def B3y : Meta → Bool
 | .loc _ _ => false
 | .OT _ _ _ => false
 | .Bi _ => false
 | .Ad ms => ms.all X0
 | _ => true
def Cy : MK → Bool
 | .own => true
 | .T_ _ _ => true
 | _ => false
def Ep : Nat → List MK → List Operand → Option (Nat × Operand)
 | i, k :: ks, x :: xs => if Cy k then some (i, x) else Ep (i + 1) ks xs
 | _, _, _ => none
def St.Gn (st : St) : Option (Nat × Operand) → St
 | some p => st.release p.2
 | none => st
def Kr (k : MK) (d : DV) : DV × Meta :=
 match k with
 | .val => (d, .val)
 | .own => (d, .own)
 | .ptr => match d with
   | .int _ i => (.undef, .ptr i.toNat 0)
   | .QK => (.QK, .FT)
   | _ => (.undef, .val)
 | .T_ n os => (d, .Ad ((List.range n).map fun i => if os.contains i then .own else .val))
def A5W (ks : List MK) : Bool := ks.length == 1 || ks.all fun k => match k with
 | .val => true
 | .own => true
 | _ => false
def Mi (ks : List MK) (ds : List DV) : DV × Meta :=
 match ks with
 | [k] => Kr k (ds.getD 0 .undef)
 | _ => (.I6 ds, .Bi (ks.map fun k => (Kr k .undef).2))
def B18 : DV → Option Nat
 | .int _ n => some n.toNat
 | _ => none
def dn {X : Type} (ks : List MK) (ds : List DV) (k : DV × Meta → Option X) : Option X :=
 match ks with
 | [.ptr] => ob (B18 (ds.getD 0 .undef)) fun i => k (.undef, .ptr i 0)
 | ks => k (Mi ks ds)
theorem A1u {X : Type} {ks : List MK} {ds : List DV} {k : DV × Meta → Option X} {x : X} (h : dn ks ds k = some x) : k (Mi ks ds) = some x ∧ ∀ (Y : Type) (k' : DV × Meta → Option Y), dn ks ds k' = k' (Mi ks ds) := by
 unfold dn at h
 split at h
 ·cases hd : B18 (ds.getD 0 .undef) with
  | none => rw [hd] at h; cases h
  | some i =>
    have e : Mi [.ptr] ds = (.undef, .ptr i 0) := by
     unfold B18 at hd
     split at hd <;> simp only [Option.some.injEq, reduceCtorEq] at hd
     rename_i kk n hx;simp only [Mi, Kr];rw [hx, ← hd]
    rw [hd] at h;rw [e];exact ⟨h, fun Y k' => by simp only [dn, hd, ob]⟩
 ·rename_i hne
  refine ⟨h, fun Y k' => ?_⟩
  unfold dn
  split
  ·exact absurd rfl hne
  ·rfl
def B1V : DV → Option (List DV)
 | .agg cs => some cs
 | _ => none
def Il (o : Oper) (f : FuncId) (xs : List Operand) (rs : List (DV × Meta)) (st : St) (k : St → Option X) : Option X :=
 if C.clone f then
  match rs with
  | [r] => ob (A9n r.1) fun p => og (J3 r.2 && p.1 == C.qH f && decide (p.2.length ≤ lim)) (k ({ st with sg := st.sg ++ [D7.arr (C.qH f) p.2] }.put o.dst .undef (.arr st.sg.length (C.qH f) 0 p.2.length)))
  | _ => none
 else match C.iD f with
 | some g =>
   match rs with
   | [r] => ob (B1V r.1) fun cs => og (J3 r.2 && cs.length == C.qH f) (k ({ st with sg := st.sg ++ [D7.box (cs.map fun d => (d, .val))] }.put o.dst .undef (.fn g [(st.sg.length, 0)])))
   | _ => none
 | none => match C.sig f with
   | none => og (rs.all fun r => J3 r.2) (ob (R.p f (rs.map (·.1))) fun d => k (st.put o.dst d .val))
   | some s => og ((rs.all fun r => B3y r.2) && decide ((s.params.filter Cy).length ≤ 1) && A5W s.results)
     (ob (R.r f (Gq s.params rs) st.sg) fun q =>
       dn s.results q.1 fun r => k (({ st with sg := q.2 }.Gn (Ep 0 s.params xs)).put o.dst r.1 r.2))
def Ec (fl : Flags) (o : Oper) (c : Call) (st : St) (k : St → Option X) : Option X :=
 match c.callee with
 | .builtin b =>
   match b, c.args.toList, c.argTypes.toList with
   | .len, [x], [t] => XP C o x t st k
   | .append, [x, y], [t, u] => JK C fl o x y t u st k
   | .clear, [x], [t] => WQ C o x t st k
   | .max, [x, y], [t, u] => ob (src C.P t st x) fun r => ob (src C.P u st y) fun s => og (J3 r.2 && J3 s.2) (ob (A3V r.1 s.1) fun d => k (st.put o.dst d .val))
   | .min, [x, y], [t, u] => ob (src C.P t st x) fun r => ob (src C.P u st y) fun s => og (J3 r.2 && J3 s.2) (ob (A1E r.1 s.1) fun d => k (st.put o.dst d .val))
   | _, _, _ => none
 | .value fv => ob (src C.P 0 st fv) fun r => ob (Hq C.P st c.argTypes.toList c.args.toList) fun rs =>
   match r.2 with
   | .fn f caps => Il C R o f c.args.toList (rs ++ caps.map fun m => (.undef, .ptr m.1 m.2)) st k
   | _ => none
 | .invoke _ _ => none
def Vt : List (DV × Meta) → Option (List (Nat × Nat))
 | [] => some []
 | (_, .ptr i o) :: rs => ob (Vt rs) fun ms => some ((i, o) :: ms)
 | _ => none
def I4 (fl : Flags) (o : Oper) (st : St) (k : St → Option X) : Option X :=
 match o.op with
 | .move x => ob (src C.P o.type st x) fun r =>
   if K8 fl.M0 o.dst then k ((st.release x).put o.dst r.1 r.2) else k (st.put o.dst r.1 (dm r.2))
 | .assign x => ob (src C.P o.type st x) fun r =>
   if K8 fl.M0 o.dst then k ((st.release x).put o.dst r.1 r.2) else k (st.put o.dst r.1 (dm r.2))
 | .pick c a b => ob (src C.P 0 st c) fun rc => ob (src C.P o.type st a) fun ra => ob (src C.P o.type st b) fun rb =>
   og (J3 rc.2 && J3 ra.2 && J3 rb.2) (ob (A5O rc.1 ra.1 rb.1) fun d => k (st.put o.dst d .val))
 | .alloc t => ob (JY C.P t) fun cs => og (PO (K8 fl.shared o.dst) o.dst st) (k (st.EL (K8 fl.shared o.dst) o.dst cs))
 | .box t x => ob (src C.P t st x) fun r =>
   if K8 fl.Yo o.dst then ob (tz C.P t) fun z => og (J3 r.2 && C9 z.1 r.1 && z.2) (k (st.put o.dst (.VI z.1 r.1) .val))
   else if K8 fl.M0 o.dst then HV C.P t r fun cs => og (PO false o.dst st) (k ((st.release x).EL false o.dst cs))
   else explode C.P t r fun cs => og (PO (K8 fl.shared o.dst) o.dst st) (k (st.EL (K8 fl.shared o.dst) o.dst cs))
 | .build t ps => ob (JY C.P t) fun zs => ob (places C.P t) fun _ => GU C.P t st ps.toList zs fun cs =>
   k (st.put o.dst (fO cs).1 (fO cs).2)
 | .buildSlice t n ps => ob (NK C.P t) fun e => ob (tz C.P e) fun z => ob (JY C.P e) fun zs => ob (pK z zs) fun ze =>
   if (n * z.1 ≤ 2 ^ 24 ∧ z.1 ≠ 0) ∧ zs.length = z.1 ∧ zs.all (fun c => J3 c.2) = true then Ga C.P e z st ps.toList (List.replicate n ze) fun ds => k (st.put o.dst (.list z.1 ds) .full)
   else none
 | .load t x => EB C fl o t x st k
 | .store t x y => Eh C o t x y st k
 | .nilCheck x => ob (src C.P 0 st x) fun r =>
   match r.2 with
   | .loc s o' => k (st.put o.dst .undef (.loc s o'))
   | .OT ag sz o' => k (st.put o.dst r.1 (.OT ag sz o'))
   | .ptr i o' => k (st.put o.dst .undef (.ptr i o'))
   | .Yw i sz j o' => k (st.put o.dst .undef (.Yw i sz j o'))
   | .opt i sz j => k (st.put o.dst .undef (.opt i sz j))
   | .fn f cs => k (st.put o.dst .undef (.fn f cs))
   | .val => ob (o.dst.bind fun t => fl.refs.find? (·.1 == t)) fun q => ob (A9p q.2 r.1) fun d => k (st.put o.dst d (.OT true q.2 0))
   | _ => none
 | .binOp op t x y _ => Za C o op t x y st k
 | .unOp op t x => ob (src C.P t st x) fun r => og (J3 r.2) (ob (O9 op r.1) fun d => k (st.put o.dst d .val))
 | .convert t u x => ob (src C.P t st x) fun r =>
   match C.P.underlying u with
   | some (.int kd) => og (J3 r.2 && (C.P.underlying t).isSome) (ob (A5N kd r.1) fun d => k (st.put o.dst d .val))
   | _ => none
 | .fieldAddr t x f => Qg C o t x f st k
 | .field t x f => ob (src C.P t st x) fun r => ob (WR C.P t f) fun fd => ob (tz C.P fd.type) fun z => ob (tz C.P t) fun zt =>
   og (J3 r.2 && C9 zt.1 r.1)
    (if fd.offset + z.1 ≤ zt.1 then
      if z.2 then k (st.put o.dst (.agg (cells z.1 fd.offset r.1)) .val) else k (st.put o.dst (A7 fd.offset r.1) .val)
    else none)
 | .indexAddr t x i => JM C fl o t x i st k
 | .index t x i => ob (src C.P t st x) fun r => ob (src C.P 0 st i) fun j =>
   match C.P.underlying t with
   | some .string => og (J3 r.2 && J3 j.2) (ob (Y4 r.1 j.1) fun d => k (st.put o.dst d .val))
   | _ => none
 | .slice t x lo hi mx => Sw C o t x lo hi mx st k
 | .makeFunc (.func f) first caps =>
   if first.isEmpty then ob (Hq C.P st [] caps.toList) fun rs => ob (Vt rs) fun ms => k (st.put o.dst .undef (.fn f ms))
   else none
 | .makeMap t none => ob (mapKeys C.P t) fun q => k ({ st with sg := st.sg ++ [D7.map q.1 []] }.put o.dst .undef (.map st.sg.length))
 | .lookup t x y ok => ob (src C.P t st x) fun r => ob (src C.P 0 st y) fun key => ob (mapKeys C.P t) fun q =>
   ob (A11 C.P q.2) fun ze =>
    og (isKey q.1 key.1 && J3 key.2)
     (match r.2 with
       | .map i => ob (p9 st.sg i) fun p => og (p.1 == q.1)
         (if ok then k (st.put o.dst (.I6 [(Y7 p.2 key.1).getD ze, .bool (Y7 p.2 key.1).isSome]) .val)
         else k (st.put o.dst ((Y7 p.2 key.1).getD ze) .val))
       | _ => none)
 | .mapUpdate t x y v => ob (src C.P t st x) fun r => ob (src C.P 0 st y) fun key => ob (src C.P 0 st v) fun val => ob (mapKeys C.P t) fun q =>
   og (isKey q.1 key.1 && J3 key.2 && J3 val.2)
    (match r.2 with
      | .map i => ob (p9 st.sg i) fun p => og (p.1 == q.1) (k ({ st with sg := st.sg.set i (.map q.1 (Cm p.2 key.1 val.1)) }.put o.dst (.I6 []) .val))
      | _ => none)
 | .extract x i => ob (src C.P 0 st x) fun r =>
   match r.2 with
   | .val => ob (O4 i r.1) fun d => k (st.put o.dst d .val)
   | .Bi ms => ob (O4 i r.1) fun d =>
     match ms.getD i .val with
     | .own => if K8 fl.M0 o.dst then k ((st.pG x (.Bi (ms.set i .val))).put o.dst d .own) else k (st.put o.dst d .val)
     | .val => k (st.put o.dst d .val)
     | _ => none
   | _ => none
 | .call c => Ec C R fl o c st k
 | _ => none
def xY {α X : Type} : List α → (List α → X) → X
 | [], k => k []
 | a :: l, k => xY l fun l' => k (a :: l')
def B0Z {X : Type} (m : Meta) (k : Meta → X) : X :=
 match m with
 | .val => k .val
 | .full => k .full
 | .own => k .own
 | .loc s o => k (.loc s o)
 | .OT ag sz o => k (.OT ag sz o)
 | .ptr i o => k (.ptr i o)
 | .FT => k .FT
 | .map i => k (.map i)
 | .QJ => k .QJ
 | .arr i sz off len => k (.arr i sz off len)
 | .Yw i sz idx o => k (.Yw i sz idx o)
 | .opt i sz idx => k (.opt i sz idx)
 | .fn f caps => k (.fn f caps)
 | .Bi ms => k (.Bi ms)
 | .Ad ms => k (.Ad ms)
def zI {X : Type} : List Meta → (List Meta → X) → X
 | [], k => k []
 | m :: l, k => B0Z m fun m' => zI l fun l' => k (m' :: l')
def zJ {X : Type} (st : St) (k : St → X) : X :=
 xY st.tm fun tm => zI st.mt fun mt => xY st.bx fun bx => k { tm := tm, mt := mt, bx := bx, sg := st.sg }
theorem A4S {α X : Type} : ∀ (l : List α) (k : List α → X), xY l k = k l
 | [], _ => rfl
 | a :: l, k => by simp only [xY, A4S l]
theorem A26 {X : Type} : ∀ (l : List Meta) (k : List Meta → X), zI l k = k l
 | [], _ => rfl
 | m :: l, k => by
   have h : ∀ (m : Meta) (k : Meta → X), B0Z m k = k m := fun m k => by cases m <;> rfl
   simp only [zI, A26 l, h]
theorem Zj {X : Type} (st : St) (k : St → X) : zJ st k = k st := by
 simp only [zJ, A4S, A26]
def JQ (ops : List Oper) (g : Nat) : Option Nat := ob ops[g]? fun o => o.dst
def St.know (st : St) (t : Nat) (d : DV) : St := { st with tm := st.tm.set t d }
def I5 {β : Type} (d : DV) (a b c : Option β) : Option β :=
 match d with
 | .bool true => a
 | .bool false => b
 | .I6 [] => c
 | _ => none
def CE (fl : Flags) (all : List Oper) : List Oper → St → (St → Option X) → Option X
 | [], st, k => k st
 | o :: os, st, k => zJ st fun st =>
   match o.guard with
   | none => I4 C R fl o st fun st => CE fl all os st k
   | some (g, want) => ob (JQ all g) fun t => og (J3 (st.get t).2) <|
     I5 (st.get t).1
      (if want then I4 C R fl o (st.know t (.bool true)) fun st => CE fl all os st k else CE fl all os ((st.know t (.bool true)).put o.dst (.I6 []) .val) k)
      (if want then CE fl all os ((st.know t (.bool false)).put o.dst (.I6 []) .val) k else I4 C R fl o (st.know t (.bool false)) fun st => CE fl all os st k)
      (CE fl all os ((st.know t (.I6 [])).put o.dst (.I6 []) .val) k)
structure Fp where
 rt : List Nat := []
 wt : List Nat := []
 rb : List Nat := []
 wb : List Nat := []
 wl : List Nat := []
 rs : Bool := false
 ws : Bool := false
 nb : Option Nat := none
 ex : Option (Nat × Nat × Nat) := none
 so : Option Bool := none
def B2k (x : Operand) (i : Nat) (d : Option Nat) : Option (Nat × Nat × Nat) :=
 match x, d with
 | .tmp t, some u => some (t, i, u)
 | _, _ => none
def J9 : Operand → List Nat
 | .tmp t => [t]
 | _ => []
def tmpsOf (xs : List Operand) : List Nat := xs.flatMap J9
def GY (mt : List Meta) (t : Nat) : List Nat :=
 match mt.getD t .val with
 | .loc s _ => [s]
 | _ => []
def iG (m : Meta) : Option Nat :=
 match m with
 | .ptr i _ => some i
 | .opt i _ _ => some i
 | _ => none
def iH (m : Meta) : Option Bool :=
 match m with
 | .ptr _ _ => some false
 | .opt _ _ _ => some true
 | _ => none
def EE (m : Meta) : List Nat × Bool :=
 match m with
 | .loc s _ => ([s], false)
 | .OT _ _ _ => ([], false)
 | _ => ([], true)
def Fp.Ae (f : Fp) (st st1 : St) : Fp := { f with wl := f.wt.flatMap (GY st.mt) ++ f.wt.flatMap (GY st1.mt) }
def Dv (mt : List Meta) : Operand → List Nat
 | .tmp t => match mt.getD t .val with
   | .arr _ _ _ _ => []
   | _ => [t]
 | _ => []
def ED (fl : Flags) (o : Oper) (st : St) : Fp :=
 let d := o.dst.toList
 let M0 := K8 fl.M0 o.dst
 match o.op with
 | .move x => { rt := J9 x, wt := d ++ (if M0 then J9 x else []) }
 | .assign x => { rt := J9 x, wt := d ++ (if M0 then J9 x else []) }
 | .pick c a b => { rt := tmpsOf [c, a, b], wt := d }
 | .alloc _ => if K8 fl.shared o.dst then { wt := d, rs := true, ws := true } else { wt := d, wb := d, nb := o.dst }
 | .box _ x => if K8 fl.Yo o.dst then { rt := J9 x, wt := d } else if K8 fl.M0 o.dst then { rt := J9 x, wt := d ++ J9 x, wb := d, nb := o.dst } else if K8 fl.shared o.dst then { rt := J9 x, wt := d, rs := true, ws := true } else { rt := J9 x, wt := d, wb := d, nb := o.dst }
 | .build _ ps => { rt := tmpsOf (ps.toList.map (·.2)), wt := d }
 | .buildSlice _ _ ps => { rt := tmpsOf (ps.toList.map (·.2)), wt := d }
 | .load _ x =>
   match src default 0 st x with
   | some r => { rt := J9 x, wt := d, rb := (EE r.2).1, wb := if M0 then (EE r.2).1 else [], rs := (EE r.2).2, ws := M0 && (EE r.2).2 }
   | none => {}
 | .store _ x y =>
   match src default 0 st x with
   | some r => { rt := tmpsOf [x, y], wt := d ++ Dv st.mt y, rb := (EE r.2).1, wb := (EE r.2).1, rs := (EE r.2).2, ws := (EE r.2).2, so := if o.dst.isNone then iH r.2 else none }
   | none => {}
 | .nilCheck x => { rt := J9 x, wt := d }
 | .binOp _ _ x y _ => { rt := tmpsOf [x, y], wt := d }
 | .unOp _ _ x => { rt := J9 x, wt := d }
 | .convert _ _ x => { rt := J9 x, wt := d }
 | .fieldAddr _ x _ => { rt := J9 x, wt := d }
 | .field _ x _ => { rt := J9 x, wt := d }
 | .indexAddr _ x i => { rt := tmpsOf [x, i], wt := d }
 | .index _ x i => { rt := tmpsOf [x, i], wt := d }
 | .slice _ x lo hi mx => { rt := tmpsOf (x :: (lo.toList ++ hi.toList ++ mx.toList)), wt := d }
 | .makeFunc _ _ caps => { rt := tmpsOf caps.toList, wt := d }
 | .lookup _ x y _ => { rt := tmpsOf [x, y], wt := d, rs := true }
 | .extract x i => { rt := J9 x, wt := d ++ (if M0 then J9 x else []), ex := B2k x i o.dst }
 | .call c =>
   match c.callee with
   | .builtin .len => { rt := tmpsOf c.args.toList, wt := d, rs := true }
   | .builtin .append => { rt := tmpsOf c.args.toList, wt := d ++ tmpsOf c.args.toList, rs := K8 fl.opn o.dst, ws := K8 fl.opn o.dst }
   | .builtin .clear => { rt := tmpsOf c.args.toList, wt := d, rs := true, ws := true }
   | .builtin _ => { rt := tmpsOf c.args.toList, wt := d }
   | .value x => { rt := tmpsOf (x :: c.args.toList), wt := d ++ tmpsOf c.args.toList, rs := true, ws := true }
   | .invoke _ _ => {}
 | op => { rt := tmpsOf op.operands.toList, wt := d ++ tmpsOf op.operands.toList, rs := true, ws := true }
def Xz (C : X5) (o : Oper) : Bool :=
 match o.op with
 | .call c => match c.callee with
   | .value (.func f) => !C.clone f && (C.iD f).isNone && (C.sig f).isNone
   | _ => false
 | _ => false
def B5h (C : X5) (fl : Flags) (o : Oper) (st st1 : St) : Fp :=
 (if Xz C o then { rt := tmpsOf o.op.operands.toList, wt := o.dst.toList } else ED fl o st).Ae st st1
def jJ (a b : List Nat) : Bool := a.all fun x => !b.contains x
def zQ (f g : Fp) : Bool :=
 match f.nb with
 | some t => !g.wl.contains t
 | none => true
def A9h (f g : Fp) : Bool :=
 jJ f.wt g.rt && jJ f.wt g.wt && jJ g.wt f.rt && jJ f.wb g.rb && jJ f.wb g.wb && jJ g.wb f.rb &&
  !(f.ws && (g.rs || g.ws)) && !(g.ws && (f.rs || f.ws)) && zQ f g && zQ g f
def B0T (f g : Fp) : Bool :=
 match f.ex, g.ex with
 | some (x, i, d), some (y, j, e) => x == y && i != j && d != e && d != x && e != x
 | _, _ => false
def A7n (f g : Fp) : Bool :=
 match f.so, g.so with
 | some i, some j => i != j && jJ f.wt g.rt && jJ f.wt g.wt && jJ g.wt f.rt
 | _, _ => false
def comm (f g : Fp) : Bool := A9h f g || B0T f g || A7n f g
def A6v {X : Type} (n : Nat) (k : Nat → X) : X :=
 match n with
 | 0 => k 0
 | n + 1 => k (n + 1)
def Mh {X : Type} : List Nat → (List Nat → X) → X
 | [], k => k []
 | a :: l, k => A6v a fun a' => Mh l fun l' => k (a' :: l')
def dH {X : Type} : List (List Nat) → (List (List Nat) → X) → X
 | [], k => k []
 | a :: l, k => Mh a fun a' => dH l fun l' => k (a' :: l')
theorem A4T {X : Type} (n : Nat) (k : Nat → X) : A6v n k = k n := by cases n <;> rfl
theorem Uz {X : Type} : ∀ (l : List Nat) (k : List Nat → X), Mh l k = k l
 | [], _ => rfl
 | a :: l, k => by simp only [Mh, A4T, Uz l]
theorem jV {X : Type} : ∀ (l : List (List Nat)) (k : List (List Nat) → X), dH l k = k l
 | [], _ => rfl
 | a :: l, k => by simp only [dH, Uz, jV l]
def uniq : List Nat → List Nat
 | [] => []
 | a :: l => if l.contains a then uniq l else a :: uniq l
theorem A1S {x : Nat} : ∀ {l : List Nat}, x ∈ uniq l ↔ x ∈ l
 | [] => by simp [uniq]
 | a :: l => by
   simp only [uniq]
   split
   ·rename_i h
    rw [A1S (l := l), z39q];constructor
    ·exact .inr
    ·rintro (rfl | h')
     ·simpa using h
     ·exact h'
   ·rw [z39q, z39q, A1S (l := l)]
def KL : List Oper → List (List Nat) → List (List Nat)
 | [], acc => acc
 | o :: os, acc => Mh (uniq ((o.after.toList.filter (Region.binds .any)).flatMap fun e => e.on :: acc.getD e.on [])) fun l => KL os (acc ++ [l])
def Sl : Nat → List Oper → Bool
 | _, [] => true
 | i, o :: os => (o.after.toList.filter (Region.binds .any)).all (fun e => decide (e.on < i)) && Sl (i + 1) os
def IQ (bf : List (List Nat)) (i : Nat) (acc : List (Nat × Fp)) (f : Fp) : Bool :=
 acc.all fun p => (bf.getD i []).contains p.1 || comm p.2 f
def A24 {X : Type} (b : Bool) (k : Bool → X) : X :=
 match b with
 | true => k true
 | false => k false
def A6w {X : Type} (o : Option Nat) (k : Option Nat → X) : X :=
 match o with
 | none => k none
 | some n => A6v n fun n => k (some n)
def A33 {X : Type} (o : Option Bool) (k : Option Bool → X) : X :=
 match o with
 | none => k none
 | some b => A24 b fun b => k (some b)
def TB {X : Type} (f : Fp) (k : Fp → X) : X :=
 Mh f.rt fun rt => Mh f.wt fun wt => Mh f.rb fun rb => Mh f.wb fun wb => Mh f.wl fun wl =>
  A24 f.rs fun rs => A24 f.ws fun ws => A6w f.nb fun nb => A33 f.so fun so => k { rt := rt, wt := wt, rb := rb, wb := wb, wl := wl, rs := rs, ws := ws, nb := nb, ex := f.ex, so := so }
theorem A4R {X : Type} (b : Bool) (k : Bool → X) : A24 b k = k b := by cases b <;> rfl
theorem B00 {X : Type} (o : Option Nat) (k : Option Nat → X) : A6w o k = k o := by cases o <;> simp only [A6w, A4T]
theorem A9x {X : Type} (o : Option Bool) (k : Option Bool → X) : A33 o k = k o := by cases o <;> simp only [A33, A4R]
theorem A25 {X : Type} (f : Fp) (k : Fp → X) : TB f k = k f := by
 simp only [TB, Uz, A4R, B00, A9x]
def Fp.look (f : Fp) (t : Nat) : Fp := { f with rt := t :: f.rt, ex := none, so := none }
def B6q (o : Oper) (t : Nat) (st : St) : Fp := Fp.Ae { rt := [t], wt := o.dst.toList } st (st.put o.dst (.I6 []) .val)
def kR (fl : Flags) (o : Oper) (t : Nat) (st : St) (J : Fp → St → Option X) : Option X :=
 I4 C R fl o st fun st1 => J ((B5h C fl o st st1).look t) st1
def Vx (o : Oper) (t : Nat) (st : St) (J : Fp → St → Option X) : Option X :=
 J (B6q o t st) (st.put o.dst (.I6 []) .val)
def Cc (fl : Flags) (all : List Oper) (bf : List (List Nat)) : List Oper → Nat → List (Nat × Fp) → St → (St → Option X) → Option X
 | [], _, _, st, k => k st
 | o :: os, i, acc, st, k => zJ st fun st =>
   match o.guard with
   | none => I4 C R fl o st fun st1 => TB (B5h C fl o st st1) fun f => og (IQ bf i acc f) (Cc fl all bf os (i + 1) ((i, f) :: acc) st1 k)
   | some (g, want) => ob (JQ all g) fun t => og (J3 (st.get t).2) <|
     I5 (st.get t).1
      (if want then kR C R fl o t (st.know t (.bool true)) fun f st1 => TB f fun f => og (IQ bf i acc f) (Cc fl all bf os (i + 1) ((i, f) :: acc) st1 k)
       else Vx o t (st.know t (.bool true)) fun f st1 => TB f fun f => og (IQ bf i acc f) (Cc fl all bf os (i + 1) ((i, f) :: acc) st1 k))
      (if want then Vx o t (st.know t (.bool false)) fun f st1 => TB f fun f => og (IQ bf i acc f) (Cc fl all bf os (i + 1) ((i, f) :: acc) st1 k)
       else kR C R fl o t (st.know t (.bool false)) fun f st1 => TB f fun f => og (IQ bf i acc f) (Cc fl all bf os (i + 1) ((i, f) :: acc) st1 k))
      (Vx o t (st.know t (.I6 [])) fun f st1 => TB f fun f => og (IQ bf i acc f) (Cc fl all bf os (i + 1) ((i, f) :: acc) st1 k))
inductive Out where
 | normal
 | exit (id : Nat)
 | ret
 deriving Inhabited
def FQ (fl : Flags) (id : Nat) (st : St) : St :=
 match fl.keep.find? (·.1 == id) with
 | some e => st.keep e.2.1 e.2.2.1 e.2.2.2.1 e.2.2.2.2
 | none => st
def xf : Code → Option Nat
 | .region id _ _ => some id
 | .seq a _ => xf a
 | .block _ b => xf b
 | .loop b => xf b
 | _ => none
def clean (fl : Flags) (c : Code) (st : St) : St :=
 match xf c with
 | some id => FQ fl id st
 | none => st
def aC {X : Type} (r : Nat) (st : St) (k : St → Option X) : Option X :=
 match (st.get r).2 with
 | .arr i sz 0 len => ob (Zz st.sg i) fun q => ob (nT q sz len) fun d => k ({ st with sg := st.sg.set i (.arr 1 []) }.put (some r) d .own)
 | .ptr b off => ob (M7 st.sg b) fun cs => ob (A8E cs off) fun a => ob (Zz st.sg a.1) fun q => ob (nT q a.2.1 a.2.2) fun d =>
    k { st with sg := (st.sg.set b (.box (cs.set off (d, .own)))).set a.1 (.arr 1 []) }
 | _ => none
def Fs {X : Type} (fl : Flags) (id : Nat) (st : St) (k : St → Option X) : Option X :=
 match fl.B7f.find? (·.1 == id) with
 | some e => aC e.2 st k
 | none => k st
def Xp (P : Program) (c : Operand) (st : St) (a b : St → Option X) : Option X :=
 ob (src P 0 st c) fun r => og (J3 r.2) <|
  match c with
  | .tmp t => D6 r.1 (a (st.know t (.bool true))) (b (st.know t (.bool false)))
  | _ => D6 r.1 (a st) (b st)
def iter {S X : Type} (F : (S → Option X) → S → Option X) : Nat → S → Option X
 | 0, _ => none
 | n + 1, s => F (iter F n) s
def VU (r : DV × Meta) : DV × Meta :=
 match r.2 with
 | .val => (r.1, .val)
 | .full => (r.1, .full)
 | .own => (r.1, .val)
 | .ptr i o => (.undef, .ptr i o)
 | .FT => (.QK, .FT)
 | .map i => (.undef, .map i)
 | .QJ => (.undef, .QJ)
 | .fn f caps => (.undef, .fn f caps)
 | _ => (.undef, .val)
def j4 (st : St) (sg : List D7) : St :=
 { tm := (st.tm.zip st.mt).map (fun r => (VU r).1), mt := (st.tm.zip st.mt).map (fun r => (VU r).2), bx := st.bx.map (fun _ => none), sg := sg }
def Wq (st : St) (p : Nat) (d : DV) (sg : List D7) : St := (j4 st sg).put (some p) d .val
def Ik : List (DV × Meta) → Option (List DV)
 | [] => some []
 | c :: cs => og (match c.2 with
   | .val => true
   | .full => true
   | .own => true
   | _ => false) (ob (Ik cs) fun ds => some (c.1 :: ds))
def P8 : Code → Bool
 | .rangeFunc _ _ _ _ => false
 | .seq a b => P8 a && P8 b
 | .cond _ a b => P8 a && P8 b
 | .block _ b => P8 b
 | .loop b => P8 b
 | _ => true
def oL : Code → Bool
 | .region _ _ false => true
 | .skip => true
 | _ => false
def Ke {X : Type} (step : DV → (List D7 → Option X) → List D7 → Option X) (fin : List D7 → Option X) : List DV → List D7 → Option X
 | [], sg => fin sg
 | d :: ds, sg => step d (Ke step fin ds) sg
def zF {X : Type} (C : X5) (st : St) (g : Operand) (ps : Array Nat) (pl : Bool) (fin : St → Option X) (step : Nat → DV → (List D7 → Option X) → List D7 → Option X) : Option X :=
 match g, ps.toList with
 | .tmp t, [p] =>
   match (st.get t).2 with
   | .fn f [(i, 0)] => ob (C.iter f) fun it => ob (M7 st.sg i) fun cs => ob (Ik cs) fun cd => ob (it cd) fun ds => og pl
      (Ke (step p) (fun sg => fin (j4 st sg)) ds (st.sg.set i (.arr 1 [])))
   | _ => none
 | _, _ => none
open Classical in
def GZ {S X : Type} (F : (S → Option X) → S → Option X) (s : S) : Option X :=
 if h : ∃ x n, iter F n s = some x then some h.choose else none
def R9 (fl : Flags) : Code → (Out → St → Option X) → St → Option X
 | .skip, K, st => K .normal st
 | .region id ops false, K, st => CE C R fl ops.toList ops.toList (FQ fl id st) fun st => Fs fl id st (K .normal)
 | .region id ops true, K, st => og (Sl 0 ops.toList) (dH (KL ops.toList []) fun bf => Cc C R fl ops.toList bf ops.toList 0 [] (FQ fl id st) fun st => Fs fl id st (K .normal))
 | .seq a b, K, st => R9 fl a (fun o st => match o with
    | .normal => R9 fl b K (clean fl b st)
    | .exit i => K (.exit i) st
    | .ret => K .ret st) st
 | .cond c a b, K, st => Xp C.P c st (fun st => R9 fl a K (clean fl a st)) (fun st => R9 fl b K (clean fl b st))
 | .block id b, K, st => R9 fl b (fun o st => match o with
    | .normal => K .normal st
    | .exit i => if i = id then K .normal st else K (.exit i) st
    | .ret => K .ret st) st
 | .loop b, K, st => GZ (fun J st => R9 fl b (fun o st => match o with
    | .normal => J (clean fl b st)
    | .exit i => K (.exit i) st
    | .ret => K .ret st) st) (clean fl b st)
 | .rangeFunc g ps assign body, K, st => zF C st g ps (oL assign && P8 body) (fun st => K .normal st) fun p d J sg =>
    R9 fl assign (fun o st1 => match o with
     | .normal => R9 fl body (fun o st2 => match o with
       | .normal => J st2.sg
       | .exit e => K (.exit e) (j4 st st2.sg)
       | .ret => K .ret (j4 st st2.sg)) (clean fl body st1)
     | .exit _ => none
     | .ret => none) (clean fl assign (Wq st p d sg))
 | .exit id, K, st => K (.exit id) st
 | .ret, K, st => K .ret st
 | _, _, _ => none
end
def F5 (fn : Func) (rs : List (DV × Meta)) (sg : List D7) : St where
 tm := rs.map (·.1) ++ List.replicate (fn.ntmps - rs.length) (.I6 [])
 mt := rs.map (·.2) ++ List.replicate (fn.ntmps - rs.length) .val
 bx := List.replicate (rs.length + (fn.ntmps - rs.length)) none
 sg := sg
def AF (sg : List D7) (c : DV × Meta) : Option DV :=
 match c.2 with
 | .val => some c.1
 | .full => some c.1
 | .own => some c.1
 | .FT => some c.1
 | .arr i sz off len => ob (VO sg i) fun a => og (a.1 == sz) (if off + len ≤ a.2.length then some (.list sz ((a.2.drop off).take len)) else none)
 | _ => none
def Dp (sg : List D7) : List (DV × Meta) → Option (List DV)
 | [] => some []
 | c :: cs => ob (AF sg c) fun d => ob (Dp sg cs) fun ds => some (d :: ds)
def dz (P : Program) (st : St) : ResultVar → Option DV
 | .tmp t =>
   match (st.get t).2 with
   | .Ad ms =>  og (J3 (.Ad ms)) (some (st.get t).1)
   | _ => AF st.sg (st.get t)
 | .cell a t =>
   match (st.get a).2 with
   | .loc s 0 => ob (st.bx.getD s none) fun cs => ob (tz P t) fun z =>
     if z.1 = cs.length then
      if z.2 then ob (Dp st.sg cs) fun ds => some (.agg ds)
      else match cs with
       | [c] => AF st.sg c
       | _ => none
     else none
   | .ptr i 0 => ob (M7 st.sg i) fun cs => ob (tz P t) fun z =>
     if z.1 = cs.length then
      if z.2 then ob (Dp st.sg cs) fun ds => some (.agg ds)
      else match cs with
       | [c] => AF st.sg c
       | _ => none
     else none
   | _ => none
def aJ (P : Program) (st : St) : List ResultVar → Option (List DV)
 | [] => some []
 | v :: vs => ob (dz P st v) fun d => ob (aJ P st vs) fun ds => some (d :: ds)
def pack : List DV → DV
 | [d] => d
 | ds => .I6 ds
def Wp (P : Program) (fn : Func) : Out → St → Option DV
 | .exit _, _ => none
 | _, st => ob (aJ P st fn.results.toList) fun ds => some (pack ds)
def zC : Meta → List Nat
 | .arr i _ _ _ => [i]
 | _ => []
def UA (st : St) : ResultVar → List Nat
 | .tmp t => zC (st.get t).2
 | .cell a _ =>
   match (st.get a).2 with
   | .loc s _ =>
     match st.bx.getD s none with
     | some cs => cs.flatMap fun c => zC c.2
     | none => []
   | _ => []
def kill (sg : List D7) (us : List Nat) : List D7 := us.foldl (fun g i => g.set i (.arr 1 [])) sg
def A1N (st : St) : ResultVar → Bool
 | .tmp _ => true
 | .cell a _ =>
   match (st.get a).2 with
   | .loc _ _ => true
   | _ => false
def A65 (r : DV × Meta) : Option DV :=
 match r.2 with
 | .ptr i 0 => some (.int .u64 i)
 | .FT => some .QK
 | _ => none
def kI (os : List Nat) : Nat → List (DV × Meta) → Bool
 | _, [] => true
 | i, c :: cs => (if os.contains i then Kk c.2 else J3 c.2) && kI os (i + 1) cs
def A3x (P : Program) (sl : Bool) (st : St) (k : MK) (v : ResultVar) : Option DV :=
 match k with
 | .val => match sl && A1N st v with
   | true => dz P st v
   | false => dz P { st with sg := [] } v
 | .own =>
   match v with
   | .tmp t => og (Kk (st.get t).2) (some (st.get t).1)
   | _ => none
 | .ptr =>
   match v with
   | .tmp t => A65 (st.get t)
   | _ => none
 | .T_ n os =>
   match v with
   | .cell a t =>
     match (st.get a).2 with
     | .loc s 0 => ob (st.bx.getD s none) fun cs => ob (tz P t) fun z => og (z.2 && z.1 == cs.length && n == z.1 && kI os 0 cs) (some (.agg (cs.map (·.1))))
     | _ => none
   | _ => none
def YG (P : Program) (sl : Bool) (st : St) : List MK → List ResultVar → Option (List DV)
 | [], [] => some []
 | k :: ks, v :: vs => ob (A3x P sl st k v) fun d => ob (YG P sl st ks vs) fun ds => some (d :: ds)
 | _, _ => none
def Ba (P : Program) (fn : Func) (s : AB) : Out → St → Option (List DV × List D7)
 | .exit _, _ => none
 | _, st => og (decide ((s.results.filter Cy).length ≤ 1)) (ob (YG P s.lock st s.results fn.results.toList) fun ds => some (ds, match s.lock with
   | true => kill st.sg (fn.results.toList.flatMap (UA st))
   | false => st.sg))
def A3U {X : Type} (C : X5) (R : N7) (fl : Flags) (p : Cut) (K : Out → St → Option X) : Out → St → Option X
 | .normal, st => ob (p.mid st) fun st => R9 C R fl p.post K (clean fl p.post st)
 | .exit _, _ => none
 | .ret, st => K .ret st
def A2Y {X : Type} (C : X5) (R : N7) (fl : Flags) (q : Option Cut) (c : Code) (K : Out → St → Option X) (st : St) : Option X :=
 match q with
 | some p => R9 C R fl (Bh p.pre .skip) (A3U C R fl p K) st
 | none => R9 C R fl c K st
def stays : Meta → Bool
 | .val => true
 | .full => true
 | .own => true
 | .FT => true
 | .ptr _ _ => true
 | .map _ => true
 | _ => false
def aF (C : X5) (o : Oper) (st : St) : Option (FuncId × List (DV × Meta)) :=
 match o.op with
 | .defer c =>
   match c.callee with
   | .value (.func f) => ob (Hq C.P st c.argTypes.toList c.args.toList) fun rs =>
      og (C.dfn f && o.guard.isNone && o.dst.isNone && rs.all fun r => stays r.2) (some (f, rs.map fun r => VU (r.1, Qa r.2)))
   | _ => none
 | _ => none
def UC (R : N7) (K : Out → St → Option (List DV × List D7)) (q : FuncId × List (DV × Meta)) : Out → St → Option (List DV × List D7)
 | .exit _, _ => none
 | o, st => ob (R.r q.1 q.2 st.sg) fun p => K o { st with sg := p.2 }
def RZ {X : Type} (C : X5) (R : N7) (fl : Flags) (p : aK) (K : Out → St → Option X) (Kd : FuncId × List (DV × Meta) → Out → St → Option X) : Out → St → Option X
 | .exit _, _ => none
 | .ret, st => K .ret st
 | .normal, st => Xp C.P p.c st
    (fun st => R9 C R fl p.a (fun o st => match o with
      | .normal => CE C R fl (p.ops ++ [p.Xl]) p.ops (FQ fl p.id st) fun st => ob (aF C p.Xl st) fun q => R9 C R fl p.post (Kd q) (clean fl p.post st)
      | .exit _ => none
      | .ret => K .ret st) (clean fl p.a st))
    (fun st => R9 C R fl p.post K (clean fl p.post st))
def Bp (C : X5) (R : N7) : N7 where
 p f ds := ob C.P.funcs[f]? fun fn => ob fn.body fun c =>
     A2Y C R (C.fl f) (C.jg f) c (Wp C.P fn) (F5 fn (ds.map fun d => (d, .val)) [])
 r f rs sg := ob (C.sig f) fun s => ob C.P.funcs[f]? fun fn => ob fn.body fun c =>
   match C.YW f with
   | none => R9 C R (C.fl f) c (Ba C.P fn s) (F5 fn rs sg)
   | some p => R9 C R (C.fl f) (Bh (p.pre ++ [p.r]) .skip) (RZ C R (C.fl f) p (Ba C.P fn s) (UC R (Ba C.P fn s))) (F5 fn rs sg)
def Kq (C : X5) : Nat → N7
 | 0 => { p := fun _ _ => none, r := fun _ _ _ => none }
 | n + 1 => Bp C (Kq C n)
open Classical in
def run (C : X5) : N7 where
 p f ds := if h : ∃ x n, (Kq C n).p f ds = some x then some h.choose else none
 r f rs sg := if h : ∃ x n, (Kq C n).r f rs sg = some x then some h.choose else none
abbrev pt (i : Nat) : DV × Meta := (.undef, .ptr i 0)
abbrev oc {α : Type} (q : Option (List DV × List D7)) (k : DV → List D7 → Option α) : Option α := ob q fun r => k (r.1.getD 0 .undef) r.2
end
end Go.Su

/-
 THE DATA MACHINE, part 3: what it means that memory holds plain data, and what keeps it so.
-/
namespace Go.Su
abbrev Heap := Array Obj
abbrev Q6 := Nat → Nat → Prop
def hc (h : Heap) (b o : Nat) : Option Value :=
 match h[b]? with
 | some (.cells c _ _) => c[o]?
 | _ => none
theorem KO (w : World) (b o : Nat) : w.cell? ⟨b, o, none⟩ = hc w.heap b o := by
 unfold World.cell? hc
 split <;> simp_all
def At (S : Q6) (h : Heap) (b o : Nat) (vs : List Value) : Prop :=
 ∀ j v, vs[j]? = some v → hc h b (o + j) = some v ∧ S b (o + j)
mutual
def RC (S : Q6) (h : Heap) : DV → List Value → Prop
 | .undef, vs => ∃ v, vs = [v] ∧ v.oneCell' = true
 | .int k n, vs => vs = [.int k n]
 | .bool b, vs => vs = [.bool b]
 | .str s, vs => vs = [.string s]
 | .agg cs, vs => GJ S h cs vs
 | .I6 _, _ => False
 | .list sz ds, vs => ∃ a len cap, vs = [.slice a len cap] ∧ len = ds.length ∧ len ≤ cap ∧ (a = none → cap = 0) ∧ (ds ≠ [] → 0 < sz) ∧
    ∀ x, a = some x → (0 < cap → x.spot = none) ∧ Dh S h sz x.block x.off ds
 | .QK, vs => vs = [.pointer none]
 | .VI sz d, vs => ∃ b o, vs = [.pointer (some ⟨b, o, none⟩)] ∧ ∃ us : List Value, us.length = sz ∧ At S h b o us ∧ RC S h d us
def GJ (S : Q6) (h : Heap) : List DV → List Value → Prop
 | [], vs => vs = []
 | d :: ds, vs => ∃ v vs', vs = v :: vs' ∧ M9 d = true ∧ RC S h d [v] ∧ GJ S h ds vs'
def Dh (S : Q6) (h : Heap) (sz b : Nat) : Nat → List DV → Prop
 | _, [] => True
 | o, d :: ds => (∃ vs, vs.length = sz ∧ At S h b o vs ∧ RC S h d vs) ∧ Dh S h sz b (o + sz) ds
end
mutual
def RV (S : Q6) (h : Heap) : DV → Value → Prop
 | .undef, _ => True
 | .int k n, v => v = .int k n
 | .bool b, v => v = .bool b
 | .str s, v => v = .string s
 | .agg cs, v => ∃ vs, v = .agg vs ∧ GJ S h cs vs.toList
 | .I6 ds, v => ∃ vs, v = .tuple vs ∧ Pj S h ds vs.toList
 | .list sz ds, v => RC S h (.list sz ds) [v]
 | .QK, v => v = .pointer none
 | .VI sz d, v => RC S h (.VI sz d) [v]
def Pj (S : Q6) (h : Heap) : List DV → List Value → Prop
 | [], vs => vs = []
 | d :: ds, vs => ∃ v vs', vs = v :: vs' ∧ RV S h d v ∧ Pj S h ds vs'
end
theorem EP {S : Q6} {h : Heap} : ∀ {cs : List DV} {vs : List Value}, GJ S h cs vs ↔
 cs.length = vs.length ∧ ∀ (i : Nat) d v, cs[i]? = some d → vs[i]? = some v → M9 d = true ∧ RC S h d [v]
 | [], vs => by
   simp only [GJ];constructor
   ·rintro rfl; simp
   ·rintro ⟨h1, -⟩; exact z29q h1.symm
 | d :: ds, vs => by
   simp only [GJ];constructor
   ·rintro ⟨v, vs', rfl, hl, hc, hr⟩
    obtain ⟨h1, h2⟩ := EP.1 hr;refine ⟨by simp [h1], fun i d' v' hd hv => ?_⟩
    cases i with
    | zero => simp at hd hv; subst hd hv; exact ⟨hl, hc⟩
    | succ i => simp at hd hv; exact h2 i d' v' hd hv
   ·rintro ⟨h1, h2⟩
    cases vs with
    | nil => simp at h1
    | cons v vs' =>
      refine ⟨v, vs', rfl, (h2 0 d v rfl rfl).1, (h2 0 d v rfl rfl).2, EP.2 ⟨by simpa using h1, fun i d' v' hd hv => h2 (i + 1) d' v' (by simpa using hd) (by simpa using hv)⟩⟩
theorem Vs {S : Q6} {h : Heap} : ∀ {cs : List DV} {vs : List Value}, Pj S h cs vs ↔
 cs.length = vs.length ∧ ∀ (i : Nat) d v, cs[i]? = some d → vs[i]? = some v → RV S h d v
 | [], vs => by
   simp only [Pj];constructor
   ·rintro rfl; simp
   ·rintro ⟨h1, -⟩; exact z29q h1.symm
 | d :: ds, vs => by
   simp only [Pj];constructor
   ·rintro ⟨v, vs', rfl, hc, hr⟩
    obtain ⟨h1, h2⟩ := Vs.1 hr;refine ⟨by simp [h1], fun i d' v' hd hv => ?_⟩
    cases i with
    | zero => simp at hd hv; subst hd hv; exact hc
    | succ i => simp at hd hv; exact h2 i d' v' hd hv
   ·rintro ⟨h1, h2⟩
    cases vs with
    | nil => simp at h1
    | cons v vs' =>
      refine ⟨v, vs', rfl, h2 0 d v rfl rfl, Vs.2 ⟨by simpa using h1, fun i d' v' hd hv => h2 (i + 1) d' v' (by simpa using hd) (by simpa using hv)⟩⟩
def Elem (S : Q6) (h : Heap) (sz b o : Nat) (d : DV) : Prop := ∃ vs : List Value, vs.length = sz ∧ At S h b o vs ∧ RC S h d vs
theorem Dc {S : Q6} {h : Heap} {sz b : Nat} : ∀ {ds : List DV} {o : Nat}, Dh S h sz b o ds ↔
 ∀ (i : Nat) d, ds[i]? = some d → Elem S h sz b (o + i * sz) d
 | [], o => by simp [Dh]
 | d :: ds, o => by
   simp only [Dh];constructor
   ·rintro ⟨h1, h2⟩ i d' hd
    cases i with
    | zero => simp at hd; subst hd; simpa [Elem] using h1
    | succ i =>
      have := Dc.1 h2 i d' (by simpa using hd)
      rw [z26q, z40q (i * sz), ← z20q];exact this
   ·intro hh
    refine ⟨by simpa [Elem] using hh 0 d rfl, Dc.2 fun i d' hd => ?_⟩
    have := hh (i + 1) d' (by simpa using hd)
    rw [z26q, z40q (i * sz), ← z20q] at this;exact this
structure X8 (S : Q6) (h : Heap) (S' : Q6) (h' : Heap) : Prop where
 s : ∀ b o, S b o → S' b o
 c : ∀ b o v, S b o → hc h b o = some v → hc h' b o = some v
theorem At.mono {S S' : Q6} {h h' : Heap} {b o : Nat} {vs : List Value} (I9 : X8 S h S' h') (H : At S h b o vs) : At S' h' b o vs :=
 fun j v hv => ⟨I9.c _ _ _ (H j v hv).2 (H j v hv).1, I9.s _ _ (H j v hv).2⟩
mutual
theorem RC.mono {S S' : Q6} {h h' : Heap} (I9 : X8 S h S' h') : ∀ (d : DV) {vs : List Value}, RC S h d vs → RC S' h' d vs
 | .undef, _, H => by simpa only [RC] using H
 | .int _ _, _, H => by simpa only [RC] using H
 | .bool _, _, H => by simpa only [RC] using H
 | .str _, _, H => by simpa only [RC] using H
 | .agg cs, _, H => by simp only [RC] at H ⊢; exact GJ.mono I9 cs H
 | .I6 _, _, H => by simp only [RC] at H
 | .list sz ds, _, H => by
   simp only [RC] at H ⊢;obtain ⟨a, len, cap, h1, h2, h3, h4, h5, h6⟩ := H;exact ⟨a, len, cap, h1, h2, h3, h4, h5, fun x hx => ⟨(h6 x hx).1, Dh.mono I9 ds (h6 x hx).2⟩⟩
 | .QK, _, H => by simpa only [RC] using H
 | .VI sz d, _, H => by
   simp only [RC] at H ⊢;obtain ⟨b, o, h1, us, h2, h3, h4⟩ := H;exact ⟨b, o, h1, us, h2, h3.mono I9, RC.mono I9 d h4⟩
theorem GJ.mono {S S' : Q6} {h h' : Heap} (I9 : X8 S h S' h') : ∀ (ds : List DV) {vs : List Value}, GJ S h ds vs → GJ S' h' ds vs
 | [], _, H => by simpa only [GJ] using H
 | d :: ds, _, H => by
   simp only [GJ] at H ⊢;obtain ⟨v, vs', h1, h2, h3, h4⟩ := H;exact ⟨v, vs', h1, h2, RC.mono I9 d h3, GJ.mono I9 ds h4⟩
theorem Dh.mono {S S' : Q6} {h h' : Heap} (I9 : X8 S h S' h') {sz b : Nat} : ∀ (ds : List DV) {o : Nat}, Dh S h sz b o ds → Dh S' h' sz b o ds
 | [], _, _ => by simp only [Dh]
 | d :: ds, _, H => by
   simp only [Dh] at H ⊢;obtain ⟨⟨vs, h1, h2, h3⟩, h4⟩ := H;exact ⟨⟨vs, h1, h2.mono I9, RC.mono I9 d h3⟩, Dh.mono I9 ds h4⟩
end
theorem Elem.mono {S S' : Q6} {h h' : Heap} (I9 : X8 S h S' h') {sz b o : Nat} {d : DV} (H : Elem S h sz b o d) : Elem S' h' sz b o d :=
 let ⟨vs, h1, h2, h3⟩ := H
 ⟨vs, h1, h2.mono I9, RC.mono I9 d h3⟩
mutual
theorem RV.mono {S S' : Q6} {h h' : Heap} (I9 : X8 S h S' h') : ∀ (d : DV) {v : Value}, RV S h d v → RV S' h' d v
 | .undef, _, _ => by simp only [RV]
 | .int _ _, _, H => by simpa only [RV] using H
 | .bool _, _, H => by simpa only [RV] using H
 | .str _, _, H => by simpa only [RV] using H
 | .agg cs, _, H => by simp only [RV] at H ⊢; obtain ⟨vs, h1, h2⟩ := H; exact ⟨vs, h1, GJ.mono I9 cs h2⟩
 | .I6 ds, _, H => by simp only [RV] at H ⊢; obtain ⟨vs, h1, h2⟩ := H; exact ⟨vs, h1, Pj.mono I9 ds h2⟩
 | .list _ _, _, H => by simp only [RV] at H ⊢; exact RC.mono I9 _ H
 | .QK, _, H => by simpa only [RV] using H
 | .VI _ _, _, H => by simp only [RV] at H ⊢; exact RC.mono I9 _ H
theorem Pj.mono {S S' : Q6} {h h' : Heap} (I9 : X8 S h S' h') : ∀ (ds : List DV) {vs : List Value}, Pj S h ds vs → Pj S' h' ds vs
 | [], _, H => by simpa only [Pj] using H
 | d :: ds, _, H => by
   simp only [Pj] at H ⊢;obtain ⟨v, vs', h1, h2, h3⟩ := H;exact ⟨v, vs', h1, RV.mono I9 d h2, Pj.mono I9 ds h3⟩
end
theorem Gx {S : Q6} {h : Heap} {d : DV} {v : Value} (hl : M9 d = true) (H : RC S h d [v]) : v.oneCell' = true := by
 cases d <;> simp only [RC, M9] at H hl <;> try contradiction
 ·obtain ⟨u, hu, hv⟩ := H; simp at hu; subst hu; exact hv
 ·simp at H; subst H; rfl
 ·simp at H; subst H; rfl
 ·simp at H; subst H; rfl
 ·obtain ⟨a, len, cap, hu, -⟩ := H; simp at hu; subst hu; rfl
 ·simp at H; subst H; rfl
 ·obtain ⟨b, o, hu, -⟩ := H; simp at hu; subst hu; rfl
theorem Mc {S : Q6} {h : Heap} {d : DV} {vs : List Value} (hl : M9 d = true) (H : RC S h d vs) : ∃ v, vs = [v] := by
 cases d <;> simp only [RC, M9] at H hl <;> try contradiction
 ·obtain ⟨u, hu, -⟩ := H; exact ⟨u, hu⟩
 ·exact ⟨_, H⟩
 ·exact ⟨_, H⟩
 ·exact ⟨_, H⟩
 ·obtain ⟨a, len, cap, hu, -⟩ := H; exact ⟨_, hu⟩
 ·exact ⟨_, H⟩
 ·obtain ⟨b, o, hu, -⟩ := H; exact ⟨_, hu⟩
theorem Rx {S : Q6} {h : Heap} {d : DV} {v : Value} (hl : M9 d = true) (H : RC S h d [v]) : RV S h d v := by
 cases d <;> simp only [RC, RV, M9] at H hl ⊢ <;> try contradiction
 ·simpa using H
 ·simpa using H
 ·simpa using H
 ·exact H
 ·simpa using H
 ·exact H
theorem Rw {S : Q6} {h : Heap} {d : DV} {v : Value} (hl : M9 d = true) (hv : v.oneCell' = true) (H : RV S h d v) : RC S h d [v] := by
 cases d <;> simp only [RC, RV, M9] at H hl ⊢ <;> try contradiction
 ·exact ⟨v, rfl, hv⟩
 ·simpa using H
 ·simpa using H
 ·simpa using H
 ·exact H
 ·simpa using H
 ·exact H
theorem Md {S : Q6} {h : Heap} {d : DV} {vs : List Value} (H : RC S h d vs) {j : Nat} {v : Value} (hv : vs[j]? = some v) :
 M9 (A7 j d) = true ∧ RC S h (A7 j d) [v] := by
 have und : ∀ u : Value, u.oneCell' = true → M9 DV.undef = true ∧ RC S h DV.undef [u] := fun u hu => ⟨rfl, by simp only [RC]; exact ⟨u, rfl, hu⟩⟩
 cases d with
 | agg cs =>
   simp only [RC] at H;obtain ⟨h1, h2⟩ := EP.1 H;have hj : j < vs.length := (z0q.1 hv).1;have hc : cs[j]? = some (cs[j]'(by omega)) := z3q (by omega)
   have := h2 j _ v hc hv;simp only [A7, z1q, hc, z33q];exact this
 | I6 _ => simp only [RC] at H
 | undef =>
   obtain ⟨u, rfl⟩ := Mc (d := .undef) rfl H;have h1 := Gx (d := .undef) rfl H;cases j with
   | zero => simp at hv; subst hv; exact und _ h1
   | succ j => simp at hv
 | int k n =>
   obtain ⟨u, rfl⟩ := Mc (d := .int k n) rfl H;have h1 := Gx (d := .int k n) rfl H;cases j with
   | zero => simp at hv; subst hv; exact und _ h1
   | succ j => simp at hv
 | bool b =>
   obtain ⟨u, rfl⟩ := Mc (d := .bool b) rfl H;have h1 := Gx (d := .bool b) rfl H;cases j with
   | zero => simp at hv; subst hv; exact und _ h1
   | succ j => simp at hv
 | str s =>
   obtain ⟨u, rfl⟩ := Mc (d := .str s) rfl H;have h1 := Gx (d := .str s) rfl H;cases j with
   | zero => simp at hv; subst hv; exact und _ h1
   | succ j => simp at hv
 | list sz ds =>
   obtain ⟨u, rfl⟩ := Mc (d := .list sz ds) rfl H;have h1 := Gx (d := .list sz ds) rfl H;cases j with
   | zero => simp at hv; subst hv; exact und _ h1
   | succ j => simp at hv
 | QK =>
   obtain ⟨u, rfl⟩ := Mc (d := .QK) rfl H;have h1 := Gx (d := .QK) rfl H;cases j with
   | zero => simp at hv; subst hv; exact und _ h1
   | succ j => simp at hv
 | VI sz d =>
   obtain ⟨u, rfl⟩ := Mc (d := .VI sz d) rfl H;have h1 := Gx (d := .VI sz d) rfl H;cases j with
   | zero => simp at hv; subst hv; exact und _ h1
   | succ j => simp at hv
end Go.Su

/-
 THE DATA MACHINE, part 4: a state of the data machine and a state of the model that hold the same.
-/
namespace Go.Su
inductive Tag where
 | other
 | shut
 | SS (s : Nat)
 | obj (i : Nat)
 | sp (k a b : Nat)
 deriving DecidableEq
structure Env where
 blk : Nat → Nat
 obj : Nat → Nat
 base : Nat → Nat
 top : Nat → Nat
 O : Nat → Nat → Tag
 n : Nat
def Env.S (E : Env) : Q6 := fun b o => E.O b o = .shut
def A5L (E : Env) (h : Heap) (tg : Tag) (sz : Nat) (v : Value) : Prop :=
 ∀ (x : Addr) (len cap : Nat), v = .slice (some x) len cap → len < cap → ∃ c T f, h[x.block]? = some (.cells c T f) ∧ x.off + cap * sz ≤ c.size ∧
   ∀ o, x.off + len * sz ≤ o → o < x.off + cap * sz → E.O x.block o = tg ∧ ¬(f.1 ≤ o ∧ o < f.2)
def K4 (E : Env) (h : Heap) (tg : Tag) (d : DV) (m : Meta) (v : Value) : Prop :=
 match m with
 | .val => RV E.S h d v
 | .full => RV E.S h d v ∧ (∃ (a : Option Addr) (n : Nat), v = .slice a n n) ∧ ∃ sz ds, d = .list sz ds
 | .own => RV E.S h d v ∧ ∃ sz ds, d = .list sz ds ∧ A5L E h tg sz v
 | .loc s o => d = .undef ∧ v = .pointer (some ⟨E.blk s, o, none⟩)
 | .OT ag sz o => ∃ b o0, v = .pointer (some ⟨b, o0 + o, none⟩) ∧ Elem E.S h sz b o0 d ∧ (ag = false → M9 d = true)
 | .ptr i o => i < E.n ∧ v = .pointer (some ⟨E.obj i, o, none⟩)
 | .FT => d = .QK ∧ v = .pointer none
 | .map i => i < E.n ∧ v = .map (some (E.obj i))
 | .QJ => v = .map none
 | .arr i sz off len => i < E.n ∧ ∃ (a : Option Addr) (cap : Nat), v = .slice a len cap ∧ (0 < len → a = some ⟨E.obj i, E.base i + off * sz, none⟩) ∧ len ≤ cap ∧ (a = none → cap = 0) ∧ (∀ x, a = some x → x.spot = none) ∧ (0 < len → E.base i + (off + cap) * sz ≤ E.top i)
 | .Yw i sz idx o => i < E.n ∧ v = .pointer (some ⟨E.obj i, E.base i + idx * sz + o, none⟩)
 | .opt i sz idx => i < E.n ∧ v = .pointer (some ⟨E.obj i, E.base i + idx * sz, none⟩)
 | .fn f caps => v = .func (.func f) #[] (caps.map fun c => Value.pointer (some ⟨E.obj c.1, c.2, none⟩)).toArray ∧ ∀ c ∈ caps, c.1 < E.n
 | .Bi _ => False
 | .Ad _ => False
def RR (E : Env) (h : Heap) (k a : Nat) (d : DV) (m : Meta) (v : Value) : Prop :=
 match m with
 | .Bi ms => ∃ (ds : List DV) (vs : Array Value), d = .I6 ds ∧ v = .tuple vs ∧ ds.length = ms.length ∧ vs.size = ms.length ∧
    ∀ (i : Nat) m' d' u, ms[i]? = some m' → ds[i]? = some d' → vs[i]? = some u → X0 m' = true ∧ K4 E h (.sp k a (i + 1)) d' m' u
 | .Ad ms => ∃ (ds : List DV) (vs : Array Value), d = .agg ds ∧ v = .agg vs ∧ ds.length = ms.length ∧ vs.size = ms.length ∧
    ∀ (i : Nat) m' d' u, ms[i]? = some m' → ds[i]? = some d' → vs[i]? = some u → M9 d' = true ∧ u.oneCell' = true ∧ X0 m' = true ∧ K4 E h (.sp k a (i + 1)) d' m' u
 | m => K4 E h (.sp k a 0) d m v
def af (E : Env) (h : Heap) (tg : Tag) (k a : Nat) (b : Nat) (cs : List (DV × Meta)) : Prop :=
 ∃ c T, h[b]? = some (.cells c T (0, 0)) ∧ c.size = cs.length ∧ (∀ o, E.O b o = tg ∨ c.size ≤ o) ∧
   ∀ (j : Nat) r v, cs[j]? = some r → c[j]? = some v → M9 r.1 = true ∧ v.oneCell' = true ∧ X0 r.2 = true ∧ K4 E h (.sp k a j) r.1 r.2 v
def B4V (S : Q6) (h : Heap) (ks : Bool) (es : List (DV × DV)) (ens : Array MapEntry) : Prop :=
 es.length = ens.size ∧ ∀ (j : Nat) e n, es[j]? = some e → ens[j]? = some n → isKey ks e.1 = true ∧ RV S h e.1 n.key ∧ RV S h e.2 n.val
def nE (ens : Array MapEntry) (clk : Nat) : Prop :=
 (∀ (j : Nat) n, ens[j]? = some n → n.born < clk) ∧ ∀ (i j : Nat) m n, ens[i]? = some m → ens[j]? = some n → m.born = n.born → i = j
def RO (E : Env) (h : Heap) (i : Nat) : D7 → Prop
 | .box cs => af E h (.obj i) 2 i (E.obj i) cs
 | .arr sz ds => ds ≠ [] → ∃ c T, h[E.obj i]? = some (.cells c T (0, 0)) ∧ E.base i + ds.length * sz ≤ c.size ∧ 0 < sz ∧
    (∀ o, E.base i ≤ o → o < E.base i + ds.length * sz → E.O (E.obj i) o = .obj i) ∧
    ∀ (j : Nat) d, ds[j]? = some d → ∃ vs : List Value, vs.length = sz ∧ (∀ (x : Nat) u, vs[x]? = some u → c[E.base i + j * sz + x]? = some u) ∧ RC E.S h d vs
 | .opn sz pre ds => ∃ c T f, h[E.obj i]? = some (.cells c T f) ∧ E.base i + (pre.length + ds.length) * sz ≤ E.top i ∧ E.top i ≤ c.size ∧ 0 < sz ∧
    (∀ o, E.base i + pre.length * sz ≤ o → o < E.top i → E.O (E.obj i) o = .obj i ∧ ¬(f.1 ≤ o ∧ o < f.2)) ∧
    (∀ (j : Nat) d, pre[j]? = some d → Elem E.S h sz (E.obj i) (E.base i + j * sz) d) ∧
    ∀ (j : Nat) d, ds[j]? = some d → ∃ vs : List Value, vs.length = sz ∧ (∀ (x : Nat) u, vs[x]? = some u → c[E.base i + (pre.length + j) * sz + x]? = some u) ∧ RC E.S h d vs
 | .map ks es => ∃ ens clk, h[E.obj i]? = some (.map ens clk) ∧ (∀ o, E.O (E.obj i) o = .obj i) ∧ B4V E.S h ks es ens ∧ nE ens clk
structure J2 (E : Env) (st : St) (a : Act) (h : Heap) : Prop where
 size : a.tmps.size = st.tm.length
 Aq : st.mt.length = st.tm.length
 Cs : st.bx.length = st.tm.length
 n : st.sg.length = E.n
 regs : ∀ (t : Nat) v, a.tmps[t]? = some v → RR E h 0 t (st.get t).1 (st.get t).2 v
 boxes : ∀ (s : Nat) cs, st.bx.getD s none = some cs → af E h (.SS s) 1 s (E.blk s) cs
 Q3 : ∀ (i : Nat) ob, st.sg[i]? = some ob → RO E h i ob
 fresh : ∀ b o, h.size ≤ b → E.O b o = .other
structure Q5 (w w' : World) : Prop where
 os : w'.os = w.os
 tape : w'.tape = w.tape
 output : w'.output = w.output
theorem Q5.refl (w : World) : Q5 w w := ⟨rfl, rfl, rfl⟩
theorem Q5.trans {a b c : World} (h : Q5 a b) (k : Q5 b c) : Q5 a c := ⟨k.os.trans h.os, k.tape.trans h.tape, k.output.trans h.output⟩
def X4 (keep : Nat → Prop) (x y : Option Obj) : Prop :=
 match x with
 | none => True
 | some (.cells c T f) => ∃ c', y = some (.cells c' T f) ∧ c'.size = c.size ∧ ∀ o, keep o → c'[o]? = c[o]?
 | some ob => keep 0 → y = some ob
structure Pr (ch : Tag → Prop) (E : Env) (h : Heap) (E' : Env) (h' : Heap) : Prop where
 size : h.size ≤ h'.size
 blk : ∀ b, b < h.size → X4 (fun o => ¬ ch (E.O b o)) h[b]? h'[b]?
 tags : ∀ b o, b < h.size → ¬ ch (E.O b o) → E'.O b o = E.O b o
 n : E.n ≤ E'.n
 Q3 : ∀ i, i < E.n → E'.obj i = E.obj i ∧ E'.base i = E.base i ∧ E'.top i = E.top i
 jH : ∀ s, ¬ ch (.SS s) → E'.blk s = E.blk s
theorem X4.refl (keep : Nat → Prop) (x : Option Obj) : X4 keep x x := by
 unfold X4
 split
 ·trivial
 ·exact ⟨_, rfl, rfl, fun _ _ => rfl⟩
 ·exact fun _ => rfl
theorem Pr.refl (ch : Tag → Prop) (E : Env) (h : Heap) : Pr ch E h E h :=
 ⟨z15q _, fun _ _ => X4.refl _ _, fun _ _ _ _ => rfl, z15q _, fun _ _ => ⟨rfl, rfl, rfl⟩, fun _ _ => rfl⟩
theorem Pr.weaken {ch ch' : Tag → Prop} {E E' : Env} {h h' : Heap} (H : Pr ch E h E' h') (hc : ∀ t, ch t → ch' t) : Pr ch' E h E' h' := by
 refine ⟨H.size, fun b hb => ?_, fun b o hb hn => H.tags b o hb fun x => hn (hc _ x), H.n, H.Q3, fun s hn => H.jH s fun x => hn (hc _ x)⟩
 have := H.blk b hb;unfold X4 at this ⊢
 split at this
 ·trivial
 ·obtain ⟨c', h1, h2, h3⟩ := this
  exact ⟨c', h1, h2, fun o ho => h3 o fun x => ho (hc _ x)⟩
 ·exact fun h0 => this fun x => h0 (hc _ x)
theorem Pr.trans {ch : Tag → Prop} {E E1 E2 : Env} {h h1 h2 : Heap} (A : Pr ch E h E1 h1) (B : Pr ch E1 h1 E2 h2) : Pr ch E h E2 h2 := by
 refine ⟨Nat.le_trans A.size B.size, fun b hb => ?_, fun b o hb hn => ?_, Nat.le_trans A.n B.n, fun i hi => ?_, fun s hn => (B.jH s hn).trans (A.jH s hn)⟩
 ·have a := A.blk b hb
  have bb := B.blk b (z13q hb A.size);unfold X4 at a;unfold X4
  split at a
  ·trivial
  ·obtain ⟨c', e1, e2, e3⟩ := a
   unfold X4 at bb;rw [e1] at bb;obtain ⟨c2, f1, f2, f3⟩ := bb;refine ⟨c2, f1, f2.trans e2, fun o ho => (f3 o ?_).trans (e3 o ho)⟩
   show ¬ ch (E1.O b o)
   rw [A.tags b o hb ho]; exact ho
  ·rename_i ob hne _
   intro h0;have e1 := a h0;rw [e1] at bb;have Iz : ¬ ch (E1.O b 0) := by rw [A.tags b 0 hb h0]; exact h0
   unfold X4 at bb
   split at bb
   ·simp_all
   ·rename_i heq; simp only [Option.some.injEq] at heq; exact absurd heq (hne _ _ _)
   ·rename_i heq; rw [← heq] at bb; exact heq ▸ bb Iz
 ·have := A.tags b o hb hn
  exact (B.tags b o (z13q hb A.size) (by rw [this]; exact hn)).trans this
 ·have x := A.Q3 i hi
  have y := B.Q3 i (z13q hi A.n);exact ⟨y.1.trans x.1, y.2.1.trans x.2.1, y.2.2.trans x.2.2⟩
theorem Pr.hc {ch : Tag → Prop} {E E' : Env} {h h' : Heap} (H : Pr ch E h E' h') {b o : Nat} {v : Value} (hn : ¬ ch (E.O b o)) (hv : hc h b o = some v) : Su.hc h' b o = some v := by
 have hb : b < h.size := by
  rcases z32q b h.size with h1 | h1
  ·exact h1
  ·simp [Su.hc, Array.getElem?_eq_none h1] at hv
 have := H.blk b hb;unfold X4 at this;unfold Su.hc at hv ⊢
 split at this
 ·simp_all
 ·rename_i c T f he
  obtain ⟨c', e1, e2, e3⟩ := this;rw [he] at hv;rw [e1];simp only at hv ⊢;rw [e3 o hn]; exact hv
 ·rename_i ob hne he
  rw [he] at hv
  split at hv
  ·rename_i heq; simp only [Option.some.injEq] at heq; exact absurd heq (hne _ _ _)
  ·simp at hv
theorem Pr.shut {ch : Tag → Prop} {E E' : Env} {h h' : Heap} (H : Pr ch E h E' h') (hs : ¬ ch .shut) (hf : ∀ b o, h.size ≤ b → E.O b o = .other) : X8 E.S h E'.S h' := by
 refine ⟨fun b o h1 => ?_, fun b o v h1 hv => H.hc (by rw [show E.O b o = .shut from h1]; exact hs) hv⟩
 have hb : b < h.size := by
  rcases z32q b h.size with h2 | h2
  ·exact h2
  ·have := hf b o h2
   rw [show E.O b o = .shut from h1] at this
   cases this
 have := H.tags b o hb (by rw [show E.O b o = .shut from h1]; exact hs)
 exact this.trans h1
theorem A5L.mono {ch : Tag → Prop} {E E' : Env} {h h' : Heap} (H : Pr ch E h E' h') {tg : Tag} (ht : ¬ ch tg) {sz : Nat} {v : Value} (hs : A5L E h tg sz v) : A5L E' h' tg sz v := by
 intro x len cap hv H7;obtain ⟨c, T, f, h1, h2, h3⟩ := hs x len cap hv H7;have hb : x.block < h.size := (z5q.1 h1).1;have := H.blk x.block hb;unfold X4 at this;rw [h1] at this;obtain ⟨c', e1, e2, e3⟩ := this;refine ⟨c', T, f, e1, by rw [e2]; exact h2, fun o h4 h5 => ?_⟩
 obtain ⟨h6, h7⟩ := h3 o h4 h5;exact ⟨(H.tags _ _ hb (by rw [h6]; exact ht)).trans h6, h7⟩
theorem K4.mono {ch : Tag → Prop} {E E' : Env} {h h' : Heap} (H : Pr ch E h E' h') (I9 : X8 E.S h E'.S h') {tg : Tag} {d : DV} {m : Meta} {v : Value}
 (ht : m = .own → ¬ ch tg) (hl : ∀ s o, m = .loc s o → ¬ ch (.SS s)) (R : K4 E h tg d m v) : K4 E' h' tg d m v := by
 cases m <;> simp only [K4] at R ⊢
 case val => exact R.mono I9
 case full => exact ⟨R.1.mono I9, R.2⟩
 case own =>
  obtain ⟨r1, sz, ds, r2, r3⟩ := R;exact ⟨r1.mono I9, sz, ds, r2, r3.mono H (ht rfl)⟩
 case loc s o => rw [H.jH s (hl s o rfl)]; exact R
 case OT ag sz o =>
  obtain ⟨b, o0, r1, r2, r3⟩ := R;exact ⟨b, o0, r1, r2.mono I9, r3⟩
 case ptr i o => rw [(H.Q3 i R.1).1]; exact ⟨z13q R.1 H.n, R.2⟩
 case FT => exact R
 case map i => rw [(H.Q3 i R.1).1]; exact ⟨z13q R.1 H.n, R.2⟩
 case QJ => exact R
 case arr i sz off len => rw [(H.Q3 i R.1).1, (H.Q3 i R.1).2.1, (H.Q3 i R.1).2.2]; exact ⟨z13q R.1 H.n, R.2⟩
 case Yw i sz idx o => rw [(H.Q3 i R.1).1, (H.Q3 i R.1).2.1]; exact ⟨z13q R.1 H.n, R.2⟩
 case opt i sz idx => rw [(H.Q3 i R.1).1, (H.Q3 i R.1).2.1]; exact ⟨z13q R.1 H.n, R.2⟩
 case fn f caps =>
  refine ⟨?_, fun c hc => z13q (R.2 c hc) H.n⟩
  rw [R.1]
  congr 2
  exact List.map_congr_left fun c hc => by rw [(H.Q3 c.1 (R.2 c hc)).1]
theorem RR.mono {ch : Tag → Prop} {E E' : Env} {h h' : Heap} (H : Pr ch E h E' h') (I9 : X8 E.S h E'.S h') {k a : Nat} {d : DV} {m : Meta} {v : Value}
 (ht : ∀ b, ¬ ch (.sp k a b)) (hl : ∀ s o, m = .loc s o → ¬ ch (.SS s)) (R : RR E h k a d m v) : RR E' h' k a d m v := by
 have gen : (∀ ms, m ≠ .Bi ms) → (∀ ms, m ≠ .Ad ms) → K4 E h (.sp k a 0) d m v → K4 E' h' (.sp k a 0) d m v :=
  fun _ _ r => r.mono H I9 (fun _ => ht 0) hl
 cases m <;> simp only [RR] at R ⊢ <;> try (exact gen (by simp) (by simp) R)
 case Bi ms =>
  obtain ⟨ds, vs, h1, h2, h3, h4, h5⟩ := R;exact ⟨ds, vs, h1, h2, h3, h4, fun i m' d' u e1 e2 e3 => let ⟨a0, a4⟩ := h5 i m' d' u e1 e2 e3
   ⟨a0, a4.mono H I9 (fun _ => ht _) fun s o hm => by rw [hm] at a0; simp [X0] at a0⟩⟩
 case Ad ms =>
  obtain ⟨ds, vs, h1, h2, h3, h4, h5⟩ := R;exact ⟨ds, vs, h1, h2, h3, h4, fun i m' d' u e1 e2 e3 => let ⟨a1, a2, a0, a4⟩ := h5 i m' d' u e1 e2 e3
   ⟨a1, a2, a0, a4.mono H I9 (fun _ => ht _) fun s o hm => by rw [hm] at a0; simp [X0] at a0⟩⟩
theorem af.mono {ch : Tag → Prop} {E E' : Env} {h h' : Heap} (H : Pr ch E h E' h') (I9 : X8 E.S h E'.S h') {tg : Tag} (ht : ¬ ch tg) {k a b : Nat} {cs : List (DV × Meta)}
 (hs : ∀ j, ¬ ch (.sp k a j)) (R : af E h tg k a b cs) : af E' h' tg k a b cs := by
 obtain ⟨c, T, h1, h2, h3, h4⟩ := R;have hb : b < h.size := (z5q.1 h1).1;have := H.blk b hb;unfold X4 at this;rw [h1] at this;obtain ⟨c', e1, e2, e3⟩ := this;refine ⟨c', T, e1, e2.trans h2, fun o => ?_, fun j r v hr hv => ?_⟩
 ·rcases h3 o with h5 | h5
  ·exact .inl ((H.tags b o hb (by rw [h5]; exact ht)).trans h5)
  ·exact .inr (by omega)
 ·have hj : j < c.size := by have := (z0q.1 hr).1; omega
  have hne : ¬ ch (E.O b j) := by
   rcases h3 j with h5 | h5
   ·rw [h5]; exact ht
   ·omega
  rw [e3 j hne] at hv;obtain ⟨a1, a2, a0, a3⟩ := h4 j r v hr hv;exact ⟨a1, a2, a0, a3.mono H I9 (fun _ => hs j) fun s o hm => by rw [hm] at a0; simp [X0] at a0⟩
theorem RO.mono {ch : Tag → Prop} {E E' : Env} {h h' : Heap} (H : Pr ch E h E' h') (I9 : X8 E.S h E'.S h') {i : Nat} (hi : i < E.n) (ht : ¬ ch (.obj i))
 (hs : ∀ j, ¬ ch (.sp 2 i j)) {ob : D7} (R : RO E h i ob) : RO E' h' i ob := by
 obtain ⟨ho, B3s, B78⟩ := H.Q3 i hi;cases ob with
 | box cs => simp only [RO] at R ⊢; rw [ho]; exact R.mono H I9 ht hs
 | arr sz ds =>
   simp only [RO] at R ⊢;intro hne;obtain ⟨c, T, h1, h2, hz, h3, h4⟩ := R hne;rw [ho, B3s];have hb : E.obj i < h.size := (z5q.1 h1).1;have := H.blk _ hb;unfold X4 at this;rw [h1] at this;obtain ⟨c', e1, e2, e3⟩ := this;refine ⟨c', T, e1, by omega, hz, fun o h5 h6 => ?_, fun j d hd => ?_⟩
   ·have := h3 o h5 h6
    exact (H.tags _ o hb (by rw [this]; exact ht)).trans this
   ·obtain ⟨vs, v1, v2, v3⟩ := h4 j d hd
    refine ⟨vs, v1, fun x u hu => ?_, v3.mono I9⟩
    have hx : x < sz := by have := (z0q.1 hu).1; omega
    have hj : j < ds.length := (z0q.1 hd).1;have H7 : j * sz + x < ds.length * sz := by
     calc j * sz + x < j * sz + sz := by omega
      _ = (j + 1) * sz := by rw [z26q]
      _ ≤ ds.length * sz := z19q _ hj
    rw [e3 _ (by show ¬ ch _; rw [h3 _ (by omega) (by omega)]; exact ht)]
    exact v2 x u hu
 | opn sz pre ds =>
   simp only [RO] at R ⊢;obtain ⟨c, T, f, h1, h2, ZJ, hz, h3, h4, h5⟩ := R;rw [ho, B3s, B78];have hb : E.obj i < h.size := (z5q.1 h1).1;have := H.blk _ hb;unfold X4 at this;rw [h1] at this;obtain ⟨c', e1, e2, e3⟩ := this;refine ⟨c', T, f, e1, h2, by omega, hz, fun o h6 h7 => ?_, fun j d hd => (h4 j d hd).mono I9, fun j d hd => ?_⟩
   ·have := h3 o h6 h7
    exact ⟨(H.tags _ o hb (by rw [this.1]; exact ht)).trans this.1, this.2⟩
   ·obtain ⟨vs, v1, v2, v3⟩ := h5 j d hd
    refine ⟨vs, v1, fun x u hu => ?_, v3.mono I9⟩
    have hx : x < sz := by have := (z0q.1 hu).1; omega
    have hj : j < ds.length := (z0q.1 hd).1;have H7 : (pre.length + j) * sz + x < (pre.length + ds.length) * sz := by
     calc (pre.length + j) * sz + x < (pre.length + j) * sz + sz := by omega
      _ = (pre.length + j + 1) * sz := by rw [z26q]
      _ ≤ (pre.length + ds.length) * sz := z19q _ (by omega)
    have hge : pre.length * sz ≤ (pre.length + j) * sz := z19q _ (by omega)
    rw [e3 _ (by show ¬ ch _; rw [(h3 _ (by omega) (by omega)).1]; exact ht)]
    exact v2 x u hu
 | map ks es =>
   simp only [RO] at R ⊢;obtain ⟨ens, clk, h1, h2, h3, h4⟩ := R;rw [ho];have hb : E.obj i < h.size := (z5q.1 h1).1;have hk := H.blk _ hb;unfold X4 at hk;rw [h1] at hk;refine ⟨ens, clk, hk (by show ¬ ch _; rw [h2 0]; exact ht), fun o => (H.tags _ o hb (by rw [h2 o]; exact ht)).trans (h2 o), ⟨h3.1, fun j e n he hn => ?_⟩, h4⟩
   obtain ⟨a1, a2, a3⟩ := h3.2 j e n he hn;exact ⟨a1, a2.mono I9, a3.mono I9⟩
end Go.Su

/-
 THE DATA MACHINE, part 5: operands; registers written; how one operation of the model is met.
-/
namespace Go.Su
def J8 (t : Tag) : Prop := t ≠ .other ∧ t ≠ .shut
theorem K4.tag {E : Env} {h : Heap} {tg tg' : Tag} {d : DV} {m : Meta} {v : Value} (hm : m ≠ .own) (R : K4 E h tg d m v) : K4 E h tg' d m v := by
 cases m <;> simp only [K4] at R ⊢ <;> first | exact R | exact absurd rfl hm
theorem K4.Xk {E : Env} {h : Heap} {tg tg' : Tag} {d : DV} {m : Meta} {v : Value} (R : K4 E h tg d m v) : K4 E h tg' d (Xk m) v := by
 cases m <;> simp only [K4, Su.Xk] at R ⊢ <;> first | exact R | exact R.1
theorem RR.Bg {E : Env} {h : Heap} {k a : Nat} {d : DV} {m : Meta} {v : Value} (R : K4 E h (.sp k a 0) d m v) : RR E h k a d m v := by
 cases m <;> first | exact R | (simp only [K4] at R)
theorem RR.yn {E : Env} {h : Heap} {k a : Nat} {d : DV} {m : Meta} {v : Value} (h1 : ∀ ms, m ≠ .Bi ms) (h2 : ∀ ms, m ≠ .Ad ms) (R : RR E h k a d m v) : K4 E h (.sp k a 0) d m v := by
 cases m <;> first | exact R | exact absurd rfl (h1 _) | exact absurd rfl (h2 _)
theorem RR.dm {E : Env} {h : Heap} {k a k' a' : Nat} {d : DV} {m : Meta} {v : Value} (R : RR E h k a d m v) : RR E h k' a' d (dm m) v := by
 cases m
 case Ad ms =>
  simp only [RR, Su.dm] at R ⊢;obtain ⟨ds, vs, h1, h2, h3, h4, h5⟩ := R;refine ⟨ds, vs, h1, h2, by simpa using h3, by simpa using h4, fun i m' d' u e1 e2 e3 => ?_⟩
  simp only [z7q, z8q] at e1;obtain ⟨m0, e1, rfl⟩ := e1;obtain ⟨a1, a2, a0, a4⟩ := h5 i m0 d' u e1 e2 e3;exact ⟨a1, a2, by cases m0 <;> simp_all [X0, Su.Xk], a4.Xk⟩
 case Bi ms =>
  simp only [RR, Su.dm] at R ⊢;obtain ⟨ds, vs, h1, h2, h3, h4, h5⟩ := R;refine ⟨ds, vs, h1, h2, by simpa using h3, by simpa using h4, fun i m' d' u e1 e2 e3 => ?_⟩
  simp only [z7q, z8q] at e1;obtain ⟨m0, e1, rfl⟩ := e1;obtain ⟨a0, a4⟩ := h5 i m0 d' u e1 e2 e3;exact ⟨by cases m0 <;> simp_all [X0, Su.Xk], a4.Xk⟩
 all_goals exact RR.Bg (K4.Xk (RR.yn (by simp) (by simp) R))
theorem RR.data {E : Env} {h : Heap} {k a : Nat} {d : DV} {m : Meta} {v : Value} (hm : J3 m = true) (R : RR E h k a d m v) : RV E.S h d v := by
 cases m <;> simp only [J3] at hm <;> try contradiction
 ·exact R
 ·exact R.1
 ·exact R.1
 ·obtain ⟨rfl, rfl⟩ := (R : _ ∧ _)
  simp only [RV]
 ·rename_i ms
  simp only [RR] at R;obtain ⟨ds, vs, rfl, rfl, h3, h4, h5⟩ := R;simp only [RV];refine ⟨vs, rfl, EP.2 ⟨by simp [h3, h4], fun i d v hd hv => ?_⟩⟩
  have hi : i < ms.length := by have := (z0q.1 hd).1; omega
  have hmi : ms[i]? = some ms[i] := z3q hi;obtain ⟨a1, a2, a0, a4⟩ := h5 i _ d v hmi hd (by simpa using hv)
  refine ⟨a1, Rw a1 a2 ?_⟩;have := z36q.1 hm ms[i] (List.getElem_mem hi);cases hx : ms[i] <;> simp only [hx] at this a4 <;> first | contradiction | exact a4 | exact a4.1 | (obtain ⟨rfl, rfl⟩ := (a4 : _ ∧ _); simp only [RV])
theorem RR.val {E : Env} {h : Heap} {k a : Nat} {d : DV} {v : Value} (R : RV E.S h d v) : RR E h k a d .val v := R
theorem A2I {P : Program} {t : TypeId} {v : Value} {r : DV × Meta} {E : Env} {h : Heap} (H : cst P t v = some r) (k a : Nat) : RR E h k a r.1 r.2 v := by
 unfold cst at H
 split at H <;> simp only [Option.some.injEq, reduceCtorEq] at H <;> subst H <;> simp only [RR, K4, RV, and_self]
 refine ⟨?_, ⟨_, _, rfl⟩, _, _, rfl⟩;simp only [RC];exact ⟨none, 0, 0, rfl, rfl, z15q _, fun _ => rfl, by simp, fun x hx => by simp at hx⟩
theorem A4K {P : Program} {t : TypeId} {v : Value} {r : DV × Meta} (H : cst P t v = some r) (ms : List Meta) : r.2 ≠ .Ad ms := by
 unfold cst at H
 split at H <;> simp only [Option.some.injEq, reduceCtorEq] at H <;> subst H <;> simp
theorem Xi {P : Program} {t : TypeId} {v : Value} {r : DV × Meta} (H : cst P t v = some r) : r.2 ≠ .own ∧ (∀ ms, r.2 ≠ .Bi ms) := by
 unfold cst at H
 split at H <;> simp only [Option.some.injEq, reduceCtorEq] at H <;> subst H <;> simp
def mW : Operand → Nat
 | .tmp t => t
 | _ => 0
theorem gY {st : St} {t : Nat} (ht : st.tm.length ≤ t) (hm : st.mt.length = st.tm.length) : st.get t = (.undef, .val) := by
 simp [St.get, z1q, z22q ht, z22q (hm ▸ ht)]
theorem J2.src {P : Program} {t : TypeId} {st : St} {E : Env} {a : Act} {h : Heap} (R : J2 E st a h) {x : Operand} {r : DV × Meta} (H : src P t st x = some r) :
 RR E h 0 (mW x) r.1 r.2 (a.eval x) := by
 cases x with
 | tmp i =>
   simp only [Su.src, Option.some.injEq] at H;subst H;simp only [mW, Act.eval]
   by_cases hi : i < a.tmps.size
   ·have : a.tmps[i]? = some a.tmps[i] := z25q hi
    simpa [Array.getD_eq_getD_getElem?, this] using R.regs i _ this
   ·have Vh : st.tm.length ≤ i := by rw [← R.size]; exact Nat.le_of_not_lt hi
    rw [gY Vh R.Aq];simp only [RR, K4, RV]
 | const v => exact A2I H _ _
 | func f =>
   simp only [Su.src, Option.some.injEq] at H;subst H;simp only [RR, K4, Act.eval];exact ⟨rfl, by simp⟩
 | global g => simp [Su.src] at H
theorem J2.A82 {P : Program} {t : TypeId} {st : St} {E : Env} {a : Act} {h : Heap} {x : Operand} {r : DV × Meta} (H : Su.src P t st x = some r)
 (hx : ∀ i, x ≠ .tmp i) (k b : Nat) : RR E h k b r.1 r.2 (a.eval x) := by
 cases x with
 | tmp i => exact absurd rfl (hx i)
 | const v => exact A2I H _ _
 | func f =>
   simp only [Su.src, Option.some.injEq] at H;subst H;simp only [RR, K4, Act.eval];exact ⟨rfl, by simp⟩
 | global g => simp [Su.src] at H
theorem mX (st : St) (dst : Option Nat) (d : DV) (m : Meta) : (st.put dst d m).tm.length = st.tm.length := by cases dst <;> simp [St.put]
theorem B1s (st : St) (dst : Option Nat) (d : DV) (m : Meta) : (st.put dst d m).mt.length = st.mt.length := by cases dst <;> simp [St.put]
@[simp] theorem A3w (st : St) (dst : Option Nat) (d : DV) (m : Meta) : (st.put dst d m).bx = st.bx := by cases dst <;> rfl
@[simp] theorem yG (st : St) (dst : Option Nat) (d : DV) (m : Meta) : (st.put dst d m).sg = st.sg := by cases dst <;> rfl
theorem VJ {st : St} {t : Nat} {d : DV} {m : Meta} (ht : t < st.tm.length) (hm : st.mt.length = st.tm.length) : (st.put (some t) d m).get t = (d, m) := by
 simp [St.put, St.get, z1q, z6q ht, z6q (hm ▸ ht)]
theorem tX {st : St} {t u : Nat} {d : DV} {m : Meta} (h : t ≠ u) : (st.put (some t) d m).get u = st.get u := by
 simp [St.put, St.get, z1q, z12q h]
theorem aj (a : Act) (dst : Option Nat) (v : Value) : (a.put dst v).tmps.size = a.tmps.size := by cases dst <;> simp [Act.put]
theorem kH (a : Act) (dst : Option Nat) (v : Value) : (a.put dst v).defers = a.defers := by cases dst <;> rfl
theorem J2.put {E : Env} {st : St} {a : Act} {h : Heap} (R : J2 E st a h) {dst : Option Nat} {d : DV} {m : Meta} {v : Value}
 (hv : ∀ t, dst = some t → RR E h 0 t d m v) : J2 E (st.put dst d m) (a.put dst v) h := by
 refine ⟨by rw [aj, mX]; exact R.size, by rw [B1s, mX]; exact R.Aq, by rw [A3w, mX]; exact R.Cs, by rw [yG]; exact R.n, fun u w hu => ?_,
  fun s cs hs => R.boxes s cs (by rwa [A3w] at hs), fun i ob hi => R.Q3 i ob (by rwa [yG] at hi), R.fresh⟩
 cases dst with
 | none => exact R.regs u w hu
 | some t =>
   by_cases htu : t = u
   ·subst htu
    have ht : t < a.tmps.size := by
     have := (z5q.1 hu).1;simpa [Act.put] using this
    rw [VJ (by rw [← R.size]; exact ht) R.Aq]
    simp only [Act.put, z24q ht, Option.some.injEq] at hu;subst hu;exact hv t rfl
   ·rw [tX htu]
    simp only [Act.put, z28q htu] at hu;exact R.regs u w hu
def Gp (P : Program) (o : Oper) (a : Act) (w : World) (K : Act → World → Prop) : Prop :=
 (∃ v w', (execOp a.eval o).run P w = .ok (.value v) w' ∧ K (a.put o.dst v) w') ∨ (∃ w', (execOp a.eval o).run P w = .ok .skip w' ∧ K (a.put o.dst undef) w') ∨
   ∃ f args, (execOp a.eval o).run P w = .ok (.enter f args) w ∧ Calls P f args w fun e w' => ∃ v, e = .returned v ∧ K (a.put o.dst v) w'
theorem Gp.mono {P : Program} {o : Oper} {a : Act} {w : World} {K K' : Act → World → Prop} (H : Gp P o a w K) (h : ∀ a' w', a'.defers = a.defers → K a' w' → K' a' w') : Gp P o a w K' := by
 have hd : ∀ v, (a.put o.dst v).defers = a.defers := fun v => kH a o.dst v
 rcases H with ⟨v, w', h1, h2⟩ | ⟨w', h1, h2⟩ | ⟨f, args, h1, h2⟩
 ·exact .inl ⟨v, w', h1, h _ _ (hd v) h2⟩
 ·exact .inr (.inl ⟨w', h1, h _ _ (hd _) h2⟩)
 ·exact .inr (.inr ⟨f, args, h1, h2.mono fun e w' ⟨v, he, hk⟩ => ⟨v, he, h _ _ (hd v) hk⟩⟩)
theorem Bv {P : Program} {o : Oper} {a : Act} {w w' : World} {K : Act → World → Prop} {v : Value}
 (h : (execOp a.eval o).run P w = .ok (.value v) w') (hk : K (a.put o.dst v) w') : Gp P o a w K := .inl ⟨v, w', h, hk⟩
theorem Sc {P : Program} {o : Oper} {a : Act} {w w' : World} {K : Act → World → Prop}
 (h : (execOp a.eval o).run P w = .ok .skip w') (hk : K (a.put o.dst undef) w') : Gp P o a w K := .inr (.inl ⟨w', h, hk⟩)
theorem C_ {P : Program} {x : Sem Value} {w w' : World} {v : Value} (h : x.run P w = .ok v w') :
 (do pure (Next.value (← x)) : Sem Next).run P w = .ok (.value v) w' := by
 simp [h]
theorem B3F {P : Program} {x : Sem Unit} {w w' : World} (h : x.run P w = .ok () w') :
 (do x; pure Next.skip : Sem Next).run P w = .ok .skip w' := by
 simp [h]
theorem C8 {α β : Type} {x : Option α} {f : α → Option β} {b : β} (h : ob x f = some b) : ∃ a, x = some a ∧ f a = some b := by
 cases x with
 | none => simp [ob] at h
 | some a => exact ⟨a, rfl, h⟩
theorem F8 {β : Type} {t : Bool} {x : Option β} {b : β} (h : og t x = some b) : t = true ∧ x = some b := by
 cases t with
 | false => simp [og] at h
 | true => exact ⟨rfl, h⟩
theorem OP {β : Type} {d : DV} {t e : Option β} {b : β} (h : D6 d t e = some b) : (d = .bool true ∧ t = some b) ∨ (d = .bool false ∧ e = some b) := by
 unfold D6 at h
 split at h
 ·exact .inl ⟨rfl, h⟩
 ·exact .inr ⟨rfl, h⟩
 ·simp at h
theorem M3 {β : Type} {c : Prop} [Decidable c] {x : Option β} {b : β} (h : (if c then x else none) = some b) : c ∧ x = some b := by
 split at h
 ·exact ⟨‹_›, h⟩
 ·simp at h
theorem IU {P : Program} {t : TypeId} {z : Nat × Bool} (H : tz P t = some z) : ∃ i d, P.info? t = some i ∧ P.underlying t = some d ∧ z = (i.size, A6K d) ∧ (z.2 = false → z.1 = 1) := by
 unfold tz at H;obtain ⟨i, hi, H⟩ := C8 H;obtain ⟨d, hd, H⟩ := C8 H;obtain ⟨hc, H⟩ := M3 H;simp only [Option.some.injEq] at H;subst H;refine ⟨i, d, hi, hd, rfl, fun h => ?_⟩
 simp only at h;simpa [h] using hc
theorem A7R {P : Program} {t : TypeId} {z : Nat × Bool} (H : tz P t = some z) (w : World) : (isAgg t).run P w = .ok z.2 w := by
 obtain ⟨i, d, hi, hd, rfl, -⟩ := IU H;unfold isAgg;simp only [Sem.run_bind, run_underlying hd, Result.andThen_ok];cases d <;> rfl
theorem Oe {P : Program} {t : TypeId} {z : Nat × Bool} (H : tz P t = some z) (w : World) : (sizeOf t).run P w = .ok z.1 w := by
 obtain ⟨i, d, hi, hd, rfl, -⟩ := IU H;simp [sizeOf, typeInfo, hi]
end Go.Su

/-
 THE DATA MACHINE, part 6: operations that make a value and leave memory as it is.
-/
namespace Go.Su
theorem B3U (m : Meta) : Xk (Xk m) = Xk m := by cases m <;> rfl
theorem B6I (m : Meta) : dm (dm m) = dm m := by
 cases m <;> simp only [dm]
 all_goals simp [B3U]
theorem RR.A6g {E : Env} {h : Heap} {k a k' a' : Nat} {d : DV} {m : Meta} {v : Value} (R : RR E h k a d (Su.dm m) v) : RR E h k' a' d (Su.dm m) v := by
 have := R.dm (k' := k') (a' := a')
 rwa [B6I] at this
def Env.re (E : Env) (f : Tag → Tag) : Env := { E with O := fun b o => f (E.O b o) }
theorem Pr.re {E : Env} {h : Heap} {f : Tag → Tag} {ch : Tag → Prop} (hf : ∀ T, ¬ ch T → f T = T) : Pr ch E h (E.re f) h :=
 ⟨z15q _, fun _ _ => X4.refl _ _, fun _ _ _ hn => hf _ hn, z15q _, fun _ _ => ⟨rfl, rfl, rfl⟩, fun _ _ => rfl⟩
theorem Jq {E : Env} {h : Heap} {f : Tag → Tag} (hf : f .shut = .shut) : X8 E.S h (E.re f).S h :=
 ⟨fun b o hs => by simp only [Env.S, Env.re] at hs ⊢; rw [hs, hf], fun _ _ _ _ hv => hv⟩
theorem K4.re {E : Env} {h : Heap} {f : Tag → Tag} {tg tg' : Tag} {d : DV} {m : Meta} {v : Value} (hs : f .shut = .shut) (ht : f tg = tg') (R : K4 E h tg d m v) :
 K4 (E.re f) h tg' d m v := by
 cases m <;> simp only [K4] at R ⊢
 case val => exact R.mono (Jq hs)
 case full => exact ⟨R.1.mono (Jq hs), R.2⟩
 case own =>
  obtain ⟨r1, sz, ds, r2, r3⟩ := R;refine ⟨r1.mono (Jq hs), sz, ds, r2, fun x len cap hv H7 => ?_⟩
  obtain ⟨c, T, g, e1, e2, e3⟩ := r3 x len cap hv H7;refine ⟨c, T, g, e1, e2, fun o ho ho' => ?_⟩
  obtain ⟨e4, e5⟩ := e3 o ho ho';exact ⟨by simp only [Env.re]; rw [e4, ht], e5⟩
 case OT ag sz o =>
  obtain ⟨b, o0, r1, r2, r3⟩ := R;exact ⟨b, o0, r1, r2.mono (Jq hs), r3⟩
 all_goals exact R
theorem RR.re {E : Env} {h : Heap} {f : Tag → Tag} {k a k' a' : Nat} {d : DV} {m : Meta} {v : Value} (hs : f .shut = .shut) (ho : f .other = .other) (ht : ∀ b, f (.sp k a b) = .sp k' a' b) (R : RR E h k a d m v) :
 RR (E.re f) h k' a' d m v := by
 cases m
 case Bi ms =>
  simp only [RR] at R ⊢;obtain ⟨ds, vs, h1, h2, h3, h4, h5⟩ := R;exact ⟨ds, vs, h1, h2, h3, h4, fun i m' d' u e1 e2 e3 => let ⟨a0, a4⟩ := h5 i m' d' u e1 e2 e3; ⟨a0, a4.re hs (ht _)⟩⟩
 case Ad ms =>
  simp only [RR] at R ⊢;obtain ⟨ds, vs, h1, h2, h3, h4, h5⟩ := R;exact ⟨ds, vs, h1, h2, h3, h4, fun i m' d' u e1 e2 e3 => let ⟨a1, a2, a0, a4⟩ := h5 i m' d' u e1 e2 e3; ⟨a1, a2, a0, a4.re hs (ht _)⟩⟩
 all_goals exact RR.Bg ((RR.yn (by simp) (by simp) R).re hs (ht 0))
theorem J2.release {E : Env} {st : St} {a : Act} {h : Heap} (R : J2 E st a h) {x : Operand} {f : Tag → Tag}
 (hf : ∀ T, (∀ s b, x = .tmp s → T ≠ .sp 0 s b) → f T = T) : J2 (E.re f) (st.release x) a h := by
 have FI : f .shut = .shut := hf _ (by simp)
 have OI : f .other = .other := hf _ (by simp)
 have P : Pr (fun T => ∃ s b, x = .tmp s ∧ T = .sp 0 s b) E h (E.re f) h := Pr.re fun T hT => hf T fun s b hx hb => hT ⟨s, b, hx, hb⟩
 have I9 : X8 E.S h (E.re f).S h := Jq FI;have lm : (st.release x).mt.length = st.mt.length := by cases x <;> simp [St.release]
 have lt : (st.release x).tm = st.tm := by cases x <;> simp [St.release]
 have lb : (st.release x).bx = st.bx := by cases x <;> simp [St.release]
 have lg : (st.release x).sg = st.sg := by cases x <;> simp [St.release]
 refine ⟨by rw [lt]; exact R.size, by rw [lm, lt]; exact R.Aq, by rw [lb, lt]; exact R.Cs, by rw [lg]; exact R.n, fun u v hu => ?_, fun s cs hs => ?_, fun i ob hi => ?_, fun b o hb => ?_⟩
 ·have h0 := R.regs u v hu
  by_cases hx : x = .tmp u
  ·subst hx
   have hg : (st.release (.tmp u)).get u = ((st.get u).1, dm (st.get u).2) := by
    have Px : u < st.tm.length := by rw [← R.size]; exact (z5q.1 hu).1
    simp [St.release, St.get, z1q, z6q (R.Aq ▸ Px)]
   rw [hg];have h1 : RR E h 9 0 (st.get u).1 (dm (st.get u).2) v := h0.dm;have h2 : RR (E.re f) h 9 0 (st.get u).1 (dm (st.get u).2) v := h1.re FI OI fun b => hf _ (by simp)
   exact h2.A6g
  ·have hg : (st.release x).get u = st.get u := by
    cases x with
    | tmp s =>
      have : s ≠ u := fun e => hx (by rw [e])
      simp [St.release, St.get, z1q, z12q this]
    | _ => rfl
   rw [hg];exact h0.re FI OI fun b => hf _ fun s b' hs he => by simp only [Tag.sp.injEq] at he; exact hx (by rw [hs, he.2.1])
 ·exact (R.boxes s cs (by rwa [lb] at hs)).mono P I9 (by simp) (by simp)
 ·exact (R.Q3 i ob (by rwa [lg] at hi)).mono P I9 (by rw [← R.n]; rw [lg] at hi; exact (z0q.1 hi).1) (by simp) (by simp)
 ·simp only [Env.re]; rw [R.fresh b o hb, OI]
def iE (x : Operand) (k t : Nat) (T : Tag) : Tag :=
 match x, T with
 | .tmp s', .sp 0 s b => if s' = s then .sp k t b else .sp 0 s b
 | _, T => T
theorem OM {x : Operand} {k t : Nat} {T : Tag} (h : ∀ s b, x = .tmp s → T ≠ .sp 0 s b) : iE x k t T = T := by
 unfold iE
 split
 ·split
  ·rename_i hx; subst hx; exact absurd rfl (h _ _ rfl)
  ·rfl
 ·rfl
section
variable {X : Type} {C : X5} {R : N7} {o : Oper} {st : St} {k : St → Option X} {x : X} {E : Env} {a : Act} {w : World} {K : Act → World → Prop} {Q : Exit → Act → World → Prop}
def Then (E : Env) (w : World) (k : St → Option X) (x : X) (K : Act → World → Prop) : Prop :=
 ∀ E' st' a' w', k st' = some x → J2 E' st' a' w'.heap → Pr J8 E w.heap E' w'.heap → (_ : Q5 w w' := by exact ⟨rfl, rfl, rfl⟩) → K a' w'
theorem X7 {d : DV} {m : Meta} {v : Value} (hr : (execOp a.eval o).run C.P w = .ok (.value v) w) (hk : k (st.put o.dst d m) = some x) (Rl : J2 E st a w.heap)
 (hv : ∀ t, o.dst = some t → RR E w.heap 0 t d m v) (T : Then E w k x K) : Gp C.P o a w K :=
 Bv hr (T E _ _ w hk (Rl.put hv) (Pr.refl _ _ _))
theorem B3c {P : Program} {t : TypeId} {y : Operand} {r : DV × Meta} (hr : (execOp a.eval o).run C.P w = .ok (.value (a.eval y)) w) (hs : src P t st y = some r)
 (hk : k ((st.release y).put o.dst r.1 r.2) = some x) (Rl : J2 E st a w.heap) (T : Then E w k x K) : Gp C.P o a w K := by
 refine Bv hr ?_;cases hd : o.dst with
 | none =>
   rw [hd] at hk;have P1 : Pr J8 E w.heap (E.re id) w.heap := Pr.re fun _ _ => rfl
   exact T (E.re id) _ _ w hk ((Rl.release (x := y) (f := id) fun _ _ => rfl).put (fun t ht => by simp at ht)) P1
 | some t0 =>
   rw [hd] at hk;have P1 : Pr J8 E w.heap (E.re (iE y 0 t0)) w.heap := Pr.re fun T hT => OM fun s b _ he => hT (by rw [he]; simp [J8])
   refine T (E.re (iE y 0 t0)) _ _ w hk ((Rl.release fun T hT => OM hT).put fun t ht => ?_) P1
   simp only [Option.some.injEq] at ht;subst ht
   by_cases hy : ∃ i, y = .tmp i
   ·obtain ⟨i, rfl⟩ := hy
    have := Rl.src hs;refine this.re (OM (by simp)) (OM (by simp)) fun b => ?_
    simp [iE, mW]
   ·have := J2.A82 (E := E) (a := a) (h := w.heap) hs (fun i hi => hy ⟨i, hi⟩) 9 0
    have h2 : RR (E.re (iE y 0 t0)) w.heap 9 0 r.1 r.2 (a.eval y) := this.re (OM (by simp)) (OM (by simp)) fun b => OM (by simp)
    have Ey : dm r.2 = r.2 := by
     cases y with
     | tmp i => exact absurd ⟨i, rfl⟩ hy
     | const v =>
       obtain ⟨h1, h3⟩ := Xi hs;have h4 := A4K hs;cases hm : r.2 <;> simp_all [dm]
     | func f => simp only [src, Option.some.injEq] at hs; subst hs; rfl
     | global g => simp [src] at hs
    rw [← Ey] at h2 ⊢;exact h2.A6g
theorem A7i {fl : Flags} {y : Operand} {t : TypeId} (hr : (execOp a.eval o).run C.P w = .ok (.value (a.eval y)) w)
 (H : (ob (src C.P t st y) fun r => if K8 fl.M0 o.dst then k ((st.release y).put o.dst r.1 r.2) else k (st.put o.dst r.1 (dm r.2))) = some x)
 (Rl : J2 E st a w.heap) (T : Then E w k x K) : Gp C.P o a w K := by
 obtain ⟨r, hs, H⟩ := C8 H
 split at H
 ·exact B3c hr hs H Rl @T
 ·exact X7 hr H Rl (fun t _ => (Rl.src hs).dm) @T
end
end Go.Su

/-
 THE DATA MACHINE, part 7: arithmetic, comparison, indexes, lengths, parts of strings and slices.
-/
namespace Go.Su
theorem B_ {S : Q6} {h : Heap} {k : IntKind} {n : Int} {v : Value} : RV S h (.int k n) v ↔ v = .int k n := by simp only [RV]
theorem Me {S : Q6} {h : Heap} {b : Bool} {v : Value} : RV S h (.bool b) v ↔ v = .bool b := by simp only [RV]
theorem Xd {S : Q6} {h : Heap} {s : ByteArray} {v : Value} : RV S h (.str s) v ↔ v = .string s := by simp only [RV]
theorem B2a {op : UnOp} {y d : DV} (h : O9 op y = some d) : (∃ b, op = .not ∧ y = .bool b ∧ d = .bool !b) ∨ (∃ k n, op = .neg ∧ y = .int k n ∧ d = .int k (k.wrap (0 - n))) := by
 unfold O9 at h
 split at h <;> simp only [Option.some.injEq, reduceCtorEq] at h <;> subst h
 ·exact .inl ⟨_, rfl, rfl, rfl⟩
 ·exact .inr ⟨_, _, rfl, rfl, rfl⟩
theorem A9o {c y z d : DV} (h : A5O c y z = some d) : (c = .bool true ∧ d = y) ∨ (c = .bool false ∧ d = z) := by
 unfold A5O at h
 split at h <;> simp only [Option.some.injEq, reduceCtorEq] at h <;> subst h
 ·exact .inl ⟨rfl, rfl⟩
 ·exact .inr ⟨rfl, rfl⟩
theorem A9l {kd : IntKind} {y d : DV} (h : A5N kd y = some d) : ∃ k n, y = .int k n ∧ d = .int kd (kd.wrap n) := by
 unfold A5N at h
 split at h <;> simp only [Option.some.injEq, reduceCtorEq] at h <;> subst h
 exact ⟨_, _, rfl, rfl⟩
theorem A4L {i : Nat} {y d : DV} (h : O4 i y = some d) : ∃ cs, y = .I6 cs ∧ cs[i]? = some d := by
 unfold O4 at h
 split at h
 ·exact ⟨_, rfl, h⟩
 ·simp at h
theorem B0E {sz : Nat} {y i d : DV} (h : E8 sz y i = some d) : ∃ ds kd n, y = .list sz ds ∧ i = .int kd n ∧ 0 ≤ n ∧ ds[n.toNat]? = some d := by
 unfold E8 at h
 split at h
 ·obtain ⟨⟨Y9, h0⟩, hd⟩ := M3 h
  subst Y9;exact ⟨_, _, _, rfl, rfl, h0, hd⟩
 ·simp at h
theorem A7W {off len n : Nat} {i : DV} (h : A54 off len i = some n) : ∃ (kd : IntKind) (q : Int), i = .int kd q ∧ 0 ≤ q ∧ q < len ∧ n = off + q.toNat := by
 unfold A54 at h
 split at h
 ·obtain ⟨⟨h0, H7⟩, hn⟩ := M3 h
  simp only [Option.some.injEq] at hn;exact ⟨_, _, rfl, h0, H7, hn.symm⟩
 ·simp at h
theorem A2F : ∀ x y : List UInt8, Op.bytesLess x y = PP x y
 | _, [] => by simp [Op.bytesLess, PP]
 | [], _ :: _ => by simp [Op.bytesLess, PP]
 | a :: x, b :: y => by simp [Op.bytesLess, PP, A2F x y]
section
variable {X : Type} {C : X5} {R : N7} {o : Oper} {st : St} {k : St → Option X} {x : X} {E : Env} {a : Act} {w : World} {K : Act → World → Prop} {Q : Exit → Act → World → Prop}
theorem AA {d : DV} {v : Value} (hr : (execOp a.eval o).run C.P w = .ok (.value v) w) (hk : k (st.put o.dst d .val) = some x) (Rl : J2 E st a w.heap)
 (hv : RV E.S w.heap d v) (T : Then E w k x K) : Gp C.P o a w K :=
 X7 hr hk Rl (fun _ _ => hv) @T
theorem B20 {P : Program} {S : Q6} {h : Heap} {op : BinOp} {t : TypeId} {x y : Operand} {dx dy d : DV} {vx vy : Value} (H : A8 op dx dy = some d) (hx : RV S h dx vx) (hy : RV S h dy vy) (w : World) :
 ∃ v, (do eqGuard op t x y vx vy; binOp op t vx vy : Sem Value).run P w = .ok v w ∧ RV S h d v := by
 unfold A8 at H
 split at H
 ·rw [B_] at hx hy
  subst hx hy
  split at H
  ·rename_i VC
   unfold B0K at H
   split at H
   ·cases H
   ·rename_i hb
    cases op <;> simp only [Kl, z23q] at VC <;> simp only [Option.some.injEq] at H <;> subst H <;>
     (refine ⟨_, ?_, by simp only [RV]; rfl⟩; simp [eqGuard_at_int, binOp, Op.shift, hb])
  obtain ⟨hk, H1⟩ := M3 H;clear H;subst hk
  by_cases hq : op = .quo ∨ op = .rem
  ·rcases hq with rfl | rfl <;> simp only [MN] at H1 <;> split at H1 <;> simp only [reduceCtorEq, Option.some.injEq] at H1 <;> subst H1 <;>
    (rename_i hb; refine ⟨_, ?_, by simp only [RV]; rfl⟩; simp [eqGuard_at_int, binOp, Op.intDiv, hb])
  simp only [not_or] at hq;cases op <;> (try exact absurd rfl hq.1) <;> (try exact absurd rfl hq.2) <;> simp only [MN, reduceCtorEq, Option.some.injEq] at H1 <;> subst H1 <;>
   (refine ⟨_, ?_, by simp only [RV]; rfl⟩; simp [eqGuard_at_int, binOp, Op.intArith, Op.intCmp, Op.intBits])
 ·rw [Xd] at hx hy
  subst hx hy;cases op <;> simp only [kQ, reduceCtorEq, Option.some.injEq] at H
  case add =>
   obtain ⟨hc, H1⟩ := M3 H;clear H;simp only [Option.some.injEq] at H1;subst H1;refine ⟨_, ?_, by simp only [RV]; rfl⟩
   rename_i sa sb;have : ¬ (((sa.size + sb.size : Nat) : Int) > IntKind.i64.max) := by
    rw [IntKind.max_i64];have := hc;unfold lim at this;omega
   simp only [eqGuard_at_string, binOp, Op.stringOp, Sem.run_bind, Sem.run_pure, Result.andThen_ok];rw [if_neg this];rfl
  all_goals
   subst H;refine ⟨_, ?_, by simp only [RV]; rfl⟩
   simp [eqGuard_at_string, binOp, Op.stringOp, A2F]
 ·simp at H
theorem B3a {c y z : Operand} (E9 : o.op = .pick c y z) 
 (H : (ob (src C.P 0 st c) fun rc => ob (src C.P o.type st y) fun ra => ob (src C.P o.type st z) fun rb =>
   og (J3 rc.2 && J3 ra.2 && J3 rb.2) (ob (A5O rc.1 ra.1 rb.1) fun d => k (st.put o.dst d .val))) = some x)
 (Rl : J2 E st a w.heap) (T : Then E w k x K) : Gp C.P o a w K := by
 obtain ⟨rc, h1, H⟩ := C8 H;obtain ⟨ra, h2, H⟩ := C8 H;obtain ⟨rb, h3, H⟩ := C8 H;obtain ⟨hc, H⟩ := F8 H;obtain ⟨d, hd, H⟩ := C8 H;simp only [z9q] at hc;have e1 := (Rl.src h1).data hc.1.1;have e2 := (Rl.src h2).data hc.1.2;have e3 := (Rl.src h3).data hc.2;rcases A9o hd with ⟨hb, hd⟩ | ⟨hb, hd⟩
 ·rw [hb, Me] at e1
  subst hd;refine AA (v := a.eval y) ?_ H Rl e2 @T;simp [execOp, E9, e1, asBool]
 ·rw [hb, Me] at e1
  subst hd;refine AA (v := a.eval z) ?_ H Rl e3 @T;simp [execOp, E9, e1, asBool]
theorem B6o {op : UnOp} {t : TypeId} {y : Operand} (E9 : o.op = .unOp op t y)
 (H : (ob (src C.P t st y) fun r => og (J3 r.2) (ob (O9 op r.1) fun d => k (st.put o.dst d .val))) = some x)
 (Rl : J2 E st a w.heap) (T : Then E w k x K) : Gp C.P o a w K := by
 obtain ⟨r, h1, H⟩ := C8 H;obtain ⟨hc, H⟩ := F8 H;obtain ⟨d, hd, H⟩ := C8 H;have e1 := (Rl.src h1).data hc;rcases B2a hd with ⟨b, rfl, hb, rfl⟩ | ⟨kd, n, rfl, hb, rfl⟩
 ·rw [hb, Me] at e1
  refine AA (v := .bool _) ?_ H Rl (by rw [Me]) @T
  simp [execOp, E9, e1, Op.unary]
 ·rw [hb, B_] at e1
  refine AA (v := .int _ _) ?_ H Rl (by rw [B_]) @T
  simp [execOp, E9, e1, Op.unary, Op.intArith]
theorem B27 {t u : TypeId} {y : Operand} (E9 : o.op = .convert t u y)
 (H : (ob (src C.P t st y) fun r => match C.P.underlying u with
   | some (.int kd) => og (J3 r.2 && (C.P.underlying t).isSome) (ob (A5N kd r.1) fun d => k (st.put o.dst d .val))
   | _ => none) = some x)
 (Rl : J2 E st a w.heap) (T : Then E w k x K) : Gp C.P o a w K := by
 obtain ⟨r, h1, H⟩ := C8 H
 split at H
 ·rename_i kd hu
  obtain ⟨hc, H⟩ := F8 H;obtain ⟨d, hd, H⟩ := C8 H;simp only [z9q] at hc;have e1 := (Rl.src h1).data hc.1;obtain ⟨dt, ht⟩ := Option.isSome_iff_exists.1 hc.2;obtain ⟨_, _, hb, rfl⟩ := A9l hd;rw [hb, B_] at e1;refine AA (v := .int _ _) ?_ H Rl (by rw [B_]) @T
  simp only [execOp, E9];refine C_ ?_;simp only [convert, e1, Sem.run_bind, run_underlying ht, run_underlying hu, Result.andThen_ok];cases dt <;> rfl
 ·simp at H
theorem B4I {y : Operand} {i : Nat} {r : DV × Meta} {d : DV} {m : Meta} (E9 : o.op = .extract y i) (h1 : src C.P 0 st y = some r) (hm : r.2 = .val) (hd : O4 i r.1 = some d)
 (hmv : m = .val) (H : k (st.put o.dst d m) = some x) (Rl : J2 E st a w.heap) (T : Then E w k x K) : Gp C.P o a w K := by
 subst hmv;have e1 := (Rl.src h1).data (by rw [hm]; rfl)
 obtain ⟨cs, hb, hd⟩ := A4L hd;rw [hb] at e1;simp only [RV] at e1;obtain ⟨vs, hv, hr⟩ := e1;obtain ⟨l1, l2⟩ := Vs.1 hr;have hi := (z0q.1 hd).1;have hvi : vs.toList[i]? = some (vs.toList[i]'(by omega)) := z3q (by omega)
 refine AA (v := vs.toList[i]'(by omega)) ?_ H Rl (l2 i d _ hd hvi) @T
 simp only [execOp, E9];refine C_ ?_;have B8b : vs[i]? = some (vs.toList[i]'(by omega)) := by simp
 simp only [Instr.extract, hv, B8b, Sem.run_pure]
theorem A5q {t : TypeId} {y : Operand} {f : Nat} (E9 : o.op = .fieldAddr t y f) (H : Qg C o t y f st k = some x) (Rl : J2 E st a w.heap) (T : Then E w k x K) : Gp C.P o a w K := by
 unfold Qg at H;obtain ⟨r, h1, H⟩ := C8 H;obtain ⟨fd, h2, H⟩ := C8 H;obtain ⟨z, h3, H⟩ := C8 H;have hz : z.1 ≠ 0 := by intro h; rw [if_pos h] at H; simp at H
 rw [if_neg hz] at H;have hu : ∃ fs, C.P.underlying t = some (.struct fs) ∧ fs[f]? = some fd := by
  unfold WR at h2
  split at h2
  ·exact ⟨_, ‹_›, h2⟩
  ·simp at h2
 obtain ⟨fs, hu, hf⟩ := hu;have run : ∀ b off, a.eval y = .pointer (some ⟨b, off, none⟩) → (execOp a.eval o).run C.P w = .ok (.value (.pointer (some ⟨b, off + fd.offset, none⟩))) w := by
  intro b off he;simp only [execOp, E9];refine C_ ?_;simp only [Instr.fieldAt, Sem.run_bind, run_underlying hu, Result.andThen_ok, hf, he, Instr.sureAddr, Sem.run_pure, fieldPlace, Oe h3, hz, if_false, Addr.add_lit]
 have e1 := Rl.src h1
 revert e1 H
 cases hm : r.2 <;> intro H e1 <;> simp only [reduceCtorEq] at H <;> simp only [RR, K4] at e1
 case loc s off => exact X7 (run _ _ e1.2) H Rl (fun _ _ => ⟨rfl, rfl⟩) @T
 case OT ag sz off =>
  obtain ⟨b, o0, r1, r2, r3⟩ := e1;exact X7 (run _ _ r1) H Rl (fun _ _ => ⟨b, o0, by rw [z20q], r2, r3⟩) @T
 case ptr i off => exact X7 (run _ _ e1.2) H Rl (fun _ _ => ⟨e1.1, rfl⟩) @T
 case Yw i sz idx off => exact X7 (run _ _ e1.2) H Rl (fun _ _ => ⟨e1.1, by rw [z20q]⟩) @T
theorem iO {P : Program} {t e : TypeId} {z : Nat × Bool} (hu : P.underlying t = some (.slice e)) (hz : tz P e = some z) {b : Addr} {len cap : Nat} {kd : IntKind} {i : Int} (h0 : 0 ≤ i) (h1 : i < len) (w : World) :
 (Instr.indexAt t (.slice (some b) len cap) (.int kd i)).run P w = .ok (.pointer (some (b.add (i.toNat * z.1)))) w := by
 simp [Instr.indexAt, run_underlying hu, asIntOf, Oe hz, h0, h1]
theorem A5r {fl : Flags} {t : TypeId} {y i : Operand} (E9 : o.op = .indexAddr t y i) (H : JM C fl o t y i st k = some x) (Rl : J2 E st a w.heap) (T : Then E w k x K) : Gp C.P o a w K := by
 unfold JM at H;obtain ⟨r, h1, H⟩ := C8 H;obtain ⟨j, h2, H⟩ := C8 H;obtain ⟨e, h3, H⟩ := C8 H;obtain ⟨z, h4, H⟩ := C8 H;have hu : C.P.underlying t = some (.slice e) := by
  unfold NK at h3
  split at h3
  ·simp only [Option.some.injEq] at h3; subst h3; assumption
  ·simp at h3
 have e1 := Rl.src h1;have e2 := Rl.src h2;have dat : J3 r.2 = true → og (J3 r.2 && J3 j.2) (ob (E8 z.1 r.1 j.1) fun d =>
  if z.2 then k (st.put o.dst d (.OT true z.1 0)) else og (M9 d) (k (st.put o.dst d (.OT false z.1 0)))) = some x → Gp C.P o a w K := by
  intro jY H;obtain ⟨hc, H⟩ := F8 H;obtain ⟨d, hd, H⟩ := C8 H;simp only [z9q] at hc;have f1 := e1.data hc.1;have f2 := e2.data hc.2;obtain ⟨ds, kd, n, hr, hj, h0, hd⟩ := B0E hd;rw [hr] at f1;rw [hj, B_] at f2;simp only [RV, RC] at f1;obtain ⟨b, len, cap, hv, Z4, A35, B72, hpos, hel⟩ := f1;simp only [List.cons.injEq, and_true] at hv;have hn : n.toNat < ds.length := (z0q.1 hd).1;cases b with
  | none => have := B72 rfl; omega
  | some b =>
    obtain ⟨hs, hE⟩ := hel b rfl;have hs := hs (by omega)
    have hE := Dc.1 hE n.toNat d hd;have hb : b = ⟨b.block, b.off, none⟩ := by cases b; simp only at hs; subst hs; rfl
    have CQ : (execOp a.eval o).run C.P w = .ok (.value (.pointer (some ⟨b.block, b.off + n.toNat * z.1 + 0, none⟩))) w := by
     simp only [execOp, E9];refine C_ ?_;rw [hv, f2, iO hu h4 h0 (by omega)]
     rw [hb];simp only [Addr.add_lit, z21q]
    by_cases hz : z.2 = true
    ·rw [if_pos hz] at H
     exact X7 CQ H Rl (fun _ _ => ⟨b.block, b.off + n.toNat * z.1, rfl, hE, by simp⟩) @T
    ·rw [if_neg hz] at H
     obtain ⟨hl, H⟩ := F8 H;exact X7 CQ H Rl (fun _ _ => ⟨b.block, b.off + n.toNat * z.1, rfl, hE, fun _ => hl⟩) @T
 revert e1 H dat
 cases hm : r.2 <;> intro H e1 dat
 case arr i sz off len =>
  obtain ⟨hc, H⟩ := F8 H;obtain ⟨n, hn, H⟩ := C8 H;simp only [z9q, beq_iff_eq] at hc;have f2 := e2.data hc.2;obtain ⟨kd, q, hj, h0, H7, rfl⟩ := A7W hn;rw [hj, B_] at f2;simp only [RR, K4] at e1;obtain ⟨hi, b, cap, hv, hb⟩ := e1;have hb := hb.1 (by omega)
  subst hb;refine X7 (v := .pointer (some ⟨E.obj i, E.base i + (off + q.toNat) * sz + 0, none⟩)) ?_ H Rl (fun _ _ => ?_) @T
  ·simp only [execOp, E9]
   refine C_ ?_;rw [hv, f2, iO hu h4 h0 H7];simp only [Addr.add_lit, z21q, hc.1, z46q, z20q]
  ·split
   ·exact ⟨hi, rfl⟩
   ·exact ⟨hi, rfl⟩
 all_goals exact dat (by have := (F8 H).1; simp only [z9q] at this; exact this.1) H
end
end Go.Su

/-
 THE DATA MACHINE, part 8: comparison, lengths, bytes of texts, parts of slices, fields of values.
-/
namespace Go.Su
theorem Sj {S : Q6} {h : Heap} {sz : Nat} {ds : List DV} {v : Value} (H : RV S h (.list sz ds) v) :
 ∃ a len cap, v = .slice a len cap ∧ len = ds.length ∧ len ≤ cap ∧ (a = none → cap = 0) ∧ (ds ≠ [] → 0 < sz) ∧ ∀ x, a = some x → (0 < cap → x.spot = none) ∧ Dh S h sz x.block x.off ds := by
 simp only [RV, RC] at H;obtain ⟨a, len, cap, h1, h2⟩ := H;simp only [List.cons.injEq, and_true] at h1;exact ⟨a, len, cap, h1, h2⟩
theorem Tz {S : Q6} {h : Heap} {sz : Nat} {ds : List DV} {a : Option Addr} {len cap : Nat} (h1 : len = ds.length) (h2 : len ≤ cap) (h3 : a = none → cap = 0) (h4 : ds ≠ [] → 0 < sz)
 (h5 : ∀ x, a = some x → (0 < cap → x.spot = none) ∧ Dh S h sz x.block x.off ds) : RV S h (.list sz ds) (.slice a len cap) := by
 simp only [RV, RC];exact ⟨a, len, cap, rfl, h1, h2, h3, h4, h5⟩
theorem B0H {y d : DV} (h : dLen y = some d) : ∃ sz ds, y = .list sz ds ∧ d = .int .i64 ds.length := by
 unfold dLen at h
 split at h
 ·simp only [Option.some.injEq] at h; exact ⟨_, _, rfl, h.symm⟩
 ·simp at h
theorem A9m {y d : DV} (h : Dr y = some d) : ∃ s, y = .str s ∧ d = .int .i64 s.size := by
 unfold Dr at h
 split at h
 ·simp only [Option.some.injEq] at h; exact ⟨_, rfl, h.symm⟩
 ·simp at h
theorem A6f {y i d : DV} (h : Y4 y i = some d) : ∃ s kd n b, y = .str s ∧ i = .int kd n ∧ 0 ≤ n ∧ s.data[n.toNat]? = some b ∧ d = .int .u8 b.toNat := by
 unfold Y4 at h
 split at h
 ·obtain ⟨h0, h⟩ := M3 h
  simp only [z8q] at h;obtain ⟨b, hb, rfl⟩ := h;exact ⟨_, _, _, b, rfl, rfl, h0, hb, rfl⟩
 ·simp at h
theorem au {n m : Nat} {x : Option DV} (h : bnd n x = some m) : (x = none ∧ m = n) ∨ ∃ kd q, x = some (.int kd q) ∧ 0 ≤ q ∧ m = q.toNat := by
 unfold bnd at h
 split at h
 ·simp only [Option.some.injEq] at h; exact .inl ⟨rfl, h.symm⟩
 ·obtain ⟨h0, h⟩ := M3 h
  simp only [Option.some.injEq] at h;exact .inr ⟨_, _, rfl, h0, h.symm⟩
 ·simp at h
theorem A0C {sz : Nat} {y d : DV} {lo hi : Option DV} (h : Ca sz y lo hi = some d) : ∃ ds hh ll, y = .list sz ds ∧ bnd ds.length hi = some hh ∧ bnd 0 lo = some ll ∧ ll ≤ hh ∧ hh ≤ ds.length ∧ d = .list sz ((ds.take hh).drop ll) := by
 unfold Ca at h
 split at h
 ·obtain ⟨hh, b1, h⟩ := C8 h
  obtain ⟨ll, b2, h⟩ := C8 h;obtain ⟨⟨c1, c2, c3⟩, h⟩ := M3 h;simp only [Option.some.injEq] at h;subst c1;exact ⟨_, hh, ll, rfl, b1, b2, c2, c3, h.symm⟩
 ·simp at h
theorem A6d {sz : Nat} {y d hi mx : DV} {lo : Option DV} (h : aD sz y lo hi mx = some d) : ∃ kd kd' q, hi = .int kd q ∧ mx = .int kd' q ∧ Ca sz y lo (some hi) = some d := by
 unfold aD at h
 split at h
 ·obtain ⟨hqm, h1⟩ := M3 h
  subst hqm;exact ⟨_, _, _, rfl, rfl, h1⟩
 ·simp at h
theorem A7V {S : Q6} {h : Heap} {sz b o l n : Nat} {ds : List DV} (H : Dh S h sz b o ds) : Dh S h sz b (o + l * sz) ((ds.take n).drop l) := by
 rw [Dc] at H ⊢;intro i d hd;rw [z11q] at hd;have LP : ds[l + i]? = some d := by
  rw [List.getElem?_take] at hd
  split at hd
  ·exact hd
  ·simp at hd
 have := H (l + i) d LP
 rwa [z46q, ← z20q] at this
section
variable {X : Type} {C : X5} {R : N7} {o : Oper} {st : St} {k : St → Option X} {x : X} {E : Env} {a : Act} {w : World} {K : Act → World → Prop} {Q : Exit → Act → World → Prop}
theorem A4f {P : Program} {isS : Bool} {len cap h l : Nat} {lo hi : Option DV} {vlo vhi : Option Value} {S : Q6} {hp : Heap} (hh : bnd len hi = some h) (hl : bnd 0 lo = some l) (h1 : l ≤ h) (h2 : h ≤ len) (h3 : len ≤ cap)
 (elo : ∀ d, lo = some d → ∃ v, vlo = some v ∧ RV S hp d v) (nlo : lo = none → vlo = none) (ehi : ∀ d, hi = some d → ∃ v, vhi = some v ∧ RV S hp d v) (nhi : hi = none → vhi = none) (w : World) :
 (Instr.sliceBounds isS len cap vlo vhi none).run P w = .ok (l, h, cap) w := by
 have A : ∀ (kd : IntKind) (q : Int) (y : Nat) (code : BoundsCode), 0 ≤ q → q.toNat ≤ y → (Instr.sliceBound (.int kd q) y code).run P w = .ok q.toNat w := by
  intro kd q y code h0 h4;unfold Instr.sliceBound;simp only [asIntOf, pure_bind, Sem.run_ite];rw [if_pos ⟨h0, by omega⟩]
  rfl
 unfold Instr.sliceBounds;rcases au hh with ⟨rfl, rfl⟩ | ⟨kd, q, rfl, h0, rfl⟩
 ·rw [nhi rfl]
  rcases au hl with ⟨rfl, rfl⟩ | ⟨kd', q', rfl, Iz, rfl⟩
  ·rw [nlo rfl]; simp
  ·obtain ⟨v, rfl, hv⟩ := elo _ rfl
   rw [B_] at hv;subst hv;simp only [Sem.run_bind, Sem.run_pure, Result.andThen_ok, A _ _ _ _ Iz h1]
 ·obtain ⟨v, rfl, hv⟩ := ehi _ rfl
  rw [B_] at hv;subst hv;rcases au hl with ⟨rfl, rfl⟩ | ⟨kd', q', rfl, Iz, rfl⟩
  ·rw [nlo rfl]
   simp only [Sem.run_bind, Sem.run_pure, Result.andThen_ok, A _ _ _ _ h0 (by omega : q.toNat ≤ cap)]
  ·obtain ⟨v, rfl, hv⟩ := elo _ rfl
   rw [B_] at hv;subst hv;simp only [Sem.run_bind, Sem.run_pure, Result.andThen_ok, A _ _ _ _ h0 (by omega : q.toNat ≤ cap), A _ _ _ _ Iz h1]
theorem A4d {P : Program} {y : Option Operand} {l : Option DV} (h : YD P st y = some l) (Rl : J2 E st a w.heap) :
 (∀ d, l = some d → ∃ v, y.map a.eval = some v ∧ RV E.S w.heap d v) ∧ (l = none → y.map a.eval = none) := by
 unfold YD at h
 split at h
 ·simp only [Option.some.injEq] at h; subst h; simp
 ·obtain ⟨r, h1, h⟩ := C8 h
  obtain ⟨h2, h⟩ := F8 h;simp only [Option.some.injEq] at h;subst h;refine ⟨fun d hd => ?_, by simp⟩
  simp only [Option.some.injEq] at hd;subst hd;exact ⟨_, rfl, (Rl.src h1).data h2⟩
theorem A1Y {P : Program} {t e : TypeId} {z : Nat × Bool} (hu : P.underlying t = some (.slice e)) (hz : tz P e = some z) {b : Option Addr} {len cap l h m : Nat} {vlo vhi vmx : Option Value}
 (hb : (Instr.sliceBounds true len cap vlo vhi vmx).run P w = .ok (l, h, m) w) :
 (Instr.sliceAt t (.slice b len cap) vlo vhi vmx).run P w = .ok (.slice (if m = l then b else b.map (·.add (l * z.1))) (h - l) (m - l)) w := by
 unfold Instr.sliceAt;simp only [Sem.run_bind, run_underlying hu, Result.andThen_ok];unfold Instr.slice;simp only [Sem.run_bind, run_underlying hu, Result.andThen_ok, hb, Oe hz, Sem.run_pure]
theorem A7l {S : Q6} {hp : Heap} {b : Option Addr} {len cap l h m sz : Nat} {ds : List DV} (H : RV S hp (.list sz ds) (.slice b len cap)) (h1 : l ≤ h) (h2 : h ≤ ds.length) (h3 : h ≤ m) (h4 : m ≤ cap) :
 RV S hp (.list sz ((ds.take h).drop l)) (.slice (if m = l then b else b.map (·.add (l * sz))) (h - l) (m - l)) := by
 obtain ⟨b', len', cap', hv, e1, e2, e3, e4, e5⟩ := Sj H;simp only [Value.slice.injEq] at hv;obtain ⟨rfl, rfl, rfl⟩ := hv;refine Tz ?_ (by omega) ?_ ?_ ?_
 ·simp only [z18q, z14q]; omega
 ·intro hn
  split at hn
  ·omega
  ·cases b with
   | none => have := e3 rfl; omega
   | some y => simp at hn
 ·intro hne
  exact e4 fun hd => hne (by simp [hd])
 ·intro y hy
  split at hy
  ·rename_i hml
   have hlh : h = l := by omega
   obtain ⟨s1, s2⟩ := e5 y hy;refine ⟨fun h0 => absurd h0 (by omega), ?_⟩
   have : (ds.take h).drop l = [] := by
    apply List.drop_eq_nil_of_le;simp only [z14q];omega
   rw [this];simp only [Dh]
  ·cases b with
   | none => simp at hy
   | some z =>
     simp only [z27q, Option.some.injEq] at hy;subst hy;obtain ⟨s1, s2⟩ := e5 z rfl;have s1 := s1 (by omega)
     have hz : z = ⟨z.block, z.off, none⟩ := by cases z; simp only at s1; subst s1; rfl
     rw [hz];simp only [Addr.add_lit];exact ⟨fun _ => trivial, A7V s2⟩
theorem A2C {m : Meta} {q : Nat × Nat × Nat × Nat} (h : A5M m = some q) : m = .arr q.1 q.2.1 q.2.2.1 q.2.2.2 := by
 unfold A5M at h
 split at h
 ·simp only [Option.some.injEq] at h; subst h; rfl
 ·cases h
theorem A2M {P : Program} {t e : TypeId} (h : NK P t = some e) : P.underlying t = some (.slice e) := by
 unfold NK at h
 split at h
 ·simp only [Option.some.injEq] at h; subst h; assumption
 ·cases h
theorem B1X {E : Env} {h : Heap} {tg : Tag} {i sz off len l hh cap : Nat} {b : Option Addr} (e1 : K4 E h tg .undef (.arr i sz off len) (.slice b len cap)) (c2 : l ≤ hh) (c3 : hh ≤ len) :
 K4 E h tg .undef (.arr i sz (off + l) (hh - l)) (.slice (if cap = l then b else b.map (·.add (l * sz))) (hh - l) (cap - l)) := by
 obtain ⟨f0, b', cap', hv, f1, f2, f3, f4, f5⟩ := e1;simp only [Value.slice.injEq, true_and] at hv;obtain ⟨rfl, rfl⟩ := hv;refine ⟨f0, _, _, rfl, fun hp => ?_, by omega, fun hb => ?_, fun y hy => ?_, fun hp => ?_⟩
 ·rw [if_neg (by omega), f1 (by omega), z27q, Addr.add_lit, z20q, ← z46q]
 ·split at hb
  ·rw [f3 hb]; omega
  ·cases b with
   | none => rw [f3 rfl]; omega
   | some z => simp at hb
 ·split at hy
  ·exact f4 y hy
  ·cases b with
   | none => simp at hy
   | some z =>
     simp only [z27q, Option.some.injEq] at hy;subst hy;have := f4 z rfl;have hz : z = ⟨z.block, z.off, none⟩ := by cases z; simp only at this; subst this; rfl
     rw [hz, Addr.add_lit]
 ·have := f5 (by omega)
  rwa [show off + l + (cap - l) = off + cap by omega]
theorem B1F {t : TypeId} {y : Operand} {lo hi mx : Option Operand} (E9 : o.op = .slice t y lo hi mx) (H : Sw C o t y lo hi mx st k = some x) (Rl : J2 E st a w.heap) (T : Then E w k x K) : Gp C.P o a w K := by
 unfold Sw at H;obtain ⟨r, h1, H⟩ := C8 H;obtain ⟨l, h2, H⟩ := C8 H;obtain ⟨h, h3, H⟩ := C8 H;obtain ⟨m, h4, H⟩ := C8 H;obtain ⟨l1, l2⟩ := A4d h2 Rl;obtain ⟨k1, k2⟩ := A4d h3 Rl;obtain ⟨m1, m2⟩ := A4d h4 Rl;have U1 : ∀ v, (Instr.sliceAt t (a.eval y) (lo.map a.eval) (hi.map a.eval) (mx.map a.eval)).run C.P w = .ok v w → (execOp a.eval o).run C.P w = .ok (.value v) w := by
  intro v hv;simp only [execOp, E9];exact C_ hv
 split at H
 ·rename_i q hq
  have hm := A2C hq;have e1 := Rl.src h1;rw [hm] at e1;simp only [RR, K4] at e1;obtain ⟨e, he, H⟩ := C8 H;obtain ⟨z, hz, H⟩ := C8 H;obtain ⟨hms, H⟩ := F8 H;obtain ⟨hh, b1, H⟩ := C8 H;obtain ⟨ll, b2, H⟩ := C8 H;obtain ⟨⟨c2, c3⟩, H⟩ := M3 H;rw [z9q, beq_iff_eq] at hms;have hmn : m = none := by cases m; rfl; exact absurd hms.1 (by simp)
  have hu := A2M he;obtain ⟨f0, b, cap, hv, fr⟩ := e1;rw [hv] at U1;refine X7 (m := .arr q.1 q.2.1 (q.2.2.1 + ll) (hh - ll)) (U1 (.slice (if cap = ll then b else b.map (·.add (ll * q.2.1))) (hh - ll) (cap - ll)) ?_) H Rl (fun _ _ => ?_) @T
  ·rw [m2 hmn, hms.2]
   exact A1Y hu hz (A4f b1 b2 c2 c3 fr.2.1 l1 l2 k1 k2 w)
  ·exact B1X (h := w.heap) (tg := .other) ⟨f0, b, cap, rfl, fr⟩ c2 c3
 rename_i hq;obtain ⟨hd, H⟩ := F8 H;have e1 := (Rl.src h1).data hd
 split at H
 ·rename_i e hu
  obtain ⟨z, hz, H⟩ := C8 H
  split at H
  ·obtain ⟨d, LP, H⟩ := C8 H
   obtain ⟨ds, hh, ll, hr, b1, b2, c2, c3, rfl⟩ := A0C LP;rw [hr] at e1;obtain ⟨b, len, cap, hv, f1, f2, f3⟩ := Sj e1;rw [hv] at e1;refine AA (U1 _ ?_) H Rl (A7l (m := cap) e1 c2 c3 (by omega) (z15q _)) @T
   rw [hv, m2 rfl];exact A1Y hu hz (A4f (f1 ▸ b1) b2 c2 (by omega) f2 l1 l2 k1 k2 w)
  ·obtain ⟨d, LP, H⟩ := C8 H
   obtain ⟨kd, kd', qh, rfl, rfl, hd3⟩ := A6d LP;obtain ⟨ds, hh, ll, hr, b1, b2, c2, c3, rfl⟩ := A0C hd3;rw [hr] at e1;obtain ⟨b, len, cap, hv, f1, f2, f3⟩ := Sj e1;rw [hv] at e1;have hb := au b1;simp only [reduceCtorEq, false_and, Option.some.injEq, DV.int.injEq, false_or] at hb;obtain ⟨kd1, q1, ⟨rfl, rfl⟩, hq0, rfl⟩ := hb;have hR := A7l (m := qh.toNat) e1 c2 c3 (z15q _) (by omega)
   refine X7 (m := .full) (U1 _ ?_) H Rl (fun _ _ => ⟨hR, ⟨_, _, rfl⟩, _, _, rfl⟩) @T
   obtain ⟨vh, evh, rvh⟩ := k1 _ rfl;obtain ⟨vm, evm, rvm⟩ := m1 _ rfl;rw [B_] at rvh rvm;subst rvh rvm;rw [hv, evh, evm];refine A1Y hu hz ?_;have A : ∀ (kd : IntKind) (q : Int) (y : Nat) (code : BoundsCode), 0 ≤ q → q.toNat ≤ y → (Instr.sliceBound (.int kd q) y code).run C.P w = .ok q.toNat w := by
    intro kd q y code h0 h4;unfold Instr.sliceBound;simp only [asIntOf, pure_bind, Sem.run_ite];rw [if_pos ⟨h0, by omega⟩]
    rfl
   unfold Instr.sliceBounds;rcases au b2 with ⟨rfl, rfl⟩ | ⟨kd', q', rfl, Iz, rfl⟩
   ·rw [l2 rfl]
    simp only [Sem.run_bind, Sem.run_pure, Result.andThen_ok, A _ _ _ _ hq0 (by omega : qh.toNat ≤ cap), A _ _ _ _ hq0 (z15q _)]
   ·obtain ⟨v, evl, hv⟩ := l1 _ rfl
    rw [B_] at hv;subst hv;rw [evl];simp only [Sem.run_bind, Sem.run_pure, Result.andThen_ok, A _ _ _ _ hq0 (by omega : qh.toNat ≤ cap), A _ _ _ _ hq0 (z15q _), A _ _ _ _ Iz c2]
  ·simp at H
 ·rename_i hu
  split at H
  ·obtain ⟨d, LP, H⟩ := C8 H
   unfold kP at LP
   split at LP
   ·rename_i s hr
    obtain ⟨hh, b1, LP⟩ := C8 LP;obtain ⟨ll, b2, LP⟩ := C8 LP;obtain ⟨⟨c2, c3⟩, LP⟩ := M3 LP;simp only [Option.some.injEq] at LP;subst LP;rw [hr, Xd] at e1;refine AA (v := .string _) (U1 _ ?_) H Rl (by rw [Xd]) @T
    rw [e1, m2 rfl];unfold Instr.sliceAt;simp only [Sem.run_bind, run_underlying hu, Result.andThen_ok];unfold Instr.slice;simp only [Sem.run_bind, run_underlying hu, Result.andThen_ok, Option.isSome_none, z23q, if_false, Sem.run_pure, A4f b1 b2 c2 c3 (z15q _) l1 l2 k1 k2 w]
   ·simp at LP
  ·simp at H
 ·simp at H
theorem KM {b : Builtin} {c : Call} (E9 : o.op = .call c) (hc : c.callee = .builtin b) {v : Value} {w' : World}
 (h : (builtin b c.argTypes o.type (c.args.map fun | .const _ => true | _ => false) (c.args.map a.eval)).run C.P w = .ok (.value v) w') : (execOp a.eval o).run C.P w = .ok (.value v) w' := by
 simp only [execOp, E9, resolve, hc, Sem.run_bind, Sem.run_pure, Result.andThen_ok, invoke];exact h
theorem zD {α : Type} {xs : Array α} {y : α} (h : xs.toList = [y]) : xs = #[y] := by
 cases xs; simp at h; subst h; rfl
theorem aA {α : Type} {xs : Array α} {y z : α} (h : xs.toList = [y, z]) : xs = #[y, z] := by
 cases xs; simp at h; subst h; rfl
theorem B4J {c : Call} {y : Operand} {t : TypeId} (E9 : o.op = .call c) (hc : c.callee = .builtin .len) (ha : c.args.toList = [y]) (ht : c.argTypes.toList = [t]) (H : XP C o y t st k = some x)
 (Rl : J2 E st a w.heap) (T : Then E w k x K) : Gp C.P o a w K := by
 unfold XP at H;obtain ⟨r, h1, H⟩ := C8 H;have e1 := Rl.src h1;have U1 : ∀ v, (Builtin.len_ #[t] o.type #[a.eval y]).run C.P w = .ok v w → (execOp a.eval o).run C.P w = .ok (.value v) w := by
  intro v hv;refine KM E9 hc ?_;rw [zD ht, show c.args.map a.eval = #[a.eval y] from by rw [zD ha]; simp]
  exact C_ hv
 have fin : ∀ {n : Nat}, k (st.put o.dst (.int .i64 n) .val) = some x → (Builtin.len_ #[t] o.type #[a.eval y]).run C.P w = .ok (.int .i64 n) w → Gp C.P o a w K :=
  fun H hv => AA (U1 _ hv) H Rl (by rw [B_]) @T
 split at H
 ·rename_i e hu
  have dat : og (J3 r.2) (ob (dLen r.1) fun d => k (st.put o.dst d .val)) = some x → Gp C.P o a w K := by
   intro H;obtain ⟨hd, H⟩ := F8 H;obtain ⟨d, LP, H⟩ := C8 H;obtain ⟨sz, ds, hr, rfl⟩ := B0H LP;have e2 := e1.data hd;rw [hr] at e2;obtain ⟨b, len, cap, hv, f1, -⟩ := Sj e2;refine fin H ?_;rw [hv, f1];unfold Builtin.len_;simp [run_underlying hu, goInt]
  split at H
  ·rename_i i sz off len hm
   rw [hm] at e1;simp only [RR, K4] at e1;obtain ⟨hi, b, cap, hv, -⟩ := e1;refine fin H ?_;rw [hv];unfold Builtin.len_;simp [run_underlying hu, goInt]
  ·exact dat H
 ·rename_i hu
  obtain ⟨hd, H⟩ := F8 H;obtain ⟨d, LP, H⟩ := C8 H;obtain ⟨s, hr, rfl⟩ := A9m LP;have e2 := e1.data hd;rw [hr, Xd] at e2;refine fin H ?_;rw [e2];unfold Builtin.len_;simp [run_underlying hu, goInt]
 ·rename_i kt et hu
  obtain ⟨n, hn, H⟩ := C8 H;unfold B1f at hn
  split at hn
  ·rename_i i hm
   obtain ⟨es, hes, hn⟩ := C8 hn;simp only [Option.some.injEq] at hn;subst hn;rw [hm] at e1;simp only [RR, K4] at e1;have hO : st.sg[i]? = some (.map es.1 es.2) := by
    unfold p9 at hes
    split at hes
    ·simp only [Option.some.injEq] at hes; subst hes; assumption
    ·simp at hes
   obtain ⟨ens, clk, g1, g2, g3, -⟩ := Rl.Q3 i _ hO;refine fin H ?_;rw [e1.2, g3.1];unfold Builtin.len_;simp [run_underlying hu, goInt, getObj, Sem.run, g1]
  ·rename_i hm
   simp only [Option.some.injEq] at hn;subst hn;rw [hm] at e1;simp only [RR, K4] at e1;refine fin H ?_;rw [e1];unfold Builtin.len_;simp [run_underlying hu, goInt]
  ·simp at hn
 ·simp at H
end
end Go.Su

/-
 THE DATA MACHINE, part 9: operators, bytes of texts, fields of values, checked addresses, max and min.
-/
namespace Go.Su
theorem B0D {y z : DV} {b : Bool} (h : A6b y z = some b) : ∃ p q, y = .bool p ∧ z = .bool q ∧ b = (p == q) := by
 unfold A6b at h
 split at h
 ·simp only [Option.some.injEq] at h; exact ⟨_, _, rfl, rfl, h.symm⟩
 ·simp at h
theorem B0C {ks : List LK} {y z : DV} {b : Bool} (h : jI ks y z = some b) : ∃ p q, y = .agg p ∧ z = .agg q ∧ Cw ks p q = some b := by
 unfold jI at h
 split at h
 ·exact ⟨_, _, rfl, rfl, h⟩
 ·simp at h
theorem A2N {op : BinOp} {b : Bool} {d : DV} (h : nV op b = some d) : (op = .eql ∧ d = .bool b) ∨ (op = .neq ∧ d = .bool !b) := by
 unfold nV at h
 split at h <;> simp only [Option.some.injEq, reduceCtorEq] at h <;> subst h
 ·exact .inl ⟨rfl, rfl⟩
 ·exact .inr ⟨rfl, rfl⟩
theorem B0I {y z d : DV} (h : A3V y z = some d) : ∃ k p q, y = .int k p ∧ z = .int k q ∧ d = .int k (if q > p then q else p) := by
 unfold A3V at h
 split at h
 ·obtain ⟨hk, h1⟩ := M3 h
  simp only [Option.some.injEq] at h1;subst hk;exact ⟨_, _, _, rfl, rfl, h1.symm⟩
 ·simp at h
theorem B0J {y z d : DV} (h : A1E y z = some d) : ∃ k p q, y = .int k p ∧ z = .int k q ∧ d = .int k (if q < p then q else p) := by
 unfold A1E at h
 split at h
 ·obtain ⟨hk, h1⟩ := M3 h
  simp only [Option.some.injEq] at h1;subst hk;exact ⟨_, _, _, rfl, rfl, h1.symm⟩
 ·simp at h
theorem B1e {P : Program} {t : TypeId} {lk : LK} (h : iC P t = some lk) (w : World) : (isAgg t).run P w = .ok false w := by
 unfold iC at h
 split at h
 ·rename_i hu; unfold isAgg; simp [run_underlying hu]
 ·rename_i hu; unfold isAgg; simp [run_underlying hu]
 ·rename_i hu; unfold isAgg; simp [run_underlying hu]
 ·simp at h
theorem A6j {P : Program} {S : Q6} {hp : Heap} {t : TypeId} {lk : LK} {dx dy : DV} {vx vy : Value} {b : Bool} (hk : iC P t = some lk) (H : uz lk dx dy = some b) (hx : RC S hp dx [vx]) (hy : RC S hp dy [vy])
 (n : Nat) (w : World) : (Op.equalIn (n + 1) t vx vy).run P w = .ok b w := by
 unfold uz at H
 split at H
 ·obtain ⟨Ja, H1⟩ := M3 H
  simp only [Option.some.injEq] at H1;subst H1 Ja;simp only [RC, List.cons.injEq, and_true] at hx hy;subst hx hy;unfold iC at hk
  split at hk <;> simp only [Option.some.injEq, reduceCtorEq] at hk
  rename_i hu;exact run_equalIn_int w n t _ _ _ _ hu
 ·simp only [Option.some.injEq] at H
  subst H;simp only [RC, List.cons.injEq, and_true] at hx hy;subst hx hy;unfold iC at hk
  split at hk <;> simp only [Option.some.injEq, reduceCtorEq] at hk
  rename_i hu;exact run_equalIn_bool' w n t _ _ hu
 ·simp only [Option.some.injEq] at H
  subst H;simp only [RC, List.cons.injEq, and_true] at hx hy;subst hx hy;unfold iC at hk
  split at hk <;> simp only [Option.some.injEq, reduceCtorEq] at hk
  rename_i hu;exact run_equalIn_string w n t _ _ hu
 ·simp at H
theorem A46 {P : Program} {t : TypeId} {lk : LK} (h : iC P t = some lk) {cs : Array Value} {off : Nat} {v : Value} (hv : cs[off]? = some v) (w : World) : (part t cs off).run P w = .ok v w := by
 unfold part;simp [B1e h, hv]
theorem A5l {P : Program} {S : Q6} {hp : Heap} {n : Nat} {xs ys : Array Value} {ax ay : List DV} (hx : GJ S hp ax xs.toList) (hy : GJ S hp ay ys.toList) : ∀ (fs : List Field) (ks : List LK) (i : Nat) (b : Bool),
 TA P i fs = some ks → Cw ks (ax.drop i) (ay.drop i) = some b → ∀ w : World, (Op.eqFields (n + 1) xs ys fs).run P w = .ok b w := by
 obtain ⟨lx, hx⟩ := EP.1 hx;obtain ⟨ly, hy⟩ := EP.1 hy;intro fs
 induction fs with
 | nil =>
   intro ks i b h1 h2 w;simp only [TA, Option.some.injEq] at h1;subst h1;unfold Cw at h2
   split at h2 <;> simp_all [Op.eqFields]
 | cons f fs ih =>
   intro ks i b h1 h2 w;simp only [TA] at h1;obtain ⟨hc, h1⟩ := M3 h1;obtain ⟨lk, hk, h1⟩ := C8 h1;obtain ⟨ks', Ha, h1⟩ := C8 h1;simp only [Option.some.injEq] at h1;subst h1;simp only [z9q, bne_iff_ne, ne_eq, beq_iff_eq] at hc;cases hax : ax.drop i with
   | nil => rw [hax] at h2; simp [Cw] at h2
   | cons dx rx =>
     cases hay : ay.drop i with
     | nil => rw [hax, hay] at h2; simp [Cw] at h2
     | cons dy ry =>
       rw [hax, hay] at h2;simp only [Cw] at h2;obtain ⟨q, hq, h2⟩ := C8 h2;have B5o : ax[i]? = some dx := by have := congrArg (fun l : List DV => l[0]?) hax; simpa using this
       have B5p : ay[i]? = some dy := by have := congrArg (fun l : List DV => l[0]?) hay; simpa using this
       have TD : i < xs.toList.length := by have := (z0q.1 B5o).1; omega
       have xg : i < ys.toList.length := by have := (z0q.1 B5p).1; omega
       have hvx : xs.toList[i]? = some xs.toList[i] := z3q TD;have hvy : ys.toList[i]? = some ys.toList[i] := z3q xg;have rx' : rx = ax.drop (i + 1) := by rw [← List.tail_drop, hax]; rfl
       have ry' : ry = ay.drop (i + 1) := by rw [← List.tail_drop, hay]; rfl
       have e1 : (part f.type xs f.offset).run P w = .ok xs.toList[i] w := A46 hk (by rw [hc.2]; simp) w
       have e2 : (part f.type ys f.offset).run P w = .ok ys.toList[i] w := A46 hk (by rw [hc.2]; simp) w
       have e3 := A6j (P := P) hk hq (hx i dx _ B5o hvx).2 (hy i dy _ B5p hvy).2 n w;simp only [Op.eqFields, Sem.run_ite];rw [if_pos hc.1];simp only [Sem.run_bind, e1, e2, e3, Result.andThen_ok, Sem.run_ite];cases q with
       | false => simp only [z23q, if_false, Option.some.injEq] at h2; subst h2; simp
       | true =>
         simp only [if_true] at h2;rw [rx', ry'] at h2;simpa using ih ks' (i + 1) b Ha h2 w
section
variable {X : Type} {C : X5} {R : N7} {o : Oper} {st : St} {k : St → Option X} {x : X} {E : Env} {a : Act} {w : World} {K : Act → World → Prop} {Q : Exit → Act → World → Prop}
theorem A9t {P : Program} {t e : TypeId} (hu : P.underlying t = some (.pointer e)) (n : Nat) (b : Option Addr) (w : World) : (Op.equalIn (n + 1) t (.pointer none) (.pointer b)).run P w = .ok b.isNone w := by
 simp [Op.equalIn, run_underlying hu]
theorem A9u {P : Program} {t e : TypeId} (hu : P.underlying t = some (.pointer e)) (n : Nat) (b : Addr) (w : World) : (Op.equalIn (n + 1) t (.pointer (some b)) (.pointer none)).run P w = .ok false w := by
 simp [Op.equalIn, run_underlying hu]
theorem iL {E : Env} {h : Heap} {k a : Nat} {r : DV × Meta} {v : Value} {b : Bool} (H : A3v r = some b) (R : RR E h k a r.1 r.2 v) : ∃ p : Option Addr, v = .pointer p ∧ p.isNone = b := by
 obtain ⟨d, m⟩ := r;unfold A3v at H;simp only at H R
 split at H
 ·simp only [Option.some.injEq] at H
  subst H;obtain ⟨-, rfl⟩ := (R : _ ∧ _);exact ⟨none, rfl, rfl⟩
 ·simp only [Option.some.injEq] at H
  subst H;obtain ⟨-, rfl⟩ := (R : _ ∧ _);exact ⟨_, rfl, rfl⟩
 ·split at H <;> simp only [Option.some.injEq, reduceCtorEq] at H <;> subst H
  ·exact ⟨none, by simpa only [RR, K4, RV] using R, rfl⟩
  ·simp only [RR, K4, RV, RC] at R
   obtain ⟨b, o, hv, -⟩ := R;simp only [List.cons.injEq, and_true] at hv;exact ⟨_, hv, rfl⟩
 ·cases H
theorem B2e {P : Program} {t e : TypeId} (hu : P.underlying t = some (.pointer e)) {E : Env} {h : Heap} {k a k' a' : Nat} {r s : DV × Meta} {u v : Value} {b : Bool} {n : Nat} (w : World) (H : A9r r s = some b) (R : RR E h k a r.1 r.2 u) (S : RR E h k' a' s.1 s.2 v) :
 ∃ p q, u = .pointer p ∧ v = .pointer q ∧ (Op.equalIn (n + 1) t u v).run P w = .ok b w := by
 unfold A9r at H
 split at H <;> simp only [Option.some.injEq, reduceCtorEq] at H <;> subst H <;> rename_i h1 h2
 ·obtain ⟨p, rfl, hp⟩ := iL h1 R
  obtain ⟨q, rfl, hq⟩ := iL h2 S;simp only [z34q] at hp;subst hp hq;exact ⟨_, _, rfl, rfl, A9t hu _ _ w⟩
 ·obtain ⟨p, rfl, hp⟩ := iL h1 R
  obtain ⟨q, rfl, hq⟩ := iL h2 S;simp only [z34q] at hq;subst hq;cases p with
  | none => cases hp
  | some p => exact ⟨_, _, rfl, rfl, A9u hu _ _ w⟩
theorem A2P {P : Program} {t e e' : TypeId} (hu : P.underlying t = some (.map e e')) (n : Nat) (b : Option Nat) (w : World) : (Op.equalIn (n + 1) t (.map none) (.map b)).run P w = .ok b.isNone w := by
 simp [Op.equalIn, run_underlying hu]
theorem A9s {P : Program} {t e e' : TypeId} (hu : P.underlying t = some (.map e e')) (n : Nat) (b : Nat) (w : World) : (Op.equalIn (n + 1) t (.map (some b)) (.map none)).run P w = .ok false w := by
 simp [Op.equalIn, run_underlying hu]
theorem iP {op : BinOp} {t : TypeId} {y z : Operand} {yt : TypeId} {b : Bool} {d : DV} (E9 : o.op = .binOp op t y z yt) (he : nV op b = some d) (hg : (eqGuard op t y z (a.eval y) (a.eval z)).run C.P w = .ok () w)
 (hq : (Op.equal t (a.eval y) (a.eval z)).run C.P w = .ok b w)
 (hb : ∀ op', binOp op' t (a.eval y) (a.eval z) = (match op' with | .eql => (do pure (.bool (← Op.equal t (a.eval y) (a.eval z)))) | .neq => (do pure (.bool (!(← Op.equal t (a.eval y) (a.eval z))))) | _ => binOp op' t (a.eval y) (a.eval z)))
 (H : k (st.put o.dst d .val) = some x) (Rl : J2 E st a w.heap) (T : Then E w k x K) : Gp C.P o a w K := by
 rcases A2N he with ⟨rfl, rfl⟩ | ⟨rfl, rfl⟩
 ·refine AA (v := .bool b) ?_ H Rl (by rw [Me]) @T
  simp only [execOp, E9];refine C_ ?_;rw [hb];simp [hg, hq]
 ·refine AA (v := .bool !b) ?_ H Rl (by rw [Me]) @T
  simp only [execOp, E9];refine C_ ?_;rw [hb];simp [hg, hq]
theorem B4F {op : BinOp} {t : TypeId} {y z : Operand} {yt : TypeId} (E9 : o.op = .binOp op t y z yt) (H : Za C o op t y z st k = some x) (Rl : J2 E st a w.heap) (T : Then E w k x K) : Gp C.P o a w K := by
 unfold Za at H;obtain ⟨r, h1, H⟩ := C8 H;obtain ⟨s, h2, H⟩ := C8 H;have e1 := Rl.src h1;have e2 := Rl.src h2
 split at H
 ·obtain ⟨hc, H⟩ := F8 H
  obtain ⟨d, hd, H⟩ := C8 H;simp only [z9q] at hc;obtain ⟨v, hv, hR⟩ := B20 (P := C.P) (t := t) (x := y) (y := z) hd (e1.data hc.1) (e2.data hc.2) w;refine AA (v := v) ?_ H Rl hR @T;simp only [execOp, E9];exact C_ hv
 ·rename_i Ew
  have hu : C.P.underlying t = some .bool := by
   unfold kJ at Ew
   split at Ew <;> first | assumption | (simp at Ew; done) | (split at Ew <;> simp at Ew)
  obtain ⟨hc, H⟩ := F8 H;obtain ⟨b, hb, H⟩ := C8 H;obtain ⟨d, hd, H⟩ := C8 H;simp only [z9q] at hc;obtain ⟨p, q, hp, hq, xx⟩ := B0D hb;have f1 := e1.data hc.1;have f2 := e2.data hc.2;rw [hp, Me] at f1;rw [hq, Me] at f2;refine iP E9 hd ?_ ?_ ?_ H Rl @T
  ·rw [f1, eqGuard_at_bool]; rfl
  ·rw [f1, f2, xx]; exact run_equalIn_bool' w _ t p q hu
  ·intro op'; rw [f1, f2]; cases op' <;> rfl
 ·rename_i ks Ew
  have hu : ∃ fs, C.P.underlying t = some (.struct fs) ∧ TA C.P 0 fs.toList = some ks ∧ C.P.stoodInHeld t = false ∧ C.P.eqGuardType C.P.depth t = false := by
   unfold kJ at Ew
   split at Ew <;> first | (simp at Ew; done) | skip
   rename_i fs hfs
   split at Ew <;> first | (simp at Ew; done) | skip
   rename_i ks' g1 g2 g3;simp only [A8B.flat.injEq] at Ew;subst Ew;exact ⟨fs, hfs, g1, g2, g3⟩
  obtain ⟨fs, hu, gm, Q7, hgt⟩ := hu;obtain ⟨hc, H⟩ := F8 H;obtain ⟨b, hb, H⟩ := C8 H;obtain ⟨d, hd, H⟩ := C8 H;simp only [z9q] at hc;obtain ⟨p, q, hp, hq, dJ⟩ := B0C hb;have f1 := e1.data hc.1;have f2 := e2.data hc.2;rw [hp] at f1;rw [hq] at f2;simp only [RV] at f1 f2;obtain ⟨vs, Kj, rvs⟩ := f1;obtain ⟨us, hus, rus⟩ := f2;refine iP E9 hd ?_ ?_ ?_ H Rl @T
  ·rw [Kj, hus]; exact run_eqGuard_agg w op t y z vs us hgt
  ·rw [Kj, hus]
   show (Op.equalIn 10000 t _ _).run C.P w = _
   have hfs : C.P.fieldsOf t = fs := by unfold Program.fieldsOf; rw [hu]
   rw [run_equalIn_struct w 9999 t vs us (by rw [hfs]; exact hu) Q7, hfs]
   exact A5l rvs rus fs.toList ks 0 b gm dJ w
  ·intro op'; rw [Kj, hus]; cases op' <;> rfl
 ·rename_i Ew
  have hu : ∃ e, C.P.underlying t = some (.pointer e) := by
   unfold kJ at Ew
   split at Ew <;> first | exact ⟨_, by assumption⟩ | (simp at Ew; done) | (split at Ew <;> simp at Ew)
  obtain ⟨et, hu⟩ := hu;obtain ⟨b, hb, H⟩ := C8 H;obtain ⟨d, hd, H⟩ := C8 H;have key : ∃ p q, a.eval y = .pointer p ∧ a.eval z = .pointer q ∧ (Op.equal t (a.eval y) (a.eval z)).run C.P w = .ok b w := by
   exact B2e hu w hb e1 e2
  obtain ⟨p, q, hp, hq, he⟩ := key;refine iP E9 hd ?_ he ?_ H Rl @T
  ·rw [hp, eqGuard_at_pointer]; rfl
  ·intro op'
   rcases A2N hd with ⟨rfl, -⟩ | ⟨rfl, -⟩ <;> rw [hp, hq] <;> cases op' <;> first | rfl | skip
 ·rename_i Ew
  have hu : ∃ e e', C.P.underlying t = some (.map e e') := by
   unfold kJ at Ew
   split at Ew <;> first | exact ⟨_, _, by assumption⟩ | (simp at Ew; done) | (split at Ew <;> simp at Ew)
  obtain ⟨et, et', hu⟩ := hu;obtain ⟨b, hb, H⟩ := C8 H;obtain ⟨d, hd, H⟩ := C8 H;have key : ∃ p q, a.eval y = .map p ∧ a.eval z = .map q ∧ (Op.equal t (a.eval y) (a.eval z)).run C.P w = .ok b w := by
   revert hb e1 e2
   unfold A3j
   split <;> intro e1 e2 hb <;> simp only [Option.some.injEq, reduceCtorEq] at hb <;> subst hb <;> rename_i hm hn <;> rw [hm] at e1 <;> rw [hn] at e2 <;> simp only [RR, K4] at e1 e2
   ·refine ⟨_, _, e1, e2, ?_⟩
    rw [e1, e2]; exact A2P hu _ _ w
   ·refine ⟨_, _, e1, e2.2, ?_⟩
    rw [e1, e2.2]; exact A2P hu _ _ w
   ·refine ⟨_, _, e1.2, e2, ?_⟩
    rw [e1.2, e2]; exact A9s hu _ _ w
  obtain ⟨p, q, hp, hq, he⟩ := key;refine iP E9 hd ?_ he ?_ H Rl @T
  ·rw [hp, eqGuard_at_map]; rfl
  ·intro op'; rw [hp, hq]; cases op' <;> rfl
 ·simp at H
end
end Go.Su

/-
 THE DATA MACHINE, part 10: bytes of texts, fields of values, checked addresses, max and min; addresses read.
-/
namespace Go.Su
section
variable {X : Type} {C : X5} {R : N7} {o : Oper} {st : St} {k : St → Option X} {x : X} {E : Env} {a : Act} {w : World} {K : Act → World → Prop} {Q : Exit → Act → World → Prop}
theorem B1E {t : TypeId} {y i : Operand} (E9 : o.op = .index t y i)
 (H : (ob (src C.P t st y) fun r => ob (src C.P 0 st i) fun j => match C.P.underlying t with
   | some .string => og (J3 r.2 && J3 j.2) (ob (Y4 r.1 j.1) fun d => k (st.put o.dst d .val))
   | _ => none) = some x) (Rl : J2 E st a w.heap) (T : Then E w k x K) : Gp C.P o a w K := by
 obtain ⟨r, h1, H⟩ := C8 H;obtain ⟨j, h2, H⟩ := C8 H
 split at H
 ·rename_i hu
  obtain ⟨hc, H⟩ := F8 H;obtain ⟨d, hd, H⟩ := C8 H;simp only [z9q] at hc;have e1 := (Rl.src h1).data hc.1;have e2 := (Rl.src h2).data hc.2;obtain ⟨s, kd, n, b, hr, hj, h0, hb, JZ⟩ := A6f hd;rw [hr, Xd] at e1;rw [hj, B_] at e2;rw [JZ] at H;refine AA (v := .int .u8 b.toNat) ?_ H Rl (by rw [B_]) @T
  simp only [execOp, E9];refine C_ ?_;have hs : s[n.toNat]? = some b := by
   have H7 : n.toNat < s.data.size := (z5q.1 hb).1;have hv : s.data[n.toNat] = b := (z5q.1 hb).2;rw [getElem?_pos s n.toNat H7];exact congrArg some hv
  unfold Instr.index;simp only [e1, e2, asIntOf, Sem.run_bind, Sem.run_pure, Result.andThen_ok, run_underlying hu, h0, if_true, hs]
 ·simp at H
theorem B2U {P : Program} {t : TypeId} {z : Nat × Bool} (hz : tz P t = some z) {cs : Array Value} {off : Nat} (h : off + z.1 ≤ cs.size) (w : World) :
 ∃ v, (part t cs off).run P w = .ok v w ∧ (z.2 = true → v = .agg (cs.extract off (off + z.1))) ∧ (z.2 = false → cs[off]? = some v) := by
 unfold part;simp only [Sem.run_bind, A7R hz, Result.andThen_ok, Sem.run_ite]
 by_cases h2 : z.2 = true
 ·rw [if_pos h2]
  refine ⟨_, by simp only [Oe hz, Result.andThen_ok, Sem.run_pure], fun _ => rfl, fun h3 => ?_⟩
  rw [h2] at h3;cases h3
 ·rw [if_neg h2]
  have Jc : z.1 = 1 := by
   obtain ⟨i, d, -, -, -, h4⟩ := IU hz;exact h4 (by simpa using h2)
  have H7 : off < cs.size := by omega
  have hg : cs[off]? = some cs[off] := z25q H7;exact ⟨cs[off], by simp [hg], fun h3 => absurd h3 h2, fun _ => hg⟩
theorem um {S : Q6} {h : Heap} {d : DV} {vs : List Value} (H : RC S h d vs) {off n : Nat} (hn : off + n ≤ vs.length) : GJ S h (cells n off d) ((vs.drop off).take n) := by
 refine EP.2 ⟨by simp only [cells, List.length_map, List.length_range, z14q, z18q]; omega, fun i d' v hd hv => ?_⟩
 have hi : i < n := by have := (z0q.1 hd).1; simpa [cells] using this
 simp only [cells, z7q, z38q hi, z27q, Option.some.injEq] at hd;subst hd;rw [z4q hi, z11q] at hv;exact Md H hv
theorem fJ {S : Q6} {h : Heap} {n : Nat} {d : DV} {v : Value} (hg : C9 n d = true) (H : RV S h d v) : ∃ vs, v = .agg vs ∧ vs.size = n ∧ RC S h d vs.toList := by
 cases d <;> simp only [C9] at hg <;> try contradiction
 rename_i cs;simp only [RV] at H;obtain ⟨vs, rfl, H⟩ := H;refine ⟨vs, rfl, ?_, by simp only [RC]; exact H⟩
 have := (EP.1 H).1;simp only [beq_iff_eq] at hg;simp at this;omega
theorem B1D {t : TypeId} {y : Operand} {f : Nat} (E9 : o.op = .field t y f)
 (H : (ob (src C.P t st y) fun r => ob (WR C.P t f) fun fd => ob (tz C.P fd.type) fun z => ob (tz C.P t) fun zt =>
   og (J3 r.2 && C9 zt.1 r.1)
    (if fd.offset + z.1 ≤ zt.1 then
      if z.2 then k (st.put o.dst (.agg (cells z.1 fd.offset r.1)) .val) else k (st.put o.dst (A7 fd.offset r.1) .val)
    else none)) = some x) (Rl : J2 E st a w.heap) (T : Then E w k x K) : Gp C.P o a w K := by
 obtain ⟨r, h1, H⟩ := C8 H;obtain ⟨fd, h2, H⟩ := C8 H;obtain ⟨z, h3, H⟩ := C8 H;obtain ⟨zt, h4, H⟩ := C8 H;obtain ⟨hc, H⟩ := F8 H;obtain ⟨I9, H⟩ := M3 H;simp only [z9q] at hc;obtain ⟨vs, hv, Y9, hR⟩ := fJ hc.2 ((Rl.src h1).data hc.1);have hu : ∃ fs, C.P.underlying t = some (.struct fs) ∧ fs[f]? = some fd := by
  unfold WR at h2
  split at h2
  ·exact ⟨_, ‹_›, h2⟩
  ·simp at h2
 obtain ⟨fs, hu, hf⟩ := hu;obtain ⟨v, p1, p2, p3⟩ := B2U h3 (cs := vs) (off := fd.offset) (by omega) w
 have U1 : (execOp a.eval o).run C.P w = .ok (.value v) w := by
  simp only [execOp, E9];refine C_ ?_;unfold Instr.field;simp only [Sem.run_bind, run_underlying hu, Result.andThen_ok, hf, hv, asAgg, Sem.run_pure, p1]
 by_cases hz : z.2 = true
 ·rw [if_pos hz] at H
  refine AA U1 H Rl ?_ @T;rw [p2 hz];simp only [RV];refine ⟨_, rfl, ?_⟩;have := um hR (off := fd.offset) (n := z.1) (by simpa using by omega)
  simpa [Array.toList_extract, List.extract_eq_take_drop] using this
 ·rw [if_neg hz] at H
  have hl := p3 (by simpa using hz)
  obtain ⟨q1, q2⟩ := Md hR (j := fd.offset) (v := v) (by simpa using hl)
  exact AA U1 H Rl (Rx q1 q2) @T
theorem B4K {c : Call} {y z : Operand} {t u : TypeId} (E9 : o.op = .call c) (hc : c.callee = .builtin .max) (ha : c.args.toList = [y, z])
 (H : (ob (src C.P t st y) fun r => ob (src C.P u st z) fun s => og (J3 r.2 && J3 s.2) (ob (A3V r.1 s.1) fun d => k (st.put o.dst d .val))) = some x)
 (Rl : J2 E st a w.heap) (T : Then E w k x K) : Gp C.P o a w K := by
 obtain ⟨r, h1, H⟩ := C8 H;obtain ⟨s, h2, H⟩ := C8 H;obtain ⟨Qo, H⟩ := F8 H;obtain ⟨d, hd, H⟩ := C8 H;simp only [z9q] at Qo;obtain ⟨kd, p, q, hr, hs, JZ⟩ := B0I hd;have e1 := (Rl.src h1).data Qo.1;have e2 := (Rl.src h2).data Qo.2;rw [hr, B_] at e1;rw [hs, B_] at e2;rw [JZ] at H;refine AA (v := .int kd (if q > p then q else p)) ?_ H Rl (by rw [B_]) @T
 refine KM E9 hc ?_;rw [show c.args.map a.eval = #[a.eval y, a.eval z] from by rw [aA ha]; simp]
 refine C_ ?_;rw [e1, e2];simp [Builtin.max_, Builtin.max2]
theorem B4L {c : Call} {y z : Operand} {t u : TypeId} (E9 : o.op = .call c) (hc : c.callee = .builtin .min) (ha : c.args.toList = [y, z])
 (H : (ob (src C.P t st y) fun r => ob (src C.P u st z) fun s => og (J3 r.2 && J3 s.2) (ob (A1E r.1 s.1) fun d => k (st.put o.dst d .val))) = some x)
 (Rl : J2 E st a w.heap) (T : Then E w k x K) : Gp C.P o a w K := by
 obtain ⟨r, h1, H⟩ := C8 H;obtain ⟨s, h2, H⟩ := C8 H;obtain ⟨Qo, H⟩ := F8 H;obtain ⟨d, hd, H⟩ := C8 H;simp only [z9q] at Qo;obtain ⟨kd, p, q, hr, hs, JZ⟩ := B0J hd;have e1 := (Rl.src h1).data Qo.1;have e2 := (Rl.src h2).data Qo.2;rw [hr, B_] at e1;rw [hs, B_] at e2;rw [JZ] at H;refine AA (v := .int kd (if q < p then q else p)) ?_ H Rl (by rw [B_]) @T
 refine KM E9 hc ?_;rw [show c.args.map a.eval = #[a.eval y, a.eval z] from by rw [aA ha]; simp]
 refine C_ ?_;rw [e1, e2];simp [Builtin.min_, Builtin.min2]
theorem B3R {S : Q6} {h : Heap} {sz : Nat} {d e : DV} {v : Value} (H : A9p sz d = some e) (R : RV S h d v) : ∃ b o, v = .pointer (some ⟨b, o, none⟩) ∧ Elem S h sz b o e := by
 unfold A9p at H
 split at H
 ·rename_i sz' d'
  split at H
  ·rename_i hs
   simp only [Option.some.injEq] at H;subst H hs;simp only [RV, RC] at R;obtain ⟨b, o, hv, us, h1, h2, h3⟩ := R;simp only [List.cons.injEq, and_true] at hv;exact ⟨b, o, hv, us, h1, h2, h3⟩
  ·cases H
 ·cases H
theorem A7j {fl : Flags} {y : Operand} (E9 : o.op = .nilCheck y)
 (H : (ob (src C.P 0 st y) fun r => match r.2 with
   | .loc s o' => k (st.put o.dst .undef (.loc s o'))
   | .OT ag sz o' => k (st.put o.dst r.1 (.OT ag sz o'))
   | .ptr i o' => k (st.put o.dst .undef (.ptr i o'))
   | .Yw i sz j o' => k (st.put o.dst .undef (.Yw i sz j o'))
   | .opt i sz j => k (st.put o.dst .undef (.opt i sz j))
   | .fn f cs => k (st.put o.dst .undef (.fn f cs))
   | .val => ob (o.dst.bind fun t => fl.refs.find? (·.1 == t)) fun q => ob (A9p q.2 r.1) fun d => k (st.put o.dst d (.OT true q.2 0))
   | _ => none) = some x) (Rl : J2 E st a w.heap) (T : Then E w k x K) : Gp C.P o a w K := by
 obtain ⟨r, h1, H⟩ := C8 H;have e1 := Rl.src h1;have hp : ∀ b, a.eval y = .pointer (some b) → (execOp a.eval o).run C.P w = .ok (.value (.pointer (some b))) w := by
  intro b hb;simp only [execOp, E9, hb, Sem.run_pure]
 have hf : ∀ f c d, a.eval y = .func (.func f) c d → (execOp a.eval o).run C.P w = .ok (.value (.func (.func f) c d)) w := by
  intro f c d hb;simp only [execOp, E9, hb, Sem.run_pure]
 revert e1 H
 cases hm : r.2 <;> intro H e1 <;> simp only [reduceCtorEq] at H <;> simp only [RR, K4] at e1
 case val =>
  obtain ⟨q, -, H⟩ := C8 H;obtain ⟨d, hd, H⟩ := C8 H;obtain ⟨b, o0, r1, r2⟩ := B3R hd e1;exact X7 (hp _ r1) H Rl (fun _ _ => ⟨b, o0, rfl, r2, fun h => by cases h⟩) @T
 case loc s off => exact X7 (hp _ e1.2) H Rl (fun _ _ => ⟨rfl, rfl⟩) @T
 case OT ag sz off =>
  obtain ⟨b, o0, r1, r2, r3⟩ := e1;exact X7 (hp _ r1) H Rl (fun _ _ => ⟨b, o0, rfl, r2, r3⟩) @T
 case ptr i off => exact X7 (hp _ e1.2) H Rl (fun _ _ => ⟨e1.1, rfl⟩) @T
 case Yw i sz idx off => exact X7 (hp _ e1.2) H Rl (fun _ _ => ⟨e1.1, rfl⟩) @T
 case opt i sz idx => exact X7 (hp _ e1.2) H Rl (fun _ _ => ⟨e1.1, rfl⟩) @T
 case fn f cs => exact X7 (hf _ _ _ e1.1) H Rl (fun _ _ => ⟨rfl, e1.2⟩) @T
theorem Gg {P : Program} {t : TypeId} {z : Nat × Bool} (hz : tz P t = some z) {b off : Nat} {vs : List Value} (hl : vs.length = z.1) (hc : ∀ (j : Nat) v, vs[j]? = some v → hc w.heap b (off + j) = some v) :
 ∃ v, (loadVar t ⟨b, off, none⟩).run P w = .ok v w ∧ (z.2 = true → v = .agg vs.toArray) ∧ (z.2 = false → vs = [v]) := by
 unfold loadVar;simp only [Sem.run_bind, A7R hz, Result.andThen_ok, Sem.run_ite]
 by_cases h2 : z.2 = true
 ·rw [if_pos h2]
  have h3 : (loadCells ⟨b, off, none⟩ z.1).run P w = .ok vs.toArray w := by
   rw [← hl];refine run_loadCells_list w _ vs fun j v hv => ?_
   rw [Addr.add_lit, KO];exact hc j v hv
  refine ⟨_, by simp only [Oe hz, h3, Result.andThen_ok, Sem.run_pure], fun _ => rfl, fun h4 => ?_⟩
  rw [h2] at h4;cases h4
 ·rw [if_neg h2]
  have Jc : z.1 = 1 := by
   obtain ⟨i, d, -, -, -, h4⟩ := IU hz;exact h4 (by simpa using h2)
  match vs, hl.trans Jc with
  | [v], _ =>
    have h5 := hc 0 v rfl;refine ⟨v, ?_, fun h3 => absurd h3 h2, fun _ => rfl⟩
    rw [run_load, KO];simp only [z21q] at h5;rw [h5]
theorem VN {P : Program} {t : TypeId} {y : Operand} (E9 : o.op = .load t y) {b off : Nat} {v : Value} (he : a.eval y = .pointer (some ⟨b, off, none⟩)) (h : (loadVar t ⟨b, off, none⟩).run P w = .ok v w) :
 (execOp a.eval o).run P w = .ok (.value v) w := by
 simp only [execOp, E9];refine C_ ?_;simp only [Instr.loadAt, he, Instr.sureAddr, Sem.run_bind, Sem.run_pure, Result.andThen_ok, h]
end
end Go.Su

/-
 THE DATA MACHINE, part 11: memory read.
-/
namespace Go.Su
theorem ul {E : Env} {h : Heap} {tg : Tag} {k a b : Nat} {cs : List (DV × Meta)} (B : af E h tg k a b cs) {off n : Nat} (hn : off + n ≤ cs.length) :
 ∃ vs : List Value, vs.length = n ∧ (∀ (j : Nat) v, vs[j]? = some v → hc h b (off + j) = some v) ∧
   ∀ (j : Nat) v r, vs[j]? = some v → cs[off + j]? = some r → M9 r.1 = true ∧ v.oneCell' = true ∧ X0 r.2 = true ∧ K4 E h (.sp k a (off + j)) r.1 r.2 v := by
 obtain ⟨c, T, h1, h2, h3, h4⟩ := B;have e : ∀ (j : Nat) v, ((c.toList.drop off).take n)[j]? = some v → c[off + j]? = some v := by
  intro j v hv;have hj : j < n := by have := (z0q.1 hv).1; simp only [z14q, z18q] at this; omega
  rw [z4q hj, z11q] at hv;simpa using hv
 refine ⟨(c.toList.drop off).take n, by simp only [z14q, z18q, Array.length_toList]; omega, fun j v hv => ?_, fun j v r hv hr => h4 (off + j) r v hr (e j v hv)⟩
 unfold hc;rw [h1];exact e j v hv
theorem BN {m : Meta} (h : X0 m = true) : dm m = Xk m ∧ X0 (dm m) = true ∧ dm m ≠ .own := by
 cases m <;> simp_all [X0, dm, Xk]
theorem K4.BN {E : Env} {h : Heap} {tg tg' : Tag} {d : DV} {m : Meta} {v : Value} (hm : X0 m = true) (R : K4 E h tg d m v) : K4 E h tg' d (dm m) v := by
 rw [(Su.BN hm).1];exact R.Xk
theorem K4.oC {E : Env} {h : Heap} {tg tg' : Tag} {d : DV} {v : Value} (R : K4 E h tg d .full v) : K4 E h tg' d .own v := by
 simp only [K4] at R ⊢;obtain ⟨r1, ⟨p, n, rfl⟩, sz, ds, r2⟩ := R;refine ⟨r1, sz, ds, r2, fun x len cap hv H7 => ?_⟩
 simp only [Value.slice.injEq] at hv;omega
section
variable {X : Type} {C : X5} {R : N7} {o : Oper} {st : St} {k : St → Option X} {x : X} {E : Env} {a : Act} {w : World} {K : Act → World → Prop} {Q : Exit → Act → World → Prop}
theorem A1D {cs : List (DV × Meta)} {vs : List Value} (hl : vs.length = cs.length) (H : ∀ (j : Nat) v r, vs[j]? = some v → cs[j]? = some r → M9 r.1 = true ∧ v.oneCell' = true ∧ X0 r.2 = true ∧ ∃ tg, K4 E w.heap tg r.1 r.2 v) (p q : Nat) :
 RR E w.heap p q (fO cs).1 (fO cs).2 (.agg vs.toArray) := by
 simp only [fO, RR];refine ⟨_, _, rfl, rfl, by simp, by simp [hl], fun i m d v h1 h2 h3 => ?_⟩
 simp only [z7q, z8q] at h1 h2;obtain ⟨r, hr, rfl⟩ := h1;obtain ⟨r', CQ, rfl⟩ := h2;rw [hr] at CQ;simp only [Option.some.injEq] at CQ;subst CQ;obtain ⟨a1, a2, a3, tg, a4⟩ := H i v r (by simpa using h3) hr
 exact ⟨a1, a2, (Su.BN a3).2.1, a4.BN a3⟩
theorem A77 {r : DV × Meta} {v : Value} {tg : Tag} (h1 : M9 r.1 = true) (h2 : v.oneCell' = true) (h3 : X0 r.2 = true) (h4 : K4 E w.heap tg r.1 r.2 v) :
 M9 (Wh r).1 = true ∧ v.oneCell' = true ∧ X0 (Wh r).2 = true ∧ ∃ tg, K4 E w.heap tg (Wh r).1 (Wh r).2 v := by
 unfold Wh
 split
 ·exact ⟨rfl, h2, rfl, tg, by simp only [K4, RV]⟩
 ·exact ⟨h1, h2, h3, tg, h4⟩
theorem av {cs : List (DV × Meta)} {off : Nat} {d : DV} (h : U4 cs off = some d) : ∃ m, cs[off]? = some (d, m) ∧ (m = .val ∨ m = .full ∨ m = .own ∨ m = .FT) := by
 unfold U4 at h
 split at h <;> simp only [Option.some.injEq, reduceCtorEq] at h <;> subst h
 ·exact ⟨_, ‹_›, .inl rfl⟩
 ·exact ⟨_, ‹_›, .inr (.inl rfl)⟩
 ·exact ⟨_, ‹_›, .inr (.inr (.inl rfl))⟩
 ·exact ⟨_, ‹_›, .inr (.inr (.inr rfl))⟩
theorem kF {E : Env} {h : Heap} {tg : Tag} {d : DV} {m : Meta} {v : Value} (hm : m = .val ∨ m = .full ∨ m = .own ∨ m = .FT) (R : K4 E h tg d m v) : RV E.S h d v := by
 rcases hm with rfl | rfl | rfl | rfl
 ·exact R
 ·exact R.1
 ·exact R.1
 ·obtain ⟨rfl, rfl⟩ := (R : _ ∧ _)
  simp only [RV]
theorem A1v : ∀ {n off : Nat} {cs : List (DV × Meta)} {ds : List DV}, yM off n cs = some ds → ds.length = n ∧ ∀ (i : Nat) d, ds[i]? = some d → U4 cs (off + i) = some d
 | 0, off, cs, ds, h => by simp only [yM, Option.some.injEq] at h; subst h; simp
 | n + 1, off, cs, ds, h => by
   simp only [yM] at h;obtain ⟨d, hd, h⟩ := C8 h;obtain ⟨ds', xe, h⟩ := C8 h;simp only [Option.some.injEq] at h;subst h;obtain ⟨l1, l2⟩ := A1v xe;refine ⟨by simp [l1], fun i d' hi => ?_⟩
   cases i with
   | zero => simp only [z2q, Option.some.injEq] at hi; subst hi; simpa using hd
   | succ i => simp only [z10q] at hi; have := l2 i d' hi; rwa [z20q, z40q 1 i] at this
theorem om {sg : List D7} {i : Nat} {cs : List (DV × Meta)} (h : M7 sg i = some cs) : sg[i]? = some (.box cs) := by
 unfold M7 at h
 split at h
 ·simp only [Option.some.injEq] at h; subst h; assumption
 ·simp at h
theorem Zy {sg : List D7} {i : Nat} {p : Nat × List DV} (h : VO sg i = some p) : sg[i]? = some (.arr p.1 p.2) := by
 unfold VO at h
 split at h
 ·simp only [Option.some.injEq] at h; subst h; assumption
 ·simp at h
theorem oo {sg : List D7} {i : Nat} {sz : Nat} {pre ds : List DV} (h : Zz sg i = some (sz, pre, ds)) : sg[i]? = some (.opn sz pre ds) := by
 unfold Zz at h
 split at h
 ·rename_i heq
  simp only [Option.some.injEq, Prod.mk.injEq] at h;obtain ⟨rfl, rfl, rfl⟩ := h;exact heq
 ·simp at h
theorem A3C {sg : List D7} {i : Nat} {p : Bool × List (DV × DV)} (h : p9 sg i = some p) : sg[i]? = some (.map p.1 p.2) := by
 unfold p9 at h
 split at h
 ·simp only [Option.some.injEq] at h; subst h; assumption
 ·simp at h
theorem En (Rl : J2 E st a w.heap) {i : Nat} {ob : D7} (h : st.sg[i]? = some ob) : i < E.n := by
 rw [← Rl.n]; exact (z0q.1 h).1
theorem iM {α : Type} {l cs : List α} {o : Nat} (h : o + cs.length ≤ l.length) (j : Nat) : (putAt l o cs)[j]? = if o ≤ j ∧ j < o + cs.length then cs[j - o]? else l[j]? := by
 unfold putAt
 by_cases h1 : j < o
 ·rw [if_neg (by omega), z41q, z17q (by simp; omega), z4q h1]
 ·by_cases h2 : j < o + cs.length
  ·rw [if_pos (by omega), z41q, z16q (by simp; omega), z17q (by simp; omega)]
   congr 1
   simp;omega
  ·rw [if_neg (by omega), z16q (by simp; omega), z11q]
   congr 1
   simp;omega
theorem dh {α : Type} {l cs : List α} {o : Nat} (h : o + cs.length ≤ l.length) : (putAt l o cs).length = l.length := by
 unfold putAt; simp; omega
theorem J2.A9f (Rl : J2 E st a w.heap) {s off n : Nat} {cs : List (DV × Meta)} (hb : st.bx.getD s none = some cs) (hn : off + n ≤ cs.length) {f : Tag → Tag}
 (hf : ∀ T, (∀ j, off ≤ j → j < off + n → T ≠ .sp 1 s j) → f T = T) : J2 (E.re f) { st with bx := st.bx.set s (some (putAt cs off (((cs.drop off).take n).map fun c : DV × Meta => (c.1, dm c.2)))) } a w.heap := by
 have FI : f .shut = .shut := hf _ (by simp)
 have OI : f .other = .other := hf _ (by simp)
 have P : Pr (fun T => ∃ j, off ≤ j ∧ j < off + n ∧ T = .sp 1 s j) E w.heap (E.re f) w.heap := Pr.re fun T hT => hf T fun j h1 h2 h3 => hT ⟨j, h1, h2, h3⟩
 have I9 : X8 E.S w.heap (E.re f).S w.heap := Jq FI;have hl : (((cs.drop off).take n).map fun c : DV × Meta => (c.1, dm c.2)).length = n := by simp; omega
 refine ⟨Rl.size, Rl.Aq, by simp [Rl.Cs], Rl.n, fun u v hu => ?_, fun s' cs' hs => ?_, fun i ob hi => ?_, fun b o hb => ?_⟩
 ·exact (Rl.regs u v hu).re FI OI fun b => hf _ (by simp)
 ·have A1L : s < st.bx.length := by
   rcases z32q s st.bx.length with h1 | h1
   ·exact h1
   ·simp [z1q, z22q h1] at hb
  by_cases dQ : s = s'
  ·subst dQ
   simp only [z1q, z6q A1L, z33q, Option.some.injEq] at hs;subst hs;obtain ⟨cv, T, h1, h2, h3, h4⟩ := Rl.boxes s cs hb;refine ⟨cv, T, h1, by rw [dh (by omega)]; exact h2, fun o => ?_, fun j r v hr hv => ?_⟩
   ·rcases h3 o with h5 | h5
    ·left; simp only [Env.re]; rw [h5]; exact hf _ (by simp)
    ·exact .inr h5
   ·rw [iM (by omega), hl] at hr
    by_cases hj : off ≤ j ∧ j < off + n
    ·rw [if_pos hj, z7q, z4q (by omega), z11q, z8q] at hr
     obtain ⟨c, Qo, rfl⟩ := hr;rw [show off + (j - off) = j by omega] at Qo
     obtain ⟨a1, a2, a3, a4⟩ := h4 j c v Qo hv;have a5 : K4 E w.heap .other c.1 (dm c.2) v := a4.BN a3;exact ⟨a1, a2, (Su.BN a3).2.1, (a5.re FI OI : K4 (E.re f) w.heap .other c.1 (dm c.2) v).tag (Su.BN a3).2.2⟩
    ·rw [if_neg hj] at hr
     obtain ⟨a1, a2, a3, a4⟩ := h4 j r v hr hv;exact ⟨a1, a2, a3, a4.re FI (hf _ fun j' q1 q2 he => by simp only [Tag.sp.injEq, true_and] at he; exact hj (by omega))⟩
  ·simp only [z1q, z12q dQ] at hs
   have := Rl.boxes s' cs' (by simpa [z1q] using hs)
   exact this.mono P I9 (by simp) (by rintro j ⟨j', -, -, h⟩; simp only [Tag.sp.injEq, true_and] at h; exact dQ h.1.symm)
 ·exact (Rl.Q3 i ob hi).mono P I9 (by rw [← Rl.n]; exact (z0q.1 hi).1) (by simp) (by simp)
 ·simp only [Env.re]; rw [Rl.fresh b o hb, OI]
theorem J2.B0w (Rl : J2 E st a w.heap) {s off : Nat} {cs : List (DV × Meta)} {c : DV × Meta} (hb : st.bx.getD s none = some cs) (Qo : cs[off]? = some c) {f : Tag → Tag}
 (hf : ∀ T, T ≠ .sp 1 s off → f T = T) : J2 (E.re f) { st with bx := st.bx.set s (some (cs.set off (c.1, dm c.2))) } a w.heap := by
 have FI : f .shut = .shut := hf _ (by simp)
 have OI : f .other = .other := hf _ (by simp)
 have P : Pr (fun T => T = .sp 1 s off) E w.heap (E.re f) w.heap := Pr.re fun T hT => hf T hT
 have I9 : X8 E.S w.heap (E.re f).S w.heap := Jq FI;refine ⟨Rl.size, Rl.Aq, by simp [Rl.Cs], Rl.n, fun u v hu => ?_, fun s' cs' hs => ?_, fun i ob hi => ?_, fun b o hb => ?_⟩
 ·exact (Rl.regs u v hu).re FI OI fun b => hf _ (by simp)
 ·have A1L : s < st.bx.length := by
   rcases z32q s st.bx.length with h1 | h1
   ·exact h1
   ·simp [z1q, z22q h1] at hb
  by_cases dQ : s = s'
  ·subst dQ
   simp only [z1q, z6q A1L, z33q, Option.some.injEq] at hs;subst hs;obtain ⟨cv, T, h1, h2, h3, h4⟩ := Rl.boxes s cs hb;refine ⟨cv, T, h1, by simpa using h2, fun o => ?_, fun j r v hr hv => ?_⟩
   ·rcases h3 o with h5 | h5
    ·left; simp only [Env.re]; rw [h5]; exact hf _ (by simp)
    ·exact .inr h5
   ·by_cases hj : off = j
    ·subst hj
     have H7 := (z0q.1 Qo).1;rw [z6q H7] at hr;simp only [Option.some.injEq] at hr;subst hr;obtain ⟨a1, a2, a3, a4⟩ := h4 off c v Qo hv;have a5 : K4 E w.heap .other c.1 (dm c.2) v := a4.BN a3;exact ⟨a1, a2, (Su.BN a3).2.1, (a5.re FI OI : K4 (E.re f) w.heap .other c.1 (dm c.2) v).tag (Su.BN a3).2.2⟩
    ·rw [z12q hj] at hr
     obtain ⟨a1, a2, a3, a4⟩ := h4 j r v hr hv;exact ⟨a1, a2, a3, a4.re FI (hf _ (by simp; exact fun h => hj h.symm))⟩
  ·simp only [z1q, z12q dQ] at hs
   have := Rl.boxes s' cs' (by simpa [z1q] using hs)
   exact this.mono P I9 (by simp) (by simp; intro h; exact absurd h.symm dQ)
 ·exact (Rl.Q3 i ob hi).mono P I9 (by rw [← Rl.n]; exact (z0q.1 hi).1) (by simp) (by simp)
 ·simp only [Env.re]; rw [Rl.fresh b o hb, OI]
theorem J2.A8d (Rl : J2 E st a w.heap) {i off : Nat} {cs : List (DV × Meta)} {d : DV} {m : Meta} (hb : st.sg[i]? = some (.box cs)) (Qo : cs[off]? = some (d, m)) (hm : m = .full ∨ m = .own) {f : Tag → Tag}
 (hf : ∀ T, T ≠ .sp 2 i off → f T = T) : J2 (E.re f) { st with sg := st.sg.set i (.box (cs.set off (d, .val))) } a w.heap := by
 have FI : f .shut = .shut := hf _ (by simp)
 have OI : f .other = .other := hf _ (by simp)
 have P : Pr (fun T => T = .sp 2 i off) E w.heap (E.re f) w.heap := Pr.re fun T hT => hf T hT
 have I9 : X8 E.S w.heap (E.re f).S w.heap := Jq FI;have QI := (z0q.1 hb).1;refine ⟨Rl.size, Rl.Aq, Rl.Cs, by simpa [Env.re] using Rl.n, fun u v hu => ?_, fun s' cs' hs => ?_, fun i' ob hi => ?_, fun b o hb => ?_⟩
 ·exact (Rl.regs u v hu).re FI OI fun b => hf _ (by simp)
 ·exact (Rl.boxes s' cs' hs).mono P I9 (by simp) (by simp)
 ·by_cases Gf : i = i'
  ·subst Gf
   simp only [z6q QI, Option.some.injEq] at hi;subst hi;obtain ⟨cv, T, h1, h2, h3, h4⟩ := Rl.Q3 i _ hb;refine ⟨cv, T, h1, by simpa using h2, fun o => ?_, fun j r v hr hv => ?_⟩
   ·rcases h3 o with h5 | h5
    ·left; simp only [Env.re]; rw [h5]; exact hf _ (by simp)
    ·exact .inr h5
   ·by_cases hj : off = j
    ·subst hj
     have H7 := (z0q.1 Qo).1;rw [z6q H7] at hr;simp only [Option.some.injEq] at hr;subst hr;obtain ⟨a1, a2, a3, a4⟩ := h4 off _ v Qo hv;have a5 : RV E.S w.heap d v := kF (by rcases hm with h | h <;> simp [h]) a4
     exact ⟨a1, a2, rfl, a5.mono I9⟩
    ·rw [z12q hj] at hr
     obtain ⟨a1, a2, a3, a4⟩ := h4 j r v hr hv;exact ⟨a1, a2, a3, a4.re FI (hf _ (by simp; exact fun h => hj h.symm))⟩
  ·simp only [z12q Gf] at hi
   exact (Rl.Q3 i' ob hi).mono P I9 (En Rl hi) (by simp) (by simp; intro h; exact absurd h.symm Gf)
 ·simp only [Env.re]; rw [Rl.fresh b o hb, OI]
def PU (T0 : Tag) (t : Nat) (T : Tag) : Tag := if T = T0 then .sp 0 t 0 else T
def oD (s off n t : Nat) (T : Tag) : Tag :=
 match T with
 | .sp 1 s' j => if s' = s ∧ off ≤ j ∧ j < off + n then .sp 0 t (j - off + 1) else .sp 1 s' j
 | T => T
theorem jX {s off n t : Nat} {T : Tag} (h : ∀ j, off ≤ j → j < off + n → T ≠ .sp 1 s j) : oD s off n t T = T := by
 unfold oD
 split
 ·split
  ·rename_i hx; obtain ⟨rfl, h1, h2⟩ := hx; exact absurd rfl (h _ h1 h2)
  ·rfl
 ·rfl
theorem GX {T0 : Tag} {t : Nat} {T : Tag} (h : T ≠ T0) : PU T0 t T = T := by simp [PU, h]
theorem B29 {fl : Flags} {t : TypeId} {y : Operand} (E9 : o.op = .load t y) (H : EB C fl o t y st k = some x) (Rl : J2 E st a w.heap) (T : Then E w k x K) : Gp C.P o a w K := by
 unfold EB at H;obtain ⟨r, h1, H⟩ := C8 H;obtain ⟨z, hz, H⟩ := C8 H;have e1 := Rl.src h1;have Jc : z.2 = false → z.1 = 1 := by
  obtain ⟨i, d, -, -, -, h4⟩ := IU hz;exact h4
 split at H
 ·-- a private variable
  rename_i s off hm;rw [hm] at e1;simp only [RR, K4] at e1;obtain ⟨cs, hb, H⟩ := C8 H;obtain ⟨I9, H⟩ := M3 H;have B := Rl.boxes s cs hb;obtain ⟨vs, l1, l2, l3⟩ := ul B I9;obtain ⟨v, g1, g2, g3⟩ := Gg (w := w) hz l1 l2;have U1 := VN E9 e1.2 g1
  by_cases h2 : z.2 = true
  ·rw [if_pos h2] at H
   simp only at H
   by_cases Q7 : K8 fl.M0 o.dst = true
   ·rw [if_pos Q7] at H
    cases hd : o.dst with
    | none =>
      rw [hd] at Q7;simp [K8] at Q7
    | some t0 =>
      rw [hd] at H;refine Bv U1 ?_;rw [hd];refine T (E.re (oD s off z.1 t0)) _ _ w H ((Rl.A9f hb I9 fun T hT => jX hT).put fun t1 ht => ?_) (Pr.re fun T hT => jX fun j _ _ he => hT (by rw [he]; simp [J8]))
      simp only [Option.some.injEq] at ht;subst ht;rw [g2 h2];simp only [RR];refine ⟨_, _, rfl, rfl, by simp, by simp; omega, fun i m d v e1 e2 e3 => ?_⟩
      simp only [z7q, z8q] at e1 e2;obtain ⟨r1, q1, rfl⟩ := e1;obtain ⟨r2, q2, rfl⟩ := e2;rw [q1] at q2;simp only [Option.some.injEq] at q2;subst q2;have hi : i < z.1 := by have := (z0q.1 q1).1; simp only [z14q] at this; omega
      rw [z4q hi, z11q] at q1;obtain ⟨a1, a2, a3, a4⟩ := l3 i v r1 (by simpa using e3) q1
      exact ⟨a1, a2, a3, a4.re (jX (by simp)) (by simp [oD, hi])⟩
   rw [if_neg Q7] at H;refine X7 U1 H Rl (fun t0 _ => ?_) @T
   rw [g2 h2];have B8Y : ((cs.drop off).take z.1).length = z.1 := by simp only [z14q, z18q]; omega
   have A9H : ∀ (j : Nat) v r, vs[j]? = some v → ((cs.drop off).take z.1)[j]? = some r → M9 r.1 = true ∧ v.oneCell' = true ∧ X0 r.2 = true ∧ ∃ tg, K4 E w.heap tg r.1 r.2 v := by
    intro j v r hv hr;have hj : j < z.1 := by have := (z0q.1 hr).1; omega
    rw [z4q hj, z11q] at hr;obtain ⟨a1, a2, a3, a4⟩ := l3 j v r hv hr;exact ⟨a1, a2, a3, _, a4⟩
   split
   ·refine A1D (by simp only [List.length_map]; omega) (fun j v r hv hr => ?_) 0 t0
    simp only [z7q, z8q] at hr;obtain ⟨r0, Co, rfl⟩ := hr;obtain ⟨a1, a2, a3, tg, a4⟩ := A9H j v r0 hv Co;exact A77 a1 a2 a3 a4
   ·exact A1D (by omega) A9H 0 t0
  ·rw [if_neg h2] at H
   have hv := g3 (by simpa using h2)
   subst hv;have H7 : off < cs.length := by have := Jc (by simpa using h2); omega
   have Jo : cs[off]? = some (cs.getD off (.undef, .val)) := by simp [z1q, z3q H7]
   obtain ⟨a1, a2, a3, a4⟩ := l3 0 v _ rfl (by simpa using Jo)
   simp only [z21q] at a4
   split at H
   ·cases hd : o.dst with
    | none =>
      rename_i Q7;rw [hd] at Q7;simp [K8] at Q7
    | some t0 =>
      rw [hd] at H;refine Bv U1 ?_;rw [hd];refine T (E.re (PU (.sp 1 s off) t0)) _ _ w H ((Rl.B0w hb Jo fun T hT => GX hT).put fun t1 ht => ?_) (Pr.re fun T hT => GX fun he => hT (by rw [he]; simp [J8]))
      simp only [Option.some.injEq] at ht;subst ht;exact RR.Bg (a4.re (GX (by simp)) (by simp [PU]))
   ·exact X7 U1 H Rl (fun _ _ => RR.Bg (a4.BN a3)) @T
 ·-- an element
  rename_i ag sz off hm;rw [hm] at e1;simp only [RR, K4] at e1;obtain ⟨b, o0, r1, ⟨us, u1, u2, u3⟩, r3⟩ := e1;obtain ⟨I9, H⟩ := M3 H;have l2 : ∀ (j : Nat) v, ((us.drop off).take z.1)[j]? = some v → hc w.heap b (o0 + off + j) = some v := by
   intro j v hv;have hj : j < z.1 := by have := (z0q.1 hv).1; simp only [z14q, z18q] at this; omega
   rw [z4q hj, z11q] at hv;rw [z20q];exact (u2 _ v hv).1
  obtain ⟨v, g1, g2, g3⟩ := Gg (w := w) hz (vs := (us.drop off).take z.1) (by simp only [z14q, z18q]; omega) l2
  have U1 := VN E9 r1 g1
  by_cases h2 : z.2 = true
  ·rw [if_pos h2] at H
   obtain ⟨LM, H⟩ := F8 H;refine AA U1 H Rl ?_ @T;rw [g2 h2];simp only [RV];exact ⟨_, rfl, um u3 (by omega)⟩
  ·rw [if_neg h2] at H
   have hv := g3 (by simpa using h2)
   have H7 : off < us.length := by have := Jc (by simpa using h2); omega
   have huv : us[off]? = some v := by
    have := congrArg (fun l : List Value => l[0]?) hv
    simp only [z2q] at this;rw [z4q (by have := Jc (by simpa using h2); omega), z11q, z21q] at this
    exact this
   refine AA U1 H Rl ?_ @T
   split
   ·obtain ⟨q1, q2⟩ := Md u3 huv
    exact Rx q1 q2
   ·rename_i LM
    have hl := r3 (by simpa using LM)
    obtain ⟨u, rfl⟩ := Mc hl u3;have xw : off = 0 := by simp at H7; omega
    subst xw;simp only [z2q, Option.some.injEq] at huv;subst huv;exact Rx hl u3
 ·-- a shared variable
  rename_i i off hm;rw [hm] at e1;simp only [RR, K4] at e1;obtain ⟨cs, hb, H⟩ := C8 H;have hb := om hb;have B := Rl.Q3 i _ hb;simp only [RO] at B;have one : ∀ (n : Nat) c, cs[n]? = some c → n < cs.length := fun n c hc => (z0q.1 hc).1
  by_cases h2 : z.2 = true
  ·rw [if_pos h2] at H
   obtain ⟨hz0, H⟩ := F8 H;obtain ⟨ds, xe, H⟩ := C8 H;obtain ⟨d1, d2⟩ := A1v xe;have B8U : z.1 ≠ 0 := by simpa using hz0
   have I9 : off + z.1 ≤ cs.length := by
    have := d2 (z.1 - 1) _ (z3q (by omega))
    obtain ⟨m, hm, -⟩ := av this;have := one _ _ hm;omega
   obtain ⟨vs, l1, l2, l3⟩ := ul B I9;obtain ⟨v, g1, g2, g3⟩ := Gg (w := w) hz l1 l2;refine AA (VN E9 e1.2 g1) H Rl ?_ @T;rw [g2 h2];simp only [RV];refine ⟨_, rfl, EP.2 ⟨by simp only [d1]; omega, fun j d v hd hv => ?_⟩⟩
   obtain ⟨m, hcm, hm⟩ := av (d2 j d hd);obtain ⟨a1, a2, a3, a4⟩ := l3 j v _ (by simpa using hv) hcm
   exact ⟨a1, Rw a1 a2 (kF hm a4)⟩
  ·rw [if_neg h2] at H
   have A36 := Jc (by simpa using h2)
   have fin : ∀ c, cs[off]? = some c → ∃ v, (execOp a.eval o).run C.P w = .ok (.value v) w ∧ M9 c.1 = true ∧ v.oneCell' = true ∧ X0 c.2 = true ∧ K4 E w.heap (.sp 2 i off) c.1 c.2 v := by
    intro c hc;have I9 : off + z.1 ≤ cs.length := by have := one _ _ hc; omega
    obtain ⟨vs, l1, l2, l3⟩ := ul B I9;obtain ⟨v, g1, g2, g3⟩ := Gg (w := w) hz l1 l2;have hv := g3 (by simpa using h2)
    subst hv;exact ⟨v, VN E9 e1.2 g1, by simpa using l3 0 v c rfl (by simpa using hc)⟩
   split at H
   ·obtain ⟨j, hj, H⟩ := C8 H
    unfold KN at hj
    split at hj <;> simp only [Option.some.injEq, reduceCtorEq] at hj
    rename_i hc;subst hj;obtain ⟨v, f1, f2, f3, f4, f5⟩ := fin _ hc;exact X7 f1 H Rl (fun _ _ => RR.Bg (by simp only [K4] at f5 ⊢; exact f5)) @T
   ·obtain ⟨j, hj, H⟩ := C8 H
    unfold A3T at hj
    split at hj <;> simp only [Option.some.injEq, reduceCtorEq] at hj
    rename_i hc;subst hj;obtain ⟨v, f1, f2, f3, f4, f5⟩ := fin _ hc;exact X7 f1 H Rl (fun _ _ => RR.Bg (by simp only [K4] at f5 ⊢; exact f5)) @T
   ·by_cases Q7 : K8 fl.M0 o.dst = true
    ·rw [if_pos Q7] at H
     obtain ⟨d, hd, H⟩ := C8 H;have hc : ∃ m, cs[off]? = some (d, m) ∧ (m = .full ∨ m = .own) := by
      unfold Vu at hd
      split at hd <;> simp only [Option.some.injEq, reduceCtorEq] at hd <;> subst hd
      ·exact ⟨_, ‹_›, .inl rfl⟩
      ·exact ⟨_, ‹_›, .inr rfl⟩
     obtain ⟨m, hc, hm⟩ := hc;obtain ⟨v, f1, f2, f3, f4, f5⟩ := fin _ hc;cases II : o.dst with
     | none =>
       rw [II] at Q7;simp [K8] at Q7
     | some t0 =>
       rw [II] at H;refine Bv f1 ?_;rw [II];refine T (E.re (PU (.sp 2 i off) t0)) _ _ w H ((Rl.A8d hb hc hm fun T hT => GX hT).put fun t1 ht => ?_) (Pr.re fun T hT => GX fun he => hT (by rw [he]; simp [J8]))
       simp only [Option.some.injEq] at ht;subst ht;have f6 : K4 (E.re (PU (.sp 2 i off) t0)) w.heap (.sp 0 t0 0) d m v := f5.re (GX (by simp)) (by simp [PU])
       rcases hm with rfl | rfl
       ·-- a slice that ends where its memory does owns what lies behind: nothing
        exact RR.Bg f6.oC
       ·exact RR.Bg f6
    ·rw [if_neg Q7] at H
     obtain ⟨d, hd, H⟩ := C8 H;obtain ⟨m, hc, hm⟩ := av hd;obtain ⟨v, f1, f2, f3, f4, f5⟩ := fin _ hc;exact AA f1 H Rl (kF hm f5) @T
 ·-- an element of a writable array
  rename_i i sz idx off hm;rw [hm] at e1;simp only [RR, K4] at e1;obtain ⟨p, hp, H⟩ := C8 H;obtain ⟨d, hd, H⟩ := C8 H;obtain ⟨Y9, H⟩ := F8 H;obtain ⟨I9, H⟩ := M3 H;have hp := Zy hp;have Y9 : p.1 = sz := by simpa using Y9
  rw [Y9] at hp;have B := Rl.Q3 i _ hp;simp only [RO] at B;have hne : p.2 ≠ [] := by intro h; rw [h] at hd; simp at hd
  obtain ⟨c, TT, b1, b2, b3, b4, b5⟩ := B hne;obtain ⟨us, u1, u2, u3⟩ := b5 idx d hd;have l2 : ∀ (j : Nat) v, ((us.drop off).take z.1)[j]? = some v → hc w.heap (E.obj i) (E.base i + idx * sz + off + j) = some v := by
   intro j v hv;have hj : j < z.1 := by have := (z0q.1 hv).1; simp only [z14q, z18q] at this; omega
   rw [z4q hj, z11q] at hv;rw [z20q];unfold hc;rw [b1];exact u2 _ v hv
  obtain ⟨v, g1, g2, g3⟩ := Gg (w := w) hz (vs := (us.drop off).take z.1) (by simp only [z14q, z18q]; omega) l2
  have U1 := VN E9 e1.2 g1
  by_cases h2 : z.2 = true
  ·rw [if_pos h2] at H
   refine AA U1 H Rl ?_ @T;rw [g2 h2];simp only [RV];exact ⟨_, rfl, um u3 (by omega)⟩
  ·rw [if_neg h2] at H
   have hv := g3 (by simpa using h2)
   have A36 := Jc (by simpa using h2)
   have huv : us[off]? = some v := by
    have := congrArg (fun l : List Value => l[0]?) hv
    simp only [z2q] at this;rw [z4q (by omega), z11q, z21q] at this
    exact this
   split at H
   ·obtain ⟨hl, H⟩ := F8 H
    refine AA U1 H Rl ?_ @T;obtain ⟨u, rfl⟩ := Mc hl u3;have xw : off = 0 := by have := (z0q.1 huv).1; simp at this; omega
    subst xw;simp only [z2q, Option.some.injEq] at huv;subst huv;exact Rx hl u3
   ·refine AA U1 H Rl ?_ @T
    obtain ⟨q1, q2⟩ := Md u3 huv;exact Rx q1 q2
 ·simp at H
end
end Go.Su

/-
 THE DATA MACHINE, part 12: variables made; values and slices built.
-/
namespace Go.Su
theorem B2X {h : Heap} {ob : Obj} {b : Nat} (hb : b < h.size) : (h.push ob)[b]? = h[b]? := by
 rw [Array.getElem?_push_lt hb, z25q hb]
theorem SV {h : Heap} {ob : Obj} : (h.push ob)[h.size]? = some ob := by simp
theorem Pr.push {ch : Tag → Prop} {E E' : Env} {h : Heap} {ob : Obj} (ht : ∀ b o, b < h.size → ¬ ch (E.O b o) → E'.O b o = E.O b o) (hn : E.n ≤ E'.n) (ho : ∀ i, i < E.n → E'.obj i = E.obj i ∧ E'.base i = E.base i ∧ E'.top i = E.top i)
 (hb : ∀ s, ¬ ch (.SS s) → E'.blk s = E.blk s) : Pr ch E h E' (h.push ob) :=
 ⟨by simp, fun b H7 => by rw [B2X H7]; exact X4.refl _ _, ht, hn, ho, hb⟩
theorem A29 {h : Heap} {c : Array Value} {T : TypeId} {f : Nat × Nat} (o : Nat) : hc (h.push (.cells c T f)) h.size o = c[o]? := by
 unfold hc; rw [SV]
theorem A1q {d : DV} (h : I7 d = true) : M9 d = true := by cases d <;> simp_all [I7, M9]
theorem A3c {S : Q6} {h : Heap} {d : DV} {v : Value} (hc : I7 d = true) (H : RV S h d v) : v.oneCell' = true := by
 cases d <;> simp only [I7] at hc <;> try contradiction
 ·rw [B_] at H; subst H; rfl
 ·rw [Me] at H; subst H; rfl
 ·rw [Xd] at H; subst H; rfl
 ·obtain ⟨a, len, cap, rfl, -⟩ := Sj H; rfl
 ·simp only [RV] at H; subst H; rfl
 ·rename_i sz d
  exact Gx (d := .VI sz d) rfl (by simpa only [RV] using H)
def DF (E : Env) (h : Heap) (tg : Tag) (r : DV × Meta) (v : Value) : Prop :=
 M9 r.1 = true ∧ v.oneCell' = true ∧ X0 r.2 = true ∧ K4 E h tg r.1 r.2 v
theorem fQ {X : Type} {E : Env} {h : Heap} {k a : Nat} {r : DV × Meta} {v : Value} {K : DV × Meta → Option X} {x : X} (R : RR E h k a r.1 r.2 v) (H : cellOf r K = some x) :
 ∃ c, K c = some x ∧ c.2 = r.2 ∧ DF E h (.sp k a 0) c v := by
 unfold cellOf at H
 split at H
 ·rename_i hm
  rw [hm] at R;obtain ⟨hc, H⟩ := F8 H;exact ⟨_, H, hm.symm, A1q hc, A3c hc R, rfl, R⟩
 ·rename_i hm
  rw [hm] at R;simp only [RR, K4] at R;obtain ⟨r1, ⟨p, n, rfl⟩, sz, ds, r2⟩ := R;exact ⟨_, H, hm.symm, by rw [r2]; rfl, rfl, rfl, r1, ⟨_, _, rfl⟩, _, _, r2⟩
 ·rename_i hm
  rw [hm] at R;simp only [RR, K4] at R;obtain ⟨r1, sz, ds, r2, r3⟩ := R;refine ⟨_, H, hm.symm, by rw [r2]; rfl, ?_, rfl, r1, sz, ds, r2, r3⟩
  rw [r2] at r1;obtain ⟨a, len, cap, rfl, -⟩ := Sj r1;rfl
 ·rename_i hm
  rw [hm] at R;obtain ⟨-, rfl⟩ := (R : _ ∧ _);exact ⟨_, H, hm.symm, rfl, rfl, rfl, rfl, rfl⟩
 ·obtain ⟨hm, H⟩ := F8 H
  refine ⟨_, H, rfl, ?_⟩;have n1 : r.2 ≠ .val := by intro h; simp_all
  have n2 : r.2 ≠ .full := by intro h; simp_all
  have n3 : r.2 ≠ .own := by intro h; simp_all
  have n4 : r.2 ≠ .FT := by intro h; simp_all
  revert R hm n1 n2 n3 n4
  generalize r.2 = m;intro R hm n1 n2 n3 n4;cases m <;> simp only [X0] at hm <;> simp only [RR, K4] at R <;> try contradiction
  case ptr i o => obtain ⟨r1, rfl⟩ := R; exact ⟨rfl, rfl, rfl, r1, rfl⟩
  case map i => obtain ⟨r1, rfl⟩ := R; exact ⟨rfl, rfl, rfl, r1, rfl⟩
  case QJ => subst R; exact ⟨rfl, rfl, rfl, rfl⟩
  case arr i sz off len => obtain ⟨r1, p, cap, rfl, r2⟩ := R; exact ⟨rfl, rfl, rfl, r1, _, _, rfl, r2⟩
  case fn f caps => obtain ⟨rfl, r2⟩ := R; exact ⟨rfl, rfl, rfl, rfl, r2⟩
def FX (E : Env) (h : Heap) (cs : List (DV × Meta)) (vs : List Value) : Prop :=
 cs.length = vs.length ∧ ∀ (j : Nat) r v, cs[j]? = some r → vs[j]? = some v → DF E h .other r v ∧ r.2 ≠ .own
theorem A7U : ∀ {ds : List DV} {ms : List Meta} {j : Nat} {r : DV × Meta}, (pO ds ms)[j]? = some r → ds[j]? = some r.1 ∧ ms[j]? = some r.2
 | d :: ds, m :: ms, 0, r, h => by simp only [pO, z2q, Option.some.injEq] at h; subst h; simp
 | d :: ds, m :: ms, j + 1, r, h => by simp only [pO, z10q] at h ⊢; exact A7U h
 | [], ms, j, r, h => by simp [pO] at h
 | d :: ds, [], j, r, h => by simp [pO] at h
theorem jr : ∀ {ds : List DV} {ms : List Meta}, ds.length = ms.length → (pO ds ms).length = ds.length
 | d :: ds, m :: ms, h => by simp only [pO, z44q]; rw [jr (by simpa using h)]
 | [], [], _ => rfl
theorem KP (n o : Nat) (d : DV) : (cells n o d).length = n := by simp [cells]
theorem A4I {n o j : Nat} {d e : DV} (h : (cells n o d)[j]? = some e) : j < n ∧ e = A7 (o + j) d := by
 have hj : j < n := by have := (z0q.1 h).1; simpa [cells] using this
 simp only [cells, z7q, z38q hj, z27q, Option.some.injEq] at h;exact ⟨hj, h.symm⟩
def A12 (E : Env) (h : Heap) (k a : Nat) (cs : List (DV × Meta)) (vs : List Value) : Prop :=
 cs.length = vs.length ∧ ∀ (j : Nat) r v, cs[j]? = some r → vs[j]? = some v → DF E h (.sp k a (j + 1)) r v
theorem DF.strip {E : Env} {h : Heap} {tg tg' : Tag} {r : DV × Meta} {v : Value} (H : DF E h tg r v) : DF E h tg' (r.1, dm r.2) v ∧ dm r.2 ≠ .own :=
 ⟨⟨H.1, H.2.1, (Su.BN H.2.2.1).2.1, H.2.2.2.BN H.2.2.1⟩, (Su.BN H.2.2.1).2.2⟩
theorem A12.strip {E : Env} {h : Heap} {k a : Nat} {cs : List (DV × Meta)} {vs : List Value} (H : A12 E h k a cs vs) : FX E h (cs.map fun c => (c.1, dm c.2)) vs := by
 refine ⟨by simpa using H.1, fun j r v hr hv => ?_⟩
 simp only [z7q, z8q] at hr;obtain ⟨c, hc, rfl⟩ := hr;exact (H.2 j c v hc hv).strip
theorem A4H {z : Nat} {E : Env} {h : Heap} {k a : Nat} {r : DV × Meta} {v : Value} {cs : List (DV × Meta)} (R : RR E h k a r.1 r.2 v) (hg : C9 z r.1 = true) (Gc : kN z r = some cs) :
 cs.length = z ∧ A12 E h k a cs v.cells.toList := by
 unfold kN at Gc
 split at Gc
 ·rename_i hm
  simp only [Option.some.injEq] at Gc;subst Gc;rw [hm] at R;obtain ⟨vs, rfl, Y9, hR⟩ := fJ hg R;refine ⟨by simp [KP], by simp [KP, Value.cells, Y9], fun j r' u hr hu => ?_⟩
  simp only [z7q, z8q] at hr;obtain ⟨d, hd, rfl⟩ := hr;obtain ⟨hj, rfl⟩ := A4I hd;obtain ⟨q1, q2⟩ := Md hR (j := 0 + j) (v := u) (by simpa [Value.cells] using hu)
  exact ⟨q1, Gx q1 q2, rfl, Rx q1 q2⟩
 ·rename_i ms hm
  obtain ⟨hl, Gc⟩ := M3 Gc;simp only [Option.some.injEq] at Gc;subst Gc;rw [hm] at R;simp only [RR] at R;obtain ⟨ds, vs, hd, rfl, l1, l2, l3⟩ := R;refine ⟨by rw [jr (by rw [KP, hl])]; exact KP _ _ _, by rw [jr (by rw [KP, hl]), KP]; simp [Value.cells]; omega, fun j r' u hr hu => ?_⟩
  obtain ⟨Fw, hr2⟩ := A7U hr;obtain ⟨hj, Fw⟩ := A4I Fw;have H7 : j < ds.length := by omega
  have hdj : ds[j]? = some r'.1 := by
   rw [Fw, hd];simp [A7, z1q, z3q H7]
  obtain ⟨a1, a2, a4, a5⟩ := l3 j r'.2 r'.1 u hr2 hdj (by simpa [Value.cells] using hu)
  exact ⟨a1, a2, a4, a5⟩
 ·simp at Gc
theorem nu {X : Type} {P : Program} {t : TypeId} {z : Nat × Bool} (hz : tz P t = some z) {E : Env} {h : Heap} {k a : Nat} {r : DV × Meta} {v : Value} {K : List (DV × Meta) → Option X} {x : X} (R : RR E h k a r.1 r.2 v) (H : explode P t r K = some x) :
 ∃ cs, K cs = some x ∧ cs.length = z.1 ∧ FX E h cs v.cells.toList := by
 unfold explode at H;obtain ⟨z', Hf, H⟩ := C8 H;rw [hz] at Hf;simp only [Option.some.injEq] at Hf;subst Hf
 split at H
 ·obtain ⟨hg, H⟩ := F8 H
  obtain ⟨cs, Gc, H⟩ := C8 H;obtain ⟨l1, l2⟩ := A4H R hg Gc;exact ⟨_, H, by simpa using l1, l2.strip⟩
 ·rename_i hz2
  obtain ⟨c, H, hm, AU⟩ := fQ R H;have Jc : z.1 = 1 := by
   obtain ⟨i, d, -, -, -, h4⟩ := IU hz;exact h4 (by simpa using hz2)
  have hv : v.cells = #[v] := by
   have := AU.2.1;cases v <;> first | rfl | (simp [Value.oneCell'] at this)
  refine ⟨_, H, Jc.symm, by simp [hv], fun j r' u hr hu => ?_⟩
  rw [hv] at hu;cases j with
  | succ j => simp at hr
  | zero =>
    simp only [z2q, Option.some.injEq] at hr hu;subst hr hu;exact AU.strip
theorem A56 {n : Nat} {r : DV × Meta} {cs : List (DV × Meta)} (h : kN n r = some cs) (hr : ∀ ms, r.2 ≠ .Ad ms) : ∀ c ∈ cs, c.2 ≠ .own := by
 unfold kN at h
 split at h
 ·simp only [Option.some.injEq] at h
  subst h;intro c hc;obtain ⟨d, -, rfl⟩ := List.mem_map.1 hc;simp
 ·rename_i ms hm; exact absurd hm (hr ms)
 ·cases h
theorem A04 {X : Type} {P : Program} {t : TypeId} {z : Nat × Bool} (hz : tz P t = some z) {E : Env} {h : Heap} {k a : Nat} {r : DV × Meta} {v : Value} {K : List (DV × Meta) → Option X} {x : X} (R : RR E h k a r.1 r.2 v) (H : HV P t r K = some x) :
 ∃ cs, K cs = some x ∧ cs.length = z.1 ∧ A12 E h k a cs v.cells.toList ∧ ((∀ ms, r.2 ≠ .Ad ms) → ∀ c ∈ cs, c.2 ≠ .own) := by
 unfold HV at H;obtain ⟨z', Hf, H⟩ := C8 H;rw [hz] at Hf;simp only [Option.some.injEq] at Hf;subst Hf
 split at H
 ·obtain ⟨hg, H⟩ := F8 H
  obtain ⟨cs, Gc, H⟩ := C8 H;obtain ⟨l1, l2⟩ := A4H R hg Gc;exact ⟨_, H, l1, l2, A56 Gc⟩
 ·rename_i hz2
  obtain ⟨c, H, hm, AU⟩ := fQ R H;have Jc : z.1 = 1 := by
   obtain ⟨i, d, -, -, -, h4⟩ := IU hz;exact h4 (by simpa using hz2)
  have hv : v.cells = #[v] := by
   have := AU.2.1;cases v <;> first | rfl | (simp [Value.oneCell'] at this)
  refine ⟨_, H, Jc.symm, ⟨by simp [hv], fun j r' u hr hu => ?_⟩, fun _ c' hc' => by simp only [List.mem_singleton] at hc'; subst hc'; exact (Su.BN AU.2.2.1).2.2⟩
  rw [hv] at hu;cases j with
  | succ j => simp at hr
  | zero =>
    simp only [z2q, Option.some.injEq] at hr hu;subst hr hu;exact AU.strip.1
theorem B42 {P : Program} {t : TypeId} {v : Value} {r : DV × Meta} {E : Env} {h : Heap} (H : cst P t v = some r) : DF E h .other r v ∧ r.2 ≠ .own := by
 have R : RR E h 0 0 r.1 r.2 v := A2I H 0 0;unfold cst at H
 split at H <;> simp only [Option.some.injEq, reduceCtorEq] at H <;> subst H <;> exact ⟨⟨rfl, rfl, rfl, R⟩, by simp⟩
theorem uw {P : Program} {E : Env} {h : Heap} : ∀ {ts : List TypeId} {vs : List Value} {cs : List (DV × Meta)}, Xh P ts vs = some cs → FX E h cs vs
 | [], [], cs, H => by simp only [Xh, Option.some.injEq] at H; subst H; exact ⟨rfl, by simp⟩
 | [], v :: vs, cs, H => by simp [Xh] at H
 | t :: ts, [], cs, H => by simp [Xh] at H
 | t :: ts, v :: vs, cs, H => by
   simp only [Xh] at H;obtain ⟨r, hr, H⟩ := C8 H;obtain ⟨rs, hrs, H⟩ := C8 H;simp only [Option.some.injEq] at H;subst H;obtain ⟨l1, l2⟩ := uw (E := E) (h := h) hrs;refine ⟨by simp [l1], fun j r' u h1 h2 => ?_⟩
   cases j with
   | zero => simp only [z2q, Option.some.injEq] at h1 h2; subst h1 h2; exact B42 hr
   | succ j => simp only [z10q] at h1 h2; exact l2 j r' u h1 h2
theorem Qv {P : Program} {t : TypeId} {cs : List (DV × Meta)} (H : JY P t = some cs) : ∃ i v, P.info? t = some i ∧ i.zero = some v ∧ ∀ E h, FX E h cs v.cells.toList := by
 unfold JY at H;obtain ⟨ts, hts, H⟩ := C8 H;obtain ⟨i, hi, H⟩ := C8 H;obtain ⟨v, hv, H⟩ := C8 H;exact ⟨i, v, hi, hv, fun E h => uw H⟩
section
variable {X : Type} {C : X5} {R : N7} {o : Oper} {st : St} {k : St → Option X} {x : X} {E : Env} {a : Act} {w : World} {K : Act → World → Prop} {Q : Exit → Act → World → Prop}
def Env.EQ (E : Env) (t0 b n : Nat) : Env :=
 { E with blk := fun s => if s = t0 then b else E.blk s,
          O := fun b' o => if b' = b then (if o < n then .SS t0 else .other) else if E.O b' o = .SS t0 then .other else E.O b' o }
def Env.newObj (E : Env) (b n : Nat) : Env :=
 { E with obj := fun i => if i = E.n then b else E.obj i, base := fun i => if i = E.n then 0 else E.base i, n := E.n + 1,
          O := fun b' o => if b' = b then (if o < n then .obj E.n else .other) else E.O b' o }
theorem DF.mono {ch : Tag → Prop} {E E' : Env} {h h' : Heap} (H : Pr ch E h E' h') (I9 : X8 E.S h E'.S h') {r : DV × Meta} {v : Value} (hm : r.2 ≠ .own) {tg : Tag} (R : DF E h .other r v) : DF E' h' tg r v := by
 obtain ⟨a1, a2, a3, a4⟩ := R;exact ⟨a1, a2, a3, (a4.mono H I9 (fun x => absurd x hm) fun s o hl => by rw [hl] at a3; simp [X0] at a3).tag hm⟩
theorem J2.newObj {cs : List (DV × Meta)} {vs : List Value} {T0 : TypeId} (hc : FX E w.heap cs vs) (Rl : J2 E st a w.heap) :
 J2 (E.newObj w.heap.size cs.length) { st with sg := st.sg ++ [.box cs] } a (w.heap.push (.cells vs.toArray T0)) ∧ Pr (fun _ => False) E w.heap (E.newObj w.heap.size cs.length) (w.heap.push (.cells vs.toArray T0)) := by
 obtain ⟨lc, hc⟩ := hc;have P1 : Pr (fun _ => False) E w.heap (E.newObj w.heap.size cs.length) (w.heap.push (.cells vs.toArray T0)) := by
  refine Pr.push (fun b o hb _ => ?_) (by simp [Env.newObj]) (fun i hi => ?_) (fun _ _ => rfl)
  ·simp only [Env.newObj]; rw [if_neg (by omega)]
  ·refine ⟨?_, ?_, rfl⟩ <;> simp only [Env.newObj] <;> rw [if_neg (by omega)]
 have I9 := P1.shut (by simp) Rl.fresh
 refine ⟨⟨Rl.size, Rl.Aq, Rl.Cs, by simp [Env.newObj, Rl.n], fun t v hv => (Rl.regs t v hv).mono P1 I9 (by simp) (by simp), fun s cs hs => (Rl.boxes s cs hs).mono P1 I9 (by simp) (by simp), fun i ob hi => ?_,
         fun b o hb => ?_⟩, P1⟩
 ·by_cases H7 : i < st.sg.length
  ·rw [z17q H7] at hi
   exact (Rl.Q3 i ob hi).mono P1 I9 (En Rl hi) (by simp) (by simp)
  ·have TD : i = st.sg.length := by
    have := (z0q.1 hi).1;simp at this; omega
   subst TD;simp only [z16q (z15q _), z37q, z2q, Option.some.injEq] at hi;subst hi;have hn := Rl.n;refine ⟨vs.toArray, T0, ?_, by simp [lc], fun o => ?_, fun j r v hr hv => ?_⟩
   ·simp only [Env.newObj, hn, if_true]; exact SV
   ·by_cases ho : o < cs.length
    ·left; simp only [Env.newObj, hn, if_true, if_pos ho]
    ·right; simp only [z35q]; omega
   ·obtain ⟨q1, q2⟩ := hc j r v hr (by simpa using hv)
    exact q1.mono P1 I9 q2
 ·simp only [z30q] at hb
  simp only [Env.newObj];rw [if_neg (by omega)]
  exact Rl.fresh b o (by omega)
theorem J2.EQ {t0 : Nat} {cs : List (DV × Meta)} {vs : List Value} {T0 : TypeId} (lc : cs.length = vs.length) (hc : ∀ (j : Nat) r v, cs[j]? = some r → vs[j]? = some v → DF E w.heap (.sp 1 t0 j) r v) (Rl : J2 E st a w.heap) :
 J2 (E.EQ t0 w.heap.size cs.length) { st with mt := st.mt.map (JI t0), bx := st.bx.set t0 (some cs) } a (w.heap.push (.cells vs.toArray T0)) ∧ Pr (fun T => T = .SS t0) E w.heap (E.EQ t0 w.heap.size cs.length) (w.heap.push (.cells vs.toArray T0)) := by
 have P1 : Pr (fun T => T = .SS t0) E w.heap (E.EQ t0 w.heap.size cs.length) (w.heap.push (.cells vs.toArray T0)) := by
  refine Pr.push (fun b o hb hn => ?_) (z15q _) (fun i hi => ⟨rfl, rfl, rfl⟩) (fun s hs => ?_)
  ·simp only [Env.EQ]; rw [if_neg (by omega), if_neg hn]
  ·simp only [Env.EQ]; rw [if_neg (by simpa using hs)]
 have I9 := P1.shut (by simp) Rl.fresh
 refine ⟨?_, P1⟩
 ·refine ⟨Rl.size, by simpa using Rl.Aq, by simpa using Rl.Cs, Rl.n, fun t v hv => ?_, fun s cs' hs => ?_, fun i ob hi => (Rl.Q3 i ob hi).mono P1 I9 (En Rl hi) (by simp) (by simp), fun b o hb => ?_⟩
  ·have h0 := Rl.regs t v hv
   have hg : (St.get { st with mt := st.mt.map (JI t0), bx := st.bx.set t0 (some cs) } t) = ((st.get t).1, JI t0 (st.get t).2) := by
    simp only [St.get, z1q, z7q];cases st.mt[t]? <;> rfl
   rw [hg];cases hm : (st.get t).2
   case loc s o =>
    rw [hm] at h0;simp only [RR, K4] at h0;simp only [JI]
    split
    ·rw [h0.1]; simp only [RR, K4, RV]
    ·rename_i hne
     refine ⟨h0.1, ?_⟩;rw [h0.2];simp only [Env.EQ]; rw [if_neg hne]
   all_goals
    rw [hm] at h0;simp only [JI];exact h0.mono P1 I9 (by simp) (by simp)
  ·have A1L : t0 = s → s < st.bx.length := by
    intro hts;rcases z32q s st.bx.length with h1 | h1
    ·exact h1
    ·simp [z1q, z22q (by simpa using h1 : (st.bx.set t0 (some cs)).length ≤ s)] at hs
   by_cases dQ : t0 = s
   ·subst dQ
    simp only [z1q, z6q (A1L rfl), z33q, Option.some.injEq] at hs;subst hs;refine ⟨vs.toArray, T0, ?_, by simp [lc], fun o => ?_, fun j r v hr hv => ?_⟩
    ·simp only [Env.EQ, if_true]; exact SV
    ·by_cases ho : o < cs.length
     ·left; simp only [Env.EQ, if_true, if_pos ho]
     ·right; simp only [z35q]; omega
    ·obtain ⟨q1, q2, q3, q4⟩ := hc j r v hr (by simpa using hv)
     exact ⟨q1, q2, q3, q4.mono P1 I9 (fun _ => by simp) fun s o hl => by rw [hl] at q3; simp [X0] at q3⟩
   ·simp only [z1q, z12q dQ] at hs
    have B := Rl.boxes s cs' (by simpa [z1q] using hs)
    have hne : ¬ s = t0 := fun h => dQ h.symm
    have := B.mono P1 I9 (tg := .SS s) (by simpa using hne) (by simp)
    simp only [Env.EQ] at this ⊢;rw [if_neg hne];exact this
  ·simp only [z30q] at hb
   simp only [Env.EQ];rw [if_neg (by omega)]
   have := Rl.fresh b o (by omega)
   rw [this];simp
theorem A3n {sh : Bool} {cs : List (DV × Meta)} {vs : List Value} {T0 : TypeId} (hc : FX E w.heap cs vs)
 (H : k (st.EL sh o.dst cs) = some x) (hr : (execOp a.eval o).run C.P w = .ok (.value (.pointer (some ⟨w.heap.size, 0, none⟩))) (w.alloc (.cells vs.toArray T0))) (Rl : J2 E st a w.heap) (T : Then E w k x K) : Gp C.P o a w K := by
 refine Bv hr ?_;obtain ⟨lc, hc⟩ := hc;cases hd : o.dst with
 | none =>
   rw [hd] at H;simp only [St.EL] at H;have P1 : Pr (fun _ => False) E w.heap E (w.heap.push (.cells vs.toArray T0)) := Pr.push (fun _ _ _ _ => rfl) (z15q _) (fun _ _ => ⟨rfl, rfl, rfl⟩) (fun _ _ => rfl)
   have I9 := P1.shut (by simp) Rl.fresh
   refine T E st _ (w.alloc (.cells vs.toArray T0)) H ?_ (P1.weaken (by simp))
   exact ⟨Rl.size, Rl.Aq, Rl.Cs, Rl.n, fun t v hv => (Rl.regs t v hv).mono P1 I9 (by simp) (by simp), fun s cs hs => (Rl.boxes s cs hs).mono P1 I9 (by simp) (by simp), fun i ob hi => (Rl.Q3 i ob hi).mono P1 I9 (En Rl hi) (by simp) (by simp),
    fun b o hb => Rl.fresh b o (by simp at hb; omega)⟩
 | some t0 =>
   rw [hd] at H;cases sh with
   | true =>
     simp only [St.EL, if_true] at H;have P1 : Pr (fun _ => False) E w.heap (E.newObj w.heap.size cs.length) (w.heap.push (.cells vs.toArray T0)) := by
      refine Pr.push (fun b o hb _ => ?_) (by simp [Env.newObj]) (fun i hi => ?_) (fun _ _ => rfl)
      ·simp only [Env.newObj]; rw [if_neg (by omega)]
      ·refine ⟨?_, ?_, rfl⟩ <;> simp only [Env.newObj] <;> rw [if_neg (by omega)]
     have I9 := P1.shut (by simp) Rl.fresh
     have R1 : J2 (E.newObj w.heap.size cs.length) { st with sg := st.sg ++ [.box cs] } a (w.heap.push (.cells vs.toArray T0)) := by
      refine ⟨Rl.size, Rl.Aq, Rl.Cs, by simp [Env.newObj, Rl.n], fun t v hv => (Rl.regs t v hv).mono P1 I9 (by simp) (by simp), fun s cs hs => (Rl.boxes s cs hs).mono P1 I9 (by simp) (by simp), fun i ob hi => ?_,
       fun b o hb => ?_⟩
      ·by_cases H7 : i < st.sg.length
       ·rw [z17q H7] at hi
        exact (Rl.Q3 i ob hi).mono P1 I9 (En Rl hi) (by simp) (by simp)
       ·have TD : i = st.sg.length := by
         have := (z0q.1 hi).1;simp at this; omega
        subst TD;simp only [z16q (z15q _), z37q, z2q, Option.some.injEq] at hi;subst hi;have hn := Rl.n;refine ⟨vs.toArray, T0, ?_, by simp [lc], fun o => ?_, fun j r v hr hv => ?_⟩
        ·simp only [Env.newObj, hn, if_true]; exact SV
        ·by_cases ho : o < cs.length
         ·left; simp only [Env.newObj, hn, if_true, if_pos ho]
         ·right; simp only [z35q]; omega
        ·obtain ⟨q1, q2⟩ := hc j r v hr (by simpa using hv)
         exact q1.mono P1 I9 q2
      ·simp only [z30q] at hb
       simp only [Env.newObj];rw [if_neg (by omega)]
       exact Rl.fresh b o (by omega)
     refine T (E.newObj w.heap.size cs.length) _ _ (w.alloc (.cells vs.toArray T0)) H (R1.put fun t1 _ => ?_) (P1.weaken (by simp))
     refine RR.Bg ⟨by simp [Env.newObj, Rl.n], ?_⟩
     simp only [Env.newObj, Rl.n, if_true]
   | false =>
     simp only [St.EL, z23q, if_false] at H;obtain ⟨R1, P1⟩ := Rl.EQ (t0 := t0) (T0 := T0) lc fun j r v hr hv => ⟨(hc j r v hr hv).1.1, (hc j r v hr hv).1.2.1, (hc j r v hr hv).1.2.2.1, (hc j r v hr hv).1.2.2.2.tag (hc j r v hr hv).2⟩
     refine T (E.EQ t0 w.heap.size cs.length) _ _ (w.alloc (.cells vs.toArray T0)) H (R1.put fun t1 ht => ?_) (P1.weaken (by rintro T rfl; simp [J8]))
     simp only [Option.some.injEq] at ht;subst ht;refine RR.Bg ⟨rfl, ?_⟩;simp only [Env.EQ, if_true]
end
end Go.Su

/-
 THE DATA MACHINE, part 13: new variables, structs and slices built, maps made, functions made.
-/
namespace Go.Su
theorem oz (vs : List Value) (off : Nat) : ∀ (cells : Array Value) (n : Nat), off + n + vs.length ≤ cells.size → ∀ j,
 ((vs.zipIdx n).foldl (fun (cs : Array Value) (p : Value × Nat) => cs.setIfInBounds (off + p.2) p.1) cells)[j]? = if off + n ≤ j ∧ j < off + n + vs.length then vs[j - (off + n)]? else cells[j]? := by
 induction vs with
 | nil =>
   intro cells n _ j;simp only [List.zipIdx_nil, List.foldl_nil, List.length_nil, z21q];rw [if_neg (by omega)]
 | cons v vs ih =>
   intro cells n hn j;simp only [z45q, List.foldl_cons, z44q] at hn ⊢;rw [ih _ (n + 1) (by simp; omega) j]
   by_cases h1 : j = off + n
   ·subst h1
    rw [if_neg (by omega), if_pos (by omega)]
    simp only [z37q, z2q];rw [z24q (by omega)]
   ·by_cases h2 : off + (n + 1) ≤ j ∧ j < off + (n + 1) + vs.length
    ·rw [if_pos h2, if_pos (by omega)]
     rw [show j - (off + n) = (j - (off + (n + 1))) + 1 from by omega, z10q]
    ·rw [if_neg h2, if_neg (by omega), z28q (Ne.symm h1)]
theorem A1B (vs : List Value) (off : Nat) : ∀ (cells : Array Value) (n : Nat), ((vs.zipIdx n).foldl (fun (cs : Array Value) (p : Value × Nat) => cs.setIfInBounds (off + p.2) p.1) cells).size = cells.size := by
 induction vs with
 | nil => intro cells n; simp
 | cons v vs ih => intro cells n; simp [z45q, ih]
def splice (cells : Array Value) (off : Nat) (v : Value) : Array Value := v.cells.zipIdx.foldl (fun cs (c, j) => cs.setIfInBounds (off + j) c) cells
theorem A5d (cells : Array Value) (off : Nat) (v : Value) : splice cells off v = (v.cells.toList.zipIdx 0).foldl (fun (cs : Array Value) (p : Value × Nat) => cs.setIfInBounds (off + p.2) p.1) cells := by
 unfold splice;rw [← Array.foldl_toList];simp
theorem A4P (place : Nat → Option (Nat × Nat)) (cells : Array Value) (i : Nat) (v : Value) (rest : List (Nat × Value)) {off size : Nat} (h1 : place i = some (off, size)) (h2 : v.cells.size = size) (h3 : off + size ≤ cells.size) :
 Instr.fill place cells ((i, v) :: rest) = Instr.fill place (splice cells off v) rest := by
 simp only [Instr.fill, h1];rw [if_neg (by simp only [h2, ne_eq, not_true_eq_false, z23q, false_or, decide_false, Bool.or_eq_true, decide_eq_true_eq]; omega)]
 rfl
theorem A6O {α β : Type} {f : α → Option β} : ∀ {l : List α} {r : List β}, l.mapM f = some r → ∀ (i : Nat) y, l[i]? = some y → ∃ z, f y = some z ∧ r[i]? = some z
 | [], r, h, i, y, hy => by simp at hy
 | u :: us, r, h, i, y, hy => by
   simp only [List.mapM_cons, Option.bind_eq_bind, Option.pure_def, Option.bind_eq_some_iff] at h;obtain ⟨z, hz, zs, dR, hr⟩ := h;simp only [Option.some.injEq] at hr;subst hr;cases i with
   | zero => simp only [z2q, Option.some.injEq] at hy; subst hy; exact ⟨z, hz, rfl⟩
   | succ i => simp only [z10q] at hy ⊢; exact A6O dR i y hy
section
variable {X : Type} {C : X5} {R : N7} {o : Oper} {st : St} {k : St → Option X} {x : X} {E : Env} {a : Act} {w : World} {K : Act → World → Prop} {Q : Exit → Act → World → Prop}
theorem FX.splice {h : Heap} {cs xs : List (DV × Meta)} {arr : Array Value} {v : Value} {off : Nat} (H : FX E h cs arr.toList) (G : FX E h xs v.cells.toList) (I9 : off + xs.length ≤ cs.length) :
 FX E h (putAt cs off xs) (Su.splice arr off v).toList := by
 obtain ⟨l1, l2⟩ := H;obtain ⟨g1, g2⟩ := G;have l1' : cs.length = arr.size := by simpa using l1
 have g1' : xs.length = v.cells.toList.length := g1;rw [A5d];refine ⟨by rw [dh I9]; simp [A1B, l1'], fun j r u hr hu => ?_⟩
 rw [iM I9] at hr;have Px := hu;rw [Array.getElem?_toList, oz _ _ _ _ (by omega)] at Px
 simp only [z21q] at Px
 by_cases hc : off ≤ j ∧ j < off + xs.length
 ·rw [if_pos hc] at hr
  rw [if_pos (by omega)] at Px
  exact g2 _ r u hr Px
 ·rw [if_neg hc] at hr
  rw [if_neg (by omega)] at Px
  exact l2 j r u hr (by simpa using Px)
theorem qD {t : TypeId} {fs : Array Field} {pl : List (Nat × Nat)} (hu : C.P.underlying t = some (.struct fs)) (hp : fs.toList.mapM (fun f => (C.P.info? f.type).map fun i => (f.offset, i.size)) = some pl) (Rl : J2 E st a w.heap)
 {F : List (DV × Meta) → Option X} : ∀ (ps : List (Nat × Operand)) (cs : List (DV × Meta)) (arr : Array Value), GU C.P t st ps cs F = some x → FX E w.heap cs arr.toList →
 ∃ cs' arr', F cs' = some x ∧ Instr.fill (pl.toArray[·]?) arr (ps.map fun p => (p.1, a.eval p.2)) = some arr' ∧ FX E w.heap cs' arr'.toList
 | [], cs, arr, H, G => ⟨cs, arr, H, rfl, G⟩
 | (i, y) :: ps, cs, arr, H, G => by
   simp only [GU] at H;obtain ⟨f, hf, H⟩ := C8 H;obtain ⟨r, hr, H⟩ := C8 H;have hfi : fs.toList[i]? = some f := by
    unfold WR at hf;rw [hu] at hf;simpa using hf
   obtain ⟨z, hz, hzi⟩ := A6O hp i f hfi;simp only [z8q] at hz;obtain ⟨inf, DN, rfl⟩ := hz;have tN : ∃ z, tz C.P f.type = some z := by
    unfold explode at H;obtain ⟨z, hz, -⟩ := C8 H;exact ⟨z, hz⟩
   obtain ⟨z, tN⟩ := tN;obtain ⟨xs, H, hl, AU⟩ := nu tN (Rl.src hr) H;obtain ⟨I9, H⟩ := M3 H;have Y9 : z.1 = inf.size := by
    obtain ⟨i', d', h1, -, h2, -⟩ := IU tN;rw [DN] at h1;simp only [Option.some.injEq] at h1;rw [h2, h1]
   have Vg : cs.length = arr.size := by simpa using G.1
   have Kj : (a.eval y).cells.size = inf.size := by have := AU.1; simp at this; omega
   obtain ⟨cs', arr', q1, q2, q3⟩ := qD hu hp Rl ps _ _ H (G.splice AU I9);refine ⟨cs', arr', q1, ?_, q3⟩;rw [List.map_cons, A4P _ _ _ _ _ (off := f.offset) (size := inf.size) (by simpa using hzi) Kj (by omega)]
   exact q2
theorem B1z {t : TypeId} {ps : Array (Nat × Operand)} (E9 : o.op = .build t ps)
 (H : (ob (JY C.P t) fun zs => ob (places C.P t) fun _ => GU C.P t st ps.toList zs fun cs => k (st.put o.dst (fO cs).1 (fO cs).2)) = some x)
 (Rl : J2 E st a w.heap) (T : Then E w k x K) : Gp C.P o a w K := by
 obtain ⟨zs, dR, H⟩ := C8 H;obtain ⟨pl, dP, H⟩ := C8 H;obtain ⟨inf, zv, DN, Xy, AU⟩ := Qv dR;unfold places at dP
 split at dP
 ·rename_i fs hu
  obtain ⟨cs, arr, H, A9D, Gc⟩ := qD hu dP Rl ps.toList zs zv.cells H (AU E w.heap);have hb : C.P.built t (ps.map fun (i, y) => (i, a.eval y)).toList = some arr := by
   unfold Program.built;simp only [DN, hu, Xy, dP];rw [← A9D];simp
  refine X7 (v := .agg arr) ?_ H Rl (fun t0 _ => ?_) @T
  ·simp only [execOp, E9]
   exact C_ (run_build w t _ arr hb)
  ·have := A1D (E := E) (w := w) (cs := cs) (vs := arr.toList) Gc.1.symm (fun j v r hv hr => let ⟨⟨a1, a2, a3, a4⟩, _⟩ := Gc.2 j r v hr hv; ⟨a1, a2, a3, _, a4⟩) 0 t0
   simpa using this
 ·simp at dP
theorem B1y {fl : Flags} {t : TypeId} (E9 : o.op = .alloc t) (H : (ob (JY C.P t) fun cs => og (PO (K8 fl.shared o.dst) o.dst st) (k (st.EL (K8 fl.shared o.dst) o.dst cs))) = some x)
 (Rl : J2 E st a w.heap) (T : Then E w k x K) : Gp C.P o a w K := by
 obtain ⟨zs, dR, H⟩ := C8 H;obtain ⟨inf, zv, DN, Xy, AU⟩ := Qv dR;obtain ⟨_, H9⟩ := F8 H;refine A3n (AU E w.heap) H9 (T0 := t) ?_ Rl @T;simp only [execOp, E9];refine C_ ?_;unfold Instr.alloc;simp [zeroValue, typeInfo, DN, Xy, newVar, newRow]
def nQ (S : Q6) (h : Heap) (sz : Nat) (ds : List DV) (arr : Array Value) : Prop :=
 arr.size = ds.length * sz ∧ ∀ (i : Nat) d, ds[i]? = some d → ∃ vs : List Value, vs.length = sz ∧ (∀ (j : Nat) u, vs[j]? = some u → arr[i * sz + j]? = some u) ∧ RC S h d vs
theorem seg_lt {sz i j n : Nat} (hi : i < n) (hj : j < sz) : i * sz + j < n * sz := by
 calc i * sz + j < i * sz + sz := by omega
  _ = (i + 1) * sz := by rw [z26q]
  _ ≤ n * sz := z19q _ hi
theorem A7c {sz i i' j j' : Nat} (hj : j < sz) (EH : j' < sz) (h : i * sz + j = i' * sz + j') : i = i' := by
 have hpos : 0 < sz := by omega
 have h1 : (i * sz + j) / sz = i := by rw [z42q, Nat.mul_add_div hpos, Nat.div_eq_of_lt hj, z21q]
 have h2 : (i' * sz + j') / sz = i' := by rw [z42q, Nat.mul_add_div hpos, Nat.div_eq_of_lt EH, z21q]
 rw [← h1, ← h2, h]
theorem nU {z : Nat × Bool} (Jc : z.2 = false → z.1 = 1) {h : Heap} {p q : Nat} {r : DV × Meta} {v : Value} {F : DV → Option X} (R : RR E h p q r.1 r.2 v) (H : Mg z r F = some x) :
 F r.1 = some x ∧ v.cells.size = z.1 ∧ RC E.S h r.1 v.cells.toList := by
 unfold Mg at H;obtain ⟨hd, H⟩ := F8 H;have R1 := R.data hd
 by_cases h2 : z.2 = true
 ·rw [if_pos h2] at H
  obtain ⟨hg, H⟩ := F8 H;obtain ⟨vs, rfl, hs, hR⟩ := fJ hg R1;exact ⟨H, hs, hR⟩
 ·rw [if_neg h2] at H
  obtain ⟨hc, H⟩ := F8 H;have ho := A3c hc R1;have hv : v.cells = #[v] := by cases v <;> first | rfl | (simp [Value.oneCell'] at ho)
  refine ⟨H, by rw [hv, Jc (by simpa using h2)]; rfl, ?_⟩
  rw [hv];exact Rw (A1q hc) ho R1
theorem nQ.splice {h : Heap} {sz i : Nat} {ds : List DV} {d : DV} {arr : Array Value} {v : Value} (H : nQ E.S h sz ds arr) (hi : i < ds.length) (hs : v.cells.size = sz) (hR : RC E.S h d v.cells.toList) :
 nQ E.S h sz (ds.set i d) (Su.splice arr (i * sz) v) := by
 obtain ⟨l1, l2⟩ := H;have Z4 : v.cells.toList.length = sz := by simpa using hs
 have EZ : i * sz + 0 + v.cells.toList.length ≤ arr.size := by
  rw [l1, Z4, z21q, ← z26q];exact z19q _ hi
 rw [A5d];refine ⟨by rw [A1B, l1, List.length_set], fun i' d' Gd => ?_⟩
 by_cases Gf : i = i'
 ·subst Gf
  rw [z6q hi] at Gd;simp only [Option.some.injEq] at Gd;subst Gd;refine ⟨v.cells.toList, Z4, fun j u hu => ?_, hR⟩
  have hj : j < sz := by have := (z0q.1 hu).1; omega
  rw [oz _ _ _ _ EZ, if_pos (by omega)]
  rw [← hu]
  congr 1
  omega
 ·rw [z12q Gf] at Gd
  obtain ⟨us, u1, u2, u3⟩ := l2 i' d' Gd;refine ⟨us, u1, fun j u hu => ?_, u3⟩
  have hj : j < sz := by have := (z0q.1 hu).1; omega
  rw [oz _ _ _ _ EZ, if_neg, u2 j u hu];rintro ⟨c1, c2⟩;exact Gf (A7c (j := i' * sz + j - i * sz) (j' := j) (by omega) hj (by omega))
theorem J2.ji {P : Program} {t : TypeId} (Rl : J2 E st a w.heap) {y : Operand} {r : DV × Meta} (H : ji P t st y = some r) : RR E w.heap 0 (mW y) r.1 r.2 (a.eval y) := by
 unfold Su.ji at H
 split at H
 ·rename_i vs
  obtain ⟨ts, h1, H⟩ := C8 H;obtain ⟨rs, h2, H⟩ := C8 H;obtain ⟨hd, H⟩ := F8 H;simp only [Option.some.injEq] at H;subst H;have G := uw (E := E) (h := w.heap) h2
  show RV E.S w.heap (.agg _) (.agg vs)
  simp only [RV];refine ⟨vs, rfl, EP.2 ⟨by simpa using G.1, fun j d u hj hu => ?_⟩⟩
  rw [z7q] at hj;cases hr : rs[j]? with
  | none => rw [hr] at hj; cases hj
  | some r =>
    rw [hr, z27q, Option.some.injEq] at hj;subst hj;obtain ⟨⟨a1, a2, a3, a4⟩, a5⟩ := G.2 j r u hr (by simpa using hu)
    have jY := z36q.1 hd r (z31q hr);exact ⟨a1, Rw a1 a2 (RR.data (k := 9) (a := 0) jY (RR.Bg (a4.tag a5)))⟩
 ·exact Rl.src H
theorem tY {e : TypeId} {z : Nat × Bool} (Jc : z.2 = false → z.1 = 1) (Rl : J2 E st a w.heap) {F : List DV → Option X} : ∀ (ps : List (Nat × Operand)) (ds : List DV) (arr : Array Value), Ga C.P e z st ps ds F = some x → nQ E.S w.heap z.1 ds arr →
 ∃ ds' arr', F ds' = some x ∧ ds'.length = ds.length ∧ Instr.fill (fun i => some (i * z.1, z.1)) arr (ps.map fun p => (p.1, a.eval p.2)) = some arr' ∧ nQ E.S w.heap z.1 ds' arr'
 | [], ds, arr, H, G => ⟨ds, arr, H, rfl, rfl, G⟩
 | (i, y) :: ps, ds, arr, H, G => by
   simp only [Ga] at H;obtain ⟨r, hr, H⟩ := C8 H;obtain ⟨H, hs, hR⟩ := nU Jc (Rl.ji hr) H;obtain ⟨hi, H⟩ := M3 H;obtain ⟨ds', arr', q1, q2, q3, q4⟩ := tY Jc Rl ps _ _ H (G.splice hi hs hR);refine ⟨ds', arr', q1, by simpa using q2, ?_, q4⟩
   rw [List.map_cons, A4P _ _ _ _ _ (off := i * z.1) (size := z.1) rfl hs ?_]
   ·exact q3
   ·rw [G.1, ← z26q]
    exact z19q _ hi
def Env.PW (E : Env) (b n : Nat) : Env := { E with O := fun b' o => if b' = b then (if o < n then .shut else .other) else E.O b' o }
theorem oQ (E : Env) (h : Heap) (ob : Obj) (n : Nat) : Pr (fun _ => False) E h (E.PW h.size n) (h.push ob) := by
 refine Pr.push (fun b o hb _ => ?_) (z15q _) (fun _ _ => ⟨rfl, rfl, rfl⟩) (fun _ _ => rfl)
 simp only [Env.PW]; rw [if_neg (by omega)]
theorem J2.push {E' : Env} {h : Heap} {ob : Obj} (Rl : J2 E st a h) (P : Pr (fun _ => False) E h E' (h.push ob)) (hn : E'.n = E.n) (hf : ∀ b o, (h.push ob).size ≤ b → E'.O b o = .other) : J2 E' st a (h.push ob) := by
 have I9 := P.shut (by simp) Rl.fresh
 exact ⟨Rl.size, Rl.Aq, Rl.Cs, by rw [hn]; exact Rl.n, fun t v hv => (Rl.regs t v hv).mono P I9 (by simp) (by simp), fun s cs hs => by rw [P.jH s (by simp)]; exact (Rl.boxes s cs hs).mono P I9 (by simp) (by simp),
  fun i ob hi => (Rl.Q3 i ob hi).mono P I9 (by rw [← Rl.n]; exact (z0q.1 hi).1) (by simp) (by simp), hf⟩
theorem A8c {h : Heap} {sz : Nat} {ds : List DV} {arr : Array Value} {T0 : TypeId} (hf : ∀ b o, h.size ≤ b → E.O b o = .other) (H : nQ E.S h sz ds arr) (hpos : ds ≠ [] → 0 < sz) :
 RV (E.PW h.size arr.size).S (h.push (.cells arr T0)) (.list sz ds) (.slice (some ⟨h.size, 0, none⟩) ds.length ds.length) := by
 have P := oQ E h (.cells arr T0) arr.size;have I9 := P.shut (by simp) hf
 refine Tz rfl (z15q _) (by simp) hpos fun y hy => ?_
 simp only [Option.some.injEq] at hy;subst hy;refine ⟨fun _ => rfl, Dc.2 fun i d hd => ?_⟩
 obtain ⟨vs, v1, v2, v3⟩ := H.2 i d hd;refine ⟨vs, v1, fun j u hu => ?_, v3.mono I9⟩
 have hj : j < sz := by have := (z0q.1 hu).1; omega
 have hi : i < ds.length := (z0q.1 hd).1;have H7 := seg_lt hi hj;refine ⟨by rw [z43q, A29]; exact v2 j u hu, ?_⟩
 simp only [Env.S, Env.PW, if_true];rw [if_pos (by rw [H.1]; omega)]
theorem A8A {z : Nat × Bool} {h : Heap} {cs : List (DV × Meta)} {ze : DV} {zv : Value} (H : pK z cs = some ze) (G : FX E h cs zv.cells.toList) (hd : cs.all (fun c => J3 c.2) = true) : RC E.S h ze zv.cells.toList := by
 have one : ∀ (j : Nat) r u, cs[j]? = some r → zv.cells.toList[j]? = some u → M9 r.1 = true ∧ RC E.S h r.1 [u] := by
  intro j r u hr hu;obtain ⟨⟨a1, a2, a3, a4⟩, a5⟩ := G.2 j r u hr hu;have jY := z36q.1 hd r (z31q hr);refine ⟨a1, Rw a1 a2 ?_⟩;exact RR.data (k := 9) (a := 0) jY (RR.Bg (a4.tag a5))
 unfold pK at H
 split at H
 ·simp only [Option.some.injEq] at H
  subst H;simp only [RC];refine EP.2 ⟨by simpa using G.1, fun j d u hj hu => ?_⟩
  simp only [z7q, z8q] at hj;obtain ⟨r, hr, rfl⟩ := hj;exact one j r u hr hu
 ·split at H
  ·rename_i c
   simp only [Option.some.injEq] at H;subst H;have Z4 : zv.cells.toList.length = 1 := by simpa using G.1.symm
   match hz : zv.cells.toList, Z4 with
   | [u], _ => exact (one 0 c u rfl (by rw [hz]; rfl)).2
  ·simp at H
theorem A4i {t : TypeId} {n : Nat} {ps : Array (Nat × Operand)} (E9 : o.op = .buildSlice t n ps)
 (H : (ob (NK C.P t) fun e => ob (tz C.P e) fun z => ob (JY C.P e) fun zs => ob (pK z zs) fun ze =>
   if (n * z.1 ≤ 2 ^ 24 ∧ z.1 ≠ 0) ∧ zs.length = z.1 ∧ zs.all (fun c => J3 c.2) = true then Ga C.P e z st ps.toList (List.replicate n ze) fun ds => k (st.put o.dst (.list z.1 ds) .full) else none) = some x)
 (Rl : J2 E st a w.heap) (T : Then E w k x K) : Gp C.P o a w K := by
 obtain ⟨e, he, H⟩ := C8 H;obtain ⟨z, hz, H⟩ := C8 H;obtain ⟨zs, dR, H⟩ := C8 H;obtain ⟨ze, mR, H⟩ := C8 H;obtain ⟨⟨⟨B8K, hz0⟩, hzl, jY⟩, H⟩ := M3 H;have hu : C.P.underlying t = some (.slice e) := by
  unfold NK at he
  split at he
  ·simp only [Option.some.injEq] at he; subst he; assumption
  ·simp at he
 obtain ⟨inf, zv, DN, Xy, AU⟩ := Qv dR;obtain ⟨inf', dsc, A9E, hue, hzz, Jc⟩ := IU hz;rw [DN] at A9E;simp only [Option.some.injEq] at A9E;subst A9E;have A36 : z.1 = inf.size := by rw [hzz]
 have B5C : zv.cells.size = z.1 := by have := (AU E w.heap).1; simp at this; omega
 have hRC := A8A (E := E) (h := w.heap) mR (AU E w.heap) jY;have A9H : nQ E.S w.heap z.1 (List.replicate n ze) ((Array.range (n * z.1)).map (zv.cells[· % zv.cells.size]!)) := by
  refine ⟨by simp, fun i d hd => ?_⟩
  have hi : i < n := by have := (z0q.1 hd).1; simpa using this
  rw [List.getElem?_replicate, if_pos hi] at hd;simp only [Option.some.injEq] at hd;subst hd;refine ⟨zv.cells.toList, by simpa using B5C, fun j u hu => ?_, hRC⟩
  have hj : j < z.1 := by have := (z0q.1 hu).1; simp at this; omega
  have H7 := seg_lt hi hj;rw [Array.getElem?_map, Array.getElem?_range, if_pos H7];simp only [z27q, Option.some.injEq];rw [B5C, z42q, Nat.mul_add_mod, Nat.mod_eq_of_lt hj];rw [getElem!_def, show zv.cells[j]? = some u from by simpa using hu]
 obtain ⟨ds, arr, H, hdl, A9D, hsg⟩ := tY Jc Rl ps.toList _ _ H A9H;have hdn : ds.length = n := by simpa using hdl
 have P1 := oQ E w.heap (.cells arr e) arr.size;have U1 : (execOp a.eval o).run C.P w = .ok (.value (.slice (some ⟨w.heap.size, 0, none⟩) n n)) (w.alloc (.cells arr e)) := by
  simp only [execOp, E9];refine C_ ?_;unfold Instr.buildSlice;have A6F : Instr.fill (fun i => some (i * z.1, z.1)) ((Array.range (n * z.1)).map (zv.cells[· % zv.cells.size]!)) (ps.map fun (i, y) => (i, a.eval y)).toList = some arr := by
   rw [← A9D]; simp
  simp only [Sem.run_bind, run_underlying hu, Result.andThen_ok, Oe hz, Sem.run_ite];rw [if_neg (by omega)]
  by_cases hn0 : n * z.1 = 0
  ·have : ((Array.range (n * z.1)).map (zv.cells[· % zv.cells.size]!)) = ((Array.range (n * z.1)).map ((#[] : Array Value)[· % (#[] : Array Value).size]!)) := by rw [hn0]; simp
   rw [this] at A6F;simp only [Sem.run_pure, Result.andThen_ok, if_pos hn0, A6F];rfl
  ·simp only [if_neg hn0, zeroValue, typeInfo, Sem.run_bind, run_program, Result.andThen_ok, DN, Sem.run_pure, Xy, A6F]
   rfl
 refine Bv U1 (T (E.PW w.heap.size arr.size) _ _ (w.alloc (.cells arr e)) H ((Rl.push P1 rfl fun b o hb => ?_).put fun t0 _ => ?_) (P1.weaken (by simp)))
 ·simp only [z30q] at hb
  simp only [Env.PW];rw [if_neg (by omega)]
  exact Rl.fresh b o (by omega)
 ·refine ⟨?_, ⟨_, _, rfl⟩, _, _, rfl⟩
  have := A8c (T0 := e) Rl.fresh hsg (fun _ => by omega)
  rw [hdn] at this;exact this
def QY (y : Operand) (t off : Nat) (T : Tag) : Tag :=
 match y, T with
 | .tmp s', .sp 0 s (b + 1) => if s' = s then .sp 1 t (off + b) else .sp 0 s (b + 1)
 | _, T => T
theorem Nh {y : Operand} {t off : Nat} {T : Tag} (h : ∀ s b, y = .tmp s → T ≠ .sp 0 s b) : QY y t off T = T := by
 unfold QY
 split
 ·split
  ·rename_i hx; subst hx; exact absurd rfl (h _ _ rfl)
  ·rfl
 ·rfl
theorem DF.box {E : Env} {h : Heap} {y : Operand} {t off j : Nat} {r : DV × Meta} {v : Value} (hy : (∀ i, y ≠ .tmp i) → r.2 ≠ .own) (H : DF E h (.sp 0 (mW y) (j + 1)) r v) : DF (E.re (QY y t off)) h (.sp 1 t (off + j)) r v := by
 obtain ⟨a1, a2, a3, a4⟩ := H;refine ⟨a1, a2, a3, ?_⟩
 by_cases hx : ∃ i, y = .tmp i
 ·obtain ⟨i, rfl⟩ := hx
  exact a4.re (Nh (by simp)) (by simp [QY, mW])
 ·have Ey := hy fun i hi => hx ⟨i, hi⟩
  have a5 : K4 (E.re (QY y t off)) h .other r.1 r.2 v := (a4.tag Ey : K4 E h .other r.1 r.2 v).re (Nh (by simp)) (Nh (by simp))
  exact a5.tag Ey
theorem A43 {P : Program} {t : TypeId} {y : Operand} {r : DV × Meta} (hs : src P t st y = some r) (hy : ∀ i, y ≠ .tmp i) : ∀ ms, r.2 ≠ .Ad ms := by
 cases y with
 | tmp i => exact absurd rfl (hy i)
 | const v => exact A4K hs
 | func f => simp only [src, Option.some.injEq] at hs; subst hs; simp
 | global g => simp [src] at hs
theorem B4G {fl : Flags} {t : TypeId} {y : Operand} (E9 : o.op = .box t y) (H : (ob (src C.P t st y) fun r =>
 if K8 fl.Yo o.dst then ob (tz C.P t) fun z => og (J3 r.2 && C9 z.1 r.1 && z.2) (k (st.put o.dst (.VI z.1 r.1) .val))
 else if K8 fl.M0 o.dst then HV C.P t r fun cs => og (PO false o.dst st) (k ((st.release y).EL false o.dst cs))
 else explode C.P t r fun cs => og (PO (K8 fl.shared o.dst) o.dst st) (k (st.EL (K8 fl.shared o.dst) o.dst cs))) = some x)
 (Rl : J2 E st a w.heap) (T : Then E w k x K) : Gp C.P o a w K := by
 obtain ⟨r, hr, H⟩ := C8 H;have U1 : (execOp a.eval o).run C.P w = .ok (.value (.pointer (some ⟨w.heap.size, 0, none⟩))) (w.alloc (.cells (a.eval y).cells t)) := by
  simp only [execOp, E9];refine C_ ?_;simp [Instr.box, newVar, newRow]
 have e1 := Rl.src hr
 by_cases He : K8 fl.Yo o.dst = true
 ·-- a variable that is sealed at once
  rw [if_pos He] at H;obtain ⟨z, hz, H⟩ := C8 H;obtain ⟨hd, H⟩ := F8 H;simp only [z9q] at hd;obtain ⟨vs, hv, hs, hR⟩ := fJ hd.1.2 (e1.data hd.1.1);have P1 := oQ E w.heap (.cells (a.eval y).cells t) z.1;refine Bv U1 (T (E.PW w.heap.size z.1) _ _ (w.alloc (.cells (a.eval y).cells t)) H ((Rl.push P1 rfl fun b o hb => ?_).put fun t0 _ => ?_) (P1.weaken (by simp)))
  ·simp only [z30q] at hb
   simp only [Env.PW];rw [if_neg (by omega)]
   exact Rl.fresh b o (by omega)
  ·show RV _ _ _ _
   have I9 := P1.shut (by simp) Rl.fresh
   simp only [RV, RC];refine ⟨_, _, rfl, vs.toList, by simpa using hs, fun j v hv' => ?_, hR.mono I9⟩
   have hj : j < z.1 := by have := (z0q.1 hv').1; simp at this; omega
   rw [z43q];refine ⟨?_, ?_⟩
   ·show hc (w.heap.push _) w.heap.size j = _
    rw [A29, hv];simpa [Value.cells] using hv'
   ·simp only [Env.S, Env.PW, if_true]
    rw [if_pos hj]
 rw [if_neg He] at H
 by_cases Q7 : K8 fl.M0 o.dst = true
 ·rw [if_pos Q7] at H
  have tN : ∃ z, tz C.P t = some z := by
   unfold HV at H;obtain ⟨z, hz, -⟩ := C8 H;exact ⟨z, hz⟩
  obtain ⟨z, tN⟩ := tN;obtain ⟨xs, H, hl, ⟨lc, AU⟩, Ey⟩ := A04 tN e1 H;obtain ⟨_, H⟩ := F8 H;cases hd : o.dst with
  | none => rw [hd] at Q7; simp [K8] at Q7
  | some t0 =>
    rw [hd] at H;refine Bv U1 ?_;rw [hd];simp only [St.EL, z23q, if_false] at H;have Rl1 := Rl.release (x := y) (f := QY y t0 0) fun T hT => Nh hT
    have P0 : Pr J8 E w.heap (E.re (QY y t0 0)) w.heap := Pr.re fun T hT => Nh fun s b _ he => hT (by rw [he]; simp [J8])
    obtain ⟨R1, P1⟩ := Rl1.EQ (t0 := t0) (T0 := t) lc fun j r' v CQ hv => by
     have := (AU j r' v CQ hv).box (t := t0) (off := 0) fun hy => Ey (A43 hr hy) r' (z31q CQ)
     rwa [z43q] at this
    rw [Array.toArray_toList] at R1 P1;refine T _ _ _ (w.alloc (.cells (a.eval y).cells t)) H (R1.put fun t1 ht => ?_) (P0.trans (P1.weaken (by rintro T rfl; simp [J8])))
    simp only [Option.some.injEq] at ht;subst ht;refine RR.Bg ⟨rfl, ?_⟩;simp only [Env.EQ, if_true]
 rw [if_neg Q7] at H;have tN : ∃ z, tz C.P t = some z := by
  unfold explode at H;obtain ⟨z, hz, -⟩ := C8 H;exact ⟨z, hz⟩
 obtain ⟨z, tN⟩ := tN;obtain ⟨xs, H, hl, AU⟩ := nu tN e1 H;obtain ⟨_, H9⟩ := F8 H;exact A3n AU H9 (T0 := t) (by simpa using U1) Rl @T
def Env.OO (E : Env) (b : Nat) : Env :=
 { E with obj := fun i => if i = E.n then b else E.obj i, base := fun i => if i = E.n then 0 else E.base i, n := E.n + 1,
          O := fun b' o => if b' = b then .obj E.n else E.O b' o }
theorem A8f {t : TypeId} (E9 : o.op = .makeMap t none) {ks : Bool} (H : k ({ st with sg := st.sg ++ [D7.map ks []] }.put o.dst .undef (.map st.sg.length)) = some x)
 (Rl : J2 E st a w.heap) (T : Then E w k x K) : Gp C.P o a w K := by
 have U1 : (execOp a.eval o).run C.P w = .ok (.value (.map (some w.heap.size))) (w.alloc (.map #[] 0)) := by
  simp only [execOp, E9];refine C_ ?_;simp [Instr.makeMap]
 have P1 : Pr (fun _ => False) E w.heap (E.OO w.heap.size) (w.heap.push (.map #[] 0)) := by
  refine Pr.push (fun b o hb _ => ?_) (by simp [Env.OO]) (fun i hi => ?_) (fun _ _ => rfl)
  ·simp only [Env.OO]; rw [if_neg (by omega)]
  ·refine ⟨?_, ?_, rfl⟩ <;> simp only [Env.OO] <;> rw [if_neg (by omega)]
 have I9 := P1.shut (by simp) Rl.fresh
 have hn := Rl.n;have R1 : J2 (E.OO w.heap.size) { st with sg := st.sg ++ [D7.map ks []] } a (w.heap.push (.map #[] 0)) := by
  refine ⟨Rl.size, Rl.Aq, Rl.Cs, by simp [Env.OO, Rl.n], fun t v hv => (Rl.regs t v hv).mono P1 I9 (by simp) (by simp), fun s cs hs => (Rl.boxes s cs hs).mono P1 I9 (by simp) (by simp), fun i ob hi => ?_,
   fun b o hb => ?_⟩
  ·by_cases H7 : i < st.sg.length
   ·simp only [z17q H7] at hi
    exact (Rl.Q3 i ob hi).mono P1 I9 (En Rl hi) (by simp) (by simp)
   ·have TD : i = st.sg.length := by
     have := (z0q.1 hi).1;simp at this; omega
    subst TD;simp only [z16q (z15q _), z37q, z2q, Option.some.injEq] at hi;subst hi;refine ⟨#[], 0, ?_, fun o => ?_, ⟨rfl, by simp⟩, by simp [nE]⟩
    ·simp only [Env.OO, hn, if_true]; exact SV
    ·simp only [Env.OO, hn, if_true]
  ·have TC : w.heap.size + 1 ≤ b := by simpa using hb
   simp only [Env.OO];rw [if_neg (by omega)]
   exact Rl.fresh b o (by omega)
 refine Bv U1 (T _ _ _ (w.alloc (.map #[] 0)) H (R1.put fun t0 _ => ?_) (P1.weaken (by simp)))
 refine RR.Bg ⟨by simp [Env.OO, hn], ?_⟩
 simp only [Env.OO, hn, if_true]
theorem iQ {P : Program} : ∀ {ts : List TypeId} {xs : List Operand} {rs : List (DV × Meta)}, Hq P st ts xs = some rs → rs.length = xs.length ∧ ∀ (i : Nat) y r, xs[i]? = some y → rs[i]? = some r → ∃ t, src P t st y = some r
 | ts, [], rs, H => by
   cases ts <;> simp only [Hq, Option.some.injEq] at H <;> subst H <;> simp
 | t :: ts, y :: xs, rs, H => by
   simp only [Hq] at H;obtain ⟨r, hr, H⟩ := C8 H;obtain ⟨rs', hrs, H⟩ := C8 H;simp only [Option.some.injEq] at H;subst H;obtain ⟨l1, l2⟩ := iQ hrs;refine ⟨by simp [l1], fun i z r' hz CQ => ?_⟩
   cases i with
   | zero => simp only [z2q, Option.some.injEq] at hz CQ; subst hz CQ; exact ⟨t, hr⟩
   | succ i => simp only [z10q] at hz CQ; exact l2 i z r' hz CQ
 | [], y :: xs, rs, H => by
   simp only [Hq] at H;obtain ⟨r, hr, H⟩ := C8 H;obtain ⟨rs', hrs, H⟩ := C8 H;simp only [Option.some.injEq] at H;subst H;obtain ⟨l1, l2⟩ := iQ hrs;refine ⟨by simp [l1], fun i z r' hz CQ => ?_⟩
   cases i with
   | zero => simp only [z2q, Option.some.injEq] at hz CQ; subst hz CQ; exact ⟨_, hr⟩
   | succ i => simp only [z10q] at hz CQ; exact l2 i z r' hz CQ
theorem qF : ∀ {rs : List (DV × Meta)} {ms : List (Nat × Nat)}, Vt rs = some ms → rs.length = ms.length ∧ ∀ (i : Nat) r m, rs[i]? = some r → ms[i]? = some m → r.2 = .ptr m.1 m.2
 | [], ms, H => by simp only [Vt, Option.some.injEq] at H; subst H; simp
 | (d, m) :: rs, ms, H => by
   unfold Vt at H
   split at H
   ·rename_i heq; simp at heq
   ·rename_i heq
    simp only [List.cons.injEq, Prod.mk.injEq] at heq;obtain ⟨⟨-, rfl⟩, rfl⟩ := heq;obtain ⟨ms', hms, H⟩ := C8 H;simp only [Option.some.injEq] at H;subst H;obtain ⟨l1, l2⟩ := qF hms;refine ⟨by simp [l1], fun i r m hr hm => ?_⟩
    cases i with
    | zero => simp only [z2q, Option.some.injEq] at hr hm; subst hr hm; rfl
    | succ i => simp only [z10q] at hr hm; exact l2 i r m hr hm
   ·simp at H
theorem A7h {f : FuncId} {first caps : Array Operand} (E9 : o.op = .makeFunc (.func f) first caps)
 (H : (if first.isEmpty then ob (Hq C.P st [] caps.toList) fun rs => ob (Vt rs) fun ms => k (st.put o.dst .undef (.fn f ms)) else none) = some x) (Rl : J2 E st a w.heap) (T : Then E w k x K) : Gp C.P o a w K := by
 obtain ⟨hf, H⟩ := M3 H;obtain ⟨rs, hrs, H⟩ := C8 H;obtain ⟨ms, hms, H⟩ := C8 H;obtain ⟨l1, l2⟩ := iQ hrs;obtain ⟨m1, m2⟩ := qF hms;have key : ∀ (i : Nat) y, caps.toList[i]? = some y → ∃ m, ms[i]? = some m ∧ m.1 < E.n ∧ a.eval y = .pointer (some ⟨E.obj m.1, m.2, none⟩) := by
  intro i y hy;have hi : i < caps.toList.length := (z0q.1 hy).1;have hr : rs[i]? = some (rs[i]'(by omega)) := z3q (by omega)
  have hm : ms[i]? = some (ms[i]'(by omega)) := z3q (by omega)
  obtain ⟨t, ht⟩ := l2 i y _ hy hr;have e := Rl.src ht;rw [m2 i _ _ hr hm] at e;simp only [RR, K4] at e;exact ⟨_, hm, e⟩
 refine X7 (v := .func (.func f) #[] (caps.map a.eval)) ?_ H Rl (fun _ _ => RR.Bg ⟨?_, ?_⟩) @T
 ·simp only [execOp, E9]
  refine C_ ?_;have : first = #[] := by simpa using hf
  subst this;simp [Instr.makeFunc]
 ·congr 1
  apply Array.toList_inj.1;simp only [Array.toList_map];apply List.ext_getElem?;intro i;simp only [z7q];cases hy : caps.toList[i]? with
  | none =>
    have : ms[i]? = none := by
     rw [List.getElem?_eq_none_iff] at hy ⊢;omega
    simp [this]
  | some y =>
    obtain ⟨m, hm, -, he⟩ := key i y hy;simp [hm, he]
 ·intro c hc
  obtain ⟨i, hi, Gf⟩ := List.mem_iff_getElem.1 hc;have hy : caps.toList[i]? = some (caps.toList[i]'(by omega)) := z3q (by omega)
  obtain ⟨m, hm, H7, -⟩ := key i _ hy;rw [z3q hi, Gf] at hm;simp only [Option.some.injEq] at hm;subst hm;exact H7
end
end Go.Su
