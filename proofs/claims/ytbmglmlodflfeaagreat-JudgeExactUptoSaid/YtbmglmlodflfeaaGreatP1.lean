/-
  Parts of the proof, merged: SuData, SuEval, SuRel, SuState, SuBase, SuOp1, SuOp2, SuOp3, SuOp4, SuOp5, SuOp6, SuOp7, SuOp8.
-/
import Derived.Calls
import Derived.Control
import Derived.Laws.Cells
import Derived.Laws.Entries
import Derived.Laws.Sem
import Derived.Laws.Slices
import Derived.Laws.StructEq
import Derived.Laws.Tables
import Derived.Laws.World
import Derived.LoopN
import Derived.Orders
set_option linter.unusedVariables false
set_option linter.unusedSimpArgs false
/-
 THE DATA MACHINE, part 1: values as plain data, states, and one operation at a time.
 No program is named here. What is proved about it stands in the parts behind.
-/
namespace Go.Su
inductive DV where
 | undef
 | int (k : IntKind) (n : Int)
 | bool (b : Bool)
 | str (s : ByteArray)
 | agg (cs : List DV)
 | H7 (cs : List DV)
 | list (sz : Nat) (ds : List DV)
 | PZ
 | UT (sz : Nat) (d : DV)
 deriving Inhabited
inductive Meta where
 | val
 | full
 | own
 | loc (s o : Nat)
 | Nr (ag : Bool) (sz o : Nat)
 | ptr (i o : Nat)
 | E_
 | map (i : Nat)
 | PY
 | arr (i sz off len : Nat)
 | Xr (i sz idx o : Nat)
 | opt (i sz idx : Nat)
 | fn (f : FuncId) (caps : List (Nat × Nat))
 | BR (ms : List Meta)
 | AO (ms : List Meta)
 deriving Inhabited
inductive D7 where
 | box (cs : List (DV × Meta))
 | arr (sz : Nat) (ds : List DV)
 | map (ks : Bool) (es : List (DV × DV))
 | opn (sz : Nat) (pre ds : List DV)
 deriving Inhabited
structure St where
 tm : List DV
 mt : List Meta
 bx : List (Option (List (DV × Meta)))
 sg : List D7
def ob {α β : Type} (x : Option α) (f : α → Option β) : Option β :=
 match x with
 | some a => f a
 | none => none
def D6 {β : Type} (d : DV) (t e : Option β) : Option β :=
 match d with
 | .bool true => t
 | .bool false => e
 | _ => none
def og {β : Type} (t : Bool) (x : Option β) : Option β :=
 match t with
 | true => x
 | false => none
def D5 (n : Nat) : DV → Bool
 | .agg cs => cs.length == n
 | _ => false
def A7 (j : Nat) : DV → DV
 | .agg cs => cs.getD j .undef
 | _ => .undef
def cells (n o : Nat) (d : DV) : List DV := (List.range n).map fun j => A7 (o + j) d
def M7 : DV → Bool
 | .agg _ | .H7 _ => false
 | _ => true
def J4 : DV → Bool
 | .int _ _ => true
 | .bool _ => true
 | .str _ => true
 | .list _ _ => true
 | .PZ => true
 | .UT _ _ => true
 | _ => false
def A7W (sz : Nat) : DV → Option DV
 | .UT sz' d => if sz' = sz then some d else none
 | _ => none
def dLen : DV → Option DV
 | .list _ ds => some (.int .i64 ds.length)
 | _ => none
def A7U : DV → Option (Nat × List DV)
 | .list sz ds => some (sz, ds)
 | _ => none
def DT : DV → Option DV
 | .str s => some (.int .i64 s.size)
 | _ => none
def F3 (sz : Nat) (d i : DV) : Option DV :=
 match d, i with
 | .list sz' ds, .int _ n => if sz' = sz ∧ 0 ≤ n then ds[n.toNat]? else none
 | _, _ => none
def X6 (d i : DV) : Option DV :=
 match d, i with
 | .str s, .int _ n => if 0 ≤ n then (s.data[n.toNat]?).map fun b => .int .u8 b.toNat else none
 | _, _ => none
def lim : Nat := 2 ^ 32
def R6 (sz : Nat) (d e : DV) : Option DV :=
 match d, e with
 | .list a ds, .list b es => if (a = sz ∧ b = sz) ∧ ds.length + es.length ≤ lim then some (.list sz (ds ++ es)) else none
 | _, _ => none
def A7P (sz : Nat) (d e : DV) : Option (List DV × List DV) :=
 match d, e with
 | .list a ds, .list b es => if (a = sz ∧ b = sz) ∧ ds.length + es.length ≤ lim ∧ 0 < es.length then some (ds, es) else none
 | _, _ => none
def bnd (dflt : Nat) : Option DV → Option Nat
 | none => some dflt
 | some (.int _ n) => if 0 ≤ n then some n.toNat else none
 | _ => none
def Dh (sz : Nat) (d : DV) (lo hi : Option DV) : Option DV :=
 match d with
 | .list sz' ds => ob (bnd ds.length hi) fun h => ob (bnd 0 lo) fun l =>
   if sz' = sz ∧ l ≤ h ∧ h ≤ ds.length then some (.list sz ((ds.take h).drop l)) else none
 | _ => none
def iJ (d : DV) (lo hi : Option DV) : Option DV :=
 match d with
 | .str s => ob (bnd s.size hi) fun h => ob (bnd 0 lo) fun l =>
   if l ≤ h ∧ h ≤ s.size then some (.str (s.extract l h)) else none
 | _ => none
def Yt (sz : Nat) (d : DV) (lo : Option DV) (hi mx : DV) : Option DV :=
 match hi, mx with
 | .int _ h, .int _ m => if h = m then Dh sz d lo (some hi) else none
 | _, _ => none
inductive LK where
 | int | bool | str
def rJ (k : LK) (x y : DV) : Option Bool :=
 match k, x, y with
 | .int, .int k a, .int k' b => if k = k' then some (a == b) else none
 | .bool, .bool a, .bool b => some (a == b)
 | .str, .str a, .str b => some (a.toList == b.toList)
 | _, _, _ => none
def Cf : List LK → List DV → List DV → Option Bool
 | [], [], [] => some true
 | k :: ks, x :: xs, y :: ys => ob (rJ k x y) fun b => if b then Cf ks xs ys else some false
 | _, _, _ => none
def Oe : List UInt8 → List UInt8 → Bool
 | _, [] => false
 | [], _ :: _ => true
 | a :: x, b :: y => a < b || (a == b && Oe x y)
def KP : BinOp → Bool
 | .shl => true
 | .shr => true
 | _ => false
def A9i (op : BinOp) (k : IntKind) (a b : Int) : Option DV :=
 if b < 0 then none else
 match op with
 | .shl => some (.int k (k.wrap (a * 2 ^ (min b.toNat k.bits))))
 | .shr => some (.int k (a.fdiv (2 ^ (min b.toNat k.bits))))
 | _ => none
def Ll (op : BinOp) (k : IntKind) (a b : Int) : Option DV :=
 match op with
 | .add => some (.int k (k.wrap (a + b)))
 | .sub => some (.int k (k.wrap (a - b)))
 | .mul => some (.int k (k.wrap (a * b)))
 | .eql => some (.bool (a == b))
 | .neq => some (.bool (a != b))
 | .lss => some (.bool (a < b))
 | .leq => some (.bool (a ≤ b))
 | .gtr => some (.bool (a > b))
 | .geq => some (.bool (a ≥ b))
 | .quo => if b = 0 then none else some (.int k (k.wrap (a.tdiv b)))
 | .rem => if b = 0 then none else some (.int k (a.tmod b))
 | .and => some (.int k (k.wrap (BitVec.ofInt k.bits a &&& BitVec.ofInt k.bits b).toNat))
 | .or => some (.int k (k.wrap (BitVec.ofInt k.bits a ||| BitVec.ofInt k.bits b).toNat))
 | .xor => some (.int k (k.wrap (BitVec.ofInt k.bits a ^^^ BitVec.ofInt k.bits b).toNat))
 | _ => none
def iK (op : BinOp) (a b : ByteArray) : Option DV :=
 match op with
 | .add => if a.size + b.size ≤ lim then some (.str (a ++ b)) else none
 | .eql => some (.bool (a.toList == b.toList))
 | .neq => some (.bool !(a.toList == b.toList))
 | .lss => some (.bool (Oe a.toList b.toList))
 | .leq => some (.bool (Oe a.toList b.toList || a.toList == b.toList))
 | .gtr => some (.bool !(Oe a.toList b.toList || a.toList == b.toList))
 | .geq => some (.bool !Oe a.toList b.toList)
 | _ => none
def A8 (op : BinOp) (x y : DV) : Option DV :=
 match x, y with
 | .int k a, .int k' b => match KP op with
   | true => A9i op k a b
   | false => if k = k' then Ll op k a b else none
 | .str a, .str b => iK op a b
 | _, _ => none
def A7S (x y : DV) : Option Bool :=
 match x, y with
 | .bool a, .bool b => some (a == b)
 | _, _ => none
def rH (ks : List LK) (x y : DV) : Option Bool :=
 match x, y with
 | .agg xs, .agg ys => Cf ks xs ys
 | _, _ => none
def Q5 (op : UnOp) (x : DV) : Option DV :=
 match op, x with
 | .not, .bool b => some (.bool !b)
 | .neg, .int k n => some (.int k (k.wrap (0 - n)))
 | _, _ => none
def A4p (c a b : DV) : Option DV :=
 match c with
 | .bool true => some a
 | .bool false => some b
 | _ => none
def A2r (x y : DV) : Option DV :=
 match x, y with
 | .int k a, .int k' b => if k = k' then some (.int k (if b > a then b else a)) else none
 | _, _ => none
def A0g (x y : DV) : Option DV :=
 match x, y with
 | .int k a, .int k' b => if k = k' then some (.int k (if b < a then b else a)) else none
 | _, _ => none
def A4o (k : IntKind) : DV → Option DV
 | .int _ n => some (.int k (k.wrap n))
 | _ => none
def N8 (i : Nat) : DV → Option DV
 | .H7 cs => cs[i]?
 | _ => none
def Bj (x y : DV) : Bool :=
 match x, y with
 | .int _ a, .int _ b => a == b
 | .str a, .str b => a.toList == b.toList
 | _, _ => false
def isKey (ks : Bool) : DV → Bool
 | .int k _ => !ks && k == .i64
 | .str _ => ks
 | _ => false
def Z4 (es : List (DV × DV)) (k : DV) : Option DV := (es.find? fun e => Bj k e.1).map (·.2)
def Cc : List (DV × DV) → DV → DV → List (DV × DV)
 | [], k, v => [(k, v)]
 | e :: es, k, v => if Bj k e.1 then (e.1, v) :: es else e :: Cc es k v
abbrev H8 (d : DV) : DV := .agg [A7 0 d, A7 1 d, A7 2 d]
abbrev GD (d : DV) : DV := .agg [A7 0 d, A7 1 d, A7 2 d, A7 3 d, A7 4 d, A7 5 d, A7 6 d]
abbrev L6 (d : DV) : DV := .agg [A7 0 d, A7 1 d, A7 2 d, A7 3 d, A7 4 d, A7 5 d, A7 6 d, A7 7 d, A7 8 d, A7 9 d, A7 10 d, A7 11 d, A7 12 d, A7 13 d, A7 14 d, A7 15 d]
abbrev iI (n : Int) : DV := .int .i64 n
end Go.Su

/-
 THE DATA MACHINE, part 2: the program's own code, run over plain data. Nothing is proved here.
-/
namespace Go.Su
noncomputable section
inductive MK where
 | val | own
 | ptr
 | S_ (n : Nat) (os : List Nat)
 deriving Inhabited
structure Z8 where
 params : List MK
 results : List MK
 lock : Bool := false
structure Flags where
 L8 : List Nat := []
 shared : List Nat := []
 hide : List Nat := []
 opn : List Nat := []
 B5y : List (Nat × Nat) := []
 refs : List (Nat × Nat) := []
 Xl : List Nat := []
 keep : List (Nat × List Nat × List Nat × List Nat × List Nat) := []
structure Cut where
 pre : List Code
 mid : St → Option St
 post : Code
structure Yz where
 pre : List Code
 r : Code
 c : Operand
 a : Code
 id : Nat
 ops : List Oper
 Wh : Oper
 post : Code
def BQ : List Code → Code → Code
 | [], c => c
 | p :: ps, c => .seq p (BQ ps c)
structure V6 where
 P : Program
 fl : FuncId → Flags
 sig : FuncId → Option Z8
 gT : FuncId → Option Cut
 clone : FuncId → Bool
 nH : FuncId → Nat
 dh : FuncId → Option FuncId := fun _ => none
 iter : FuncId → Option (List DV → Option (List DV)) := fun _ => none
 ref : TypeId → Bool := fun _ => false
 XR : FuncId → Option Yz := fun _ => none
 dfn : FuncId → Bool := fun _ => false
structure N7 where
 p : FuncId → List DV → Option DV
 r : FuncId → List (DV × Meta) → List D7 → Option (List DV × List D7)
def A5k : TypeDesc → Bool
 | .struct _ => true
 | .array _ _ => true
 | _ => false
def tz (P : Program) (t : TypeId) : Option (Nat × Bool) :=
 ob (P.info? t) fun i => ob (P.underlying t) fun d => if A5k d || i.size == 1 then some (i.size, A5k d) else none
def Ml (P : Program) (t : TypeId) : Option TypeId :=
 match P.underlying t with
 | some (.slice e) => some e
 | _ => none
def VW (P : Program) (t : TypeId) (f : Nat) : Option Field :=
 match P.underlying t with
 | some (.struct fs) => fs[f]?
 | _ => none
def B3y (P : Program) (t : TypeId) : Nat :=
 match Ml P t with
 | some e => match tz P e with
   | some z => z.1
   | none => 0
 | none => 0
def cst (P : Program) (t : TypeId) : Value → Option (DV × Meta)
 | .int k n => some (.int k n, .val)
 | .bool b => some (.bool b, .val)
 | .string s => some (.str s, .val)
 | .slice none 0 0 => some (.list (B3y P t) [], .full)
 | .pointer none => some (.PZ, .E_)
 | .map none => some (.undef, .PY)
 | _ => none
def A2E (P : Program) : Nat → TypeId → Option (List TypeId)
 | 0, _ => none
 | n + 1, t =>
   match P.underlying t with
   | some (.struct fs) => fs.toList.foldr (fun f acc => ob (A2E P n f.type) fun l => ob acc fun r => some (l ++ r)) (some [])
   | some (.array _ _) => none
   | some _ => some [t]
   | none => none
def WY (P : Program) : List TypeId → List Value → Option (List (DV × Meta))
 | [], [] => some []
 | t :: ts, v :: vs => ob (cst P t v) fun r => ob (WY P ts vs) fun rs => some (r :: rs)
 | _, _ => none
def I_ (P : Program) (t : TypeId) : Option (List (DV × Meta)) :=
 ob (A2E P 8 t) fun ts => ob (P.info? t) fun i => ob i.zero fun v => WY P ts v.cells.toList
def We : Meta → Meta
 | .own => .val
 | m => m
def dm : Meta → Meta
 | .own => .val
 | .BR ms => .BR (ms.map We)
 | .AO ms => .AO (ms.map We)
 | m => m
def J2 : Meta → Bool
 | .val => true
 | .full => true
 | .own => true
 | .E_ => true
 | .AO ms => ms.all fun m => match m with
   | .val => true
   | .full => true
   | .own => true
   | .E_ => true
   | _ => false
 | _ => false
def U8 : Meta → Bool
 | .val => true
 | .full => true
 | .own => true
 | .ptr _ _ => true
 | .E_ => true
 | .map _ => true
 | .PY => true
 | .arr _ _ _ _ => true
 | .fn _ _ => true
 | _ => false
def St.get (st : St) (t : Nat) : DV × Meta := (st.tm.getD t .undef, st.mt.getD t .val)
def St.put (st : St) (dst : Option Nat) (d : DV) (m : Meta) : St :=
 match dst with
 | none => st
 | some t => { st with tm := st.tm.set t d, mt := st.mt.set t m }
def St.release (st : St) : Operand → St
 | .tmp t => { st with mt := st.mt.set t (dm (st.mt.getD t .val)) }
 | _ => st
def St.mK (st : St) (x : Operand) (m : Meta) : St :=
 match x with
 | .tmp t => { st with mt := st.mt.set t m }
 | _ => st
def Il (s : Nat) : Meta → Meta
 | .loc s' o => if s' = s then .val else .loc s' o
 | m => m
def St.Dx (st : St) (shared : Bool) (dst : Option Nat) (cs : List (DV × Meta)) : St :=
 match dst with
 | none => st
 | some t =>
   if shared then { st with sg := st.sg ++ [D7.box cs] }.put dst .undef (.ptr st.sg.length 0)
   else { st with mt := st.mt.map (Il t), bx := st.bx.set t (some cs) }.put dst .undef (.loc t 0)
def JS (t : Nat) (mt : List Meta) : Bool :=
 mt.all fun m => match m with
  | .loc s _ => s != t
  | _ => true
def Od (shared : Bool) (dst : Option Nat) (st : St) : Bool :=
 match dst with
 | none => true
 | some t => shared || JS t st.mt
def WM {α : Type} (ts : List Nat) (d : α) : Nat → List α → List α
 | _, [] => []
 | i, x :: xs => (if ts.contains i then x else d) :: WM ts d (i + 1) xs
def NA : Meta → Meta
 | .full => .own
 | m => m
def aj {α : Type} (f : α → α) (ts : List Nat) : Nat → List α → List α
 | _, [] => []
 | i, x :: xs => (if ts.contains i then f x else x) :: aj f ts (i + 1) xs
def Vl : Option (List (DV × Meta)) → Option (List (DV × Meta))
 | some cs => some (cs.map fun c => (c.1, NA c.2))
 | none => none
def WS (m : Meta) : Meta := if J2 m then .val else m
def mM : Option (List (DV × Meta)) → Option (List (DV × Meta))
 | some cs => some (cs.map fun c => (c.1, WS c.2))
 | none => none
def St.keep (st : St) (ts bs os vs : List Nat) : St :=
 { st with tm := WM ts .undef 0 st.tm, mt := aj WS vs 0 (aj NA os 0 (WM ts .val 0 st.mt)), bx := aj mM vs 0 (aj Vl os 0 (WM bs none 0 st.bx)) }
def src (P : Program) (t : TypeId) (st : St) : Operand → Option (DV × Meta)
 | .tmp x => some (st.get x)
 | .const v => cst P t v
 | .func f => some (.undef, .fn f [])
 | .global _ => none
def Gx (P : Program) (st : St) : List TypeId → List Operand → Option (List (DV × Meta))
 | t :: ts, x :: xs => ob (src P t st x) fun r => ob (Gx P st ts xs) fun rs => some (r :: rs)
 | [], x :: xs => ob (src P 0 st x) fun r => ob (Gx P st [] xs) fun rs => some (r :: rs)
 | _, [] => some []
def mR : List DV → List Meta → List (DV × Meta)
 | d :: ds, m :: ms => (d, m) :: mR ds ms
 | _, _ => []
def iH (n : Nat) (r : DV × Meta) : Option (List (DV × Meta)) :=
 match r.2 with
 | .val => some ((cells n 0 r.1).map fun d => (d, .val))
 | .AO ms => if ms.length = n then some (mR (cells n 0 r.1) ms) else none
 | _ => none
def cellOf {X : Type} (r : DV × Meta) (k : DV × Meta → Option X) : Option X :=
 match r.2 with
 | .val => og (J4 r.1) (k (r.1, .val))
 | .full => k (r.1, .full)
 | .own => k (r.1, .own)
 | .E_ => k (.PZ, .E_)
 | m => og (U8 m) (k (.undef, m))
def explode {X : Type} (P : Program) (t : TypeId) (r : DV × Meta) (k : List (DV × Meta) → Option X) : Option X :=
 ob (tz P t) fun z =>
  if z.2 then og (D5 z.1 r.1) (ob (iH z.1 r) fun cs => k (cs.map fun c => (c.1, dm c.2)))
  else cellOf r fun c => k [(c.1, dm c.2)]
def Gn {X : Type} (P : Program) (t : TypeId) (r : DV × Meta) (k : List (DV × Meta) → Option X) : Option X :=
 ob (tz P t) fun z =>
  if z.2 then og (D5 z.1 r.1) (ob (iH z.1 r) k)
  else cellOf r fun c => k [(c.1, dm c.2)]
def putAt {α : Type} (l : List α) (o : Nat) (cs : List α) : List α := l.take o ++ cs ++ l.drop (o + cs.length)
def places (P : Program) (t : TypeId) : Option (List (Nat × Nat)) :=
 match P.underlying t with
 | some (.struct fs) => fs.toList.mapM fun f => (P.info? f.type).map fun i => (f.offset, i.size)
 | _ => none
def Fv {X : Type} (P : Program) (t : TypeId) (st : St) : List (Nat × Operand) → List (DV × Meta) → (List (DV × Meta) → Option X) → Option X
 | [], cs, k => k cs
 | (i, x) :: rest, cs, k =>
   ob (VW P t i) fun f => ob (src P f.type st x) fun r => explode P f.type r fun xs =>
    if f.offset + xs.length ≤ cs.length then Fv P t st rest (putAt cs f.offset xs) k else none
def bY (cs : List (DV × Meta)) : DV × Meta := (.agg (cs.map (·.1)), .AO (cs.map fun c => dm c.2))
def ML {X : Type} (z : Nat × Bool) (r : DV × Meta) (k : DV → Option X) : Option X :=
 og (J2 r.2) (if z.2 then og (D5 z.1 r.1) (k r.1) else og (J4 r.1) (k r.1))
def gV (P : Program) (t : TypeId) (st : St) (x : Operand) : Option (DV × Meta) :=
 match x with
 | .const (.agg vs) => ob (A2E P 8 t) fun ts => ob (WY P ts vs.toList) fun rs => og (rs.all fun c => J2 c.2) (some (.agg (rs.map (·.1)), .val))
 | x => src P t st x
def GA {X : Type} (P : Program) (e : TypeId) (z : Nat × Bool) (st : St) : List (Nat × Operand) → List DV → (List DV → Option X) → Option X
 | [], ds, k => k ds
 | (i, x) :: rest, ds, k => ob (gV P e st x) fun r => ML z r fun d => if i < ds.length then GA P e z st rest (ds.set i d) k else none
def mP (z : Nat × Bool) (cs : List (DV × Meta)) : Option DV :=
 if z.2 then some (.agg (cs.map (·.1)))
 else match cs with
  | [c] => some c.1
  | _ => none
def M4 (sg : List D7) (i : Nat) : Option (List (DV × Meta)) :=
 match sg[i]? with
 | some (.box cs) => some cs
 | _ => none
def UY (sg : List D7) (i : Nat) : Option (Nat × List DV) :=
 match sg[i]? with
 | some (.arr sz ds) => some (sz, ds)
 | _ => none
def Yo (sg : List D7) (i : Nat) : Option (Nat × List DV × List DV) :=
 match sg[i]? with
 | some (.opn sz pre ds) => some (sz, pre, ds)
 | _ => none
def A2G (q : Nat × List DV × List DV) (idx : Nat) (e : DV) : Option D7 :=
 if q.2.1.length ≤ idx ∧ idx - q.2.1.length < q.2.2.length then some (.opn q.1 q.2.1 (q.2.2.set (idx - q.2.1.length) e)) else none
def kW (q : Nat × List DV × List DV) (sz len : Nat) : Option DV :=
 if q.1 = sz ∧ q.2.1.length + q.2.2.length = len ∧ 0 < len then some (.list sz (q.2.1 ++ q.2.2)) else none
def AJ (sg : List D7) (i : Nat) : Option (Bool × List (DV × DV)) :=
 match sg[i]? with
 | some (.map ks es) => some (ks, es)
 | _ => none
def X5 (cs : List (DV × Meta)) (o : Nat) : Option DV :=
 match cs[o]? with
 | some (d, .val) => some d
 | some (d, .full) => some d
 | some (d, .own) => some d
 | some (d, .E_) => some d
 | _ => none
def iG (cs : List (DV × Meta)) (o : Nat) : Option DV :=
 match cs[o]? with
 | some (d, .full) => some d
 | some (d, .own) => some d
 | _ => none
def A7d (cs : List (DV × Meta)) (o : Nat) : Option (Nat × Nat × Nat) :=
 match cs[o]? with
 | some (_, .arr i sz 0 len) => some (i, sz, len)
 | _ => none
def Jp (cs : List (DV × Meta)) (o : Nat) : Option Nat :=
 match cs[o]? with
 | some (_, .map i) => some i
 | _ => none
def A2p (cs : List (DV × Meta)) (o : Nat) : Option Nat :=
 match cs[o]? with
 | some (_, .ptr i 0) => some i
 | _ => none
def vg : Nat → Nat → List (DV × Meta) → Option (List DV)
 | _, 0, _ => some []
 | o, n + 1, cs => ob (X5 cs o) fun d => ob (vg (o + 1) n cs) fun ds => some (d :: ds)
inductive B0l where
 | dat | map | ptr
def B0x (C : V6) (t : TypeId) : B0l :=
 match C.P.underlying t with
 | some (.map _ _) => .map
 | some (.pointer _) => if C.ref t then .dat else .ptr
 | _ => .dat
def A0H (P : Program) (t : TypeId) : Option DV :=
 ob (P.info? t) fun i => ob i.zero fun v => ob (cst P t v) fun r => og (J2 r.2) (some r.1)
def mapKeys (P : Program) (t : TypeId) : Option (Bool × TypeId) :=
 match P.underlying t with
 | some (.map kt et) =>
   match P.underlying kt with
   | some (.int .i64) => some (false, et)
   | some .string => some (true, et)
   | _ => none
 | _ => none
section
variable {X : Type} (C : V6) (R : N7)
def J9 (l : List Nat) : Option Nat → Bool
 | some t => l.contains t
 | none => false
def Vg (c : DV × Meta) : DV × Meta :=
 match c.2 with
 | .arr _ _ _ _ => (.undef, .val)
 | _ => c
def Di (fl : Flags) (o : Oper) (t : TypeId) (x : Operand) (st : St) (k : St → Option X) : Option X :=
 ob (src C.P 0 st x) fun r => ob (tz C.P t) fun z =>
  match r.2 with
  | .loc s off => ob (st.bx.getD s none) fun cs =>
    if off + z.1 ≤ cs.length then
     if z.2 then
      let seg := (cs.drop off).take z.1
      if J9 fl.L8 o.dst then
       k ({ st with bx := st.bx.set s (some (putAt cs off (seg.map fun c : DV × Meta => (c.1, dm c.2)))) }.put o.dst (.agg (seg.map fun c : DV × Meta => c.1)) (.AO (seg.map fun c : DV × Meta => c.2)))
      else
       let a := bY (if J9 fl.hide o.dst then seg.map Vg else seg)
       k (st.put o.dst a.1 a.2)
     else
      let c := cs.getD off (.undef, .val)
      if J9 fl.L8 o.dst then k ({ st with bx := st.bx.set s (some (cs.set off (c.1, dm c.2))) }.put o.dst c.1 c.2)
      else k (st.put o.dst c.1 (dm c.2))
    else none
  | .Nr ag sz off =>
    if off + z.1 ≤ sz then
     if z.2 then og ag (k (st.put o.dst (.agg (cells z.1 off r.1)) .val))
     else k (st.put o.dst (if ag then A7 off r.1 else r.1) .val)
    else none
  | .ptr i off => ob (M4 st.sg i) fun cs =>
    if z.2 then og (z.1 != 0) (ob (vg off z.1 cs) fun ds => k (st.put o.dst (.agg ds) .val))
    else match B0x C t with
     | .map => ob (Jp cs off) fun j => k (st.put o.dst .undef (.map j))
     | .ptr => ob (A2p cs off) fun j => k (st.put o.dst .undef (.ptr j 0))
     | .dat =>
       if J9 fl.L8 o.dst then
        ob (iG cs off) fun d => k ({ st with sg := st.sg.set i (.box (cs.set off (d, .val))) }.put o.dst d .own)
       else ob (X5 cs off) fun d => k (st.put o.dst d .val)
  | .Xr i sz idx off => ob (UY st.sg i) fun a => ob a.2[idx]? fun d =>
    og (a.1 == sz)
     (if off + z.1 ≤ sz then
       if z.2 then k (st.put o.dst (.agg (cells z.1 off d)) .val)
       else if sz = 1 then og (M7 d) (k (st.put o.dst d .val)) else k (st.put o.dst (A7 off d) .val)
     else none)
  | _ => none
def ES (o : Oper) (t : TypeId) (x y : Operand) (st : St) (k : St → Option X) : Option X :=
 ob (src C.P 0 st x) fun r => ob (src C.P t st y) fun v => ob (tz C.P t) fun z =>
  match r.2 with
  | .loc s off => ob (st.bx.getD s none) fun cs =>
    if z.2 then Gn C.P t v fun xs =>
     if off + xs.length ≤ cs.length then k (({ st with bx := st.bx.set s (some (putAt cs off xs)) }.release y).put o.dst (.H7 []) .val) else none
    else cellOf v fun c =>
     if off < cs.length then k (({ st with bx := st.bx.set s (some (cs.set off c)) }.release y).put o.dst (.H7 []) .val) else none
  | .ptr i off => ob (M4 st.sg i) fun cs =>
    if z.2 then explode C.P t v fun xs =>
     if off + xs.length ≤ cs.length then k ({ st with sg := st.sg.set i (.box (putAt cs off xs)) }.put o.dst (.H7 []) .val) else none
    else cellOf v fun c =>
     ob cs[off]? fun _ => k (({ st with sg := st.sg.set i (.box (cs.set off c)) }.release y).put o.dst (.H7 []) .val)
  | .Xr i sz idx off => ob (UY st.sg i) fun a => ob a.2[idx]? fun _ => ML z v fun e =>
    og (a.1 == sz)
     (if z.1 = sz ∧ off = 0 then k ({ st with sg := st.sg.set i (.arr sz (a.2.set idx e)) }.put o.dst (.H7 []) .val)
     else none)
  | .opt i sz idx => ob (Yo st.sg i) fun q => ML z v fun e => og (q.1 == sz && z.1 == sz)
     (ob (A2G q idx e) fun x => k ({ st with sg := st.sg.set i x }.put o.dst (.H7 []) .val))
  | _ => none
def A13 (r : DV × Meta) : Option Bool :=
 match r.2 with
 | .E_ => some true
 | .ptr _ _ => some false
 | .val => match r.1 with
   | .PZ => some true
   | .UT _ _ => some false
   | _ => none
 | _ => none
def A7Y (r s : DV × Meta) : Option Bool :=
 match A13 r, A13 s with
 | some true, some b => some b
 | some false, some true => some false
 | _, _ => none
def A1R (m n : Meta) : Option Bool :=
 match m, n with
 | .PY, .PY => some true
 | .PY, .map _ => some false
 | .map _, .PY => some false
 | _, _ => none
inductive A7a where
 | num | bool | flat (ks : List LK) | ptr | map | ref
def dZ (P : Program) (t : TypeId) : Option LK :=
 match P.underlying t with
 | some .bool => some .bool
 | some (.int _) => some .int
 | some .string => some .str
 | _ => none
def Rw (P : Program) : Nat → List Field → Option (List LK)
 | _, [] => some []
 | i, f :: fs => if f.name != "_" && f.offset == i then ob (dZ P f.type) fun k => ob (Rw P (i + 1) fs) fun ks => some (k :: ks) else none
def iC (P : Program) (t : TypeId) : A7a :=
 match P.underlying t with
 | some (.int _) => .num
 | some .string => .num
 | some .bool => .bool
 | some (.pointer _) => .ptr
 | some (.map _ _) => .map
 | some (.struct fs) =>
   match Rw P 0 fs.toList, P.stoodInHeld t, P.eqGuardType P.depth t with
   | some ks, false, false => .flat ks
   | _, _, _ => .ref
 | _ => .ref
def kZ (op : BinOp) (b : Bool) : Option DV :=
 match op with
 | .eql => some (.bool b)
 | .neq => some (.bool !b)
 | _ => none
def YU (o : Oper) (op : BinOp) (t : TypeId) (x y : Operand) (st : St) (k : St → Option X) : Option X :=
 ob (src C.P t st x) fun r => ob (src C.P t st y) fun s =>
  match iC C.P t with
  | .num => og (J2 r.2 && J2 s.2) (ob (A8 op r.1 s.1) fun d => k (st.put o.dst d .val))
  | .bool => og (J2 r.2 && J2 s.2) (ob (A7S r.1 s.1) fun b => ob (kZ op b) fun d => k (st.put o.dst d .val))
  | .flat ks => og (J2 r.2 && J2 s.2) (ob (rH ks r.1 s.1) fun b => ob (kZ op b) fun d => k (st.put o.dst d .val))
  | .ptr => ob (A7Y r s) fun b => ob (kZ op b) fun d => k (st.put o.dst d .val)
  | .map => ob (A1R r.2 s.2) fun b => ob (kZ op b) fun d => k (st.put o.dst d .val)
  | .ref => none
def QD (o : Oper) (t : TypeId) (x : Operand) (f : Nat) (st : St) (k : St → Option X) : Option X :=
 ob (src C.P 0 st x) fun r => ob (VW C.P t f) fun fd => ob (tz C.P fd.type) fun z =>
  if z.1 = 0 then none
  else match r.2 with
   | .loc s off => k (st.put o.dst .undef (.loc s (off + fd.offset)))
   | .Nr ag sz off => k (st.put o.dst r.1 (.Nr ag sz (off + fd.offset)))
   | .ptr i off => k (st.put o.dst .undef (.ptr i (off + fd.offset)))
   | .Xr i sz idx off => k (st.put o.dst .undef (.Xr i sz idx (off + fd.offset)))
   | _ => none
def A4E (off len : Nat) : DV → Option Nat
 | .int _ n => if 0 ≤ n ∧ n < len then some (off + n.toNat) else none
 | _ => none
def Ip (fl : Flags) (o : Oper) (t : TypeId) (x i : Operand) (st : St) (k : St → Option X) : Option X :=
 ob (src C.P t st x) fun r => ob (src C.P 0 st i) fun j => ob (Ml C.P t) fun e => ob (tz C.P e) fun z =>
  match r.2 with
  | .arr a sz off len => og (sz == z.1 && J2 j.2) (ob (A4E off len j.1) fun n => k (st.put o.dst .undef (if J9 fl.opn o.dst then .opt a sz n else .Xr a sz n 0)))
  | m => og (J2 m && J2 j.2) (ob (F3 z.1 r.1 j.1) fun d =>
    if z.2 then k (st.put o.dst d (.Nr true z.1 0)) else og (M7 d) (k (st.put o.dst d (.Nr false z.1 0))))
def XD (P : Program) (st : St) : Option Operand → Option (Option DV)
 | none => some none
 | some x => ob (src P 0 st x) fun r => og (J2 r.2) (some (some r.1))
def A4n : Meta → Option (Nat × Nat × Nat × Nat)
 | .arr i sz off len => some (i, sz, off, len)
 | _ => none
def Rq (o : Oper) (t : TypeId) (x : Operand) (lo hi mx : Option Operand) (st : St) (k : St → Option X) : Option X :=
 ob (src C.P t st x) fun r => ob (XD C.P st lo) fun l => ob (XD C.P st hi) fun h => ob (XD C.P st mx) fun m =>
  match A4n r.2 with
  | some q => ob (Ml C.P t) fun e => ob (tz C.P e) fun z => og (m.isNone && q.2.1 == z.1) (ob (bnd q.2.2.2 h) fun hh => ob (bnd 0 l) fun ll =>
    if ll ≤ hh ∧ hh ≤ q.2.2.2 then k (st.put o.dst .undef (.arr q.1 q.2.1 (q.2.2.1 + ll) (hh - ll))) else none)
  | none => og (J2 r.2)
    (match C.P.underlying t with
      | some (.slice e) => ob (tz C.P e) fun z =>
        match m, h with
        | none, _ => ob (Dh z.1 r.1 l h) fun d => k (st.put o.dst d .val)
        | some m, some h => ob (Yt z.1 r.1 l h m) fun d => k (st.put o.dst d .full)
        | _, _ => none
      | some .string =>
        match m with
        | none => ob (iJ r.1 l h) fun d => k (st.put o.dst d .val)
        | some _ => none
      | _ => none)
def A9L (sg : List D7) : Meta → Option Nat
 | .map i => ob (AJ sg i) fun p => some p.2.length
 | .PY => some 0
 | _ => none
def WI (o : Oper) (x : Operand) (t : TypeId) (st : St) (k : St → Option X) : Option X :=
 ob (src C.P t st x) fun r =>
  match C.P.underlying t with
  | some (.slice _) =>
    match r.2 with
    | .arr _ _ _ len => k (st.put o.dst (.int .i64 len) .val)
    | m => og (J2 m) (ob (dLen r.1) fun d => k (st.put o.dst d .val))
  | some .string => og (J2 r.2) (ob (DT r.1) fun d => k (st.put o.dst d .val))
  | some (.map _ _) => ob (A9L st.sg r.2) fun n => k (st.put o.dst (.int .i64 n) .val)
  | _ => none
def KO : Meta → Bool
 | .full => true
 | .own => true
 | _ => false
def A7I (P : Program) (t u : TypeId) : Option Nat :=
 ob (Ml P t) fun e => ob (Ml P u) fun _ => ob (tz P e) fun z => ob (P.info? e) fun i => ob (I_ P e) fun zs =>
  if z.1 ≠ 0 ∧ i.bytes ≤ 2 ^ 14 ∧ zs.length = z.1 then some z.1 else none
def Io (fl : Flags) (o : Oper) (x y : Operand) (t u : TypeId) (st : St) (k : St → Option X) : Option X :=
 ob (src C.P t st x) fun r => ob (src C.P u st y) fun s =>
  ob (A7I C.P t u) fun sz => og (KO r.2 && J2 s.2 && o.dst.isSome)
   (if J9 fl.opn o.dst then ob (A7P sz r.1 s.1) fun p => k ({ st.release x with sg := st.sg ++ [D7.opn sz p.1 p.2] }.put o.dst .undef (.arr st.sg.length sz 0 (p.1.length + p.2.length)))
   else ob (R6 sz r.1 s.1) fun d => k ((st.release x).put o.dst d .own))
def VV (o : Oper) (x : Operand) (t : TypeId) (st : St) (k : St → Option X) : Option X :=
 ob (src C.P t st x) fun r => ob (A4n r.2) fun q => ob (UY st.sg q.1) fun a => ob (Ml C.P t) fun e => ob (tz C.P e) fun z => ob (I_ C.P e) fun zs =>
  og (a.1 == q.2.1 && q.2.1 == z.1 && zs.length == z.1 && decide (q.2.2.1 + q.2.2.2 ≤ a.2.length))
   (k ({ st with sg := st.sg.set q.1 (.arr q.2.1 (a.2.take q.2.2.1)) }.put o.dst (.H7 []) .val))
def Px (m : Meta) : Meta := if J2 m then .val else dm m
def eD (os : List Nat) : Nat → List Meta → List Meta
 | _, [] => []
 | i, m :: ms => (if os.contains i then NA m else Px m) :: eD os (i + 1) ms
def XE (m : Meta) (k : MK) : Meta :=
 match k, m with
 | .own, .full => .own
 | .own, m => m
 | .S_ _ os, .AO ms => .AO (eD os 0 ms)
 | _, m => Px m
def GX : List MK → List (DV × Meta) → List (DV × Meta)
 | k :: ks, r :: rs => (r.1, XE r.2 k) :: GX ks rs
 | [], rs => rs.map fun r => (r.1, Px r.2)
 | _, [] => []
def B1U : Meta → Bool
 | .loc _ _ => false
 | .Nr _ _ _ => false
 | .BR _ => false
 | .AO ms => ms.all U8
 | _ => true
def Ci : MK → Bool
 | .own => true
 | .S_ _ _ => true
 | _ => false
def EY : Nat → List MK → List Operand → Option (Nat × Operand)
 | i, k :: ks, x :: xs => if Ci k then some (i, x) else EY (i + 1) ks xs
 | _, _, _ => none
def St.GV (st : St) : Option (Nat × Operand) → St
 | some p => st.release p.2
 | none => st
def KT (k : MK) (d : DV) : DV × Meta :=
 match k with
 | .val => (d, .val)
 | .own => (d, .own)
 | .ptr => match d with
   | .int _ i => (.undef, .ptr i.toNat 0)
   | .PZ => (.PZ, .E_)
   | _ => (.undef, .val)
 | .S_ n os => (d, .AO ((List.range n).map fun i => if os.contains i then .own else .val))
def A4w (ks : List MK) : Bool := ks.length == 1 || ks.all fun k => match k with
 | .val => true
 | .own => true
 | _ => false
def MO (ks : List MK) (ds : List DV) : DV × Meta :=
 match ks with
 | [k] => KT k (ds.getD 0 .undef)
 | _ => (.H7 ds, .BR (ks.map fun k => (KT k .undef).2))
def B0A : DV → Option Nat
 | .int _ n => some n.toNat
 | _ => none
def az {X : Type} (ks : List MK) (ds : List DV) (k : DV × Meta → Option X) : Option X :=
 match ks with
 | [.ptr] => ob (B0A (ds.getD 0 .undef)) fun i => k (.undef, .ptr i 0)
 | ks => k (MO ks ds)
theorem zw {X : Type} {ks : List MK} {ds : List DV} {k : DV × Meta → Option X} {x : X} (h : az ks ds k = some x) : k (MO ks ds) = some x ∧ ∀ (Y : Type) (k' : DV × Meta → Option Y), az ks ds k' = k' (MO ks ds) := by
 unfold az at h
 split at h
 ·cases hd : B0A (ds.getD 0 .undef) with
  | none => rw [hd] at h; cases h
  | some i =>
    have e : MO [.ptr] ds = (.undef, .ptr i 0) := by
     unfold B0A at hd
     split at hd <;> simp only [Option.some.injEq, reduceCtorEq] at hd
     rename_i kk n hx;simp only [MO, KT];rw [hx, ← hd]
    rw [hd] at h;rw [e];exact ⟨h, fun Y k' => by simp only [az, hd, ob]⟩
 ·rename_i hne
  refine ⟨h, fun Y k' => ?_⟩
  unfold az
  split
  ·exact absurd rfl hne
  ·rfl
def B0p : DV → Option (List DV)
 | .agg cs => some cs
 | _ => none
def IQ (o : Oper) (f : FuncId) (xs : List Operand) (rs : List (DV × Meta)) (st : St) (k : St → Option X) : Option X :=
 if C.clone f then
  match rs with
  | [r] => ob (A7U r.1) fun p => og (J2 r.2 && p.1 == C.nH f && decide (p.2.length ≤ lim)) (k ({ st with sg := st.sg ++ [D7.arr (C.nH f) p.2] }.put o.dst .undef (.arr st.sg.length (C.nH f) 0 p.2.length)))
  | _ => none
 else match C.dh f with
 | some g =>
   match rs with
   | [r] => ob (B0p r.1) fun cs => og (J2 r.2 && cs.length == C.nH f) (k ({ st with sg := st.sg ++ [D7.box (cs.map fun d => (d, .val))] }.put o.dst .undef (.fn g [(st.sg.length, 0)])))
   | _ => none
 | none => match C.sig f with
   | none => og (rs.all fun r => J2 r.2) (ob (R.p f (rs.map (·.1))) fun d => k (st.put o.dst d .val))
   | some s => og ((rs.all fun r => B1U r.2) && decide ((s.params.filter Ci).length ≤ 1) && A4w s.results)
     (ob (R.r f (GX s.params rs) st.sg) fun q =>
       az s.results q.1 fun r => k (({ st with sg := q.2 }.GV (EY 0 s.params xs)).put o.dst r.1 r.2))
def EN (fl : Flags) (o : Oper) (c : Call) (st : St) (k : St → Option X) : Option X :=
 match c.callee with
 | .builtin b =>
   match b, c.args.toList, c.argTypes.toList with
   | .len, [x], [t] => WI C o x t st k
   | .append, [x, y], [t, u] => Io C fl o x y t u st k
   | .clear, [x], [t] => VV C o x t st k
   | .max, [x, y], [t, u] => ob (src C.P t st x) fun r => ob (src C.P u st y) fun s => og (J2 r.2 && J2 s.2) (ob (A2r r.1 s.1) fun d => k (st.put o.dst d .val))
   | .min, [x, y], [t, u] => ob (src C.P t st x) fun r => ob (src C.P u st y) fun s => og (J2 r.2 && J2 s.2) (ob (A0g r.1 s.1) fun d => k (st.put o.dst d .val))
   | _, _, _ => none
 | .value fv => ob (src C.P 0 st fv) fun r => ob (Gx C.P st c.argTypes.toList c.args.toList) fun rs =>
   match r.2 with
   | .fn f caps => IQ C R o f c.args.toList (rs ++ caps.map fun m => (.undef, .ptr m.1 m.2)) st k
   | _ => none
 | .invoke _ _ => none
def VB : List (DV × Meta) → Option (List (Nat × Nat))
 | [] => some []
 | (_, .ptr i o) :: rs => ob (VB rs) fun ms => some ((i, o) :: ms)
 | _ => none
def I1 (fl : Flags) (o : Oper) (st : St) (k : St → Option X) : Option X :=
 match o.op with
 | .move x => ob (src C.P o.type st x) fun r =>
   if J9 fl.L8 o.dst then k ((st.release x).put o.dst r.1 r.2) else k (st.put o.dst r.1 (dm r.2))
 | .assign x => ob (src C.P o.type st x) fun r =>
   if J9 fl.L8 o.dst then k ((st.release x).put o.dst r.1 r.2) else k (st.put o.dst r.1 (dm r.2))
 | .pick c a b => ob (src C.P 0 st c) fun rc => ob (src C.P o.type st a) fun ra => ob (src C.P o.type st b) fun rb =>
   og (J2 rc.2 && J2 ra.2 && J2 rb.2) (ob (A4p rc.1 ra.1 rb.1) fun d => k (st.put o.dst d .val))
 | .alloc t => ob (I_ C.P t) fun cs => og (Od (J9 fl.shared o.dst) o.dst st) (k (st.Dx (J9 fl.shared o.dst) o.dst cs))
 | .box t x => ob (src C.P t st x) fun r =>
   if J9 fl.Xl o.dst then ob (tz C.P t) fun z => og (J2 r.2 && D5 z.1 r.1 && z.2) (k (st.put o.dst (.UT z.1 r.1) .val))
   else if J9 fl.L8 o.dst then Gn C.P t r fun cs => og (Od false o.dst st) (k ((st.release x).Dx false o.dst cs))
   else explode C.P t r fun cs => og (Od (J9 fl.shared o.dst) o.dst st) (k (st.Dx (J9 fl.shared o.dst) o.dst cs))
 | .build t ps => ob (I_ C.P t) fun zs => ob (places C.P t) fun _ => Fv C.P t st ps.toList zs fun cs =>
   k (st.put o.dst (bY cs).1 (bY cs).2)
 | .buildSlice t n ps => ob (Ml C.P t) fun e => ob (tz C.P e) fun z => ob (I_ C.P e) fun zs => ob (mP z zs) fun ze =>
   if (n * z.1 ≤ 2 ^ 24 ∧ z.1 ≠ 0) ∧ zs.length = z.1 ∧ zs.all (fun c => J2 c.2) = true then GA C.P e z st ps.toList (List.replicate n ze) fun ds => k (st.put o.dst (.list z.1 ds) .full)
   else none
 | .load t x => Di C fl o t x st k
 | .store t x y => ES C o t x y st k
 | .nilCheck x => ob (src C.P 0 st x) fun r =>
   match r.2 with
   | .loc s o' => k (st.put o.dst .undef (.loc s o'))
   | .Nr ag sz o' => k (st.put o.dst r.1 (.Nr ag sz o'))
   | .ptr i o' => k (st.put o.dst .undef (.ptr i o'))
   | .Xr i sz j o' => k (st.put o.dst .undef (.Xr i sz j o'))
   | .opt i sz j => k (st.put o.dst .undef (.opt i sz j))
   | .fn f cs => k (st.put o.dst .undef (.fn f cs))
   | .val => ob (o.dst.bind fun t => fl.refs.find? (·.1 == t)) fun q => ob (A7W q.2 r.1) fun d => k (st.put o.dst d (.Nr true q.2 0))
   | _ => none
 | .binOp op t x y _ => YU C o op t x y st k
 | .unOp op t x => ob (src C.P t st x) fun r => og (J2 r.2) (ob (Q5 op r.1) fun d => k (st.put o.dst d .val))
 | .convert t u x => ob (src C.P t st x) fun r =>
   match C.P.underlying u with
   | some (.int kd) => og (J2 r.2 && (C.P.underlying t).isSome) (ob (A4o kd r.1) fun d => k (st.put o.dst d .val))
   | _ => none
 | .fieldAddr t x f => QD C o t x f st k
 | .field t x f => ob (src C.P t st x) fun r => ob (VW C.P t f) fun fd => ob (tz C.P fd.type) fun z => ob (tz C.P t) fun zt =>
   og (J2 r.2 && D5 zt.1 r.1)
    (if fd.offset + z.1 ≤ zt.1 then
      if z.2 then k (st.put o.dst (.agg (cells z.1 fd.offset r.1)) .val) else k (st.put o.dst (A7 fd.offset r.1) .val)
    else none)
 | .indexAddr t x i => Ip C fl o t x i st k
 | .index t x i => ob (src C.P t st x) fun r => ob (src C.P 0 st i) fun j =>
   match C.P.underlying t with
   | some .string => og (J2 r.2 && J2 j.2) (ob (X6 r.1 j.1) fun d => k (st.put o.dst d .val))
   | _ => none
 | .slice t x lo hi mx => Rq C o t x lo hi mx st k
 | .makeFunc (.func f) first caps =>
   if first.isEmpty then ob (Gx C.P st [] caps.toList) fun rs => ob (VB rs) fun ms => k (st.put o.dst .undef (.fn f ms))
   else none
 | .makeMap t none => ob (mapKeys C.P t) fun q => k ({ st with sg := st.sg ++ [D7.map q.1 []] }.put o.dst .undef (.map st.sg.length))
 | .lookup t x y ok => ob (src C.P t st x) fun r => ob (src C.P 0 st y) fun key => ob (mapKeys C.P t) fun q =>
   ob (A0H C.P q.2) fun ze =>
    og (isKey q.1 key.1 && J2 key.2)
     (match r.2 with
       | .map i => ob (AJ st.sg i) fun p => og (p.1 == q.1)
         (if ok then k (st.put o.dst (.H7 [(Z4 p.2 key.1).getD ze, .bool (Z4 p.2 key.1).isSome]) .val)
         else k (st.put o.dst ((Z4 p.2 key.1).getD ze) .val))
       | _ => none)
 | .mapUpdate t x y v => ob (src C.P t st x) fun r => ob (src C.P 0 st y) fun key => ob (src C.P 0 st v) fun val => ob (mapKeys C.P t) fun q =>
   og (isKey q.1 key.1 && J2 key.2 && J2 val.2)
    (match r.2 with
      | .map i => ob (AJ st.sg i) fun p => og (p.1 == q.1) (k ({ st with sg := st.sg.set i (.map q.1 (Cc p.2 key.1 val.1)) }.put o.dst (.H7 []) .val))
      | _ => none)
 | .extract x i => ob (src C.P 0 st x) fun r =>
   match r.2 with
   | .val => ob (N8 i r.1) fun d => k (st.put o.dst d .val)
   | .BR ms => ob (N8 i r.1) fun d =>
     match ms.getD i .val with
     | .own => if J9 fl.L8 o.dst then k ((st.mK x (.BR (ms.set i .val))).put o.dst d .own) else k (st.put o.dst d .val)
     | .val => k (st.put o.dst d .val)
     | _ => none
   | _ => none
 | .call c => EN C R fl o c st k
 | _ => none
def ul {α X : Type} : List α → (List α → X) → X
 | [], k => k []
 | a :: l, k => ul l fun l' => k (a :: l')
def A9t {X : Type} (m : Meta) (k : Meta → X) : X :=
 match m with
 | .val => k .val
 | .full => k .full
 | .own => k .own
 | .loc s o => k (.loc s o)
 | .Nr ag sz o => k (.Nr ag sz o)
 | .ptr i o => k (.ptr i o)
 | .E_ => k .E_
 | .map i => k (.map i)
 | .PY => k .PY
 | .arr i sz off len => k (.arr i sz off len)
 | .Xr i sz idx o => k (.Xr i sz idx o)
 | .opt i sz idx => k (.opt i sz idx)
 | .fn f caps => k (.fn f caps)
 | .BR ms => k (.BR ms)
 | .AO ms => k (.AO ms)
def wZ {X : Type} : List Meta → (List Meta → X) → X
 | [], k => k []
 | m :: l, k => A9t m fun m' => wZ l fun l' => k (m' :: l')
def wh {X : Type} (st : St) (k : St → X) : X :=
 ul st.tm fun tm => wZ st.mt fun mt => ul st.bx fun bx => k { tm := tm, mt := mt, bx := bx, sg := st.sg }
theorem A3p {α X : Type} : ∀ (l : List α) (k : List α → X), ul l k = k l
 | [], _ => rfl
 | a :: l, k => by simp only [ul, A3p l]
theorem A1F {X : Type} : ∀ (l : List Meta) (k : List Meta → X), wZ l k = k l
 | [], _ => rfl
 | m :: l, k => by
   have h : ∀ (m : Meta) (k : Meta → X), A9t m k = k m := fun m k => by cases m <;> rfl
   simp only [wZ, A1F l, h]
theorem Yc {X : Type} (st : St) (k : St → X) : wh st k = k st := by
 simp only [wh, A3p, A1F]
def Iu (ops : List Oper) (g : Nat) : Option Nat := ob ops[g]? fun o => o.dst
def St.know (st : St) (t : Nat) (d : DV) : St := { st with tm := st.tm.set t d }
def I6 {β : Type} (d : DV) (a b c : Option β) : Option β :=
 match d with
 | .bool true => a
 | .bool false => b
 | .H7 [] => c
 | _ => none
def Bh (fl : Flags) (all : List Oper) : List Oper → St → (St → Option X) → Option X
 | [], st, k => k st
 | o :: os, st, k => wh st fun st =>
   match o.guard with
   | none => I1 C R fl o st fun st => Bh fl all os st k
   | some (g, want) => ob (Iu all g) fun t => og (J2 (st.get t).2) <|
     I6 (st.get t).1
      (if want then I1 C R fl o (st.know t (.bool true)) fun st => Bh fl all os st k else Bh fl all os ((st.know t (.bool true)).put o.dst (.H7 []) .val) k)
      (if want then Bh fl all os ((st.know t (.bool false)).put o.dst (.H7 []) .val) k else I1 C R fl o (st.know t (.bool false)) fun st => Bh fl all os st k)
      (Bh fl all os ((st.know t (.H7 [])).put o.dst (.H7 []) .val) k)
structure Fp where
 rt : List Nat := []
 wt : List Nat := []
 rb : List Nat := []
 wb : List Nat := []
 wl : List Nat := []
 rs : Bool := false
 ws : Bool := false
 nb : Option Nat := none
 ex : Option (Nat × Nat × Nat) := none
 so : Option Bool := none
def B0K (x : Operand) (i : Nat) (d : Option Nat) : Option (Nat × Nat × Nat) :=
 match x, d with
 | .tmp t, some u => some (t, i, u)
 | _, _ => none
def J7 : Operand → List Nat
 | .tmp t => [t]
 | _ => []
def tmpsOf (xs : List Operand) : List Nat := xs.flatMap J7
def Fy (mt : List Meta) (t : Nat) : List Nat :=
 match mt.getD t .val with
 | .loc s _ => [s]
 | _ => []
def dz (m : Meta) : Option Nat :=
 match m with
 | .ptr i _ => some i
 | .opt i _ _ => some i
 | _ => none
def d_ (m : Meta) : Option Bool :=
 match m with
 | .ptr _ _ => some false
 | .opt _ _ _ => some true
 | _ => none
def Dm (m : Meta) : List Nat × Bool :=
 match m with
 | .loc s _ => ([s], false)
 | .Nr _ _ _ => ([], false)
 | _ => ([], true)
def Fp.AP (f : Fp) (st st1 : St) : Fp := { f with wl := f.wt.flatMap (Fy st.mt) ++ f.wt.flatMap (Fy st1.mt) }
def DX (mt : List Meta) : Operand → List Nat
 | .tmp t => match mt.getD t .val with
   | .arr _ _ _ _ => []
   | _ => [t]
 | _ => []
def Dl (fl : Flags) (o : Oper) (st : St) : Fp :=
 let d := o.dst.toList
 let L8 := J9 fl.L8 o.dst
 match o.op with
 | .move x => { rt := J7 x, wt := d ++ (if L8 then J7 x else []) }
 | .assign x => { rt := J7 x, wt := d ++ (if L8 then J7 x else []) }
 | .pick c a b => { rt := tmpsOf [c, a, b], wt := d }
 | .alloc _ => if J9 fl.shared o.dst then { wt := d, rs := true, ws := true } else { wt := d, wb := d, nb := o.dst }
 | .box _ x => if J9 fl.Xl o.dst then { rt := J7 x, wt := d } else if J9 fl.L8 o.dst then { rt := J7 x, wt := d ++ J7 x, wb := d, nb := o.dst } else if J9 fl.shared o.dst then { rt := J7 x, wt := d, rs := true, ws := true } else { rt := J7 x, wt := d, wb := d, nb := o.dst }
 | .build _ ps => { rt := tmpsOf (ps.toList.map (·.2)), wt := d }
 | .buildSlice _ _ ps => { rt := tmpsOf (ps.toList.map (·.2)), wt := d }
 | .load _ x =>
   match src default 0 st x with
   | some r => { rt := J7 x, wt := d, rb := (Dm r.2).1, wb := if L8 then (Dm r.2).1 else [], rs := (Dm r.2).2, ws := L8 && (Dm r.2).2 }
   | none => {}
 | .store _ x y =>
   match src default 0 st x with
   | some r => { rt := tmpsOf [x, y], wt := d ++ DX st.mt y, rb := (Dm r.2).1, wb := (Dm r.2).1, rs := (Dm r.2).2, ws := (Dm r.2).2, so := if o.dst.isNone then d_ r.2 else none }
   | none => {}
 | .nilCheck x => { rt := J7 x, wt := d }
 | .binOp _ _ x y _ => { rt := tmpsOf [x, y], wt := d }
 | .unOp _ _ x => { rt := J7 x, wt := d }
 | .convert _ _ x => { rt := J7 x, wt := d }
 | .fieldAddr _ x _ => { rt := J7 x, wt := d }
 | .field _ x _ => { rt := J7 x, wt := d }
 | .indexAddr _ x i => { rt := tmpsOf [x, i], wt := d }
 | .index _ x i => { rt := tmpsOf [x, i], wt := d }
 | .slice _ x lo hi mx => { rt := tmpsOf (x :: (lo.toList ++ hi.toList ++ mx.toList)), wt := d }
 | .makeFunc _ _ caps => { rt := tmpsOf caps.toList, wt := d }
 | .lookup _ x y _ => { rt := tmpsOf [x, y], wt := d, rs := true }
 | .extract x i => { rt := J7 x, wt := d ++ (if L8 then J7 x else []), ex := B0K x i o.dst }
 | .call c =>
   match c.callee with
   | .builtin .len => { rt := tmpsOf c.args.toList, wt := d, rs := true }
   | .builtin .append => { rt := tmpsOf c.args.toList, wt := d ++ tmpsOf c.args.toList, rs := J9 fl.opn o.dst, ws := J9 fl.opn o.dst }
   | .builtin .clear => { rt := tmpsOf c.args.toList, wt := d, rs := true, ws := true }
   | .builtin _ => { rt := tmpsOf c.args.toList, wt := d }
   | .value x => { rt := tmpsOf (x :: c.args.toList), wt := d ++ tmpsOf c.args.toList, rs := true, ws := true }
   | .invoke _ _ => {}
 | op => { rt := tmpsOf op.operands.toList, wt := d ++ tmpsOf op.operands.toList, rs := true, ws := true }
def Wy (C : V6) (o : Oper) : Bool :=
 match o.op with
 | .call c => match c.callee with
   | .value (.func f) => !C.clone f && (C.dh f).isNone && (C.sig f).isNone
   | _ => false
 | _ => false
def B3F (C : V6) (fl : Flags) (o : Oper) (st st1 : St) : Fp :=
 (if Wy C o then { rt := tmpsOf o.op.operands.toList, wt := o.dst.toList } else Dl fl o st).AP st st1
def fZ (a b : List Nat) : Bool := a.all fun x => !b.contains x
def xB (f g : Fp) : Bool :=
 match f.nb with
 | some t => !g.wl.contains t
 | none => true
def A7N (f g : Fp) : Bool :=
 fZ f.wt g.rt && fZ f.wt g.wt && fZ g.wt f.rt && fZ f.wb g.rb && fZ f.wb g.wb && fZ g.wb f.rb &&
  !(f.ws && (g.rs || g.ws)) && !(g.ws && (f.rs || f.ws)) && xB f g && xB g f
def A9p (f g : Fp) : Bool :=
 match f.ex, g.ex with
 | some (x, i, d), some (y, j, e) => x == y && i != j && d != e && d != x && e != x
 | _, _ => false
def A5Y (f g : Fp) : Bool :=
 match f.so, g.so with
 | some i, some j => i != j && fZ f.wt g.rt && fZ f.wt g.wt && fZ g.wt f.rt
 | _, _ => false
def comm (f g : Fp) : Bool := A7N f g || A9p f g || A5Y f g
def A45 {X : Type} (n : Nat) (k : Nat → X) : X :=
 match n with
 | 0 => k 0
 | n + 1 => k (n + 1)
def MN {X : Type} : List Nat → (List Nat → X) → X
 | [], k => k []
 | a :: l, k => A45 a fun a' => MN l fun l' => k (a' :: l')
def aQ {X : Type} : List (List Nat) → (List (List Nat) → X) → X
 | [], k => k []
 | a :: l, k => MN a fun a' => aQ l fun l' => k (a' :: l')
theorem A3q {X : Type} (n : Nat) (k : Nat → X) : A45 n k = k n := by cases n <;> rfl
theorem UG {X : Type} : ∀ (l : List Nat) (k : List Nat → X), MN l k = k l
 | [], _ => rfl
 | a :: l, k => by simp only [MN, A3q, UG l]
theorem gI {X : Type} : ∀ (l : List (List Nat)) (k : List (List Nat) → X), aQ l k = k l
 | [], _ => rfl
 | a :: l, k => by simp only [aQ, UG, gI l]
def uniq : List Nat → List Nat
 | [] => []
 | a :: l => if l.contains a then uniq l else a :: uniq l
theorem A0y {x : Nat} : ∀ {l : List Nat}, x ∈ uniq l ↔ x ∈ l
 | [] => by simp [uniq]
 | a :: l => by
   simp only [uniq]
   split
   ·rename_i h
    rw [A0y (l := l), List.mem_cons];constructor
    ·exact .inr
    ·rintro (rfl | h')
     ·simpa using h
     ·exact h'
   ·rw [List.mem_cons, List.mem_cons, A0y (l := l)]
def Jn : List Oper → List (List Nat) → List (List Nat)
 | [], acc => acc
 | o :: os, acc => MN (uniq ((o.after.toList.filter (Region.binds .any)).flatMap fun e => e.on :: acc.getD e.on [])) fun l => Jn os (acc ++ [l])
def Rf : Nat → List Oper → Bool
 | _, [] => true
 | i, o :: os => (o.after.toList.filter (Region.binds .any)).all (fun e => decide (e.on < i)) && Rf (i + 1) os
def Hu (bf : List (List Nat)) (i : Nat) (acc : List (Nat × Fp)) (f : Fp) : Bool :=
 acc.all fun p => (bf.getD i []).contains p.1 || comm p.2 f
def A1D {X : Type} (b : Bool) (k : Bool → X) : X :=
 match b with
 | true => k true
 | false => k false
def A46 {X : Type} (o : Option Nat) (k : Option Nat → X) : X :=
 match o with
 | none => k none
 | some n => A45 n fun n => k (some n)
def A2w {X : Type} (o : Option Bool) (k : Option Bool → X) : X :=
 match o with
 | none => k none
 | some b => A1D b fun b => k (some b)
def Rx {X : Type} (f : Fp) (k : Fp → X) : X :=
 MN f.rt fun rt => MN f.wt fun wt => MN f.rb fun rb => MN f.wb fun wb => MN f.wl fun wl =>
  A1D f.rs fun rs => A1D f.ws fun ws => A46 f.nb fun nb => A2w f.so fun so => k { rt := rt, wt := wt, rb := rb, wb := wb, wl := wl, rs := rs, ws := ws, nb := nb, ex := f.ex, so := so }
theorem A3o {X : Type} (b : Bool) (k : Bool → X) : A1D b k = k b := by cases b <;> rfl
theorem A9u {X : Type} (o : Option Nat) (k : Option Nat → X) : A46 o k = k o := by cases o <;> simp only [A46, A3q]
theorem A73 {X : Type} (o : Option Bool) (k : Option Bool → X) : A2w o k = k o := by cases o <;> simp only [A2w, A3o]
theorem A1E {X : Type} (f : Fp) (k : Fp → X) : Rx f k = k f := by
 simp only [Rx, UG, A3o, A9u, A73]
def Fp.look (f : Fp) (t : Nat) : Fp := { f with rt := t :: f.rt, ex := none, so := none }
def B4N (o : Oper) (t : Nat) (st : St) : Fp := Fp.AP { rt := [t], wt := o.dst.toList } st (st.put o.dst (.H7 []) .val)
def iL (fl : Flags) (o : Oper) (t : Nat) (st : St) (J : Fp → St → Option X) : Option X :=
 I1 C R fl o st fun st1 => J ((B3F C fl o st st1).look t) st1
def VD (o : Oper) (t : Nat) (st : St) (J : Fp → St → Option X) : Option X :=
 J (B4N o t st) (st.put o.dst (.H7 []) .val)
def CB (fl : Flags) (all : List Oper) (bf : List (List Nat)) : List Oper → Nat → List (Nat × Fp) → St → (St → Option X) → Option X
 | [], _, _, st, k => k st
 | o :: os, i, acc, st, k => wh st fun st =>
   match o.guard with
   | none => I1 C R fl o st fun st1 => Rx (B3F C fl o st st1) fun f => og (Hu bf i acc f) (CB fl all bf os (i + 1) ((i, f) :: acc) st1 k)
   | some (g, want) => ob (Iu all g) fun t => og (J2 (st.get t).2) <|
     I6 (st.get t).1
      (if want then iL C R fl o t (st.know t (.bool true)) fun f st1 => Rx f fun f => og (Hu bf i acc f) (CB fl all bf os (i + 1) ((i, f) :: acc) st1 k)
       else VD o t (st.know t (.bool true)) fun f st1 => Rx f fun f => og (Hu bf i acc f) (CB fl all bf os (i + 1) ((i, f) :: acc) st1 k))
      (if want then VD o t (st.know t (.bool false)) fun f st1 => Rx f fun f => og (Hu bf i acc f) (CB fl all bf os (i + 1) ((i, f) :: acc) st1 k)
       else iL C R fl o t (st.know t (.bool false)) fun f st1 => Rx f fun f => og (Hu bf i acc f) (CB fl all bf os (i + 1) ((i, f) :: acc) st1 k))
      (VD o t (st.know t (.H7 [])) fun f st1 => Rx f fun f => og (Hu bf i acc f) (CB fl all bf os (i + 1) ((i, f) :: acc) st1 k))
inductive Out where
 | normal
 | exit (id : Nat)
 | ret
 deriving Inhabited
def Ez (fl : Flags) (id : Nat) (st : St) : St :=
 match fl.keep.find? (·.1 == id) with
 | some e => st.keep e.2.1 e.2.2.1 e.2.2.2.1 e.2.2.2.2
 | none => st
def ut : Code → Option Nat
 | .region id _ _ => some id
 | .seq a _ => ut a
 | .block _ b => ut b
 | .loop b => ut b
 | _ => none
def clean (fl : Flags) (c : Code) (st : St) : St :=
 match ut c with
 | some id => Ez fl id st
 | none => st
def Yr {X : Type} (r : Nat) (st : St) (k : St → Option X) : Option X :=
 match (st.get r).2 with
 | .arr i sz 0 len => ob (Yo st.sg i) fun q => ob (kW q sz len) fun d => k ({ st with sg := st.sg.set i (.arr 1 []) }.put (some r) d .own)
 | .ptr b off => ob (M4 st.sg b) fun cs => ob (A7d cs off) fun a => ob (Yo st.sg a.1) fun q => ob (kW q a.2.1 a.2.2) fun d =>
    k { st with sg := (st.sg.set b (.box (cs.set off (d, .own)))).set a.1 (.arr 1 []) }
 | _ => none
def FO {X : Type} (fl : Flags) (id : Nat) (st : St) (k : St → Option X) : Option X :=
 match fl.B5y.find? (·.1 == id) with
 | some e => Yr e.2 st k
 | none => k st
def Wl (P : Program) (c : Operand) (st : St) (a b : St → Option X) : Option X :=
 ob (src P 0 st c) fun r => og (J2 r.2) <|
  match c with
  | .tmp t => D6 r.1 (a (st.know t (.bool true))) (b (st.know t (.bool false)))
  | _ => D6 r.1 (a st) (b st)
def iter {S X : Type} (F : (S → Option X) → S → Option X) : Nat → S → Option X
 | 0, _ => none
 | n + 1, s => F (iter F n) s
def Ue (r : DV × Meta) : DV × Meta :=
 match r.2 with
 | .val => (r.1, .val)
 | .full => (r.1, .full)
 | .own => (r.1, .val)
 | .ptr i o => (.undef, .ptr i o)
 | .E_ => (.PZ, .E_)
 | .map i => (.undef, .map i)
 | .PY => (.undef, .PY)
 | .fn f caps => (.undef, .fn f caps)
 | _ => (.undef, .val)
def Y6 (st : St) (sg : List D7) : St :=
 { tm := (st.tm.zip st.mt).map (fun r => (Ue r).1), mt := (st.tm.zip st.mt).map (fun r => (Ue r).2), bx := st.bx.map (fun _ => none), sg := sg }
def Vo (st : St) (p : Nat) (d : DV) (sg : List D7) : St := (Y6 st sg).put (some p) d .val
def IP : List (DV × Meta) → Option (List DV)
 | [] => some []
 | c :: cs => og (match c.2 with
   | .val => true
   | .full => true
   | .own => true
   | _ => false) (ob (IP cs) fun ds => some (c.1 :: ds))
def O7 : Code → Bool
 | .rangeFunc _ _ _ _ => false
 | .seq a b => O7 a && O7 b
 | .cond _ a b => O7 a && O7 b
 | .block _ b => O7 b
 | .loop b => O7 b
 | _ => true
def lL : Code → Bool
 | .region _ _ false => true
 | .skip => true
 | _ => false
def KI {X : Type} (step : DV → (List D7 → Option X) → List D7 → Option X) (fin : List D7 → Option X) : List DV → List D7 → Option X
 | [], sg => fin sg
 | d :: ds, sg => step d (KI step fin ds) sg
def wX {X : Type} (C : V6) (st : St) (g : Operand) (ps : Array Nat) (pl : Bool) (fin : St → Option X) (step : Nat → DV → (List D7 → Option X) → List D7 → Option X) : Option X :=
 match g, ps.toList with
 | .tmp t, [p] =>
   match (st.get t).2 with
   | .fn f [(i, 0)] => ob (C.iter f) fun it => ob (M4 st.sg i) fun cs => ob (IP cs) fun cd => ob (it cd) fun ds => og pl
      (KI (step p) (fun sg => fin (Y6 st sg)) ds (st.sg.set i (.arr 1 [])))
   | _ => none
 | _, _ => none
open Classical in
def Fz {S X : Type} (F : (S → Option X) → S → Option X) (s : S) : Option X :=
 if h : ∃ x n, iter F n s = some x then some h.choose else none
def R5 (fl : Flags) : Code → (Out → St → Option X) → St → Option X
 | .skip, K, st => K .normal st
 | .region id ops false, K, st => Bh C R fl ops.toList ops.toList (Ez fl id st) fun st => FO fl id st (K .normal)
 | .region id ops true, K, st => og (Rf 0 ops.toList) (aQ (Jn ops.toList []) fun bf => CB C R fl ops.toList bf ops.toList 0 [] (Ez fl id st) fun st => FO fl id st (K .normal))
 | .seq a b, K, st => R5 fl a (fun o st => match o with
    | .normal => R5 fl b K (clean fl b st)
    | .exit i => K (.exit i) st
    | .ret => K .ret st) st
 | .cond c a b, K, st => Wl C.P c st (fun st => R5 fl a K (clean fl a st)) (fun st => R5 fl b K (clean fl b st))
 | .block id b, K, st => R5 fl b (fun o st => match o with
    | .normal => K .normal st
    | .exit i => if i = id then K .normal st else K (.exit i) st
    | .ret => K .ret st) st
 | .loop b, K, st => Fz (fun J st => R5 fl b (fun o st => match o with
    | .normal => J (clean fl b st)
    | .exit i => K (.exit i) st
    | .ret => K .ret st) st) (clean fl b st)
 | .rangeFunc g ps assign body, K, st => wX C st g ps (lL assign && O7 body) (fun st => K .normal st) fun p d J sg =>
    R5 fl assign (fun o st1 => match o with
     | .normal => R5 fl body (fun o st2 => match o with
       | .normal => J st2.sg
       | .exit e => K (.exit e) (Y6 st st2.sg)
       | .ret => K .ret (Y6 st st2.sg)) (clean fl body st1)
     | .exit _ => none
     | .ret => none) (clean fl assign (Vo st p d sg))
 | .exit id, K, st => K (.exit id) st
 | .ret, K, st => K .ret st
 | _, _, _ => none
end
def F5 (fn : Func) (rs : List (DV × Meta)) (sg : List D7) : St where
 tm := rs.map (·.1) ++ List.replicate (fn.ntmps - rs.length) (.H7 [])
 mt := rs.map (·.2) ++ List.replicate (fn.ntmps - rs.length) .val
 bx := List.replicate (rs.length + (fn.ntmps - rs.length)) none
 sg := sg
def j3 (sg : List D7) (c : DV × Meta) : Option DV :=
 match c.2 with
 | .val => some c.1
 | .full => some c.1
 | .own => some c.1
 | .E_ => some c.1
 | .arr i sz off len => ob (UY sg i) fun a => og (a.1 == sz) (if off + len ≤ a.2.length then some (.list sz ((a.2.drop off).take len)) else none)
 | _ => none
def DN (sg : List D7) : List (DV × Meta) → Option (List DV)
 | [] => some []
 | c :: cs => ob (j3 sg c) fun d => ob (DN sg cs) fun ds => some (d :: ds)
def bA (P : Program) (st : St) : ResultVar → Option DV
 | .tmp t =>
   match (st.get t).2 with
   | .AO ms =>  og (J2 (.AO ms)) (some (st.get t).1)
   | _ => j3 st.sg (st.get t)
 | .cell a t =>
   match (st.get a).2 with
   | .loc s 0 => ob (st.bx.getD s none) fun cs => ob (tz P t) fun z =>
     if z.1 = cs.length then
      if z.2 then ob (DN st.sg cs) fun ds => some (.agg ds)
      else match cs with
       | [c] => j3 st.sg c
       | _ => none
     else none
   | .ptr i 0 => ob (M4 st.sg i) fun cs => ob (tz P t) fun z =>
     if z.1 = cs.length then
      if z.2 then ob (DN st.sg cs) fun ds => some (.agg ds)
      else match cs with
       | [c] => j3 st.sg c
       | _ => none
     else none
   | _ => none
def Yy (P : Program) (st : St) : List ResultVar → Option (List DV)
 | [] => some []
 | v :: vs => ob (bA P st v) fun d => ob (Yy P st vs) fun ds => some (d :: ds)
def pack : List DV → DV
 | [d] => d
 | ds => .H7 ds
def Vn (P : Program) (fn : Func) : Out → St → Option DV
 | .exit _, _ => none
 | _, st => ob (Yy P st fn.results.toList) fun ds => some (pack ds)
def wV : Meta → List Nat
 | .arr i _ _ _ => [i]
 | _ => []
def TA (st : St) : ResultVar → List Nat
 | .tmp t => wV (st.get t).2
 | .cell a _ =>
   match (st.get a).2 with
   | .loc s _ =>
     match st.bx.getD s none with
     | some cs => cs.flatMap fun c => wV c.2
     | none => []
   | _ => []
def kill (sg : List D7) (us : List Nat) : List D7 := us.foldl (fun g i => g.set i (.arr 1 [])) sg
def A0s (st : St) : ResultVar → Bool
 | .tmp _ => true
 | .cell a _ =>
   match (st.get a).2 with
   | .loc _ _ => true
   | _ => false
def A5F (r : DV × Meta) : Option DV :=
 match r.2 with
 | .ptr i 0 => some (.int .u64 i)
 | .E_ => some .PZ
 | _ => none
def iB (os : List Nat) : Nat → List (DV × Meta) → Bool
 | _, [] => true
 | i, c :: cs => (if os.contains i then KO c.2 else J2 c.2) && iB os (i + 1) cs
def A15 (P : Program) (sl : Bool) (st : St) (k : MK) (v : ResultVar) : Option DV :=
 match k with
 | .val => match sl && A0s st v with
   | true => bA P st v
   | false => bA P { st with sg := [] } v
 | .own =>
   match v with
   | .tmp t => og (KO (st.get t).2) (some (st.get t).1)
   | _ => none
 | .ptr =>
   match v with
   | .tmp t => A5F (st.get t)
   | _ => none
 | .S_ n os =>
   match v with
   | .cell a t =>
     match (st.get a).2 with
     | .loc s 0 => ob (st.bx.getD s none) fun cs => ob (tz P t) fun z => og (z.2 && z.1 == cs.length && n == z.1 && iB os 0 cs) (some (.agg (cs.map (·.1))))
     | _ => none
   | _ => none
def XG (P : Program) (sl : Bool) (st : St) : List MK → List ResultVar → Option (List DV)
 | [], [] => some []
 | k :: ks, v :: vs => ob (A15 P sl st k v) fun d => ob (XG P sl st ks vs) fun ds => some (d :: ds)
 | _, _ => none
def BK (P : Program) (fn : Func) (s : Z8) : Out → St → Option (List DV × List D7)
 | .exit _, _ => none
 | _, st => og (decide ((s.results.filter Ci).length ≤ 1)) (ob (XG P s.lock st s.results fn.results.toList) fun ds => some (ds, match s.lock with
   | true => kill st.sg (fn.results.toList.flatMap (TA st))
   | false => st.sg))
def A2q {X : Type} (C : V6) (R : N7) (fl : Flags) (p : Cut) (K : Out → St → Option X) : Out → St → Option X
 | .normal, st => ob (p.mid st) fun st => R5 C R fl p.post K (clean fl p.post st)
 | .exit _, _ => none
 | .ret, st => K .ret st
def A1x {X : Type} (C : V6) (R : N7) (fl : Flags) (q : Option Cut) (c : Code) (K : Out → St → Option X) (st : St) : Option X :=
 match q with
 | some p => R5 C R fl (BQ p.pre .skip) (A2q C R fl p K) st
 | none => R5 C R fl c K st
def stays : Meta → Bool
 | .val => true
 | .full => true
 | .own => true
 | .E_ => true
 | .ptr _ _ => true
 | .map _ => true
 | _ => false
def Yu (C : V6) (o : Oper) (st : St) : Option (FuncId × List (DV × Meta)) :=
 match o.op with
 | .defer c =>
   match c.callee with
   | .value (.func f) => ob (Gx C.P st c.argTypes.toList c.args.toList) fun rs =>
      og (C.dfn f && o.guard.isNone && o.dst.isNone && rs.all fun r => stays r.2) (some (f, rs.map fun r => Ue (r.1, Px r.2)))
   | _ => none
 | _ => none
def TC (R : N7) (K : Out → St → Option (List DV × List D7)) (q : FuncId × List (DV × Meta)) : Out → St → Option (List DV × List D7)
 | .exit _, _ => none
 | o, st => ob (R.r q.1 q.2 st.sg) fun p => K o { st with sg := p.2 }
def Qm {X : Type} (C : V6) (R : N7) (fl : Flags) (p : Yz) (K : Out → St → Option X) (Kd : FuncId × List (DV × Meta) → Out → St → Option X) : Out → St → Option X
 | .exit _, _ => none
 | .ret, st => K .ret st
 | .normal, st => Wl C.P p.c st
    (fun st => R5 C R fl p.a (fun o st => match o with
      | .normal => Bh C R fl (p.ops ++ [p.Wh]) p.ops (Ez fl p.id st) fun st => ob (Yu C p.Wh st) fun q => R5 C R fl p.post (Kd q) (clean fl p.post st)
      | .exit _ => none
      | .ret => K .ret st) (clean fl p.a st))
    (fun st => R5 C R fl p.post K (clean fl p.post st))
def Ba (C : V6) (R : N7) : N7 where
 p f ds := ob C.P.funcs[f]? fun fn => ob fn.body fun c =>
     A1x C R (C.fl f) (C.gT f) c (Vn C.P fn) (F5 fn (ds.map fun d => (d, .val)) [])
 r f rs sg := ob (C.sig f) fun s => ob C.P.funcs[f]? fun fn => ob fn.body fun c =>
   match C.XR f with
   | none => R5 C R (C.fl f) c (BK C.P fn s) (F5 fn rs sg)
   | some p => R5 C R (C.fl f) (BQ (p.pre ++ [p.r]) .skip) (Qm C R (C.fl f) p (BK C.P fn s) (TC R (BK C.P fn s))) (F5 fn rs sg)
def KS (C : V6) : Nat → N7
 | 0 => { p := fun _ _ => none, r := fun _ _ _ => none }
 | n + 1 => Ba C (KS C n)
open Classical in
def run (C : V6) : N7 where
 p f ds := if h : ∃ x n, (KS C n).p f ds = some x then some h.choose else none
 r f rs sg := if h : ∃ x n, (KS C n).r f rs sg = some x then some h.choose else none
abbrev pt (i : Nat) : DV × Meta := (.undef, .ptr i 0)
abbrev oc {α : Type} (q : Option (List DV × List D7)) (k : DV → List D7 → Option α) : Option α := ob q fun r => k (r.1.getD 0 .undef) r.2
end
end Go.Su

/-
 THE DATA MACHINE, part 3: what it means that memory holds plain data, and what keeps it so.
-/
namespace Go.Su
abbrev Heap := Array Obj
abbrev Q0 := Nat → Nat → Prop
def hc (h : Heap) (b o : Nat) : Option Value :=
 match h[b]? with
 | some (.cells c _ _) => c[o]?
 | _ => none
theorem Jq (w : World) (b o : Nat) : w.cell? ⟨b, o, none⟩ = hc w.heap b o := by
 unfold World.cell? hc
 split <;> simp_all
def At (S : Q0) (h : Heap) (b o : Nat) (vs : List Value) : Prop :=
 ∀ j v, vs[j]? = some v → hc h b (o + j) = some v ∧ S b (o + j)
mutual
def RC (S : Q0) (h : Heap) : DV → List Value → Prop
 | .undef, vs => ∃ v, vs = [v] ∧ v.oneCell' = true
 | .int k n, vs => vs = [.int k n]
 | .bool b, vs => vs = [.bool b]
 | .str s, vs => vs = [.string s]
 | .agg cs, vs => Fe S h cs vs
 | .H7 _, _ => False
 | .list sz ds, vs => ∃ a len cap, vs = [.slice a len cap] ∧ len = ds.length ∧ len ≤ cap ∧ (a = none → cap = 0) ∧ (ds ≠ [] → 0 < sz) ∧
    ∀ x, a = some x → (0 < cap → x.spot = none) ∧ DJ S h sz x.block x.off ds
 | .PZ, vs => vs = [.pointer none]
 | .UT sz d, vs => ∃ b o, vs = [.pointer (some ⟨b, o, none⟩)] ∧ ∃ us : List Value, us.length = sz ∧ At S h b o us ∧ RC S h d us
def Fe (S : Q0) (h : Heap) : List DV → List Value → Prop
 | [], vs => vs = []
 | d :: ds, vs => ∃ v vs', vs = v :: vs' ∧ M7 d = true ∧ RC S h d [v] ∧ Fe S h ds vs'
def DJ (S : Q0) (h : Heap) (sz b : Nat) : Nat → List DV → Prop
 | _, [] => True
 | o, d :: ds => (∃ vs, vs.length = sz ∧ At S h b o vs ∧ RC S h d vs) ∧ DJ S h sz b (o + sz) ds
end
mutual
def RV (S : Q0) (h : Heap) : DV → Value → Prop
 | .undef, _ => True
 | .int k n, v => v = .int k n
 | .bool b, v => v = .bool b
 | .str s, v => v = .string s
 | .agg cs, v => ∃ vs, v = .agg vs ∧ Fe S h cs vs.toList
 | .H7 ds, v => ∃ vs, v = .tuple vs ∧ O_ S h ds vs.toList
 | .list sz ds, v => RC S h (.list sz ds) [v]
 | .PZ, v => v = .pointer none
 | .UT sz d, v => RC S h (.UT sz d) [v]
def O_ (S : Q0) (h : Heap) : List DV → List Value → Prop
 | [], vs => vs = []
 | d :: ds, vs => ∃ v vs', vs = v :: vs' ∧ RV S h d v ∧ O_ S h ds vs'
end
theorem D_ {S : Q0} {h : Heap} : ∀ {cs : List DV} {vs : List Value}, Fe S h cs vs ↔
 cs.length = vs.length ∧ ∀ (i : Nat) d v, cs[i]? = some d → vs[i]? = some v → M7 d = true ∧ RC S h d [v]
 | [], vs => by
   simp only [Fe];constructor
   ·rintro rfl; simp
   ·rintro ⟨h1, -⟩; exact List.eq_nil_of_length_eq_zero h1.symm
 | d :: ds, vs => by
   simp only [Fe];constructor
   ·rintro ⟨v, vs', rfl, hl, hc, hr⟩
    obtain ⟨h1, h2⟩ := D_.1 hr;refine ⟨by simp [h1], fun i d' v' hd hv => ?_⟩
    cases i with
    | zero => simp at hd hv; subst hd hv; exact ⟨hl, hc⟩
    | succ i => simp at hd hv; exact h2 i d' v' hd hv
   ·rintro ⟨h1, h2⟩
    cases vs with
    | nil => simp at h1
    | cons v vs' =>
      refine ⟨v, vs', rfl, (h2 0 d v rfl rfl).1, (h2 0 d v rfl rfl).2, D_.2 ⟨by simpa using h1, fun i d' v' hd hv => h2 (i + 1) d' v' (by simpa using hd) (by simpa using hv)⟩⟩
theorem VA {S : Q0} {h : Heap} : ∀ {cs : List DV} {vs : List Value}, O_ S h cs vs ↔
 cs.length = vs.length ∧ ∀ (i : Nat) d v, cs[i]? = some d → vs[i]? = some v → RV S h d v
 | [], vs => by
   simp only [O_];constructor
   ·rintro rfl; simp
   ·rintro ⟨h1, -⟩; exact List.eq_nil_of_length_eq_zero h1.symm
 | d :: ds, vs => by
   simp only [O_];constructor
   ·rintro ⟨v, vs', rfl, hc, hr⟩
    obtain ⟨h1, h2⟩ := VA.1 hr;refine ⟨by simp [h1], fun i d' v' hd hv => ?_⟩
    cases i with
    | zero => simp at hd hv; subst hd hv; exact hc
    | succ i => simp at hd hv; exact h2 i d' v' hd hv
   ·rintro ⟨h1, h2⟩
    cases vs with
    | nil => simp at h1
    | cons v vs' =>
      refine ⟨v, vs', rfl, h2 0 d v rfl rfl, VA.2 ⟨by simpa using h1, fun i d' v' hd hv => h2 (i + 1) d' v' (by simpa using hd) (by simpa using hv)⟩⟩
def Elem (S : Q0) (h : Heap) (sz b o : Nat) (d : DV) : Prop := ∃ vs : List Value, vs.length = sz ∧ At S h b o vs ∧ RC S h d vs
theorem C_ {S : Q0} {h : Heap} {sz b : Nat} : ∀ {ds : List DV} {o : Nat}, DJ S h sz b o ds ↔
 ∀ (i : Nat) d, ds[i]? = some d → Elem S h sz b (o + i * sz) d
 | [], o => by simp [DJ]
 | d :: ds, o => by
   simp only [DJ];constructor
   ·rintro ⟨h1, h2⟩ i d' hd
    cases i with
    | zero => simp at hd; subst hd; simpa [Elem] using h1
    | succ i =>
      have := C_.1 h2 i d' (by simpa using hd)
      rw [Nat.succ_mul, Nat.add_comm (i * sz), ← Nat.add_assoc];exact this
   ·intro hh
    refine ⟨by simpa [Elem] using hh 0 d rfl, C_.2 fun i d' hd => ?_⟩
    have := hh (i + 1) d' (by simpa using hd)
    rw [Nat.succ_mul, Nat.add_comm (i * sz), ← Nat.add_assoc] at this;exact this
structure V9 (S : Q0) (h : Heap) (S' : Q0) (h' : Heap) : Prop where
 s : ∀ b o, S b o → S' b o
 c : ∀ b o v, S b o → hc h b o = some v → hc h' b o = some v
theorem At.mono {S S' : Q0} {h h' : Heap} {b o : Nat} {vs : List Value} (I8 : V9 S h S' h') (H : At S h b o vs) : At S' h' b o vs :=
 fun j v hv => ⟨I8.c _ _ _ (H j v hv).2 (H j v hv).1, I8.s _ _ (H j v hv).2⟩
mutual
theorem RC.mono {S S' : Q0} {h h' : Heap} (I8 : V9 S h S' h') : ∀ (d : DV) {vs : List Value}, RC S h d vs → RC S' h' d vs
 | .undef, _, H => by simpa only [RC] using H
 | .int _ _, _, H => by simpa only [RC] using H
 | .bool _, _, H => by simpa only [RC] using H
 | .str _, _, H => by simpa only [RC] using H
 | .agg cs, _, H => by simp only [RC] at H ⊢; exact Fe.mono I8 cs H
 | .H7 _, _, H => by simp only [RC] at H
 | .list sz ds, _, H => by
   simp only [RC] at H ⊢;obtain ⟨a, len, cap, h1, h2, h3, h4, h5, h6⟩ := H;exact ⟨a, len, cap, h1, h2, h3, h4, h5, fun x hx => ⟨(h6 x hx).1, DJ.mono I8 ds (h6 x hx).2⟩⟩
 | .PZ, _, H => by simpa only [RC] using H
 | .UT sz d, _, H => by
   simp only [RC] at H ⊢;obtain ⟨b, o, h1, us, h2, h3, h4⟩ := H;exact ⟨b, o, h1, us, h2, h3.mono I8, RC.mono I8 d h4⟩
theorem Fe.mono {S S' : Q0} {h h' : Heap} (I8 : V9 S h S' h') : ∀ (ds : List DV) {vs : List Value}, Fe S h ds vs → Fe S' h' ds vs
 | [], _, H => by simpa only [Fe] using H
 | d :: ds, _, H => by
   simp only [Fe] at H ⊢;obtain ⟨v, vs', h1, h2, h3, h4⟩ := H;exact ⟨v, vs', h1, h2, RC.mono I8 d h3, Fe.mono I8 ds h4⟩
theorem DJ.mono {S S' : Q0} {h h' : Heap} (I8 : V9 S h S' h') {sz b : Nat} : ∀ (ds : List DV) {o : Nat}, DJ S h sz b o ds → DJ S' h' sz b o ds
 | [], _, _ => by simp only [DJ]
 | d :: ds, _, H => by
   simp only [DJ] at H ⊢;obtain ⟨⟨vs, h1, h2, h3⟩, h4⟩ := H;exact ⟨⟨vs, h1, h2.mono I8, RC.mono I8 d h3⟩, DJ.mono I8 ds h4⟩
end
theorem Elem.mono {S S' : Q0} {h h' : Heap} (I8 : V9 S h S' h') {sz b o : Nat} {d : DV} (H : Elem S h sz b o d) : Elem S' h' sz b o d :=
 let ⟨vs, h1, h2, h3⟩ := H
 ⟨vs, h1, h2.mono I8, RC.mono I8 d h3⟩
mutual
theorem RV.mono {S S' : Q0} {h h' : Heap} (I8 : V9 S h S' h') : ∀ (d : DV) {v : Value}, RV S h d v → RV S' h' d v
 | .undef, _, _ => by simp only [RV]
 | .int _ _, _, H => by simpa only [RV] using H
 | .bool _, _, H => by simpa only [RV] using H
 | .str _, _, H => by simpa only [RV] using H
 | .agg cs, _, H => by simp only [RV] at H ⊢; obtain ⟨vs, h1, h2⟩ := H; exact ⟨vs, h1, Fe.mono I8 cs h2⟩
 | .H7 ds, _, H => by simp only [RV] at H ⊢; obtain ⟨vs, h1, h2⟩ := H; exact ⟨vs, h1, O_.mono I8 ds h2⟩
 | .list _ _, _, H => by simp only [RV] at H ⊢; exact RC.mono I8 _ H
 | .PZ, _, H => by simpa only [RV] using H
 | .UT _ _, _, H => by simp only [RV] at H ⊢; exact RC.mono I8 _ H
theorem O_.mono {S S' : Q0} {h h' : Heap} (I8 : V9 S h S' h') : ∀ (ds : List DV) {vs : List Value}, O_ S h ds vs → O_ S' h' ds vs
 | [], _, H => by simpa only [O_] using H
 | d :: ds, _, H => by
   simp only [O_] at H ⊢;obtain ⟨v, vs', h1, h2, h3⟩ := H;exact ⟨v, vs', h1, RV.mono I8 d h2, O_.mono I8 ds h3⟩
end
theorem Gf {S : Q0} {h : Heap} {d : DV} {v : Value} (hl : M7 d = true) (H : RC S h d [v]) : v.oneCell' = true := by
 cases d <;> simp only [RC, M7] at H hl <;> try contradiction
 ·obtain ⟨u, hu, hv⟩ := H; simp at hu; subst hu; exact hv
 ·simp at H; subst H; rfl
 ·simp at H; subst H; rfl
 ·simp at H; subst H; rfl
 ·obtain ⟨a, len, cap, hu, -⟩ := H; simp at hu; subst hu; rfl
 ·simp at H; subst H; rfl
 ·obtain ⟨b, o, hu, -⟩ := H; simp at hu; subst hu; rfl
theorem MG {S : Q0} {h : Heap} {d : DV} {vs : List Value} (hl : M7 d = true) (H : RC S h d vs) : ∃ v, vs = [v] := by
 cases d <;> simp only [RC, M7] at H hl <;> try contradiction
 ·obtain ⟨u, hu, -⟩ := H; exact ⟨u, hu⟩
 ·exact ⟨_, H⟩
 ·exact ⟨_, H⟩
 ·exact ⟨_, H⟩
 ·obtain ⟨a, len, cap, hu, -⟩ := H; exact ⟨_, hu⟩
 ·exact ⟨_, H⟩
 ·obtain ⟨b, o, hu, -⟩ := H; exact ⟨_, hu⟩
theorem Qy {S : Q0} {h : Heap} {d : DV} {v : Value} (hl : M7 d = true) (H : RC S h d [v]) : RV S h d v := by
 cases d <;> simp only [RC, RV, M7] at H hl ⊢ <;> try contradiction
 ·simpa using H
 ·simpa using H
 ·simpa using H
 ·exact H
 ·simpa using H
 ·exact H
theorem Qx {S : Q0} {h : Heap} {d : DV} {v : Value} (hl : M7 d = true) (hv : v.oneCell' = true) (H : RV S h d v) : RC S h d [v] := by
 cases d <;> simp only [RC, RV, M7] at H hl ⊢ <;> try contradiction
 ·exact ⟨v, rfl, hv⟩
 ·simpa using H
 ·simpa using H
 ·simpa using H
 ·exact H
 ·simpa using H
 ·exact H
theorem MH {S : Q0} {h : Heap} {d : DV} {vs : List Value} (H : RC S h d vs) {j : Nat} {v : Value} (hv : vs[j]? = some v) :
 M7 (A7 j d) = true ∧ RC S h (A7 j d) [v] := by
 have und : ∀ u : Value, u.oneCell' = true → M7 DV.undef = true ∧ RC S h DV.undef [u] := fun u hu => ⟨rfl, by simp only [RC]; exact ⟨u, rfl, hu⟩⟩
 cases d with
 | agg cs =>
   simp only [RC] at H;obtain ⟨h1, h2⟩ := D_.1 H;have hj : j < vs.length := (List.getElem?_eq_some_iff.1 hv).1;have hc : cs[j]? = some (cs[j]'(by omega)) := List.getElem?_eq_getElem (by omega)
   have := h2 j _ v hc hv;simp only [A7, List.getD_eq_getElem?_getD, hc, Option.getD_some];exact this
 | H7 _ => simp only [RC] at H
 | undef =>
   obtain ⟨u, rfl⟩ := MG (d := .undef) rfl H;have h1 := Gf (d := .undef) rfl H;cases j with
   | zero => simp at hv; subst hv; exact und _ h1
   | succ j => simp at hv
 | int k n =>
   obtain ⟨u, rfl⟩ := MG (d := .int k n) rfl H;have h1 := Gf (d := .int k n) rfl H;cases j with
   | zero => simp at hv; subst hv; exact und _ h1
   | succ j => simp at hv
 | bool b =>
   obtain ⟨u, rfl⟩ := MG (d := .bool b) rfl H;have h1 := Gf (d := .bool b) rfl H;cases j with
   | zero => simp at hv; subst hv; exact und _ h1
   | succ j => simp at hv
 | str s =>
   obtain ⟨u, rfl⟩ := MG (d := .str s) rfl H;have h1 := Gf (d := .str s) rfl H;cases j with
   | zero => simp at hv; subst hv; exact und _ h1
   | succ j => simp at hv
 | list sz ds =>
   obtain ⟨u, rfl⟩ := MG (d := .list sz ds) rfl H;have h1 := Gf (d := .list sz ds) rfl H;cases j with
   | zero => simp at hv; subst hv; exact und _ h1
   | succ j => simp at hv
 | PZ =>
   obtain ⟨u, rfl⟩ := MG (d := .PZ) rfl H;have h1 := Gf (d := .PZ) rfl H;cases j with
   | zero => simp at hv; subst hv; exact und _ h1
   | succ j => simp at hv
 | UT sz d =>
   obtain ⟨u, rfl⟩ := MG (d := .UT sz d) rfl H;have h1 := Gf (d := .UT sz d) rfl H;cases j with
   | zero => simp at hv; subst hv; exact und _ h1
   | succ j => simp at hv
end Go.Su

/-
 THE DATA MACHINE, part 4: a state of the data machine and a state of the model that hold the same.
-/
namespace Go.Su
inductive Tag where
 | other
 | shut
 | RN (s : Nat)
 | obj (i : Nat)
 | sp (k a b : Nat)
 deriving DecidableEq
structure Env where
 blk : Nat → Nat
 obj : Nat → Nat
 base : Nat → Nat
 top : Nat → Nat
 O : Nat → Nat → Tag
 n : Nat
def Env.S (E : Env) : Q0 := fun b o => E.O b o = .shut
def A4m (E : Env) (h : Heap) (tg : Tag) (sz : Nat) (v : Value) : Prop :=
 ∀ (x : Addr) (len cap : Nat), v = .slice (some x) len cap → len < cap → ∃ c T f, h[x.block]? = some (.cells c T f) ∧ x.off + cap * sz ≤ c.size ∧
   ∀ o, x.off + len * sz ≤ o → o < x.off + cap * sz → E.O x.block o = tg ∧ ¬(f.1 ≤ o ∧ o < f.2)
def J8 (E : Env) (h : Heap) (tg : Tag) (d : DV) (m : Meta) (v : Value) : Prop :=
 match m with
 | .val => RV E.S h d v
 | .full => RV E.S h d v ∧ (∃ (a : Option Addr) (n : Nat), v = .slice a n n) ∧ ∃ sz ds, d = .list sz ds
 | .own => RV E.S h d v ∧ ∃ sz ds, d = .list sz ds ∧ A4m E h tg sz v
 | .loc s o => d = .undef ∧ v = .pointer (some ⟨E.blk s, o, none⟩)
 | .Nr ag sz o => ∃ b o0, v = .pointer (some ⟨b, o0 + o, none⟩) ∧ Elem E.S h sz b o0 d ∧ (ag = false → M7 d = true)
 | .ptr i o => i < E.n ∧ v = .pointer (some ⟨E.obj i, o, none⟩)
 | .E_ => d = .PZ ∧ v = .pointer none
 | .map i => i < E.n ∧ v = .map (some (E.obj i))
 | .PY => v = .map none
 | .arr i sz off len => i < E.n ∧ ∃ (a : Option Addr) (cap : Nat), v = .slice a len cap ∧ (0 < len → a = some ⟨E.obj i, E.base i + off * sz, none⟩) ∧ len ≤ cap ∧ (a = none → cap = 0) ∧ (∀ x, a = some x → x.spot = none) ∧ (0 < len → E.base i + (off + cap) * sz ≤ E.top i)
 | .Xr i sz idx o => i < E.n ∧ v = .pointer (some ⟨E.obj i, E.base i + idx * sz + o, none⟩)
 | .opt i sz idx => i < E.n ∧ v = .pointer (some ⟨E.obj i, E.base i + idx * sz, none⟩)
 | .fn f caps => v = .func (.func f) #[] (caps.map fun c => Value.pointer (some ⟨E.obj c.1, c.2, none⟩)).toArray ∧ ∀ c ∈ caps, c.1 < E.n
 | .BR _ => False
 | .AO _ => False
def RR (E : Env) (h : Heap) (k a : Nat) (d : DV) (m : Meta) (v : Value) : Prop :=
 match m with
 | .BR ms => ∃ (ds : List DV) (vs : Array Value), d = .H7 ds ∧ v = .tuple vs ∧ ds.length = ms.length ∧ vs.size = ms.length ∧
    ∀ (i : Nat) m' d' u, ms[i]? = some m' → ds[i]? = some d' → vs[i]? = some u → U8 m' = true ∧ J8 E h (.sp k a (i + 1)) d' m' u
 | .AO ms => ∃ (ds : List DV) (vs : Array Value), d = .agg ds ∧ v = .agg vs ∧ ds.length = ms.length ∧ vs.size = ms.length ∧
    ∀ (i : Nat) m' d' u, ms[i]? = some m' → ds[i]? = some d' → vs[i]? = some u → M7 d' = true ∧ u.oneCell' = true ∧ U8 m' = true ∧ J8 E h (.sp k a (i + 1)) d' m' u
 | m => J8 E h (.sp k a 0) d m v
def ZR (E : Env) (h : Heap) (tg : Tag) (k a : Nat) (b : Nat) (cs : List (DV × Meta)) : Prop :=
 ∃ c T, h[b]? = some (.cells c T (0, 0)) ∧ c.size = cs.length ∧ (∀ o, E.O b o = tg ∨ c.size ≤ o) ∧
   ∀ (j : Nat) r v, cs[j]? = some r → c[j]? = some v → M7 r.1 = true ∧ v.oneCell' = true ∧ U8 r.2 = true ∧ J8 E h (.sp k a j) r.1 r.2 v
def B3i (S : Q0) (h : Heap) (ks : Bool) (es : List (DV × DV)) (ens : Array MapEntry) : Prop :=
 es.length = ens.size ∧ ∀ (j : Nat) e n, es[j]? = some e → ens[j]? = some n → isKey ks e.1 = true ∧ RV S h e.1 n.key ∧ RV S h e.2 n.val
def kK (ens : Array MapEntry) (clk : Nat) : Prop :=
 (∀ (j : Nat) n, ens[j]? = some n → n.born < clk) ∧ ∀ (i j : Nat) m n, ens[i]? = some m → ens[j]? = some n → m.born = n.born → i = j
def RO (E : Env) (h : Heap) (i : Nat) : D7 → Prop
 | .box cs => ZR E h (.obj i) 2 i (E.obj i) cs
 | .arr sz ds => ds ≠ [] → ∃ c T, h[E.obj i]? = some (.cells c T (0, 0)) ∧ E.base i + ds.length * sz ≤ c.size ∧ 0 < sz ∧
    (∀ o, E.base i ≤ o → o < E.base i + ds.length * sz → E.O (E.obj i) o = .obj i) ∧
    ∀ (j : Nat) d, ds[j]? = some d → ∃ vs : List Value, vs.length = sz ∧ (∀ (x : Nat) u, vs[x]? = some u → c[E.base i + j * sz + x]? = some u) ∧ RC E.S h d vs
 | .opn sz pre ds => ∃ c T f, h[E.obj i]? = some (.cells c T f) ∧ E.base i + (pre.length + ds.length) * sz ≤ E.top i ∧ E.top i ≤ c.size ∧ 0 < sz ∧
    (∀ o, E.base i + pre.length * sz ≤ o → o < E.top i → E.O (E.obj i) o = .obj i ∧ ¬(f.1 ≤ o ∧ o < f.2)) ∧
    (∀ (j : Nat) d, pre[j]? = some d → Elem E.S h sz (E.obj i) (E.base i + j * sz) d) ∧
    ∀ (j : Nat) d, ds[j]? = some d → ∃ vs : List Value, vs.length = sz ∧ (∀ (x : Nat) u, vs[x]? = some u → c[E.base i + (pre.length + j) * sz + x]? = some u) ∧ RC E.S h d vs
 | .map ks es => ∃ ens clk, h[E.obj i]? = some (.map ens clk) ∧ (∀ o, E.O (E.obj i) o = .obj i) ∧ B3i E.S h ks es ens ∧ kK ens clk
structure I9 (E : Env) (st : St) (a : Act) (h : Heap) : Prop where
 size : a.tmps.size = st.tm.length
 AZ : st.mt.length = st.tm.length
 Ca : st.bx.length = st.tm.length
 n : st.sg.length = E.n
 regs : ∀ (t : Nat) v, a.tmps[t]? = some v → RR E h 0 t (st.get t).1 (st.get t).2 v
 boxes : ∀ (s : Nat) cs, st.bx.getD s none = some cs → ZR E h (.RN s) 1 s (E.blk s) cs
 P8 : ∀ (i : Nat) ob, st.sg[i]? = some ob → RO E h i ob
 fresh : ∀ b o, h.size ≤ b → E.O b o = .other
structure P9 (w w' : World) : Prop where
 os : w'.os = w.os
 tape : w'.tape = w.tape
 output : w'.output = w.output
theorem P9.refl (w : World) : P9 w w := ⟨rfl, rfl, rfl⟩
theorem P9.trans {a b c : World} (h : P9 a b) (k : P9 b c) : P9 a c := ⟨k.os.trans h.os, k.tape.trans h.tape, k.output.trans h.output⟩
def V4 (keep : Nat → Prop) (x y : Option Obj) : Prop :=
 match x with
 | none => True
 | some (.cells c T f) => ∃ c', y = some (.cells c' T f) ∧ c'.size = c.size ∧ ∀ o, keep o → c'[o]? = c[o]?
 | some ob => keep 0 → y = some ob
structure Pr (ch : Tag → Prop) (E : Env) (h : Heap) (E' : Env) (h' : Heap) : Prop where
 size : h.size ≤ h'.size
 blk : ∀ b, b < h.size → V4 (fun o => ¬ ch (E.O b o)) h[b]? h'[b]?
 tags : ∀ b o, b < h.size → ¬ ch (E.O b o) → E'.O b o = E.O b o
 n : E.n ≤ E'.n
 P8 : ∀ i, i < E.n → E'.obj i = E.obj i ∧ E'.base i = E.base i ∧ E'.top i = E.top i
 fV : ∀ s, ¬ ch (.RN s) → E'.blk s = E.blk s
theorem V4.refl (keep : Nat → Prop) (x : Option Obj) : V4 keep x x := by
 unfold V4
 split
 ·trivial
 ·exact ⟨_, rfl, rfl, fun _ _ => rfl⟩
 ·exact fun _ => rfl
theorem Pr.refl (ch : Tag → Prop) (E : Env) (h : Heap) : Pr ch E h E h :=
 ⟨Nat.le_refl _, fun _ _ => V4.refl _ _, fun _ _ _ _ => rfl, Nat.le_refl _, fun _ _ => ⟨rfl, rfl, rfl⟩, fun _ _ => rfl⟩
theorem Pr.weaken {ch ch' : Tag → Prop} {E E' : Env} {h h' : Heap} (H : Pr ch E h E' h') (hc : ∀ t, ch t → ch' t) : Pr ch' E h E' h' := by
 refine ⟨H.size, fun b hb => ?_, fun b o hb hn => H.tags b o hb fun x => hn (hc _ x), H.n, H.P8, fun s hn => H.fV s fun x => hn (hc _ x)⟩
 have := H.blk b hb;unfold V4 at this ⊢
 split at this
 ·trivial
 ·obtain ⟨c', h1, h2, h3⟩ := this
  exact ⟨c', h1, h2, fun o ho => h3 o fun x => ho (hc _ x)⟩
 ·exact fun h0 => this fun x => h0 (hc _ x)
theorem Pr.trans {ch : Tag → Prop} {E E1 E2 : Env} {h h1 h2 : Heap} (A : Pr ch E h E1 h1) (B : Pr ch E1 h1 E2 h2) : Pr ch E h E2 h2 := by
 refine ⟨Nat.le_trans A.size B.size, fun b hb => ?_, fun b o hb hn => ?_, Nat.le_trans A.n B.n, fun i hi => ?_, fun s hn => (B.fV s hn).trans (A.fV s hn)⟩
 ·have a := A.blk b hb
  have bb := B.blk b (Nat.lt_of_lt_of_le hb A.size);unfold V4 at a;unfold V4
  split at a
  ·trivial
  ·obtain ⟨c', e1, e2, e3⟩ := a
   unfold V4 at bb;rw [e1] at bb;obtain ⟨c2, f1, f2, f3⟩ := bb;refine ⟨c2, f1, f2.trans e2, fun o ho => (f3 o ?_).trans (e3 o ho)⟩
   show ¬ ch (E1.O b o)
   rw [A.tags b o hb ho]; exact ho
  ·rename_i ob hne _
   intro h0;have e1 := a h0;rw [e1] at bb;have Ib : ¬ ch (E1.O b 0) := by rw [A.tags b 0 hb h0]; exact h0
   unfold V4 at bb
   split at bb
   ·simp_all
   ·rename_i heq; simp only [Option.some.injEq] at heq; exact absurd heq (hne _ _ _)
   ·rename_i heq; rw [← heq] at bb; exact heq ▸ bb Ib
 ·have := A.tags b o hb hn
  exact (B.tags b o (Nat.lt_of_lt_of_le hb A.size) (by rw [this]; exact hn)).trans this
 ·have x := A.P8 i hi
  have y := B.P8 i (Nat.lt_of_lt_of_le hi A.n);exact ⟨y.1.trans x.1, y.2.1.trans x.2.1, y.2.2.trans x.2.2⟩
theorem Pr.hc {ch : Tag → Prop} {E E' : Env} {h h' : Heap} (H : Pr ch E h E' h') {b o : Nat} {v : Value} (hn : ¬ ch (E.O b o)) (hv : hc h b o = some v) : Su.hc h' b o = some v := by
 have hb : b < h.size := by
  rcases Nat.lt_or_ge b h.size with h1 | h1
  ·exact h1
  ·simp [Su.hc, Array.getElem?_eq_none h1] at hv
 have := H.blk b hb;unfold V4 at this;unfold Su.hc at hv ⊢
 split at this
 ·simp_all
 ·rename_i c T f he
  obtain ⟨c', e1, e2, e3⟩ := this;rw [he] at hv;rw [e1];simp only at hv ⊢;rw [e3 o hn]; exact hv
 ·rename_i ob hne he
  rw [he] at hv
  split at hv
  ·rename_i heq; simp only [Option.some.injEq] at heq; exact absurd heq (hne _ _ _)
  ·simp at hv
theorem Pr.shut {ch : Tag → Prop} {E E' : Env} {h h' : Heap} (H : Pr ch E h E' h') (hs : ¬ ch .shut) (hf : ∀ b o, h.size ≤ b → E.O b o = .other) : V9 E.S h E'.S h' := by
 refine ⟨fun b o h1 => ?_, fun b o v h1 hv => H.hc (by rw [show E.O b o = .shut from h1]; exact hs) hv⟩
 have hb : b < h.size := by
  rcases Nat.lt_or_ge b h.size with h2 | h2
  ·exact h2
  ·have := hf b o h2
   rw [show E.O b o = .shut from h1] at this
   cases this
 have := H.tags b o hb (by rw [show E.O b o = .shut from h1]; exact hs)
 exact this.trans h1
theorem A4m.mono {ch : Tag → Prop} {E E' : Env} {h h' : Heap} (H : Pr ch E h E' h') {tg : Tag} (ht : ¬ ch tg) {sz : Nat} {v : Value} (hs : A4m E h tg sz v) : A4m E' h' tg sz v := by
 intro x len cap hv I4;obtain ⟨c, T, f, h1, h2, h3⟩ := hs x len cap hv I4;have hb : x.block < h.size := (Array.getElem?_eq_some_iff.1 h1).1;have := H.blk x.block hb;unfold V4 at this;rw [h1] at this;obtain ⟨c', e1, e2, e3⟩ := this;refine ⟨c', T, f, e1, by rw [e2]; exact h2, fun o h4 h5 => ?_⟩
 obtain ⟨h6, h7⟩ := h3 o h4 h5;exact ⟨(H.tags _ _ hb (by rw [h6]; exact ht)).trans h6, h7⟩
theorem J8.mono {ch : Tag → Prop} {E E' : Env} {h h' : Heap} (H : Pr ch E h E' h') (I8 : V9 E.S h E'.S h') {tg : Tag} {d : DV} {m : Meta} {v : Value}
 (ht : m = .own → ¬ ch tg) (hl : ∀ s o, m = .loc s o → ¬ ch (.RN s)) (R : J8 E h tg d m v) : J8 E' h' tg d m v := by
 cases m <;> simp only [J8] at R ⊢
 case val => exact R.mono I8
 case full => exact ⟨R.1.mono I8, R.2⟩
 case own =>
  obtain ⟨r1, sz, ds, r2, r3⟩ := R;exact ⟨r1.mono I8, sz, ds, r2, r3.mono H (ht rfl)⟩
 case loc s o => rw [H.fV s (hl s o rfl)]; exact R
 case Nr ag sz o =>
  obtain ⟨b, o0, r1, r2, r3⟩ := R;exact ⟨b, o0, r1, r2.mono I8, r3⟩
 case ptr i o => rw [(H.P8 i R.1).1]; exact ⟨Nat.lt_of_lt_of_le R.1 H.n, R.2⟩
 case E_ => exact R
 case map i => rw [(H.P8 i R.1).1]; exact ⟨Nat.lt_of_lt_of_le R.1 H.n, R.2⟩
 case PY => exact R
 case arr i sz off len => rw [(H.P8 i R.1).1, (H.P8 i R.1).2.1, (H.P8 i R.1).2.2]; exact ⟨Nat.lt_of_lt_of_le R.1 H.n, R.2⟩
 case Xr i sz idx o => rw [(H.P8 i R.1).1, (H.P8 i R.1).2.1]; exact ⟨Nat.lt_of_lt_of_le R.1 H.n, R.2⟩
 case opt i sz idx => rw [(H.P8 i R.1).1, (H.P8 i R.1).2.1]; exact ⟨Nat.lt_of_lt_of_le R.1 H.n, R.2⟩
 case fn f caps =>
  refine ⟨?_, fun c hc => Nat.lt_of_lt_of_le (R.2 c hc) H.n⟩
  rw [R.1]
  congr 2
  exact List.map_congr_left fun c hc => by rw [(H.P8 c.1 (R.2 c hc)).1]
theorem RR.mono {ch : Tag → Prop} {E E' : Env} {h h' : Heap} (H : Pr ch E h E' h') (I8 : V9 E.S h E'.S h') {k a : Nat} {d : DV} {m : Meta} {v : Value}
 (ht : ∀ b, ¬ ch (.sp k a b)) (hl : ∀ s o, m = .loc s o → ¬ ch (.RN s)) (R : RR E h k a d m v) : RR E' h' k a d m v := by
 have gen : (∀ ms, m ≠ .BR ms) → (∀ ms, m ≠ .AO ms) → J8 E h (.sp k a 0) d m v → J8 E' h' (.sp k a 0) d m v :=
  fun _ _ r => r.mono H I8 (fun _ => ht 0) hl
 cases m <;> simp only [RR] at R ⊢ <;> try (exact gen (by simp) (by simp) R)
 case BR ms =>
  obtain ⟨ds, vs, h1, h2, h3, h4, h5⟩ := R;exact ⟨ds, vs, h1, h2, h3, h4, fun i m' d' u e1 e2 e3 => let ⟨a0, a4⟩ := h5 i m' d' u e1 e2 e3
   ⟨a0, a4.mono H I8 (fun _ => ht _) fun s o hm => by rw [hm] at a0; simp [U8] at a0⟩⟩
 case AO ms =>
  obtain ⟨ds, vs, h1, h2, h3, h4, h5⟩ := R;exact ⟨ds, vs, h1, h2, h3, h4, fun i m' d' u e1 e2 e3 => let ⟨a1, a2, a0, a4⟩ := h5 i m' d' u e1 e2 e3
   ⟨a1, a2, a0, a4.mono H I8 (fun _ => ht _) fun s o hm => by rw [hm] at a0; simp [U8] at a0⟩⟩
theorem ZR.mono {ch : Tag → Prop} {E E' : Env} {h h' : Heap} (H : Pr ch E h E' h') (I8 : V9 E.S h E'.S h') {tg : Tag} (ht : ¬ ch tg) {k a b : Nat} {cs : List (DV × Meta)}
 (hs : ∀ j, ¬ ch (.sp k a j)) (R : ZR E h tg k a b cs) : ZR E' h' tg k a b cs := by
 obtain ⟨c, T, h1, h2, h3, h4⟩ := R;have hb : b < h.size := (Array.getElem?_eq_some_iff.1 h1).1;have := H.blk b hb;unfold V4 at this;rw [h1] at this;obtain ⟨c', e1, e2, e3⟩ := this;refine ⟨c', T, e1, e2.trans h2, fun o => ?_, fun j r v hr hv => ?_⟩
 ·rcases h3 o with h5 | h5
  ·exact .inl ((H.tags b o hb (by rw [h5]; exact ht)).trans h5)
  ·exact .inr (by omega)
 ·have hj : j < c.size := by have := (List.getElem?_eq_some_iff.1 hr).1; omega
  have hne : ¬ ch (E.O b j) := by
   rcases h3 j with h5 | h5
   ·rw [h5]; exact ht
   ·omega
  rw [e3 j hne] at hv;obtain ⟨a1, a2, a0, a3⟩ := h4 j r v hr hv;exact ⟨a1, a2, a0, a3.mono H I8 (fun _ => hs j) fun s o hm => by rw [hm] at a0; simp [U8] at a0⟩
theorem RO.mono {ch : Tag → Prop} {E E' : Env} {h h' : Heap} (H : Pr ch E h E' h') (I8 : V9 E.S h E'.S h') {i : Nat} (hi : i < E.n) (ht : ¬ ch (.obj i))
 (hs : ∀ j, ¬ ch (.sp 2 i j)) {ob : D7} (R : RO E h i ob) : RO E' h' i ob := by
 obtain ⟨ho, B1P, B6q⟩ := H.P8 i hi;cases ob with
 | box cs => simp only [RO] at R ⊢; rw [ho]; exact R.mono H I8 ht hs
 | arr sz ds =>
   simp only [RO] at R ⊢;intro hne;obtain ⟨c, T, h1, h2, hz, h3, h4⟩ := R hne;rw [ho, B1P];have hb : E.obj i < h.size := (Array.getElem?_eq_some_iff.1 h1).1;have := H.blk _ hb;unfold V4 at this;rw [h1] at this;obtain ⟨c', e1, e2, e3⟩ := this;refine ⟨c', T, e1, by omega, hz, fun o h5 h6 => ?_, fun j d hd => ?_⟩
   ·have := h3 o h5 h6
    exact (H.tags _ o hb (by rw [this]; exact ht)).trans this
   ·obtain ⟨vs, v1, v2, v3⟩ := h4 j d hd
    refine ⟨vs, v1, fun x u hu => ?_, v3.mono I8⟩
    have hx : x < sz := by have := (List.getElem?_eq_some_iff.1 hu).1; omega
    have hj : j < ds.length := (List.getElem?_eq_some_iff.1 hd).1;have I4 : j * sz + x < ds.length * sz := by
     calc j * sz + x < j * sz + sz := by omega
      _ = (j + 1) * sz := by rw [Nat.succ_mul]
      _ ≤ ds.length * sz := Nat.mul_le_mul_right _ hj
    rw [e3 _ (by show ¬ ch _; rw [h3 _ (by omega) (by omega)]; exact ht)]
    exact v2 x u hu
 | opn sz pre ds =>
   simp only [RO] at R ⊢;obtain ⟨c, T, f, h1, h2, YG, hz, h3, h4, h5⟩ := R;rw [ho, B1P, B6q];have hb : E.obj i < h.size := (Array.getElem?_eq_some_iff.1 h1).1;have := H.blk _ hb;unfold V4 at this;rw [h1] at this;obtain ⟨c', e1, e2, e3⟩ := this;refine ⟨c', T, f, e1, h2, by omega, hz, fun o h6 h7 => ?_, fun j d hd => (h4 j d hd).mono I8, fun j d hd => ?_⟩
   ·have := h3 o h6 h7
    exact ⟨(H.tags _ o hb (by rw [this.1]; exact ht)).trans this.1, this.2⟩
   ·obtain ⟨vs, v1, v2, v3⟩ := h5 j d hd
    refine ⟨vs, v1, fun x u hu => ?_, v3.mono I8⟩
    have hx : x < sz := by have := (List.getElem?_eq_some_iff.1 hu).1; omega
    have hj : j < ds.length := (List.getElem?_eq_some_iff.1 hd).1;have I4 : (pre.length + j) * sz + x < (pre.length + ds.length) * sz := by
     calc (pre.length + j) * sz + x < (pre.length + j) * sz + sz := by omega
      _ = (pre.length + j + 1) * sz := by rw [Nat.succ_mul]
      _ ≤ (pre.length + ds.length) * sz := Nat.mul_le_mul_right _ (by omega)
    have hge : pre.length * sz ≤ (pre.length + j) * sz := Nat.mul_le_mul_right _ (by omega)
    rw [e3 _ (by show ¬ ch _; rw [(h3 _ (by omega) (by omega)).1]; exact ht)]
    exact v2 x u hu
 | map ks es =>
   simp only [RO] at R ⊢;obtain ⟨ens, clk, h1, h2, h3, h4⟩ := R;rw [ho];have hb : E.obj i < h.size := (Array.getElem?_eq_some_iff.1 h1).1;have hk := H.blk _ hb;unfold V4 at hk;rw [h1] at hk;refine ⟨ens, clk, hk (by show ¬ ch _; rw [h2 0]; exact ht), fun o => (H.tags _ o hb (by rw [h2 o]; exact ht)).trans (h2 o), ⟨h3.1, fun j e n he hn => ?_⟩, h4⟩
   obtain ⟨a1, a2, a3⟩ := h3.2 j e n he hn;exact ⟨a1, a2.mono I8, a3.mono I8⟩
end Go.Su

/-
 THE DATA MACHINE, part 5: operands; registers written; how one operation of the model is met.
-/
namespace Go.Su
def J6 (t : Tag) : Prop := t ≠ .other ∧ t ≠ .shut
theorem J8.tag {E : Env} {h : Heap} {tg tg' : Tag} {d : DV} {m : Meta} {v : Value} (hm : m ≠ .own) (R : J8 E h tg d m v) : J8 E h tg' d m v := by
 cases m <;> simp only [J8] at R ⊢ <;> first | exact R | exact absurd rfl hm
theorem J8.We {E : Env} {h : Heap} {tg tg' : Tag} {d : DV} {m : Meta} {v : Value} (R : J8 E h tg d m v) : J8 E h tg' d (We m) v := by
 cases m <;> simp only [J8, Su.We] at R ⊢ <;> first | exact R | exact R.1
theorem RR.BP {E : Env} {h : Heap} {k a : Nat} {d : DV} {m : Meta} {v : Value} (R : J8 E h (.sp k a 0) d m v) : RR E h k a d m v := by
 cases m <;> first | exact R | (simp only [J8] at R)
theorem RR.wL {E : Env} {h : Heap} {k a : Nat} {d : DV} {m : Meta} {v : Value} (h1 : ∀ ms, m ≠ .BR ms) (h2 : ∀ ms, m ≠ .AO ms) (R : RR E h k a d m v) : J8 E h (.sp k a 0) d m v := by
 cases m <;> first | exact R | exact absurd rfl (h1 _) | exact absurd rfl (h2 _)
theorem RR.dm {E : Env} {h : Heap} {k a k' a' : Nat} {d : DV} {m : Meta} {v : Value} (R : RR E h k a d m v) : RR E h k' a' d (dm m) v := by
 cases m
 case AO ms =>
  simp only [RR, Su.dm] at R ⊢;obtain ⟨ds, vs, h1, h2, h3, h4, h5⟩ := R;refine ⟨ds, vs, h1, h2, by simpa using h3, by simpa using h4, fun i m' d' u e1 e2 e3 => ?_⟩
  simp only [List.getElem?_map, Option.map_eq_some_iff] at e1;obtain ⟨m0, e1, rfl⟩ := e1;obtain ⟨a1, a2, a0, a4⟩ := h5 i m0 d' u e1 e2 e3;exact ⟨a1, a2, by cases m0 <;> simp_all [U8, Su.We], a4.We⟩
 case BR ms =>
  simp only [RR, Su.dm] at R ⊢;obtain ⟨ds, vs, h1, h2, h3, h4, h5⟩ := R;refine ⟨ds, vs, h1, h2, by simpa using h3, by simpa using h4, fun i m' d' u e1 e2 e3 => ?_⟩
  simp only [List.getElem?_map, Option.map_eq_some_iff] at e1;obtain ⟨m0, e1, rfl⟩ := e1;obtain ⟨a0, a4⟩ := h5 i m0 d' u e1 e2 e3;exact ⟨by cases m0 <;> simp_all [U8, Su.We], a4.We⟩
 all_goals exact RR.BP (J8.We (RR.wL (by simp) (by simp) R))
theorem RR.data {E : Env} {h : Heap} {k a : Nat} {d : DV} {m : Meta} {v : Value} (hm : J2 m = true) (R : RR E h k a d m v) : RV E.S h d v := by
 cases m <;> simp only [J2] at hm <;> try contradiction
 ·exact R
 ·exact R.1
 ·exact R.1
 ·obtain ⟨rfl, rfl⟩ := (R : _ ∧ _)
  simp only [RV]
 ·rename_i ms
  simp only [RR] at R;obtain ⟨ds, vs, rfl, rfl, h3, h4, h5⟩ := R;simp only [RV];refine ⟨vs, rfl, D_.2 ⟨by simp [h3, h4], fun i d v hd hv => ?_⟩⟩
  have hi : i < ms.length := by have := (List.getElem?_eq_some_iff.1 hd).1; omega
  have hmi : ms[i]? = some ms[i] := List.getElem?_eq_getElem hi;obtain ⟨a1, a2, a0, a4⟩ := h5 i _ d v hmi hd (by simpa using hv)
  refine ⟨a1, Qx a1 a2 ?_⟩;have := List.all_eq_true.1 hm ms[i] (List.getElem_mem hi);cases hx : ms[i] <;> simp only [hx] at this a4 <;> first | contradiction | exact a4 | exact a4.1 | (obtain ⟨rfl, rfl⟩ := (a4 : _ ∧ _); simp only [RV])
theorem RR.val {E : Env} {h : Heap} {k a : Nat} {d : DV} {v : Value} (R : RV E.S h d v) : RR E h k a d .val v := R
theorem A1j {P : Program} {t : TypeId} {v : Value} {r : DV × Meta} {E : Env} {h : Heap} (H : cst P t v = some r) (k a : Nat) : RR E h k a r.1 r.2 v := by
 unfold cst at H
 split at H <;> simp only [Option.some.injEq, reduceCtorEq] at H <;> subst H <;> simp only [RR, J8, RV, and_self]
 refine ⟨?_, ⟨_, _, rfl⟩, _, _, rfl⟩;simp only [RC];exact ⟨none, 0, 0, rfl, rfl, Nat.le_refl _, fun _ => rfl, by simp, fun x hx => by simp at hx⟩
theorem A3h {P : Program} {t : TypeId} {v : Value} {r : DV × Meta} (H : cst P t v = some r) (ms : List Meta) : r.2 ≠ .AO ms := by
 unfold cst at H
 split at H <;> simp only [Option.some.injEq, reduceCtorEq] at H <;> subst H <;> simp
theorem WZ {P : Program} {t : TypeId} {v : Value} {r : DV × Meta} (H : cst P t v = some r) : r.2 ≠ .own ∧ (∀ ms, r.2 ≠ .BR ms) := by
 unfold cst at H
 split at H <;> simp only [Option.some.injEq, reduceCtorEq] at H <;> subst H <;> simp
def jw : Operand → Nat
 | .tmp t => t
 | _ => 0
theorem dV {st : St} {t : Nat} (ht : st.tm.length ≤ t) (hm : st.mt.length = st.tm.length) : st.get t = (.undef, .val) := by
 simp [St.get, List.getD_eq_getElem?_getD, List.getElem?_eq_none ht, List.getElem?_eq_none (hm ▸ ht)]
theorem I9.src {P : Program} {t : TypeId} {st : St} {E : Env} {a : Act} {h : Heap} (R : I9 E st a h) {x : Operand} {r : DV × Meta} (H : src P t st x = some r) :
 RR E h 0 (jw x) r.1 r.2 (a.eval x) := by
 cases x with
 | tmp i =>
   simp only [Su.src, Option.some.injEq] at H;subst H;simp only [jw, Act.eval]
   by_cases hi : i < a.tmps.size
   ·have : a.tmps[i]? = some a.tmps[i] := Array.getElem?_eq_getElem hi
    simpa [Array.getD_eq_getD_getElem?, this] using R.regs i _ this
   ·have Ur : st.tm.length ≤ i := by rw [← R.size]; exact Nat.le_of_not_lt hi
    rw [dV Ur R.AZ];simp only [RR, J8, RV]
 | const v => exact A1j H _ _
 | func f =>
   simp only [Su.src, Option.some.injEq] at H;subst H;simp only [RR, J8, Act.eval];exact ⟨rfl, by simp⟩
 | global g => simp [Su.src] at H
theorem I9.A7y {P : Program} {t : TypeId} {st : St} {E : Env} {a : Act} {h : Heap} {x : Operand} {r : DV × Meta} (H : Su.src P t st x = some r)
 (hx : ∀ i, x ≠ .tmp i) (k b : Nat) : RR E h k b r.1 r.2 (a.eval x) := by
 cases x with
 | tmp i => exact absurd rfl (hx i)
 | const v => exact A1j H _ _
 | func f =>
   simp only [Su.src, Option.some.injEq] at H;subst H;simp only [RR, J8, Act.eval];exact ⟨rfl, by simp⟩
 | global g => simp [Su.src] at H
theorem jy (st : St) (dst : Option Nat) (d : DV) (m : Meta) : (st.put dst d m).tm.length = st.tm.length := by cases dst <;> simp [St.put]
theorem A9X (st : St) (dst : Option Nat) (d : DV) (m : Meta) : (st.put dst d m).mt.length = st.mt.length := by cases dst <;> simp [St.put]
@[simp] theorem A14 (st : St) (dst : Option Nat) (d : DV) (m : Meta) : (st.put dst d m).bx = st.bx := by cases dst <;> rfl
@[simp] theorem vU (st : St) (dst : Option Nat) (d : DV) (m : Meta) : (st.put dst d m).sg = st.sg := by cases dst <;> rfl
theorem UU {st : St} {t : Nat} {d : DV} {m : Meta} (ht : t < st.tm.length) (hm : st.mt.length = st.tm.length) : (st.put (some t) d m).get t = (d, m) := by
 simp [St.put, St.get, List.getD_eq_getElem?_getD, List.getElem?_set_self ht, List.getElem?_set_self (hm ▸ ht)]
theorem qF {st : St} {t u : Nat} {d : DV} {m : Meta} (h : t ≠ u) : (st.put (some t) d m).get u = st.get u := by
 simp [St.put, St.get, List.getD_eq_getElem?_getD, List.getElem?_set_ne h]
theorem ZV (a : Act) (dst : Option Nat) (v : Value) : (a.put dst v).tmps.size = a.tmps.size := by cases dst <;> simp [Act.put]
theorem iA (a : Act) (dst : Option Nat) (v : Value) : (a.put dst v).defers = a.defers := by cases dst <;> rfl
theorem I9.put {E : Env} {st : St} {a : Act} {h : Heap} (R : I9 E st a h) {dst : Option Nat} {d : DV} {m : Meta} {v : Value}
 (hv : ∀ t, dst = some t → RR E h 0 t d m v) : I9 E (st.put dst d m) (a.put dst v) h := by
 refine ⟨by rw [ZV, jy]; exact R.size, by rw [A9X, jy]; exact R.AZ, by rw [A14, jy]; exact R.Ca, by rw [vU]; exact R.n, fun u w hu => ?_,
  fun s cs hs => R.boxes s cs (by rwa [A14] at hs), fun i ob hi => R.P8 i ob (by rwa [vU] at hi), R.fresh⟩
 cases dst with
 | none => exact R.regs u w hu
 | some t =>
   by_cases htu : t = u
   ·subst htu
    have ht : t < a.tmps.size := by
     have := (Array.getElem?_eq_some_iff.1 hu).1;simpa [Act.put] using this
    rw [UU (by rw [← R.size]; exact ht) R.AZ]
    simp only [Act.put, Array.getElem?_setIfInBounds_self_of_lt ht, Option.some.injEq] at hu;subst hu;exact hv t rfl
   ·rw [qF htu]
    simp only [Act.put, Array.getElem?_setIfInBounds_ne htu] at hu;exact R.regs u w hu
def Gp (P : Program) (o : Oper) (a : Act) (w : World) (K : Act → World → Prop) : Prop :=
 (∃ v w', (execOp a.eval o).run P w = .ok (.value v) w' ∧ K (a.put o.dst v) w') ∨ (∃ w', (execOp a.eval o).run P w = .ok .skip w' ∧ K (a.put o.dst undef) w') ∨
   ∃ f args, (execOp a.eval o).run P w = .ok (.enter f args) w ∧ Calls P f args w fun e w' => ∃ v, e = .returned v ∧ K (a.put o.dst v) w'
theorem Gp.mono {P : Program} {o : Oper} {a : Act} {w : World} {K K' : Act → World → Prop} (H : Gp P o a w K) (h : ∀ a' w', a'.defers = a.defers → K a' w' → K' a' w') : Gp P o a w K' := by
 have hd : ∀ v, (a.put o.dst v).defers = a.defers := fun v => iA a o.dst v
 rcases H with ⟨v, w', h1, h2⟩ | ⟨w', h1, h2⟩ | ⟨f, args, h1, h2⟩
 ·exact .inl ⟨v, w', h1, h _ _ (hd v) h2⟩
 ·exact .inr (.inl ⟨w', h1, h _ _ (hd _) h2⟩)
 ·exact .inr (.inr ⟨f, args, h1, h2.mono fun e w' ⟨v, he, hk⟩ => ⟨v, he, h _ _ (hd v) hk⟩⟩)
theorem Bc {P : Program} {o : Oper} {a : Act} {w w' : World} {K : Act → World → Prop} {v : Value}
 (h : (execOp a.eval o).run P w = .ok (.value v) w') (hk : K (a.put o.dst v) w') : Gp P o a w K := .inl ⟨v, w', h, hk⟩
theorem RY {P : Program} {o : Oper} {a : Act} {w w' : World} {K : Act → World → Prop}
 (h : (execOp a.eval o).run P w = .ok .skip w') (hk : K (a.put o.dst undef) w') : Gp P o a w K := .inr (.inl ⟨w', h, hk⟩)
theorem Ck {P : Program} {x : Sem Value} {w w' : World} {v : Value} (h : x.run P w = .ok v w') :
 (do pure (Next.value (← x)) : Sem Next).run P w = .ok (.value v) w' := by
 simp [h]
theorem B13 {P : Program} {x : Sem Unit} {w w' : World} (h : x.run P w = .ok () w') :
 (do x; pure Next.skip : Sem Next).run P w = .ok .skip w' := by
 simp [h]
theorem A9 {α β : Type} {x : Option α} {f : α → Option β} {b : β} (h : ob x f = some b) : ∃ a, x = some a ∧ f a = some b := by
 cases x with
 | none => simp [ob] at h
 | some a => exact ⟨a, rfl, h⟩
theorem F6 {β : Type} {t : Bool} {x : Option β} {b : β} (h : og t x = some b) : t = true ∧ x = some b := by
 cases t with
 | false => simp [og] at h
 | true => exact ⟨rfl, h⟩
theorem Nn {β : Type} {d : DV} {t e : Option β} {b : β} (h : D6 d t e = some b) : (d = .bool true ∧ t = some b) ∨ (d = .bool false ∧ e = some b) := by
 unfold D6 at h
 split at h
 ·exact .inl ⟨rfl, h⟩
 ·exact .inr ⟨rfl, h⟩
 ·simp at h
theorem L9 {β : Type} {c : Prop} [Decidable c] {x : Option β} {b : β} (h : (if c then x else none) = some b) : c ∧ x = some b := by
 split at h
 ·exact ⟨‹_›, h⟩
 ·simp at h
theorem Hy {P : Program} {t : TypeId} {z : Nat × Bool} (H : tz P t = some z) : ∃ i d, P.info? t = some i ∧ P.underlying t = some d ∧ z = (i.size, A5k d) ∧ (z.2 = false → z.1 = 1) := by
 unfold tz at H;obtain ⟨i, hi, H⟩ := A9 H;obtain ⟨d, hd, H⟩ := A9 H;obtain ⟨hc, H⟩ := L9 H;simp only [Option.some.injEq] at H;subst H;refine ⟨i, d, hi, hd, rfl, fun h => ?_⟩
 simp only at h;simpa [h] using hc
theorem A6q {P : Program} {t : TypeId} {z : Nat × Bool} (H : tz P t = some z) (w : World) : (isAgg t).run P w = .ok z.2 w := by
 obtain ⟨i, d, hi, hd, rfl, -⟩ := Hy H;unfold isAgg;simp only [Sem.run_bind, run_underlying hd, Result.andThen_ok];cases d <;> rfl
theorem OA {P : Program} {t : TypeId} {z : Nat × Bool} (H : tz P t = some z) (w : World) : (sizeOf t).run P w = .ok z.1 w := by
 obtain ⟨i, d, hi, hd, rfl, -⟩ := Hy H;simp [sizeOf, typeInfo, hi]
end Go.Su

/-
 THE DATA MACHINE, part 6: operations that make a value and leave memory as it is.
-/
namespace Go.Su
theorem B2j (m : Meta) : We (We m) = We m := by cases m <;> rfl
theorem B44 (m : Meta) : dm (dm m) = dm m := by
 cases m <;> simp only [dm]
 all_goals simp [B2j]
theorem RR.A4P {E : Env} {h : Heap} {k a k' a' : Nat} {d : DV} {m : Meta} {v : Value} (R : RR E h k a d (Su.dm m) v) : RR E h k' a' d (Su.dm m) v := by
 have := R.dm (k' := k') (a' := a')
 rwa [B44] at this
def Env.re (E : Env) (f : Tag → Tag) : Env := { E with O := fun b o => f (E.O b o) }
theorem Pr.re {E : Env} {h : Heap} {f : Tag → Tag} {ch : Tag → Prop} (hf : ∀ T, ¬ ch T → f T = T) : Pr ch E h (E.re f) h :=
 ⟨Nat.le_refl _, fun _ _ => V4.refl _ _, fun _ _ _ hn => hf _ hn, Nat.le_refl _, fun _ _ => ⟨rfl, rfl, rfl⟩, fun _ _ => rfl⟩
theorem JU {E : Env} {h : Heap} {f : Tag → Tag} (hf : f .shut = .shut) : V9 E.S h (E.re f).S h :=
 ⟨fun b o hs => by simp only [Env.S, Env.re] at hs ⊢; rw [hs, hf], fun _ _ _ _ hv => hv⟩
theorem J8.re {E : Env} {h : Heap} {f : Tag → Tag} {tg tg' : Tag} {d : DV} {m : Meta} {v : Value} (hs : f .shut = .shut) (ht : f tg = tg') (R : J8 E h tg d m v) :
 J8 (E.re f) h tg' d m v := by
 cases m <;> simp only [J8] at R ⊢
 case val => exact R.mono (JU hs)
 case full => exact ⟨R.1.mono (JU hs), R.2⟩
 case own =>
  obtain ⟨r1, sz, ds, r2, r3⟩ := R;refine ⟨r1.mono (JU hs), sz, ds, r2, fun x len cap hv I4 => ?_⟩
  obtain ⟨c, T, g, e1, e2, e3⟩ := r3 x len cap hv I4;refine ⟨c, T, g, e1, e2, fun o ho ho' => ?_⟩
  obtain ⟨e4, e5⟩ := e3 o ho ho';exact ⟨by simp only [Env.re]; rw [e4, ht], e5⟩
 case Nr ag sz o =>
  obtain ⟨b, o0, r1, r2, r3⟩ := R;exact ⟨b, o0, r1, r2.mono (JU hs), r3⟩
 all_goals exact R
theorem RR.re {E : Env} {h : Heap} {f : Tag → Tag} {k a k' a' : Nat} {d : DV} {m : Meta} {v : Value} (hs : f .shut = .shut) (ho : f .other = .other) (ht : ∀ b, f (.sp k a b) = .sp k' a' b) (R : RR E h k a d m v) :
 RR (E.re f) h k' a' d m v := by
 cases m
 case BR ms =>
  simp only [RR] at R ⊢;obtain ⟨ds, vs, h1, h2, h3, h4, h5⟩ := R;exact ⟨ds, vs, h1, h2, h3, h4, fun i m' d' u e1 e2 e3 => let ⟨a0, a4⟩ := h5 i m' d' u e1 e2 e3; ⟨a0, a4.re hs (ht _)⟩⟩
 case AO ms =>
  simp only [RR] at R ⊢;obtain ⟨ds, vs, h1, h2, h3, h4, h5⟩ := R;exact ⟨ds, vs, h1, h2, h3, h4, fun i m' d' u e1 e2 e3 => let ⟨a1, a2, a0, a4⟩ := h5 i m' d' u e1 e2 e3; ⟨a1, a2, a0, a4.re hs (ht _)⟩⟩
 all_goals exact RR.BP ((RR.wL (by simp) (by simp) R).re hs (ht 0))
theorem I9.release {E : Env} {st : St} {a : Act} {h : Heap} (R : I9 E st a h) {x : Operand} {f : Tag → Tag}
 (hf : ∀ T, (∀ s b, x = .tmp s → T ≠ .sp 0 s b) → f T = T) : I9 (E.re f) (st.release x) a h := by
 have En : f .shut = .shut := hf _ (by simp)
 have Ng : f .other = .other := hf _ (by simp)
 have P : Pr (fun T => ∃ s b, x = .tmp s ∧ T = .sp 0 s b) E h (E.re f) h := Pr.re fun T hT => hf T fun s b hx hb => hT ⟨s, b, hx, hb⟩
 have I8 : V9 E.S h (E.re f).S h := JU En;have lm : (st.release x).mt.length = st.mt.length := by cases x <;> simp [St.release]
 have lt : (st.release x).tm = st.tm := by cases x <;> simp [St.release]
 have lb : (st.release x).bx = st.bx := by cases x <;> simp [St.release]
 have lg : (st.release x).sg = st.sg := by cases x <;> simp [St.release]
 refine ⟨by rw [lt]; exact R.size, by rw [lm, lt]; exact R.AZ, by rw [lb, lt]; exact R.Ca, by rw [lg]; exact R.n, fun u v hu => ?_, fun s cs hs => ?_, fun i ob hi => ?_, fun b o hb => ?_⟩
 ·have h0 := R.regs u v hu
  by_cases hx : x = .tmp u
  ·subst hx
   have hg : (st.release (.tmp u)).get u = ((st.get u).1, dm (st.get u).2) := by
    have PN : u < st.tm.length := by rw [← R.size]; exact (Array.getElem?_eq_some_iff.1 hu).1
    simp [St.release, St.get, List.getD_eq_getElem?_getD, List.getElem?_set_self (R.AZ ▸ PN)]
   rw [hg];have h1 : RR E h 9 0 (st.get u).1 (dm (st.get u).2) v := h0.dm;have h2 : RR (E.re f) h 9 0 (st.get u).1 (dm (st.get u).2) v := h1.re En Ng fun b => hf _ (by simp)
   exact h2.A4P
  ·have hg : (st.release x).get u = st.get u := by
    cases x with
    | tmp s =>
      have : s ≠ u := fun e => hx (by rw [e])
      simp [St.release, St.get, List.getD_eq_getElem?_getD, List.getElem?_set_ne this]
    | _ => rfl
   rw [hg];exact h0.re En Ng fun b => hf _ fun s b' hs he => by simp only [Tag.sp.injEq] at he; exact hx (by rw [hs, he.2.1])
 ·exact (R.boxes s cs (by rwa [lb] at hs)).mono P I8 (by simp) (by simp)
 ·exact (R.P8 i ob (by rwa [lg] at hi)).mono P I8 (by rw [← R.n]; rw [lg] at hi; exact (List.getElem?_eq_some_iff.1 hi).1) (by simp) (by simp)
 ·simp only [Env.re]; rw [R.fresh b o hb, Ng]
def dn (x : Operand) (k t : Nat) (T : Tag) : Tag :=
 match x, T with
 | .tmp s', .sp 0 s b => if s' = s then .sp k t b else .sp 0 s b
 | _, T => T
theorem Nk {x : Operand} {k t : Nat} {T : Tag} (h : ∀ s b, x = .tmp s → T ≠ .sp 0 s b) : dn x k t T = T := by
 unfold dn
 split
 ·split
  ·rename_i hx; subst hx; exact absurd rfl (h _ _ rfl)
  ·rfl
 ·rfl
section
variable {X : Type} {C : V6} {R : N7} {o : Oper} {st : St} {k : St → Option X} {x : X} {E : Env} {a : Act} {w : World} {K : Act → World → Prop} {Q : Exit → Act → World → Prop}
def Then (E : Env) (w : World) (k : St → Option X) (x : X) (K : Act → World → Prop) : Prop :=
 ∀ E' st' a' w', k st' = some x → I9 E' st' a' w'.heap → Pr J6 E w.heap E' w'.heap → (_ : P9 w w' := by exact ⟨rfl, rfl, rfl⟩) → K a' w'
theorem V8 {d : DV} {m : Meta} {v : Value} (hr : (execOp a.eval o).run C.P w = .ok (.value v) w) (hk : k (st.put o.dst d m) = some x) (Rl : I9 E st a w.heap)
 (hv : ∀ t, o.dst = some t → RR E w.heap 0 t d m v) (T : Then E w k x K) : Gp C.P o a w K :=
 Bc hr (T E _ _ w hk (Rl.put hv) (Pr.refl _ _ _))
theorem B1B {P : Program} {t : TypeId} {y : Operand} {r : DV × Meta} (hr : (execOp a.eval o).run C.P w = .ok (.value (a.eval y)) w) (hs : src P t st y = some r)
 (hk : k ((st.release y).put o.dst r.1 r.2) = some x) (Rl : I9 E st a w.heap) (T : Then E w k x K) : Gp C.P o a w K := by
 refine Bc hr ?_;cases hd : o.dst with
 | none =>
   rw [hd] at hk;have P1 : Pr J6 E w.heap (E.re id) w.heap := Pr.re fun _ _ => rfl
   exact T (E.re id) _ _ w hk ((Rl.release (x := y) (f := id) fun _ _ => rfl).put (fun t ht => by simp at ht)) P1
 | some t0 =>
   rw [hd] at hk;have P1 : Pr J6 E w.heap (E.re (dn y 0 t0)) w.heap := Pr.re fun T hT => Nk fun s b _ he => hT (by rw [he]; simp [J6])
   refine T (E.re (dn y 0 t0)) _ _ w hk ((Rl.release fun T hT => Nk hT).put fun t ht => ?_) P1
   simp only [Option.some.injEq] at ht;subst ht
   by_cases hy : ∃ i, y = .tmp i
   ·obtain ⟨i, rfl⟩ := hy
    have := Rl.src hs;refine this.re (Nk (by simp)) (Nk (by simp)) fun b => ?_
    simp [dn, jw]
   ·have := I9.A7y (E := E) (a := a) (h := w.heap) hs (fun i hi => hy ⟨i, hi⟩) 9 0
    have h2 : RR (E.re (dn y 0 t0)) w.heap 9 0 r.1 r.2 (a.eval y) := this.re (Nk (by simp)) (Nk (by simp)) fun b => Nk (by simp)
    have Eg : dm r.2 = r.2 := by
     cases y with
     | tmp i => exact absurd ⟨i, rfl⟩ hy
     | const v =>
       obtain ⟨h1, h3⟩ := WZ hs;have h4 := A3h hs;cases hm : r.2 <;> simp_all [dm]
     | func f => simp only [src, Option.some.injEq] at hs; subst hs; rfl
     | global g => simp [src] at hs
    rw [← Eg] at h2 ⊢;exact h2.A4P
theorem A5T {fl : Flags} {y : Operand} {t : TypeId} (hr : (execOp a.eval o).run C.P w = .ok (.value (a.eval y)) w)
 (H : (ob (src C.P t st y) fun r => if J9 fl.L8 o.dst then k ((st.release y).put o.dst r.1 r.2) else k (st.put o.dst r.1 (dm r.2))) = some x)
 (Rl : I9 E st a w.heap) (T : Then E w k x K) : Gp C.P o a w K := by
 obtain ⟨r, hs, H⟩ := A9 H
 split at H
 ·exact B1B hr hs H Rl @T
 ·exact V8 hr H Rl (fun t _ => (Rl.src hs).dm) @T
end
end Go.Su

/-
 THE DATA MACHINE, part 7: arithmetic, comparison, indexes, lengths, parts of strings and slices.
-/
namespace Go.Su
theorem Bf {S : Q0} {h : Heap} {k : IntKind} {n : Int} {v : Value} : RV S h (.int k n) v ↔ v = .int k n := by simp only [RV]
theorem MI {S : Q0} {h : Heap} {b : Bool} {v : Value} : RV S h (.bool b) v ↔ v = .bool b := by simp only [RV]
theorem WV {S : Q0} {h : Heap} {s : ByteArray} {v : Value} : RV S h (.str s) v ↔ v = .string s := by simp only [RV]
theorem B0C {op : UnOp} {y d : DV} (h : Q5 op y = some d) : (∃ b, op = .not ∧ y = .bool b ∧ d = .bool !b) ∨ (∃ k n, op = .neg ∧ y = .int k n ∧ d = .int k (k.wrap (0 - n))) := by
 unfold Q5 at h
 split at h <;> simp only [Option.some.injEq, reduceCtorEq] at h <;> subst h
 ·exact .inl ⟨_, rfl, rfl, rfl⟩
 ·exact .inr ⟨_, _, rfl, rfl, rfl⟩
theorem A7V {c y z d : DV} (h : A4p c y z = some d) : (c = .bool true ∧ d = y) ∨ (c = .bool false ∧ d = z) := by
 unfold A4p at h
 split at h <;> simp only [Option.some.injEq, reduceCtorEq] at h <;> subst h
 ·exact .inl ⟨rfl, rfl⟩
 ·exact .inr ⟨rfl, rfl⟩
theorem A7R {kd : IntKind} {y d : DV} (h : A4o kd y = some d) : ∃ k n, y = .int k n ∧ d = .int kd (kd.wrap n) := by
 unfold A4o at h
 split at h <;> simp only [Option.some.injEq, reduceCtorEq] at h <;> subst h
 exact ⟨_, _, rfl, rfl⟩
theorem A3i {i : Nat} {y d : DV} (h : N8 i y = some d) : ∃ cs, y = .H7 cs ∧ cs[i]? = some d := by
 unfold N8 at h
 split at h
 ·exact ⟨_, rfl, h⟩
 ·simp at h
theorem A9c {sz : Nat} {y i d : DV} (h : F3 sz y i = some d) : ∃ ds kd n, y = .list sz ds ∧ i = .int kd n ∧ 0 ≤ n ∧ ds[n.toNat]? = some d := by
 unfold F3 at h
 split at h
 ·obtain ⟨⟨Y4, h0⟩, hd⟩ := L9 h
  subst Y4;exact ⟨_, _, _, rfl, rfl, h0, hd⟩
 ·simp at h
theorem A6v {off len n : Nat} {i : DV} (h : A4E off len i = some n) : ∃ (kd : IntKind) (q : Int), i = .int kd q ∧ 0 ≤ q ∧ q < len ∧ n = off + q.toNat := by
 unfold A4E at h
 split at h
 ·obtain ⟨⟨h0, I4⟩, hn⟩ := L9 h
  simp only [Option.some.injEq] at hn;exact ⟨_, _, rfl, h0, I4, hn.symm⟩
 ·simp at h
theorem A1g : ∀ x y : List UInt8, Op.bytesLess x y = Oe x y
 | _, [] => by simp [Op.bytesLess, Oe]
 | [], _ :: _ => by simp [Op.bytesLess, Oe]
 | a :: x, b :: y => by simp [Op.bytesLess, Oe, A1g x y]
section
variable {X : Type} {C : V6} {R : N7} {o : Oper} {st : St} {k : St → Option X} {x : X} {E : Env} {a : Act} {w : World} {K : Act → World → Prop} {Q : Exit → Act → World → Prop}
theorem Z7 {d : DV} {v : Value} (hr : (execOp a.eval o).run C.P w = .ok (.value v) w) (hk : k (st.put o.dst d .val) = some x) (Rl : I9 E st a w.heap)
 (hv : RV E.S w.heap d v) (T : Then E w k x K) : Gp C.P o a w K :=
 V8 hr hk Rl (fun _ _ => hv) @T
theorem B1p {P : Program} {S : Q0} {h : Heap} {op : BinOp} {t : TypeId} {x y : Operand} {dx dy d : DV} {vx vy : Value} (H : A8 op dx dy = some d) (hx : RV S h dx vx) (hy : RV S h dy vy) (w : World) :
 ∃ v, (do eqGuard op t x y vx vy; binOp op t vx vy : Sem Value).run P w = .ok v w ∧ RV S h d v := by
 unfold A8 at H
 split at H
 ·rw [Bf] at hx hy
  subst hx hy
  split at H
  ·rename_i UL
   unfold A9i at H
   split at H
   ·cases H
   ·rename_i hb
    cases op <;> simp only [KP, Bool.false_eq_true] at UL <;> simp only [Option.some.injEq] at H <;> subst H <;>
     (refine ⟨_, ?_, by simp only [RV]; rfl⟩; simp [eqGuard_at_int, binOp, Op.shift, hb])
  obtain ⟨hk, H1⟩ := L9 H;clear H;subst hk
  by_cases hq : op = .quo ∨ op = .rem
  ·rcases hq with rfl | rfl <;> simp only [Ll] at H1 <;> split at H1 <;> simp only [reduceCtorEq, Option.some.injEq] at H1 <;> subst H1 <;>
    (rename_i hb; refine ⟨_, ?_, by simp only [RV]; rfl⟩; simp [eqGuard_at_int, binOp, Op.intDiv, hb])
  simp only [not_or] at hq;cases op <;> (try exact absurd rfl hq.1) <;> (try exact absurd rfl hq.2) <;> simp only [Ll, reduceCtorEq, Option.some.injEq] at H1 <;> subst H1 <;>
   (refine ⟨_, ?_, by simp only [RV]; rfl⟩; simp [eqGuard_at_int, binOp, Op.intArith, Op.intCmp, Op.intBits])
 ·rw [WV] at hx hy
  subst hx hy;cases op <;> simp only [iK, reduceCtorEq, Option.some.injEq] at H
  case add =>
   obtain ⟨hc, H1⟩ := L9 H;clear H;simp only [Option.some.injEq] at H1;subst H1;refine ⟨_, ?_, by simp only [RV]; rfl⟩
   rename_i sa sb;have : ¬ (((sa.size + sb.size : Nat) : Int) > IntKind.i64.max) := by
    rw [IntKind.max_i64];have := hc;unfold lim at this;omega
   simp only [eqGuard_at_string, binOp, Op.stringOp, Sem.run_bind, Sem.run_pure, Result.andThen_ok];rw [if_neg this];rfl
  all_goals
   subst H;refine ⟨_, ?_, by simp only [RV]; rfl⟩
   simp [eqGuard_at_string, binOp, Op.stringOp, A1g]
 ·simp at H
theorem B1z {c y z : Operand} (D8 : o.op = .pick c y z) 
 (H : (ob (src C.P 0 st c) fun rc => ob (src C.P o.type st y) fun ra => ob (src C.P o.type st z) fun rb =>
   og (J2 rc.2 && J2 ra.2 && J2 rb.2) (ob (A4p rc.1 ra.1 rb.1) fun d => k (st.put o.dst d .val))) = some x)
 (Rl : I9 E st a w.heap) (T : Then E w k x K) : Gp C.P o a w K := by
 obtain ⟨rc, h1, H⟩ := A9 H;obtain ⟨ra, h2, H⟩ := A9 H;obtain ⟨rb, h3, H⟩ := A9 H;obtain ⟨hc, H⟩ := F6 H;obtain ⟨d, hd, H⟩ := A9 H;simp only [Bool.and_eq_true] at hc;have e1 := (Rl.src h1).data hc.1.1;have e2 := (Rl.src h2).data hc.1.2;have e3 := (Rl.src h3).data hc.2;rcases A7V hd with ⟨hb, hd⟩ | ⟨hb, hd⟩
 ·rw [hb, MI] at e1
  subst hd;refine Z7 (v := a.eval y) ?_ H Rl e2 @T;simp [execOp, D8, e1, asBool]
 ·rw [hb, MI] at e1
  subst hd;refine Z7 (v := a.eval z) ?_ H Rl e3 @T;simp [execOp, D8, e1, asBool]
theorem B4L {op : UnOp} {t : TypeId} {y : Operand} (D8 : o.op = .unOp op t y)
 (H : (ob (src C.P t st y) fun r => og (J2 r.2) (ob (Q5 op r.1) fun d => k (st.put o.dst d .val))) = some x)
 (Rl : I9 E st a w.heap) (T : Then E w k x K) : Gp C.P o a w K := by
 obtain ⟨r, h1, H⟩ := A9 H;obtain ⟨hc, H⟩ := F6 H;obtain ⟨d, hd, H⟩ := A9 H;have e1 := (Rl.src h1).data hc;rcases B0C hd with ⟨b, rfl, hb, rfl⟩ | ⟨kd, n, rfl, hb, rfl⟩
 ·rw [hb, MI] at e1
  refine Z7 (v := .bool _) ?_ H Rl (by rw [MI]) @T
  simp [execOp, D8, e1, Op.unary]
 ·rw [hb, Bf] at e1
  refine Z7 (v := .int _ _) ?_ H Rl (by rw [Bf]) @T
  simp [execOp, D8, e1, Op.unary, Op.intArith]
theorem B1w {t u : TypeId} {y : Operand} (D8 : o.op = .convert t u y)
 (H : (ob (src C.P t st y) fun r => match C.P.underlying u with
   | some (.int kd) => og (J2 r.2 && (C.P.underlying t).isSome) (ob (A4o kd r.1) fun d => k (st.put o.dst d .val))
   | _ => none) = some x)
 (Rl : I9 E st a w.heap) (T : Then E w k x K) : Gp C.P o a w K := by
 obtain ⟨r, h1, H⟩ := A9 H
 split at H
 ·rename_i kd hu
  obtain ⟨hc, H⟩ := F6 H;obtain ⟨d, hd, H⟩ := A9 H;simp only [Bool.and_eq_true] at hc;have e1 := (Rl.src h1).data hc.1;obtain ⟨dt, ht⟩ := Option.isSome_iff_exists.1 hc.2;obtain ⟨_, _, hb, rfl⟩ := A7R hd;rw [hb, Bf] at e1;refine Z7 (v := .int _ _) ?_ H Rl (by rw [Bf]) @T
  simp only [execOp, D8];refine Ck ?_;simp only [convert, e1, Sem.run_bind, run_underlying ht, run_underlying hu, Result.andThen_ok];cases dt <;> rfl
 ·simp at H
theorem B25 {y : Operand} {i : Nat} {r : DV × Meta} {d : DV} {m : Meta} (D8 : o.op = .extract y i) (h1 : src C.P 0 st y = some r) (hm : r.2 = .val) (hd : N8 i r.1 = some d)
 (hmv : m = .val) (H : k (st.put o.dst d m) = some x) (Rl : I9 E st a w.heap) (T : Then E w k x K) : Gp C.P o a w K := by
 subst hmv;have e1 := (Rl.src h1).data (by rw [hm]; rfl)
 obtain ⟨cs, hb, hd⟩ := A3i hd;rw [hb] at e1;simp only [RV] at e1;obtain ⟨vs, hv, hr⟩ := e1;obtain ⟨l1, l2⟩ := VA.1 hr;have hi := (List.getElem?_eq_some_iff.1 hd).1;have hvi : vs.toList[i]? = some (vs.toList[i]'(by omega)) := List.getElem?_eq_getElem (by omega)
 refine Z7 (v := vs.toList[i]'(by omega)) ?_ H Rl (l2 i d _ hd hvi) @T
 simp only [execOp, D8];refine Ck ?_;have B6s : vs[i]? = some (vs.toList[i]'(by omega)) := by simp
 simp only [Instr.extract, hv, B6s, Sem.run_pure]
theorem A30 {t : TypeId} {y : Operand} {f : Nat} (D8 : o.op = .fieldAddr t y f) (H : QD C o t y f st k = some x) (Rl : I9 E st a w.heap) (T : Then E w k x K) : Gp C.P o a w K := by
 unfold QD at H;obtain ⟨r, h1, H⟩ := A9 H;obtain ⟨fd, h2, H⟩ := A9 H;obtain ⟨z, h3, H⟩ := A9 H;have hz : z.1 ≠ 0 := by intro h; rw [if_pos h] at H; simp at H
 rw [if_neg hz] at H;have hu : ∃ fs, C.P.underlying t = some (.struct fs) ∧ fs[f]? = some fd := by
  unfold VW at h2
  split at h2
  ·exact ⟨_, ‹_›, h2⟩
  ·simp at h2
 obtain ⟨fs, hu, hf⟩ := hu;have run : ∀ b off, a.eval y = .pointer (some ⟨b, off, none⟩) → (execOp a.eval o).run C.P w = .ok (.value (.pointer (some ⟨b, off + fd.offset, none⟩))) w := by
  intro b off he;simp only [execOp, D8];refine Ck ?_;simp only [Instr.fieldAt, Sem.run_bind, run_underlying hu, Result.andThen_ok, hf, he, Instr.sureAddr, Sem.run_pure, fieldPlace, OA h3, hz, if_false, Addr.add_lit]
 have e1 := Rl.src h1
 revert e1 H
 cases hm : r.2 <;> intro H e1 <;> simp only [reduceCtorEq] at H <;> simp only [RR, J8] at e1
 case loc s off => exact V8 (run _ _ e1.2) H Rl (fun _ _ => ⟨rfl, rfl⟩) @T
 case Nr ag sz off =>
  obtain ⟨b, o0, r1, r2, r3⟩ := e1;exact V8 (run _ _ r1) H Rl (fun _ _ => ⟨b, o0, by rw [Nat.add_assoc], r2, r3⟩) @T
 case ptr i off => exact V8 (run _ _ e1.2) H Rl (fun _ _ => ⟨e1.1, rfl⟩) @T
 case Xr i sz idx off => exact V8 (run _ _ e1.2) H Rl (fun _ _ => ⟨e1.1, by rw [Nat.add_assoc]⟩) @T
theorem eQ {P : Program} {t e : TypeId} {z : Nat × Bool} (hu : P.underlying t = some (.slice e)) (hz : tz P e = some z) {b : Addr} {len cap : Nat} {kd : IntKind} {i : Int} (h0 : 0 ≤ i) (h1 : i < len) (w : World) :
 (Instr.indexAt t (.slice (some b) len cap) (.int kd i)).run P w = .ok (.pointer (some (b.add (i.toNat * z.1)))) w := by
 simp [Instr.indexAt, run_underlying hu, asIntOf, OA hz, h0, h1]
theorem A31 {fl : Flags} {t : TypeId} {y i : Operand} (D8 : o.op = .indexAddr t y i) (H : Ip C fl o t y i st k = some x) (Rl : I9 E st a w.heap) (T : Then E w k x K) : Gp C.P o a w K := by
 unfold Ip at H;obtain ⟨r, h1, H⟩ := A9 H;obtain ⟨j, h2, H⟩ := A9 H;obtain ⟨e, h3, H⟩ := A9 H;obtain ⟨z, h4, H⟩ := A9 H;have hu : C.P.underlying t = some (.slice e) := by
  unfold Ml at h3
  split at h3
  ·simp only [Option.some.injEq] at h3; subst h3; assumption
  ·simp at h3
 have e1 := Rl.src h1;have e2 := Rl.src h2;have dat : J2 r.2 = true → og (J2 r.2 && J2 j.2) (ob (F3 z.1 r.1 j.1) fun d =>
  if z.2 then k (st.put o.dst d (.Nr true z.1 0)) else og (M7 d) (k (st.put o.dst d (.Nr false z.1 0)))) = some x → Gp C.P o a w K := by
  intro gK H;obtain ⟨hc, H⟩ := F6 H;obtain ⟨d, hd, H⟩ := A9 H;simp only [Bool.and_eq_true] at hc;have f1 := e1.data hc.1;have f2 := e2.data hc.2;obtain ⟨ds, kd, n, hr, hj, h0, hd⟩ := A9c hd;rw [hr] at f1;rw [hj, Bf] at f2;simp only [RV, RC] at f1;obtain ⟨b, len, cap, hv, Z0, A2y, B6k, hpos, zf⟩ := f1;simp only [List.cons.injEq, and_true] at hv;have hn : n.toNat < ds.length := (List.getElem?_eq_some_iff.1 hd).1;cases b with
  | none => have := B6k rfl; omega
  | some b =>
    obtain ⟨hs, hE⟩ := zf b rfl;have hs := hs (by omega)
    have hE := C_.1 hE n.toNat d hd;have hb : b = ⟨b.block, b.off, none⟩ := by cases b; simp only at hs; subst hs; rfl
    have Bo : (execOp a.eval o).run C.P w = .ok (.value (.pointer (some ⟨b.block, b.off + n.toNat * z.1 + 0, none⟩))) w := by
     simp only [execOp, D8];refine Ck ?_;rw [hv, f2, eQ hu h4 h0 (by omega)]
     rw [hb];simp only [Addr.add_lit, Nat.add_zero]
    by_cases hz : z.2 = true
    ·rw [if_pos hz] at H
     exact V8 Bo H Rl (fun _ _ => ⟨b.block, b.off + n.toNat * z.1, rfl, hE, by simp⟩) @T
    ·rw [if_neg hz] at H
     obtain ⟨hl, H⟩ := F6 H;exact V8 Bo H Rl (fun _ _ => ⟨b.block, b.off + n.toNat * z.1, rfl, hE, fun _ => hl⟩) @T
 revert e1 H dat
 cases hm : r.2 <;> intro H e1 dat
 case arr i sz off len =>
  obtain ⟨hc, H⟩ := F6 H;obtain ⟨n, hn, H⟩ := A9 H;simp only [Bool.and_eq_true, beq_iff_eq] at hc;have f2 := e2.data hc.2;obtain ⟨kd, q, hj, h0, I4, rfl⟩ := A6v hn;rw [hj, Bf] at f2;simp only [RR, J8] at e1;obtain ⟨hi, b, cap, hv, hb⟩ := e1;have hb := hb.1 (by omega)
  subst hb;refine V8 (v := .pointer (some ⟨E.obj i, E.base i + (off + q.toNat) * sz + 0, none⟩)) ?_ H Rl (fun _ _ => ?_) @T
  ·simp only [execOp, D8]
   refine Ck ?_;rw [hv, f2, eQ hu h4 h0 I4];simp only [Addr.add_lit, Nat.add_zero, hc.1, Nat.add_mul, Nat.add_assoc]
  ·split
   ·exact ⟨hi, rfl⟩
   ·exact ⟨hi, rfl⟩
 all_goals exact dat (by have := (F6 H).1; simp only [Bool.and_eq_true] at this; exact this.1) H
end
end Go.Su

/-
 THE DATA MACHINE, part 8: comparison, lengths, bytes of texts, parts of slices, fields of values.
-/
namespace Go.Su
theorem Rc {S : Q0} {h : Heap} {sz : Nat} {ds : List DV} {v : Value} (H : RV S h (.list sz ds) v) :
 ∃ a len cap, v = .slice a len cap ∧ len = ds.length ∧ len ≤ cap ∧ (a = none → cap = 0) ∧ (ds ≠ [] → 0 < sz) ∧ ∀ x, a = some x → (0 < cap → x.spot = none) ∧ DJ S h sz x.block x.off ds := by
 simp only [RV, RC] at H;obtain ⟨a, len, cap, h1, h2⟩ := H;simp only [List.cons.injEq, and_true] at h1;exact ⟨a, len, cap, h1, h2⟩
theorem Sz {S : Q0} {h : Heap} {sz : Nat} {ds : List DV} {a : Option Addr} {len cap : Nat} (h1 : len = ds.length) (h2 : len ≤ cap) (h3 : a = none → cap = 0) (h4 : ds ≠ [] → 0 < sz)
 (h5 : ∀ x, a = some x → (0 < cap → x.spot = none) ∧ DJ S h sz x.block x.off ds) : RV S h (.list sz ds) (.slice a len cap) := by
 simp only [RV, RC];exact ⟨a, len, cap, rfl, h1, h2, h3, h4, h5⟩
theorem A9f {y d : DV} (h : dLen y = some d) : ∃ sz ds, y = .list sz ds ∧ d = .int .i64 ds.length := by
 unfold dLen at h
 split at h
 ·simp only [Option.some.injEq] at h; exact ⟨_, _, rfl, h.symm⟩
 ·simp at h
theorem A7T {y d : DV} (h : DT y = some d) : ∃ s, y = .str s ∧ d = .int .i64 s.size := by
 unfold DT at h
 split at h
 ·simp only [Option.some.injEq] at h; exact ⟨_, rfl, h.symm⟩
 ·simp at h
theorem A4O {y i d : DV} (h : X6 y i = some d) : ∃ s kd n b, y = .str s ∧ i = .int kd n ∧ 0 ≤ n ∧ s.data[n.toNat]? = some b ∧ d = .int .u8 b.toNat := by
 unfold X6 at h
 split at h
 ·obtain ⟨h0, h⟩ := L9 h
  simp only [Option.map_eq_some_iff] at h;obtain ⟨b, hb, rfl⟩ := h;exact ⟨_, _, _, b, rfl, rfl, h0, hb, rfl⟩
 ·simp at h
theorem ZX {n m : Nat} {x : Option DV} (h : bnd n x = some m) : (x = none ∧ m = n) ∨ ∃ kd q, x = some (.int kd q) ∧ 0 ≤ q ∧ m = q.toNat := by
 unfold bnd at h
 split at h
 ·simp only [Option.some.injEq] at h; exact .inl ⟨rfl, h.symm⟩
 ·obtain ⟨h0, h⟩ := L9 h
  simp only [Option.some.injEq] at h;exact .inr ⟨_, _, rfl, h0, h.symm⟩
 ·simp at h
theorem yR {sz : Nat} {y d : DV} {lo hi : Option DV} (h : Dh sz y lo hi = some d) : ∃ ds hh ll, y = .list sz ds ∧ bnd ds.length hi = some hh ∧ bnd 0 lo = some ll ∧ ll ≤ hh ∧ hh ≤ ds.length ∧ d = .list sz ((ds.take hh).drop ll) := by
 unfold Dh at h
 split at h
 ·obtain ⟨hh, b1, h⟩ := A9 h
  obtain ⟨ll, b2, h⟩ := A9 h;obtain ⟨⟨c1, c2, c3⟩, h⟩ := L9 h;simp only [Option.some.injEq] at h;subst c1;exact ⟨_, hh, ll, rfl, b1, b2, c2, c3, h.symm⟩
 ·simp at h
theorem A4M {sz : Nat} {y d hi mx : DV} {lo : Option DV} (h : Yt sz y lo hi mx = some d) : ∃ kd kd' q, hi = .int kd q ∧ mx = .int kd' q ∧ Dh sz y lo (some hi) = some d := by
 unfold Yt at h
 split at h
 ·obtain ⟨hqm, h1⟩ := L9 h
  subst hqm;exact ⟨_, _, _, rfl, rfl, h1⟩
 ·simp at h
theorem A6u {S : Q0} {h : Heap} {sz b o l n : Nat} {ds : List DV} (H : DJ S h sz b o ds) : DJ S h sz b (o + l * sz) ((ds.take n).drop l) := by
 rw [C_] at H ⊢;intro i d hd;rw [List.getElem?_drop] at hd;have Kk : ds[l + i]? = some d := by
  rw [List.getElem?_take] at hd
  split at hd
  ·exact hd
  ·simp at hd
 have := H (l + i) d Kk
 rwa [Nat.add_mul, ← Nat.add_assoc] at this
section
variable {X : Type} {C : V6} {R : N7} {o : Oper} {st : St} {k : St → Option X} {x : X} {E : Env} {a : Act} {w : World} {K : Act → World → Prop} {Q : Exit → Act → World → Prop}
theorem A2J {P : Program} {isS : Bool} {len cap h l : Nat} {lo hi : Option DV} {vlo vhi : Option Value} {S : Q0} {hp : Heap} (hh : bnd len hi = some h) (hl : bnd 0 lo = some l) (h1 : l ≤ h) (h2 : h ≤ len) (h3 : len ≤ cap)
 (elo : ∀ d, lo = some d → ∃ v, vlo = some v ∧ RV S hp d v) (nlo : lo = none → vlo = none) (ehi : ∀ d, hi = some d → ∃ v, vhi = some v ∧ RV S hp d v) (nhi : hi = none → vhi = none) (w : World) :
 (Instr.sliceBounds isS len cap vlo vhi none).run P w = .ok (l, h, cap) w := by
 have A : ∀ (kd : IntKind) (q : Int) (y : Nat) (code : BoundsCode), 0 ≤ q → q.toNat ≤ y → (Instr.sliceBound (.int kd q) y code).run P w = .ok q.toNat w := by
  intro kd q y code h0 h4;unfold Instr.sliceBound;simp only [asIntOf, pure_bind, Sem.run_ite];rw [if_pos ⟨h0, by omega⟩]
  rfl
 unfold Instr.sliceBounds;rcases ZX hh with ⟨rfl, rfl⟩ | ⟨kd, q, rfl, h0, rfl⟩
 ·rw [nhi rfl]
  rcases ZX hl with ⟨rfl, rfl⟩ | ⟨kd', q', rfl, Ib, rfl⟩
  ·rw [nlo rfl]; simp
  ·obtain ⟨v, rfl, hv⟩ := elo _ rfl
   rw [Bf] at hv;subst hv;simp only [Sem.run_bind, Sem.run_pure, Result.andThen_ok, A _ _ _ _ Ib h1]
 ·obtain ⟨v, rfl, hv⟩ := ehi _ rfl
  rw [Bf] at hv;subst hv;rcases ZX hl with ⟨rfl, rfl⟩ | ⟨kd', q', rfl, Ib, rfl⟩
  ·rw [nlo rfl]
   simp only [Sem.run_bind, Sem.run_pure, Result.andThen_ok, A _ _ _ _ h0 (by omega : q.toNat ≤ cap)]
  ·obtain ⟨v, rfl, hv⟩ := elo _ rfl
   rw [Bf] at hv;subst hv;simp only [Sem.run_bind, Sem.run_pure, Result.andThen_ok, A _ _ _ _ h0 (by omega : q.toNat ≤ cap), A _ _ _ _ Ib h1]
theorem A2H {P : Program} {y : Option Operand} {l : Option DV} (h : XD P st y = some l) (Rl : I9 E st a w.heap) :
 (∀ d, l = some d → ∃ v, y.map a.eval = some v ∧ RV E.S w.heap d v) ∧ (l = none → y.map a.eval = none) := by
 unfold XD at h
 split at h
 ·simp only [Option.some.injEq] at h; subst h; simp
 ·obtain ⟨r, h1, h⟩ := A9 h
  obtain ⟨h2, h⟩ := F6 h;simp only [Option.some.injEq] at h;subst h;refine ⟨fun d hd => ?_, by simp⟩
  simp only [Option.some.injEq] at hd;subst hd;exact ⟨_, rfl, (Rl.src h1).data h2⟩
theorem A0E {P : Program} {t e : TypeId} {z : Nat × Bool} (hu : P.underlying t = some (.slice e)) (hz : tz P e = some z) {b : Option Addr} {len cap l h m : Nat} {vlo vhi vmx : Option Value}
 (hb : (Instr.sliceBounds true len cap vlo vhi vmx).run P w = .ok (l, h, m) w) :
 (Instr.sliceAt t (.slice b len cap) vlo vhi vmx).run P w = .ok (.slice (if m = l then b else b.map (·.add (l * z.1))) (h - l) (m - l)) w := by
 unfold Instr.sliceAt;simp only [Sem.run_bind, run_underlying hu, Result.andThen_ok];unfold Instr.slice;simp only [Sem.run_bind, run_underlying hu, Result.andThen_ok, hb, OA hz, Sem.run_pure]
theorem A5W {S : Q0} {hp : Heap} {b : Option Addr} {len cap l h m sz : Nat} {ds : List DV} (H : RV S hp (.list sz ds) (.slice b len cap)) (h1 : l ≤ h) (h2 : h ≤ ds.length) (h3 : h ≤ m) (h4 : m ≤ cap) :
 RV S hp (.list sz ((ds.take h).drop l)) (.slice (if m = l then b else b.map (·.add (l * sz))) (h - l) (m - l)) := by
 obtain ⟨b', len', cap', hv, e1, e2, e3, e4, e5⟩ := Rc H;simp only [Value.slice.injEq] at hv;obtain ⟨rfl, rfl, rfl⟩ := hv;refine Sz ?_ (by omega) ?_ ?_ ?_
 ·simp only [List.length_drop, List.length_take]; omega
 ·intro hn
  split at hn
  ·omega
  ·cases b with
   | none => have := e3 rfl; omega
   | some y => simp at hn
 ·intro hne
  exact e4 fun hd => hne (by simp [hd])
 ·intro y hy
  split at hy
  ·rename_i hml
   have hlh : h = l := by omega
   obtain ⟨s1, s2⟩ := e5 y hy;refine ⟨fun h0 => absurd h0 (by omega), ?_⟩
   have : (ds.take h).drop l = [] := by
    apply List.drop_eq_nil_of_le;simp only [List.length_take];omega
   rw [this];simp only [DJ]
  ·cases b with
   | none => simp at hy
   | some z =>
     simp only [Option.map_some, Option.some.injEq] at hy;subst hy;obtain ⟨s1, s2⟩ := e5 z rfl;have s1 := s1 (by omega)
     have hz : z = ⟨z.block, z.off, none⟩ := by cases z; simp only at s1; subst s1; rfl
     rw [hz];simp only [Addr.add_lit];exact ⟨fun _ => trivial, A6u s2⟩
theorem A1d {m : Meta} {q : Nat × Nat × Nat × Nat} (h : A4n m = some q) : m = .arr q.1 q.2.1 q.2.2.1 q.2.2.2 := by
 unfold A4n at h
 split at h
 ·simp only [Option.some.injEq] at h; subst h; rfl
 ·cases h
theorem A1m {P : Program} {t e : TypeId} (h : Ml P t = some e) : P.underlying t = some (.slice e) := by
 unfold Ml at h
 split at h
 ·simp only [Option.some.injEq] at h; subst h; assumption
 ·cases h
theorem B0r {E : Env} {h : Heap} {tg : Tag} {i sz off len l hh cap : Nat} {b : Option Addr} (e1 : J8 E h tg .undef (.arr i sz off len) (.slice b len cap)) (c2 : l ≤ hh) (c3 : hh ≤ len) :
 J8 E h tg .undef (.arr i sz (off + l) (hh - l)) (.slice (if cap = l then b else b.map (·.add (l * sz))) (hh - l) (cap - l)) := by
 obtain ⟨f0, b', cap', hv, f1, f2, f3, f4, f5⟩ := e1;simp only [Value.slice.injEq, true_and] at hv;obtain ⟨rfl, rfl⟩ := hv;refine ⟨f0, _, _, rfl, fun hp => ?_, by omega, fun hb => ?_, fun y hy => ?_, fun hp => ?_⟩
 ·rw [if_neg (by omega), f1 (by omega), Option.map_some, Addr.add_lit, Nat.add_assoc, ← Nat.add_mul]
 ·split at hb
  ·rw [f3 hb]; omega
  ·cases b with
   | none => rw [f3 rfl]; omega
   | some z => simp at hb
 ·split at hy
  ·exact f4 y hy
  ·cases b with
   | none => simp at hy
   | some z =>
     simp only [Option.map_some, Option.some.injEq] at hy;subst hy;have := f4 z rfl;have hz : z = ⟨z.block, z.off, none⟩ := by cases z; simp only at this; subst this; rfl
     rw [hz, Addr.add_lit]
 ·have := f5 (by omega)
  rwa [show off + l + (cap - l) = off + cap by omega]
theorem B0a {t : TypeId} {y : Operand} {lo hi mx : Option Operand} (D8 : o.op = .slice t y lo hi mx) (H : Rq C o t y lo hi mx st k = some x) (Rl : I9 E st a w.heap) (T : Then E w k x K) : Gp C.P o a w K := by
 unfold Rq at H;obtain ⟨r, h1, H⟩ := A9 H;obtain ⟨l, h2, H⟩ := A9 H;obtain ⟨h, h3, H⟩ := A9 H;obtain ⟨m, h4, H⟩ := A9 H;obtain ⟨l1, l2⟩ := A2H h2 Rl;obtain ⟨k1, k2⟩ := A2H h3 Rl;obtain ⟨m1, m2⟩ := A2H h4 Rl;have R8 : ∀ v, (Instr.sliceAt t (a.eval y) (lo.map a.eval) (hi.map a.eval) (mx.map a.eval)).run C.P w = .ok v w → (execOp a.eval o).run C.P w = .ok (.value v) w := by
  intro v hv;simp only [execOp, D8];exact Ck hv
 split at H
 ·rename_i q hq
  have hm := A1d hq;have e1 := Rl.src h1;rw [hm] at e1;simp only [RR, J8] at e1;obtain ⟨e, he, H⟩ := A9 H;obtain ⟨z, hz, H⟩ := A9 H;obtain ⟨zi, H⟩ := F6 H;obtain ⟨hh, b1, H⟩ := A9 H;obtain ⟨ll, b2, H⟩ := A9 H;obtain ⟨⟨c2, c3⟩, H⟩ := L9 H;rw [Bool.and_eq_true, beq_iff_eq] at zi;have hmn : m = none := by cases m; rfl; exact absurd zi.1 (by simp)
  have hu := A1m he;obtain ⟨f0, b, cap, hv, fr⟩ := e1;rw [hv] at R8;refine V8 (m := .arr q.1 q.2.1 (q.2.2.1 + ll) (hh - ll)) (R8 (.slice (if cap = ll then b else b.map (·.add (ll * q.2.1))) (hh - ll) (cap - ll)) ?_) H Rl (fun _ _ => ?_) @T
  ·rw [m2 hmn, zi.2]
   exact A0E hu hz (A2J b1 b2 c2 c3 fr.2.1 l1 l2 k1 k2 w)
  ·exact B0r (h := w.heap) (tg := .other) ⟨f0, b, cap, rfl, fr⟩ c2 c3
 rename_i hq;obtain ⟨hd, H⟩ := F6 H;have e1 := (Rl.src h1).data hd
 split at H
 ·rename_i e hu
  obtain ⟨z, hz, H⟩ := A9 H
  split at H
  ·obtain ⟨d, Kk, H⟩ := A9 H
   obtain ⟨ds, hh, ll, hr, b1, b2, c2, c3, rfl⟩ := yR Kk;rw [hr] at e1;obtain ⟨b, len, cap, hv, f1, f2, f3⟩ := Rc e1;rw [hv] at e1;refine Z7 (R8 _ ?_) H Rl (A5W (m := cap) e1 c2 c3 (by omega) (Nat.le_refl _)) @T
   rw [hv, m2 rfl];exact A0E hu hz (A2J (f1 ▸ b1) b2 c2 (by omega) f2 l1 l2 k1 k2 w)
  ·obtain ⟨d, Kk, H⟩ := A9 H
   obtain ⟨kd, kd', qh, rfl, rfl, hd3⟩ := A4M Kk;obtain ⟨ds, hh, ll, hr, b1, b2, c2, c3, rfl⟩ := yR hd3;rw [hr] at e1;obtain ⟨b, len, cap, hv, f1, f2, f3⟩ := Rc e1;rw [hv] at e1;have hb := ZX b1;simp only [reduceCtorEq, false_and, Option.some.injEq, DV.int.injEq, false_or] at hb;obtain ⟨kd1, q1, ⟨rfl, rfl⟩, hq0, rfl⟩ := hb;have hR := A5W (m := qh.toNat) e1 c2 c3 (Nat.le_refl _) (by omega)
   refine V8 (m := .full) (R8 _ ?_) H Rl (fun _ _ => ⟨hR, ⟨_, _, rfl⟩, _, _, rfl⟩) @T
   obtain ⟨vh, evh, rvh⟩ := k1 _ rfl;obtain ⟨vm, evm, rvm⟩ := m1 _ rfl;rw [Bf] at rvh rvm;subst rvh rvm;rw [hv, evh, evm];refine A0E hu hz ?_;have A : ∀ (kd : IntKind) (q : Int) (y : Nat) (code : BoundsCode), 0 ≤ q → q.toNat ≤ y → (Instr.sliceBound (.int kd q) y code).run C.P w = .ok q.toNat w := by
    intro kd q y code h0 h4;unfold Instr.sliceBound;simp only [asIntOf, pure_bind, Sem.run_ite];rw [if_pos ⟨h0, by omega⟩]
    rfl
   unfold Instr.sliceBounds;rcases ZX b2 with ⟨rfl, rfl⟩ | ⟨kd', q', rfl, Ib, rfl⟩
   ·rw [l2 rfl]
    simp only [Sem.run_bind, Sem.run_pure, Result.andThen_ok, A _ _ _ _ hq0 (by omega : qh.toNat ≤ cap), A _ _ _ _ hq0 (Nat.le_refl _)]
   ·obtain ⟨v, evl, hv⟩ := l1 _ rfl
    rw [Bf] at hv;subst hv;rw [evl];simp only [Sem.run_bind, Sem.run_pure, Result.andThen_ok, A _ _ _ _ hq0 (by omega : qh.toNat ≤ cap), A _ _ _ _ hq0 (Nat.le_refl _), A _ _ _ _ Ib c2]
  ·simp at H
 ·rename_i hu
  split at H
  ·obtain ⟨d, Kk, H⟩ := A9 H
   unfold iJ at Kk
   split at Kk
   ·rename_i s hr
    obtain ⟨hh, b1, Kk⟩ := A9 Kk;obtain ⟨ll, b2, Kk⟩ := A9 Kk;obtain ⟨⟨c2, c3⟩, Kk⟩ := L9 Kk;simp only [Option.some.injEq] at Kk;subst Kk;rw [hr, WV] at e1;refine Z7 (v := .string _) (R8 _ ?_) H Rl (by rw [WV]) @T
    rw [e1, m2 rfl];unfold Instr.sliceAt;simp only [Sem.run_bind, run_underlying hu, Result.andThen_ok];unfold Instr.slice;simp only [Sem.run_bind, run_underlying hu, Result.andThen_ok, Option.isSome_none, Bool.false_eq_true, if_false, Sem.run_pure, A2J b1 b2 c2 c3 (Nat.le_refl _) l1 l2 k1 k2 w]
   ·simp at Kk
  ·simp at H
 ·simp at H
theorem Jo {b : Builtin} {c : Call} (D8 : o.op = .call c) (hc : c.callee = .builtin b) {v : Value} {w' : World}
 (h : (builtin b c.argTypes o.type (c.args.map fun | .const _ => true | _ => false) (c.args.map a.eval)).run C.P w = .ok (.value v) w') : (execOp a.eval o).run C.P w = .ok (.value v) w' := by
 simp only [execOp, D8, resolve, hc, Sem.run_bind, Sem.run_pure, Result.andThen_ok, invoke];exact h
theorem wW {α : Type} {xs : Array α} {y : α} (h : xs.toList = [y]) : xs = #[y] := by
 cases xs; simp at h; subst h; rfl
theorem Yp {α : Type} {xs : Array α} {y z : α} (h : xs.toList = [y, z]) : xs = #[y, z] := by
 cases xs; simp at h; subst h; rfl
theorem B26 {c : Call} {y : Operand} {t : TypeId} (D8 : o.op = .call c) (hc : c.callee = .builtin .len) (ha : c.args.toList = [y]) (ht : c.argTypes.toList = [t]) (H : WI C o y t st k = some x)
 (Rl : I9 E st a w.heap) (T : Then E w k x K) : Gp C.P o a w K := by
 unfold WI at H;obtain ⟨r, h1, H⟩ := A9 H;have e1 := Rl.src h1;have R8 : ∀ v, (Builtin.len_ #[t] o.type #[a.eval y]).run C.P w = .ok v w → (execOp a.eval o).run C.P w = .ok (.value v) w := by
  intro v hv;refine Jo D8 hc ?_;rw [wW ht, show c.args.map a.eval = #[a.eval y] from by rw [wW ha]; simp]
  exact Ck hv
 have fin : ∀ {n : Nat}, k (st.put o.dst (.int .i64 n) .val) = some x → (Builtin.len_ #[t] o.type #[a.eval y]).run C.P w = .ok (.int .i64 n) w → Gp C.P o a w K :=
  fun H hv => Z7 (R8 _ hv) H Rl (by rw [Bf]) @T
 split at H
 ·rename_i e hu
  have dat : og (J2 r.2) (ob (dLen r.1) fun d => k (st.put o.dst d .val)) = some x → Gp C.P o a w K := by
   intro H;obtain ⟨hd, H⟩ := F6 H;obtain ⟨d, Kk, H⟩ := A9 H;obtain ⟨sz, ds, hr, rfl⟩ := A9f Kk;have e2 := e1.data hd;rw [hr] at e2;obtain ⟨b, len, cap, hv, f1, -⟩ := Rc e2;refine fin H ?_;rw [hv, f1];unfold Builtin.len_;simp [run_underlying hu, goInt]
  split at H
  ·rename_i i sz off len hm
   rw [hm] at e1;simp only [RR, J8] at e1;obtain ⟨hi, b, cap, hv, -⟩ := e1;refine fin H ?_;rw [hv];unfold Builtin.len_;simp [run_underlying hu, goInt]
  ·exact dat H
 ·rename_i hu
  obtain ⟨hd, H⟩ := F6 H;obtain ⟨d, Kk, H⟩ := A9 H;obtain ⟨s, hr, rfl⟩ := A7T Kk;have e2 := e1.data hd;rw [hr, WV] at e2;refine fin H ?_;rw [e2];unfold Builtin.len_;simp [run_underlying hu, goInt]
 ·rename_i kt et hu
  obtain ⟨n, hn, H⟩ := A9 H;unfold A9L at hn
  split at hn
  ·rename_i i hm
   obtain ⟨es, hes, hn⟩ := A9 hn;simp only [Option.some.injEq] at hn;subst hn;rw [hm] at e1;simp only [RR, J8] at e1;have hO : st.sg[i]? = some (.map es.1 es.2) := by
    unfold AJ at hes
    split at hes
    ·simp only [Option.some.injEq] at hes; subst hes; assumption
    ·simp at hes
   obtain ⟨ens, clk, g1, g2, g3, -⟩ := Rl.P8 i _ hO;refine fin H ?_;rw [e1.2, g3.1];unfold Builtin.len_;simp [run_underlying hu, goInt, getObj, Sem.run, g1]
  ·rename_i hm
   simp only [Option.some.injEq] at hn;subst hn;rw [hm] at e1;simp only [RR, J8] at e1;refine fin H ?_;rw [e1];unfold Builtin.len_;simp [run_underlying hu, goInt]
  ·simp at hn
 ·simp at H
end
end Go.Su

/-
 THE DATA MACHINE, part 9: operators, bytes of texts, fields of values, checked addresses, max and min.
-/
namespace Go.Su
theorem A9b {y z : DV} {b : Bool} (h : A7S y z = some b) : ∃ p q, y = .bool p ∧ z = .bool q ∧ b = (p == q) := by
 unfold A7S at h
 split at h
 ·simp only [Option.some.injEq] at h; exact ⟨_, _, rfl, rfl, h.symm⟩
 ·simp at h
theorem A9a {ks : List LK} {y z : DV} {b : Bool} (h : rH ks y z = some b) : ∃ p q, y = .agg p ∧ z = .agg q ∧ Cf ks p q = some b := by
 unfold rH at h
 split at h
 ·exact ⟨_, _, rfl, rfl, h⟩
 ·simp at h
theorem A1n {op : BinOp} {b : Bool} {d : DV} (h : kZ op b = some d) : (op = .eql ∧ d = .bool b) ∨ (op = .neq ∧ d = .bool !b) := by
 unfold kZ at h
 split at h <;> simp only [Option.some.injEq, reduceCtorEq] at h <;> subst h
 ·exact .inl ⟨rfl, rfl⟩
 ·exact .inr ⟨rfl, rfl⟩
theorem A9g {y z d : DV} (h : A2r y z = some d) : ∃ k p q, y = .int k p ∧ z = .int k q ∧ d = .int k (if q > p then q else p) := by
 unfold A2r at h
 split at h
 ·obtain ⟨hk, h1⟩ := L9 h
  simp only [Option.some.injEq] at h1;subst hk;exact ⟨_, _, _, rfl, rfl, h1.symm⟩
 ·simp at h
theorem A9h {y z d : DV} (h : A0g y z = some d) : ∃ k p q, y = .int k p ∧ z = .int k q ∧ d = .int k (if q < p then q else p) := by
 unfold A0g at h
 split at h
 ·obtain ⟨hk, h1⟩ := L9 h
  simp only [Option.some.injEq] at h1;subst hk;exact ⟨_, _, _, rfl, rfl, h1.symm⟩
 ·simp at h
theorem A9K {P : Program} {t : TypeId} {lk : LK} (h : dZ P t = some lk) (w : World) : (isAgg t).run P w = .ok false w := by
 unfold dZ at h
 split at h
 ·rename_i hu; unfold isAgg; simp [run_underlying hu]
 ·rename_i hu; unfold isAgg; simp [run_underlying hu]
 ·rename_i hu; unfold isAgg; simp [run_underlying hu]
 ·simp at h
theorem A4U {P : Program} {S : Q0} {hp : Heap} {t : TypeId} {lk : LK} {dx dy : DV} {vx vy : Value} {b : Bool} (hk : dZ P t = some lk) (H : rJ lk dx dy = some b) (hx : RC S hp dx [vx]) (hy : RC S hp dy [vy])
 (n : Nat) (w : World) : (Op.equalIn (n + 1) t vx vy).run P w = .ok b w := by
 unfold rJ at H
 split at H
 ·obtain ⟨JB, H1⟩ := L9 H
  simp only [Option.some.injEq] at H1;subst H1 JB;simp only [RC, List.cons.injEq, and_true] at hx hy;subst hx hy;unfold dZ at hk
  split at hk <;> simp only [Option.some.injEq, reduceCtorEq] at hk
  rename_i hu;exact run_equalIn_int w n t _ _ _ _ hu
 ·simp only [Option.some.injEq] at H
  subst H;simp only [RC, List.cons.injEq, and_true] at hx hy;subst hx hy;unfold dZ at hk
  split at hk <;> simp only [Option.some.injEq, reduceCtorEq] at hk
  rename_i hu;exact run_equalIn_bool' w n t _ _ hu
 ·simp only [Option.some.injEq] at H
  subst H;simp only [RC, List.cons.injEq, and_true] at hx hy;subst hx hy;unfold dZ at hk
  split at hk <;> simp only [Option.some.injEq, reduceCtorEq] at hk
  rename_i hu;exact run_equalIn_string w n t _ _ hu
 ·simp at H
theorem A3C {P : Program} {t : TypeId} {lk : LK} (h : dZ P t = some lk) {cs : Array Value} {off : Nat} {v : Value} (hv : cs[off]? = some v) (w : World) : (part t cs off).run P w = .ok v w := by
 unfold part;simp [A9K h, hv]
theorem A3R {P : Program} {S : Q0} {hp : Heap} {n : Nat} {xs ys : Array Value} {ax ay : List DV} (hx : Fe S hp ax xs.toList) (hy : Fe S hp ay ys.toList) : ∀ (fs : List Field) (ks : List LK) (i : Nat) (b : Bool),
 Rw P i fs = some ks → Cf ks (ax.drop i) (ay.drop i) = some b → ∀ w : World, (Op.eqFields (n + 1) xs ys fs).run P w = .ok b w := by
 obtain ⟨lx, hx⟩ := D_.1 hx;obtain ⟨ly, hy⟩ := D_.1 hy;intro fs
 induction fs with
 | nil =>
   intro ks i b h1 h2 w;simp only [Rw, Option.some.injEq] at h1;subst h1;unfold Cf at h2
   split at h2 <;> simp_all [Op.eqFields]
 | cons f fs ih =>
   intro ks i b h1 h2 w;simp only [Rw] at h1;obtain ⟨hc, h1⟩ := L9 h1;obtain ⟨lk, hk, h1⟩ := A9 h1;obtain ⟨ks', JD, h1⟩ := A9 h1;simp only [Option.some.injEq] at h1;subst h1;simp only [Bool.and_eq_true, bne_iff_ne, ne_eq, beq_iff_eq] at hc;cases hax : ax.drop i with
   | nil => rw [hax] at h2; simp [Cf] at h2
   | cons dx rx =>
     cases hay : ay.drop i with
     | nil => rw [hax, hay] at h2; simp [Cf] at h2
     | cons dy ry =>
       rw [hax, hay] at h2;simp only [Cf] at h2;obtain ⟨q, hq, h2⟩ := A9 h2;have B3M : ax[i]? = some dx := by have := congrArg (fun l : List DV => l[0]?) hax; simpa using this
       have B3N : ay[i]? = some dy := by have := congrArg (fun l : List DV => l[0]?) hay; simpa using this
       have Rz : i < xs.toList.length := by have := (List.getElem?_eq_some_iff.1 B3M).1; omega
       have uu : i < ys.toList.length := by have := (List.getElem?_eq_some_iff.1 B3N).1; omega
       have hvx : xs.toList[i]? = some xs.toList[i] := List.getElem?_eq_getElem Rz;have hvy : ys.toList[i]? = some ys.toList[i] := List.getElem?_eq_getElem uu;have rx' : rx = ax.drop (i + 1) := by rw [← List.tail_drop, hax]; rfl
       have ry' : ry = ay.drop (i + 1) := by rw [← List.tail_drop, hay]; rfl
       have e1 : (part f.type xs f.offset).run P w = .ok xs.toList[i] w := A3C hk (by rw [hc.2]; simp) w
       have e2 : (part f.type ys f.offset).run P w = .ok ys.toList[i] w := A3C hk (by rw [hc.2]; simp) w
       have e3 := A4U (P := P) hk hq (hx i dx _ B3M hvx).2 (hy i dy _ B3N hvy).2 n w;simp only [Op.eqFields, Sem.run_ite];rw [if_pos hc.1];simp only [Sem.run_bind, e1, e2, e3, Result.andThen_ok, Sem.run_ite];cases q with
       | false => simp only [Bool.false_eq_true, if_false, Option.some.injEq] at h2; subst h2; simp
       | true =>
         simp only [if_true] at h2;rw [rx', ry'] at h2;simpa using ih ks' (i + 1) b JD h2 w
section
variable {X : Type} {C : V6} {R : N7} {o : Oper} {st : St} {k : St → Option X} {x : X} {E : Env} {a : Act} {w : World} {K : Act → World → Prop} {Q : Exit → Act → World → Prop}
theorem A70 {P : Program} {t e : TypeId} (hu : P.underlying t = some (.pointer e)) (n : Nat) (b : Option Addr) (w : World) : (Op.equalIn (n + 1) t (.pointer none) (.pointer b)).run P w = .ok b.isNone w := by
 simp [Op.equalIn, run_underlying hu]
theorem A71 {P : Program} {t e : TypeId} (hu : P.underlying t = some (.pointer e)) (n : Nat) (b : Addr) (w : World) : (Op.equalIn (n + 1) t (.pointer (some b)) (.pointer none)).run P w = .ok false w := by
 simp [Op.equalIn, run_underlying hu]
theorem eG {E : Env} {h : Heap} {k a : Nat} {r : DV × Meta} {v : Value} {b : Bool} (H : A13 r = some b) (R : RR E h k a r.1 r.2 v) : ∃ p : Option Addr, v = .pointer p ∧ p.isNone = b := by
 obtain ⟨d, m⟩ := r;unfold A13 at H;simp only at H R
 split at H
 ·simp only [Option.some.injEq] at H
  subst H;obtain ⟨-, rfl⟩ := (R : _ ∧ _);exact ⟨none, rfl, rfl⟩
 ·simp only [Option.some.injEq] at H
  subst H;obtain ⟨-, rfl⟩ := (R : _ ∧ _);exact ⟨_, rfl, rfl⟩
 ·split at H <;> simp only [Option.some.injEq, reduceCtorEq] at H <;> subst H
  ·exact ⟨none, by simpa only [RR, J8, RV] using R, rfl⟩
  ·simp only [RR, J8, RV, RC] at R
   obtain ⟨b, o, hv, -⟩ := R;simp only [List.cons.injEq, and_true] at hv;exact ⟨_, hv, rfl⟩
 ·cases H
theorem B0F {P : Program} {t e : TypeId} (hu : P.underlying t = some (.pointer e)) {E : Env} {h : Heap} {k a k' a' : Nat} {r s : DV × Meta} {u v : Value} {b : Bool} {n : Nat} (w : World) (H : A7Y r s = some b) (R : RR E h k a r.1 r.2 u) (S : RR E h k' a' s.1 s.2 v) :
 ∃ p q, u = .pointer p ∧ v = .pointer q ∧ (Op.equalIn (n + 1) t u v).run P w = .ok b w := by
 unfold A7Y at H
 split at H <;> simp only [Option.some.injEq, reduceCtorEq] at H <;> subst H <;> rename_i h1 h2
 ·obtain ⟨p, rfl, hp⟩ := eG h1 R
  obtain ⟨q, rfl, hq⟩ := eG h2 S;simp only [Option.isNone_iff_eq_none] at hp;subst hp hq;exact ⟨_, _, rfl, rfl, A70 hu _ _ w⟩
 ·obtain ⟨p, rfl, hp⟩ := eG h1 R
  obtain ⟨q, rfl, hq⟩ := eG h2 S;simp only [Option.isNone_iff_eq_none] at hq;subst hq;cases p with
  | none => cases hp
  | some p => exact ⟨_, _, rfl, rfl, A71 hu _ _ w⟩
theorem A1p {P : Program} {t e e' : TypeId} (hu : P.underlying t = some (.map e e')) (n : Nat) (b : Option Nat) (w : World) : (Op.equalIn (n + 1) t (.map none) (.map b)).run P w = .ok b.isNone w := by
 simp [Op.equalIn, run_underlying hu]
theorem A7Z {P : Program} {t e e' : TypeId} (hu : P.underlying t = some (.map e e')) (n : Nat) (b : Nat) (w : World) : (Op.equalIn (n + 1) t (.map (some b)) (.map none)).run P w = .ok false w := by
 simp [Op.equalIn, run_underlying hu]
theorem eT {op : BinOp} {t : TypeId} {y z : Operand} {yt : TypeId} {b : Bool} {d : DV} (D8 : o.op = .binOp op t y z yt) (he : kZ op b = some d) (hg : (eqGuard op t y z (a.eval y) (a.eval z)).run C.P w = .ok () w)
 (hq : (Op.equal t (a.eval y) (a.eval z)).run C.P w = .ok b w)
 (hb : ∀ op', binOp op' t (a.eval y) (a.eval z) = (match op' with | .eql => (do pure (.bool (← Op.equal t (a.eval y) (a.eval z)))) | .neq => (do pure (.bool (!(← Op.equal t (a.eval y) (a.eval z))))) | _ => binOp op' t (a.eval y) (a.eval z)))
 (H : k (st.put o.dst d .val) = some x) (Rl : I9 E st a w.heap) (T : Then E w k x K) : Gp C.P o a w K := by
 rcases A1n he with ⟨rfl, rfl⟩ | ⟨rfl, rfl⟩
 ·refine Z7 (v := .bool b) ?_ H Rl (by rw [MI]) @T
  simp only [execOp, D8];refine Ck ?_;rw [hb];simp [hg, hq]
 ·refine Z7 (v := .bool !b) ?_ H Rl (by rw [MI]) @T
  simp only [execOp, D8];refine Ck ?_;rw [hb];simp [hg, hq]
theorem B22 {op : BinOp} {t : TypeId} {y z : Operand} {yt : TypeId} (D8 : o.op = .binOp op t y z yt) (H : YU C o op t y z st k = some x) (Rl : I9 E st a w.heap) (T : Then E w k x K) : Gp C.P o a w K := by
 unfold YU at H;obtain ⟨r, h1, H⟩ := A9 H;obtain ⟨s, h2, H⟩ := A9 H;have e1 := Rl.src h1;have e2 := Rl.src h2
 split at H
 ·obtain ⟨hc, H⟩ := F6 H
  obtain ⟨d, hd, H⟩ := A9 H;simp only [Bool.and_eq_true] at hc;obtain ⟨v, hv, hR⟩ := B1p (P := C.P) (t := t) (x := y) (y := z) hd (e1.data hc.1) (e2.data hc.2) w;refine Z7 (v := v) ?_ H Rl hR @T;simp only [execOp, D8];exact Ck hv
 ·rename_i Ef
  have hu : C.P.underlying t = some .bool := by
   unfold iC at Ef
   split at Ef <;> first | assumption | (simp at Ef; done) | (split at Ef <;> simp at Ef)
  obtain ⟨hc, H⟩ := F6 H;obtain ⟨b, hb, H⟩ := A9 H;obtain ⟨d, hd, H⟩ := A9 H;simp only [Bool.and_eq_true] at hc;obtain ⟨p, q, hp, hq, vE⟩ := A9b hb;have f1 := e1.data hc.1;have f2 := e2.data hc.2;rw [hp, MI] at f1;rw [hq, MI] at f2;refine eT D8 hd ?_ ?_ ?_ H Rl @T
  ·rw [f1, eqGuard_at_bool]; rfl
  ·rw [f1, f2, vE]; exact run_equalIn_bool' w _ t p q hu
  ·intro op'; rw [f1, f2]; cases op' <;> rfl
 ·rename_i ks Ef
  have hu : ∃ fs, C.P.underlying t = some (.struct fs) ∧ Rw C.P 0 fs.toList = some ks ∧ C.P.stoodInHeld t = false ∧ C.P.eqGuardType C.P.depth t = false := by
   unfold iC at Ef
   split at Ef <;> first | (simp at Ef; done) | skip
   rename_i fs hfs
   split at Ef <;> first | (simp at Ef; done) | skip
   rename_i ks' g1 g2 g3;simp only [A7a.flat.injEq] at Ef;subst Ef;exact ⟨fs, hfs, g1, g2, g3⟩
  obtain ⟨fs, hu, dW, Q4, hgt⟩ := hu;obtain ⟨hc, H⟩ := F6 H;obtain ⟨b, hb, H⟩ := A9 H;obtain ⟨d, hd, H⟩ := A9 H;simp only [Bool.and_eq_true] at hc;obtain ⟨p, q, hp, hq, aS⟩ := A9a hb;have f1 := e1.data hc.1;have f2 := e2.data hc.2;rw [hp] at f1;rw [hq] at f2;simp only [RV] at f1 f2;obtain ⟨vs, Mx, rvs⟩ := f1;obtain ⟨us, hus, rus⟩ := f2;refine eT D8 hd ?_ ?_ ?_ H Rl @T
  ·rw [Mx, hus]; exact run_eqGuard_agg w op t y z vs us hgt
  ·rw [Mx, hus]
   show (Op.equalIn 10000 t _ _).run C.P w = _
   have hfs : C.P.fieldsOf t = fs := by unfold Program.fieldsOf; rw [hu]
   rw [run_equalIn_struct w 9999 t vs us (by rw [hfs]; exact hu) Q4, hfs]
   exact A3R rvs rus fs.toList ks 0 b dW aS w
  ·intro op'; rw [Mx, hus]; cases op' <;> rfl
 ·rename_i Ef
  have hu : ∃ e, C.P.underlying t = some (.pointer e) := by
   unfold iC at Ef
   split at Ef <;> first | exact ⟨_, by assumption⟩ | (simp at Ef; done) | (split at Ef <;> simp at Ef)
  obtain ⟨et, hu⟩ := hu;obtain ⟨b, hb, H⟩ := A9 H;obtain ⟨d, hd, H⟩ := A9 H;have key : ∃ p q, a.eval y = .pointer p ∧ a.eval z = .pointer q ∧ (Op.equal t (a.eval y) (a.eval z)).run C.P w = .ok b w := by
   exact B0F hu w hb e1 e2
  obtain ⟨p, q, hp, hq, he⟩ := key;refine eT D8 hd ?_ he ?_ H Rl @T
  ·rw [hp, eqGuard_at_pointer]; rfl
  ·intro op'
   rcases A1n hd with ⟨rfl, -⟩ | ⟨rfl, -⟩ <;> rw [hp, hq] <;> cases op' <;> first | rfl | skip
 ·rename_i Ef
  have hu : ∃ e e', C.P.underlying t = some (.map e e') := by
   unfold iC at Ef
   split at Ef <;> first | exact ⟨_, _, by assumption⟩ | (simp at Ef; done) | (split at Ef <;> simp at Ef)
  obtain ⟨et, et', hu⟩ := hu;obtain ⟨b, hb, H⟩ := A9 H;obtain ⟨d, hd, H⟩ := A9 H;have key : ∃ p q, a.eval y = .map p ∧ a.eval z = .map q ∧ (Op.equal t (a.eval y) (a.eval z)).run C.P w = .ok b w := by
   revert hb e1 e2
   unfold A1R
   split <;> intro e1 e2 hb <;> simp only [Option.some.injEq, reduceCtorEq] at hb <;> subst hb <;> rename_i hm hn <;> rw [hm] at e1 <;> rw [hn] at e2 <;> simp only [RR, J8] at e1 e2
   ·refine ⟨_, _, e1, e2, ?_⟩
    rw [e1, e2]; exact A1p hu _ _ w
   ·refine ⟨_, _, e1, e2.2, ?_⟩
    rw [e1, e2.2]; exact A1p hu _ _ w
   ·refine ⟨_, _, e1.2, e2, ?_⟩
    rw [e1.2, e2]; exact A7Z hu _ _ w
  obtain ⟨p, q, hp, hq, he⟩ := key;refine eT D8 hd ?_ he ?_ H Rl @T
  ·rw [hp, eqGuard_at_map]; rfl
  ·intro op'; rw [hp, hq]; cases op' <;> rfl
 ·simp at H
end
end Go.Su

/-
 THE DATA MACHINE, part 10: bytes of texts, fields of values, checked addresses, max and min; addresses read.
-/
namespace Go.Su
section
variable {X : Type} {C : V6} {R : N7} {o : Oper} {st : St} {k : St → Option X} {x : X} {E : Env} {a : Act} {w : World} {K : Act → World → Prop} {Q : Exit → Act → World → Prop}
theorem A99 {t : TypeId} {y i : Operand} (D8 : o.op = .index t y i)
 (H : (ob (src C.P t st y) fun r => ob (src C.P 0 st i) fun j => match C.P.underlying t with
   | some .string => og (J2 r.2 && J2 j.2) (ob (X6 r.1 j.1) fun d => k (st.put o.dst d .val))
   | _ => none) = some x) (Rl : I9 E st a w.heap) (T : Then E w k x K) : Gp C.P o a w K := by
 obtain ⟨r, h1, H⟩ := A9 H;obtain ⟨j, h2, H⟩ := A9 H
 split at H
 ·rename_i hu
  obtain ⟨hc, H⟩ := F6 H;obtain ⟨d, hd, H⟩ := A9 H;simp only [Bool.and_eq_true] at hc;have e1 := (Rl.src h1).data hc.1;have e2 := (Rl.src h2).data hc.2;obtain ⟨s, kd, n, b, hr, hj, h0, hb, JA⟩ := A4O hd;rw [hr, WV] at e1;rw [hj, Bf] at e2;rw [JA] at H;refine Z7 (v := .int .u8 b.toNat) ?_ H Rl (by rw [Bf]) @T
  simp only [execOp, D8];refine Ck ?_;have hs : s[n.toNat]? = some b := by
   have I4 : n.toNat < s.data.size := (Array.getElem?_eq_some_iff.1 hb).1;have hv : s.data[n.toNat] = b := (Array.getElem?_eq_some_iff.1 hb).2;rw [getElem?_pos s n.toNat I4];exact congrArg some hv
  unfold Instr.index;simp only [e1, e2, asIntOf, Sem.run_bind, Sem.run_pure, Result.andThen_ok, run_underlying hu, h0, if_true, hs]
 ·simp at H
theorem B1j {P : Program} {t : TypeId} {z : Nat × Bool} (hz : tz P t = some z) {cs : Array Value} {off : Nat} (h : off + z.1 ≤ cs.size) (w : World) :
 ∃ v, (part t cs off).run P w = .ok v w ∧ (z.2 = true → v = .agg (cs.extract off (off + z.1))) ∧ (z.2 = false → cs[off]? = some v) := by
 unfold part;simp only [Sem.run_bind, A6q hz, Result.andThen_ok, Sem.run_ite]
 by_cases h2 : z.2 = true
 ·rw [if_pos h2]
  refine ⟨_, by simp only [OA hz, Result.andThen_ok, Sem.run_pure], fun _ => rfl, fun h3 => ?_⟩
  rw [h2] at h3;cases h3
 ·rw [if_neg h2]
  have JE : z.1 = 1 := by
   obtain ⟨i, d, -, -, -, h4⟩ := Hy hz;exact h4 (by simpa using h2)
  have I4 : off < cs.size := by omega
  have hg : cs[off]? = some cs[off] := Array.getElem?_eq_getElem I4;exact ⟨cs[off], by simp [hg], fun h3 => absurd h3 h2, fun _ => hg⟩
theorem q_ {S : Q0} {h : Heap} {d : DV} {vs : List Value} (H : RC S h d vs) {off n : Nat} (hn : off + n ≤ vs.length) : Fe S h (cells n off d) ((vs.drop off).take n) := by
 refine D_.2 ⟨by simp only [cells, List.length_map, List.length_range, List.length_take, List.length_drop]; omega, fun i d' v hd hv => ?_⟩
 have hi : i < n := by have := (List.getElem?_eq_some_iff.1 hd).1; simpa [cells] using this
 simp only [cells, List.getElem?_map, List.getElem?_range hi, Option.map_some, Option.some.injEq] at hd;subst hd;rw [List.getElem?_take_of_lt hi, List.getElem?_drop] at hv;exact MH H hv
theorem bW {S : Q0} {h : Heap} {n : Nat} {d : DV} {v : Value} (hg : D5 n d = true) (H : RV S h d v) : ∃ vs, v = .agg vs ∧ vs.size = n ∧ RC S h d vs.toList := by
 cases d <;> simp only [D5] at hg <;> try contradiction
 rename_i cs;simp only [RV] at H;obtain ⟨vs, rfl, H⟩ := H;refine ⟨vs, rfl, ?_, by simp only [RC]; exact H⟩
 have := (D_.1 H).1;simp only [beq_iff_eq] at hg;simp at this;omega
theorem A98 {t : TypeId} {y : Operand} {f : Nat} (D8 : o.op = .field t y f)
 (H : (ob (src C.P t st y) fun r => ob (VW C.P t f) fun fd => ob (tz C.P fd.type) fun z => ob (tz C.P t) fun zt =>
   og (J2 r.2 && D5 zt.1 r.1)
    (if fd.offset + z.1 ≤ zt.1 then
      if z.2 then k (st.put o.dst (.agg (cells z.1 fd.offset r.1)) .val) else k (st.put o.dst (A7 fd.offset r.1) .val)
    else none)) = some x) (Rl : I9 E st a w.heap) (T : Then E w k x K) : Gp C.P o a w K := by
 obtain ⟨r, h1, H⟩ := A9 H;obtain ⟨fd, h2, H⟩ := A9 H;obtain ⟨z, h3, H⟩ := A9 H;obtain ⟨zt, h4, H⟩ := A9 H;obtain ⟨hc, H⟩ := F6 H;obtain ⟨I8, H⟩ := L9 H;simp only [Bool.and_eq_true] at hc;obtain ⟨vs, hv, Y4, hR⟩ := bW hc.2 ((Rl.src h1).data hc.1);have hu : ∃ fs, C.P.underlying t = some (.struct fs) ∧ fs[f]? = some fd := by
  unfold VW at h2
  split at h2
  ·exact ⟨_, ‹_›, h2⟩
  ·simp at h2
 obtain ⟨fs, hu, hf⟩ := hu;obtain ⟨v, p1, p2, p3⟩ := B1j h3 (cs := vs) (off := fd.offset) (by omega) w
 have R8 : (execOp a.eval o).run C.P w = .ok (.value v) w := by
  simp only [execOp, D8];refine Ck ?_;unfold Instr.field;simp only [Sem.run_bind, run_underlying hu, Result.andThen_ok, hf, hv, asAgg, Sem.run_pure, p1]
 by_cases hz : z.2 = true
 ·rw [if_pos hz] at H
  refine Z7 R8 H Rl ?_ @T;rw [p2 hz];simp only [RV];refine ⟨_, rfl, ?_⟩;have := q_ hR (off := fd.offset) (n := z.1) (by simpa using by omega)
  simpa [Array.toList_extract, List.extract_eq_take_drop] using this
 ·rw [if_neg hz] at H
  have hl := p3 (by simpa using hz)
  obtain ⟨q1, q2⟩ := MH hR (j := fd.offset) (v := v) (by simpa using hl)
  exact Z7 R8 H Rl (Qy q1 q2) @T
theorem B27 {c : Call} {y z : Operand} {t u : TypeId} (D8 : o.op = .call c) (hc : c.callee = .builtin .max) (ha : c.args.toList = [y, z])
 (H : (ob (src C.P t st y) fun r => ob (src C.P u st z) fun s => og (J2 r.2 && J2 s.2) (ob (A2r r.1 s.1) fun d => k (st.put o.dst d .val))) = some x)
 (Rl : I9 E st a w.heap) (T : Then E w k x K) : Gp C.P o a w K := by
 obtain ⟨r, h1, H⟩ := A9 H;obtain ⟨s, h2, H⟩ := A9 H;obtain ⟨QK, H⟩ := F6 H;obtain ⟨d, hd, H⟩ := A9 H;simp only [Bool.and_eq_true] at QK;obtain ⟨kd, p, q, hr, hs, JA⟩ := A9g hd;have e1 := (Rl.src h1).data QK.1;have e2 := (Rl.src h2).data QK.2;rw [hr, Bf] at e1;rw [hs, Bf] at e2;rw [JA] at H;refine Z7 (v := .int kd (if q > p then q else p)) ?_ H Rl (by rw [Bf]) @T
 refine Jo D8 hc ?_;rw [show c.args.map a.eval = #[a.eval y, a.eval z] from by rw [Yp ha]; simp]
 refine Ck ?_;rw [e1, e2];simp [Builtin.max_, Builtin.max2]
theorem B28 {c : Call} {y z : Operand} {t u : TypeId} (D8 : o.op = .call c) (hc : c.callee = .builtin .min) (ha : c.args.toList = [y, z])
 (H : (ob (src C.P t st y) fun r => ob (src C.P u st z) fun s => og (J2 r.2 && J2 s.2) (ob (A0g r.1 s.1) fun d => k (st.put o.dst d .val))) = some x)
 (Rl : I9 E st a w.heap) (T : Then E w k x K) : Gp C.P o a w K := by
 obtain ⟨r, h1, H⟩ := A9 H;obtain ⟨s, h2, H⟩ := A9 H;obtain ⟨QK, H⟩ := F6 H;obtain ⟨d, hd, H⟩ := A9 H;simp only [Bool.and_eq_true] at QK;obtain ⟨kd, p, q, hr, hs, JA⟩ := A9h hd;have e1 := (Rl.src h1).data QK.1;have e2 := (Rl.src h2).data QK.2;rw [hr, Bf] at e1;rw [hs, Bf] at e2;rw [JA] at H;refine Z7 (v := .int kd (if q < p then q else p)) ?_ H Rl (by rw [Bf]) @T
 refine Jo D8 hc ?_;rw [show c.args.map a.eval = #[a.eval y, a.eval z] from by rw [Yp ha]; simp]
 refine Ck ?_;rw [e1, e2];simp [Builtin.min_, Builtin.min2]
theorem B2g {S : Q0} {h : Heap} {sz : Nat} {d e : DV} {v : Value} (H : A7W sz d = some e) (R : RV S h d v) : ∃ b o, v = .pointer (some ⟨b, o, none⟩) ∧ Elem S h sz b o e := by
 unfold A7W at H
 split at H
 ·rename_i sz' d'
  split at H
  ·rename_i hs
   simp only [Option.some.injEq] at H;subst H hs;simp only [RV, RC] at R;obtain ⟨b, o, hv, us, h1, h2, h3⟩ := R;simp only [List.cons.injEq, and_true] at hv;exact ⟨b, o, hv, us, h1, h2, h3⟩
  ·cases H
 ·cases H
theorem A5U {fl : Flags} {y : Operand} (D8 : o.op = .nilCheck y)
 (H : (ob (src C.P 0 st y) fun r => match r.2 with
   | .loc s o' => k (st.put o.dst .undef (.loc s o'))
   | .Nr ag sz o' => k (st.put o.dst r.1 (.Nr ag sz o'))
   | .ptr i o' => k (st.put o.dst .undef (.ptr i o'))
   | .Xr i sz j o' => k (st.put o.dst .undef (.Xr i sz j o'))
   | .opt i sz j => k (st.put o.dst .undef (.opt i sz j))
   | .fn f cs => k (st.put o.dst .undef (.fn f cs))
   | .val => ob (o.dst.bind fun t => fl.refs.find? (·.1 == t)) fun q => ob (A7W q.2 r.1) fun d => k (st.put o.dst d (.Nr true q.2 0))
   | _ => none) = some x) (Rl : I9 E st a w.heap) (T : Then E w k x K) : Gp C.P o a w K := by
 obtain ⟨r, h1, H⟩ := A9 H;have e1 := Rl.src h1;have hp : ∀ b, a.eval y = .pointer (some b) → (execOp a.eval o).run C.P w = .ok (.value (.pointer (some b))) w := by
  intro b hb;simp only [execOp, D8, hb, Sem.run_pure]
 have hf : ∀ f c d, a.eval y = .func (.func f) c d → (execOp a.eval o).run C.P w = .ok (.value (.func (.func f) c d)) w := by
  intro f c d hb;simp only [execOp, D8, hb, Sem.run_pure]
 revert e1 H
 cases hm : r.2 <;> intro H e1 <;> simp only [reduceCtorEq] at H <;> simp only [RR, J8] at e1
 case val =>
  obtain ⟨q, -, H⟩ := A9 H;obtain ⟨d, hd, H⟩ := A9 H;obtain ⟨b, o0, r1, r2⟩ := B2g hd e1;exact V8 (hp _ r1) H Rl (fun _ _ => ⟨b, o0, rfl, r2, fun h => by cases h⟩) @T
 case loc s off => exact V8 (hp _ e1.2) H Rl (fun _ _ => ⟨rfl, rfl⟩) @T
 case Nr ag sz off =>
  obtain ⟨b, o0, r1, r2, r3⟩ := e1;exact V8 (hp _ r1) H Rl (fun _ _ => ⟨b, o0, rfl, r2, r3⟩) @T
 case ptr i off => exact V8 (hp _ e1.2) H Rl (fun _ _ => ⟨e1.1, rfl⟩) @T
 case Xr i sz idx off => exact V8 (hp _ e1.2) H Rl (fun _ _ => ⟨e1.1, rfl⟩) @T
 case opt i sz idx => exact V8 (hp _ e1.2) H Rl (fun _ _ => ⟨e1.1, rfl⟩) @T
 case fn f cs => exact V8 (hf _ _ _ e1.1) H Rl (fun _ _ => ⟨rfl, e1.2⟩) @T
theorem GN {P : Program} {t : TypeId} {z : Nat × Bool} (hz : tz P t = some z) {b off : Nat} {vs : List Value} (hl : vs.length = z.1) (hc : ∀ (j : Nat) v, vs[j]? = some v → hc w.heap b (off + j) = some v) :
 ∃ v, (loadVar t ⟨b, off, none⟩).run P w = .ok v w ∧ (z.2 = true → v = .agg vs.toArray) ∧ (z.2 = false → vs = [v]) := by
 unfold loadVar;simp only [Sem.run_bind, A6q hz, Result.andThen_ok, Sem.run_ite]
 by_cases h2 : z.2 = true
 ·rw [if_pos h2]
  have h3 : (loadCells ⟨b, off, none⟩ z.1).run P w = .ok vs.toArray w := by
   rw [← hl];refine run_loadCells_list w _ vs fun j v hv => ?_
   rw [Addr.add_lit, Jq];exact hc j v hv
  refine ⟨_, by simp only [OA hz, h3, Result.andThen_ok, Sem.run_pure], fun _ => rfl, fun h4 => ?_⟩
  rw [h2] at h4;cases h4
 ·rw [if_neg h2]
  have JE : z.1 = 1 := by
   obtain ⟨i, d, -, -, -, h4⟩ := Hy hz;exact h4 (by simpa using h2)
  match vs, hl.trans JE with
  | [v], _ =>
    have h5 := hc 0 v rfl;refine ⟨v, ?_, fun h3 => absurd h3 h2, fun _ => rfl⟩
    rw [run_load, Jq];simp only [Nat.add_zero] at h5;rw [h5]
theorem UX {P : Program} {t : TypeId} {y : Operand} (D8 : o.op = .load t y) {b off : Nat} {v : Value} (he : a.eval y = .pointer (some ⟨b, off, none⟩)) (h : (loadVar t ⟨b, off, none⟩).run P w = .ok v w) :
 (execOp a.eval o).run P w = .ok (.value v) w := by
 simp only [execOp, D8];refine Ck ?_;simp only [Instr.loadAt, he, Instr.sureAddr, Sem.run_bind, Sem.run_pure, Result.andThen_ok, h]
end
end Go.Su

/-
 THE DATA MACHINE, part 11: memory read.
-/
namespace Go.Su
theorem qz {E : Env} {h : Heap} {tg : Tag} {k a b : Nat} {cs : List (DV × Meta)} (B : ZR E h tg k a b cs) {off n : Nat} (hn : off + n ≤ cs.length) :
 ∃ vs : List Value, vs.length = n ∧ (∀ (j : Nat) v, vs[j]? = some v → hc h b (off + j) = some v) ∧
   ∀ (j : Nat) v r, vs[j]? = some v → cs[off + j]? = some r → M7 r.1 = true ∧ v.oneCell' = true ∧ U8 r.2 = true ∧ J8 E h (.sp k a (off + j)) r.1 r.2 v := by
 obtain ⟨c, T, h1, h2, h3, h4⟩ := B;have e : ∀ (j : Nat) v, ((c.toList.drop off).take n)[j]? = some v → c[off + j]? = some v := by
  intro j v hv;have hj : j < n := by have := (List.getElem?_eq_some_iff.1 hv).1; simp only [List.length_take, List.length_drop] at this; omega
  rw [List.getElem?_take_of_lt hj, List.getElem?_drop] at hv;simpa using hv
 refine ⟨(c.toList.drop off).take n, by simp only [List.length_take, List.length_drop, Array.length_toList]; omega, fun j v hv => ?_, fun j v r hv hr => h4 (off + j) r v hr (e j v hv)⟩
 unfold hc;rw [h1];exact e j v hv
theorem BC {m : Meta} (h : U8 m = true) : dm m = We m ∧ U8 (dm m) = true ∧ dm m ≠ .own := by
 cases m <;> simp_all [U8, dm, We]
theorem J8.BC {E : Env} {h : Heap} {tg tg' : Tag} {d : DV} {m : Meta} {v : Value} (hm : U8 m = true) (R : J8 E h tg d m v) : J8 E h tg' d (dm m) v := by
 rw [(Su.BC hm).1];exact R.We
theorem J8.lD {E : Env} {h : Heap} {tg tg' : Tag} {d : DV} {v : Value} (R : J8 E h tg d .full v) : J8 E h tg' d .own v := by
 simp only [J8] at R ⊢;obtain ⟨r1, ⟨p, n, rfl⟩, sz, ds, r2⟩ := R;refine ⟨r1, sz, ds, r2, fun x len cap hv I4 => ?_⟩
 simp only [Value.slice.injEq] at hv;omega
section
variable {X : Type} {C : V6} {R : N7} {o : Oper} {st : St} {k : St → Option X} {x : X} {E : Env} {a : Act} {w : World} {K : Act → World → Prop} {Q : Exit → Act → World → Prop}
theorem A0f {cs : List (DV × Meta)} {vs : List Value} (hl : vs.length = cs.length) (H : ∀ (j : Nat) v r, vs[j]? = some v → cs[j]? = some r → M7 r.1 = true ∧ v.oneCell' = true ∧ U8 r.2 = true ∧ ∃ tg, J8 E w.heap tg r.1 r.2 v) (p q : Nat) :
 RR E w.heap p q (bY cs).1 (bY cs).2 (.agg vs.toArray) := by
 simp only [bY, RR];refine ⟨_, _, rfl, rfl, by simp, by simp [hl], fun i m d v h1 h2 h3 => ?_⟩
 simp only [List.getElem?_map, Option.map_eq_some_iff] at h1 h2;obtain ⟨r, hr, rfl⟩ := h1;obtain ⟨r', Bo, rfl⟩ := h2;rw [hr] at Bo;simp only [Option.some.injEq] at Bo;subst Bo;obtain ⟨a1, a2, a3, tg, a4⟩ := H i v r (by simpa using h3) hr
 exact ⟨a1, a2, (Su.BC a3).2.1, a4.BC a3⟩
theorem A6J {r : DV × Meta} {v : Value} {tg : Tag} (h1 : M7 r.1 = true) (h2 : v.oneCell' = true) (h3 : U8 r.2 = true) (h4 : J8 E w.heap tg r.1 r.2 v) :
 M7 (Vg r).1 = true ∧ v.oneCell' = true ∧ U8 (Vg r).2 = true ∧ ∃ tg, J8 E w.heap tg (Vg r).1 (Vg r).2 v := by
 unfold Vg
 split
 ·exact ⟨rfl, h2, rfl, tg, by simp only [J8, RV]⟩
 ·exact ⟨h1, h2, h3, tg, h4⟩
theorem ZY {cs : List (DV × Meta)} {off : Nat} {d : DV} (h : X5 cs off = some d) : ∃ m, cs[off]? = some (d, m) ∧ (m = .val ∨ m = .full ∨ m = .own ∨ m = .E_) := by
 unfold X5 at h
 split at h <;> simp only [Option.some.injEq, reduceCtorEq] at h <;> subst h
 ·exact ⟨_, ‹_›, .inl rfl⟩
 ·exact ⟨_, ‹_›, .inr (.inl rfl)⟩
 ·exact ⟨_, ‹_›, .inr (.inr (.inl rfl))⟩
 ·exact ⟨_, ‹_›, .inr (.inr (.inr rfl))⟩
theorem g_ {E : Env} {h : Heap} {tg : Tag} {d : DV} {m : Meta} {v : Value} (hm : m = .val ∨ m = .full ∨ m = .own ∨ m = .E_) (R : J8 E h tg d m v) : RV E.S h d v := by
 rcases hm with rfl | rfl | rfl | rfl
 ·exact R
 ·exact R.1
 ·exact R.1
 ·obtain ⟨rfl, rfl⟩ := (R : _ ∧ _)
  simp only [RV]
theorem zx : ∀ {n off : Nat} {cs : List (DV × Meta)} {ds : List DV}, vg off n cs = some ds → ds.length = n ∧ ∀ (i : Nat) d, ds[i]? = some d → X5 cs (off + i) = some d
 | 0, off, cs, ds, h => by simp only [vg, Option.some.injEq] at h; subst h; simp
 | n + 1, off, cs, ds, h => by
   simp only [vg] at h;obtain ⟨d, hd, h⟩ := A9 h;obtain ⟨ds', uq, h⟩ := A9 h;simp only [Option.some.injEq] at h;subst h;obtain ⟨l1, l2⟩ := zx uq;refine ⟨by simp [l1], fun i d' hi => ?_⟩
   cases i with
   | zero => simp only [List.getElem?_cons_zero, Option.some.injEq] at hi; subst hi; simpa using hd
   | succ i => simp only [List.getElem?_cons_succ] at hi; have := l2 i d' hi; rwa [Nat.add_assoc, Nat.add_comm 1 i] at this
theorem lw {sg : List D7} {i : Nat} {cs : List (DV × Meta)} (h : M4 sg i = some cs) : sg[i]? = some (.box cs) := by
 unfold M4 at h
 split at h
 ·simp only [Option.some.injEq] at h; subst h; assumption
 ·simp at h
theorem Yn {sg : List D7} {i : Nat} {p : Nat × List DV} (h : UY sg i = some p) : sg[i]? = some (.arr p.1 p.2) := by
 unfold UY at h
 split at h
 ·simp only [Option.some.injEq] at h; subst h; assumption
 ·simp at h
theorem l_ {sg : List D7} {i : Nat} {sz : Nat} {pre ds : List DV} (h : Yo sg i = some (sz, pre, ds)) : sg[i]? = some (.opn sz pre ds) := by
 unfold Yo at h
 split at h
 ·rename_i heq
  simp only [Option.some.injEq, Prod.mk.injEq] at h;obtain ⟨rfl, rfl, rfl⟩ := h;exact heq
 ·simp at h
theorem A19 {sg : List D7} {i : Nat} {p : Bool × List (DV × DV)} (h : AJ sg i = some p) : sg[i]? = some (.map p.1 p.2) := by
 unfold AJ at h
 split at h
 ·simp only [Option.some.injEq] at h; subst h; assumption
 ·simp at h
theorem EW (Rl : I9 E st a w.heap) {i : Nat} {ob : D7} (h : st.sg[i]? = some ob) : i < E.n := by
 rw [← Rl.n]; exact (List.getElem?_eq_some_iff.1 h).1
theorem eH {α : Type} {l cs : List α} {o : Nat} (h : o + cs.length ≤ l.length) (j : Nat) : (putAt l o cs)[j]? = if o ≤ j ∧ j < o + cs.length then cs[j - o]? else l[j]? := by
 unfold putAt
 by_cases h1 : j < o
 ·rw [if_neg (by omega), List.append_assoc, List.getElem?_append_left (by simp; omega), List.getElem?_take_of_lt h1]
 ·by_cases h2 : j < o + cs.length
  ·rw [if_pos (by omega), List.append_assoc, List.getElem?_append_right (by simp; omega), List.getElem?_append_left (by simp; omega)]
   congr 1
   simp;omega
  ·rw [if_neg (by omega), List.getElem?_append_right (by simp; omega), List.getElem?_drop]
   congr 1
   simp;omega
theorem av {α : Type} {l cs : List α} {o : Nat} (h : o + cs.length ≤ l.length) : (putAt l o cs).length = l.length := by
 unfold putAt; simp; omega
theorem I9.A7L (Rl : I9 E st a w.heap) {s off n : Nat} {cs : List (DV × Meta)} (hb : st.bx.getD s none = some cs) (hn : off + n ≤ cs.length) {f : Tag → Tag}
 (hf : ∀ T, (∀ j, off ≤ j → j < off + n → T ≠ .sp 1 s j) → f T = T) : I9 (E.re f) { st with bx := st.bx.set s (some (putAt cs off (((cs.drop off).take n).map fun c : DV × Meta => (c.1, dm c.2)))) } a w.heap := by
 have En : f .shut = .shut := hf _ (by simp)
 have Ng : f .other = .other := hf _ (by simp)
 have P : Pr (fun T => ∃ j, off ≤ j ∧ j < off + n ∧ T = .sp 1 s j) E w.heap (E.re f) w.heap := Pr.re fun T hT => hf T fun j h1 h2 h3 => hT ⟨j, h1, h2, h3⟩
 have I8 : V9 E.S w.heap (E.re f).S w.heap := JU En;have hl : (((cs.drop off).take n).map fun c : DV × Meta => (c.1, dm c.2)).length = n := by simp; omega
 refine ⟨Rl.size, Rl.AZ, by simp [Rl.Ca], Rl.n, fun u v hu => ?_, fun s' cs' hs => ?_, fun i ob hi => ?_, fun b o hb => ?_⟩
 ·exact (Rl.regs u v hu).re En Ng fun b => hf _ (by simp)
 ·have A0q : s < st.bx.length := by
   rcases Nat.lt_or_ge s st.bx.length with h1 | h1
   ·exact h1
   ·simp [List.getD_eq_getElem?_getD, List.getElem?_eq_none h1] at hb
  by_cases aY : s = s'
  ·subst aY
   simp only [List.getD_eq_getElem?_getD, List.getElem?_set_self A0q, Option.getD_some, Option.some.injEq] at hs;subst hs;obtain ⟨cv, T, h1, h2, h3, h4⟩ := Rl.boxes s cs hb;refine ⟨cv, T, h1, by rw [av (by omega)]; exact h2, fun o => ?_, fun j r v hr hv => ?_⟩
   ·rcases h3 o with h5 | h5
    ·left; simp only [Env.re]; rw [h5]; exact hf _ (by simp)
    ·exact .inr h5
   ·rw [eH (by omega), hl] at hr
    by_cases hj : off ≤ j ∧ j < off + n
    ·rw [if_pos hj, List.getElem?_map, List.getElem?_take_of_lt (by omega), List.getElem?_drop, Option.map_eq_some_iff] at hr
     obtain ⟨c, QK, rfl⟩ := hr;rw [show off + (j - off) = j by omega] at QK
     obtain ⟨a1, a2, a3, a4⟩ := h4 j c v QK hv;have a5 : J8 E w.heap .other c.1 (dm c.2) v := a4.BC a3;exact ⟨a1, a2, (Su.BC a3).2.1, (a5.re En Ng : J8 (E.re f) w.heap .other c.1 (dm c.2) v).tag (Su.BC a3).2.2⟩
    ·rw [if_neg hj] at hr
     obtain ⟨a1, a2, a3, a4⟩ := h4 j r v hr hv;exact ⟨a1, a2, a3, a4.re En (hf _ fun j' q1 q2 he => by simp only [Tag.sp.injEq, true_and] at he; exact hj (by omega))⟩
  ·simp only [List.getD_eq_getElem?_getD, List.getElem?_set_ne aY] at hs
   have := Rl.boxes s' cs' (by simpa [List.getD_eq_getElem?_getD] using hs)
   exact this.mono P I8 (by simp) (by rintro j ⟨j', -, -, h⟩; simp only [Tag.sp.injEq, true_and] at h; exact aY h.1.symm)
 ·exact (Rl.P8 i ob hi).mono P I8 (by rw [← Rl.n]; exact (List.getElem?_eq_some_iff.1 hi).1) (by simp) (by simp)
 ·simp only [Env.re]; rw [Rl.fresh b o hb, Ng]
theorem I9.A84 (Rl : I9 E st a w.heap) {s off : Nat} {cs : List (DV × Meta)} {c : DV × Meta} (hb : st.bx.getD s none = some cs) (QK : cs[off]? = some c) {f : Tag → Tag}
 (hf : ∀ T, T ≠ .sp 1 s off → f T = T) : I9 (E.re f) { st with bx := st.bx.set s (some (cs.set off (c.1, dm c.2))) } a w.heap := by
 have En : f .shut = .shut := hf _ (by simp)
 have Ng : f .other = .other := hf _ (by simp)
 have P : Pr (fun T => T = .sp 1 s off) E w.heap (E.re f) w.heap := Pr.re fun T hT => hf T hT
 have I8 : V9 E.S w.heap (E.re f).S w.heap := JU En;refine ⟨Rl.size, Rl.AZ, by simp [Rl.Ca], Rl.n, fun u v hu => ?_, fun s' cs' hs => ?_, fun i ob hi => ?_, fun b o hb => ?_⟩
 ·exact (Rl.regs u v hu).re En Ng fun b => hf _ (by simp)
 ·have A0q : s < st.bx.length := by
   rcases Nat.lt_or_ge s st.bx.length with h1 | h1
   ·exact h1
   ·simp [List.getD_eq_getElem?_getD, List.getElem?_eq_none h1] at hb
  by_cases aY : s = s'
  ·subst aY
   simp only [List.getD_eq_getElem?_getD, List.getElem?_set_self A0q, Option.getD_some, Option.some.injEq] at hs;subst hs;obtain ⟨cv, T, h1, h2, h3, h4⟩ := Rl.boxes s cs hb;refine ⟨cv, T, h1, by simpa using h2, fun o => ?_, fun j r v hr hv => ?_⟩
   ·rcases h3 o with h5 | h5
    ·left; simp only [Env.re]; rw [h5]; exact hf _ (by simp)
    ·exact .inr h5
   ·by_cases hj : off = j
    ·subst hj
     have I4 := (List.getElem?_eq_some_iff.1 QK).1;rw [List.getElem?_set_self I4] at hr;simp only [Option.some.injEq] at hr;subst hr;obtain ⟨a1, a2, a3, a4⟩ := h4 off c v QK hv;have a5 : J8 E w.heap .other c.1 (dm c.2) v := a4.BC a3;exact ⟨a1, a2, (Su.BC a3).2.1, (a5.re En Ng : J8 (E.re f) w.heap .other c.1 (dm c.2) v).tag (Su.BC a3).2.2⟩
    ·rw [List.getElem?_set_ne hj] at hr
     obtain ⟨a1, a2, a3, a4⟩ := h4 j r v hr hv;exact ⟨a1, a2, a3, a4.re En (hf _ (by simp; exact fun h => hj h.symm))⟩
  ·simp only [List.getD_eq_getElem?_getD, List.getElem?_set_ne aY] at hs
   have := Rl.boxes s' cs' (by simpa [List.getD_eq_getElem?_getD] using hs)
   exact this.mono P I8 (by simp) (by simp; intro h; exact absurd h.symm aY)
 ·exact (Rl.P8 i ob hi).mono P I8 (by rw [← Rl.n]; exact (List.getElem?_eq_some_iff.1 hi).1) (by simp) (by simp)
 ·simp only [Env.re]; rw [Rl.fresh b o hb, Ng]
theorem I9.A6P (Rl : I9 E st a w.heap) {i off : Nat} {cs : List (DV × Meta)} {d : DV} {m : Meta} (hb : st.sg[i]? = some (.box cs)) (QK : cs[off]? = some (d, m)) (hm : m = .full ∨ m = .own) {f : Tag → Tag}
 (hf : ∀ T, T ≠ .sp 2 i off → f T = T) : I9 (E.re f) { st with sg := st.sg.set i (.box (cs.set off (d, .val))) } a w.heap := by
 have En : f .shut = .shut := hf _ (by simp)
 have Ng : f .other = .other := hf _ (by simp)
 have P : Pr (fun T => T = .sp 2 i off) E w.heap (E.re f) w.heap := Pr.re fun T hT => hf T hT
 have I8 : V9 E.S w.heap (E.re f).S w.heap := JU En;have PX := (List.getElem?_eq_some_iff.1 hb).1;refine ⟨Rl.size, Rl.AZ, Rl.Ca, by simpa [Env.re] using Rl.n, fun u v hu => ?_, fun s' cs' hs => ?_, fun i' ob hi => ?_, fun b o hb => ?_⟩
 ·exact (Rl.regs u v hu).re En Ng fun b => hf _ (by simp)
 ·exact (Rl.boxes s' cs' hs).mono P I8 (by simp) (by simp)
 ·by_cases GK : i = i'
  ·subst GK
   simp only [List.getElem?_set_self PX, Option.some.injEq] at hi;subst hi;obtain ⟨cv, T, h1, h2, h3, h4⟩ := Rl.P8 i _ hb;refine ⟨cv, T, h1, by simpa using h2, fun o => ?_, fun j r v hr hv => ?_⟩
   ·rcases h3 o with h5 | h5
    ·left; simp only [Env.re]; rw [h5]; exact hf _ (by simp)
    ·exact .inr h5
   ·by_cases hj : off = j
    ·subst hj
     have I4 := (List.getElem?_eq_some_iff.1 QK).1;rw [List.getElem?_set_self I4] at hr;simp only [Option.some.injEq] at hr;subst hr;obtain ⟨a1, a2, a3, a4⟩ := h4 off _ v QK hv;have a5 : RV E.S w.heap d v := g_ (by rcases hm with h | h <;> simp [h]) a4
     exact ⟨a1, a2, rfl, a5.mono I8⟩
    ·rw [List.getElem?_set_ne hj] at hr
     obtain ⟨a1, a2, a3, a4⟩ := h4 j r v hr hv;exact ⟨a1, a2, a3, a4.re En (hf _ (by simp; exact fun h => hj h.symm))⟩
  ·simp only [List.getElem?_set_ne GK] at hi
   exact (Rl.P8 i' ob hi).mono P I8 (EW Rl hi) (by simp) (by simp; intro h; exact absurd h.symm GK)
 ·simp only [Env.re]; rw [Rl.fresh b o hb, Ng]
def Oi (T0 : Tag) (t : Nat) (T : Tag) : Tag := if T = T0 then .sp 0 t 0 else T
def lF (s off n t : Nat) (T : Tag) : Tag :=
 match T with
 | .sp 1 s' j => if s' = s ∧ off ≤ j ∧ j < off + n then .sp 0 t (j - off + 1) else .sp 1 s' j
 | T => T
theorem gJ {s off n t : Nat} {T : Tag} (h : ∀ j, off ≤ j → j < off + n → T ≠ .sp 1 s j) : lF s off n t T = T := by
 unfold lF
 split
 ·split
  ·rename_i hx; obtain ⟨rfl, h1, h2⟩ := hx; exact absurd rfl (h _ h1 h2)
  ·rfl
 ·rfl
theorem Fx {T0 : Tag} {t : Nat} {T : Tag} (h : T ≠ T0) : Oi T0 t T = T := by simp [Oi, h]
theorem B1y {fl : Flags} {t : TypeId} {y : Operand} (D8 : o.op = .load t y) (H : Di C fl o t y st k = some x) (Rl : I9 E st a w.heap) (T : Then E w k x K) : Gp C.P o a w K := by
 unfold Di at H;obtain ⟨r, h1, H⟩ := A9 H;obtain ⟨z, hz, H⟩ := A9 H;have e1 := Rl.src h1;have JE : z.2 = false → z.1 = 1 := by
  obtain ⟨i, d, -, -, -, h4⟩ := Hy hz;exact h4
 split at H
 ·-- a private variable
  rename_i s off hm;rw [hm] at e1;simp only [RR, J8] at e1;obtain ⟨cs, hb, H⟩ := A9 H;obtain ⟨I8, H⟩ := L9 H;have B := Rl.boxes s cs hb;obtain ⟨vs, l1, l2, l3⟩ := qz B I8;obtain ⟨v, g1, g2, g3⟩ := GN (w := w) hz l1 l2;have R8 := UX D8 e1.2 g1
  by_cases h2 : z.2 = true
  ·rw [if_pos h2] at H
   simp only at H
   by_cases Q4 : J9 fl.L8 o.dst = true
   ·rw [if_pos Q4] at H
    cases hd : o.dst with
    | none =>
      rw [hd] at Q4;simp [J9] at Q4
    | some t0 =>
      rw [hd] at H;refine Bc R8 ?_;rw [hd];refine T (E.re (lF s off z.1 t0)) _ _ w H ((Rl.A7L hb I8 fun T hT => gJ hT).put fun t1 ht => ?_) (Pr.re fun T hT => gJ fun j _ _ he => hT (by rw [he]; simp [J6]))
      simp only [Option.some.injEq] at ht;subst ht;rw [g2 h2];simp only [RR];refine ⟨_, _, rfl, rfl, by simp, by simp; omega, fun i m d v e1 e2 e3 => ?_⟩
      simp only [List.getElem?_map, Option.map_eq_some_iff] at e1 e2;obtain ⟨r1, q1, rfl⟩ := e1;obtain ⟨r2, q2, rfl⟩ := e2;rw [q1] at q2;simp only [Option.some.injEq] at q2;subst q2;have hi : i < z.1 := by have := (List.getElem?_eq_some_iff.1 q1).1; simp only [List.length_take] at this; omega
      rw [List.getElem?_take_of_lt hi, List.getElem?_drop] at q1;obtain ⟨a1, a2, a3, a4⟩ := l3 i v r1 (by simpa using e3) q1
      exact ⟨a1, a2, a3, a4.re (gJ (by simp)) (by simp [lF, hi])⟩
   rw [if_neg Q4] at H;refine V8 R8 H Rl (fun t0 _ => ?_) @T
   rw [g2 h2];have B7k : ((cs.drop off).take z.1).length = z.1 := by simp only [List.length_take, List.length_drop]; omega
   have A8d : ∀ (j : Nat) v r, vs[j]? = some v → ((cs.drop off).take z.1)[j]? = some r → M7 r.1 = true ∧ v.oneCell' = true ∧ U8 r.2 = true ∧ ∃ tg, J8 E w.heap tg r.1 r.2 v := by
    intro j v r hv hr;have hj : j < z.1 := by have := (List.getElem?_eq_some_iff.1 hr).1; omega
    rw [List.getElem?_take_of_lt hj, List.getElem?_drop] at hr;obtain ⟨a1, a2, a3, a4⟩ := l3 j v r hv hr;exact ⟨a1, a2, a3, _, a4⟩
   split
   ·refine A0f (by simp only [List.length_map]; omega) (fun j v r hv hr => ?_) 0 t0
    simp only [List.getElem?_map, Option.map_eq_some_iff] at hr;obtain ⟨r0, CW, rfl⟩ := hr;obtain ⟨a1, a2, a3, tg, a4⟩ := A8d j v r0 hv CW;exact A6J a1 a2 a3 a4
   ·exact A0f (by omega) A8d 0 t0
  ·rw [if_neg h2] at H
   have hv := g3 (by simpa using h2)
   subst hv;have I4 : off < cs.length := by have := JE (by simpa using h2); omega
   have JQ : cs[off]? = some (cs.getD off (.undef, .val)) := by simp [List.getD_eq_getElem?_getD, List.getElem?_eq_getElem I4]
   obtain ⟨a1, a2, a3, a4⟩ := l3 0 v _ rfl (by simpa using JQ)
   simp only [Nat.add_zero] at a4
   split at H
   ·cases hd : o.dst with
    | none =>
      rename_i Q4;rw [hd] at Q4;simp [J9] at Q4
    | some t0 =>
      rw [hd] at H;refine Bc R8 ?_;rw [hd];refine T (E.re (Oi (.sp 1 s off) t0)) _ _ w H ((Rl.A84 hb JQ fun T hT => Fx hT).put fun t1 ht => ?_) (Pr.re fun T hT => Fx fun he => hT (by rw [he]; simp [J6]))
      simp only [Option.some.injEq] at ht;subst ht;exact RR.BP (a4.re (Fx (by simp)) (by simp [Oi]))
   ·exact V8 R8 H Rl (fun _ _ => RR.BP (a4.BC a3)) @T
 ·-- an element
  rename_i ag sz off hm;rw [hm] at e1;simp only [RR, J8] at e1;obtain ⟨b, o0, r1, ⟨us, u1, u2, u3⟩, r3⟩ := e1;obtain ⟨I8, H⟩ := L9 H;have l2 : ∀ (j : Nat) v, ((us.drop off).take z.1)[j]? = some v → hc w.heap b (o0 + off + j) = some v := by
   intro j v hv;have hj : j < z.1 := by have := (List.getElem?_eq_some_iff.1 hv).1; simp only [List.length_take, List.length_drop] at this; omega
   rw [List.getElem?_take_of_lt hj, List.getElem?_drop] at hv;rw [Nat.add_assoc];exact (u2 _ v hv).1
  obtain ⟨v, g1, g2, g3⟩ := GN (w := w) hz (vs := (us.drop off).take z.1) (by simp only [List.length_take, List.length_drop]; omega) l2
  have R8 := UX D8 r1 g1
  by_cases h2 : z.2 = true
  ·rw [if_pos h2] at H
   obtain ⟨Kj, H⟩ := F6 H;refine Z7 R8 H Rl ?_ @T;rw [g2 h2];simp only [RV];exact ⟨_, rfl, q_ u3 (by omega)⟩
  ·rw [if_neg h2] at H
   have hv := g3 (by simpa using h2)
   have I4 : off < us.length := by have := JE (by simpa using h2); omega
   have huv : us[off]? = some v := by
    have := congrArg (fun l : List Value => l[0]?) hv
    simp only [List.getElem?_cons_zero] at this;rw [List.getElem?_take_of_lt (by have := JE (by simpa using h2); omega), List.getElem?_drop, Nat.add_zero] at this
    exact this
   refine Z7 R8 H Rl ?_ @T
   split
   ·obtain ⟨q1, q2⟩ := MH u3 huv
    exact Qy q1 q2
   ·rename_i Kj
    have hl := r3 (by simpa using Kj)
    obtain ⟨u, rfl⟩ := MG hl u3;have vD : off = 0 := by simp at I4; omega
    subst vD;simp only [List.getElem?_cons_zero, Option.some.injEq] at huv;subst huv;exact Qy hl u3
 ·-- a shared variable
  rename_i i off hm;rw [hm] at e1;simp only [RR, J8] at e1;obtain ⟨cs, hb, H⟩ := A9 H;have hb := lw hb;have B := Rl.P8 i _ hb;simp only [RO] at B;have one : ∀ (n : Nat) c, cs[n]? = some c → n < cs.length := fun n c hc => (List.getElem?_eq_some_iff.1 hc).1
  by_cases h2 : z.2 = true
  ·rw [if_pos h2] at H
   obtain ⟨hz0, H⟩ := F6 H;obtain ⟨ds, uq, H⟩ := A9 H;obtain ⟨d1, d2⟩ := zx uq;have B7g : z.1 ≠ 0 := by simpa using hz0
   have I8 : off + z.1 ≤ cs.length := by
    have := d2 (z.1 - 1) _ (List.getElem?_eq_getElem (by omega))
    obtain ⟨m, hm, -⟩ := ZY this;have := one _ _ hm;omega
   obtain ⟨vs, l1, l2, l3⟩ := qz B I8;obtain ⟨v, g1, g2, g3⟩ := GN (w := w) hz l1 l2;refine Z7 (UX D8 e1.2 g1) H Rl ?_ @T;rw [g2 h2];simp only [RV];refine ⟨_, rfl, D_.2 ⟨by simp only [d1]; omega, fun j d v hd hv => ?_⟩⟩
   obtain ⟨m, hcm, hm⟩ := ZY (d2 j d hd);obtain ⟨a1, a2, a3, a4⟩ := l3 j v _ (by simpa using hv) hcm
   exact ⟨a1, Qx a1 a2 (g_ hm a4)⟩
  ·rw [if_neg h2] at H
   have A2A := JE (by simpa using h2)
   have fin : ∀ c, cs[off]? = some c → ∃ v, (execOp a.eval o).run C.P w = .ok (.value v) w ∧ M7 c.1 = true ∧ v.oneCell' = true ∧ U8 c.2 = true ∧ J8 E w.heap (.sp 2 i off) c.1 c.2 v := by
    intro c hc;have I8 : off + z.1 ≤ cs.length := by have := one _ _ hc; omega
    obtain ⟨vs, l1, l2, l3⟩ := qz B I8;obtain ⟨v, g1, g2, g3⟩ := GN (w := w) hz l1 l2;have hv := g3 (by simpa using h2)
    subst hv;exact ⟨v, UX D8 e1.2 g1, by simpa using l3 0 v c rfl (by simpa using hc)⟩
   split at H
   ·obtain ⟨j, hj, H⟩ := A9 H
    unfold Jp at hj
    split at hj <;> simp only [Option.some.injEq, reduceCtorEq] at hj
    rename_i hc;subst hj;obtain ⟨v, f1, f2, f3, f4, f5⟩ := fin _ hc;exact V8 f1 H Rl (fun _ _ => RR.BP (by simp only [J8] at f5 ⊢; exact f5)) @T
   ·obtain ⟨j, hj, H⟩ := A9 H
    unfold A2p at hj
    split at hj <;> simp only [Option.some.injEq, reduceCtorEq] at hj
    rename_i hc;subst hj;obtain ⟨v, f1, f2, f3, f4, f5⟩ := fin _ hc;exact V8 f1 H Rl (fun _ _ => RR.BP (by simp only [J8] at f5 ⊢; exact f5)) @T
   ·by_cases Q4 : J9 fl.L8 o.dst = true
    ·rw [if_pos Q4] at H
     obtain ⟨d, hd, H⟩ := A9 H;have hc : ∃ m, cs[off]? = some (d, m) ∧ (m = .full ∨ m = .own) := by
      unfold iG at hd
      split at hd <;> simp only [Option.some.injEq, reduceCtorEq] at hd <;> subst hd
      ·exact ⟨_, ‹_›, .inl rfl⟩
      ·exact ⟨_, ‹_›, .inr rfl⟩
     obtain ⟨m, hc, hm⟩ := hc;obtain ⟨v, f1, f2, f3, f4, f5⟩ := fin _ hc;cases Hl : o.dst with
     | none =>
       rw [Hl] at Q4;simp [J9] at Q4
     | some t0 =>
       rw [Hl] at H;refine Bc f1 ?_;rw [Hl];refine T (E.re (Oi (.sp 2 i off) t0)) _ _ w H ((Rl.A6P hb hc hm fun T hT => Fx hT).put fun t1 ht => ?_) (Pr.re fun T hT => Fx fun he => hT (by rw [he]; simp [J6]))
       simp only [Option.some.injEq] at ht;subst ht;have f6 : J8 (E.re (Oi (.sp 2 i off) t0)) w.heap (.sp 0 t0 0) d m v := f5.re (Fx (by simp)) (by simp [Oi])
       rcases hm with rfl | rfl
       ·-- a slice that ends where its memory does owns what lies behind: nothing
        exact RR.BP f6.lD
       ·exact RR.BP f6
    ·rw [if_neg Q4] at H
     obtain ⟨d, hd, H⟩ := A9 H;obtain ⟨m, hc, hm⟩ := ZY hd;obtain ⟨v, f1, f2, f3, f4, f5⟩ := fin _ hc;exact Z7 f1 H Rl (g_ hm f5) @T
 ·-- an element of a writable array
  rename_i i sz idx off hm;rw [hm] at e1;simp only [RR, J8] at e1;obtain ⟨p, hp, H⟩ := A9 H;obtain ⟨d, hd, H⟩ := A9 H;obtain ⟨Y4, H⟩ := F6 H;obtain ⟨I8, H⟩ := L9 H;have hp := Yn hp;have Y4 : p.1 = sz := by simpa using Y4
  rw [Y4] at hp;have B := Rl.P8 i _ hp;simp only [RO] at B;have hne : p.2 ≠ [] := by intro h; rw [h] at hd; simp at hd
  obtain ⟨c, TT, b1, b2, b3, b4, b5⟩ := B hne;obtain ⟨us, u1, u2, u3⟩ := b5 idx d hd;have l2 : ∀ (j : Nat) v, ((us.drop off).take z.1)[j]? = some v → hc w.heap (E.obj i) (E.base i + idx * sz + off + j) = some v := by
   intro j v hv;have hj : j < z.1 := by have := (List.getElem?_eq_some_iff.1 hv).1; simp only [List.length_take, List.length_drop] at this; omega
   rw [List.getElem?_take_of_lt hj, List.getElem?_drop] at hv;rw [Nat.add_assoc];unfold hc;rw [b1];exact u2 _ v hv
  obtain ⟨v, g1, g2, g3⟩ := GN (w := w) hz (vs := (us.drop off).take z.1) (by simp only [List.length_take, List.length_drop]; omega) l2
  have R8 := UX D8 e1.2 g1
  by_cases h2 : z.2 = true
  ·rw [if_pos h2] at H
   refine Z7 R8 H Rl ?_ @T;rw [g2 h2];simp only [RV];exact ⟨_, rfl, q_ u3 (by omega)⟩
  ·rw [if_neg h2] at H
   have hv := g3 (by simpa using h2)
   have A2A := JE (by simpa using h2)
   have huv : us[off]? = some v := by
    have := congrArg (fun l : List Value => l[0]?) hv
    simp only [List.getElem?_cons_zero] at this;rw [List.getElem?_take_of_lt (by omega), List.getElem?_drop, Nat.add_zero] at this
    exact this
   split at H
   ·obtain ⟨hl, H⟩ := F6 H
    refine Z7 R8 H Rl ?_ @T;obtain ⟨u, rfl⟩ := MG hl u3;have vD : off = 0 := by have := (List.getElem?_eq_some_iff.1 huv).1; simp at this; omega
    subst vD;simp only [List.getElem?_cons_zero, Option.some.injEq] at huv;subst huv;exact Qy hl u3
   ·refine Z7 R8 H Rl ?_ @T
    obtain ⟨q1, q2⟩ := MH u3 huv;exact Qy q1 q2
 ·simp at H
end
end Go.Su

/-
 THE DATA MACHINE, part 12: variables made; values and slices built.
-/
namespace Go.Su
theorem B1m {h : Heap} {ob : Obj} {b : Nat} (hb : b < h.size) : (h.push ob)[b]? = h[b]? := by
 rw [Array.getElem?_push_lt hb, Array.getElem?_eq_getElem hb]
theorem RP {h : Heap} {ob : Obj} : (h.push ob)[h.size]? = some ob := by simp
theorem Pr.push {ch : Tag → Prop} {E E' : Env} {h : Heap} {ob : Obj} (ht : ∀ b o, b < h.size → ¬ ch (E.O b o) → E'.O b o = E.O b o) (hn : E.n ≤ E'.n) (ho : ∀ i, i < E.n → E'.obj i = E.obj i ∧ E'.base i = E.base i ∧ E'.top i = E.top i)
 (hb : ∀ s, ¬ ch (.RN s) → E'.blk s = E.blk s) : Pr ch E h E' (h.push ob) :=
 ⟨by simp, fun b I4 => by rw [B1m I4]; exact V4.refl _ _, ht, hn, ho, hb⟩
theorem A1H {h : Heap} {c : Array Value} {T : TypeId} {f : Nat × Nat} (o : Nat) : hc (h.push (.cells c T f)) h.size o = c[o]? := by
 unfold hc; rw [RP]
theorem zm {d : DV} (h : J4 d = true) : M7 d = true := by cases d <;> simp_all [J4, M7]
theorem A1K {S : Q0} {h : Heap} {d : DV} {v : Value} (hc : J4 d = true) (H : RV S h d v) : v.oneCell' = true := by
 cases d <;> simp only [J4] at hc <;> try contradiction
 ·rw [Bf] at H; subst H; rfl
 ·rw [MI] at H; subst H; rfl
 ·rw [WV] at H; subst H; rfl
 ·obtain ⟨a, len, cap, rfl, -⟩ := Rc H; rfl
 ·simp only [RV] at H; subst H; rfl
 ·rename_i sz d
  exact Gf (d := .UT sz d) rfl (by simpa only [RV] using H)
def Cn (E : Env) (h : Heap) (tg : Tag) (r : DV × Meta) (v : Value) : Prop :=
 M7 r.1 = true ∧ v.oneCell' = true ∧ U8 r.2 = true ∧ J8 E h tg r.1 r.2 v
theorem bn {X : Type} {E : Env} {h : Heap} {k a : Nat} {r : DV × Meta} {v : Value} {K : DV × Meta → Option X} {x : X} (R : RR E h k a r.1 r.2 v) (H : cellOf r K = some x) :
 ∃ c, K c = some x ∧ c.2 = r.2 ∧ Cn E h (.sp k a 0) c v := by
 unfold cellOf at H
 split at H
 ·rename_i hm
  rw [hm] at R;obtain ⟨hc, H⟩ := F6 H;exact ⟨_, H, hm.symm, zm hc, A1K hc R, rfl, R⟩
 ·rename_i hm
  rw [hm] at R;simp only [RR, J8] at R;obtain ⟨r1, ⟨p, n, rfl⟩, sz, ds, r2⟩ := R;exact ⟨_, H, hm.symm, by rw [r2]; rfl, rfl, rfl, r1, ⟨_, _, rfl⟩, _, _, r2⟩
 ·rename_i hm
  rw [hm] at R;simp only [RR, J8] at R;obtain ⟨r1, sz, ds, r2, r3⟩ := R;refine ⟨_, H, hm.symm, by rw [r2]; rfl, ?_, rfl, r1, sz, ds, r2, r3⟩
  rw [r2] at r1;obtain ⟨a, len, cap, rfl, -⟩ := Rc r1;rfl
 ·rename_i hm
  rw [hm] at R;obtain ⟨-, rfl⟩ := (R : _ ∧ _);exact ⟨_, H, hm.symm, rfl, rfl, rfl, rfl, rfl⟩
 ·obtain ⟨hm, H⟩ := F6 H
  refine ⟨_, H, rfl, ?_⟩;have n1 : r.2 ≠ .val := by intro h; simp_all
  have n2 : r.2 ≠ .full := by intro h; simp_all
  have n3 : r.2 ≠ .own := by intro h; simp_all
  have n4 : r.2 ≠ .E_ := by intro h; simp_all
  revert R hm n1 n2 n3 n4
  generalize r.2 = m;intro R hm n1 n2 n3 n4;cases m <;> simp only [U8] at hm <;> simp only [RR, J8] at R <;> try contradiction
  case ptr i o => obtain ⟨r1, rfl⟩ := R; exact ⟨rfl, rfl, rfl, r1, rfl⟩
  case map i => obtain ⟨r1, rfl⟩ := R; exact ⟨rfl, rfl, rfl, r1, rfl⟩
  case PY => subst R; exact ⟨rfl, rfl, rfl, rfl⟩
  case arr i sz off len => obtain ⟨r1, p, cap, rfl, r2⟩ := R; exact ⟨rfl, rfl, rfl, r1, _, _, rfl, r2⟩
  case fn f caps => obtain ⟨rfl, r2⟩ := R; exact ⟨rfl, rfl, rfl, rfl, r2⟩
def FE (E : Env) (h : Heap) (cs : List (DV × Meta)) (vs : List Value) : Prop :=
 cs.length = vs.length ∧ ∀ (j : Nat) r v, cs[j]? = some r → vs[j]? = some v → Cn E h .other r v ∧ r.2 ≠ .own
theorem A6t : ∀ {ds : List DV} {ms : List Meta} {j : Nat} {r : DV × Meta}, (mR ds ms)[j]? = some r → ds[j]? = some r.1 ∧ ms[j]? = some r.2
 | d :: ds, m :: ms, 0, r, h => by simp only [mR, List.getElem?_cons_zero, Option.some.injEq] at h; subst h; simp
 | d :: ds, m :: ms, j + 1, r, h => by simp only [mR, List.getElem?_cons_succ] at h ⊢; exact A6t h
 | [], ms, j, r, h => by simp [mR] at h
 | d :: ds, [], j, r, h => by simp [mR] at h
theorem gY : ∀ {ds : List DV} {ms : List Meta}, ds.length = ms.length → (mR ds ms).length = ds.length
 | d :: ds, m :: ms, h => by simp only [mR, List.length_cons]; rw [gY (by simpa using h)]
 | [], [], _ => rfl
theorem Jr (n o : Nat) (d : DV) : (cells n o d).length = n := by simp [cells]
theorem A3f {n o j : Nat} {d e : DV} (h : (cells n o d)[j]? = some e) : j < n ∧ e = A7 (o + j) d := by
 have hj : j < n := by have := (List.getElem?_eq_some_iff.1 h).1; simpa [cells] using this
 simp only [cells, List.getElem?_map, List.getElem?_range hj, Option.map_some, Option.some.injEq] at h;exact ⟨hj, h.symm⟩
def A0I (E : Env) (h : Heap) (k a : Nat) (cs : List (DV × Meta)) (vs : List Value) : Prop :=
 cs.length = vs.length ∧ ∀ (j : Nat) r v, cs[j]? = some r → vs[j]? = some v → Cn E h (.sp k a (j + 1)) r v
theorem Cn.strip {E : Env} {h : Heap} {tg tg' : Tag} {r : DV × Meta} {v : Value} (H : Cn E h tg r v) : Cn E h tg' (r.1, dm r.2) v ∧ dm r.2 ≠ .own :=
 ⟨⟨H.1, H.2.1, (Su.BC H.2.2.1).2.1, H.2.2.2.BC H.2.2.1⟩, (Su.BC H.2.2.1).2.2⟩
theorem A0I.strip {E : Env} {h : Heap} {k a : Nat} {cs : List (DV × Meta)} {vs : List Value} (H : A0I E h k a cs vs) : FE E h (cs.map fun c => (c.1, dm c.2)) vs := by
 refine ⟨by simpa using H.1, fun j r v hr hv => ?_⟩
 simp only [List.getElem?_map, Option.map_eq_some_iff] at hr;obtain ⟨c, hc, rfl⟩ := hr;exact (H.2 j c v hc hv).strip
theorem A3e {z : Nat} {E : Env} {h : Heap} {k a : Nat} {r : DV × Meta} {v : Value} {cs : List (DV × Meta)} (R : RR E h k a r.1 r.2 v) (hg : D5 z r.1 = true) (GI : iH z r = some cs) :
 cs.length = z ∧ A0I E h k a cs v.cells.toList := by
 unfold iH at GI
 split at GI
 ·rename_i hm
  simp only [Option.some.injEq] at GI;subst GI;rw [hm] at R;obtain ⟨vs, rfl, Y4, hR⟩ := bW hg R;refine ⟨by simp [Jr], by simp [Jr, Value.cells, Y4], fun j r' u hr hu => ?_⟩
  simp only [List.getElem?_map, Option.map_eq_some_iff] at hr;obtain ⟨d, hd, rfl⟩ := hr;obtain ⟨hj, rfl⟩ := A3f hd;obtain ⟨q1, q2⟩ := MH hR (j := 0 + j) (v := u) (by simpa [Value.cells] using hu)
  exact ⟨q1, Gf q1 q2, rfl, Qy q1 q2⟩
 ·rename_i ms hm
  obtain ⟨hl, GI⟩ := L9 GI;simp only [Option.some.injEq] at GI;subst GI;rw [hm] at R;simp only [RR] at R;obtain ⟨ds, vs, hd, rfl, l1, l2, l3⟩ := R;refine ⟨by rw [gY (by rw [Jr, hl])]; exact Jr _ _ _, by rw [gY (by rw [Jr, hl]), Jr]; simp [Value.cells]; omega, fun j r' u hr hu => ?_⟩
  obtain ⟨Km, hr2⟩ := A6t hr;obtain ⟨hj, Km⟩ := A3f Km;have I4 : j < ds.length := by omega
  have hdj : ds[j]? = some r'.1 := by
   rw [Km, hd];simp [A7, List.getD_eq_getElem?_getD, List.getElem?_eq_getElem I4]
  obtain ⟨a1, a2, a4, a5⟩ := l3 j r'.2 r'.1 u hr2 hdj (by simpa [Value.cells] using hu)
  exact ⟨a1, a2, a4, a5⟩
 ·simp at GI
theorem ky {X : Type} {P : Program} {t : TypeId} {z : Nat × Bool} (hz : tz P t = some z) {E : Env} {h : Heap} {k a : Nat} {r : DV × Meta} {v : Value} {K : List (DV × Meta) → Option X} {x : X} (R : RR E h k a r.1 r.2 v) (H : explode P t r K = some x) :
 ∃ cs, K cs = some x ∧ cs.length = z.1 ∧ FE E h cs v.cells.toList := by
 unfold explode at H;obtain ⟨z', Gt, H⟩ := A9 H;rw [hz] at Gt;simp only [Option.some.injEq] at Gt;subst Gt
 split at H
 ·obtain ⟨hg, H⟩ := F6 H
  obtain ⟨cs, GI, H⟩ := A9 H;obtain ⟨l1, l2⟩ := A3e R hg GI;exact ⟨_, H, by simpa using l1, l2.strip⟩
 ·rename_i hz2
  obtain ⟨c, H, hm, p9⟩ := bn R H;have JE : z.1 = 1 := by
   obtain ⟨i, d, -, -, -, h4⟩ := Hy hz;exact h4 (by simpa using hz2)
  have hv : v.cells = #[v] := by
   have := p9.2.1;cases v <;> first | rfl | (simp [Value.oneCell'] at this)
  refine ⟨_, H, JE.symm, by simp [hv], fun j r' u hr hu => ?_⟩
  rw [hv] at hu;cases j with
  | succ j => simp at hr
  | zero =>
    simp only [List.getElem?_cons_zero, Option.some.injEq] at hr hu;subst hr hu;exact p9.strip
theorem A4G {n : Nat} {r : DV × Meta} {cs : List (DV × Meta)} (h : iH n r = some cs) (hr : ∀ ms, r.2 ≠ .AO ms) : ∀ c ∈ cs, c.2 ≠ .own := by
 unfold iH at h
 split at h
 ·simp only [Option.some.injEq] at h
  subst h;intro c hc;obtain ⟨d, -, rfl⟩ := List.mem_map.1 hc;simp
 ·rename_i ms hm; exact absurd hm (hr ms)
 ·cases h
theorem zF {X : Type} {P : Program} {t : TypeId} {z : Nat × Bool} (hz : tz P t = some z) {E : Env} {h : Heap} {k a : Nat} {r : DV × Meta} {v : Value} {K : List (DV × Meta) → Option X} {x : X} (R : RR E h k a r.1 r.2 v) (H : Gn P t r K = some x) :
 ∃ cs, K cs = some x ∧ cs.length = z.1 ∧ A0I E h k a cs v.cells.toList ∧ ((∀ ms, r.2 ≠ .AO ms) → ∀ c ∈ cs, c.2 ≠ .own) := by
 unfold Gn at H;obtain ⟨z', Gt, H⟩ := A9 H;rw [hz] at Gt;simp only [Option.some.injEq] at Gt;subst Gt
 split at H
 ·obtain ⟨hg, H⟩ := F6 H
  obtain ⟨cs, GI, H⟩ := A9 H;obtain ⟨l1, l2⟩ := A3e R hg GI;exact ⟨_, H, l1, l2, A4G GI⟩
 ·rename_i hz2
  obtain ⟨c, H, hm, p9⟩ := bn R H;have JE : z.1 = 1 := by
   obtain ⟨i, d, -, -, -, h4⟩ := Hy hz;exact h4 (by simpa using hz2)
  have hv : v.cells = #[v] := by
   have := p9.2.1;cases v <;> first | rfl | (simp [Value.oneCell'] at this)
  refine ⟨_, H, JE.symm, ⟨by simp [hv], fun j r' u hr hu => ?_⟩, fun _ c' hc' => by simp only [List.mem_singleton] at hc'; subst hc'; exact (Su.BC p9.2.2.1).2.2⟩
  rw [hv] at hu;cases j with
  | succ j => simp at hr
  | zero =>
    simp only [List.getElem?_cons_zero, Option.some.injEq] at hr hu;subst hr hu;exact p9.strip.1
theorem B3p {P : Program} {t : TypeId} {v : Value} {r : DV × Meta} {E : Env} {h : Heap} (H : cst P t v = some r) : Cn E h .other r v ∧ r.2 ≠ .own := by
 have R : RR E h 0 0 r.1 r.2 v := A1j H 0 0;unfold cst at H
 split at H <;> simp only [Option.some.injEq, reduceCtorEq] at H <;> subst H <;> exact ⟨⟨rfl, rfl, rfl, R⟩, by simp⟩
theorem rF {P : Program} {E : Env} {h : Heap} : ∀ {ts : List TypeId} {vs : List Value} {cs : List (DV × Meta)}, WY P ts vs = some cs → FE E h cs vs
 | [], [], cs, H => by simp only [WY, Option.some.injEq] at H; subst H; exact ⟨rfl, by simp⟩
 | [], v :: vs, cs, H => by simp [WY] at H
 | t :: ts, [], cs, H => by simp [WY] at H
 | t :: ts, v :: vs, cs, H => by
   simp only [WY] at H;obtain ⟨r, hr, H⟩ := A9 H;obtain ⟨rs, hrs, H⟩ := A9 H;simp only [Option.some.injEq] at H;subst H;obtain ⟨l1, l2⟩ := rF (E := E) (h := h) hrs;refine ⟨by simp [l1], fun j r' u h1 h2 => ?_⟩
   cases j with
   | zero => simp only [List.getElem?_cons_zero, Option.some.injEq] at h1 h2; subst h1 h2; exact B3p hr
   | succ j => simp only [List.getElem?_cons_succ] at h1 h2; exact l2 j r' u h1 h2
theorem QS {P : Program} {t : TypeId} {cs : List (DV × Meta)} (H : I_ P t = some cs) : ∃ i v, P.info? t = some i ∧ i.zero = some v ∧ ∀ E h, FE E h cs v.cells.toList := by
 unfold I_ at H;obtain ⟨ts, hts, H⟩ := A9 H;obtain ⟨i, hi, H⟩ := A9 H;obtain ⟨v, hv, H⟩ := A9 H;exact ⟨i, v, hi, hv, fun E h => rF H⟩
section
variable {X : Type} {C : V6} {R : N7} {o : Oper} {st : St} {k : St → Option X} {x : X} {E : Env} {a : Act} {w : World} {K : Act → World → Prop} {Q : Exit → Act → World → Prop}
def Env.EA (E : Env) (t0 b n : Nat) : Env :=
 { E with blk := fun s => if s = t0 then b else E.blk s,
          O := fun b' o => if b' = b then (if o < n then .RN t0 else .other) else if E.O b' o = .RN t0 then .other else E.O b' o }
def Env.newObj (E : Env) (b n : Nat) : Env :=
 { E with obj := fun i => if i = E.n then b else E.obj i, base := fun i => if i = E.n then 0 else E.base i, n := E.n + 1,
          O := fun b' o => if b' = b then (if o < n then .obj E.n else .other) else E.O b' o }
theorem Cn.mono {ch : Tag → Prop} {E E' : Env} {h h' : Heap} (H : Pr ch E h E' h') (I8 : V9 E.S h E'.S h') {r : DV × Meta} {v : Value} (hm : r.2 ≠ .own) {tg : Tag} (R : Cn E h .other r v) : Cn E' h' tg r v := by
 obtain ⟨a1, a2, a3, a4⟩ := R;exact ⟨a1, a2, a3, (a4.mono H I8 (fun x => absurd x hm) fun s o hl => by rw [hl] at a3; simp [U8] at a3).tag hm⟩
theorem I9.newObj {cs : List (DV × Meta)} {vs : List Value} {T0 : TypeId} (hc : FE E w.heap cs vs) (Rl : I9 E st a w.heap) :
 I9 (E.newObj w.heap.size cs.length) { st with sg := st.sg ++ [.box cs] } a (w.heap.push (.cells vs.toArray T0)) ∧ Pr (fun _ => False) E w.heap (E.newObj w.heap.size cs.length) (w.heap.push (.cells vs.toArray T0)) := by
 obtain ⟨lc, hc⟩ := hc;have P1 : Pr (fun _ => False) E w.heap (E.newObj w.heap.size cs.length) (w.heap.push (.cells vs.toArray T0)) := by
  refine Pr.push (fun b o hb _ => ?_) (by simp [Env.newObj]) (fun i hi => ?_) (fun _ _ => rfl)
  ·simp only [Env.newObj]; rw [if_neg (by omega)]
  ·refine ⟨?_, ?_, rfl⟩ <;> simp only [Env.newObj] <;> rw [if_neg (by omega)]
 have I8 := P1.shut (by simp) Rl.fresh
 refine ⟨⟨Rl.size, Rl.AZ, Rl.Ca, by simp [Env.newObj, Rl.n], fun t v hv => (Rl.regs t v hv).mono P1 I8 (by simp) (by simp), fun s cs hs => (Rl.boxes s cs hs).mono P1 I8 (by simp) (by simp), fun i ob hi => ?_,
         fun b o hb => ?_⟩, P1⟩
 ·by_cases I4 : i < st.sg.length
  ·rw [List.getElem?_append_left I4] at hi
   exact (Rl.P8 i ob hi).mono P1 I8 (EW Rl hi) (by simp) (by simp)
  ·have Rz : i = st.sg.length := by
    have := (List.getElem?_eq_some_iff.1 hi).1;simp at this; omega
   subst Rz;simp only [List.getElem?_append_right (Nat.le_refl _), Nat.sub_self, List.getElem?_cons_zero, Option.some.injEq] at hi;subst hi;have hn := Rl.n;refine ⟨vs.toArray, T0, ?_, by simp [lc], fun o => ?_, fun j r v hr hv => ?_⟩
   ·simp only [Env.newObj, hn, if_true]; exact RP
   ·by_cases ho : o < cs.length
    ·left; simp only [Env.newObj, hn, if_true, if_pos ho]
    ·right; simp only [List.size_toArray]; omega
   ·obtain ⟨q1, q2⟩ := hc j r v hr (by simpa using hv)
    exact q1.mono P1 I8 q2
 ·simp only [Array.size_push] at hb
  simp only [Env.newObj];rw [if_neg (by omega)]
  exact Rl.fresh b o (by omega)
theorem I9.EA {t0 : Nat} {cs : List (DV × Meta)} {vs : List Value} {T0 : TypeId} (lc : cs.length = vs.length) (hc : ∀ (j : Nat) r v, cs[j]? = some r → vs[j]? = some v → Cn E w.heap (.sp 1 t0 j) r v) (Rl : I9 E st a w.heap) :
 I9 (E.EA t0 w.heap.size cs.length) { st with mt := st.mt.map (Il t0), bx := st.bx.set t0 (some cs) } a (w.heap.push (.cells vs.toArray T0)) ∧ Pr (fun T => T = .RN t0) E w.heap (E.EA t0 w.heap.size cs.length) (w.heap.push (.cells vs.toArray T0)) := by
 have P1 : Pr (fun T => T = .RN t0) E w.heap (E.EA t0 w.heap.size cs.length) (w.heap.push (.cells vs.toArray T0)) := by
  refine Pr.push (fun b o hb hn => ?_) (Nat.le_refl _) (fun i hi => ⟨rfl, rfl, rfl⟩) (fun s hs => ?_)
  ·simp only [Env.EA]; rw [if_neg (by omega), if_neg hn]
  ·simp only [Env.EA]; rw [if_neg (by simpa using hs)]
 have I8 := P1.shut (by simp) Rl.fresh
 refine ⟨?_, P1⟩
 ·refine ⟨Rl.size, by simpa using Rl.AZ, by simpa using Rl.Ca, Rl.n, fun t v hv => ?_, fun s cs' hs => ?_, fun i ob hi => (Rl.P8 i ob hi).mono P1 I8 (EW Rl hi) (by simp) (by simp), fun b o hb => ?_⟩
  ·have h0 := Rl.regs t v hv
   have hg : (St.get { st with mt := st.mt.map (Il t0), bx := st.bx.set t0 (some cs) } t) = ((st.get t).1, Il t0 (st.get t).2) := by
    simp only [St.get, List.getD_eq_getElem?_getD, List.getElem?_map];cases st.mt[t]? <;> rfl
   rw [hg];cases hm : (st.get t).2
   case loc s o =>
    rw [hm] at h0;simp only [RR, J8] at h0;simp only [Il]
    split
    ·rw [h0.1]; simp only [RR, J8, RV]
    ·rename_i hne
     refine ⟨h0.1, ?_⟩;rw [h0.2];simp only [Env.EA]; rw [if_neg hne]
   all_goals
    rw [hm] at h0;simp only [Il];exact h0.mono P1 I8 (by simp) (by simp)
  ·have A0q : t0 = s → s < st.bx.length := by
    intro hts;rcases Nat.lt_or_ge s st.bx.length with h1 | h1
    ·exact h1
    ·simp [List.getD_eq_getElem?_getD, List.getElem?_eq_none (by simpa using h1 : (st.bx.set t0 (some cs)).length ≤ s)] at hs
   by_cases aY : t0 = s
   ·subst aY
    simp only [List.getD_eq_getElem?_getD, List.getElem?_set_self (A0q rfl), Option.getD_some, Option.some.injEq] at hs;subst hs;refine ⟨vs.toArray, T0, ?_, by simp [lc], fun o => ?_, fun j r v hr hv => ?_⟩
    ·simp only [Env.EA, if_true]; exact RP
    ·by_cases ho : o < cs.length
     ·left; simp only [Env.EA, if_true, if_pos ho]
     ·right; simp only [List.size_toArray]; omega
    ·obtain ⟨q1, q2, q3, q4⟩ := hc j r v hr (by simpa using hv)
     exact ⟨q1, q2, q3, q4.mono P1 I8 (fun _ => by simp) fun s o hl => by rw [hl] at q3; simp [U8] at q3⟩
   ·simp only [List.getD_eq_getElem?_getD, List.getElem?_set_ne aY] at hs
    have B := Rl.boxes s cs' (by simpa [List.getD_eq_getElem?_getD] using hs)
    have hne : ¬ s = t0 := fun h => aY h.symm
    have := B.mono P1 I8 (tg := .RN s) (by simpa using hne) (by simp)
    simp only [Env.EA] at this ⊢;rw [if_neg hne];exact this
  ·simp only [Array.size_push] at hb
   simp only [Env.EA];rw [if_neg (by omega)]
   have := Rl.fresh b o (by omega)
   rw [this];simp
theorem A1V {sh : Bool} {cs : List (DV × Meta)} {vs : List Value} {T0 : TypeId} (hc : FE E w.heap cs vs)
 (H : k (st.Dx sh o.dst cs) = some x) (hr : (execOp a.eval o).run C.P w = .ok (.value (.pointer (some ⟨w.heap.size, 0, none⟩))) (w.alloc (.cells vs.toArray T0))) (Rl : I9 E st a w.heap) (T : Then E w k x K) : Gp C.P o a w K := by
 refine Bc hr ?_;obtain ⟨lc, hc⟩ := hc;cases hd : o.dst with
 | none =>
   rw [hd] at H;simp only [St.Dx] at H;have P1 : Pr (fun _ => False) E w.heap E (w.heap.push (.cells vs.toArray T0)) := Pr.push (fun _ _ _ _ => rfl) (Nat.le_refl _) (fun _ _ => ⟨rfl, rfl, rfl⟩) (fun _ _ => rfl)
   have I8 := P1.shut (by simp) Rl.fresh
   refine T E st _ (w.alloc (.cells vs.toArray T0)) H ?_ (P1.weaken (by simp))
   exact ⟨Rl.size, Rl.AZ, Rl.Ca, Rl.n, fun t v hv => (Rl.regs t v hv).mono P1 I8 (by simp) (by simp), fun s cs hs => (Rl.boxes s cs hs).mono P1 I8 (by simp) (by simp), fun i ob hi => (Rl.P8 i ob hi).mono P1 I8 (EW Rl hi) (by simp) (by simp),
    fun b o hb => Rl.fresh b o (by simp at hb; omega)⟩
 | some t0 =>
   rw [hd] at H;cases sh with
   | true =>
     simp only [St.Dx, if_true] at H;have P1 : Pr (fun _ => False) E w.heap (E.newObj w.heap.size cs.length) (w.heap.push (.cells vs.toArray T0)) := by
      refine Pr.push (fun b o hb _ => ?_) (by simp [Env.newObj]) (fun i hi => ?_) (fun _ _ => rfl)
      ·simp only [Env.newObj]; rw [if_neg (by omega)]
      ·refine ⟨?_, ?_, rfl⟩ <;> simp only [Env.newObj] <;> rw [if_neg (by omega)]
     have I8 := P1.shut (by simp) Rl.fresh
     have R1 : I9 (E.newObj w.heap.size cs.length) { st with sg := st.sg ++ [.box cs] } a (w.heap.push (.cells vs.toArray T0)) := by
      refine ⟨Rl.size, Rl.AZ, Rl.Ca, by simp [Env.newObj, Rl.n], fun t v hv => (Rl.regs t v hv).mono P1 I8 (by simp) (by simp), fun s cs hs => (Rl.boxes s cs hs).mono P1 I8 (by simp) (by simp), fun i ob hi => ?_,
       fun b o hb => ?_⟩
      ·by_cases I4 : i < st.sg.length
       ·rw [List.getElem?_append_left I4] at hi
        exact (Rl.P8 i ob hi).mono P1 I8 (EW Rl hi) (by simp) (by simp)
       ·have Rz : i = st.sg.length := by
         have := (List.getElem?_eq_some_iff.1 hi).1;simp at this; omega
        subst Rz;simp only [List.getElem?_append_right (Nat.le_refl _), Nat.sub_self, List.getElem?_cons_zero, Option.some.injEq] at hi;subst hi;have hn := Rl.n;refine ⟨vs.toArray, T0, ?_, by simp [lc], fun o => ?_, fun j r v hr hv => ?_⟩
        ·simp only [Env.newObj, hn, if_true]; exact RP
        ·by_cases ho : o < cs.length
         ·left; simp only [Env.newObj, hn, if_true, if_pos ho]
         ·right; simp only [List.size_toArray]; omega
        ·obtain ⟨q1, q2⟩ := hc j r v hr (by simpa using hv)
         exact q1.mono P1 I8 q2
      ·simp only [Array.size_push] at hb
       simp only [Env.newObj];rw [if_neg (by omega)]
       exact Rl.fresh b o (by omega)
     refine T (E.newObj w.heap.size cs.length) _ _ (w.alloc (.cells vs.toArray T0)) H (R1.put fun t1 _ => ?_) (P1.weaken (by simp))
     refine RR.BP ⟨by simp [Env.newObj, Rl.n], ?_⟩
     simp only [Env.newObj, Rl.n, if_true]
   | false =>
     simp only [St.Dx, Bool.false_eq_true, if_false] at H;obtain ⟨R1, P1⟩ := Rl.EA (t0 := t0) (T0 := T0) lc fun j r v hr hv => ⟨(hc j r v hr hv).1.1, (hc j r v hr hv).1.2.1, (hc j r v hr hv).1.2.2.1, (hc j r v hr hv).1.2.2.2.tag (hc j r v hr hv).2⟩
     refine T (E.EA t0 w.heap.size cs.length) _ _ (w.alloc (.cells vs.toArray T0)) H (R1.put fun t1 ht => ?_) (P1.weaken (by rintro T rfl; simp [J6]))
     simp only [Option.some.injEq] at ht;subst ht;refine RR.BP ⟨rfl, ?_⟩;simp only [Env.EA, if_true]
end
end Go.Su

/-
 THE DATA MACHINE, part 13: new variables, structs and slices built, maps made, functions made.
-/
namespace Go.Su
theorem mF (vs : List Value) (off : Nat) : ∀ (cells : Array Value) (n : Nat), off + n + vs.length ≤ cells.size → ∀ j,
 ((vs.zipIdx n).foldl (fun (cs : Array Value) (p : Value × Nat) => cs.setIfInBounds (off + p.2) p.1) cells)[j]? = if off + n ≤ j ∧ j < off + n + vs.length then vs[j - (off + n)]? else cells[j]? := by
 induction vs with
 | nil =>
   intro cells n _ j;simp only [List.zipIdx_nil, List.foldl_nil, List.length_nil, Nat.add_zero];rw [if_neg (by omega)]
 | cons v vs ih =>
   intro cells n hn j;simp only [List.zipIdx_cons, List.foldl_cons, List.length_cons] at hn ⊢;rw [ih _ (n + 1) (by simp; omega) j]
   by_cases h1 : j = off + n
   ·subst h1
    rw [if_neg (by omega), if_pos (by omega)]
    simp only [Nat.sub_self, List.getElem?_cons_zero];rw [Array.getElem?_setIfInBounds_self_of_lt (by omega)]
   ·by_cases h2 : off + (n + 1) ≤ j ∧ j < off + (n + 1) + vs.length
    ·rw [if_pos h2, if_pos (by omega)]
     rw [show j - (off + n) = (j - (off + (n + 1))) + 1 from by omega, List.getElem?_cons_succ]
    ·rw [if_neg h2, if_neg (by omega), Array.getElem?_setIfInBounds_ne (Ne.symm h1)]
theorem A0c (vs : List Value) (off : Nat) : ∀ (cells : Array Value) (n : Nat), ((vs.zipIdx n).foldl (fun (cs : Array Value) (p : Value × Nat) => cs.setIfInBounds (off + p.2) p.1) cells).size = cells.size := by
 induction vs with
 | nil => intro cells n; simp
 | cons v vs ih => intro cells n; simp [List.zipIdx_cons, ih]
def splice (cells : Array Value) (off : Nat) (v : Value) : Array Value := v.cells.zipIdx.foldl (fun cs (c, j) => cs.setIfInBounds (off + j) c) cells
theorem A3J (cells : Array Value) (off : Nat) (v : Value) : splice cells off v = (v.cells.toList.zipIdx 0).foldl (fun (cs : Array Value) (p : Value × Nat) => cs.setIfInBounds (off + p.2) p.1) cells := by
 unfold splice;rw [← Array.foldl_toList];simp
theorem A3m (place : Nat → Option (Nat × Nat)) (cells : Array Value) (i : Nat) (v : Value) (rest : List (Nat × Value)) {off size : Nat} (h1 : place i = some (off, size)) (h2 : v.cells.size = size) (h3 : off + size ≤ cells.size) :
 Instr.fill place cells ((i, v) :: rest) = Instr.fill place (splice cells off v) rest := by
 simp only [Instr.fill, h1];rw [if_neg (by simp only [h2, ne_eq, not_true_eq_false, Bool.false_eq_true, false_or, decide_false, Bool.or_eq_true, decide_eq_true_eq]; omega)]
 rfl
theorem A5p {α β : Type} {f : α → Option β} : ∀ {l : List α} {r : List β}, l.mapM f = some r → ∀ (i : Nat) y, l[i]? = some y → ∃ z, f y = some z ∧ r[i]? = some z
 | [], r, h, i, y, hy => by simp at hy
 | u :: us, r, h, i, y, hy => by
   simp only [List.mapM_cons, Option.bind_eq_bind, Option.pure_def, Option.bind_eq_some_iff] at h;obtain ⟨z, hz, zs, aZ, hr⟩ := h;simp only [Option.some.injEq] at hr;subst hr;cases i with
   | zero => simp only [List.getElem?_cons_zero, Option.some.injEq] at hy; subst hy; exact ⟨z, hz, rfl⟩
   | succ i => simp only [List.getElem?_cons_succ] at hy ⊢; exact A5p aZ i y hy
section
variable {X : Type} {C : V6} {R : N7} {o : Oper} {st : St} {k : St → Option X} {x : X} {E : Env} {a : Act} {w : World} {K : Act → World → Prop} {Q : Exit → Act → World → Prop}
theorem FE.splice {h : Heap} {cs xs : List (DV × Meta)} {arr : Array Value} {v : Value} {off : Nat} (H : FE E h cs arr.toList) (G : FE E h xs v.cells.toList) (I8 : off + xs.length ≤ cs.length) :
 FE E h (putAt cs off xs) (Su.splice arr off v).toList := by
 obtain ⟨l1, l2⟩ := H;obtain ⟨g1, g2⟩ := G;have l1' : cs.length = arr.size := by simpa using l1
 have g1' : xs.length = v.cells.toList.length := g1;rw [A3J];refine ⟨by rw [av I8]; simp [A0c, l1'], fun j r u hr hu => ?_⟩
 rw [eH I8] at hr;have PN := hu;rw [Array.getElem?_toList, mF _ _ _ _ (by omega)] at PN
 simp only [Nat.add_zero] at PN
 by_cases hc : off ≤ j ∧ j < off + xs.length
 ·rw [if_pos hc] at hr
  rw [if_pos (by omega)] at PN
  exact g2 _ r u hr PN
 ·rw [if_neg hc] at hr
  rw [if_neg (by omega)] at PN
  exact l2 j r u hr (by simpa using PN)
theorem nC {t : TypeId} {fs : Array Field} {pl : List (Nat × Nat)} (hu : C.P.underlying t = some (.struct fs)) (hp : fs.toList.mapM (fun f => (C.P.info? f.type).map fun i => (f.offset, i.size)) = some pl) (Rl : I9 E st a w.heap)
 {F : List (DV × Meta) → Option X} : ∀ (ps : List (Nat × Operand)) (cs : List (DV × Meta)) (arr : Array Value), Fv C.P t st ps cs F = some x → FE E w.heap cs arr.toList →
 ∃ cs' arr', F cs' = some x ∧ Instr.fill (pl.toArray[·]?) arr (ps.map fun p => (p.1, a.eval p.2)) = some arr' ∧ FE E w.heap cs' arr'.toList
 | [], cs, arr, H, G => ⟨cs, arr, H, rfl, G⟩
 | (i, y) :: ps, cs, arr, H, G => by
   simp only [Fv] at H;obtain ⟨f, hf, H⟩ := A9 H;obtain ⟨r, hr, H⟩ := A9 H;have hfi : fs.toList[i]? = some f := by
    unfold VW at hf;rw [hu] at hf;simpa using hf
   obtain ⟨z, hz, hzi⟩ := A5p hp i f hfi;simp only [Option.map_eq_some_iff] at hz;obtain ⟨inf, Ct, rfl⟩ := hz;have qA : ∃ z, tz C.P f.type = some z := by
    unfold explode at H;obtain ⟨z, hz, -⟩ := A9 H;exact ⟨z, hz⟩
   obtain ⟨z, qA⟩ := qA;obtain ⟨xs, H, hl, p9⟩ := ky qA (Rl.src hr) H;obtain ⟨I8, H⟩ := L9 H;have Y4 : z.1 = inf.size := by
    obtain ⟨i', d', h1, -, h2, -⟩ := Hy qA;rw [Ct] at h1;simp only [Option.some.injEq] at h1;rw [h2, h1]
   have Uq : cs.length = arr.size := by simpa using G.1
   have Mx : (a.eval y).cells.size = inf.size := by have := p9.1; simp at this; omega
   obtain ⟨cs', arr', q1, q2, q3⟩ := nC hu hp Rl ps _ _ H (G.splice p9 I8);refine ⟨cs', arr', q1, ?_, q3⟩;rw [List.map_cons, A3m _ _ _ _ _ (off := f.offset) (size := inf.size) (by simpa using hzi) Mx (by omega)]
   exact q2
theorem A94 {t : TypeId} {ps : Array (Nat × Operand)} (D8 : o.op = .build t ps)
 (H : (ob (I_ C.P t) fun zs => ob (places C.P t) fun _ => Fv C.P t st ps.toList zs fun cs => k (st.put o.dst (bY cs).1 (bY cs).2)) = some x)
 (Rl : I9 E st a w.heap) (T : Then E w k x K) : Gp C.P o a w K := by
 obtain ⟨zs, aZ, H⟩ := A9 H;obtain ⟨pl, aX, H⟩ := A9 H;obtain ⟨inf, zv, Ct, Wx, p9⟩ := QS aZ;unfold places at aX
 split at aX
 ·rename_i fs hu
  obtain ⟨cs, arr, H, A79, GI⟩ := nC hu aX Rl ps.toList zs zv.cells H (p9 E w.heap);have hb : C.P.built t (ps.map fun (i, y) => (i, a.eval y)).toList = some arr := by
   unfold Program.built;simp only [Ct, hu, Wx, aX];rw [← A79];simp
  refine V8 (v := .agg arr) ?_ H Rl (fun t0 _ => ?_) @T
  ·simp only [execOp, D8]
   exact Ck (run_build w t _ arr hb)
  ·have := A0f (E := E) (w := w) (cs := cs) (vs := arr.toList) GI.1.symm (fun j v r hv hr => let ⟨⟨a1, a2, a3, a4⟩, _⟩ := GI.2 j r v hr hv; ⟨a1, a2, a3, _, a4⟩) 0 t0
   simpa using this
 ·simp at aX
theorem A93 {fl : Flags} {t : TypeId} (D8 : o.op = .alloc t) (H : (ob (I_ C.P t) fun cs => og (Od (J9 fl.shared o.dst) o.dst st) (k (st.Dx (J9 fl.shared o.dst) o.dst cs))) = some x)
 (Rl : I9 E st a w.heap) (T : Then E w k x K) : Gp C.P o a w K := by
 obtain ⟨zs, aZ, H⟩ := A9 H;obtain ⟨inf, zv, Ct, Wx, p9⟩ := QS aZ;obtain ⟨_, H9⟩ := F6 H;refine A1V (p9 E w.heap) H9 (T0 := t) ?_ Rl @T;simp only [execOp, D8];refine Ck ?_;unfold Instr.alloc;simp [zeroValue, typeInfo, Ct, Wx, newVar, newRow]
def kT (S : Q0) (h : Heap) (sz : Nat) (ds : List DV) (arr : Array Value) : Prop :=
 arr.size = ds.length * sz ∧ ∀ (i : Nat) d, ds[i]? = some d → ∃ vs : List Value, vs.length = sz ∧ (∀ (j : Nat) u, vs[j]? = some u → arr[i * sz + j]? = some u) ∧ RC S h d vs
theorem seg_lt {sz i j n : Nat} (hi : i < n) (hj : j < sz) : i * sz + j < n * sz := by
 calc i * sz + j < i * sz + sz := by omega
  _ = (i + 1) * sz := by rw [Nat.succ_mul]
  _ ≤ n * sz := Nat.mul_le_mul_right _ hi
theorem A5M {sz i i' j j' : Nat} (hj : j < sz) (Dq : j' < sz) (h : i * sz + j = i' * sz + j') : i = i' := by
 have hpos : 0 < sz := by omega
 have h1 : (i * sz + j) / sz = i := by rw [Nat.mul_comm, Nat.mul_add_div hpos, Nat.div_eq_of_lt hj, Nat.add_zero]
 have h2 : (i' * sz + j') / sz = i' := by rw [Nat.mul_comm, Nat.mul_add_div hpos, Nat.div_eq_of_lt Dq, Nat.add_zero]
 rw [← h1, ← h2, h]
theorem kY {z : Nat × Bool} (JE : z.2 = false → z.1 = 1) {h : Heap} {p q : Nat} {r : DV × Meta} {v : Value} {F : DV → Option X} (R : RR E h p q r.1 r.2 v) (H : ML z r F = some x) :
 F r.1 = some x ∧ v.cells.size = z.1 ∧ RC E.S h r.1 v.cells.toList := by
 unfold ML at H;obtain ⟨hd, H⟩ := F6 H;have R1 := R.data hd
 by_cases h2 : z.2 = true
 ·rw [if_pos h2] at H
  obtain ⟨hg, H⟩ := F6 H;obtain ⟨vs, rfl, hs, hR⟩ := bW hg R1;exact ⟨H, hs, hR⟩
 ·rw [if_neg h2] at H
  obtain ⟨hc, H⟩ := F6 H;have ho := A1K hc R1;have hv : v.cells = #[v] := by cases v <;> first | rfl | (simp [Value.oneCell'] at ho)
  refine ⟨H, by rw [hv, JE (by simpa using h2)]; rfl, ?_⟩
  rw [hv];exact Qx (zm hc) ho R1
theorem kT.splice {h : Heap} {sz i : Nat} {ds : List DV} {d : DV} {arr : Array Value} {v : Value} (H : kT E.S h sz ds arr) (hi : i < ds.length) (hs : v.cells.size = sz) (hR : RC E.S h d v.cells.toList) :
 kT E.S h sz (ds.set i d) (Su.splice arr (i * sz) v) := by
 obtain ⟨l1, l2⟩ := H;have Z0 : v.cells.toList.length = sz := by simpa using hs
 have EI : i * sz + 0 + v.cells.toList.length ≤ arr.size := by
  rw [l1, Z0, Nat.add_zero, ← Nat.succ_mul];exact Nat.mul_le_mul_right _ hi
 rw [A3J];refine ⟨by rw [A0c, l1, List.length_set], fun i' d' GJ => ?_⟩
 by_cases GK : i = i'
 ·subst GK
  rw [List.getElem?_set_self hi] at GJ;simp only [Option.some.injEq] at GJ;subst GJ;refine ⟨v.cells.toList, Z0, fun j u hu => ?_, hR⟩
  have hj : j < sz := by have := (List.getElem?_eq_some_iff.1 hu).1; omega
  rw [mF _ _ _ _ EI, if_pos (by omega)]
  rw [← hu]
  congr 1
  omega
 ·rw [List.getElem?_set_ne GK] at GJ
  obtain ⟨us, u1, u2, u3⟩ := l2 i' d' GJ;refine ⟨us, u1, fun j u hu => ?_, u3⟩
  have hj : j < sz := by have := (List.getElem?_eq_some_iff.1 hu).1; omega
  rw [mF _ _ _ _ EI, if_neg, u2 j u hu];rintro ⟨c1, c2⟩;exact GK (A5M (j := i' * sz + j - i * sz) (j' := j) (by omega) hj (by omega))
theorem I9.gV {P : Program} {t : TypeId} (Rl : I9 E st a w.heap) {y : Operand} {r : DV × Meta} (H : gV P t st y = some r) : RR E w.heap 0 (jw y) r.1 r.2 (a.eval y) := by
 unfold Su.gV at H
 split at H
 ·rename_i vs
  obtain ⟨ts, h1, H⟩ := A9 H;obtain ⟨rs, h2, H⟩ := A9 H;obtain ⟨hd, H⟩ := F6 H;simp only [Option.some.injEq] at H;subst H;have G := rF (E := E) (h := w.heap) h2
  show RV E.S w.heap (.agg _) (.agg vs)
  simp only [RV];refine ⟨vs, rfl, D_.2 ⟨by simpa using G.1, fun j d u hj hu => ?_⟩⟩
  rw [List.getElem?_map] at hj;cases hr : rs[j]? with
  | none => rw [hr] at hj; cases hj
  | some r =>
    rw [hr, Option.map_some, Option.some.injEq] at hj;subst hj;obtain ⟨⟨a1, a2, a3, a4⟩, a5⟩ := G.2 j r u hr (by simpa using hu)
    have gK := List.all_eq_true.1 hd r (List.mem_of_getElem? hr);exact ⟨a1, Qx a1 a2 (RR.data (k := 9) (a := 0) gK (RR.BP (a4.tag a5)))⟩
 ·exact Rl.src H
theorem qG {e : TypeId} {z : Nat × Bool} (JE : z.2 = false → z.1 = 1) (Rl : I9 E st a w.heap) {F : List DV → Option X} : ∀ (ps : List (Nat × Operand)) (ds : List DV) (arr : Array Value), GA C.P e z st ps ds F = some x → kT E.S w.heap z.1 ds arr →
 ∃ ds' arr', F ds' = some x ∧ ds'.length = ds.length ∧ Instr.fill (fun i => some (i * z.1, z.1)) arr (ps.map fun p => (p.1, a.eval p.2)) = some arr' ∧ kT E.S w.heap z.1 ds' arr'
 | [], ds, arr, H, G => ⟨ds, arr, H, rfl, rfl, G⟩
 | (i, y) :: ps, ds, arr, H, G => by
   simp only [GA] at H;obtain ⟨r, hr, H⟩ := A9 H;obtain ⟨H, hs, hR⟩ := kY JE (Rl.gV hr) H;obtain ⟨hi, H⟩ := L9 H;obtain ⟨ds', arr', q1, q2, q3, q4⟩ := qG JE Rl ps _ _ H (G.splice hi hs hR);refine ⟨ds', arr', q1, by simpa using q2, ?_, q4⟩
   rw [List.map_cons, A3m _ _ _ _ _ (off := i * z.1) (size := z.1) rfl hs ?_]
   ·exact q3
   ·rw [G.1, ← Nat.succ_mul]
    exact Nat.mul_le_mul_right _ hi
def Env.Om (E : Env) (b n : Nat) : Env := { E with O := fun b' o => if b' = b then (if o < n then .shut else .other) else E.O b' o }
theorem lV (E : Env) (h : Heap) (ob : Obj) (n : Nat) : Pr (fun _ => False) E h (E.Om h.size n) (h.push ob) := by
 refine Pr.push (fun b o hb _ => ?_) (Nat.le_refl _) (fun _ _ => ⟨rfl, rfl, rfl⟩) (fun _ _ => rfl)
 simp only [Env.Om]; rw [if_neg (by omega)]
theorem I9.push {E' : Env} {h : Heap} {ob : Obj} (Rl : I9 E st a h) (P : Pr (fun _ => False) E h E' (h.push ob)) (hn : E'.n = E.n) (hf : ∀ b o, (h.push ob).size ≤ b → E'.O b o = .other) : I9 E' st a (h.push ob) := by
 have I8 := P.shut (by simp) Rl.fresh
 exact ⟨Rl.size, Rl.AZ, Rl.Ca, by rw [hn]; exact Rl.n, fun t v hv => (Rl.regs t v hv).mono P I8 (by simp) (by simp), fun s cs hs => by rw [P.fV s (by simp)]; exact (Rl.boxes s cs hs).mono P I8 (by simp) (by simp),
  fun i ob hi => (Rl.P8 i ob hi).mono P I8 (by rw [← Rl.n]; exact (List.getElem?_eq_some_iff.1 hi).1) (by simp) (by simp), hf⟩
theorem A6O {h : Heap} {sz : Nat} {ds : List DV} {arr : Array Value} {T0 : TypeId} (hf : ∀ b o, h.size ≤ b → E.O b o = .other) (H : kT E.S h sz ds arr) (hpos : ds ≠ [] → 0 < sz) :
 RV (E.Om h.size arr.size).S (h.push (.cells arr T0)) (.list sz ds) (.slice (some ⟨h.size, 0, none⟩) ds.length ds.length) := by
 have P := lV E h (.cells arr T0) arr.size;have I8 := P.shut (by simp) hf
 refine Sz rfl (Nat.le_refl _) (by simp) hpos fun y hy => ?_
 simp only [Option.some.injEq] at hy;subst hy;refine ⟨fun _ => rfl, C_.2 fun i d hd => ?_⟩
 obtain ⟨vs, v1, v2, v3⟩ := H.2 i d hd;refine ⟨vs, v1, fun j u hu => ?_, v3.mono I8⟩
 have hj : j < sz := by have := (List.getElem?_eq_some_iff.1 hu).1; omega
 have hi : i < ds.length := (List.getElem?_eq_some_iff.1 hd).1;have I4 := seg_lt hi hj;refine ⟨by rw [Nat.zero_add, A1H]; exact v2 j u hu, ?_⟩
 simp only [Env.S, Env.Om, if_true];rw [if_pos (by rw [H.1]; omega)]
theorem A69 {z : Nat × Bool} {h : Heap} {cs : List (DV × Meta)} {ze : DV} {zv : Value} (H : mP z cs = some ze) (G : FE E h cs zv.cells.toList) (hd : cs.all (fun c => J2 c.2) = true) : RC E.S h ze zv.cells.toList := by
 have one : ∀ (j : Nat) r u, cs[j]? = some r → zv.cells.toList[j]? = some u → M7 r.1 = true ∧ RC E.S h r.1 [u] := by
  intro j r u hr hu;obtain ⟨⟨a1, a2, a3, a4⟩, a5⟩ := G.2 j r u hr hu;have gK := List.all_eq_true.1 hd r (List.mem_of_getElem? hr);refine ⟨a1, Qx a1 a2 ?_⟩;exact RR.data (k := 9) (a := 0) gK (RR.BP (a4.tag a5))
 unfold mP at H
 split at H
 ·simp only [Option.some.injEq] at H
  subst H;simp only [RC];refine D_.2 ⟨by simpa using G.1, fun j d u hj hu => ?_⟩
  simp only [List.getElem?_map, Option.map_eq_some_iff] at hj;obtain ⟨r, hr, rfl⟩ := hj;exact one j r u hr hu
 ·split at H
  ·rename_i c
   simp only [Option.some.injEq] at H;subst H;have Z0 : zv.cells.toList.length = 1 := by simpa using G.1.symm
   match hz : zv.cells.toList, Z0 with
   | [u], _ => exact (one 0 c u rfl (by rw [hz]; rfl)).2
  ·simp at H
theorem A2P {t : TypeId} {n : Nat} {ps : Array (Nat × Operand)} (D8 : o.op = .buildSlice t n ps)
 (H : (ob (Ml C.P t) fun e => ob (tz C.P e) fun z => ob (I_ C.P e) fun zs => ob (mP z zs) fun ze =>
   if (n * z.1 ≤ 2 ^ 24 ∧ z.1 ≠ 0) ∧ zs.length = z.1 ∧ zs.all (fun c => J2 c.2) = true then GA C.P e z st ps.toList (List.replicate n ze) fun ds => k (st.put o.dst (.list z.1 ds) .full) else none) = some x)
 (Rl : I9 E st a w.heap) (T : Then E w k x K) : Gp C.P o a w K := by
 obtain ⟨e, he, H⟩ := A9 H;obtain ⟨z, hz, H⟩ := A9 H;obtain ⟨zs, aZ, H⟩ := A9 H;obtain ⟨ze, jq, H⟩ := A9 H;obtain ⟨⟨⟨B62, hz0⟩, hzl, gK⟩, H⟩ := L9 H;have hu : C.P.underlying t = some (.slice e) := by
  unfold Ml at he
  split at he
  ·simp only [Option.some.injEq] at he; subst he; assumption
  ·simp at he
 obtain ⟨inf, zv, Ct, Wx, p9⟩ := QS aZ;obtain ⟨inf', dsc, A8a, hue, hzz, JE⟩ := Hy hz;rw [Ct] at A8a;simp only [Option.some.injEq] at A8a;subst A8a;have A2A : z.1 = inf.size := by rw [hzz]
 have B3Z : zv.cells.size = z.1 := by have := (p9 E w.heap).1; simp at this; omega
 have hRC := A69 (E := E) (h := w.heap) jq (p9 E w.heap) gK;have A8d : kT E.S w.heap z.1 (List.replicate n ze) ((Array.range (n * z.1)).map (zv.cells[· % zv.cells.size]!)) := by
  refine ⟨by simp, fun i d hd => ?_⟩
  have hi : i < n := by have := (List.getElem?_eq_some_iff.1 hd).1; simpa using this
  rw [List.getElem?_replicate, if_pos hi] at hd;simp only [Option.some.injEq] at hd;subst hd;refine ⟨zv.cells.toList, by simpa using B3Z, fun j u hu => ?_, hRC⟩
  have hj : j < z.1 := by have := (List.getElem?_eq_some_iff.1 hu).1; simp at this; omega
  have I4 := seg_lt hi hj;rw [Array.getElem?_map, Array.getElem?_range, if_pos I4];simp only [Option.map_some, Option.some.injEq];rw [B3Z, Nat.mul_comm, Nat.mul_add_mod, Nat.mod_eq_of_lt hj];rw [getElem!_def, show zv.cells[j]? = some u from by simpa using hu]
 obtain ⟨ds, arr, H, hdl, A79, hsg⟩ := qG JE Rl ps.toList _ _ H A8d;have hdn : ds.length = n := by simpa using hdl
 have P1 := lV E w.heap (.cells arr e) arr.size;have R8 : (execOp a.eval o).run C.P w = .ok (.value (.slice (some ⟨w.heap.size, 0, none⟩) n n)) (w.alloc (.cells arr e)) := by
  simp only [execOp, D8];refine Ck ?_;unfold Instr.buildSlice;have A5f : Instr.fill (fun i => some (i * z.1, z.1)) ((Array.range (n * z.1)).map (zv.cells[· % zv.cells.size]!)) (ps.map fun (i, y) => (i, a.eval y)).toList = some arr := by
   rw [← A79]; simp
  simp only [Sem.run_bind, run_underlying hu, Result.andThen_ok, OA hz, Sem.run_ite];rw [if_neg (by omega)]
  by_cases hn0 : n * z.1 = 0
  ·have : ((Array.range (n * z.1)).map (zv.cells[· % zv.cells.size]!)) = ((Array.range (n * z.1)).map ((#[] : Array Value)[· % (#[] : Array Value).size]!)) := by rw [hn0]; simp
   rw [this] at A5f;simp only [Sem.run_pure, Result.andThen_ok, if_pos hn0, A5f];rfl
  ·simp only [if_neg hn0, zeroValue, typeInfo, Sem.run_bind, run_program, Result.andThen_ok, Ct, Sem.run_pure, Wx, A5f]
   rfl
 refine Bc R8 (T (E.Om w.heap.size arr.size) _ _ (w.alloc (.cells arr e)) H ((Rl.push P1 rfl fun b o hb => ?_).put fun t0 _ => ?_) (P1.weaken (by simp)))
 ·simp only [Array.size_push] at hb
  simp only [Env.Om];rw [if_neg (by omega)]
  exact Rl.fresh b o (by omega)
 ·refine ⟨?_, ⟨_, _, rfl⟩, _, _, rfl⟩
  have := A6O (T0 := e) Rl.fresh hsg (fun _ => by omega)
  rw [hdn] at this;exact this
def Pt (y : Operand) (t off : Nat) (T : Tag) : Tag :=
 match y, T with
 | .tmp s', .sp 0 s (b + 1) => if s' = s then .sp 1 t (off + b) else .sp 0 s (b + 1)
 | _, T => T
theorem NI {y : Operand} {t off : Nat} {T : Tag} (h : ∀ s b, y = .tmp s → T ≠ .sp 0 s b) : Pt y t off T = T := by
 unfold Pt
 split
 ·split
  ·rename_i hx; subst hx; exact absurd rfl (h _ _ rfl)
  ·rfl
 ·rfl
theorem Cn.box {E : Env} {h : Heap} {y : Operand} {t off j : Nat} {r : DV × Meta} {v : Value} (hy : (∀ i, y ≠ .tmp i) → r.2 ≠ .own) (H : Cn E h (.sp 0 (jw y) (j + 1)) r v) : Cn (E.re (Pt y t off)) h (.sp 1 t (off + j)) r v := by
 obtain ⟨a1, a2, a3, a4⟩ := H;refine ⟨a1, a2, a3, ?_⟩
 by_cases hx : ∃ i, y = .tmp i
 ·obtain ⟨i, rfl⟩ := hx
  exact a4.re (NI (by simp)) (by simp [Pt, jw])
 ·have Eg := hy fun i hi => hx ⟨i, hi⟩
  have a5 : J8 (E.re (Pt y t off)) h .other r.1 r.2 v := (a4.tag Eg : J8 E h .other r.1 r.2 v).re (NI (by simp)) (NI (by simp))
  exact a5.tag Eg
theorem A3z {P : Program} {t : TypeId} {y : Operand} {r : DV × Meta} (hs : src P t st y = some r) (hy : ∀ i, y ≠ .tmp i) : ∀ ms, r.2 ≠ .AO ms := by
 cases y with
 | tmp i => exact absurd rfl (hy i)
 | const v => exact A3h hs
 | func f => simp only [src, Option.some.injEq] at hs; subst hs; simp
 | global g => simp [src] at hs
theorem B23 {fl : Flags} {t : TypeId} {y : Operand} (D8 : o.op = .box t y) (H : (ob (src C.P t st y) fun r =>
 if J9 fl.Xl o.dst then ob (tz C.P t) fun z => og (J2 r.2 && D5 z.1 r.1 && z.2) (k (st.put o.dst (.UT z.1 r.1) .val))
 else if J9 fl.L8 o.dst then Gn C.P t r fun cs => og (Od false o.dst st) (k ((st.release y).Dx false o.dst cs))
 else explode C.P t r fun cs => og (Od (J9 fl.shared o.dst) o.dst st) (k (st.Dx (J9 fl.shared o.dst) o.dst cs))) = some x)
 (Rl : I9 E st a w.heap) (T : Then E w k x K) : Gp C.P o a w K := by
 obtain ⟨r, hr, H⟩ := A9 H;have R8 : (execOp a.eval o).run C.P w = .ok (.value (.pointer (some ⟨w.heap.size, 0, none⟩))) (w.alloc (.cells (a.eval y).cells t)) := by
  simp only [execOp, D8];refine Ck ?_;simp [Instr.box, newVar, newRow]
 have e1 := Rl.src hr
 by_cases Gs : J9 fl.Xl o.dst = true
 ·-- a variable that is sealed at once
  rw [if_pos Gs] at H;obtain ⟨z, hz, H⟩ := A9 H;obtain ⟨hd, H⟩ := F6 H;simp only [Bool.and_eq_true] at hd;obtain ⟨vs, hv, hs, hR⟩ := bW hd.1.2 (e1.data hd.1.1);have P1 := lV E w.heap (.cells (a.eval y).cells t) z.1;refine Bc R8 (T (E.Om w.heap.size z.1) _ _ (w.alloc (.cells (a.eval y).cells t)) H ((Rl.push P1 rfl fun b o hb => ?_).put fun t0 _ => ?_) (P1.weaken (by simp)))
  ·simp only [Array.size_push] at hb
   simp only [Env.Om];rw [if_neg (by omega)]
   exact Rl.fresh b o (by omega)
  ·show RV _ _ _ _
   have I8 := P1.shut (by simp) Rl.fresh
   simp only [RV, RC];refine ⟨_, _, rfl, vs.toList, by simpa using hs, fun j v zl => ?_, hR.mono I8⟩
   have hj : j < z.1 := by have := (List.getElem?_eq_some_iff.1 zl).1; simp at this; omega
   rw [Nat.zero_add];refine ⟨?_, ?_⟩
   ·show hc (w.heap.push _) w.heap.size j = _
    rw [A1H, hv];simpa [Value.cells] using zl
   ·simp only [Env.S, Env.Om, if_true]
    rw [if_pos hj]
 rw [if_neg Gs] at H
 by_cases Q4 : J9 fl.L8 o.dst = true
 ·rw [if_pos Q4] at H
  have qA : ∃ z, tz C.P t = some z := by
   unfold Gn at H;obtain ⟨z, hz, -⟩ := A9 H;exact ⟨z, hz⟩
  obtain ⟨z, qA⟩ := qA;obtain ⟨xs, H, hl, ⟨lc, p9⟩, Eg⟩ := zF qA e1 H;obtain ⟨_, H⟩ := F6 H;cases hd : o.dst with
  | none => rw [hd] at Q4; simp [J9] at Q4
  | some t0 =>
    rw [hd] at H;refine Bc R8 ?_;rw [hd];simp only [St.Dx, Bool.false_eq_true, if_false] at H;have Rl1 := Rl.release (x := y) (f := Pt y t0 0) fun T hT => NI hT
    have P0 : Pr J6 E w.heap (E.re (Pt y t0 0)) w.heap := Pr.re fun T hT => NI fun s b _ he => hT (by rw [he]; simp [J6])
    obtain ⟨R1, P1⟩ := Rl1.EA (t0 := t0) (T0 := t) lc fun j r' v Bo hv => by
     have := (p9 j r' v Bo hv).box (t := t0) (off := 0) fun hy => Eg (A3z hr hy) r' (List.mem_of_getElem? Bo)
     rwa [Nat.zero_add] at this
    rw [Array.toArray_toList] at R1 P1;refine T _ _ _ (w.alloc (.cells (a.eval y).cells t)) H (R1.put fun t1 ht => ?_) (P0.trans (P1.weaken (by rintro T rfl; simp [J6])))
    simp only [Option.some.injEq] at ht;subst ht;refine RR.BP ⟨rfl, ?_⟩;simp only [Env.EA, if_true]
 rw [if_neg Q4] at H;have qA : ∃ z, tz C.P t = some z := by
  unfold explode at H;obtain ⟨z, hz, -⟩ := A9 H;exact ⟨z, hz⟩
 obtain ⟨z, qA⟩ := qA;obtain ⟨xs, H, hl, p9⟩ := ky qA e1 H;obtain ⟨_, H9⟩ := F6 H;exact A1V p9 H9 (T0 := t) (by simpa using R8) Rl @T
def Env.Nl (E : Env) (b : Nat) : Env :=
 { E with obj := fun i => if i = E.n then b else E.obj i, base := fun i => if i = E.n then 0 else E.base i, n := E.n + 1,
          O := fun b' o => if b' = b then .obj E.n else E.O b' o }
theorem A6R {t : TypeId} (D8 : o.op = .makeMap t none) {ks : Bool} (H : k ({ st with sg := st.sg ++ [D7.map ks []] }.put o.dst .undef (.map st.sg.length)) = some x)
 (Rl : I9 E st a w.heap) (T : Then E w k x K) : Gp C.P o a w K := by
 have R8 : (execOp a.eval o).run C.P w = .ok (.value (.map (some w.heap.size))) (w.alloc (.map #[] 0)) := by
  simp only [execOp, D8];refine Ck ?_;simp [Instr.makeMap]
 have P1 : Pr (fun _ => False) E w.heap (E.Nl w.heap.size) (w.heap.push (.map #[] 0)) := by
  refine Pr.push (fun b o hb _ => ?_) (by simp [Env.Nl]) (fun i hi => ?_) (fun _ _ => rfl)
  ·simp only [Env.Nl]; rw [if_neg (by omega)]
  ·refine ⟨?_, ?_, rfl⟩ <;> simp only [Env.Nl] <;> rw [if_neg (by omega)]
 have I8 := P1.shut (by simp) Rl.fresh
 have hn := Rl.n;have R1 : I9 (E.Nl w.heap.size) { st with sg := st.sg ++ [D7.map ks []] } a (w.heap.push (.map #[] 0)) := by
  refine ⟨Rl.size, Rl.AZ, Rl.Ca, by simp [Env.Nl, Rl.n], fun t v hv => (Rl.regs t v hv).mono P1 I8 (by simp) (by simp), fun s cs hs => (Rl.boxes s cs hs).mono P1 I8 (by simp) (by simp), fun i ob hi => ?_,
   fun b o hb => ?_⟩
  ·by_cases I4 : i < st.sg.length
   ·simp only [List.getElem?_append_left I4] at hi
    exact (Rl.P8 i ob hi).mono P1 I8 (EW Rl hi) (by simp) (by simp)
   ·have Rz : i = st.sg.length := by
     have := (List.getElem?_eq_some_iff.1 hi).1;simp at this; omega
    subst Rz;simp only [List.getElem?_append_right (Nat.le_refl _), Nat.sub_self, List.getElem?_cons_zero, Option.some.injEq] at hi;subst hi;refine ⟨#[], 0, ?_, fun o => ?_, ⟨rfl, by simp⟩, by simp [kK]⟩
    ·simp only [Env.Nl, hn, if_true]; exact RP
    ·simp only [Env.Nl, hn, if_true]
  ·have Ry : w.heap.size + 1 ≤ b := by simpa using hb
   simp only [Env.Nl];rw [if_neg (by omega)]
   exact Rl.fresh b o (by omega)
 refine Bc R8 (T _ _ _ (w.alloc (.map #[] 0)) H (R1.put fun t0 _ => ?_) (P1.weaken (by simp)))
 refine RR.BP ⟨by simp [Env.Nl, hn], ?_⟩
 simp only [Env.Nl, hn, if_true]
theorem eU {P : Program} : ∀ {ts : List TypeId} {xs : List Operand} {rs : List (DV × Meta)}, Gx P st ts xs = some rs → rs.length = xs.length ∧ ∀ (i : Nat) y r, xs[i]? = some y → rs[i]? = some r → ∃ t, src P t st y = some r
 | ts, [], rs, H => by
   cases ts <;> simp only [Gx, Option.some.injEq] at H <;> subst H <;> simp
 | t :: ts, y :: xs, rs, H => by
   simp only [Gx] at H;obtain ⟨r, hr, H⟩ := A9 H;obtain ⟨rs', hrs, H⟩ := A9 H;simp only [Option.some.injEq] at H;subst H;obtain ⟨l1, l2⟩ := eU hrs;refine ⟨by simp [l1], fun i z r' hz Bo => ?_⟩
   cases i with
   | zero => simp only [List.getElem?_cons_zero, Option.some.injEq] at hz Bo; subst hz Bo; exact ⟨t, hr⟩
   | succ i => simp only [List.getElem?_cons_succ] at hz Bo; exact l2 i z r' hz Bo
 | [], y :: xs, rs, H => by
   simp only [Gx] at H;obtain ⟨r, hr, H⟩ := A9 H;obtain ⟨rs', hrs, H⟩ := A9 H;simp only [Option.some.injEq] at H;subst H;obtain ⟨l1, l2⟩ := eU hrs;refine ⟨by simp [l1], fun i z r' hz Bo => ?_⟩
   cases i with
   | zero => simp only [List.getElem?_cons_zero, Option.some.injEq] at hz Bo; subst hz Bo; exact ⟨_, hr⟩
   | succ i => simp only [List.getElem?_cons_succ] at hz Bo; exact l2 i z r' hz Bo
theorem nE : ∀ {rs : List (DV × Meta)} {ms : List (Nat × Nat)}, VB rs = some ms → rs.length = ms.length ∧ ∀ (i : Nat) r m, rs[i]? = some r → ms[i]? = some m → r.2 = .ptr m.1 m.2
 | [], ms, H => by simp only [VB, Option.some.injEq] at H; subst H; simp
 | (d, m) :: rs, ms, H => by
   unfold VB at H
   split at H
   ·rename_i heq; simp at heq
   ·rename_i heq
    simp only [List.cons.injEq, Prod.mk.injEq] at heq;obtain ⟨⟨-, rfl⟩, rfl⟩ := heq;obtain ⟨ms', zi, H⟩ := A9 H;simp only [Option.some.injEq] at H;subst H;obtain ⟨l1, l2⟩ := nE zi;refine ⟨by simp [l1], fun i r m hr hm => ?_⟩
    cases i with
    | zero => simp only [List.getElem?_cons_zero, Option.some.injEq] at hr hm; subst hr hm; rfl
    | succ i => simp only [List.getElem?_cons_succ] at hr hm; exact l2 i r m hr hm
   ·simp at H
theorem A5S {f : FuncId} {first caps : Array Operand} (D8 : o.op = .makeFunc (.func f) first caps)
 (H : (if first.isEmpty then ob (Gx C.P st [] caps.toList) fun rs => ob (VB rs) fun ms => k (st.put o.dst .undef (.fn f ms)) else none) = some x) (Rl : I9 E st a w.heap) (T : Then E w k x K) : Gp C.P o a w K := by
 obtain ⟨hf, H⟩ := L9 H;obtain ⟨rs, hrs, H⟩ := A9 H;obtain ⟨ms, zi, H⟩ := A9 H;obtain ⟨l1, l2⟩ := eU hrs;obtain ⟨m1, m2⟩ := nE zi;have key : ∀ (i : Nat) y, caps.toList[i]? = some y → ∃ m, ms[i]? = some m ∧ m.1 < E.n ∧ a.eval y = .pointer (some ⟨E.obj m.1, m.2, none⟩) := by
  intro i y hy;have hi : i < caps.toList.length := (List.getElem?_eq_some_iff.1 hy).1;have hr : rs[i]? = some (rs[i]'(by omega)) := List.getElem?_eq_getElem (by omega)
  have hm : ms[i]? = some (ms[i]'(by omega)) := List.getElem?_eq_getElem (by omega)
  obtain ⟨t, ht⟩ := l2 i y _ hy hr;have e := Rl.src ht;rw [m2 i _ _ hr hm] at e;simp only [RR, J8] at e;exact ⟨_, hm, e⟩
 refine V8 (v := .func (.func f) #[] (caps.map a.eval)) ?_ H Rl (fun _ _ => RR.BP ⟨?_, ?_⟩) @T
 ·simp only [execOp, D8]
  refine Ck ?_;have : first = #[] := by simpa using hf
  subst this;simp [Instr.makeFunc]
 ·congr 1
  apply Array.toList_inj.1;simp only [Array.toList_map];apply List.ext_getElem?;intro i;simp only [List.getElem?_map];cases hy : caps.toList[i]? with
  | none =>
    have : ms[i]? = none := by
     rw [List.getElem?_eq_none_iff] at hy ⊢;omega
    simp [this]
  | some y =>
    obtain ⟨m, hm, -, he⟩ := key i y hy;simp [hm, he]
 ·intro c hc
  obtain ⟨i, hi, GK⟩ := List.mem_iff_getElem.1 hc;have hy : caps.toList[i]? = some (caps.toList[i]'(by omega)) := List.getElem?_eq_getElem (by omega)
  obtain ⟨m, hm, I4, -⟩ := key i _ hy;rw [List.getElem?_eq_getElem hi, GK] at hm;simp only [Option.some.injEq] at hm;subst hm;exact I4
end
end Go.Su
