/-
  Parts of the proof, merged: SuData, SuEval, SuRel, SuState, SuBase, SuOp1, SuOp2, SuOp3, SuOp4, SuOp5, SuOp6, SuOp7, SuOp8.
-/
import Derived.Calls
import Derived.Control
import Derived.Laws.Cells
import Derived.Laws.Entries
import Derived.Laws.Sem
import Derived.Laws.Slices
import Derived.Laws.StructEq
import Derived.Laws.Tables
import Derived.Laws.World
import Derived.LoopN
import Derived.Orders
set_option linter.unusedVariables false
set_option linter.unusedSimpArgs false
/-
 THE DATA MACHINE, part 1: values as plain data, states, and one operation at a time.
 No program is named here. What is proved about it stands in the parts behind.
-/
open Array renaming getElem?_eq_some_iff → z7q, getElem?_setIfInBounds_self_of_lt → zpq, getElem?_eq_getElem → zrq, getElem?_setIfInBounds_ne → zsq, size_push → zwq
open Bool renaming and_eq_true → z8q, false_eq_true → zoq
open List renaming getElem?_eq_some_iff → z0q, getD_eq_getElem?_getD → z1q, getElem?_cons_zero → z2q, getElem?_eq_getElem → z3q, getElem?_take_of_lt → z4q, getElem?_set_self → z6q, getElem?_drop → zaq, getElem?_map → zbq, getElem?_set_ne → zcq, getElem?_append_right → zdq, getElem?_cons_succ → zeq, length_take → zfq, getElem?_append_left → zgq, length_drop → zhq, getElem?_eq_none → zmq, eq_nil_of_length_eq_zero → ztq, mem_of_getElem? → zxq, size_toArray → zCq, all_eq_true → zDq, getElem?_range → zEq, mem_cons → zFq, append_assoc → zIq, length_cons → zLq, zipIdx_cons → zMq, length_map → zPq, length_set → zQq, tail_drop → zRq, map_cons → zSq
open Nat renaming le_refl → z5q, add_zero → ziq, lt_of_lt_of_le → zjq, mul_le_mul_right → zkq, add_assoc → zlq, succ_mul → zqq, zero_add → zuq, sub_self → zvq, lt_or_ge → zyq, lt_succ_self → zBq, add_comm → zGq, le_trans → zHq, mul_comm → zJq, div_eq_of_lt → zKq, mul_add_div → zNq, add_mul → zOq
open Option renaming map_eq_some_iff → z9q, map_some → znq, getD_some → zzq, isNone_iff_eq_none → zAq
namespace Go.Su
inductive DV where
 | undef
 | int (k:IntKind) (n:Int)
 | bool (b:Bool)
 | str (s:ByteArray)
 | agg (cs:List DV)
 | F3 (cs:List DV)
 | list (sz:Nat) (ds:List DV)
 | Io
 | Mv (sz:Nat) (d:DV)
 deriving Inhabited
inductive Meta where
 | val
 | full
 | own
 | loc (s o:Nat)
 | OX (ag:Bool) (sz o:Nat)
 | ptr (i o:Nat)
 | Di
 | map (i:Nat)
 | QL
 | arr (i sz off len:Nat)
 | Yr (i sz idx o:Nat)
 | opt (i sz idx:Nat)
 | U1 (i n sz len:Nat)
 | nL (i n sz idx o:Nat)
 | fn (f:FuncId) (caps:List (Nat × Nat))
 | Br (ms:List Meta)
 | Dw (ms:List Meta)
 deriving Inhabited
inductive D8 where
 | box (cs:List (DV × Meta))
 | arr (sz:Nat) (ds:List DV)
 | map (ks:Bool) (es:List (DV × DV))
 | opn (sz:Nat) (pre ds:List DV)
 | U1 (n sz:Nat) (ds:List DV)
 deriving Inhabited
structure St where
 tm:List DV
 mt:List Meta
 bx:List (Option (List (DV × Meta)))
 sg:List D8
variable {β : Type}
def ob {α : Type} (x:Option α) (f : α -> Option β):Option β :=
 match x with
 | some a=>f a
 | none=>none
variable (d:DV)
def D7 (t e:Option β):Option β :=
 match d with
 | .bool true=>t
 | .bool false=>e
 | _=>none
def og (t:Bool) (x:Option β):Option β :=
 match t with
 | true=>x
 | false=>none
def C9 (n:Nat):DV->Bool
 | .agg cs=>cs.length == n
 | _=>false
def A7 (j:Nat):DV->DV
 | .agg cs=>cs.getD j .undef
 | _ => .undef
def cells (n o:Nat) (d:DV):List DV:=(List.range n).map fun j=>A7 (o+j) d
def K6:DV->Bool
 | .agg _ | .F3 _=>false
 | _=>true
def I6:DV->Bool
 | .int _ _=>true
 | .bool _=>true
 | .str _=>true
 | .list _ _=>true
 | .Io=>true
 | .Mv _ _=>true
 | _=>false
variable (sz:Nat)
def A2U:DV->Option DV
 | .Mv sz' d=>if sz'=sz then some d else none
 | _=>none
def dLen:DV->Option DV
 | .list _ ds=>some (.int .i64 ds.length)
 | _=>none
def Wp:DV->Option (Nat × List DV)
 | .list sz ds=>some (sz,ds)
 | _=>none
def DC:DV->Option DV
 | .str s=>some (.int .i64 s.size)
 | _=>none
def F5 (d i:DV):Option DV :=
 match d,i with
 | .list sz' ds, .int _ n=>if sz'=sz/\0<=n then ds[n.toNat]? else none
 | _,_=>none
def Y4 (i:DV):Option DV :=
 match d,i with
 | .str s, .int _ n=>if 0<=n then (s.data[n.toNat]?).map fun b => .int .u8 b.toNat else none
 | _,_=>none
def lim:Nat:=2 ^ 32
def Be (d e:DV):Option DV :=
 match d,e with
 | .list a ds, .list b es=>if (a=sz/\b=sz)/\ds.length+es.length<=lim then some (.list sz (ds++es)) else none
 | _,_=>none
def Jz (d e:DV):Option (List DV × List DV) :=
 match d,e with
 | .list a ds, .list b es=>if (a=sz/\b=sz)/\ds.length+es.length<=lim/\0<es.length then some (ds,es) else none
 | _,_=>none
def bnd (dflt:Nat):Option DV->Option Nat
 | none=>some dflt
 | some (.int _ n)=>if 0<=n then some n.toNat else none
 | _=>none
def CP (d:DV) (lo hi:Option DV):Option DV :=
 match d with
 | .list sz' ds=>ob (bnd ds.length hi) fun h=>ob (bnd 0 lo) fun l =>
   if sz'=sz/\l<=h/\h<=ds.length then some (.list sz ((ds.take h).drop l)) else none
 | _=>none
def kV (lo hi:Option DV):Option DV :=
 match d with
 | .str s=>ob (bnd s.size hi) fun h=>ob (bnd 0 lo) fun l =>
   if l<=h/\h<=s.size then some (.str (s.extract l h)) else none
 | _=>none
def A0u (d:DV) (lo:Option DV) (hi mx:DV):Option DV :=
 match hi,mx with
 | .int _ h, .int _ m=>if h=m then CP sz d lo (some hi) else none
 | _,_=>none
inductive LK where
 | int | bool | str
def wR (k:LK) (x y:DV):Option Bool :=
 match k,x,y with
 | .int, .int k a, .int k' b=>if k=k' then some (a == b) else none
 | .bool, .bool a, .bool b=>some (a == b)
 | .str, .str a, .str b=>some (a.toList == b.toList)
 | _,_,_=>none
def DN:List LK->List DV->List DV->Option Bool
 | [],[],[]=>some true
 | k::ks,x::xs,y::ys=>ob (wR k x y) fun b=>if b then DN ks xs ys else some false
 | _,_,_=>none
def GN:List UInt8->List UInt8->Bool
 | _,[]=>false
 | [],_::_=>true
 | a::x,b::y=>a<b || (a == b && GN x y)
def Iu:BinOp->Bool
 | .shl=>true
 | .shr=>true
 | _=>false
variable (op:BinOp) (k:IntKind)
def B3X (a b:Int):Option DV :=
 if b<0 then none else
 match op with
 | .shl=>some (.int k (k.wrap (a * 2 ^ (min b.toNat k.bits))))
 | .shr=>some (.int k (a.fdiv (2 ^ (min b.toNat k.bits))))
 | _=>none
def KX (a b:Int):Option DV :=
 match op with
 | .add=>some (.int k (k.wrap (a+b)))
 | .sub=>some (.int k (k.wrap (a-b)))
 | .mul=>some (.int k (k.wrap (a * b)))
 | .eql=>some (.bool (a == b))
 | .neq=>some (.bool (a != b))
 | .lss=>some (.bool (a<b))
 | .leq=>some (.bool (a<=b))
 | .gtr=>some (.bool (a>b))
 | .geq=>some (.bool (a ≥ b))
 | .quo=>if b=0 then none else some (.int k (k.wrap (a.tdiv b)))
 | .rem=>if b=0 then none else some (.int k (a.tmod b))
 | .and=>some (.int k (k.wrap (BitVec.ofInt k.bits a &&& BitVec.ofInt k.bits b).toNat))
 | .or=>some (.int k (k.wrap (BitVec.ofInt k.bits a ||| BitVec.ofInt k.bits b).toNat))
 | .xor=>some (.int k (k.wrap (BitVec.ofInt k.bits a ^^^ BitVec.ofInt k.bits b).toNat))
 | _=>none
def kW (a b:ByteArray):Option DV :=
 match op with
 | .add=>if a.size+b.size<=lim then some (.str (a++b)) else none
 | .eql=>some (.bool (a.toList == b.toList))
 | .neq=>some (.bool !(a.toList == b.toList))
 | .lss=>some (.bool (GN a.toList b.toList))
 | .leq=>some (.bool (GN a.toList b.toList || a.toList == b.toList))
 | .gtr=>some (.bool !(GN a.toList b.toList || a.toList == b.toList))
 | .geq=>some (.bool !GN a.toList b.toList)
 | _=>none
variable (x:DV)
def A8 (y:DV):Option DV :=
 match x,y with
 | .int k a, .int k' b=>match Iu op with
   | true=>B3X op k a b
   | false=>if k=k' then KX op k a b else none
 | .str a, .str b=>kW op a b
 | _,_=>none
def jF (y:DV):Option Bool :=
 match x,y with
 | .bool a, .bool b=>some (a == b)
 | _,_=>none
def Vd (ks:List LK) (x y:DV):Option Bool :=
 match x,y with
 | .agg xs, .agg ys=>DN ks xs ys
 | _,_=>none
def O6 (op:UnOp) (x:DV):Option DV :=
 match op,x with
 | .not, .bool b=>some (.bool !b)
 | .neg, .int k n=>some (.int k (k.wrap (0-n)))
 | _,_=>none
def A72 (c a b:DV):Option DV :=
 match c with
 | .bool true=>some a
 | .bool false=>some b
 | _=>none
def jG (y:DV):Option DV :=
 match x,y with
 | .int k a, .int k' b=>if k=k' then some (.int k (if b>a then b else a)) else none
 | _,_=>none
def jH (y:DV):Option DV :=
 match x,y with
 | .int k a, .int k' b=>if k=k' then some (.int k (if b<a then b else a)) else none
 | _,_=>none
def T_:DV->Option DV
 | .int _ n=>some (.int k (k.wrap n))
 | _=>none
def I9 (i:Nat):DV->Option DV
 | .F3 cs=>cs[i]?
 | _=>none
def Bu (y:DV):Bool :=
 match x,y with
 | .int _ a, .int _ b=>a == b
 | .str a, .str b=>a.toList == b.toList
 | _,_=>false
def isKey (ks:Bool):DV->Bool
 | .int k _ => !ks && k == .i64
 | .str _=>ks
 | _=>false
def AO (es:List (DV × DV)) (k:DV):Option DV:=(es.find? fun e=>Bu k e.1).map (·.2)
def BC:List (DV × DV)->DV->DV->List (DV × DV)
 | [],k,v=>[(k,v)]
 | e::es,k,v=>if Bu k e.1 then (e.1,v)::es else e::BC es k v
abbrev V9:DV := .agg [A7 0 d,A7 1 d,A7 2 d]
abbrev ag5:DV := .agg [A7 0 d,A7 1 d,A7 2 d,A7 3 d,A7 4 d]
abbrev IQ:DV := .agg [A7 0 d,A7 1 d,A7 2 d,A7 3 d,A7 4 d,A7 5 d,A7 6 d]
abbrev ag9:DV := .agg [A7 0 d,A7 1 d,A7 2 d,A7 3 d,A7 4 d,A7 5 d,A7 6 d,A7 7 d,A7 8 d]
abbrev U8:DV := .agg [A7 0 d,A7 1 d,A7 2 d,A7 3 d,A7 4 d,A7 5 d,A7 6 d,A7 7 d,A7 8 d,A7 9 d,A7 10 d,A7 11 d,A7 12 d,A7 13 d,A7 14 d]
abbrev A2O:DV := .agg [A7 0 d,A7 1 d,A7 2 d,A7 3 d,A7 4 d,A7 5 d,A7 6 d,A7 7 d,A7 8 d,A7 9 d,A7 10 d,A7 11 d,A7 12 d,A7 13 d,A7 14 d,A7 15 d]
abbrev F6:DV := .agg [A7 0 d,A7 1 d,A7 2 d,A7 3 d,A7 4 d,A7 5 d,A7 6 d,A7 7 d,A7 8 d,A7 9 d,A7 10 d,A7 11 d,A7 12 d,A7 13 d,A7 14 d,A7 15 d,A7 16 d,A7 17 d,A7 18 d,A7 19 d]
abbrev iI (n:Int):DV := .int .i64 n
end Go.Su

/-
 THE DATA MACHINE, part 2: the program's own code, run over plain data. Nothing is proved here.
-/
namespace Go.Su
noncomputable section
inductive MK where
 | val | own
 | ptr
 | YK (n:Nat) (os:List Nat)
 deriving Inhabited
structure CZ where
 params:List MK
 results:List MK
 lock:Bool:=false
structure Flags where
 M7:List Nat:=[]
 shared:List Nat:=[]
 hide:List Nat:=[]
 opn:List Nat:=[]
 FF:List Nat:=[]
 B61:List Nat:=[]
 B2X:List (Nat × Nat):=[]
 refs:List (Nat × Nat):=[]
 Yl:List Nat:=[]
 keep:List (Nat × List Nat × List Nat × List Nat × List Nat):=[]
structure Cut where
 pre:List Code
 mid:St->Option St
 post:Code
structure A5x where
 pre:List Code
 r:Code
 c:Operand
 a:Code
 id:Nat
 ops:List Oper
 gD:Oper
 post:Code
def CX:List Code->Code->Code
 | [],c=>c
 | p::ps,c => .seq p (CX ps c)
structure X4 where
 P:Program
 fl:FuncId->Flags
 sig:FuncId->Option CZ
 Yj:FuncId->Option Cut
 clone:FuncId->Bool
 kU:FuncId->Nat
 iL:FuncId->Option FuncId:=fun _=>none
 iter:FuncId->Option (List DV->Option (List DV)):=fun _=>none
 ref:TypeId->Bool:=fun _=>false
 jI:FuncId->Option A5x:=fun _=>none
 dfn:FuncId->Bool:=fun _=>false
structure O4 where
 p:FuncId->List DV->Option DV
 r:FuncId->List (DV × Meta)->List D8->Option (List DV × List D8)
def A80:TypeDesc->Bool
 | .struct _=>true
 | .array _ _=>true
 | _=>false
variable (P:Program) (t:TypeId)
def tz:Option (Nat × Bool) :=
 ob (P.info? t) fun i=>ob (P.underlying t) fun d=>if A80 d || i.size == 1 then some (i.size,A80 d) else none
def Gy:Option TypeId :=
 match P.underlying t with
 | some (.slice e)=>some e
 | _=>none
def lT (f:Nat):Option Field :=
 match P.underlying t with
 | some (.struct fs)=>fs[f]?
 | _=>none
def B9M:Nat :=
 match Gy P t with
 | some e=>match tz P e with
   | some z=>z.1
   | none=>0
 | none=>0
def cst:Value->Option (DV × Meta)
 | .int k n=>some (.int k n, .val)
 | .bool b=>some (.bool b, .val)
 | .string s=>some (.str s, .val)
 | .slice none 0 0=>some (.list (B9M P t) [], .full)
 | .pointer none=>some (.Io, .Di)
 | .map none=>some (.undef, .QL)
 | _=>none
def A0E (P:Program):Nat->TypeId->Option (List TypeId)
 | 0,_=>none
 | n+1,t =>
   match P.underlying t with
   | some (.struct fs)=>fs.toList.foldr (fun f acc=>ob (A0E P n f.type) fun l=>ob acc fun r=>some (l++r)) (some [])
   | some (.array m e)=>ob (A0E P n e) fun l=>some (List.replicate m l).flatten
   | some _=>some [t]
   | none=>none
def XR (P:Program):List TypeId->List Value->Option (List (DV × Meta))
 | [],[]=>some []
 | t::ts,v::vs=>ob (cst P t v) fun r=>ob (XR P ts vs) fun rs=>some (r::rs)
 | _,_=>none
def Jo:Option (List (DV × Meta)) :=
 ob (A0E P 8 t) fun ts=>ob (P.info? t) fun i=>ob i.zero fun v=>XR P ts v.cells.toList
def XW:Meta->Meta
 | .own => .val
 | m=>m
def dm:Meta->Meta
 | .own => .val
 | .Br ms => .Br (ms.map XW)
 | .Dw ms => .Dw (ms.map XW)
 | m=>m
def J5:Meta->Bool
 | .val=>true
 | .full=>true
 | .own=>true
 | .Di=>true
 | .Dw ms=>ms.all fun m=>match m with
   | .val=>true
   | .full=>true
   | .own=>true
   | .Di=>true
   | _=>false
 | _=>false
def X0:Meta->Bool
 | .val=>true
 | .full=>true
 | .own=>true
 | .ptr _ _=>true
 | .Di=>true
 | .map _=>true
 | .QL=>true
 | .arr _ _ _ _=>true
 | .U1 _ _ _ _=>true
 | .fn _ _=>true
 | _=>false
variable (st:St)
def St.get (t:Nat):DV × Meta:=(st.tm.getD t .undef,st.mt.getD t .val)
variable (dst:Option Nat) (d:DV) (m:Meta)
def St.put:St :=
 match dst with
 | none=>st
 | some t=>{ st with tm:=st.tm.set t d,mt:=st.mt.set t m }
def St.release:Operand->St
 | .tmp t=>{ st with mt:=st.mt.set t (dm (st.mt.getD t .val)) }
 | _=>st
variable (x:Operand)
def St.qK (m:Meta):St :=
 match x with
 | .tmp t=>{ st with mt:=st.mt.set t m }
 | _=>st
def Je (s:Nat):Meta->Meta
 | .loc s' o=>if s'=s then .val else .loc s' o
 | m=>m
variable (shared:Bool)
def St.Ei (dst:Option Nat) (cs:List (DV × Meta)):St :=
 match dst with
 | none=>st
 | some t =>
   if shared then { st with sg:=st.sg++[D8.box cs] }.put dst .undef (.ptr st.sg.length 0)
   else { st with mt:=st.mt.map (Je t),bx:=st.bx.set t (some cs) }.put dst .undef (.loc t 0)
def KC (t:Nat) (mt:List Meta):Bool :=
 mt.all fun m=>match m with
  | .loc s _=>s != t
  | _=>true
def PD (dst:Option Nat) (st:St):Bool :=
 match dst with
 | none=>true
 | some t=>shared || KC t st.mt
def Wx {α : Type} (ts:List Nat) (d : α):Nat->List α -> List α
 | _,[]=>[]
 | i,x::xs=>(if ts.contains i then x else d)::Wx ts d (i+1) xs
def NZ:Meta->Meta
 | .full => .own
 | m=>m
def eO {α : Type} (f : α -> α) (ts:List Nat):Nat->List α -> List α
 | _,[]=>[]
 | i,x::xs=>(if ts.contains i then f x else x)::eO f ts (i+1) xs
def WL:Option (List (DV × Meta))->Option (List (DV × Meta))
 | some cs=>some (cs.map fun c=>(c.1,NZ c.2))
 | none=>none
def XG:Meta:=if J5 m then .val else m
def qL:Option (List (DV × Meta))->Option (List (DV × Meta))
 | some cs=>some (cs.map fun c=>(c.1,XG c.2))
 | none=>none
def St.keep (ts bs os vs:List Nat):St :=
 { st with tm:=Wx ts .undef 0 st.tm,mt:=eO XG vs 0 (eO NZ os 0 (Wx ts .val 0 st.mt)),bx:=eO qL vs 0 (eO WL os 0 (Wx bs none 0 st.bx)) }
def src:Operand->Option (DV × Meta)
 | .tmp x=>some (st.get x)
 | .const v=>cst P t v
 | .func f=>some (.undef, .fn f [])
 | .global _=>none
def Ie (P:Program) (st:St):List TypeId->List Operand->Option (List (DV × Meta))
 | t::ts,x::xs=>ob (src P t st x) fun r=>ob (Ie P st ts xs) fun rs=>some (r::rs)
 | [],x::xs=>ob (src P 0 st x) fun r=>ob (Ie P st [] xs) fun rs=>some (r::rs)
 | _,[]=>some []
def qO:List DV->List Meta->List (DV × Meta)
 | d::ds,m::ms=>(d,m)::qO ds ms
 | _,_=>[]
variable (n:Nat)
def kT (r:DV × Meta):Option (List (DV × Meta)) :=
 match r.2 with
 | .val=>some ((cells n 0 r.1).map fun d=>(d, .val))
 | .Dw ms=>if ms.length=n then some (qO (cells n 0 r.1) ms) else none
 | _=>none
variable {X:Type}
def cellOf (r:DV × Meta) (k:DV × Meta->Option X):Option X :=
 match r.2 with
 | .val=>og (I6 r.1) (k (r.1, .val))
 | .full=>k (r.1, .full)
 | .own=>k (r.1, .own)
 | .Di=>k (.Io, .Di)
 | m=>og (X0 m) (k (.undef,m))
def explode (r:DV × Meta) (k:List (DV × Meta)->Option X):Option X :=
 ob (tz P t) fun z =>
  if z.2 then og (C9 z.1 r.1) (ob (kT z.1 r) fun cs=>k (cs.map fun c=>(c.1,dm c.2)))
  else cellOf r fun c=>k [(c.1,dm c.2)]
def IX (r:DV × Meta) (k:List (DV × Meta)->Option X):Option X :=
 ob (tz P t) fun z =>
  if z.2 then og (C9 z.1 r.1) (ob (kT z.1 r) k)
  else cellOf r fun c=>k [(c.1,dm c.2)]
def putAt {α : Type} (l:List α) (o:Nat) (cs:List α):List α := l.take o++cs++l.drop (o+cs.length)
def B9w:Option (Nat × TypeId) :=
 match P.underlying t with
 | some (.array n e)=>some (n,e)
 | _=>none
def places:Option (List (Nat × Nat)) :=
 match P.underlying t with
 | some (.struct fs)=>fs.toList.mapM fun f=>(P.info? f.type).map fun i=>(f.offset,i.size)
 | some (.array _ e)=>(P.info? e).map fun i=>[(0,i.size)]
 | _=>none
variable (i:Nat)
def partAt:Option (TypeId × Nat) :=
 match P.underlying t with
 | some (.struct fs)=>fs[i]?.map fun f=>(f.type,f.offset)
 | some (.array _ e)=>(P.info? e).map fun q=>(e,i * q.size)
 | _=>none
def Gx {X:Type} (P:Program) (t:TypeId) (st:St):List (Nat × Operand)->List (DV × Meta)->(List (DV × Meta)->Option X)->Option X
 | [],cs,k=>k cs
 | (i,x)::rest,cs,k =>
   ob (partAt P t i) fun f=>ob (src P f.1 st x) fun r=>explode P f.1 r fun xs =>
    if f.2+xs.length<=cs.length then Gx P t st rest (putAt cs f.2 xs) k else none
variable (cs:List (DV × Meta))
def fw:DV × Meta:=(.agg (cs.map (·.1)), .Dw (cs.map fun c=>dm c.2))
def Me (z:Nat × Bool) (r:DV × Meta) (k:DV->Option X):Option X :=
 og (J5 r.2) (if z.2 then og (C9 z.1 r.1) (k r.1) else og (I6 r.1) (k r.1))
def ji:Option (DV × Meta) :=
 match x with
 | .const (.agg vs)=>ob (A0E P 8 t) fun ts=>ob (XR P ts vs.toList) fun rs=>og (rs.all fun c=>J5 c.2) (some (.agg (rs.map (·.1)), .val))
 | x=>src P t st x
def He {X:Type} (P:Program) (e:TypeId) (z:Nat × Bool) (st:St):List (Nat × Operand)->List DV->(List DV->Option X)->Option X
 | [],ds,k=>k ds
 | (i,x)::rest,ds,k=>ob (ji P e st x) fun r=>Me z r fun d=>if i<ds.length then He P e z st rest (ds.set i d) k else none
def qN (z:Nat × Bool) (cs:List (DV × Meta)):Option DV :=
 if z.2 then some (.agg (cs.map (·.1)))
 else match cs with
  | [c]=>some c.1
  | _=>none
variable (sg:List D8)
def M5 (i:Nat):Option (List (DV × Meta)) :=
 match sg[i]? with
 | some (.box cs)=>some cs
 | _=>none
def BN (i:Nat):Option (Nat × List DV) :=
 match sg[i]? with
 | some (.arr sz ds)=>some (sz,ds)
 | _=>none
def GU (i:Nat):Option (Nat × List DV × List DV) :=
 match sg[i]? with
 | some (.opn sz pre ds)=>some (sz,pre,ds)
 | _=>none
def Dt (i n:Nat):Option (Nat × List DV) :=
 match sg[i]? with
 | some (.U1 n' sz ds)=>if n'=n then some (sz,ds) else none
 | _=>none
def Iz (q:Nat × List DV × List DV) (idx:Nat) (e:DV):Option D8 :=
 if q.2.1.length<=idx/\idx-q.2.1.length<q.2.2.length then some (.opn q.1 q.2.1 (q.2.2.set (idx-q.2.1.length) e)) else none
def FQ (q:Nat × List DV × List DV) (sz len:Nat):Option DV :=
 if q.1=sz/\q.2.1.length+q.2.2.length=len/\0<len then some (.list sz (q.2.1++q.2.2)) else none
def Av (i:Nat):Option (Bool × List (DV × DV)) :=
 match sg[i]? with
 | some (.map ks es)=>some (ks,es)
 | _=>none
variable (o:Nat)
def X5:Option DV :=
 match cs[o]? with
 | some (d, .val)=>some d
 | some (d, .full)=>some d
 | some (d, .own)=>some d
 | some (d, .Di)=>some d
 | _=>none
def FP:Option DV :=
 match cs[o]? with
 | some (d, .full)=>some d
 | some (d, .own)=>some d
 | _=>none
def Sj:Option (Nat × Nat × Nat) :=
 match cs[o]? with
 | some (_, .arr i sz 0 len)=>some (i,sz,len)
 | _=>none
def kR (sz:Nat):Option (Nat × Nat × Nat) :=
 match cs[o]? with
 | some (_, .U1 i n sz' len)=>if sz'=sz then some (i,n,len) else none
 | _=>none
def Rh (i off:Nat) (cs:List (DV × Meta)) (sz:Nat):Option (List D8 × Nat × Nat × Nat) :=
 match cs[off]? with
 | some (_, .U1 j n sz' len)=>if sz'=sz then some (sg,j,n,len) else none
 | some (.list sz' [], .full)=>if sz'=sz/\0<sz then some (sg.set i (.box (cs.set off (.undef, .U1 sg.length 1 sz 0)))++[.U1 1 sz []],sg.length,1,0) else none
 | _=>none
def Sk:Option Nat :=
 match cs[o]? with
 | some (_, .map i)=>some i
 | _=>none
def kQ:Option Nat :=
 match cs[o]? with
 | some (_, .ptr i 0)=>some i
 | _=>none
def CV:Nat->Nat->List (DV × Meta)->Option (List DV)
 | _,0,_=>some []
 | o,n+1,cs=>ob (X5 cs o) fun d=>ob (CV (o+1) n cs) fun ds=>some (d::ds)
inductive B5m where
 | dat | map | ptr
variable (C:X4)
def B5A (t:TypeId):B5m :=
 match C.P.underlying t with
 | some (.map _ _) => .map
 | some (.pointer _)=>if C.ref t then .dat else .ptr
 | _ => .dat
def A3o:Option DV :=
 ob (P.info? t) fun i=>ob i.zero fun v=>ob (cst P t v) fun r=>og (J5 r.2) (some r.1)
def mapKeys:Option (Bool × TypeId) :=
 match P.underlying t with
 | some (.map kt et) =>
   match P.underlying kt with
   | some (.int .i64)=>some (false,et)
   | some .string=>some (true,et)
   | _=>none
 | _=>none
section
variable {X:Type} (C:X4) (R:O4)
def J4 (l:List Nat):Option Nat->Bool
 | some t=>l.contains t
 | none=>false
def WF (c:DV × Meta):DV × Meta :=
 match c.2 with
 | .arr _ _ _ _=>(.undef, .val)
 | _=>c
def CR (fl:Flags) (o:Oper) (t:TypeId) (x:Operand) (st:St) (k:St->Option X):Option X :=
 ob (src C.P 0 st x) fun r=>ob (tz C.P t) fun z =>
  match r.2 with
  | .loc s off=>ob (st.bx.getD s none) fun cs =>
    if off+z.1<=cs.length then
     if z.2 then
      let seg:=(cs.drop off).take z.1
      if J4 fl.M7 o.dst then
       k ({ st with bx:=st.bx.set s (some (putAt cs off (seg.map fun c:DV × Meta=>(c.1,dm c.2)))) }.put o.dst (.agg (seg.map fun c:DV × Meta=>c.1)) (.Dw (seg.map fun c:DV × Meta=>c.2)))
      else
       let a:=fw (if J4 fl.hide o.dst then seg.map WF else seg)
       k (st.put o.dst a.1 a.2)
     else
      let c:=cs.getD off (.undef, .val)
      if J4 fl.M7 o.dst then k ({ st with bx:=st.bx.set s (some (cs.set off (c.1,dm c.2))) }.put o.dst c.1 c.2)
      else k (st.put o.dst c.1 (dm c.2))
    else none
  | .OX ag sz off =>
    if off+z.1<=sz then
     if z.2 then og ag (k (st.put o.dst (.agg (cells z.1 off r.1)) .val))
     else k (st.put o.dst (if ag then A7 off r.1 else r.1) .val)
    else none
  | .ptr i off=>ob (M5 st.sg i) fun cs =>
    if z.2 then og (z.1 != 0) (ob (CV off z.1 cs) fun ds=>k (st.put o.dst (.agg ds) .val))
    else match B5A C t with
     | .map=>ob (Sk cs off) fun j=>k (st.put o.dst .undef (.map j))
     | .ptr=>ob (kQ cs off) fun j=>k (st.put o.dst .undef (.ptr j 0))
     | .dat =>
       if J4 fl.B61 o.dst then
        ob (Gy C.P t) fun e=>ob (tz C.P e) fun ze=>ob (kR cs off ze.1) fun q=>k (st.put o.dst .undef (.U1 q.1 q.2.1 ze.1 q.2.2))
       else if J4 fl.FF o.dst then
        ob (Gy C.P t) fun e=>ob (tz C.P e) fun ze=>ob (Rh st.sg i off cs ze.1) fun q=>k ({ st with sg:=q.1 }.put o.dst .undef (.U1 q.2.1 q.2.2.1 ze.1 q.2.2.2))
       else if J4 fl.M7 o.dst then
        ob (FP cs off) fun d=>k ({ st with sg:=st.sg.set i (.box (cs.set off (d, .val))) }.put o.dst d .own)
       else ob (X5 cs off) fun d=>k (st.put o.dst d .val)
  | .Yr i sz idx off=>ob (BN st.sg i) fun a=>ob a.2[idx]? fun d =>
    og (a.1 == sz)
     (if off+z.1<=sz then
       if z.2 then k (st.put o.dst (.agg (cells z.1 off d)) .val)
       else if sz=1 then og (K6 d) (k (st.put o.dst d .val)) else k (st.put o.dst (A7 off d) .val)
     else none)
  | .nL i n sz idx off=>ob (Dt st.sg i n) fun a=>ob a.2[idx]? fun d =>
    og (a.1 == sz)
     (if off+z.1<=sz then
       if z.2 then k (st.put o.dst (.agg (cells z.1 off d)) .val)
       else if sz=1 then og (K6 d) (k (st.put o.dst d .val)) else k (st.put o.dst (A7 off d) .val)
     else none)
  | _=>none
def IC (sz off:Nat) (d:DV) (xs:List (DV × Meta)):Option DV :=
 match d with
 | .agg cs=>if xs.all (fun c=>J5 c.2 && K6 c.1)=true/\cs.length=sz/\off+xs.length<=sz then some (.agg (putAt cs off (xs.map (·.1)))) else none
 | _=>none
def DD (o:Oper) (t:TypeId) (x y:Operand) (st:St) (k:St->Option X):Option X :=
 ob (src C.P 0 st x) fun r=>ob (src C.P t st y) fun v=>ob (tz C.P t) fun z =>
  match r.2 with
  | .loc s off=>ob (st.bx.getD s none) fun cs =>
    if z.2 then IX C.P t v fun xs =>
     if off+xs.length<=cs.length then k (({ st with bx:=st.bx.set s (some (putAt cs off xs)) }.release y).put o.dst (.F3 []) .val) else none
    else cellOf v fun c =>
     if off<cs.length then k (({ st with bx:=st.bx.set s (some (cs.set off c)) }.release y).put o.dst (.F3 []) .val) else none
  | .ptr i off=>ob (M5 st.sg i) fun cs =>
    if z.2 then explode C.P t v fun xs =>
     if off+xs.length<=cs.length then k ({ st with sg:=st.sg.set i (.box (putAt cs off xs)) }.put o.dst (.F3 []) .val) else none
    else cellOf v fun c =>
     ob cs[off]? fun _=>k (({ st with sg:=st.sg.set i (.box (cs.set off c)) }.release y).put o.dst (.F3 []) .val)
  | .Yr i sz idx off=>ob (BN st.sg i) fun a=>ob a.2[idx]? fun _=>Me z v fun e =>
    og (a.1 == sz)
     (if z.1=sz/\off=0 then k ({ st with sg:=st.sg.set i (.arr sz (a.2.set idx e)) }.put o.dst (.F3 []) .val)
     else none)
  | .opt i sz idx=>ob (GU st.sg i) fun q=>Me z v fun e=>og (q.1 == sz && z.1 == sz)
     (ob (Iz q idx e) fun x=>k ({ st with sg:=st.sg.set i x }.put o.dst (.F3 []) .val))
  | .nL i n sz idx off=>ob (Dt st.sg i n) fun a=>ob a.2[idx]? fun d=>og (a.1 == sz)
     (if z.2 then explode C.P t v fun xs=>ob (IC sz off d xs) fun e=>k ({ st with sg:=st.sg.set i (.U1 n sz (a.2.set idx e)) }.put o.dst (.F3 []) .val)
     else cellOf v fun c=>ob (IC sz off d [c]) fun e=>k ({ st with sg:=st.sg.set i (.U1 n sz (a.2.set idx e)) }.put o.dst (.F3 []) .val))
  | _=>none
def Xo (r:DV × Meta):Option Bool :=
 match r.2 with
 | .Di=>some true
 | .ptr _ _=>some false
 | .val=>match r.1 with
   | .Io=>some true
   | .Mv _ _=>some false
   | _=>none
 | _=>none
def UA (r s:DV × Meta):Option Bool :=
 match Xo r,Xo s with
 | some true,some b=>some b
 | some false,some true=>some false
 | _,_=>none
def A4T (m n:Meta):Option Bool :=
 match m,n with
 | .QL, .QL=>some true
 | .QL, .map _=>some false
 | .map _, .QL=>some false
 | _,_=>none
inductive B1b where
 | num | bool | flat (ks:List LK) | ptr | map | ref
def iH (P:Program) (t:TypeId):Option LK :=
 match P.underlying t with
 | some .bool=>some .bool
 | some (.int _)=>some .int
 | some .string=>some .str
 | _=>none
def Sy (P:Program):Nat->List Field->Option (List LK)
 | _,[]=>some []
 | i,f::fs=>if f.name != "_" && f.offset == i then ob (iH P f.type) fun k=>ob (Sy P (i+1) fs) fun ks=>some (k::ks) else none
def kL (P:Program) (t:TypeId):B1b :=
 match P.underlying t with
 | some (.int _) => .num
 | some .string => .num
 | some .bool => .bool
 | some (.pointer _) => .ptr
 | some (.map _ _) => .map
 | some (.struct fs) =>
   match Sy P 0 fs.toList,P.stoodInHeld t,P.eqGuardType P.depth t with
   | some ks,false,false => .flat ks
   | _,_,_ => .ref
 | _ => .ref
def oD (op:BinOp) (b:Bool):Option DV :=
 match op with
 | .eql=>some (.bool b)
 | .neq=>some (.bool !b)
 | _=>none
def Ze (o:Oper) (op:BinOp) (t:TypeId) (x y:Operand) (st:St) (k:St->Option X):Option X :=
 ob (src C.P t st x) fun r=>ob (src C.P t st y) fun s =>
  match kL C.P t with
  | .num=>og (J5 r.2 && J5 s.2) (ob (A8 op r.1 s.1) fun d=>k (st.put o.dst d .val))
  | .bool=>og (J5 r.2 && J5 s.2) (ob (jF r.1 s.1) fun b=>ob (oD op b) fun d=>k (st.put o.dst d .val))
  | .flat ks=>og (J5 r.2 && J5 s.2) (ob (Vd ks r.1 s.1) fun b=>ob (oD op b) fun d=>k (st.put o.dst d .val))
  | .ptr=>ob (UA r s) fun b=>ob (oD op b) fun d=>k (st.put o.dst d .val)
  | .map=>ob (A4T r.2 s.2) fun b=>ob (oD op b) fun d=>k (st.put o.dst d .val)
  | .ref=>none
def Qa (o:Oper) (t:TypeId) (x:Operand) (f:Nat) (st:St) (k:St->Option X):Option X :=
 ob (src C.P 0 st x) fun r=>ob (lT C.P t f) fun fd=>ob (tz C.P fd.type) fun z =>
  if z.1=0 then none
  else match r.2 with
   | .loc s off=>k (st.put o.dst .undef (.loc s (off+fd.offset)))
   | .OX ag sz off=>k (st.put o.dst r.1 (.OX ag sz (off+fd.offset)))
   | .ptr i off=>k (st.put o.dst .undef (.ptr i (off+fd.offset)))
   | .Yr i sz idx off=>k (st.put o.dst .undef (.Yr i sz idx (off+fd.offset)))
   | .nL i n sz idx off=>k (st.put o.dst .undef (.nL i n sz idx (off+fd.offset)))
   | _=>none
def Am (off len:Nat):DV->Option Nat
 | .int _ n=>if 0<=n/\n<len then some (off+n.toNat) else none
 | _=>none
def oG (o:Oper) (t:TypeId) (r j:DV × Meta) (st:St) (k:St->Option X):Option X :=
 ob (B9w C.P t) fun q=>ob (tz C.P q.2) fun z =>
  match r.2 with
  | .loc s off=>og (J5 j.2) (ob (Am 0 q.1 j.1) fun n=>k (st.put o.dst .undef (.loc s (off+n * z.1))))
  | _=>none
def Fh (fl:Flags) (o:Oper) (t:TypeId) (x i:Operand) (st:St) (k:St->Option X):Option X :=
 ob (src C.P t st x) fun r=>ob (src C.P 0 st i) fun j=>match Gy C.P t with
 | none=>oG C o t r j st k
 | some e=>ob (tz C.P e) fun z =>
   match r.2 with
   | .arr a sz off len=>og (sz == z.1 && J5 j.2) (ob (Am off len j.1) fun n=>k (st.put o.dst .undef (if J4 fl.opn o.dst then .opt a sz n else .Yr a sz n 0)))
   | .U1 i n sz len=>og (sz == z.1 && J5 j.2) (ob (Am 0 len j.1) fun idx=>k (st.put o.dst .undef (.nL i n sz idx 0)))
   | m=>og (J5 m && J5 j.2) (ob (F5 z.1 r.1 j.1) fun d =>
     if z.2 then k (st.put o.dst d (.OX true z.1 0)) else og (K6 d) (k (st.put o.dst d (.OX false z.1 0))))
def Xm (P:Program) (st:St):Option Operand->Option (Option DV)
 | none=>some none
 | some x=>ob (src P 0 st x) fun r=>og (J5 r.2) (some (some r.1))
def A70:Meta->Option (Nat × Nat × Nat × Nat)
 | .arr i sz off len=>some (i,sz,off,len)
 | _=>none
def A8a:Meta->Option (Nat × Nat × Nat × Nat)
 | .U1 i n sz len=>some (i,n,sz,len)
 | _=>none
def PH (o:Oper) (t:TypeId) (x:Operand) (lo hi mx:Option Operand) (st:St) (k:St->Option X):Option X :=
 ob (src C.P t st x) fun r=>ob (Xm C.P st lo) fun l=>ob (Xm C.P st hi) fun h=>ob (Xm C.P st mx) fun m =>
  match A70 r.2 with
  | some q=>ob (Gy C.P t) fun e=>ob (tz C.P e) fun z=>og (m.isNone && q.2.1 == z.1) (ob (bnd q.2.2.2 h) fun hh=>ob (bnd 0 l) fun ll =>
    if ll<=hh/\hh<=q.2.2.2 then k (st.put o.dst .undef (.arr q.1 q.2.1 (q.2.2.1+ll) (hh-ll))) else none)
  | none=>match A8a r.2 with
  | some q=>ob (Gy C.P t) fun e=>ob (tz C.P e) fun z=>og (m.isNone && l.isNone && q.2.2.1 == z.1) (ob (bnd q.2.2.2 h) fun hh =>
    if hh<=q.2.2.2 then k (st.put o.dst .undef (.U1 q.1 q.2.1 q.2.2.1 hh)) else none)
  | none=>og (J5 r.2)
    (match C.P.underlying t with
      | some (.slice e)=>ob (tz C.P e) fun z =>
        match m,h with
        | none,_=>ob (CP z.1 r.1 l h) fun d=>k (st.put o.dst d .val)
        | some m,some h=>ob (A0u z.1 r.1 l h m) fun d=>k (st.put o.dst d .full)
        | _,_=>none
      | some .string =>
        match m with
        | none=>ob (kV r.1 l h) fun d=>k (st.put o.dst d .val)
        | some _=>none
      | _=>none)
def B4s (sg:List D8):Meta->Option Nat
 | .map i=>ob (Av sg i) fun p=>some p.2.length
 | .QL=>some 0
 | _=>none
def A3n:Nat->Option DV
 | 0=>some (.int .i64 0)
 | n+1=>some (.int .i64 ((n+1:Nat):Int))
theorem TH (n:Nat):A3n n=some (.int .i64 n):=by cases n <;> rfl
def UX (o:Oper) (x:Operand) (t:TypeId) (st:St) (k:St->Option X):Option X :=
 ob (src C.P t st x) fun r =>
  match C.P.underlying t with
  | some (.slice _) =>
    match r.2 with
    | .arr _ _ _ len=>k (st.put o.dst (.int .i64 len) .val)
    | .U1 _ _ _ len=>ob (A3n len) fun d=>k (st.put o.dst d .val)
    | m=>og (J5 m) (ob (dLen r.1) fun d=>k (st.put o.dst d .val))
  | some .string=>og (J5 r.2) (ob (DC r.1) fun d=>k (st.put o.dst d .val))
  | some (.map _ _)=>ob (B4s st.sg r.2) fun n=>k (st.put o.dst (.int .i64 n) .val)
  | _=>none
def Kg:Meta->Bool
 | .full=>true
 | .own=>true
 | _=>false
def A32 (P:Program) (t u:TypeId):Option Nat :=
 ob (Gy P t) fun e=>ob (Gy P u) fun _=>ob (tz P e) fun z=>ob (P.info? e) fun i=>ob (Jo P e) fun zs =>
  if z.1≠0/\i.bytes<=2 ^ 14/\zs.length=z.1 then some z.1 else none
def A4u (o:Oper) (x y:Operand) (t u:TypeId) (st:St) (k:St->Option X):Option X :=
 ob (src C.P t st x) fun r=>ob (src C.P u st y) fun s =>
  ob (A32 C.P t u) fun sz=>og (J5 s.2 && o.dst.isSome) (ob (A8a r.2) fun q =>
   ob (Dt st.sg q.1 q.2.1) fun a=>og (a.1 == sz && q.2.2.1 == sz && decide (q.2.2.2<=a.2.length))
    (ob (Jz sz (.list sz (a.2.take q.2.2.2)) s.1) fun p=>k ({ st with sg:=st.sg.set q.1 (.U1 (q.2.1+1) sz (p.1++p.2)) }.put o.dst .undef (.U1 q.1 (q.2.1+1) sz (p.1.length+p.2.length)))))
def FT (fl:Flags) (o:Oper) (x y:Operand) (t u:TypeId) (st:St) (k:St->Option X):Option X :=
 if J4 fl.FF o.dst then A4u C o x y t u st k else
 ob (src C.P t st x) fun r=>ob (src C.P u st y) fun s =>
  ob (A32 C.P t u) fun sz=>og (Kg r.2 && J5 s.2 && o.dst.isSome)
   (if J4 fl.opn o.dst then ob (Jz sz r.1 s.1) fun p=>k ({ st.release x with sg:=st.sg++[D8.opn sz p.1 p.2] }.put o.dst .undef (.arr st.sg.length sz 0 (p.1.length+p.2.length)))
   else ob (Be sz r.1 s.1) fun d=>k ((st.release x).put o.dst d .own))
def Vy (o:Oper) (x:Operand) (t:TypeId) (st:St) (k:St->Option X):Option X :=
 ob (src C.P t st x) fun r=>ob (A70 r.2) fun q=>ob (BN st.sg q.1) fun a=>ob (Gy C.P t) fun e=>ob (tz C.P e) fun z=>ob (Jo C.P e) fun zs =>
  og (a.1 == q.2.1 && q.2.1 == z.1 && zs.length == z.1 && decide (q.2.2.1+q.2.2.2<=a.2.length))
   (k ({ st with sg:=st.sg.set q.1 (.arr q.2.1 (a.2.take q.2.2.1)) }.put o.dst (.F3 []) .val))
def QY (m:Meta):Meta:=if J5 m then .val else dm m
def iN (os:List Nat):Nat->List Meta->List Meta
 | _,[]=>[]
 | i,m::ms=>(if os.contains i then NZ m else QY m)::iN os (i+1) ms
def Xn (m:Meta) (k:MK):Meta :=
 match k,m with
 | .own, .full => .own
 | .own,m=>m
 | .YK _ os, .Dw ms => .Dw (iN os 0 ms)
 | _,m=>QY m
def IE:List MK->List (DV × Meta)->List (DV × Meta)
 | k::ks,r::rs=>(r.1,Xn r.2 k)::IE ks rs
 | [],rs=>rs.map fun r=>(r.1,QY r.2)
 | _,[]=>[]
def B7p:Meta->Bool
 | .loc _ _=>false
 | .OX _ _ _=>false
 | .Br _=>false
 | .Dw ms=>ms.all X0
 | _=>true
def DT:MK->Bool
 | .own=>true
 | .YK _ _=>true
 | _=>false
def FY:Nat->List MK->List Operand->Option (Nat × Operand)
 | i,k::ks,x::xs=>if DT k then some (i,x) else FY (i+1) ks xs
 | _,_,_=>none
def St.IA (st:St):Option (Nat × Operand)->St
 | some p=>st.release p.2
 | none=>st
def Km (k:MK) (d:DV):DV × Meta :=
 match k with
 | .val=>(d, .val)
 | .own=>(d, .own)
 | .ptr=>match d with
   | .int _ i=>(.undef, .ptr i.toNat 0)
   | .Io=>(.Io, .Di)
   | _=>(.undef, .val)
 | .YK n os=>(d, .Dw ((List.range n).map fun i=>if os.contains i then .own else .val))
def A77 (ks:List MK):Bool:=ks.length == 1 || ks.all fun k=>match k with
 | .val=>true
 | .own=>true
 | _=>false
def Mi (ks:List MK) (ds:List DV):DV × Meta :=
 match ks with
 | [k]=>Km k (ds.getD 0 .undef)
 | _=>(.F3 ds, .Br (ks.map fun k=>(Km k .undef).2))
def A5C:DV->Option Nat
 | .int _ n=>some n.toNat
 | _=>none
def eY {X:Type} (ks:List MK) (ds:List DV) (k:DV × Meta->Option X):Option X :=
 match ks with
 | [.ptr]=>ob (A5C (ds.getD 0 .undef)) fun i=>k (.undef, .ptr i 0)
 | ks=>k (Mi ks ds)
theorem A2C {X:Type} {ks:List MK} {ds:List DV} {k:DV × Meta->Option X} {x:X} (h:eY ks ds k=some x):k (Mi ks ds)=some x/\∀ (Y:Type) (k':DV × Meta->Option Y),eY ks ds k'=k' (Mi ks ds):=by
 unfold eY at h
 split at h
 ·cases hd:A5C (ds.getD 0 .undef) with
  | none=>rw [hd] at h;cases h
  | some i =>
    have e:Mi [.ptr] ds=(.undef, .ptr i 0):=by
     unfold A5C at hd
     split at hd <;> simp only [Option.some.injEq,reduceCtorEq] at hd
     rename_i kk n hx;simp only [Mi,Km];rw [hx,<- hd]
    rw [hd] at h;rw [e];exact ⟨h,fun Y k'=>by simp only [eY,hd,ob]⟩
 ·rename_i hne
  refine ⟨h,fun Y k' => ?_⟩
  unfold eY
  split
  ·exact absurd rfl hne
  ·rfl
def B5q:DV->Option (List DV)
 | .agg cs=>some cs
 | _=>none
def JI (o:Oper) (f:FuncId) (xs:List Operand) (rs:List (DV × Meta)) (st:St) (k:St->Option X):Option X :=
 if C.clone f then
  match rs with
  | [r]=>ob (Wp r.1) fun p=>og (J5 r.2 && p.1 == C.kU f && decide (p.2.length<=lim)) (k ({ st with sg:=st.sg++[D8.arr (C.kU f) p.2] }.put o.dst .undef (.arr st.sg.length (C.kU f) 0 p.2.length)))
  | _=>none
 else match C.iL f with
 | some g =>
   match rs with
   | [r]=>ob (B5q r.1) fun cs=>og (J5 r.2 && cs.length == C.kU f) (k ({ st with sg:=st.sg++[D8.box (cs.map fun d=>(d, .val))] }.put o.dst .undef (.fn g [(st.sg.length,0)])))
   | _=>none
 | none=>match C.sig f with
   | none=>og (rs.all fun r=>J5 r.2) (ob (R.p f (rs.map (·.1))) fun d=>k (st.put o.dst d .val))
   | some s=>og ((rs.all fun r=>B7p r.2) && decide ((s.params.filter DT).length<=1) && A77 s.results)
     (ob (R.r f (IE s.params rs) st.sg) fun q =>
       eY s.results q.1 fun r=>k (({ st with sg:=q.2 }.IA (FY 0 s.params xs)).put o.dst r.1 r.2))
def FL (fl:Flags) (o:Oper) (c:Call) (st:St) (k:St->Option X):Option X :=
 match c.callee with
 | .builtin b =>
   match b,c.args.toList,c.argTypes.toList with
   | .len,[x],[t]=>UX C o x t st k
   | .append,[x,y],[t,u]=>FT C fl o x y t u st k
   | .clear,[x],[t]=>Vy C o x t st k
   | .max,[x,y],[t,u]=>ob (src C.P t st x) fun r=>ob (src C.P u st y) fun s=>og (J5 r.2 && J5 s.2) (ob (jG r.1 s.1) fun d=>k (st.put o.dst d .val))
   | .min,[x,y],[t,u]=>ob (src C.P t st x) fun r=>ob (src C.P u st y) fun s=>og (J5 r.2 && J5 s.2) (ob (jH r.1 s.1) fun d=>k (st.put o.dst d .val))
   | _,_,_=>none
 | .value fv=>ob (src C.P 0 st fv) fun r=>ob (Ie C.P st c.argTypes.toList c.args.toList) fun rs =>
   match r.2 with
   | .fn f caps=>JI C R o f c.args.toList (rs++caps.map fun m=>(.undef, .ptr m.1 m.2)) st k
   | _=>none
 | .invoke _ _=>none
def Vb:List (DV × Meta)->Option (List (Nat × Nat))
 | []=>some []
 | (_, .ptr i o)::rs=>ob (Vb rs) fun ms=>some ((i,o)::ms)
 | _=>none
def I7 (fl:Flags) (o:Oper) (st:St) (k:St->Option X):Option X :=
 match o.op with
 | .move x=>ob (src C.P o.type st x) fun r =>
   if J4 fl.M7 o.dst then k ((st.release x).put o.dst r.1 r.2) else k (st.put o.dst r.1 (dm r.2))
 | .assign x=>ob (src C.P o.type st x) fun r =>
   if J4 fl.M7 o.dst then k ((st.release x).put o.dst r.1 r.2) else k (st.put o.dst r.1 (dm r.2))
 | .pick c a b=>ob (src C.P 0 st c) fun rc=>ob (src C.P o.type st a) fun ra=>ob (src C.P o.type st b) fun rb =>
   og (J5 rc.2 && J5 ra.2 && J5 rb.2) (ob (A72 rc.1 ra.1 rb.1) fun d=>k (st.put o.dst d .val))
 | .alloc t=>ob (Jo C.P t) fun cs=>og (PD (J4 fl.shared o.dst) o.dst st) (k (st.Ei (J4 fl.shared o.dst) o.dst cs))
 | .box t x=>ob (src C.P t st x) fun r =>
   if J4 fl.Yl o.dst then ob (tz C.P t) fun z=>og (J5 r.2 && C9 z.1 r.1 && z.2) (k (st.put o.dst (.Mv z.1 r.1) .val))
   else if J4 fl.M7 o.dst then IX C.P t r fun cs=>og (PD false o.dst st) (k ((st.release x).Ei false o.dst cs))
   else explode C.P t r fun cs=>og (PD (J4 fl.shared o.dst) o.dst st) (k (st.Ei (J4 fl.shared o.dst) o.dst cs))
 | .build t ps=>ob (Jo C.P t) fun zs=>ob (places C.P t) fun _=>Gx C.P t st ps.toList zs fun cs =>
   k (st.put o.dst (fw cs).1 (fw cs).2)
 | .buildSlice t n ps=>ob (Gy C.P t) fun e=>ob (tz C.P e) fun z=>ob (Jo C.P e) fun zs=>ob (qN z zs) fun ze =>
   if (n * z.1<=2 ^ 24/\z.1≠0)/\zs.length=z.1/\zs.all (fun c=>J5 c.2)=true then He C.P e z st ps.toList (List.replicate n ze) fun ds =>
    if J4 fl.FF o.dst then k ({ st with sg:=st.sg++[D8.U1 1 z.1 ds] }.put o.dst .undef (.U1 st.sg.length 1 z.1 n)) else k (st.put o.dst (.list z.1 ds) .full)
   else none
 | .load t x=>CR C fl o t x st k
 | .store t x y=>DD C o t x y st k
 | .nilCheck x=>ob (src C.P 0 st x) fun r =>
   match r.2 with
   | .loc s o'=>k (st.put o.dst .undef (.loc s o'))
   | .OX ag sz o'=>k (st.put o.dst r.1 (.OX ag sz o'))
   | .ptr i o'=>k (st.put o.dst .undef (.ptr i o'))
   | .Yr i sz j o'=>k (st.put o.dst .undef (.Yr i sz j o'))
   | .opt i sz j=>k (st.put o.dst .undef (.opt i sz j))
   | .fn f cs=>k (st.put o.dst .undef (.fn f cs))
   | .val=>ob (o.dst.bind fun t=>fl.refs.find? (·.1 == t)) fun q=>ob (A2U q.2 r.1) fun d=>k (st.put o.dst d (.OX true q.2 0))
   | _=>none
 | .binOp op t x y _=>Ze C o op t x y st k
 | .unOp op t x=>ob (src C.P t st x) fun r=>og (J5 r.2) (ob (O6 op r.1) fun d=>k (st.put o.dst d .val))
 | .convert t u x=>ob (src C.P t st x) fun r =>
   match C.P.underlying u with
   | some (.int kd)=>og (J5 r.2 && (C.P.underlying t).isSome) (ob (T_ kd r.1) fun d=>k (st.put o.dst d .val))
   | _=>none
 | .fieldAddr t x f=>Qa C o t x f st k
 | .field t x f=>ob (src C.P t st x) fun r=>ob (lT C.P t f) fun fd=>ob (tz C.P fd.type) fun z=>ob (tz C.P t) fun zt =>
   og (J5 r.2 && C9 zt.1 r.1)
    (if fd.offset+z.1<=zt.1 then
      if z.2 then k (st.put o.dst (.agg (cells z.1 fd.offset r.1)) .val) else k (st.put o.dst (A7 fd.offset r.1) .val)
    else none)
 | .indexAddr t x i=>Fh C fl o t x i st k
 | .index t x i=>ob (src C.P t st x) fun r=>ob (src C.P 0 st i) fun j =>
   match C.P.underlying t with
   | some .string=>og (J5 r.2 && J5 j.2) (ob (Y4 r.1 j.1) fun d=>k (st.put o.dst d .val))
   | _=>none
 | .slice t x lo hi mx=>PH C o t x lo hi mx st k
 | .makeFunc (.func f) first caps =>
   if first.isEmpty then ob (Ie C.P st [] caps.toList) fun rs=>ob (Vb rs) fun ms=>k (st.put o.dst .undef (.fn f ms))
   else none
 | .makeMap t none=>ob (mapKeys C.P t) fun q=>k ({ st with sg:=st.sg++[D8.map q.1 []] }.put o.dst .undef (.map st.sg.length))
 | .lookup t x y ok=>ob (src C.P t st x) fun r=>ob (src C.P 0 st y) fun key=>ob (mapKeys C.P t) fun q =>
   ob (A3o C.P q.2) fun ze =>
    og (isKey q.1 key.1 && J5 key.2)
     (match r.2 with
       | .map i=>ob (Av st.sg i) fun p=>og (p.1 == q.1)
         (if ok then k (st.put o.dst (.F3 [(AO p.2 key.1).getD ze, .bool (AO p.2 key.1).isSome]) .val)
         else k (st.put o.dst ((AO p.2 key.1).getD ze) .val))
       | _=>none)
 | .mapUpdate t x y v=>ob (src C.P t st x) fun r=>ob (src C.P 0 st y) fun key=>ob (src C.P 0 st v) fun val=>ob (mapKeys C.P t) fun q =>
   og (isKey q.1 key.1 && J5 key.2 && J5 val.2)
    (match r.2 with
      | .map i=>ob (Av st.sg i) fun p=>og (p.1 == q.1) (k ({ st with sg:=st.sg.set i (.map q.1 (BC p.2 key.1 val.1)) }.put o.dst (.F3 []) .val))
      | _=>none)
 | .extract x i=>ob (src C.P 0 st x) fun r =>
   match r.2 with
   | .val=>ob (I9 i r.1) fun d=>k (st.put o.dst d .val)
   | .Br ms=>ob (I9 i r.1) fun d =>
     match ms.getD i .val with
     | .own=>if J4 fl.M7 o.dst then k ((st.qK x (.Br (ms.set i .val))).put o.dst d .own) else k (st.put o.dst d .val)
     | .val=>k (st.put o.dst d .val)
     | _=>none
   | _=>none
 | .call c=>FL C R fl o c st k
 | _=>none
def yw {α X:Type}:List α -> (List α -> X)->X
 | [],k=>k []
 | a::l,k=>yw l fun l'=>k (a::l')
def B37 {X:Type} (m:Meta) (k:Meta->X):X :=
 match m with
 | .val=>k .val
 | .full=>k .full
 | .own=>k .own
 | .loc s o=>k (.loc s o)
 | .OX ag sz o=>k (.OX ag sz o)
 | .ptr i o=>k (.ptr i o)
 | .Di=>k .Di
 | .map i=>k (.map i)
 | .QL=>k .QL
 | .arr i sz off len=>k (.arr i sz off len)
 | .Yr i sz idx o=>k (.Yr i sz idx o)
 | .opt i sz idx=>k (.opt i sz idx)
 | .U1 i n sz len=>k (.U1 i n sz len)
 | .nL i n sz idx o=>k (.nL i n sz idx o)
 | .fn f caps=>k (.fn f caps)
 | .Br ms=>k (.Br ms)
 | .Dw ms=>k (.Dw ms)
def A0y {X:Type}:List Meta->(List Meta->X)->X
 | [],k=>k []
 | m::l,k=>B37 m fun m'=>A0y l fun l'=>k (m'::l')
def A0z {X:Type} (st:St) (k:St->X):X :=
 yw st.tm fun tm=>A0y st.mt fun mt=>yw st.bx fun bx=>k { tm:=tm,mt:=mt,bx:=bx,sg:=st.sg }
theorem A6I {α X:Type}:∀ (l:List α) (k:List α -> X),yw l k=k l
 | [],_=>rfl
 | a::l,k=>by simp only [yw,A6I l]
theorem A4F {X:Type}:∀ (l:List Meta) (k:List Meta->X),A0y l k=k l
 | [],_=>rfl
 | m::l,k=>by
   have h:∀ (m:Meta) (k:Meta->X),B37 m k=k m:=fun m k=>by cases m <;> rfl
   simp only [A0y,A4F l,h]
theorem Ui {X:Type} (st:St) (k:St->X):A0z st k=k st:=by
 simp only [A0z,A6I,A4F]
def Ji (ops:List Oper) (g:Nat):Option Nat:=ob ops[g]? fun o=>o.dst
def St.know (st:St) (t:Nat) (d:DV):St:={ st with tm:=st.tm.set t d }
def I1 {β : Type} (d:DV) (a b c:Option β):Option β :=
 match d with
 | .bool true=>a
 | .bool false=>b
 | .F3 []=>c
 | _=>none
def Bt (fl:Flags) (all:List Oper):List Oper->St->(St->Option X)->Option X
 | [],st,k=>k st
 | o::os,st,k=>A0z st fun st =>
   match o.guard with
   | none=>I7 C R fl o st fun st=>Bt fl all os st k
   | some (g,want)=>ob (Ji all g) fun t=>og (J5 (st.get t).2) <|
     I1 (st.get t).1
      (if want then I7 C R fl o (st.know t (.bool true)) fun st=>Bt fl all os st k else Bt fl all os ((st.know t (.bool true)).put o.dst (.F3 []) .val) k)
      (if want then Bt fl all os ((st.know t (.bool false)).put o.dst (.F3 []) .val) k else I7 C R fl o (st.know t (.bool false)) fun st=>Bt fl all os st k)
      (Bt fl all os ((st.know t (.F3 [])).put o.dst (.F3 []) .val) k)
structure Fp where
 rt:List Nat:=[]
 wt:List Nat:=[]
 rb:List Nat:=[]
 wb:List Nat:=[]
 wl:List Nat:=[]
 rs:Bool:=false
 ws:Bool:=false
 nb:Option Nat:=none
 ex:Option (Nat × Nat × Nat):=none
 so:Option Bool:=none
def B5L (x:Operand) (i:Nat) (d:Option Nat):Option (Nat × Nat × Nat) :=
 match x,d with
 | .tmp t,some u=>some (t,i,u)
 | _,_=>none
def L9:Operand->List Nat
 | .tmp t=>[t]
 | _=>[]
def tmpsOf (xs:List Operand):List Nat:=xs.flatMap L9
def HZ (mt:List Meta) (t:Nat):List Nat :=
 match mt.getD t .val with
 | .loc s _=>[s]
 | _=>[]
def Zo (m:Meta):Option Nat :=
 match m with
 | .ptr i _=>some i
 | .opt i _ _=>some i
 | .nL i _ _ _ _=>some i
 | _=>none
def Zp (m:Meta):Option Bool :=
 match m with
 | .ptr _ _=>some false
 | .opt _ _ _=>some true
 | .nL _ _ _ _ _=>some true
 | _=>none
def EQ (m:Meta):List Nat × Bool :=
 match m with
 | .loc s _=>([s],false)
 | .OX _ _ _=>([],false)
 | _=>([],true)
def Fp.Aq (f:Fp) (st st1:St):Fp:={ f with wl:=f.wt.flatMap (HZ st.mt)++f.wt.flatMap (HZ st1.mt) }
def Em (mt:List Meta):Operand->List Nat
 | .tmp t=>match mt.getD t .val with
   | .arr _ _ _ _=>[]
   | .U1 _ _ _ _=>[]
   | _=>[t]
 | _=>[]
def Ee (fl:Flags) (o:Oper) (st:St):Fp :=
 let d:=o.dst.toList
 let M7:=J4 fl.M7 o.dst
 match o.op with
 | .move x=>{ rt:=L9 x,wt:=d++(if M7 then L9 x else []) }
 | .assign x=>{ rt:=L9 x,wt:=d++(if M7 then L9 x else []) }
 | .pick c a b=>{ rt:=tmpsOf [c,a,b],wt:=d }
 | .alloc _=>if J4 fl.shared o.dst then { wt:=d,rs:=true,ws:=true } else { wt:=d,wb:=d,nb:=o.dst }
 | .box _ x=>if J4 fl.Yl o.dst then { rt:=L9 x,wt:=d } else if J4 fl.M7 o.dst then { rt:=L9 x,wt:=d++L9 x,wb:=d,nb:=o.dst } else if J4 fl.shared o.dst then { rt:=L9 x,wt:=d,rs:=true,ws:=true } else { rt:=L9 x,wt:=d,wb:=d,nb:=o.dst }
 | .build _ ps=>{ rt:=tmpsOf (ps.toList.map (·.2)),wt:=d }
 | .buildSlice _ _ ps=>{ rt:=tmpsOf (ps.toList.map (·.2)),wt:=d,rs:=J4 fl.FF o.dst,ws:=J4 fl.FF o.dst }
 | .load _ x =>
   match src default 0 st x with
   | some r=>{ rt:=L9 x,wt:=d,rb:=(EQ r.2).1,wb:=if M7 then (EQ r.2).1 else [],rs:=(EQ r.2).2,ws:=(M7 || J4 fl.FF o.dst) && (EQ r.2).2 }
   | none=>{}
 | .store _ x y =>
   match src default 0 st x with
   | some r=>{ rt:=tmpsOf [x,y],wt:=d++Em st.mt y,rb:=(EQ r.2).1,wb:=(EQ r.2).1,rs:=(EQ r.2).2,ws:=(EQ r.2).2,so:=if o.dst.isNone then Zp r.2 else none }
   | none=>{}
 | .nilCheck x=>{ rt:=L9 x,wt:=d }
 | .binOp _ _ x y _=>{ rt:=tmpsOf [x,y],wt:=d }
 | .unOp _ _ x=>{ rt:=L9 x,wt:=d }
 | .convert _ _ x=>{ rt:=L9 x,wt:=d }
 | .fieldAddr _ x _=>{ rt:=L9 x,wt:=d }
 | .field _ x _=>{ rt:=L9 x,wt:=d }
 | .indexAddr _ x i=>{ rt:=tmpsOf [x,i],wt:=d }
 | .index _ x i=>{ rt:=tmpsOf [x,i],wt:=d }
 | .slice _ x lo hi mx=>{ rt:=tmpsOf (x::(lo.toList++hi.toList++mx.toList)),wt:=d }
 | .makeFunc _ _ caps=>{ rt:=tmpsOf caps.toList,wt:=d }
 | .lookup _ x y _=>{ rt:=tmpsOf [x,y],wt:=d,rs:=true }
 | .extract x i=>{ rt:=L9 x,wt:=d++(if M7 then L9 x else []),ex:=B5L x i o.dst }
 | .call c =>
   match c.callee with
   | .builtin .len=>{ rt:=tmpsOf c.args.toList,wt:=d,rs:=true }
   | .builtin .append=>{ rt:=tmpsOf c.args.toList,wt:=d++tmpsOf c.args.toList,rs:=J4 fl.opn o.dst || J4 fl.FF o.dst,ws:=J4 fl.opn o.dst || J4 fl.FF o.dst }
   | .builtin .clear=>{ rt:=tmpsOf c.args.toList,wt:=d,rs:=true,ws:=true }
   | .builtin _=>{ rt:=tmpsOf c.args.toList,wt:=d }
   | .value x=>{ rt:=tmpsOf (x::c.args.toList),wt:=d++tmpsOf c.args.toList,rs:=true,ws:=true }
   | .invoke _ _=>{}
 | op=>{ rt:=tmpsOf op.operands.toList,wt:=d++tmpsOf op.operands.toList,rs:=true,ws:=true }
def Xj (C:X4) (o:Oper):Bool :=
 match o.op with
 | .call c=>match c.callee with
   | .value (.func f) => !C.clone f && (C.iL f).isNone && (C.sig f).isNone
   | _=>false
 | _=>false
def B9P (C:X4) (fl:Flags) (o:Oper) (st st1:St):Fp :=
 (if Xj C o then { rt:=tmpsOf o.op.operands.toList,wt:=o.dst.toList } else Ee fl o st).Aq st st1
def jJ (a b:List Nat):Bool:=a.all fun x => !b.contains x
def A0F (f g:Fp):Bool :=
 match f.nb with
 | some t => !g.wl.contains t
 | none=>true
def B1W (f g:Fp):Bool :=
 jJ f.wt g.rt && jJ f.wt g.wt && jJ g.wt f.rt && jJ f.wb g.rb && jJ f.wb g.wb && jJ g.wb f.rb &&
  !(f.ws && (g.rs || g.ws)) && !(g.ws && (f.rs || f.ws)) && A0F f g && A0F g f
def B33 (f g:Fp):Bool :=
 match f.ex,g.ex with
 | some (x,i,d),some (y,j,e)=>x == y && i != j && d != e && d != x && e != x
 | _,_=>false
def A9J (f g:Fp):Bool :=
 match f.so,g.so with
 | some i,some j=>i != j && jJ f.wt g.rt && jJ f.wt g.wt && jJ g.wt f.rt
 | _,_=>false
def comm (f g:Fp):Bool:=B1W f g || B33 f g || A9J f g
def A8L {X:Type} (n:Nat) (k:Nat->X):X :=
 match n with
 | 0=>k 0
 | n+1=>k (n+1)
def Mh {X:Type}:List Nat->(List Nat->X)->X
 | [],k=>k []
 | a::l,k=>A8L a fun a'=>Mh l fun l'=>k (a'::l')
def dN {X:Type}:List (List Nat)->(List (List Nat)->X)->X
 | [],k=>k []
 | a::l,k=>Mh a fun a'=>dN l fun l'=>k (a'::l')
theorem A6J {X:Type} (n:Nat) (k:Nat->X):A8L n k=k n:=by cases n <;> rfl
theorem Uh {X:Type}:∀ (l:List Nat) (k:List Nat->X),Mh l k=k l
 | [],_=>rfl
 | a::l,k=>by simp only [Mh,A6J,Uh l]
theorem jV {X:Type}:∀ (l:List (List Nat)) (k:List (List Nat)->X),dN l k=k l
 | [],_=>rfl
 | a::l,k=>by simp only [dN,Uh,jV l]
def uniq:List Nat->List Nat
 | []=>[]
 | a::l=>if l.contains a then uniq l else a::uniq l
theorem A25 {x:Nat}:∀ {l:List Nat},x∈uniq l ↔ x∈l
 | []=>by simp [uniq]
 | a::l=>by
   simp only [uniq]
   split
   ·rename_i h
    rw [A25 (l:=l),zFq];constructor
    ·exact .inr
    ·rintro (rfl | h')
     ·simpa using h
     ·exact h'
   ·rw [zFq,zFq,A25 (l:=l)]
def KU:List Oper->List (List Nat)->List (List Nat)
 | [],acc=>acc
 | o::os,acc=>Mh (uniq ((o.after.toList.filter (Region.binds .any)).flatMap fun e=>e.on::acc.getD e.on [])) fun l=>KU os (acc++[l])
def Sq:Nat->List Oper->Bool
 | _,[]=>true
 | i,o::os=>(o.after.toList.filter (Region.binds .any)).all (fun e=>decide (e.on<i)) && Sq (i+1) os
def Iy (bf:List (List Nat)) (i:Nat) (acc:List (Nat × Fp)) (f:Fp):Bool :=
 acc.all fun p=>(bf.getD i []).contains p.1 || comm p.2 f
def A4D {X:Type} (b:Bool) (k:Bool->X):X :=
 match b with
 | true=>k true
 | false=>k false
def A8M {X:Type} (o:Option Nat) (k:Option Nat->X):X :=
 match o with
 | none=>k none
 | some n=>A8L n fun n=>k (some n)
def A5K {X:Type} (o:Option Bool) (k:Option Bool->X):X :=
 match o with
 | none=>k none
 | some b=>A4D b fun b=>k (some b)
def Sz {X:Type} (f:Fp) (k:Fp->X):X :=
 Mh f.rt fun rt=>Mh f.wt fun wt=>Mh f.rb fun rb=>Mh f.wb fun wb=>Mh f.wl fun wl =>
  A4D f.rs fun rs=>A4D f.ws fun ws=>A8M f.nb fun nb=>A5K f.so fun so=>k { rt:=rt,wt:=wt,rb:=rb,wb:=wb,wl:=wl,rs:=rs,ws:=ws,nb:=nb,ex:=f.ex,so:=so }
theorem A6H {X:Type} (b:Bool) (k:Bool->X):A4D b k=k b:=by cases b <;> rfl
theorem B38 {X:Type} (o:Option Nat) (k:Option Nat->X):A8M o k=k o:=by cases o <;> simp only [A8M,A6J]
theorem B2a {X:Type} (o:Option Bool) (k:Option Bool->X):A5K o k=k o:=by cases o <;> simp only [A5K,A6H]
theorem A4E {X:Type} (f:Fp) (k:Fp->X):Sz f k=k f:=by
 simp only [Sz,Uh,A6H,B38,B2a]
def Fp.look (f:Fp) (t:Nat):Fp:={ f with rt:=t::f.rt,ex:=none,so:=none }
def C01 (o:Oper) (t:Nat) (st:St):Fp:=Fp.Aq { rt:=[t],wt:=o.dst.toList } st (st.put o.dst (.F3 []) .val)
def kY (fl:Flags) (o:Oper) (t:Nat) (st:St) (J:Fp->St->Option X):Option X :=
 I7 C R fl o st fun st1=>J ((B9P C fl o st st1).look t) st1
def Ve (o:Oper) (t:Nat) (st:St) (J:Fp->St->Option X):Option X :=
 J (C01 o t st) (st.put o.dst (.F3 []) .val)
def Co (fl:Flags) (all:List Oper) (bf:List (List Nat)):List Oper->Nat->List (Nat × Fp)->St->(St->Option X)->Option X
 | [],_,_,st,k=>k st
 | o::os,i,acc,st,k=>A0z st fun st =>
   match o.guard with
   | none=>I7 C R fl o st fun st1=>Sz (B9P C fl o st st1) fun f=>og (Iy bf i acc f) (Co fl all bf os (i+1) ((i,f)::acc) st1 k)
   | some (g,want)=>ob (Ji all g) fun t=>og (J5 (st.get t).2) <|
     I1 (st.get t).1
      (if want then kY C R fl o t (st.know t (.bool true)) fun f st1=>Sz f fun f=>og (Iy bf i acc f) (Co fl all bf os (i+1) ((i,f)::acc) st1 k)
       else Ve o t (st.know t (.bool true)) fun f st1=>Sz f fun f=>og (Iy bf i acc f) (Co fl all bf os (i+1) ((i,f)::acc) st1 k))
      (if want then Ve o t (st.know t (.bool false)) fun f st1=>Sz f fun f=>og (Iy bf i acc f) (Co fl all bf os (i+1) ((i,f)::acc) st1 k)
       else kY C R fl o t (st.know t (.bool false)) fun f st1=>Sz f fun f=>og (Iy bf i acc f) (Co fl all bf os (i+1) ((i,f)::acc) st1 k))
      (Ve o t (st.know t (.F3 [])) fun f st1=>Sz f fun f=>og (Iy bf i acc f) (Co fl all bf os (i+1) ((i,f)::acc) st1 k))
inductive Out where
 | normal
 | exit (id:Nat)
 | ret
 deriving Inhabited
def Gu (fl:Flags) (id:Nat) (st:St):St :=
 match fl.keep.find? (·.1 == id) with
 | some e=>st.keep e.2.1 e.2.2.1 e.2.2.2.1 e.2.2.2.2
 | none=>st
def mX:Code->Option Nat
 | .region id _ _=>some id
 | .seq a _=>mX a
 | .block _ b=>mX b
 | .loop b=>mX b
 | .scope b=>mX b
 | _=>none
def clean (fl:Flags) (c:Code) (st:St):St :=
 match mX c with
 | some id=>Gu fl id st
 | none=>st
def aD {X:Type} (r:Nat) (st:St) (k:St->Option X):Option X :=
 match (st.get r).2 with
 | .arr i sz 0 len=>ob (GU st.sg i) fun q=>ob (FQ q sz len) fun d=>k ({ st with sg:=st.sg.set i (.arr 1 []) }.put (some r) d .own)
 | .ptr b off=>ob (M5 st.sg b) fun cs=>ob (Sj cs off) fun a=>ob (GU st.sg a.1) fun q=>ob (FQ q a.2.1 a.2.2) fun d =>
    k { st with sg:=(st.sg.set b (.box (cs.set off (d, .own)))).set a.1 (.arr 1 []) }
 | _=>none
def GQ {X:Type} (fl:Flags) (id:Nat) (st:St) (k:St->Option X):Option X :=
 match fl.B2X.find? (·.1 == id) with
 | some e=>aD e.2 st k
 | none=>k st
def bV (P:Program) (c:Operand) (st:St) (a b:St->Option X):Option X :=
 ob (src P 0 st c) fun r=>og (J5 r.2) <|
  match c with
  | .tmp t=>D7 r.1 (a (st.know t (.bool true))) (b (st.know t (.bool false)))
  | _=>D7 r.1 (a st) (b st)
def iter {S X:Type} (F:(S->Option X)->S->Option X):Nat->S->Option X
 | 0,_=>none
 | n+1,s=>F (iter F n) s
def VE (r:DV × Meta):DV × Meta :=
 match r.2 with
 | .val=>(r.1, .val)
 | .full=>(r.1, .full)
 | .own=>(r.1, .val)
 | .ptr i o=>(.undef, .ptr i o)
 | .Di=>(.Io, .Di)
 | .map i=>(.undef, .map i)
 | .QL=>(.undef, .QL)
 | .fn f caps=>(.undef, .fn f caps)
 | _=>(.undef, .val)
def AB (st:St) (sg:List D8):St :=
 { tm:=(st.tm.zip st.mt).map (fun r=>(VE r).1),mt:=(st.tm.zip st.mt).map (fun r=>(VE r).2),bx:=st.bx.map (fun _=>none),sg:=sg }
def WP (st:St) (p:Nat) (d:DV) (sg:List D8):St:=(AB st sg).put (some p) d .val
def BQ:List (DV × Meta)->Option (List DV)
 | []=>some []
 | c::cs=>og (match c.2 with
   | .val=>true
   | .full=>true
   | .own=>true
   | _=>false) (ob (BQ cs) fun ds=>some (c.1::ds))
def P8:Code->Bool
 | .rangeFunc _ _ _ _=>false
 | .seq a b=>P8 a && P8 b
 | .cond _ a b=>P8 a && P8 b
 | .block _ b=>P8 b
 | .loop b=>P8 b
 | .scope b=>P8 b
 | _=>true
def pF:Code->Bool
 | .region _ _ false=>true
 | .skip=>true
 | _=>false
def MM {X:Type} (step:DV->(List D8->Option X)->List D8->Option X) (fin:List D8->Option X):List DV->List D8->Option X
 | [],sg=>fin sg
 | d::ds,sg=>step d (MM step fin ds) sg
def A0v {X:Type} (C:X4) (st:St) (g:Operand) (ps:Array Nat) (pl:Bool) (fin:St->Option X) (step:Nat->DV->(List D8->Option X)->List D8->Option X):Option X :=
 match g,ps.toList with
 | .tmp t,[p] =>
   match (st.get t).2 with
   | .fn f [(i,0)]=>ob (C.iter f) fun it=>ob (M5 st.sg i) fun cs=>ob (BQ cs) fun cd=>ob (it cd) fun ds=>og pl
      (MM (step p) (fun sg=>fin (AB st sg)) ds (st.sg.set i (.arr 1 [])))
   | _=>none
 | _,_=>none
open Classical in
def Ha {S X:Type} (F:(S->Option X)->S->Option X) (s:S):Option X :=
 if h:∃ x n,iter F n s=some x then some h.choose else none
def R8 (fl:Flags):Code->(Out->St->Option X)->St->Option X
 | .skip,K,st=>K .normal st
 | .label _,K,st=>K .normal st
 | .scope b,K,st=>R8 fl b K st
 | .region id ops false,K,st=>Bt C R fl ops.toList ops.toList (Gu fl id st) fun st=>GQ fl id st (K .normal)
 | .region id ops true,K,st=>og (Sq 0 ops.toList) (dN (KU ops.toList []) fun bf=>Co C R fl ops.toList bf ops.toList 0 [] (Gu fl id st) fun st=>GQ fl id st (K .normal))
 | .seq a b,K,st=>R8 fl a (fun o st=>match o with
    | .normal=>R8 fl b K (clean fl b st)
    | .exit i=>K (.exit i) st
    | .ret=>K .ret st) st
 | .cond c a b,K,st=>bV C.P c st (fun st=>R8 fl a K (clean fl a st)) (fun st=>R8 fl b K (clean fl b st))
 | .block id b,K,st=>R8 fl b (fun o st=>match o with
    | .normal=>K .normal st
    | .exit i=>if i=id then K .normal st else K (.exit i) st
    | .ret=>K .ret st) st
 | .loop b,K,st=>Ha (fun J st=>R8 fl b (fun o st=>match o with
    | .normal=>J (clean fl b st)
    | .exit i=>K (.exit i) st
    | .ret=>K .ret st) st) (clean fl b st)
 | .rangeFunc g ps assign body,K,st=>A0v C st g ps (pF assign && P8 body) (fun st=>K .normal st) fun p d J sg =>
    R8 fl assign (fun o st1=>match o with
     | .normal=>R8 fl body (fun o st2=>match o with
       | .normal=>J st2.sg
       | .exit e=>K (.exit e) (AB st st2.sg)
       | .ret=>K .ret (AB st st2.sg)) (clean fl body st1)
     | .exit _=>none
     | .ret=>none) (clean fl assign (WP st p d sg))
 | .exit id,K,st=>K (.exit id) st
 | .ret,K,st=>K .ret st
 | _,_,_=>none
end
variable (fn:Func)
def F7 (rs:List (DV × Meta)) (sg:List D8):St where
 tm:=rs.map (·.1)++List.replicate (fn.ntmps-rs.length) (.F3 [])
 mt:=rs.map (·.2)++List.replicate (fn.ntmps-rs.length) .val
 bx:=List.replicate (rs.length+(fn.ntmps-rs.length)) none
 sg:=sg
def Q7 (c:DV × Meta):Option DV :=
 match c.2 with
 | .val=>some c.1
 | .full=>some c.1
 | .own=>some c.1
 | .Di=>some c.1
 | .arr i sz off len=>ob (BN sg i) fun a=>og (a.1 == sz) (if off+len<=a.2.length then some (.list sz ((a.2.drop off).take len)) else none)
 | _=>none
def U0 (sg:List D8):List (DV × Meta)->Option (List DV)
 | []=>some []
 | c::cs=>ob (Q7 sg c) fun d=>ob (U0 sg cs) fun ds=>some (d::ds)
def ed:ResultVar->Option DV
 | .tmp t =>
   match (st.get t).2 with
   | .Dw ms =>  og (J5 (.Dw ms)) (some (st.get t).1)
   | _=>Q7 st.sg (st.get t)
 | .cell a t =>
   match (st.get a).2 with
   | .loc s 0=>ob (st.bx.getD s none) fun cs=>ob (tz P t) fun z =>
     if z.1=cs.length then
      if z.2 then ob (U0 st.sg cs) fun ds=>some (.agg ds)
      else match cs with
       | [c]=>Q7 st.sg c
       | _=>none
     else none
   | .ptr i 0=>ob (M5 st.sg i) fun cs=>ob (tz P t) fun z =>
     if z.1=cs.length then
      if z.2 then ob (U0 st.sg cs) fun ds=>some (.agg ds)
      else match cs with
       | [c]=>Q7 st.sg c
       | _=>none
     else none
   | _=>none
def aH (P:Program) (st:St):List ResultVar->Option (List DV)
 | []=>some []
 | v::vs=>ob (ed P st v) fun d=>ob (aH P st vs) fun ds=>some (d::ds)
def pack:List DV->DV
 | [d]=>d
 | ds => .F3 ds
def SY:Out->St->Option DV
 | .exit _,_=>none
 | _,st=>ob (aH P st fn.results.toList) fun ds=>some (pack ds)
def A0r:Meta->List Nat
 | .arr i _ _ _=>[i]
 | _=>[]
def Tz:ResultVar->List Nat
 | .tmp t=>A0r (st.get t).2
 | .cell a _ =>
   match (st.get a).2 with
   | .loc s _ =>
     match st.bx.getD s none with
     | some cs=>cs.flatMap fun c=>A0r c.2
     | none=>[]
   | _=>[]
def kill (us:List Nat):List D8:=us.foldl (fun g i=>g.set i (.arr 1 [])) sg
def A20:ResultVar->Bool
 | .tmp _=>true
 | .cell a _ =>
   match (st.get a).2 with
   | .loc _ _=>true
   | _=>false
def A9n (r:DV × Meta):Option DV :=
 match r.2 with
 | .ptr i 0=>some (.int .u64 i)
 | .Di=>some .Io
 | _=>none
def kJ (os:List Nat):Nat->List (DV × Meta)->Bool
 | _,[]=>true
 | i,c::cs=>(if os.contains i then Kg c.2 else J5 c.2) && kJ os (i+1) cs
def A49 (sl:Bool) (st:St) (k:MK) (v:ResultVar):Option DV :=
 match k with
 | .val=>match sl && A20 st v with
   | true=>ed P st v
   | false=>ed P { st with sg:=[] } v
 | .own =>
   match v with
   | .tmp t=>og (Kg (st.get t).2) (some (st.get t).1)
   | _=>none
 | .ptr =>
   match v with
   | .tmp t=>A9n (st.get t)
   | _=>none
 | .YK n os =>
   match v with
   | .cell a t =>
     match (st.get a).2 with
     | .loc s 0=>ob (st.bx.getD s none) fun cs=>ob (tz P t) fun z=>og (z.2 && z.1 == cs.length && n == z.1 && kJ os 0 cs) (some (.agg (cs.map (·.1))))
     | _=>none
   | _=>none
def Xp (P:Program) (sl:Bool) (st:St):List MK->List ResultVar->Option (List DV)
 | [],[]=>some []
 | k::ks,v::vs=>ob (A49 P sl st k v) fun d=>ob (Xp P sl st ks vs) fun ds=>some (d::ds)
 | _,_=>none
def Jm (s:CZ):Out->St->Option (List DV × List D8)
 | .exit _,_=>none
 | _,st=>og (decide ((s.results.filter DT).length<=1)) (ob (Xp P s.lock st s.results fn.results.toList) fun ds=>some (ds,match s.lock with
   | true=>kill st.sg (fn.results.toList.flatMap (Tz st))
   | false=>st.sg))
variable (R:O4) (fl:Flags)
def jE (p:Cut) (K:Out->St->Option X):Out->St->Option X
 | .normal,st=>ob (p.mid st) fun st=>R8 C R fl p.post K (clean fl p.post st)
 | .exit _,_=>none
 | .ret,st=>K .ret st
def xR (q:Option Cut) (c:Code) (K:Out->St->Option X) (st:St):Option X :=
 match q with
 | some p=>R8 C R fl (CX p.pre .skip) (jE C R fl p K) st
 | none=>R8 C R fl c K st
def stays:Meta->Bool
 | .val=>true
 | .full=>true
 | .own=>true
 | .Di=>true
 | .ptr _ _=>true
 | .map _=>true
 | _=>false
def kX (o:Oper) (st:St):Option (FuncId × List (DV × Meta)) :=
 match o.op with
 | .defer c =>
   match c.callee with
   | .value (.func f)=>ob (Ie C.P st c.argTypes.toList c.args.toList) fun rs =>
      og (C.dfn f && o.guard.isNone && o.dst.isNone && rs.all fun r=>stays r.2) (some (f,rs.map fun r=>VE (r.1,QY r.2)))
   | _=>none
 | _=>none
def A8s (K:Out->St->Option (List DV × List D8)) (q:FuncId × List (DV × Meta)):Out->St->Option (List DV × List D8)
 | .exit _,_=>none
 | o,st=>ob (R.r q.1 q.2 st.sg) fun p=>K o { st with sg:=p.2 }
def gB (p:A5x) (K:Out->St->Option X) (Kd:FuncId × List (DV × Meta)->Out->St->Option X):Out->St->Option X
 | .exit _,_=>none
 | .ret,st=>K .ret st
 | .normal,st=>bV C.P p.c st
    (fun st=>R8 C R fl p.a (fun o st=>match o with
      | .normal=>Bt C R fl (p.ops++[p.gD]) p.ops (Gu fl p.id st) fun st=>ob (kX C p.gD st) fun q=>R8 C R fl p.post (Kd q) (clean fl p.post st)
      | .exit _=>none
      | .ret=>K .ret st) (clean fl p.a st))
    (fun st=>R8 C R fl p.post K (clean fl p.post st))
def CE:O4 where
 p f ds:=ob C.P.funcs[f]? fun fn=>ob fn.body fun c =>
     xR C R (C.fl f) (C.Yj f) c (SY C.P fn) (F7 fn (ds.map fun d=>(d, .val)) [])
 r f rs sg:=ob (C.sig f) fun s=>ob C.P.funcs[f]? fun fn=>ob fn.body fun c =>
   match C.jI f with
   | none=>R8 C R (C.fl f) c (Jm C.P fn s) (F7 fn rs sg)
   | some p=>R8 C R (C.fl f) (CX (p.pre++[p.r]) .skip) (gB C R (C.fl f) p (Jm C.P fn s) (A8s R (Jm C.P fn s))) (F7 fn rs sg)
def Kk (C:X4):Nat->O4
 | 0=>{ p:=fun _ _=>none,r:=fun _ _ _=>none }
 | n+1=>CE C (Kk C n)
open Classical in
def run:O4 where
 p f ds:=if h:∃ x n,(Kk C n).p f ds=some x then some h.choose else none
 r f rs sg:=if h:∃ x n,(Kk C n).r f rs sg=some x then some h.choose else none
abbrev pt:DV × Meta:=(.undef, .ptr i 0)
abbrev oc {α : Type} (q:Option (List DV × List D8)) (k:DV->List D8->Option α):Option α := ob q fun r=>k (r.1.getD 0 .undef) r.2
end
end Go.Su

/-
 THE DATA MACHINE, part 3: what it means that memory holds plain data, and what keeps it so.
-/
namespace Go.Su
abbrev Heap:=Array Obj
abbrev X6:=Nat->Nat->Prop
variable (h:Heap)
def hc (b o:Nat):Option Value :=
 match h[b]? with
 | some (.cells c _ _)=>c[o]?
 | _=>none
theorem Sl (w:World) (b o:Nat):w.cell? ⟨b,o,none⟩=hc w.heap b o:=by
 unfold World.cell? hc
 split <;> simp_all
variable (S:X6)
def At (h:Heap) (b o:Nat) (vs:List Value):Prop :=
 ∀ j v,vs[j]?=some v->hc h b (o+j)=some v/\S b (o+j)
mutual
def RC (S:X6) (h:Heap):DV->List Value->Prop
 | .undef,vs=>∃ v,vs=[v]/\v.oneCell'=true
 | .int k n,vs=>vs=[.int k n]
 | .bool b,vs=>vs=[.bool b]
 | .str s,vs=>vs=[.string s]
 | .agg cs,vs=>Gq S h cs vs
 | .F3 _,_=>False
 | .list sz ds,vs=>∃ a len cap,vs=[.slice a len cap]/\len=ds.length/\len<=cap/\(a=none->cap=0)/\(ds≠[]->0<sz) /\
    ∀ x,a=some x->(0<cap->x.spot=none)/\Dc S h sz x.block x.off ds
 | .Io,vs=>vs=[.pointer none]
 | .Mv sz d,vs=>∃ b o,vs=[.pointer (some ⟨b,o,none⟩)]/\∃ us:List Value,us.length=sz/\At S h b o us/\RC S h d us
def Gq (S:X6) (h:Heap):List DV->List Value->Prop
 | [],vs=>vs=[]
 | d::ds,vs=>∃ v vs',vs=v::vs'/\K6 d=true/\RC S h d [v]/\Gq S h ds vs'
def Dc (S:X6) (h:Heap) (sz b:Nat):Nat->List DV->Prop
 | _,[]=>True
 | o,d::ds=>(∃ vs,vs.length=sz/\At S h b o vs/\RC S h d vs)/\Dc S h sz b (o+sz) ds
end
mutual
def RV (S:X6) (h:Heap):DV->Value->Prop
 | .undef,_=>True
 | .int k n,v=>v = .int k n
 | .bool b,v=>v = .bool b
 | .str s,v=>v = .string s
 | .agg cs,v=>∃ vs,v = .agg vs/\Gq S h cs vs.toList
 | .F3 ds,v=>∃ vs,v = .tuple vs/\Pj S h ds vs.toList
 | .list sz ds,v=>RC S h (.list sz ds) [v]
 | .Io,v=>v = .pointer none
 | .Mv sz d,v=>RC S h (.Mv sz d) [v]
def Pj (S:X6) (h:Heap):List DV->List Value->Prop
 | [],vs=>vs=[]
 | d::ds,vs=>∃ v vs',vs=v::vs'/\RV S h d v/\Pj S h ds vs'
end
theorem Eo {S:X6} {h:Heap}:∀ {cs:List DV} {vs:List Value},Gq S h cs vs ↔
 cs.length=vs.length/\∀ (i:Nat) d v,cs[i]?=some d->vs[i]?=some v->K6 d=true/\RC S h d [v]
 | [],vs=>by
   simp only [Gq];constructor
   ·rintro rfl;simp
   ·rintro ⟨h1,-⟩;exact ztq h1.symm
 | d::ds,vs=>by
   simp only [Gq];constructor
   ·rintro ⟨v,vs',rfl,hl,hc,hr⟩
    obtain ⟨h1,h2⟩:=Eo.1 hr;refine ⟨by simp [h1],fun i d' v' hd hv => ?_⟩
    cases i with
    | zero=>simp at hd hv;subst hd hv;exact ⟨hl,hc⟩
    | succ i=>simp at hd hv;exact h2 i d' v' hd hv
   ·rintro ⟨h1,h2⟩
    cases vs with
    | nil=>simp at h1
    | cons v vs' =>
      refine ⟨v,vs',rfl,(h2 0 d v rfl rfl).1,(h2 0 d v rfl rfl).2,Eo.2 ⟨by simpa using h1,fun i d' v' hd hv=>h2 (i+1) d' v' (by simpa using hd) (by simpa using hv)⟩⟩
theorem VY {S:X6} {h:Heap}:∀ {cs:List DV} {vs:List Value},Pj S h cs vs ↔
 cs.length=vs.length/\∀ (i:Nat) d v,cs[i]?=some d->vs[i]?=some v->RV S h d v
 | [],vs=>by
   simp only [Pj];constructor
   ·rintro rfl;simp
   ·rintro ⟨h1,-⟩;exact ztq h1.symm
 | d::ds,vs=>by
   simp only [Pj];constructor
   ·rintro ⟨v,vs',rfl,hc,hr⟩
    obtain ⟨h1,h2⟩:=VY.1 hr;refine ⟨by simp [h1],fun i d' v' hd hv => ?_⟩
    cases i with
    | zero=>simp at hd hv;subst hd hv;exact hc
    | succ i=>simp at hd hv;exact h2 i d' v' hd hv
   ·rintro ⟨h1,h2⟩
    cases vs with
    | nil=>simp at h1
    | cons v vs' =>
      refine ⟨v,vs',rfl,h2 0 d v rfl rfl,VY.2 ⟨by simpa using h1,fun i d' v' hd hv=>h2 (i+1) d' v' (by simpa using hd) (by simpa using hv)⟩⟩
def Elem (S:X6) (h:Heap) (sz b o:Nat) (d:DV):Prop:=∃ vs:List Value,vs.length=sz/\At S h b o vs/\RC S h d vs
theorem Dp {S:X6} {h:Heap} {sz b:Nat}:∀ {ds:List DV} {o:Nat},Dc S h sz b o ds ↔
 ∀ (i:Nat) d,ds[i]?=some d->Elem S h sz b (o+i * sz) d
 | [],o=>by simp [Dc]
 | d::ds,o=>by
   simp only [Dc];constructor
   ·rintro ⟨h1,h2⟩ i d' hd
    cases i with
    | zero=>simp at hd;subst hd;simpa [Elem] using h1
    | succ i =>
      have:=Dp.1 h2 i d' (by simpa using hd)
      rw [zqq,zGq (i * sz),<- zlq];exact this
   ·intro hh
    refine ⟨by simpa [Elem] using hh 0 d rfl,Dp.2 fun i d' hd => ?_⟩
    have:=hh (i+1) d' (by simpa using hd)
    rw [zqq,zGq (i * sz),<- zlq] at this;exact this
structure Y0 (S:X6) (h:Heap) (S':X6) (h':Heap):Prop where
 s:∀ b o,S b o->S' b o
 c:∀ b o v,S b o->hc h b o=some v->hc h' b o=some v
variable {S:X6} {h:Heap} {vs:List Value}
theorem At.mono {S':X6} {h':Heap} {b o:Nat} (J3:Y0 S h S' h') (H:At S h b o vs):At S' h' b o vs :=
 fun j v hv=>⟨J3.c _ _ _ (H j v hv).2 (H j v hv).1,J3.s _ _ (H j v hv).2⟩
mutual
theorem RC.mono {S S':X6} {h h':Heap} (J3:Y0 S h S' h'):∀ (d:DV) {vs:List Value},RC S h d vs->RC S' h' d vs
 | .undef,_,H=>by simpa only [RC] using H
 | .int _ _,_,H=>by simpa only [RC] using H
 | .bool _,_,H=>by simpa only [RC] using H
 | .str _,_,H=>by simpa only [RC] using H
 | .agg cs,_,H=>by simp only [RC] at H ⊢;exact Gq.mono J3 cs H
 | .F3 _,_,H=>by simp only [RC] at H
 | .list sz ds,_,H=>by
   simp only [RC] at H ⊢;obtain ⟨a,len,cap,h1,h2,h3,h4,h5,h6⟩:=H;exact ⟨a,len,cap,h1,h2,h3,h4,h5,fun x hx=>⟨(h6 x hx).1,Dc.mono J3 ds (h6 x hx).2⟩⟩
 | .Io,_,H=>by simpa only [RC] using H
 | .Mv sz d,_,H=>by
   simp only [RC] at H ⊢;obtain ⟨b,o,h1,us,h2,h3,h4⟩:=H;exact ⟨b,o,h1,us,h2,h3.mono J3,RC.mono J3 d h4⟩
theorem Gq.mono {S S':X6} {h h':Heap} (J3:Y0 S h S' h'):∀ (ds:List DV) {vs:List Value},Gq S h ds vs->Gq S' h' ds vs
 | [],_,H=>by simpa only [Gq] using H
 | d::ds,_,H=>by
   simp only [Gq] at H ⊢;obtain ⟨v,vs',h1,h2,h3,h4⟩:=H;exact ⟨v,vs',h1,h2,RC.mono J3 d h3,Gq.mono J3 ds h4⟩
theorem Dc.mono {S S':X6} {h h':Heap} (J3:Y0 S h S' h') {sz b:Nat}:∀ (ds:List DV) {o:Nat},Dc S h sz b o ds->Dc S' h' sz b o ds
 | [],_,_=>by simp only [Dc]
 | d::ds,_,H=>by
   simp only [Dc] at H ⊢;obtain ⟨⟨vs,h1,h2,h3⟩,h4⟩:=H;exact ⟨⟨vs,h1,h2.mono J3,RC.mono J3 d h3⟩,Dc.mono J3 ds h4⟩
end
variable {S:X6} {h:Heap} {d:DV}
theorem Elem.mono {S':X6} {h':Heap} (J3:Y0 S h S' h') {sz b o:Nat} (H:Elem S h sz b o d):Elem S' h' sz b o d :=
 let ⟨vs,h1,h2,h3⟩:=H
 ⟨vs,h1,h2.mono J3,RC.mono J3 d h3⟩
mutual
theorem RV.mono {S S':X6} {h h':Heap} (J3:Y0 S h S' h'):∀ (d:DV) {v:Value},RV S h d v->RV S' h' d v
 | .undef,_,_=>by simp only [RV]
 | .int _ _,_,H=>by simpa only [RV] using H
 | .bool _,_,H=>by simpa only [RV] using H
 | .str _,_,H=>by simpa only [RV] using H
 | .agg cs,_,H=>by simp only [RV] at H ⊢;obtain ⟨vs,h1,h2⟩:=H;exact ⟨vs,h1,Gq.mono J3 cs h2⟩
 | .F3 ds,_,H=>by simp only [RV] at H ⊢;obtain ⟨vs,h1,h2⟩:=H;exact ⟨vs,h1,Pj.mono J3 ds h2⟩
 | .list _ _,_,H=>by simp only [RV] at H ⊢;exact RC.mono J3 _ H
 | .Io,_,H=>by simpa only [RV] using H
 | .Mv _ _,_,H=>by simp only [RV] at H ⊢;exact RC.mono J3 _ H
theorem Pj.mono {S S':X6} {h h':Heap} (J3:Y0 S h S' h'):∀ (ds:List DV) {vs:List Value},Pj S h ds vs->Pj S' h' ds vs
 | [],_,H=>by simpa only [Pj] using H
 | d::ds,_,H=>by
   simp only [Pj] at H ⊢;obtain ⟨v,vs',h1,h2,h3⟩:=H;exact ⟨v,vs',h1,RV.mono J3 d h2,Pj.mono J3 ds h3⟩
end
variable {S:X6} {h:Heap} {d:DV} {v:Value}
theorem JH (hl:K6 d=true) (H:RC S h d [v]):v.oneCell'=true:=by
 cases d <;> simp only [RC,K6] at H hl <;> try contradiction
 ·obtain ⟨u,hu,hv⟩:=H;simp at hu;subst hu;exact hv
 ·simp at H;subst H;rfl
 ·simp at H;subst H;rfl
 ·simp at H;subst H;rfl
 ·obtain ⟨a,len,cap,hu,-⟩:=H;simp at hu;subst hu;rfl
 ·simp at H;subst H;rfl
 ·obtain ⟨b,o,hu,-⟩:=H;simp at hu;subst hu;rfl
variable {vs:List Value}
theorem KS (hl:K6 d=true) (H:RC S h d vs):∃ v,vs=[v]:=by
 cases d <;> simp only [RC,K6] at H hl <;> try contradiction
 ·obtain ⟨u,hu,-⟩:=H;exact ⟨u,hu⟩
 ·exact ⟨_,H⟩
 ·exact ⟨_,H⟩
 ·exact ⟨_,H⟩
 ·obtain ⟨a,len,cap,hu,-⟩:=H;exact ⟨_,hu⟩
 ·exact ⟨_,H⟩
 ·obtain ⟨b,o,hu,-⟩:=H;exact ⟨_,hu⟩
theorem LZ (hl:K6 d=true) (H:RC S h d [v]):RV S h d v:=by
 cases d <;> simp only [RC,RV,K6] at H hl ⊢ <;> try contradiction
 ·simpa using H
 ·simpa using H
 ·simpa using H
 ·exact H
 ·simpa using H
 ·exact H
theorem Nq (hl:K6 d=true) (hv:v.oneCell'=true) (H:RV S h d v):RC S h d [v]:=by
 cases d <;> simp only [RC,RV,K6] at H hl ⊢ <;> try contradiction
 ·exact ⟨v,rfl,hv⟩
 ·simpa using H
 ·simpa using H
 ·simpa using H
 ·exact H
 ·simpa using H
 ·exact H
theorem MZ (H:RC S h d vs) {j:Nat} (hv:vs[j]?=some v) :
 K6 (A7 j d)=true/\RC S h (A7 j d) [v]:=by
 have und:∀ u:Value,u.oneCell'=true->K6 DV.undef=true/\RC S h DV.undef [u]:=fun u hu=>⟨rfl,by simp only [RC];exact ⟨u,rfl,hu⟩⟩
 cases d with
 | agg cs =>
   simp only [RC] at H;obtain ⟨h1,h2⟩:=Eo.1 H;have hj:j<vs.length:=(z0q.1 hv).1;have hc:cs[j]?=some (cs[j]'(by omega)):=z3q (by omega)
   have:=h2 j _ v hc hv;simp only [A7,z1q,hc,zzq];exact this
 | F3 _=>simp only [RC] at H
 | undef =>
   obtain ⟨u,rfl⟩:=KS (d := .undef) rfl H;have h1:=JH (d := .undef) rfl H;cases j with
   | zero=>simp at hv;subst hv;exact und _ h1
   | succ j=>simp at hv
 | int k n =>
   obtain ⟨u,rfl⟩:=KS (d := .int k n) rfl H;have h1:=JH (d := .int k n) rfl H;cases j with
   | zero=>simp at hv;subst hv;exact und _ h1
   | succ j=>simp at hv
 | bool b =>
   obtain ⟨u,rfl⟩:=KS (d := .bool b) rfl H;have h1:=JH (d := .bool b) rfl H;cases j with
   | zero=>simp at hv;subst hv;exact und _ h1
   | succ j=>simp at hv
 | str s =>
   obtain ⟨u,rfl⟩:=KS (d := .str s) rfl H;have h1:=JH (d := .str s) rfl H;cases j with
   | zero=>simp at hv;subst hv;exact und _ h1
   | succ j=>simp at hv
 | list sz ds =>
   obtain ⟨u,rfl⟩:=KS (d := .list sz ds) rfl H;have h1:=JH (d := .list sz ds) rfl H;cases j with
   | zero=>simp at hv;subst hv;exact und _ h1
   | succ j=>simp at hv
 | Io =>
   obtain ⟨u,rfl⟩:=KS (d := .Io) rfl H;have h1:=JH (d := .Io) rfl H;cases j with
   | zero=>simp at hv;subst hv;exact und _ h1
   | succ j=>simp at hv
 | Mv sz d =>
   obtain ⟨u,rfl⟩:=KS (d := .Mv sz d) rfl H;have h1:=JH (d := .Mv sz d) rfl H;cases j with
   | zero=>simp at hv;subst hv;exact und _ h1
   | succ j=>simp at hv
end Go.Su

/-
 THE DATA MACHINE, part 4: a state of the data machine and a state of the model that hold the same.
-/
namespace Go.Su
inductive Tag where
 | other
 | shut
 | SX (s:Nat)
 | obj (i:Nat)
 | sp (k a b:Nat)
 deriving DecidableEq
structure Env where
 blk:Nat->Nat
 obj:Nat->Nat
 base:Nat->Nat
 top:Nat->Nat
 O:Nat->Nat->Tag
 n:Nat
 Al:Nat->Nat
variable (E:Env)
def Env.In (i:Nat):Prop:=i<E.n/\E.Al i=0
def Env.S:X6:=fun b o=>E.O b o = .shut
variable (h:Heap) (tg:Tag)
def A7Y (sz:Nat) (v:Value):Prop :=
 ∀ (x:Addr) (len cap:Nat),v = .slice (some x) len cap->len<cap->∃ c T f,h[x.block]?=some (.cells c T f)/\x.off+cap * sz<=c.size /\
   ∀ o,x.off+len * sz<=o->o<x.off+cap * sz->E.O x.block o=tg/\¬(f.1<=o/\o<f.2)
def J8 (d:DV) (m:Meta) (v:Value):Prop :=
 match m with
 | .val=>RV E.S h d v
 | .full=>RV E.S h d v/\(∃ (a:Option Addr) (n:Nat),v = .slice a n n)/\∃ sz ds,d = .list sz ds
 | .own=>RV E.S h d v/\∃ sz ds,d = .list sz ds/\A7Y E h tg sz v
 | .loc s o=>d = .undef/\v = .pointer (some ⟨E.blk s,o,none⟩)
 | .OX ag sz o=>∃ b o0,v = .pointer (some ⟨b,o0+o,none⟩)/\Elem E.S h sz b o0 d/\(ag=false->K6 d=true)
 | .ptr i o=>E.In i/\v = .pointer (some ⟨E.obj i,o,none⟩)
 | .Di=>d = .Io/\v = .pointer none
 | .map i=>E.In i/\v = .map (some (E.obj i))
 | .QL=>v = .map none
 | .arr i sz off len=>E.In i/\∃ (a:Option Addr) (cap:Nat),v = .slice a len cap/\(0<len->a=some ⟨E.obj i,E.base i+off * sz,none⟩)/\len<=cap/\(a=none->cap=0)/\(∀ x,a=some x->x.spot=none)/\(0<len->E.base i+(off+cap) * sz<=E.top i)
 | .Yr i sz idx o=>E.In i/\v = .pointer (some ⟨E.obj i,E.base i+idx * sz+o,none⟩)
 | .opt i sz idx=>E.In i/\v = .pointer (some ⟨E.obj i,E.base i+idx * sz,none⟩)
 | .U1 i n sz len=>i<E.n/\0<n/\n<=E.Al i/\∃ (a:Option Addr) (cap:Nat),v = .slice a len cap/\len<=cap/\(a=none->cap=0)/\(0<cap->∀ x,a=some x->x.spot=none) /\
    (E.Al i=n->0<cap->a=some ⟨E.obj i,E.base i,none⟩/\E.base i+cap * sz<=E.top i)
 | .nL i n sz idx o=>i<E.n/\0<n/\n<=E.Al i/\∃ b p,v = .pointer (some ⟨b,p+o,none⟩)/\(E.Al i=n->b=E.obj i/\p=E.base i+idx * sz)
 | .fn f caps=>v = .func (.func f) #[] (caps.map fun c=>Value.pointer (some ⟨E.obj c.1,c.2,none⟩)).toArray/\∀ c∈caps,E.In c.1
 | .Br _=>False
 | .Dw _=>False
def RR (k a:Nat) (d:DV) (m:Meta) (v:Value):Prop :=
 match m with
 | .Br ms=>∃ (ds:List DV) (vs:Array Value),d = .F3 ds/\v = .tuple vs/\ds.length=ms.length/\vs.size=ms.length /\
    ∀ (i:Nat) m' d' u,ms[i]?=some m'->ds[i]?=some d'->vs[i]?=some u->X0 m'=true/\J8 E h (.sp k a (i+1)) d' m' u
 | .Dw ms=>∃ (ds:List DV) (vs:Array Value),d = .agg ds/\v = .agg vs/\ds.length=ms.length/\vs.size=ms.length /\
    ∀ (i:Nat) m' d' u,ms[i]?=some m'->ds[i]?=some d'->vs[i]?=some u->K6 d'=true/\u.oneCell'=true/\X0 m'=true/\J8 E h (.sp k a (i+1)) d' m' u
 | m=>J8 E h (.sp k a 0) d m v
def ak (k a:Nat) (b:Nat) (cs:List (DV × Meta)):Prop :=
 ∃ c T,h[b]?=some (.cells c T (0,0))/\c.size=cs.length/\(∀ o,E.O b o=tg\/c.size<=o) /\
   ∀ (j:Nat) r v,cs[j]?=some r->c[j]?=some v->K6 r.1=true/\v.oneCell'=true/\X0 r.2=true/\J8 E h (.sp k a j) r.1 r.2 v
def B9t (S:X6) (h:Heap) (ks:Bool) (es:List (DV × DV)) (ens:Array MapEntry):Prop :=
 es.length=ens.size/\∀ (j:Nat) e n,es[j]?=some e->ens[j]?=some n->isKey ks e.1=true/\RV S h e.1 n.key/\RV S h e.2 n.val
def nN (ens:Array MapEntry) (clk:Nat):Prop :=
 (∀ (j:Nat) n,ens[j]?=some n->n.born<clk)/\∀ (i j:Nat) m n,ens[i]?=some m->ens[j]?=some n->m.born=n.born->i=j
def RO (i:Nat):D8->Prop
 | .box cs=>ak E h (.obj i) 2 i (E.obj i) cs
 | .arr sz ds=>ds≠[]->∃ c T,h[E.obj i]?=some (.cells c T (0,0))/\E.base i+ds.length * sz<=c.size/\0<sz /\
    (∀ o,E.base i<=o->o<E.base i+ds.length * sz->E.O (E.obj i) o = .obj i) /\
    ∀ (j:Nat) d,ds[j]?=some d->∃ vs:List Value,vs.length=sz/\(∀ (x:Nat) u,vs[x]?=some u->c[E.base i+j * sz+x]?=some u)/\RC E.S h d vs
 | .opn sz pre ds=>∃ c T f,h[E.obj i]?=some (.cells c T f)/\E.base i+(pre.length+ds.length) * sz<=E.top i/\E.top i<=c.size/\0<sz /\
    (∀ o,E.base i+pre.length * sz<=o->o<E.top i->E.O (E.obj i) o = .obj i/\¬(f.1<=o/\o<f.2)) /\
    (∀ (j:Nat) d,pre[j]?=some d->Elem E.S h sz (E.obj i) (E.base i+j * sz) d) /\
    ∀ (j:Nat) d,ds[j]?=some d->∃ vs:List Value,vs.length=sz/\(∀ (x:Nat) u,vs[x]?=some u->c[E.base i+(pre.length+j) * sz+x]?=some u)/\RC E.S h d vs
 | .U1 n sz ds=>E.Al i=n/\0<n/\0<sz/\((ds=[]/\E.top i=E.base i)\/∃ c T f,h[E.obj i]?=some (.cells c T f)/\E.base i+ds.length * sz<=E.top i/\E.top i<=c.size /\
    (∀ o,E.base i<=o->o<E.top i->E.O (E.obj i) o = .obj i/\¬(f.1<=o/\o<f.2)) /\
    ∀ (j:Nat) d,ds[j]?=some d->∃ vs:List Value,vs.length=sz/\(∀ (x:Nat) u,vs[x]?=some u->c[E.base i+j * sz+x]?=some u)/\RC E.S h d vs)
 | .map ks es=>∃ ens clk,h[E.obj i]?=some (.map ens clk)/\(∀ o,E.O (E.obj i) o = .obj i)/\B9t E.S h ks es ens/\nN ens clk
structure J6 (E:Env) (st:St) (a:Act) (h:Heap):Prop where
 size:a.tmps.size=st.tm.length
 AP:st.mt.length=st.tm.length
 Bi:st.bx.length=st.tm.length
 n:st.sg.length=E.n
 regs:∀ (t:Nat) v,a.tmps[t]?=some v->RR E h 0 t (st.get t).1 (st.get t).2 v
 boxes:∀ (s:Nat) cs,st.bx.getD s none=some cs->ak E h (.SX s) 1 s (E.blk s) cs
 Q0:∀ (i:Nat) ob,st.sg[i]?=some ob->RO E h i ob
 fresh:∀ b o,h.size<=b->E.O b o = .other
structure Q3 (w w':World):Prop where
 os:w'.os=w.os
 tape:w'.tape=w.tape
 output:w'.output=w.output
theorem Q3.refl (w:World):Q3 w w:=⟨rfl,rfl,rfl⟩
theorem Q3.trans {a b c:World} (h:Q3 a b) (k:Q3 b c):Q3 a c:=⟨k.os.trans h.os,k.tape.trans h.tape,k.output.trans h.output⟩
def U6 (keep:Nat->Prop) (x y:Option Obj):Prop :=
 match x with
 | none=>True
 | some (.cells c T f)=>∃ c',y=some (.cells c' T f)/\c'.size=c.size/\∀ o,keep o->c'[o]?=c[o]?
 | some ob=>keep 0->y=some ob
def A7Z (ch:Tag->Prop) (E E':Env):Prop:=∀ i,i<E.n->(E.Al i=0->E'.Al i=0)/\E.Al i<=E'.Al i/\(¬ ch (.obj i)->E'.Al i=E.Al i)
variable {E:Env} {E':Env}
theorem DK {ch:Tag->Prop} (h:E'.Al=E.Al):A7Z ch E E':=fun i _=>by rw [h];exact ⟨id,z5q _,fun _=>rfl⟩
theorem aK {ch:Tag->Prop} (h:E'.Al=fun i=>if i=E.n then 0 else E.Al i):A7Z ch E E':=fun i hi=>by
 have:E'.Al i=E.Al i:=by rw [h];exact if_neg (by omega)
 rw [this];exact ⟨id,z5q _,fun _=>rfl⟩
structure Pr (ch:Tag->Prop) (E:Env) (h:Heap) (E':Env) (h':Heap):Prop where
 size:h.size<=h'.size
 blk:∀ b,b<h.size->U6 (fun o=>¬ ch (E.O b o)) h[b]? h'[b]?
 tags:∀ b o,b<h.size->¬ ch (E.O b o)->E'.O b o=E.O b o
 n:E.n<=E'.n
 Q0:∀ i,i<E.n->E'.Al i=E.Al i->E'.obj i=E.obj i/\E'.base i=E.base i/\E'.top i=E.top i
 jD:∀ s,¬ ch (.SX s)->E'.blk s=E.blk s
 Mw:A7Z ch E E'
theorem U6.refl (keep:Nat->Prop) (x:Option Obj):U6 keep x x:=by
 unfold U6
 split
 ·trivial
 ·exact ⟨_,rfl,rfl,fun _ _=>rfl⟩
 ·exact fun _=>rfl
theorem Pr.refl (ch:Tag->Prop) (E:Env) (h:Heap):Pr ch E h E h :=
 ⟨z5q _,fun _ _=>U6.refl _ _,fun _ _ _ _=>rfl,z5q _,fun _ _ _=>⟨rfl,rfl,rfl⟩,fun _ _=>rfl,DK rfl⟩
variable {h:Heap} {h':Heap} {i:Nat}
theorem Pr.old {ch:Tag->Prop} (H:Pr ch E h E' h') (hi:E.In i):E'.obj i=E.obj i/\E'.base i=E.base i/\E'.top i=E.top i :=
 H.Q0 i hi.1 (((H.Mw i hi.1).1 hi.2).trans hi.2.symm)
theorem Pr.In {ch:Tag->Prop} (H:Pr ch E h E' h') (hi:E.In i):E'.In i:=⟨zjq hi.1 H.n,(H.Mw i hi.1).1 hi.2⟩
theorem Pr.weaken {ch ch':Tag->Prop} (H:Pr ch E h E' h') (hc:∀ t,ch t->ch' t):Pr ch' E h E' h':=by
 refine ⟨H.size,fun b hb => ?_,fun b o hb hn=>H.tags b o hb fun x=>hn (hc _ x),H.n,H.Q0,fun s hn=>H.jD s fun x=>hn (hc _ x),fun i hi=>⟨(H.Mw i hi).1,(H.Mw i hi).2.1,fun hn=>(H.Mw i hi).2.2 fun x=>hn (hc _ x)⟩⟩
 have:=H.blk b hb;unfold U6 at this ⊢
 split at this
 ·trivial
 ·obtain ⟨c',h1,h2,h3⟩:=this
  exact ⟨c',h1,h2,fun o ho=>h3 o fun x=>ho (hc _ x)⟩
 ·exact fun h0=>this fun x=>h0 (hc _ x)
theorem Pr.trans {ch:Tag->Prop} {E1 E2:Env} {h1 h2:Heap} (A:Pr ch E h E1 h1) (B:Pr ch E1 h1 E2 h2):Pr ch E h E2 h2:=by
 refine ⟨zHq A.size B.size,fun b hb => ?_,fun b o hb hn => ?_,zHq A.n B.n,fun i hi hv => ?_,fun s hn=>(B.jD s hn).trans (A.jD s hn),fun i hi => ?_⟩
 ·have a:=A.blk b hb
  have bb:=B.blk b (zjq hb A.size);unfold U6 at a;unfold U6
  split at a
  ·trivial
  ·obtain ⟨c',e1,e2,e3⟩:=a
   unfold U6 at bb;rw [e1] at bb;obtain ⟨c2,f1,f2,f3⟩:=bb;refine ⟨c2,f1,f2.trans e2,fun o ho=>(f3 o ?_).trans (e3 o ho)⟩
   show ¬ ch (E1.O b o)
   rw [A.tags b o hb ho];exact ho
  ·rename_i ob hne _
   intro h0;have e1:=a h0;rw [e1] at bb;have dQ:¬ ch (E1.O b 0):=by rw [A.tags b 0 hb h0];exact h0
   unfold U6 at bb
   split at bb
   ·simp_all
   ·rename_i heq;simp only [Option.some.injEq] at heq;exact absurd heq (hne _ _ _)
   ·rename_i heq;rw [<- heq] at bb;exact heq ▸ bb dQ
 ·have:=A.tags b o hb hn
  exact (B.tags b o (zjq hb A.size) (by rw [this];exact hn)).trans this
 ·have v1:=(A.Mw i hi).2.1
  have v2:=(B.Mw i (zjq hi A.n)).2.1;have x:=A.Q0 i hi (by omega)
  have y:=B.Q0 i (zjq hi A.n) (by omega)
  exact ⟨y.1.trans x.1,y.2.1.trans x.2.1,y.2.2.trans x.2.2⟩
 ·have v1:=A.Mw i hi
  have v2:=B.Mw i (zjq hi A.n);exact ⟨fun h=>v2.1 (v1.1 h),zHq v1.2.1 v2.2.1,fun hn=>(v2.2.2 hn).trans (v1.2.2 hn)⟩
variable {v:Value}
theorem Pr.hc {ch:Tag->Prop} (H:Pr ch E h E' h') {b o:Nat} (hn:¬ ch (E.O b o)) (hv:hc h b o=some v):Su.hc h' b o=some v:=by
 have hb:b<h.size:=by
  rcases zyq b h.size with h1 | h1
  ·exact h1
  ·simp [Su.hc,Array.getElem?_eq_none h1] at hv
 have:=H.blk b hb;unfold U6 at this;unfold Su.hc at hv ⊢
 split at this
 ·simp_all
 ·rename_i c T f he
  obtain ⟨c',e1,e2,e3⟩:=this;rw [he] at hv;rw [e1];simp only at hv ⊢;rw [e3 o hn];exact hv
 ·rename_i ob hne he
  rw [he] at hv
  split at hv
  ·rename_i heq;simp only [Option.some.injEq] at heq;exact absurd heq (hne _ _ _)
  ·simp at hv
theorem Pr.shut {ch:Tag->Prop} (H:Pr ch E h E' h') (hs:¬ ch .shut) (hf:∀ b o,h.size<=b->E.O b o = .other):Y0 E.S h E'.S h':=by
 refine ⟨fun b o h1 => ?_,fun b o v h1 hv=>H.hc (by rw [show E.O b o = .shut from h1];exact hs) hv⟩
 have hb:b<h.size:=by
  rcases zyq b h.size with h2 | h2
  ·exact h2
  ·have:=hf b o h2
   rw [show E.O b o = .shut from h1] at this
   cases this
 have:=H.tags b o hb (by rw [show E.O b o = .shut from h1];exact hs)
 exact this.trans h1
variable {tg:Tag}
theorem A7Y.mono {ch:Tag->Prop} (H:Pr ch E h E' h') (ht:¬ ch tg) {sz:Nat} (hs:A7Y E h tg sz v):A7Y E' h' tg sz v:=by
 intro x len cap hv M4;obtain ⟨c,T,f,h1,h2,h3⟩:=hs x len cap hv M4;have hb:x.block<h.size:=(z7q.1 h1).1;have:=H.blk x.block hb;unfold U6 at this;rw [h1] at this;obtain ⟨c',e1,e2,e3⟩:=this;refine ⟨c',T,f,e1,by rw [e2];exact h2,fun o h4 h5 => ?_⟩
 obtain ⟨h6,h7⟩:=h3 o h4 h5;exact ⟨(H.tags _ _ hb (by rw [h6];exact ht)).trans h6,h7⟩
theorem J8.mono {ch:Tag->Prop} (H:Pr ch E h E' h') (J3:Y0 E.S h E'.S h') {d:DV} {m:Meta} (ht:m = .own->¬ ch tg) (hl:∀ s o,m = .loc s o->¬ ch (.SX s)) (R:J8 E h tg d m v):J8 E' h' tg d m v:=by
 cases m <;> simp only [J8] at R ⊢
 case val=>exact R.mono J3
 case full=>exact ⟨R.1.mono J3,R.2⟩
 case own =>
  obtain ⟨r1,sz,ds,r2,r3⟩:=R;exact ⟨r1.mono J3,sz,ds,r2,r3.mono H (ht rfl)⟩
 case loc s o=>rw [H.jD s (hl s o rfl)];exact R
 case OX ag sz o =>
  obtain ⟨b,o0,r1,r2,r3⟩:=R;exact ⟨b,o0,r1,r2.mono J3,r3⟩
 case ptr i o=>rw [(H.old R.1).1];exact ⟨H.In R.1,R.2⟩
 case Di=>exact R
 case map i=>rw [(H.old R.1).1];exact ⟨H.In R.1,R.2⟩
 case QL=>exact R
 case arr i sz off len=>rw [(H.old R.1).1,(H.old R.1).2.1,(H.old R.1).2.2];exact ⟨H.In R.1,R.2⟩
 case Yr i sz idx o=>rw [(H.old R.1).1,(H.old R.1).2.1];exact ⟨H.In R.1,R.2⟩
 case opt i sz idx=>rw [(H.old R.1).1,(H.old R.1).2.1];exact ⟨H.In R.1,R.2⟩
 case fn f caps =>
  refine ⟨?_,fun c hc=>H.In (R.2 c hc)⟩
  rw [R.1]
  congr 2
  exact List.map_congr_left fun c hc=>by rw [(H.old (R.2 c hc)).1]
 case U1 i n sz len =>
  obtain ⟨r1,r2,r3,a,cap,r4,r5,r6,r7,r8⟩:=R;have hv:=(H.Mw i r1).2.1;refine ⟨zjq r1 H.n,r2,by omega,a,cap,r4,r5,r6,r7,fun e => ?_⟩
  have q:=H.Q0 i r1 (by omega)
  rw [q.1,q.2.1,q.2.2];exact r8 (by omega)
 case nL i n sz idx o =>
  obtain ⟨r1,r2,r3,b,p,r4,r5⟩:=R;have hv:=(H.Mw i r1).2.1;refine ⟨zjq r1 H.n,r2,by omega,b,p,r4,fun e => ?_⟩
  have q:=H.Q0 i r1 (by omega)
  rw [q.1,q.2.1];exact r5 (by omega)
theorem RR.mono {ch:Tag->Prop} (H:Pr ch E h E' h') (J3:Y0 E.S h E'.S h') {k a:Nat} {d:DV} {m:Meta} (ht:∀ b,¬ ch (.sp k a b)) (hl:∀ s o,m = .loc s o->¬ ch (.SX s)) (R:RR E h k a d m v):RR E' h' k a d m v:=by
 have gen:(∀ ms,m ≠ .Br ms)->(∀ ms,m ≠ .Dw ms)->J8 E h (.sp k a 0) d m v->J8 E' h' (.sp k a 0) d m v :=
  fun _ _ r=>r.mono H J3 (fun _=>ht 0) hl
 cases m <;> simp only [RR] at R ⊢ <;> try (exact gen (by simp) (by simp) R)
 case Br ms =>
  obtain ⟨ds,vs,h1,h2,h3,h4,h5⟩:=R;exact ⟨ds,vs,h1,h2,h3,h4,fun i m' d' u e1 e2 e3=>let ⟨a0,a4⟩:=h5 i m' d' u e1 e2 e3
   ⟨a0,a4.mono H J3 (fun _=>ht _) fun s o hm=>by rw [hm] at a0;simp [X0] at a0⟩⟩
 case Dw ms =>
  obtain ⟨ds,vs,h1,h2,h3,h4,h5⟩:=R;exact ⟨ds,vs,h1,h2,h3,h4,fun i m' d' u e1 e2 e3=>let ⟨a1,a2,a0,a4⟩:=h5 i m' d' u e1 e2 e3
   ⟨a1,a2,a0,a4.mono H J3 (fun _=>ht _) fun s o hm=>by rw [hm] at a0;simp [X0] at a0⟩⟩
theorem ak.mono {ch:Tag->Prop} (H:Pr ch E h E' h') (J3:Y0 E.S h E'.S h') (ht:¬ ch tg) {k a b:Nat} {cs:List (DV × Meta)} (hs:∀ j,¬ ch (.sp k a j)) (R:ak E h tg k a b cs):ak E' h' tg k a b cs:=by
 obtain ⟨c,T,h1,h2,h3,h4⟩:=R;have hb:b<h.size:=(z7q.1 h1).1;have:=H.blk b hb;unfold U6 at this;rw [h1] at this;obtain ⟨c',e1,e2,e3⟩:=this;refine ⟨c',T,e1,e2.trans h2,fun o => ?_,fun j r v hr hv => ?_⟩
 ·rcases h3 o with h5 | h5
  ·exact .inl ((H.tags b o hb (by rw [h5];exact ht)).trans h5)
  ·exact .inr (by omega)
 ·have hj:j<c.size:=by have:=(z0q.1 hr).1;omega
  have hne:¬ ch (E.O b j):=by
   rcases h3 j with h5 | h5
   ·rw [h5];exact ht
   ·omega
  rw [e3 j hne] at hv;obtain ⟨a1,a2,a0,a3⟩:=h4 j r v hr hv;exact ⟨a1,a2,a0,a3.mono H J3 (fun _=>hs j) fun s o hm=>by rw [hm] at a0;simp [X0] at a0⟩
theorem RO.mono {ch:Tag->Prop} (H:Pr ch E h E' h') (J3:Y0 E.S h E'.S h') (hi:i<E.n) (ht:¬ ch (.obj i)) (hs:∀ j,¬ ch (.sp 2 i j)) {ob:D8} (R:RO E h i ob):RO E' h' i ob:=by
 obtain ⟨ho,ol,B2p⟩:=H.Q0 i hi ((H.Mw i hi).2.2 ht);cases ob with
 | box cs=>simp only [RO] at R ⊢;rw [ho];exact R.mono H J3 ht hs
 | arr sz ds =>
   simp only [RO] at R ⊢;intro hne;obtain ⟨c,T,h1,h2,hz,h3,h4⟩:=R hne;rw [ho,ol];have hb:E.obj i<h.size:=(z7q.1 h1).1;have:=H.blk _ hb;unfold U6 at this;rw [h1] at this;obtain ⟨c',e1,e2,e3⟩:=this;refine ⟨c',T,e1,by omega,hz,fun o h5 h6 => ?_,fun j d hd => ?_⟩
   ·have:=h3 o h5 h6
    exact (H.tags _ o hb (by rw [this];exact ht)).trans this
   ·obtain ⟨vs,v1,v2,v3⟩:=h4 j d hd
    refine ⟨vs,v1,fun x u hu => ?_,v3.mono J3⟩
    have hx:x<sz:=by have:=(z0q.1 hu).1;omega
    have hj:j<ds.length:=(z0q.1 hd).1;have M4:j * sz+x<ds.length * sz:=by
     calc j * sz+x<j * sz+sz:=by omega
      _=(j+1) * sz:=by rw [zqq]
      _<=ds.length * sz:=zkq _ hj
    rw [e3 _ (by show ¬ ch _;rw [h3 _ (by omega) (by omega)];exact ht)]
    exact v2 x u hu
 | opn sz pre ds =>
   simp only [RO] at R ⊢;obtain ⟨c,T,f,h1,h2,Pq,hz,h3,h4,h5⟩:=R;rw [ho,ol,B2p];have hb:E.obj i<h.size:=(z7q.1 h1).1;have:=H.blk _ hb;unfold U6 at this;rw [h1] at this;obtain ⟨c',e1,e2,e3⟩:=this;refine ⟨c',T,f,e1,h2,by omega,hz,fun o h6 h7 => ?_,fun j d hd=>(h4 j d hd).mono J3,fun j d hd => ?_⟩
   ·have:=h3 o h6 h7
    exact ⟨(H.tags _ o hb (by rw [this.1];exact ht)).trans this.1,this.2⟩
   ·obtain ⟨vs,v1,v2,v3⟩:=h5 j d hd
    refine ⟨vs,v1,fun x u hu => ?_,v3.mono J3⟩
    have hx:x<sz:=by have:=(z0q.1 hu).1;omega
    have hj:j<ds.length:=(z0q.1 hd).1;have M4:(pre.length+j) * sz+x<(pre.length+ds.length) * sz:=by
     calc (pre.length+j) * sz+x<(pre.length+j) * sz+sz:=by omega
      _=(pre.length+j+1) * sz:=by rw [zqq]
      _<=(pre.length+ds.length) * sz:=zkq _ (by omega)
    have hge:pre.length * sz<=(pre.length+j) * sz:=zkq _ (by omega)
    rw [e3 _ (by show ¬ ch _;rw [(h3 _ (by omega) (by omega)).1];exact ht)]
    exact v2 x u hu
 | U1 n sz ds =>
   simp only [RO] at R ⊢;obtain ⟨hv,hn,hz,R⟩:=R;rw [ho,ol,B2p];refine ⟨((H.Mw i hi).2.2 ht).trans hv,hn,hz, ?_⟩;rcases R with R | ⟨c,T,f,h1,h2,Pq,h3,h5⟩
   ·exact .inl R
   right
   have hb:E.obj i<h.size:=(z7q.1 h1).1;have:=H.blk _ hb;unfold U6 at this;rw [h1] at this;obtain ⟨c',e1,e2,e3⟩:=this;refine ⟨c',T,f,e1,h2,by omega,fun o h6 h7 => ?_,fun j d hd => ?_⟩
   ·have:=h3 o h6 h7
    exact ⟨(H.tags _ o hb (by rw [this.1];exact ht)).trans this.1,this.2⟩
   ·obtain ⟨vs,v1,v2,v3⟩:=h5 j d hd
    refine ⟨vs,v1,fun x u hu => ?_,v3.mono J3⟩
    have hx:x<sz:=by have:=(z0q.1 hu).1;omega
    have hj:j<ds.length:=(z0q.1 hd).1;have M4:j * sz+x<ds.length * sz:=by
     calc j * sz+x<j * sz+sz:=by omega
      _=(j+1) * sz:=by rw [zqq]
      _<=ds.length * sz:=zkq _ (by omega)
    rw [e3 _ (by show ¬ ch _;rw [(h3 _ (by omega) (by omega)).1];exact ht)]
    exact v2 x u hu
 | map ks es =>
   simp only [RO] at R ⊢;obtain ⟨ens,clk,h1,h2,h3,h4⟩:=R;rw [ho];have hb:E.obj i<h.size:=(z7q.1 h1).1;have hk:=H.blk _ hb;unfold U6 at hk;rw [h1] at hk;refine ⟨ens,clk,hk (by show ¬ ch _;rw [h2 0];exact ht),fun o=>(H.tags _ o hb (by rw [h2 o];exact ht)).trans (h2 o),⟨h3.1,fun j e n he hn => ?_⟩,h4⟩
   obtain ⟨a1,a2,a3⟩:=h3.2 j e n he hn;exact ⟨a1,a2.mono J3,a3.mono J3⟩
end Go.Su

/-
 THE DATA MACHINE, part 5: operands; registers written; how one operation of the model is met.
-/
namespace Go.Su
def L8 (t:Tag):Prop:=t ≠ .other/\t ≠ .shut
variable {E:Env} {h:Heap} {d:DV} {m:Meta} {v:Value}
theorem J8.tag {tg tg':Tag} (hm:m ≠ .own) (R:J8 E h tg d m v):J8 E h tg' d m v:=by
 cases m <;> simp only [J8] at R ⊢ <;> first | exact R | exact absurd rfl hm
theorem J8.XW {tg tg':Tag} (R:J8 E h tg d m v):J8 E h tg' d (XW m) v:=by
 cases m <;> simp only [J8,Su.XW] at R ⊢ <;> first | exact R | exact R.1
theorem RR.Ad {k a:Nat} (R:J8 E h (.sp k a 0) d m v):RR E h k a d m v:=by
 cases m <;> first | exact R | (simp only [J8] at R)
theorem RR.A0f {k a:Nat} (h1:∀ ms,m ≠ .Br ms) (h2:∀ ms,m ≠ .Dw ms) (R:RR E h k a d m v):J8 E h (.sp k a 0) d m v:=by
 cases m <;> first | exact R | exact absurd rfl (h1 _) | exact absurd rfl (h2 _)
theorem RR.dm {k a k' a':Nat} (R:RR E h k a d m v):RR E h k' a' d (dm m) v:=by
 cases m
 case Dw ms =>
  simp only [RR,Su.dm] at R ⊢;obtain ⟨ds,vs,h1,h2,h3,h4,h5⟩:=R;refine ⟨ds,vs,h1,h2,by simpa using h3,by simpa using h4,fun i m' d' u e1 e2 e3 => ?_⟩
  simp only [zbq,z9q] at e1;obtain ⟨m0,e1,rfl⟩:=e1;obtain ⟨a1,a2,a0,a4⟩:=h5 i m0 d' u e1 e2 e3;exact ⟨a1,a2,by cases m0 <;> simp_all [X0,Su.XW],a4.XW⟩
 case Br ms =>
  simp only [RR,Su.dm] at R ⊢;obtain ⟨ds,vs,h1,h2,h3,h4,h5⟩:=R;refine ⟨ds,vs,h1,h2,by simpa using h3,by simpa using h4,fun i m' d' u e1 e2 e3 => ?_⟩
  simp only [zbq,z9q] at e1;obtain ⟨m0,e1,rfl⟩:=e1;obtain ⟨a0,a4⟩:=h5 i m0 d' u e1 e2 e3;exact ⟨by cases m0 <;> simp_all [X0,Su.XW],a4.XW⟩
 all_goals exact RR.Ad (J8.XW (RR.A0f (by simp) (by simp) R))
theorem RR.data {k a:Nat} (hm:J5 m=true) (R:RR E h k a d m v):RV E.S h d v:=by
 cases m <;> simp only [J5] at hm <;> try contradiction
 ·exact R
 ·exact R.1
 ·exact R.1
 ·obtain ⟨rfl,rfl⟩:=(R:_/\_)
  simp only [RV]
 ·rename_i ms
  simp only [RR] at R;obtain ⟨ds,vs,rfl,rfl,h3,h4,h5⟩:=R;simp only [RV];refine ⟨vs,rfl,Eo.2 ⟨by simp [h3,h4],fun i d v hd hv => ?_⟩⟩
  have hi:i<ms.length:=by have:=(z0q.1 hd).1;omega
  have hmi:ms[i]?=some ms[i]:=z3q hi;obtain ⟨a1,a2,a0,a4⟩:=h5 i _ d v hmi hd (by simpa using hv)
  refine ⟨a1,Nq a1 a2 ?_⟩;have:=zDq.1 hm ms[i] (List.getElem_mem hi);cases hx:ms[i] <;> simp only [hx] at this a4 <;> first | contradiction | exact a4 | exact a4.1 | (obtain ⟨rfl,rfl⟩:=(a4:_/\_);simp only [RV])
theorem RR.val {E:Env} {h:Heap} {k a:Nat} {d:DV} {v:Value} (R:RV E.S h d v):RR E h k a d .val v:=R
variable {P:Program} {t:TypeId}
theorem A4c {r:DV × Meta} (H:cst P t v=some r) (k a:Nat):RR E h k a r.1 r.2 v:=by
 unfold cst at H
 split at H <;> simp only [Option.some.injEq,reduceCtorEq] at H <;> subst H <;> simp only [RR,J8,RV,and_self]
 refine ⟨?_,⟨_,_,rfl⟩,_,_,rfl⟩;simp only [RC];exact ⟨none,0,0,rfl,rfl,z5q _,fun _=>rfl,by simp,fun x hx=>by simp at hx⟩
theorem A6v {r:DV × Meta} (H:cst P t v=some r) (ms:List Meta):r.2 ≠ .Dw ms:=by
 unfold cst at H
 split at H <;> simp only [Option.some.injEq,reduceCtorEq] at H <;> subst H <;> simp
theorem XT {r:DV × Meta} (H:cst P t v=some r):r.2 ≠ .own/\(∀ ms,r.2 ≠ .Br ms):=by
 unfold cst at H
 split at H <;> simp only [Option.some.injEq,reduceCtorEq] at H <;> subst H <;> simp
def mi:Operand->Nat
 | .tmp t=>t
 | _=>0
variable {st:St} {t:Nat}
theorem g_ (ht:st.tm.length<=t) (hm:st.mt.length=st.tm.length):st.get t=(.undef, .val):=by
 simp [St.get,z1q,zmq ht,zmq (hm ▸ ht)]
variable {t:TypeId} {a:Act} {x:Operand}
theorem J6.src (R:J6 E st a h) {r:DV × Meta} (H:src P t st x=some r) :
 RR E h 0 (mi x) r.1 r.2 (a.eval x):=by
 cases x with
 | tmp i =>
   simp only [Su.src,Option.some.injEq] at H;subst H;simp only [mi,Act.eval]
   by_cases hi:i<a.tmps.size
   ·have:a.tmps[i]?=some a.tmps[i]:=zrq hi
    simpa [Array.getD_eq_getD_getElem?,this] using R.regs i _ this
   ·have hi':st.tm.length<=i:=by rw [<- R.size];exact Nat.le_of_not_lt hi
    rw [g_ hi' R.AP];simp only [RR,J8,RV]
 | const v=>exact A4c H _ _
 | func f =>
   simp only [Su.src,Option.some.injEq] at H;subst H;simp only [RR,J8,Act.eval];exact ⟨rfl,by simp⟩
 | global g=>simp [Su.src] at H
theorem J6.B1D {r:DV × Meta} (H:Su.src P t st x=some r) (hx:∀ i,x ≠ .tmp i) (k b:Nat):RR E h k b r.1 r.2 (a.eval x):=by
 cases x with
 | tmp i=>exact absurd rfl (hx i)
 | const v=>exact A4c H _ _
 | func f =>
   simp only [Su.src,Option.some.injEq] at H;subst H;simp only [RR,J8,Act.eval];exact ⟨rfl,by simp⟩
 | global g=>simp [Su.src] at H
variable (st:St) (dst:Option Nat) (d:DV) (m:Meta)
theorem Uy:(st.put dst d m).tm.length=st.tm.length:=by cases dst <;> simp [St.put]
theorem A9o:(st.put dst d m).mt.length=st.mt.length:=by cases dst <;> simp [St.put]
@[simp] theorem mq:(st.put dst d m).bx=st.bx:=by cases dst <;> rfl
@[simp] theorem eX:(st.put dst d m).sg=st.sg:=by cases dst <;> rfl
variable {st:St} {d:DV} {m:Meta}
theorem OW {t:Nat} (ht:t<st.tm.length) (hm:st.mt.length=st.tm.length):(st.put (some t) d m).get t=(d,m):=by
 simp [St.put,St.get,z1q,z6q ht,z6q (hm ▸ ht)]
theorem Yk {t u:Nat} (h:t≠u):(st.put (some t) d m).get u=st.get u:=by
 simp [St.put,St.get,z1q,zcq h]
variable (a:Act)
theorem P5 (dst:Option Nat) (v:Value):(a.put dst v).tmps.size=a.tmps.size:=by cases dst <;> simp [Act.put]
theorem Va (dst:Option Nat) (v:Value):(a.put dst v).defers=a.defers:=by cases dst <;> rfl
variable {a:Act}
theorem J6.put (R:J6 E st a h) {dst:Option Nat} (hv:∀ t,dst=some t->RR E h 0 t d m v):J6 E (st.put dst d m) (a.put dst v) h:=by
 refine ⟨by rw [P5,Uy];exact R.size,by rw [A9o,Uy];exact R.AP,by rw [mq,Uy];exact R.Bi,by rw [eX];exact R.n,fun u w hu => ?_,
  fun s cs hs=>R.boxes s cs (by rwa [mq] at hs),fun i ob hi=>R.Q0 i ob (by rwa [eX] at hi),R.fresh⟩
 cases dst with
 | none=>exact R.regs u w hu
 | some t =>
   by_cases htu:t=u
   ·subst htu
    have ht:t<a.tmps.size:=by
     have:=(z7q.1 hu).1;simpa [Act.put] using this
    rw [OW (by rw [<- R.size];exact ht) R.AP]
    simp only [Act.put,zpq ht,Option.some.injEq] at hu;subst hu;exact hv t rfl
   ·rw [Yk htu]
    simp only [Act.put,zsq htu] at hu;exact R.regs u w hu
def Gp (P:Program) (o:Oper) (a:Act) (w:World) (K:Act->World->Prop):Prop :=
 (∃ v w',(execOp a.eval o).run P w = .ok (.value v) w'/\K (a.put o.dst v) w')\/(∃ w',(execOp a.eval o).run P w = .ok .skip w'/\K (a.put o.dst undef) w') \/
   ∃ f args,(execOp a.eval o).run P w = .ok (.enter f args) w/\Calls P f args w fun e w'=>∃ v,e = .returned v/\K (a.put o.dst v) w'
variable {o:Oper}
theorem Gp.mono {w:World} {K K':Act->World->Prop} (H:Gp P o a w K) (h:∀ a' w',a'.defers=a.defers->K a' w'->K' a' w'):Gp P o a w K':=by
 have hd:∀ v,(a.put o.dst v).defers=a.defers:=fun v=>Va a o.dst v
 rcases H with ⟨v,w',h1,h2⟩ | ⟨w',h1,h2⟩ | ⟨f,args,h1,h2⟩
 ·exact .inl ⟨v,w',h1,h _ _ (hd v) h2⟩
 ·exact .inr (.inl ⟨w',h1,h _ _ (hd _) h2⟩)
 ·exact .inr (.inr ⟨f,args,h1,h2.mono fun e w' ⟨v,he,hk⟩=>⟨v,he,h _ _ (hd v) hk⟩⟩)
theorem AR {w w':World} {K:Act->World->Prop} (h:(execOp a.eval o).run P w = .ok (.value v) w') (hk:K (a.put o.dst v) w'):Gp P o a w K := .inl ⟨v,w',h,hk⟩
theorem Lv {w w':World} {K:Act->World->Prop} (h:(execOp a.eval o).run P w = .ok .skip w') (hk:K (a.put o.dst undef) w'):Gp P o a w K := .inr (.inl ⟨w',h,hk⟩)
theorem Ab {x:Sem Value} {w w':World} (h:x.run P w = .ok v w') :
 (do pure (Next.value (<- x)):Sem Next).run P w = .ok (.value v) w':=by
 simp [h]
theorem B7A {x:Sem Unit} {w w':World} (h:x.run P w = .ok () w') :
 (do x;pure Next.skip:Sem Next).run P w = .ok .skip w':=by
 simp [h]
variable {β : Type}
theorem A9 {α : Type} {x:Option α} {f : α -> Option β} {b : β} (h:ob x f=some b):∃ a,x=some a/\f a=some b:=by
 cases x with
 | none=>simp [ob] at h
 | some a=>exact ⟨a,rfl,h⟩
theorem F4 {t:Bool} {x:Option β} {b : β} (h:og t x=some b):t=true/\x=some b:=by
 cases t with
 | false=>simp [og] at h
 | true=>exact ⟨rfl,h⟩
theorem OP {t e:Option β} {b : β} (h:D7 d t e=some b):(d = .bool true/\t=some b)\/(d = .bool false/\e=some b):=by
 unfold D7 at h
 split at h
 ·exact .inl ⟨rfl,h⟩
 ·exact .inr ⟨rfl,h⟩
 ·simp at h
theorem L6 {c:Prop} [Decidable c] {x:Option β} {b : β} (h:(if c then x else none)=some b):c/\x=some b:=by
 split at h
 ·exact ⟨‹_›,h⟩
 ·simp at h
theorem GV {z:Nat × Bool} (H:tz P t=some z):∃ i d,P.info? t=some i/\P.underlying t=some d/\z=(i.size,A80 d)/\(z.2=false->z.1=1):=by
 unfold tz at H;obtain ⟨i,hi,H⟩:=A9 H;obtain ⟨d,hd,H⟩:=A9 H;obtain ⟨hc,H⟩:=L6 H;simp only [Option.some.injEq] at H;subst H;refine ⟨i,d,hi,hd,rfl,fun h => ?_⟩
 simp only at h;simpa [h] using hc
theorem B0e {z:Nat × Bool} (H:tz P t=some z) (w:World):(isAgg t).run P w = .ok z.2 w:=by
 obtain ⟨i,d,hi,hd,rfl,-⟩:=GV H;unfold isAgg;simp only [Sem.run_bind,run_underlying hd,Result.andThen_ok];cases d <;> rfl
theorem LA {z:Nat × Bool} (H:tz P t=some z) (w:World):(sizeOf t).run P w = .ok z.1 w:=by
 obtain ⟨i,d,hi,hd,rfl,-⟩:=GV H;simp [sizeOf,typeInfo,hi]
end Go.Su

/-
 THE DATA MACHINE, part 6: operations that make a value and leave memory as it is.
-/
namespace Go.Su
theorem B7R (m:Meta):XW (XW m)=XW m:=by cases m <;> rfl
theorem C1u (m:Meta):dm (dm m)=dm m:=by
 cases m <;> simp only [dm]
 all_goals simp [B7R]
variable {E:Env} {h:Heap} {d:DV} {m:Meta} {v:Value}
theorem RR.A8t {k a k' a':Nat} (R:RR E h k a d (Su.dm m) v):RR E h k' a' d (Su.dm m) v:=by
 have:=R.dm (k':=k') (a':=a')
 rwa [C1u] at this
def Env.re (E:Env) (f:Tag->Tag):Env:={ E with O:=fun b o=>f (E.O b o) }
theorem Pr.re {f:Tag->Tag} {ch:Tag->Prop} (hf:∀ T,¬ ch T->f T=T):Pr ch E h (E.re f) h :=
 ⟨z5q _,fun _ _=>U6.refl _ _,fun _ _ _ hn=>hf _ hn,z5q _,fun _ _ _=>⟨rfl,rfl,rfl⟩,fun _ _=>rfl,DK rfl⟩
theorem KE {f:Tag->Tag} (hf:f .shut = .shut):Y0 E.S h (E.re f).S h :=
 ⟨fun b o hs=>by simp only [Env.S,Env.re] at hs ⊢;rw [hs,hf],fun _ _ _ _ hv=>hv⟩
theorem J8.re {f:Tag->Tag} {tg tg':Tag} (hs:f .shut = .shut) (ht:f tg=tg') (R:J8 E h tg d m v) :
 J8 (E.re f) h tg' d m v:=by
 cases m <;> simp only [J8] at R ⊢
 case val=>exact R.mono (KE hs)
 case full=>exact ⟨R.1.mono (KE hs),R.2⟩
 case own =>
  obtain ⟨r1,sz,ds,r2,r3⟩:=R;refine ⟨r1.mono (KE hs),sz,ds,r2,fun x len cap hv M4 => ?_⟩
  obtain ⟨c,T,g,e1,e2,e3⟩:=r3 x len cap hv M4;refine ⟨c,T,g,e1,e2,fun o ho ho' => ?_⟩
  obtain ⟨e4,e5⟩:=e3 o ho ho';exact ⟨by simp only [Env.re];rw [e4,ht],e5⟩
 case OX ag sz o =>
  obtain ⟨b,o0,r1,r2,r3⟩:=R;exact ⟨b,o0,r1,r2.mono (KE hs),r3⟩
 all_goals exact R
theorem RR.re {f:Tag->Tag} {k a k' a':Nat} (hs:f .shut = .shut) (ho:f .other = .other) (ht:∀ b,f (.sp k a b) = .sp k' a' b) (R:RR E h k a d m v) :
 RR (E.re f) h k' a' d m v:=by
 cases m
 case Br ms =>
  simp only [RR] at R ⊢;obtain ⟨ds,vs,h1,h2,h3,h4,h5⟩:=R;exact ⟨ds,vs,h1,h2,h3,h4,fun i m' d' u e1 e2 e3=>let ⟨a0,a4⟩:=h5 i m' d' u e1 e2 e3;⟨a0,a4.re hs (ht _)⟩⟩
 case Dw ms =>
  simp only [RR] at R ⊢;obtain ⟨ds,vs,h1,h2,h3,h4,h5⟩:=R;exact ⟨ds,vs,h1,h2,h3,h4,fun i m' d' u e1 e2 e3=>let ⟨a1,a2,a0,a4⟩:=h5 i m' d' u e1 e2 e3;⟨a1,a2,a0,a4.re hs (ht _)⟩⟩
 all_goals exact RR.Ad ((RR.A0f (by simp) (by simp) R).re hs (ht 0))
variable {x:Operand}
theorem J6.release {st:St} {a:Act} (R:J6 E st a h) {f:Tag->Tag} (hf:∀ T,(∀ s b,x = .tmp s->T ≠ .sp 0 s b)->f T=T):J6 (E.re f) (st.release x) a h:=by
 have Fs:f .shut = .shut:=hf _ (by simp)
 have OH:f .other = .other:=hf _ (by simp)
 have P:Pr (fun T=>∃ s b,x = .tmp s/\T = .sp 0 s b) E h (E.re f) h:=Pr.re fun T hT=>hf T fun s b hx hb=>hT ⟨s,b,hx,hb⟩
 have J3:Y0 E.S h (E.re f).S h:=KE Fs;have lm:(st.release x).mt.length=st.mt.length:=by cases x <;> simp [St.release]
 have lt:(st.release x).tm=st.tm:=by cases x <;> simp [St.release]
 have lb:(st.release x).bx=st.bx:=by cases x <;> simp [St.release]
 have lg:(st.release x).sg=st.sg:=by cases x <;> simp [St.release]
 refine ⟨by rw [lt];exact R.size,by rw [lm,lt];exact R.AP,by rw [lb,lt];exact R.Bi,by rw [lg];exact R.n,fun u v hu => ?_,fun s cs hs => ?_,fun i ob hi => ?_,fun b o hb => ?_⟩
 ·have h0:=R.regs u v hu
  by_cases hx:x = .tmp u
  ·subst hx
   have hg:(st.release (.tmp u)).get u=((st.get u).1,dm (st.get u).2):=by
    have Ia:u<st.tm.length:=by rw [<- R.size];exact (z7q.1 hu).1
    simp [St.release,St.get,z1q,z6q (R.AP ▸ Ia)]
   rw [hg];have h1:RR E h 9 0 (st.get u).1 (dm (st.get u).2) v:=h0.dm;have h2:RR (E.re f) h 9 0 (st.get u).1 (dm (st.get u).2) v:=h1.re Fs OH fun b=>hf _ (by simp)
   exact h2.A8t
  ·have hg:(st.release x).get u=st.get u:=by
    cases x with
    | tmp s =>
      have:s≠u:=fun e=>hx (by rw [e])
      simp [St.release,St.get,z1q,zcq this]
    | _=>rfl
   rw [hg];exact h0.re Fs OH fun b=>hf _ fun s b' hs he=>by simp only [Tag.sp.injEq] at he;exact hx (by rw [hs,he.2.1])
 ·exact (R.boxes s cs (by rwa [lb] at hs)).mono P J3 (by simp) (by simp)
 ·exact (R.Q0 i ob (by rwa [lg] at hi)).mono P J3 (by rw [<- R.n];rw [lg] at hi;exact (z0q.1 hi).1) (by simp) (by simp)
 ·simp only [Env.re];rw [R.fresh b o hb,OH]
def iM (x:Operand) (k t:Nat) (T:Tag):Tag :=
 match x,T with
 | .tmp s', .sp 0 s b=>if s'=s then .sp k t b else .sp 0 s b
 | _,T=>T
theorem OM {k t:Nat} {T:Tag} (h:∀ s b,x = .tmp s->T ≠ .sp 0 s b):iM x k t T=T:=by
 unfold iM
 split
 ·split
  ·rename_i hx;subst hx;exact absurd rfl (h _ _ rfl)
  ·rfl
 ·rfl
section
variable {X:Type} {C:X4} {R:O4} {o:Oper} {st:St} {k:St->Option X} {x:X} {E:Env} {a:Act} {w:World} {K:Act->World->Prop} {Q:Exit->Act->World->Prop}
def Then (E:Env) (w:World) (k:St->Option X) (x:X) (K:Act->World->Prop):Prop :=
 ∀ E' st' a' w',k st'=some x->J6 E' st' a' w'.heap->Pr L8 E w.heap E' w'.heap->(_:Q3 w w':=by exact ⟨rfl,rfl,rfl⟩)->K a' w'
theorem T9 (hr:(execOp a.eval o).run C.P w = .ok (.value v) w) (hk:k (st.put o.dst d m)=some x) (Rl:J6 E st a w.heap) (hv:∀ t,o.dst=some t->RR E w.heap 0 t d m v) (T:Then E w k x K):Gp C.P o a w K :=
 AR hr (T E _ _ w hk (Rl.put hv) (Pr.refl _ _ _))
variable {t:TypeId} {y:Operand}
theorem B6J {P:Program} {r:DV × Meta} (hr:(execOp a.eval o).run C.P w = .ok (.value (a.eval y)) w) (hs:src P t st y=some r) (hk:k ((st.release y).put o.dst r.1 r.2)=some x) (Rl:J6 E st a w.heap) (T:Then E w k x K):Gp C.P o a w K:=by
 refine AR hr ?_;cases hd:o.dst with
 | none =>
   rw [hd] at hk;have P1:Pr L8 E w.heap (E.re id) w.heap:=Pr.re fun _ _=>rfl
   exact T (E.re id) _ _ w hk ((Rl.release (x:=y) (f:=id) fun _ _=>rfl).put (fun t ht=>by simp at ht)) P1
 | some t0 =>
   rw [hd] at hk;have P1:Pr L8 E w.heap (E.re (iM y 0 t0)) w.heap:=Pr.re fun T hT=>OM fun s b _ he=>hT (by rw [he];simp [L8])
   refine T (E.re (iM y 0 t0)) _ _ w hk ((Rl.release fun T hT=>OM hT).put fun t ht => ?_) P1
   simp only [Option.some.injEq] at ht;subst ht
   by_cases hy:∃ i,y = .tmp i
   ·obtain ⟨i,rfl⟩:=hy
    have:=Rl.src hs;refine this.re (OM (by simp)) (OM (by simp)) fun b => ?_
    simp [iM,mi]
   ·have:=J6.B1D (E:=E) (a:=a) (h:=w.heap) hs (fun i hi=>hy ⟨i,hi⟩) 9 0
    have h2:RR (E.re (iM y 0 t0)) w.heap 9 0 r.1 r.2 (a.eval y):=this.re (OM (by simp)) (OM (by simp)) fun b=>OM (by simp)
    have ZL:dm r.2=r.2:=by
     cases y with
     | tmp i=>exact absurd ⟨i,rfl⟩ hy
     | const v =>
       obtain ⟨h1,h3⟩:=XT hs;have h4:=A6v hs;cases hm:r.2 <;> simp_all [dm]
     | func f=>simp only [src,Option.some.injEq] at hs;subst hs;rfl
     | global g=>simp [src] at hs
    rw [<- ZL] at h2 ⊢;exact h2.A8t
theorem A9F {fl:Flags} (hr:(execOp a.eval o).run C.P w = .ok (.value (a.eval y)) w) (H:(ob (src C.P t st y) fun r=>if J4 fl.M7 o.dst then k ((st.release y).put o.dst r.1 r.2) else k (st.put o.dst r.1 (dm r.2)))=some x) (Rl:J6 E st a w.heap) (T:Then E w k x K):Gp C.P o a w K:=by
 obtain ⟨r,hs,H⟩:=A9 H
 split at H
 ·exact B6J hr hs H Rl @T
 ·exact T9 hr H Rl (fun t _=>(Rl.src hs).dm) @T
end
end Go.Su

/-
 THE DATA MACHINE, part 7: arithmetic, comparison, indexes, lengths, parts of strings and slices.
-/
namespace Go.Su
variable {S:X6} {h:Heap} {v:Value}
theorem BP {k:IntKind} {n:Int}:RV S h (.int k n) v ↔ v = .int k n:=by simp only [RV]
theorem Ma {b:Bool}:RV S h (.bool b) v ↔ v = .bool b:=by simp only [RV]
theorem XM {s:ByteArray}:RV S h (.str s) v ↔ v = .string s:=by simp only [RV]
variable {op:UnOp} {d:DV}
theorem B5F {y:DV} (h:O6 op y=some d):(∃ b,op = .not/\y = .bool b/\d = .bool !b)\/(∃ k n,op = .neg/\y = .int k n/\d = .int k (k.wrap (0-n))):=by
 unfold O6 at h
 split at h <;> simp only [Option.some.injEq,reduceCtorEq] at h <;> subst h
 ·exact .inl ⟨_,rfl,rfl,rfl⟩
 ·exact .inr ⟨_,_,rfl,rfl,rfl⟩
theorem B1Z {c y z:DV} (h:A72 c y z=some d):(c = .bool true/\d=y)\/(c = .bool false/\d=z):=by
 unfold A72 at h
 split at h <;> simp only [Option.some.injEq,reduceCtorEq] at h <;> subst h
 ·exact .inl ⟨rfl,rfl⟩
 ·exact .inr ⟨rfl,rfl⟩
variable {kd:IntKind}
theorem B1X {y:DV} (h:T_ kd y=some d):∃ k n,y = .int k n/\d = .int kd (kd.wrap n):=by
 unfold T_ at h
 split at h <;> simp only [Option.some.injEq,reduceCtorEq] at h <;> subst h
 exact ⟨_,_,rfl,rfl⟩
theorem A6w {i:Nat} {y:DV} (h:I9 i y=some d):∃ cs,y = .F3 cs/\cs[i]?=some d:=by
 unfold I9 at h
 split at h
 ·exact ⟨_,rfl,h⟩
 ·simp at h
theorem B3T {sz:Nat} {y i:DV} (h:F5 sz y i=some d):∃ ds kd n,y = .list sz ds/\i = .int kd n/\0<=n/\ds[n.toNat]?=some d:=by
 unfold F5 at h
 split at h
 ·obtain ⟨⟨Aa,h0⟩,hd⟩:=L6 h
  subst Aa;exact ⟨_,_,_,rfl,rfl,h0,hd⟩
 ·simp at h
theorem jB {off len n:Nat} {i:DV} (h:Am off len i=some n):∃ (kd:IntKind) (q:Int),i = .int kd q/\0<=q/\q<len/\n=off+q.toNat:=by
 unfold Am at h
 split at h
 ·obtain ⟨⟨h0,M4⟩,hn⟩:=L6 h
  simp only [Option.some.injEq] at hn;exact ⟨_,_,rfl,h0,M4,hn.symm⟩
 ·simp at h
theorem A37:∀ x y:List UInt8,Op.bytesLess x y=GN x y
 | _,[]=>by simp [Op.bytesLess,GN]
 | [],_::_=>by simp [Op.bytesLess,GN]
 | a::x,b::y=>by simp [Op.bytesLess,GN,A37 x y]
section
variable {X:Type} {C:X4} {R:O4} {o:Oper} {st:St} {k:St->Option X} {x:X} {E:Env} {a:Act} {w:World} {K:Act->World->Prop} {Q:Exit->Act->World->Prop}
theorem X9 (hr:(execOp a.eval o).run C.P w = .ok (.value v) w) (hk:k (st.put o.dst d .val)=some x) (Rl:J6 E st a w.heap) (hv:RV E.S w.heap d v) (T:Then E w k x K):Gp C.P o a w K :=
 T9 hr hk Rl (fun _ _=>hv) @T
variable {P:Program} {t:TypeId} {y:Operand}
theorem B6z {op:BinOp} {x:Operand} {dx dy:DV} {vx vy:Value} (H:A8 op dx dy=some d) (hx:RV S h dx vx) (hy:RV S h dy vy) (w:World) :
 ∃ v,(do eqGuard op t x y vx vy;binOp op t vx vy:Sem Value).run P w = .ok v w/\RV S h d v:=by
 unfold A8 at H
 split at H
 ·rw [BP] at hx hy
  subst hx hy
  split at H
  ·rename_i hsh
   unfold B3X at H
   split at H
   ·cases H
   ·rename_i hb
    cases op <;> simp only [Iu,zoq] at hsh <;> simp only [Option.some.injEq] at H <;> subst H <;>
     (refine ⟨_, ?_,by simp only [RV];rfl⟩;simp [eqGuard_at_int,binOp,Op.shift,hb])
  obtain ⟨hk,H1⟩:=L6 H;clear H;subst hk
  by_cases hq:op = .quo\/op = .rem
  ·rcases hq with rfl | rfl <;> simp only [KX] at H1 <;> split at H1 <;> simp only [reduceCtorEq,Option.some.injEq] at H1 <;> subst H1 <;>
    (rename_i hb;refine ⟨_, ?_,by simp only [RV];rfl⟩;simp [eqGuard_at_int,binOp,Op.intDiv,hb])
  simp only [not_or] at hq;cases op <;> (try exact absurd rfl hq.1) <;> (try exact absurd rfl hq.2) <;> simp only [KX,reduceCtorEq,Option.some.injEq] at H1 <;> subst H1 <;>
   (refine ⟨_, ?_,by simp only [RV];rfl⟩;simp [eqGuard_at_int,binOp,Op.intArith,Op.intCmp,Op.intBits])
 ·rw [XM] at hx hy
  subst hx hy;cases op <;> simp only [kW,reduceCtorEq,Option.some.injEq] at H
  case add =>
   obtain ⟨hc,H1⟩:=L6 H;clear H;simp only [Option.some.injEq] at H1;subst H1;refine ⟨_, ?_,by simp only [RV];rfl⟩
   rename_i sa sb;have:¬ (((sa.size+sb.size:Nat):Int)>IntKind.i64.max):=by
    rw [IntKind.max_i64];have:=hc;unfold lim at this;omega
   simp only [eqGuard_at_string,binOp,Op.stringOp,Sem.run_bind,Sem.run_pure,Result.andThen_ok];rw [if_neg this];rfl
  all_goals
   subst H;refine ⟨_, ?_,by simp only [RV];rfl⟩
   simp [eqGuard_at_string,binOp,Op.stringOp,A37]
 ·simp at H
theorem B6H {c z:Operand} (D9:o.op = .pick c y z) (H:(ob (src C.P 0 st c) fun rc=>ob (src C.P o.type st y) fun ra=>ob (src C.P o.type st z) fun rb =>
   og (J5 rc.2 && J5 ra.2 && J5 rb.2) (ob (A72 rc.1 ra.1 rb.1) fun d=>k (st.put o.dst d .val)))=some x) (Rl:J6 E st a w.heap) (T:Then E w k x K):Gp C.P o a w K:=by
 obtain ⟨rc,h1,H⟩:=A9 H;obtain ⟨ra,h2,H⟩:=A9 H;obtain ⟨rb,h3,H⟩:=A9 H;obtain ⟨hc,H⟩:=F4 H;obtain ⟨d,hd,H⟩:=A9 H;simp only [z8q] at hc;have e1:=(Rl.src h1).data hc.1.1;have e2:=(Rl.src h2).data hc.1.2;have e3:=(Rl.src h3).data hc.2;rcases B1Z hd with ⟨hb,hd⟩ | ⟨hb,hd⟩
 ·rw [hb,Ma] at e1
  subst hd;refine X9 (v:=a.eval y) ?_ H Rl e2 @T;simp [execOp,D9,e1,asBool]
 ·rw [hb,Ma] at e1
  subst hd;refine X9 (v:=a.eval z) ?_ H Rl e3 @T;simp [execOp,D9,e1,asBool]
theorem C00 (D9:o.op = .unOp op t y) (H:(ob (src C.P t st y) fun r=>og (J5 r.2) (ob (O6 op r.1) fun d=>k (st.put o.dst d .val)))=some x) (Rl:J6 E st a w.heap) (T:Then E w k x K):Gp C.P o a w K:=by
 obtain ⟨r,h1,H⟩:=A9 H;obtain ⟨hc,H⟩:=F4 H;obtain ⟨d,hd,H⟩:=A9 H;have e1:=(Rl.src h1).data hc;rcases B5F hd with ⟨b,rfl,hb,rfl⟩ | ⟨kd,n,rfl,hb,rfl⟩
 ·rw [hb,Ma] at e1
  refine X9 (v := .bool _) ?_ H Rl (by rw [Ma]) @T
  simp [execOp,D9,e1,Op.unary]
 ·rw [hb,BP] at e1
  refine X9 (v := .int _ _) ?_ H Rl (by rw [BP]) @T
  simp [execOp,D9,e1,Op.unary,Op.intArith]
theorem B6E {u:TypeId} (D9:o.op = .convert t u y) (H:(ob (src C.P t st y) fun r=>match C.P.underlying u with
   | some (.int kd)=>og (J5 r.2 && (C.P.underlying t).isSome) (ob (T_ kd r.1) fun d=>k (st.put o.dst d .val))
   | _=>none)=some x) (Rl:J6 E st a w.heap) (T:Then E w k x K):Gp C.P o a w K:=by
 obtain ⟨r,h1,H⟩:=A9 H
 split at H
 ·rename_i kd hu
  obtain ⟨hc,H⟩:=F4 H;obtain ⟨d,hd,H⟩:=A9 H;simp only [z8q] at hc;have e1:=(Rl.src h1).data hc.1;obtain ⟨dt,ht⟩:=Option.isSome_iff_exists.1 hc.2;obtain ⟨_,_,hb,rfl⟩:=B1X hd;rw [hb,BP] at e1;refine X9 (v := .int _ _) ?_ H Rl (by rw [BP]) @T
  simp only [execOp,D9];refine Ab ?_;simp only [convert,e1,Sem.run_bind,run_underlying ht,run_underlying hu,Result.andThen_ok];cases dt <;> rfl
 ·simp at H
theorem B8N {i:Nat} {r:DV × Meta} {m:Meta} (D9:o.op = .extract y i) (h1:src C.P 0 st y=some r) (hm:r.2 = .val) (hd:I9 i r.1=some d) (hmv:m = .val) (H:k (st.put o.dst d m)=some x) (Rl:J6 E st a w.heap) (T:Then E w k x K):Gp C.P o a w K:=by
 subst hmv;have e1:=(Rl.src h1).data (by rw [hm];rfl)
 obtain ⟨cs,hb,hd⟩:=A6w hd;rw [hb] at e1;simp only [RV] at e1;obtain ⟨vs,hv,hr⟩:=e1;obtain ⟨l1,l2⟩:=VY.1 hr;have hi:=(z0q.1 hd).1;have hvi:vs.toList[i]?=some (vs.toList[i]'(by omega)):=z3q (by omega)
 refine X9 (v:=vs.toList[i]'(by omega)) ?_ H Rl (l2 i d _ hd hvi) @T
 simp only [execOp,D9];refine Ab ?_;have C26:vs[i]?=some (vs.toList[i]'(by omega)):=by simp
 simp only [Instr.extract,hv,C26,Sem.run_pure]
theorem A7v {f:Nat} (D9:o.op = .fieldAddr t y f) (H:Qa C o t y f st k=some x) (Rl:J6 E st a w.heap) (T:Then E w k x K):Gp C.P o a w K:=by
 unfold Qa at H;obtain ⟨r,h1,H⟩:=A9 H;obtain ⟨fd,h2,H⟩:=A9 H;obtain ⟨z,h3,H⟩:=A9 H;have hz:z.1≠0:=by intro h;rw [if_pos h] at H;simp at H
 rw [if_neg hz] at H;have hu:∃ fs,C.P.underlying t=some (.struct fs)/\fs[f]?=some fd:=by
  unfold lT at h2
  split at h2
  ·exact ⟨_,‹_›,h2⟩
  ·simp at h2
 obtain ⟨fs,hu,hf⟩:=hu;have run:∀ b off,a.eval y = .pointer (some ⟨b,off,none⟩)->(execOp a.eval o).run C.P w = .ok (.value (.pointer (some ⟨b,off+fd.offset,none⟩))) w:=by
  intro b off he;simp only [execOp,D9];refine Ab ?_;simp only [Instr.fieldAt,Sem.run_bind,run_underlying hu,Result.andThen_ok,hf,he,Instr.sureAddr,Sem.run_pure,fieldPlace,LA h3,hz,if_false,Addr.add_lit]
 have e1:=Rl.src h1
 revert e1 H
 cases hm:r.2 <;> intro H e1 <;> simp only [reduceCtorEq] at H <;> simp only [RR,J8] at e1
 case loc s off=>exact T9 (run _ _ e1.2) H Rl (fun _ _=>⟨rfl,rfl⟩) @T
 case OX ag sz off =>
  obtain ⟨b,o0,r1,r2,r3⟩:=e1;exact T9 (run _ _ r1) H Rl (fun _ _=>⟨b,o0,by rw [zlq],r2,r3⟩) @T
 case ptr i off=>exact T9 (run _ _ e1.2) H Rl (fun _ _=>⟨e1.1,rfl⟩) @T
 case Yr i sz idx off=>exact T9 (run _ _ e1.2) H Rl (fun _ _=>⟨e1.1,by rw [zlq]⟩) @T
 case nL i n sz idx off =>
  obtain ⟨r1,r2,r3,b,p,r4,r5⟩:=e1;exact T9 (run _ _ r4) H Rl (fun _ _=>⟨r1,r2,r3,b,p,by rw [zlq],r5⟩) @T
theorem VA {e:TypeId} {z:Nat × Bool} (hu:P.underlying t=some (.slice e)) (hz:tz P e=some z) {b:Addr} {len cap:Nat} {i:Int} (h0:0<=i) (h1:i<len) (w:World) :
 (Instr.indexAt t (.slice (some b) len cap) (.int kd i)).run P w = .ok (.pointer (some (b.add (i.toNat * z.1)))) w:=by
 simp [Instr.indexAt,run_underlying hu,asIntOf,LA hz,h0,h1]
theorem A5d {e:TypeId} {m:Nat} {z:Nat × Bool} (hu:P.underlying t=some (.array m e)) (hz:tz P e=some z) {b off:Nat} {i:Int} (h0:0<=i) (h1:i<m) (w:World) :
 (Instr.indexAt t (.pointer (some ⟨b,off,none⟩)) (.int kd i)).run P w = .ok (.pointer (some ⟨b,off+i.toNat * z.1,none⟩)) w:=by
 simp [Instr.indexAt,run_underlying hu,asIntOf,LA hz,h0,h1,Instr.sureAddr,Addr.add_lit]
theorem A7w {fl:Flags} {i:Operand} (D9:o.op = .indexAddr t y i) (H:Fh C fl o t y i st k=some x) (Rl:J6 E st a w.heap) (T:Then E w k x K):Gp C.P o a w K:=by
 unfold Fh at H;obtain ⟨r,h1,H⟩:=A9 H;obtain ⟨j,h2,H⟩:=A9 H;cases h3:Gy C.P t with
 | none =>
   rw [h3] at H;simp only [oG] at H;obtain ⟨q,h4,H⟩:=A9 H;obtain ⟨z,h5,H⟩:=A9 H
   split at H
   ·rename_i s off hm
    obtain ⟨h6,H⟩:=F4 H;obtain ⟨n,h7,H⟩:=A9 H;have hu:C.P.underlying t=some (.array q.1 q.2):=by
     unfold B9w at h4
     split at h4
     ·simp only [Option.some.injEq] at h4;subst h4;assumption
     ·simp at h4
    have e1:=Rl.src h1;have f2:=(Rl.src h2).data h6;obtain ⟨kd,i,hj,h0,M4,rfl⟩:=jB h7;rw [hj,BP] at f2;rw [hm] at e1;simp only [RR,J8] at e1;refine T9 (v := .pointer (some ⟨_,_,none⟩)) ?_ H Rl (fun _ _=>⟨rfl,rfl⟩) @T
    simp only [execOp,D9];refine Ab ?_;rw [e1.2,f2,A5d hu h5 h0 M4,zuq]
   ·cases H
 | some e =>
 rw [h3] at H;simp only at H;obtain ⟨z,h4,H⟩:=A9 H;have hu:C.P.underlying t=some (.slice e):=by
  unfold Gy at h3
  split at h3
  ·simp only [Option.some.injEq] at h3;subst h3;assumption
  ·simp at h3
 have e1:=Rl.src h1;have e2:=Rl.src h2;have dat:J5 r.2=true->og (J5 r.2 && J5 j.2) (ob (F5 z.1 r.1 j.1) fun d =>
  if z.2 then k (st.put o.dst d (.OX true z.1 0)) else og (K6 d) (k (st.put o.dst d (.OX false z.1 0))))=some x->Gp C.P o a w K:=by
  intro Yd H;obtain ⟨hc,H⟩:=F4 H;obtain ⟨d,hd,H⟩:=A9 H;simp only [z8q] at hc;have f1:=e1.data hc.1;have f2:=e2.data hc.2;obtain ⟨ds,kd,n,hr,hj,h0,hd⟩:=B3T hd;rw [hr] at f1;rw [hj,BP] at f2;simp only [RV,RC] at f1;obtain ⟨b,len,cap,hv,Dh,zC,SL,hpos,hel⟩:=f1;simp only [List.cons.injEq,and_true] at hv;have hn:n.toNat<ds.length:=(z0q.1 hd).1;cases b with
  | none=>have:=SL rfl;omega
  | some b =>
    obtain ⟨hs,hE⟩:=hel b rfl;have hs:=hs (by omega)
    have hE:=Dp.1 hE n.toNat d hd;have hb:b=⟨b.block,b.off,none⟩:=by cases b;simp only at hs;subst hs;rfl
    have Aw:(execOp a.eval o).run C.P w = .ok (.value (.pointer (some ⟨b.block,b.off+n.toNat * z.1+0,none⟩))) w:=by
     simp only [execOp,D9];refine Ab ?_;rw [hv,f2,VA hu h4 h0 (by omega)]
     rw [hb];simp only [Addr.add_lit,ziq]
    by_cases hz:z.2=true
    ·rw [if_pos hz] at H
     exact T9 Aw H Rl (fun _ _=>⟨b.block,b.off+n.toNat * z.1,rfl,hE,by simp⟩) @T
    ·rw [if_neg hz] at H
     obtain ⟨hl,H⟩:=F4 H;exact T9 Aw H Rl (fun _ _=>⟨b.block,b.off+n.toNat * z.1,rfl,hE,fun _=>hl⟩) @T
 revert e1 H dat
 cases hm:r.2 <;> intro H e1 dat
 case arr i sz off len =>
  obtain ⟨hc,H⟩:=F4 H;obtain ⟨n,hn,H⟩:=A9 H;simp only [z8q,beq_iff_eq] at hc;have f2:=e2.data hc.2;obtain ⟨kd,q,hj,h0,M4,rfl⟩:=jB hn;rw [hj,BP] at f2;simp only [RR,J8] at e1;obtain ⟨hi,b,cap,hv,hb⟩:=e1;have hb:=hb.1 (by omega)
  subst hb;refine T9 (v := .pointer (some ⟨E.obj i,E.base i+(off+q.toNat) * sz+0,none⟩)) ?_ H Rl (fun _ _ => ?_) @T
  ·simp only [execOp,D9]
   refine Ab ?_;rw [hv,f2,VA hu h4 h0 M4];simp only [Addr.add_lit,ziq,hc.1,zOq,zlq]
  ·split
   ·exact ⟨hi,rfl⟩
   ·exact ⟨hi,rfl⟩
 case U1 i n sz len =>
  obtain ⟨hc,H⟩:=F4 H;obtain ⟨idx,hn,H⟩:=A9 H;simp only [z8q,beq_iff_eq] at hc;have f2:=e2.data hc.2;obtain ⟨kd,q,hj,h0,M4,rfl⟩:=jB hn;rw [hj,BP] at f2;simp only [RR,J8] at e1;obtain ⟨r1,r2,r3,a',cap,r4,r5,r6,r7,r8⟩:=e1;cases a' with
  | none=>have:=r6 rfl;omega
  | some b =>
    have hs:=r7 (by omega) b rfl
    have hb:b=⟨b.block,b.off,none⟩:=by cases b;simp only at hs;subst hs;rfl
    refine T9 (v := .pointer (some ⟨b.block,b.off+q.toNat * sz+0,none⟩)) ?_ H Rl (fun _ _=>⟨r1,r2,r3,b.block,b.off+q.toNat * sz,by rw [ziq],fun e => ?_⟩) @T
    ·simp only [execOp,D9]
     refine Ab ?_;rw [r4,f2,VA hu h4 h0 M4,hb];simp only [Addr.add_lit,ziq,hc.1]
    ·obtain ⟨q1,-⟩:=r8 e (by omega)
     simp only [Option.some.injEq] at q1;rw [q1];exact ⟨rfl,by rw [zuq]⟩
 all_goals exact dat (by have:=(F4 H).1;simp only [z8q] at this;exact this.1) H
end
end Go.Su

/-
 THE DATA MACHINE, part 8: comparison, lengths, bytes of texts, parts of slices, fields of values.
-/
namespace Go.Su
variable {S:X6} {h:Heap} {sz:Nat} {ds:List DV} {v:Value}
theorem Mc (H:RV S h (.list sz ds) v) :
 ∃ a len cap,v = .slice a len cap/\len=ds.length/\len<=cap/\(a=none->cap=0)/\(ds≠[]->0<sz)/\∀ x,a=some x->(0<cap->x.spot=none)/\Dc S h sz x.block x.off ds:=by
 simp only [RV,RC] at H;obtain ⟨a,len,cap,h1,h2⟩:=H;simp only [List.cons.injEq,and_true] at h1;exact ⟨a,len,cap,h1,h2⟩
variable {len:Nat} {cap:Nat}
theorem LY {a:Option Addr} (h1:len=ds.length) (h2:len<=cap) (h3:a=none->cap=0) (h4:ds≠[]->0<sz) (h5:∀ x,a=some x->(0<cap->x.spot=none)/\Dc S h sz x.block x.off ds):RV S h (.list sz ds) (.slice a len cap):=by
 simp only [RV,RC];exact ⟨a,len,cap,rfl,h1,h2,h3,h4,h5⟩
theorem B3U {y d:DV} (h:dLen y=some d):∃ sz ds,y = .list sz ds/\d = .int .i64 ds.length:=by
 unfold dLen at h
 split at h
 ·simp only [Option.some.injEq] at h;exact ⟨_,_,rfl,h.symm⟩
 ·simp at h
theorem B1Y {y d:DV} (h:DC y=some d):∃ s,y = .str s/\d = .int .i64 s.size:=by
 unfold DC at h
 split at h
 ·simp only [Option.some.injEq] at h;exact ⟨_,rfl,h.symm⟩
 ·simp at h
theorem A8r {y i d:DV} (h:Y4 y i=some d):∃ s kd n b,y = .str s/\i = .int kd n/\0<=n/\s.data[n.toNat]?=some b/\d = .int .u8 b.toNat:=by
 unfold Y4 at h
 split at h
 ·obtain ⟨h0,h⟩:=L6 h
  simp only [z9q] at h;obtain ⟨b,hb,rfl⟩:=h;exact ⟨_,_,_,b,rfl,rfl,h0,hb,rfl⟩
 ·simp at h
theorem bA {n m:Nat} {x:Option DV} (h:bnd n x=some m):(x=none/\m=n)\/∃ kd q,x=some (.int kd q)/\0<=q/\m=q.toNat:=by
 unfold bnd at h
 split at h
 ·simp only [Option.some.injEq] at h;exact .inl ⟨rfl,h.symm⟩
 ·obtain ⟨h0,h⟩:=L6 h
  simp only [Option.some.injEq] at h;exact .inr ⟨_,_,rfl,h0,h.symm⟩
 ·simp at h
theorem A1v {y d:DV} {lo hi:Option DV} (h:CP sz y lo hi=some d):∃ ds hh ll,y = .list sz ds/\bnd ds.length hi=some hh/\bnd 0 lo=some ll/\ll<=hh/\hh<=ds.length/\d = .list sz ((ds.take hh).drop ll):=by
 unfold CP at h
 split at h
 ·obtain ⟨hh,b1,h⟩:=A9 h
  obtain ⟨ll,b2,h⟩:=A9 h;obtain ⟨⟨c1,c2,c3⟩,h⟩:=L6 h;simp only [Option.some.injEq] at h;subst c1;exact ⟨_,hh,ll,rfl,b1,b2,c2,c3,h.symm⟩
 ·simp at h
theorem A8q {y d hi mx:DV} {lo:Option DV} (h:A0u sz y lo hi mx=some d):∃ kd kd' q,hi = .int kd q/\mx = .int kd' q/\CP sz y lo (some hi)=some d:=by
 unfold A0u at h
 split at h
 ·obtain ⟨hqm,h1⟩:=L6 h
  subst hqm;exact ⟨_,_,_,rfl,rfl,h1⟩
 ·simp at h
theorem B0j {b o l n:Nat} (H:Dc S h sz b o ds):Dc S h sz b (o+l * sz) ((ds.take n).drop l):=by
 rw [Dp] at H ⊢;intro i d hd;rw [zaq] at hd;have Kz:ds[l+i]?=some d:=by
  rw [List.getElem?_take] at hd
  split at hd
  ·exact hd
  ·simp at hd
 have:=H (l+i) d Kz
 rwa [zOq,<- zlq] at this
section
variable {X:Type} {C:X4} {R:O4} {o:Oper} {st:St} {k:St->Option X} {x:X} {E:Env} {a:Act} {w:World} {K:Act->World->Prop} {Q:Exit->Act->World->Prop} {P:Program} {hp:Heap}
theorem A0M {isS:Bool} {h l:Nat} {lo hi:Option DV} {vlo vhi:Option Value} (hh:bnd len hi=some h) (hl:bnd 0 lo=some l) (h1:l<=h) (h2:h<=len) (h3:len<=cap) (elo:∀ d,lo=some d->∃ v,vlo=some v/\RV S hp d v) (nlo:lo=none->vlo=none) (ehi:∀ d,hi=some d->∃ v,vhi=some v/\RV S hp d v) (nhi:hi=none->vhi=none) (w:World) :
 (Instr.sliceBounds isS len cap vlo vhi none).run P w = .ok (l,h,cap) w:=by
 have A:∀ (kd:IntKind) (q:Int) (y:Nat) (code:BoundsCode),0<=q->q.toNat<=y->(Instr.sliceBound (.int kd q) y code).run P w = .ok q.toNat w:=by
  intro kd q y code h0 h4;unfold Instr.sliceBound;simp only [asIntOf,pure_bind,Sem.run_ite];rw [if_pos ⟨h0,by omega⟩]
  rfl
 unfold Instr.sliceBounds;rcases bA hh with ⟨rfl,rfl⟩ | ⟨kd,q,rfl,h0,rfl⟩
 ·rw [nhi rfl]
  rcases bA hl with ⟨rfl,rfl⟩ | ⟨kd',q',rfl,dQ,rfl⟩
  ·rw [nlo rfl];simp
  ·obtain ⟨v,rfl,hv⟩:=elo _ rfl
   rw [BP] at hv;subst hv;simp only [Sem.run_bind,Sem.run_pure,Result.andThen_ok,A _ _ _ _ dQ h1]
 ·obtain ⟨v,rfl,hv⟩:=ehi _ rfl
  rw [BP] at hv;subst hv;rcases bA hl with ⟨rfl,rfl⟩ | ⟨kd',q',rfl,dQ,rfl⟩
  ·rw [nlo rfl]
   simp only [Sem.run_bind,Sem.run_pure,Result.andThen_ok,A _ _ _ _ h0 (by omega:q.toNat<=cap)]
  ·obtain ⟨v,rfl,hv⟩:=elo _ rfl
   rw [BP] at hv;subst hv;simp only [Sem.run_bind,Sem.run_pure,Result.andThen_ok,A _ _ _ _ h0 (by omega:q.toNat<=cap),A _ _ _ _ dQ h1]
theorem A5S {y:Option Operand} {l:Option DV} (h:Xm P st y=some l) (Rl:J6 E st a w.heap) :
 (∀ d,l=some d->∃ v,y.map a.eval=some v/\RV E.S w.heap d v)/\(l=none->y.map a.eval=none):=by
 unfold Xm at h
 split at h
 ·simp only [Option.some.injEq] at h;subst h;simp
 ·obtain ⟨r,h1,h⟩:=A9 h
  obtain ⟨h2,h⟩:=F4 h;simp only [Option.some.injEq] at h;subst h;refine ⟨fun d hd => ?_,by simp⟩
  simp only [Option.some.injEq] at hd;subst hd;exact ⟨_,rfl,(Rl.src h1).data h2⟩
variable {t:TypeId} {b:Option Addr}
theorem p_ {e:TypeId} {z:Nat × Bool} (hu:P.underlying t=some (.slice e)) (hz:tz P e=some z) {l h m:Nat} {vlo vhi vmx:Option Value} (hb:(Instr.sliceBounds true len cap vlo vhi vmx).run P w = .ok (l,h,m) w) :
 (Instr.sliceAt t (.slice b len cap) vlo vhi vmx).run P w = .ok (.slice (if m=l then b else b.map (·.add (l * z.1))) (h-l) (m-l)) w:=by
 unfold Instr.sliceAt;simp only [Sem.run_bind,run_underlying hu,Result.andThen_ok];unfold Instr.slice;simp only [Sem.run_bind,run_underlying hu,Result.andThen_ok,hb,LA hz,Sem.run_pure]
theorem A9I {l h m:Nat} (H:RV S hp (.list sz ds) (.slice b len cap)) (h1:l<=h) (h2:h<=ds.length) (h3:h<=m) (h4:m<=cap) :
 RV S hp (.list sz ((ds.take h).drop l)) (.slice (if m=l then b else b.map (·.add (l * sz))) (h-l) (m-l)):=by
 obtain ⟨b',len',cap',hv,e1,e2,e3,e4,e5⟩:=Mc H;simp only [Value.slice.injEq] at hv;obtain ⟨rfl,rfl,rfl⟩:=hv;refine LY ?_ (by omega) ?_ ?_ ?_
 ·simp only [zhq,zfq];omega
 ·intro hn
  split at hn
  ·omega
  ·cases b with
   | none=>have:=e3 rfl;omega
   | some y=>simp at hn
 ·intro hne
  exact e4 fun hd=>hne (by simp [hd])
 ·intro y hy
  split at hy
  ·rename_i hml
   have hlh:h=l:=by omega
   obtain ⟨s1,s2⟩:=e5 y hy;refine ⟨fun h0=>absurd h0 (by omega), ?_⟩
   have:(ds.take h).drop l=[]:=by
    apply List.drop_eq_nil_of_le;simp only [zfq];omega
   rw [this];simp only [Dc]
  ·cases b with
   | none=>simp at hy
   | some z =>
     simp only [znq,Option.some.injEq] at hy;subst hy;obtain ⟨s1,s2⟩:=e5 z rfl;have s1:=s1 (by omega)
     have hz:z=⟨z.block,z.off,none⟩:=by cases z;simp only at s1;subst s1;rfl
     rw [hz];simp only [Addr.add_lit];exact ⟨fun _=>trivial,B0j s2⟩
theorem A34 {m:Meta} {q:Nat × Nat × Nat × Nat} (h:A70 m=some q):m = .arr q.1 q.2.1 q.2.2.1 q.2.2.2:=by
 unfold A70 at h
 split at h
 ·simp only [Option.some.injEq] at h;subst h;rfl
 ·cases h
theorem n_ {e:TypeId} (h:Gy P t=some e):P.underlying t=some (.slice e):=by
 unfold Gy at h
 split at h
 ·simp only [Option.some.injEq] at h;subst h;assumption
 ·cases h
theorem B5s {E:Env} {tg:Tag} {i off l hh:Nat} (e1:J8 E h tg .undef (.arr i sz off len) (.slice b len cap)) (c2:l<=hh) (c3:hh<=len) :
 J8 E h tg .undef (.arr i sz (off+l) (hh-l)) (.slice (if cap=l then b else b.map (·.add (l * sz))) (hh-l) (cap-l)):=by
 obtain ⟨f0,b',cap',hv,f1,f2,f3,f4,f5⟩:=e1;simp only [Value.slice.injEq,true_and] at hv;obtain ⟨rfl,rfl⟩:=hv;refine ⟨f0,_,_,rfl,fun hp => ?_,by omega,fun hb => ?_,fun y hy => ?_,fun hp => ?_⟩
 ·rw [if_neg (by omega),f1 (by omega),znq,Addr.add_lit,zlq,<- zOq]
 ·split at hb
  ·rw [f3 hb];omega
  ·cases b with
   | none=>rw [f3 rfl];omega
   | some z=>simp at hb
 ·split at hy
  ·exact f4 y hy
  ·cases b with
   | none=>simp at hy
   | some z =>
     simp only [znq,Option.some.injEq] at hy;subst hy;have:=f4 z rfl;have hz:z=⟨z.block,z.off,none⟩:=by cases z;simp only at this;subst this;rfl
     rw [hz,Addr.add_lit]
 ·have:=f5 (by omega)
  rwa [show off+l+(cap-l)=off+cap by omega]
theorem A5v {m:Meta} {q:Nat × Nat × Nat × Nat} (h:A8a m=some q):m = .U1 q.1 q.2.1 q.2.2.1 q.2.2.2:=by
 unfold A8a at h
 split at h
 ·simp only [Option.some.injEq] at h;subst h;rfl
 ·cases h
theorem B60 {E:Env} {tg:Tag} {i n hh:Nat} (e1:J8 E h tg .undef (.U1 i n sz len) (.slice b len cap)) (c3:hh<=len) :
 J8 E h tg .undef (.U1 i n sz hh) (.slice (if cap=0 then b else b.map (·.add (0 * sz))) (hh-0) (cap-0)):=by
 obtain ⟨r1,r2,r3,b',cap',hv,f2,f3,f4,f5⟩:=e1;simp only [Value.slice.injEq,true_and] at hv;obtain ⟨rfl,rfl⟩:=hv;have eb:(if cap=0 then b else b.map (·.add (0 * sz)))=b:=by
  split
  ·rfl
  ·cases b with
   | none=>rfl
   | some z =>
     have:=f4 (by omega) z rfl
     have hz:z=⟨z.block,z.off,none⟩:=by cases z;simp only at this;subst this;rfl
     rw [znq,hz,Addr.add_lit,Nat.zero_mul,ziq]
 rw [eb];exact ⟨r1,r2,r3,b,cap,rfl,by omega,f3,f4,f5⟩
variable {y:Operand}
theorem B4S {lo hi mx:Option Operand} (D9:o.op = .slice t y lo hi mx) (H:PH C o t y lo hi mx st k=some x) (Rl:J6 E st a w.heap) (T:Then E w k x K):Gp C.P o a w K:=by
 unfold PH at H;obtain ⟨r,h1,H⟩:=A9 H;obtain ⟨l,h2,H⟩:=A9 H;obtain ⟨h,h3,H⟩:=A9 H;obtain ⟨m,h4,H⟩:=A9 H;obtain ⟨l1,l2⟩:=A5S h2 Rl;obtain ⟨k1,k2⟩:=A5S h3 Rl;obtain ⟨m1,m2⟩:=A5S h4 Rl;have O8:∀ v,(Instr.sliceAt t (a.eval y) (lo.map a.eval) (hi.map a.eval) (mx.map a.eval)).run C.P w = .ok v w->(execOp a.eval o).run C.P w = .ok (.value v) w:=by
  intro v hv;simp only [execOp,D9];exact Ab hv
 split at H
 ·rename_i q hq
  have hm:=A34 hq;have e1:=Rl.src h1;rw [hm] at e1;simp only [RR,J8] at e1;obtain ⟨e,he,H⟩:=A9 H;obtain ⟨z,hz,H⟩:=A9 H;obtain ⟨uS,H⟩:=F4 H;obtain ⟨hh,b1,H⟩:=A9 H;obtain ⟨ll,b2,H⟩:=A9 H;obtain ⟨⟨c2,c3⟩,H⟩:=L6 H;rw [z8q,beq_iff_eq] at uS;have hmn:m=none:=by cases m;rfl;exact absurd uS.1 (by simp)
  have hu:=n_ he;obtain ⟨f0,b,cap,hv,fr⟩:=e1;rw [hv] at O8;refine T9 (m := .arr q.1 q.2.1 (q.2.2.1+ll) (hh-ll)) (O8 (.slice (if cap=ll then b else b.map (·.add (ll * q.2.1))) (hh-ll) (cap-ll)) ?_) H Rl (fun _ _ => ?_) @T
  ·rw [m2 hmn,uS.2]
   exact p_ hu hz (A0M b1 b2 c2 c3 fr.2.1 l1 l2 k1 k2 w)
  ·exact B5s (h:=w.heap) (tg := .other) ⟨f0,b,cap,rfl,fr⟩ c2 c3
 split at H
 ·rename_i q hq
  have hm:=A5v hq;have e1:=Rl.src h1;rw [hm] at e1;simp only [RR] at e1;obtain ⟨e,he,H⟩:=A9 H;obtain ⟨z,hz,H⟩:=A9 H;obtain ⟨uS,H⟩:=F4 H;obtain ⟨hh,b1,H⟩:=A9 H;obtain ⟨c3,H⟩:=L6 H;simp only [z8q,beq_iff_eq] at uS;have hmn:m=none:=by cases m;rfl;exact absurd uS.1.1 (by simp)
  have hln:l=none:=by cases l;rfl;exact absurd uS.1.2 (by simp)
  have hu:=n_ he;have e0:=e1;simp only [J8] at e0;obtain ⟨-,-,-,b,cap,hv,fc,-⟩:=e0;rw [hv] at O8 e1;have b2:bnd 0 l=some 0:=by rw [hln];rfl
  refine T9 (m := .U1 q.1 q.2.1 q.2.2.1 hh) (O8 (.slice (if cap=0 then b else b.map (·.add (0 * q.2.2.1))) (hh-0) (cap-0)) ?_) H Rl (fun _ _ => ?_) @T
  ·rw [m2 hmn,uS.2]
   exact p_ hu hz (A0M b1 b2 (Nat.zero_le _) c3 fc l1 l2 k1 k2 w)
  ·exact B60 (h:=w.heap) (tg := .other) e1 c3
 rename_i hq _;obtain ⟨hd,H⟩:=F4 H;have e1:=(Rl.src h1).data hd
 split at H
 ·rename_i e hu
  obtain ⟨z,hz,H⟩:=A9 H
  split at H
  ·obtain ⟨d,Kz,H⟩:=A9 H
   obtain ⟨ds,hh,ll,hr,b1,b2,c2,c3,rfl⟩:=A1v Kz;rw [hr] at e1;obtain ⟨b,len,cap,hv,f1,f2,f3⟩:=Mc e1;rw [hv] at e1;refine X9 (O8 _ ?_) H Rl (A9I (m:=cap) e1 c2 c3 (by omega) (z5q _)) @T
   rw [hv,m2 rfl];exact p_ hu hz (A0M (f1 ▸ b1) b2 c2 (by omega) f2 l1 l2 k1 k2 w)
  ·obtain ⟨d,Kz,H⟩:=A9 H
   obtain ⟨kd,kd',qh,rfl,rfl,hd3⟩:=A8q Kz;obtain ⟨ds,hh,ll,hr,b1,b2,c2,c3,rfl⟩:=A1v hd3;rw [hr] at e1;obtain ⟨b,len,cap,hv,f1,f2,f3⟩:=Mc e1;rw [hv] at e1;have hb:=bA b1;simp only [reduceCtorEq,false_and,Option.some.injEq,DV.int.injEq,false_or] at hb;obtain ⟨kd1,q1,⟨rfl,rfl⟩,zJ,rfl⟩:=hb;have hR:=A9I (m:=qh.toNat) e1 c2 c3 (z5q _) (by omega)
   refine T9 (m := .full) (O8 _ ?_) H Rl (fun _ _=>⟨hR,⟨_,_,rfl⟩,_,_,rfl⟩) @T
   obtain ⟨vh,evh,rvh⟩:=k1 _ rfl;obtain ⟨vm,evm,rvm⟩:=m1 _ rfl;rw [BP] at rvh rvm;subst rvh rvm;rw [hv,evh,evm];refine p_ hu hz ?_;have A:∀ (kd:IntKind) (q:Int) (y:Nat) (code:BoundsCode),0<=q->q.toNat<=y->(Instr.sliceBound (.int kd q) y code).run C.P w = .ok q.toNat w:=by
    intro kd q y code h0 h4;unfold Instr.sliceBound;simp only [asIntOf,pure_bind,Sem.run_ite];rw [if_pos ⟨h0,by omega⟩]
    rfl
   unfold Instr.sliceBounds;rcases bA b2 with ⟨rfl,rfl⟩ | ⟨kd',q',rfl,dQ,rfl⟩
   ·rw [l2 rfl]
    simp only [Sem.run_bind,Sem.run_pure,Result.andThen_ok,A _ _ _ _ zJ (by omega:qh.toNat<=cap),A _ _ _ _ zJ (z5q _)]
   ·obtain ⟨v,evl,hv⟩:=l1 _ rfl
    rw [BP] at hv;subst hv;rw [evl];simp only [Sem.run_bind,Sem.run_pure,Result.andThen_ok,A _ _ _ _ zJ (by omega:qh.toNat<=cap),A _ _ _ _ zJ (z5q _),A _ _ _ _ dQ c2]
  ·simp at H
 ·rename_i hu
  split at H
  ·obtain ⟨d,Kz,H⟩:=A9 H
   unfold kV at Kz
   split at Kz
   ·rename_i s hr
    obtain ⟨hh,b1,Kz⟩:=A9 Kz;obtain ⟨ll,b2,Kz⟩:=A9 Kz;obtain ⟨⟨c2,c3⟩,Kz⟩:=L6 Kz;simp only [Option.some.injEq] at Kz;subst Kz;rw [hr,XM] at e1;refine X9 (v := .string _) (O8 _ ?_) H Rl (by rw [XM]) @T
    rw [e1,m2 rfl];unfold Instr.sliceAt;simp only [Sem.run_bind,run_underlying hu,Result.andThen_ok];unfold Instr.slice;simp only [Sem.run_bind,run_underlying hu,Result.andThen_ok,Option.isSome_none,zoq,if_false,Sem.run_pure,A0M b1 b2 c2 c3 (z5q _) l1 l2 k1 k2 w]
   ·simp at Kz
  ·simp at H
 ·simp at H
theorem Ea {b:Builtin} {c:Call} (D9:o.op = .call c) (hc:c.callee = .builtin b) {w':World} (h:(builtin b c.argTypes o.type (c.args.map fun | .const _=>true | _=>false) (c.args.map a.eval)).run C.P w = .ok (.value v) w'):(execOp a.eval o).run C.P w = .ok (.value v) w':=by
 simp only [execOp,D9,resolve,hc,Sem.run_bind,Sem.run_pure,Result.andThen_ok,invoke];exact h
theorem A0s {α : Type} {xs:Array α} {y : α} (h:xs.toList=[y]):xs = #[y]:=by
 cases xs;simp at h;subst h;rfl
theorem Sg {α : Type} {xs:Array α} {y z : α} (h:xs.toList=[y,z]):xs = #[y,z]:=by
 cases xs;simp at h;subst h;rfl
theorem B8O {c:Call} (D9:o.op = .call c) (hc:c.callee = .builtin .len) (ha:c.args.toList=[y]) (ht:c.argTypes.toList=[t]) (H:UX C o y t st k=some x) (Rl:J6 E st a w.heap) (T:Then E w k x K):Gp C.P o a w K:=by
 unfold UX at H;obtain ⟨r,h1,H⟩:=A9 H;have e1:=Rl.src h1;have O8:∀ v,(Builtin.len_ #[t] o.type #[a.eval y]).run C.P w = .ok v w->(execOp a.eval o).run C.P w = .ok (.value v) w:=by
  intro v hv;refine Ea D9 hc ?_;rw [A0s ht,show c.args.map a.eval = #[a.eval y] from by rw [A0s ha];simp]
  exact Ab hv
 have fin:∀ {n:Nat},k (st.put o.dst (.int .i64 n) .val)=some x->(Builtin.len_ #[t] o.type #[a.eval y]).run C.P w = .ok (.int .i64 n) w->Gp C.P o a w K :=
  fun H hv=>X9 (O8 _ hv) H Rl (by rw [BP]) @T
 split at H
 ·rename_i e hu
  have dat:og (J5 r.2) (ob (dLen r.1) fun d=>k (st.put o.dst d .val))=some x->Gp C.P o a w K:=by
   intro H;obtain ⟨hd,H⟩:=F4 H;obtain ⟨d,Kz,H⟩:=A9 H;obtain ⟨sz,ds,hr,rfl⟩:=B3U Kz;have e2:=e1.data hd;rw [hr] at e2;obtain ⟨b,len,cap,hv,f1,-⟩:=Mc e2;refine fin H ?_;rw [hv,f1];unfold Builtin.len_;simp [run_underlying hu,goInt]
  split at H
  ·rename_i i sz off len hm
   rw [hm] at e1;simp only [RR,J8] at e1;obtain ⟨hi,b,cap,hv,-⟩:=e1;refine fin H ?_;rw [hv];unfold Builtin.len_;simp [run_underlying hu,goInt]
  ·rename_i i n sz len hm
   rw [TH] at H;rw [hm] at e1;simp only [RR,J8] at e1;obtain ⟨-,-,-,b,cap,hv,-⟩:=e1;refine fin H ?_;rw [hv];unfold Builtin.len_;simp [run_underlying hu,goInt]
  ·exact dat H
 ·rename_i hu
  obtain ⟨hd,H⟩:=F4 H;obtain ⟨d,Kz,H⟩:=A9 H;obtain ⟨s,hr,rfl⟩:=B1Y Kz;have e2:=e1.data hd;rw [hr,XM] at e2;refine fin H ?_;rw [e2];unfold Builtin.len_;simp [run_underlying hu,goInt]
 ·rename_i kt et hu
  obtain ⟨n,hn,H⟩:=A9 H;unfold B4s at hn
  split at hn
  ·rename_i i hm
   obtain ⟨es,hes,hn⟩:=A9 hn;simp only [Option.some.injEq] at hn;subst hn;rw [hm] at e1;simp only [RR,J8] at e1;have hO:st.sg[i]?=some (.map es.1 es.2):=by
    unfold Av at hes
    split at hes
    ·simp only [Option.some.injEq] at hes;subst hes;assumption
    ·simp at hes
   obtain ⟨ens,clk,g1,g2,g3,-⟩:=Rl.Q0 i _ hO;refine fin H ?_;rw [e1.2,g3.1];unfold Builtin.len_;simp [run_underlying hu,goInt,getObj,Sem.run,g1]
  ·rename_i hm
   simp only [Option.some.injEq] at hn;subst hn;rw [hm] at e1;simp only [RR,J8] at e1;refine fin H ?_;rw [e1];unfold Builtin.len_;simp [run_underlying hu,goInt]
  ·simp at hn
 ·simp at H
end
end Go.Su

/-
 THE DATA MACHINE, part 9: operators, bytes of texts, fields of values, checked addresses, max and min.
-/
namespace Go.Su
variable {b:Bool}
theorem B3O {y z:DV} (h:jF y z=some b):∃ p q,y = .bool p/\z = .bool q/\b=(p == q):=by
 unfold jF at h
 split at h
 ·simp only [Option.some.injEq] at h;exact ⟨_,_,rfl,rfl,h.symm⟩
 ·simp at h
theorem B3M {ks:List LK} {y z:DV} (h:Vd ks y z=some b):∃ p q,y = .agg p/\z = .agg q/\DN ks p q=some b:=by
 unfold Vd at h
 split at h
 ·exact ⟨_,_,rfl,rfl,h⟩
 ·simp at h
variable {op:BinOp} {d:DV}
theorem A4h (h:oD op b=some d):(op = .eql/\d = .bool b)\/(op = .neq/\d = .bool !b):=by
 unfold oD at h
 split at h <;> simp only [Option.some.injEq,reduceCtorEq] at h <;> subst h
 ·exact .inl ⟨rfl,rfl⟩
 ·exact .inr ⟨rfl,rfl⟩
theorem B3V {y z:DV} (h:jG y z=some d):∃ k p q,y = .int k p/\z = .int k q/\d = .int k (if q>p then q else p):=by
 unfold jG at h
 split at h
 ·obtain ⟨hk,h1⟩:=L6 h
  simp only [Option.some.injEq] at h1;subst hk;exact ⟨_,_,_,rfl,rfl,h1.symm⟩
 ·simp at h
theorem B3W {y z:DV} (h:jH y z=some d):∃ k p q,y = .int k p/\z = .int k q/\d = .int k (if q<p then q else p):=by
 unfold jH at h
 split at h
 ·obtain ⟨hk,h1⟩:=L6 h
  simp only [Option.some.injEq] at h1;subst hk;exact ⟨_,_,_,rfl,rfl,h1.symm⟩
 ·simp at h
variable {P:Program} {t:TypeId} {lk:LK}
theorem B4n (h:iH P t=some lk) (w:World):(isAgg t).run P w = .ok false w:=by
 unfold iH at h
 split at h
 ·rename_i hu;unfold isAgg;simp [run_underlying hu]
 ·rename_i hu;unfold isAgg;simp [run_underlying hu]
 ·rename_i hu;unfold isAgg;simp [run_underlying hu]
 ·simp at h
variable {hp:Heap}
theorem A8y {S:X6} {dx dy:DV} {vx vy:Value} (hk:iH P t=some lk) (H:wR lk dx dy=some b) (hx:RC S hp dx [vx]) (hy:RC S hp dy [vy]) (n:Nat) (w:World):(Op.equalIn (n+1) t vx vy).run P w = .ok b w:=by
 unfold wR at H
 split at H
 ·obtain ⟨S_,H1⟩:=L6 H
  simp only [Option.some.injEq] at H1;subst H1 S_;simp only [RC,List.cons.injEq,and_true] at hx hy;subst hx hy;unfold iH at hk
  split at hk <;> simp only [Option.some.injEq,reduceCtorEq] at hk
  rename_i hu;exact run_equalIn_int w n t _ _ _ _ hu
 ·simp only [Option.some.injEq] at H
  subst H;simp only [RC,List.cons.injEq,and_true] at hx hy;subst hx hy;unfold iH at hk
  split at hk <;> simp only [Option.some.injEq,reduceCtorEq] at hk
  rename_i hu;exact run_equalIn_bool' w n t _ _ hu
 ·simp only [Option.some.injEq] at H
  subst H;simp only [RC,List.cons.injEq,and_true] at hx hy;subst hx hy;unfold iH at hk
  split at hk <;> simp only [Option.some.injEq,reduceCtorEq] at hk
  rename_i hu;exact run_equalIn_string w n t _ _ hu
 ·simp at H
variable {v:Value}
theorem A6X (h:iH P t=some lk) {cs:Array Value} {off:Nat} (hv:cs[off]?=some v) (w:World):(part t cs off).run P w = .ok v w:=by
 unfold part;simp [B4n h,hv]
theorem A7o {S:X6} {n:Nat} {xs ys:Array Value} {ax ay:List DV} (hx:Gq S hp ax xs.toList) (hy:Gq S hp ay ys.toList):∀ (fs:List Field) (ks:List LK) (i:Nat) (b:Bool),
 Sy P i fs=some ks->DN ks (ax.drop i) (ay.drop i)=some b->∀ w:World,(Op.eqFields (n+1) xs ys fs).run P w = .ok b w:=by
 obtain ⟨lx,hx⟩:=Eo.1 hx;obtain ⟨ly,hy⟩:=Eo.1 hy;intro fs
 induction fs with
 | nil =>
   intro ks i b h1 h2 w;simp only [Sy,Option.some.injEq] at h1;subst h1;unfold DN at h2
   split at h2 <;> simp_all [Op.eqFields]
 | cons f fs ih =>
   intro ks i b h1 h2 w;simp only [Sy] at h1;obtain ⟨hc,h1⟩:=L6 h1;obtain ⟨lk,hk,h1⟩:=A9 h1;obtain ⟨ks',zG,h1⟩:=A9 h1;simp only [Option.some.injEq] at h1;subst h1;simp only [z8q,bne_iff_ne,ne_eq,beq_iff_eq] at hc;cases hax:ax.drop i with
   | nil=>rw [hax] at h2;simp [DN] at h2
   | cons dx rx =>
     cases hay:ay.drop i with
     | nil=>rw [hax,hay] at h2;simp [DN] at h2
     | cons dy ry =>
       rw [hax,hay] at h2;simp only [DN] at h2;obtain ⟨q,hq,h2⟩:=A9 h2;have B9Y:ax[i]?=some dx:=by have:=congrArg (fun l:List DV=>l[0]?) hax;simpa using this
       have B9Z:ay[i]?=some dy:=by have:=congrArg (fun l:List DV=>l[0]?) hay;simpa using this
       have Kc:i<xs.toList.length:=by have:=(z0q.1 B9Y).1;omega
       have hi2:i<ys.toList.length:=by have:=(z0q.1 B9Z).1;omega
       have hvx:xs.toList[i]?=some xs.toList[i]:=z3q Kc;have hvy:ys.toList[i]?=some ys.toList[i]:=z3q hi2;have rx':rx=ax.drop (i+1):=by rw [<- zRq,hax];rfl
       have ry':ry=ay.drop (i+1):=by rw [<- zRq,hay];rfl
       have e1:(part f.type xs f.offset).run P w = .ok xs.toList[i] w:=A6X hk (by rw [hc.2];simp) w
       have e2:(part f.type ys f.offset).run P w = .ok ys.toList[i] w:=A6X hk (by rw [hc.2];simp) w
       have e3:=A8y (P:=P) hk hq (hx i dx _ B9Y hvx).2 (hy i dy _ B9Z hvy).2 n w;simp only [Op.eqFields,Sem.run_ite];rw [if_pos hc.1];simp only [Sem.run_bind,e1,e2,e3,Result.andThen_ok,Sem.run_ite];cases q with
       | false=>simp only [zoq,if_false,Option.some.injEq] at h2;subst h2;simp
       | true =>
         simp only [if_true] at h2;rw [rx',ry'] at h2;simpa using ih ks' (i+1) b zG h2 w
section
variable {X:Type} {C:X4} {R:O4} {o:Oper} {st:St} {k:St->Option X} {x:X} {E:Env} {a:Act} {w:World} {K:Act->World->Prop} {Q:Exit->Act->World->Prop}
theorem B17 {e:TypeId} (hu:P.underlying t=some (.pointer e)) (n:Nat) (b:Option Addr) (w:World):(Op.equalIn (n+1) t (.pointer none) (.pointer b)).run P w = .ok b.isNone w:=by
 simp [Op.equalIn,run_underlying hu]
theorem B18 {e:TypeId} (hu:P.underlying t=some (.pointer e)) (n:Nat) (b:Addr) (w:World):(Op.equalIn (n+1) t (.pointer (some b)) (.pointer none)).run P w = .ok false w:=by
 simp [Op.equalIn,run_underlying hu]
theorem iO {E:Env} {h:Heap} {k a:Nat} {r:DV × Meta} (H:Xo r=some b) (R:RR E h k a r.1 r.2 v):∃ p:Option Addr,v = .pointer p/\p.isNone=b:=by
 obtain ⟨d,m⟩:=r;unfold Xo at H;simp only at H R
 split at H
 ·simp only [Option.some.injEq] at H
  subst H;obtain ⟨-,rfl⟩:=(R:_/\_);exact ⟨none,rfl,rfl⟩
 ·simp only [Option.some.injEq] at H
  subst H;obtain ⟨-,rfl⟩:=(R:_/\_);exact ⟨_,rfl,rfl⟩
 ·split at H <;> simp only [Option.some.injEq,reduceCtorEq] at H <;> subst H
  ·exact ⟨none,by simpa only [RR,J8,RV] using R,rfl⟩
  ·simp only [RR,J8,RV,RC] at R
   obtain ⟨b,o,hv,-⟩:=R;simp only [List.cons.injEq,and_true] at hv;exact ⟨_,hv,rfl⟩
 ·cases H
theorem B5H {e:TypeId} (hu:P.underlying t=some (.pointer e)) {E:Env} {h:Heap} {k a k' a':Nat} {r s:DV × Meta} {u:Value} {n:Nat} (w:World) (H:UA r s=some b) (R:RR E h k a r.1 r.2 u) (S:RR E h k' a' s.1 s.2 v) :
 ∃ p q,u = .pointer p/\v = .pointer q/\(Op.equalIn (n+1) t u v).run P w = .ok b w:=by
 unfold UA at H
 split at H <;> simp only [Option.some.injEq,reduceCtorEq] at H <;> subst H <;> rename_i h1 h2
 ·obtain ⟨p,rfl,hp⟩:=iO h1 R
  obtain ⟨q,rfl,hq⟩:=iO h2 S;simp only [zAq] at hp;subst hp hq;exact ⟨_,_,rfl,rfl,B17 hu _ _ w⟩
 ·obtain ⟨p,rfl,hp⟩:=iO h1 R
  obtain ⟨q,rfl,hq⟩:=iO h2 S;simp only [zAq] at hq;subst hq;cases p with
  | none=>cases hp
  | some p=>exact ⟨_,_,rfl,rfl,B18 hu _ _ w⟩
theorem A4i {e e':TypeId} (hu:P.underlying t=some (.map e e')) (n:Nat) (b:Option Nat) (w:World):(Op.equalIn (n+1) t (.map none) (.map b)).run P w = .ok b.isNone w:=by
 simp [Op.equalIn,run_underlying hu]
theorem B16 {e e':TypeId} (hu:P.underlying t=some (.map e e')) (n:Nat) (b:Nat) (w:World):(Op.equalIn (n+1) t (.map (some b)) (.map none)).run P w = .ok false w:=by
 simp [Op.equalIn,run_underlying hu]
variable {yt:TypeId}
theorem iV {y z:Operand} (D9:o.op = .binOp op t y z yt) (he:oD op b=some d) (hg:(eqGuard op t y z (a.eval y) (a.eval z)).run C.P w = .ok () w) (hq:(Op.equal t (a.eval y) (a.eval z)).run C.P w = .ok b w) (hb:∀ op',binOp op' t (a.eval y) (a.eval z)=(match op' with | .eql=>(do pure (.bool (<- Op.equal t (a.eval y) (a.eval z)))) | .neq=>(do pure (.bool (!(<- Op.equal t (a.eval y) (a.eval z))))) | _=>binOp op' t (a.eval y) (a.eval z))) (H:k (st.put o.dst d .val)=some x) (Rl:J6 E st a w.heap) (T:Then E w k x K):Gp C.P o a w K:=by
 rcases A4h he with ⟨rfl,rfl⟩ | ⟨rfl,rfl⟩
 ·refine X9 (v := .bool b) ?_ H Rl (by rw [Ma]) @T
  simp only [execOp,D9];refine Ab ?_;rw [hb];simp [hg,hq]
 ·refine X9 (v := .bool !b) ?_ H Rl (by rw [Ma]) @T
  simp only [execOp,D9];refine Ab ?_;rw [hb];simp [hg,hq]
theorem B8K {y z:Operand} (D9:o.op = .binOp op t y z yt) (H:Ze C o op t y z st k=some x) (Rl:J6 E st a w.heap) (T:Then E w k x K):Gp C.P o a w K:=by
 unfold Ze at H;obtain ⟨r,h1,H⟩:=A9 H;obtain ⟨s,h2,H⟩:=A9 H;have e1:=Rl.src h1;have e2:=Rl.src h2
 split at H
 ·obtain ⟨hc,H⟩:=F4 H
  obtain ⟨d,hd,H⟩:=A9 H;simp only [z8q] at hc;obtain ⟨v,hv,hR⟩:=B6z (P:=C.P) (t:=t) (x:=y) (y:=z) hd (e1.data hc.1) (e2.data hc.2) w;refine X9 (v:=v) ?_ H Rl hR @T;simp only [execOp,D9];exact Ab hv
 ·rename_i Fy
  have hu:C.P.underlying t=some .bool:=by
   unfold kL at Fy
   split at Fy <;> first | assumption | (simp at Fy;done) | (split at Fy <;> simp at Fy)
  obtain ⟨hc,H⟩:=F4 H;obtain ⟨b,hb,H⟩:=A9 H;obtain ⟨d,hd,H⟩:=A9 H;simp only [z8q] at hc;obtain ⟨p,q,hp,hq,zH⟩:=B3O hb;have f1:=e1.data hc.1;have f2:=e2.data hc.2;rw [hp,Ma] at f1;rw [hq,Ma] at f2;refine iV D9 hd ?_ ?_ ?_ H Rl @T
  ·rw [f1,eqGuard_at_bool];rfl
  ·rw [f1,f2,zH];exact run_equalIn_bool' w _ t p q hu
  ·intro op';rw [f1,f2];cases op' <;> rfl
 ·rename_i ks Fy
  have hu:∃ fs,C.P.underlying t=some (.struct fs)/\Sy C.P 0 fs.toList=some ks/\C.P.stoodInHeld t=false/\C.P.eqGuardType C.P.depth t=false:=by
   unfold kL at Fy
   split at Fy <;> first | (simp at Fy;done) | skip
   rename_i fs hfs
   split at Fy <;> first | (simp at Fy;done) | skip
   rename_i ks' g1 g2 g3;simp only [B1b.flat.injEq] at Fy;subst Fy;exact ⟨fs,hfs,g1,g2,g3⟩
  obtain ⟨fs,hu,iD,R6,hgt⟩:=hu;obtain ⟨hc,H⟩:=F4 H;obtain ⟨b,hb,H⟩:=A9 H;obtain ⟨d,hd,H⟩:=A9 H;simp only [z8q] at hc;obtain ⟨p,q,hp,hq,ZK⟩:=B3M hb;have f1:=e1.data hc.1;have f2:=e2.data hc.2;rw [hp] at f1;rw [hq] at f2;simp only [RV] at f1 f2;obtain ⟨vs,VM,rvs⟩:=f1;obtain ⟨us,hus,rus⟩:=f2;refine iV D9 hd ?_ ?_ ?_ H Rl @T
  ·rw [VM,hus];exact run_eqGuard_agg w op t y z vs us hgt
  ·rw [VM,hus]
   show (Op.equalIn 10000 t _ _).run C.P w=_
   have hfs:C.P.fieldsOf t=fs:=by unfold Program.fieldsOf;rw [hu]
   rw [run_equalIn_struct w 9999 t vs us (by rw [hfs];exact hu) R6,hfs]
   exact A7o rvs rus fs.toList ks 0 b iD ZK w
  ·intro op';rw [VM,hus];cases op' <;> rfl
 ·rename_i Fy
  have hu:∃ e,C.P.underlying t=some (.pointer e):=by
   unfold kL at Fy
   split at Fy <;> first | exact ⟨_,by assumption⟩ | (simp at Fy;done) | (split at Fy <;> simp at Fy)
  obtain ⟨et,hu⟩:=hu;obtain ⟨b,hb,H⟩:=A9 H;obtain ⟨d,hd,H⟩:=A9 H;have key:∃ p q,a.eval y = .pointer p/\a.eval z = .pointer q/\(Op.equal t (a.eval y) (a.eval z)).run C.P w = .ok b w:=by
   exact B5H hu w hb e1 e2
  obtain ⟨p,q,hp,hq,he⟩:=key;refine iV D9 hd ?_ he ?_ H Rl @T
  ·rw [hp,eqGuard_at_pointer];rfl
  ·intro op'
   rcases A4h hd with ⟨rfl,-⟩ | ⟨rfl,-⟩ <;> rw [hp,hq] <;> cases op' <;> first | rfl | skip
 ·rename_i Fy
  have hu:∃ e e',C.P.underlying t=some (.map e e'):=by
   unfold kL at Fy
   split at Fy <;> first | exact ⟨_,_,by assumption⟩ | (simp at Fy;done) | (split at Fy <;> simp at Fy)
  obtain ⟨et,et',hu⟩:=hu;obtain ⟨b,hb,H⟩:=A9 H;obtain ⟨d,hd,H⟩:=A9 H;have key:∃ p q,a.eval y = .map p/\a.eval z = .map q/\(Op.equal t (a.eval y) (a.eval z)).run C.P w = .ok b w:=by
   revert hb e1 e2
   unfold A4T
   split <;> intro e1 e2 hb <;> simp only [Option.some.injEq,reduceCtorEq] at hb <;> subst hb <;> rename_i hm hn <;> rw [hm] at e1 <;> rw [hn] at e2 <;> simp only [RR,J8] at e1 e2
   ·refine ⟨_,_,e1,e2, ?_⟩
    rw [e1,e2];exact A4i hu _ _ w
   ·refine ⟨_,_,e1,e2.2, ?_⟩
    rw [e1,e2.2];exact A4i hu _ _ w
   ·refine ⟨_,_,e1.2,e2, ?_⟩
    rw [e1.2,e2];exact B16 hu _ _ w
  obtain ⟨p,q,hp,hq,he⟩:=key;refine iV D9 hd ?_ he ?_ H Rl @T
  ·rw [hp,eqGuard_at_map];rfl
  ·intro op';rw [hp,hq];cases op' <;> rfl
 ·simp at H
end
end Go.Su

/-
 THE DATA MACHINE, part 10: bytes of texts, fields of values, checked addresses, max and min; addresses read.
-/
namespace Go.Su
section
variable {X:Type} {C:X4} {R:O4} {o:Oper} {st:St} {k:St->Option X} {x:X} {E:Env} {a:Act} {w:World} {K:Act->World->Prop} {Q:Exit->Act->World->Prop} {t:TypeId} {y:Operand}
theorem B4R {i:Operand} (D9:o.op = .index t y i) (H:(ob (src C.P t st y) fun r=>ob (src C.P 0 st i) fun j=>match C.P.underlying t with
   | some .string=>og (J5 r.2 && J5 j.2) (ob (Y4 r.1 j.1) fun d=>k (st.put o.dst d .val))
   | _=>none)=some x) (Rl:J6 E st a w.heap) (T:Then E w k x K):Gp C.P o a w K:=by
 obtain ⟨r,h1,H⟩:=A9 H;obtain ⟨j,h2,H⟩:=A9 H
 split at H
 ·rename_i hu
  obtain ⟨hc,H⟩:=F4 H;obtain ⟨d,hd,H⟩:=A9 H;simp only [z8q] at hc;have e1:=(Rl.src h1).data hc.1;have e2:=(Rl.src h2).data hc.2;obtain ⟨s,kd,n,b,hr,hj,h0,hb,Qh⟩:=A8r hd;rw [hr,XM] at e1;rw [hj,BP] at e2;rw [Qh] at H;refine X9 (v := .int .u8 b.toNat) ?_ H Rl (by rw [BP]) @T
  simp only [execOp,D9];refine Ab ?_;have hs:s[n.toNat]?=some b:=by
   have M4:n.toNat<s.data.size:=(z7q.1 hb).1;have hv:s.data[n.toNat]=b:=(z7q.1 hb).2;rw [getElem?_pos s n.toNat M4];exact congrArg some hv
  unfold Instr.index;simp only [e1,e2,asIntOf,Sem.run_bind,Sem.run_pure,Result.andThen_ok,run_underlying hu,h0,if_true,hs]
 ·simp at H
variable {P:Program} {off:Nat}
theorem B6q {z:Nat × Bool} (hz:tz P t=some z) {cs:Array Value} (h:off+z.1<=cs.size) (w:World) :
 ∃ v,(part t cs off).run P w = .ok v w/\(z.2=true->v = .agg (cs.extract off (off+z.1)))/\(z.2=false->cs[off]?=some v):=by
 unfold part;simp only [Sem.run_bind,B0e hz,Result.andThen_ok,Sem.run_ite]
 by_cases h2:z.2=true
 ·rw [if_pos h2]
  refine ⟨_,by simp only [LA hz,Result.andThen_ok,Sem.run_pure],fun _=>rfl,fun h3 => ?_⟩
  rw [h2] at h3;cases h3
 ·rw [if_neg h2]
  have E_:z.1=1:=by
   obtain ⟨i,d,-,-,-,h4⟩:=GV hz;exact h4 (by simpa using h2)
  have M4:off<cs.size:=by omega
  have hg:cs[off]?=some cs[off]:=zrq M4;exact ⟨cs[off],by simp [hg],fun h3=>absurd h3 h2,fun _=>hg⟩
variable {S:X6} {h:Heap} {vs:List Value}
theorem fe {d:DV} (H:RC S h d vs) {n:Nat} (hn:off+n<=vs.length):Gq S h (cells n off d) ((vs.drop off).take n):=by
 refine Eo.2 ⟨by simp only [cells,zPq,List.length_range,zfq,zhq];omega,fun i d' v hd hv => ?_⟩
 have hi:i<n:=by have:=(z0q.1 hd).1;simpa [cells] using this
 simp only [cells,zbq,zEq hi,znq,Option.some.injEq] at hd;subst hd;rw [z4q hi,zaq] at hv;exact MZ H hv
variable {v:Value}
theorem fo {n:Nat} {d:DV} (hg:C9 n d=true) (H:RV S h d v):∃ vs,v = .agg vs/\vs.size=n/\RC S h d vs.toList:=by
 cases d <;> simp only [C9] at hg <;> try contradiction
 rename_i cs;simp only [RV] at H;obtain ⟨vs,rfl,H⟩:=H;refine ⟨vs,rfl, ?_,by simp only [RC];exact H⟩
 have:=(Eo.1 H).1;simp only [beq_iff_eq] at hg;simp at this;omega
theorem B4Q {f:Nat} (D9:o.op = .field t y f) (H:(ob (src C.P t st y) fun r=>ob (lT C.P t f) fun fd=>ob (tz C.P fd.type) fun z=>ob (tz C.P t) fun zt =>
   og (J5 r.2 && C9 zt.1 r.1)
    (if fd.offset+z.1<=zt.1 then
      if z.2 then k (st.put o.dst (.agg (cells z.1 fd.offset r.1)) .val) else k (st.put o.dst (A7 fd.offset r.1) .val)
    else none))=some x) (Rl:J6 E st a w.heap) (T:Then E w k x K):Gp C.P o a w K:=by
 obtain ⟨r,h1,H⟩:=A9 H;obtain ⟨fd,h2,H⟩:=A9 H;obtain ⟨z,h3,H⟩:=A9 H;obtain ⟨zt,h4,H⟩:=A9 H;obtain ⟨hc,H⟩:=F4 H;obtain ⟨J3,H⟩:=L6 H;simp only [z8q] at hc;obtain ⟨vs,hv,Aa,hR⟩:=fo hc.2 ((Rl.src h1).data hc.1);have hu:∃ fs,C.P.underlying t=some (.struct fs)/\fs[f]?=some fd:=by
  unfold lT at h2
  split at h2
  ·exact ⟨_,‹_›,h2⟩
  ·simp at h2
 obtain ⟨fs,hu,hf⟩:=hu;obtain ⟨v,p1,p2,p3⟩:=B6q h3 (cs:=vs) (off:=fd.offset) (by omega) w
 have O8:(execOp a.eval o).run C.P w = .ok (.value v) w:=by
  simp only [execOp,D9];refine Ab ?_;unfold Instr.field;simp only [Sem.run_bind,run_underlying hu,Result.andThen_ok,hf,hv,asAgg,Sem.run_pure,p1]
 by_cases hz:z.2=true
 ·rw [if_pos hz] at H
  refine X9 O8 H Rl ?_ @T;rw [p2 hz];simp only [RV];refine ⟨_,rfl, ?_⟩;have:=fe hR (off:=fd.offset) (n:=z.1) (by simpa using by omega)
  simpa [Array.toList_extract,List.extract_eq_take_drop] using this
 ·rw [if_neg hz] at H
  have hl:=p3 (by simpa using hz)
  obtain ⟨q1,q2⟩:=MZ hR (j:=fd.offset) (v:=v) (by simpa using hl)
  exact X9 O8 H Rl (LZ q1 q2) @T
theorem B8P {c:Call} {z:Operand} {u:TypeId} (D9:o.op = .call c) (hc:c.callee = .builtin .max) (ha:c.args.toList=[y,z]) (H:(ob (src C.P t st y) fun r=>ob (src C.P u st z) fun s=>og (J5 r.2 && J5 s.2) (ob (jG r.1 s.1) fun d=>k (st.put o.dst d .val)))=some x) (Rl:J6 E st a w.heap) (T:Then E w k x K):Gp C.P o a w K:=by
 obtain ⟨r,h1,H⟩:=A9 H;obtain ⟨s,h2,H⟩:=A9 H;obtain ⟨NU,H⟩:=F4 H;obtain ⟨d,hd,H⟩:=A9 H;simp only [z8q] at NU;obtain ⟨kd,p,q,hr,hs,Qh⟩:=B3V hd;have e1:=(Rl.src h1).data NU.1;have e2:=(Rl.src h2).data NU.2;rw [hr,BP] at e1;rw [hs,BP] at e2;rw [Qh] at H;refine X9 (v := .int kd (if q>p then q else p)) ?_ H Rl (by rw [BP]) @T
 refine Ea D9 hc ?_;rw [show c.args.map a.eval = #[a.eval y,a.eval z] from by rw [Sg ha];simp]
 refine Ab ?_;rw [e1,e2];simp [Builtin.max_,Builtin.max2]
theorem B8Q {c:Call} {z:Operand} {u:TypeId} (D9:o.op = .call c) (hc:c.callee = .builtin .min) (ha:c.args.toList=[y,z]) (H:(ob (src C.P t st y) fun r=>ob (src C.P u st z) fun s=>og (J5 r.2 && J5 s.2) (ob (jH r.1 s.1) fun d=>k (st.put o.dst d .val)))=some x) (Rl:J6 E st a w.heap) (T:Then E w k x K):Gp C.P o a w K:=by
 obtain ⟨r,h1,H⟩:=A9 H;obtain ⟨s,h2,H⟩:=A9 H;obtain ⟨NU,H⟩:=F4 H;obtain ⟨d,hd,H⟩:=A9 H;simp only [z8q] at NU;obtain ⟨kd,p,q,hr,hs,Qh⟩:=B3W hd;have e1:=(Rl.src h1).data NU.1;have e2:=(Rl.src h2).data NU.2;rw [hr,BP] at e1;rw [hs,BP] at e2;rw [Qh] at H;refine X9 (v := .int kd (if q<p then q else p)) ?_ H Rl (by rw [BP]) @T
 refine Ea D9 hc ?_;rw [show c.args.map a.eval = #[a.eval y,a.eval z] from by rw [Sg ha];simp]
 refine Ab ?_;rw [e1,e2];simp [Builtin.min_,Builtin.min2]
theorem B7O {sz:Nat} {d e:DV} (H:A2U sz d=some e) (R:RV S h d v):∃ b o,v = .pointer (some ⟨b,o,none⟩)/\Elem S h sz b o e:=by
 unfold A2U at H
 split at H
 ·rename_i sz' d'
  split at H
  ·rename_i hs
   simp only [Option.some.injEq] at H;subst H hs;simp only [RV,RC] at R;obtain ⟨b,o,hv,us,h1,h2,h3⟩:=R;simp only [List.cons.injEq,and_true] at hv;exact ⟨b,o,hv,us,h1,h2,h3⟩
  ·cases H
 ·cases H
theorem A9G {fl:Flags} (D9:o.op = .nilCheck y) (H:(ob (src C.P 0 st y) fun r=>match r.2 with
   | .loc s o'=>k (st.put o.dst .undef (.loc s o'))
   | .OX ag sz o'=>k (st.put o.dst r.1 (.OX ag sz o'))
   | .ptr i o'=>k (st.put o.dst .undef (.ptr i o'))
   | .Yr i sz j o'=>k (st.put o.dst .undef (.Yr i sz j o'))
   | .opt i sz j=>k (st.put o.dst .undef (.opt i sz j))
   | .fn f cs=>k (st.put o.dst .undef (.fn f cs))
   | .val=>ob (o.dst.bind fun t=>fl.refs.find? (·.1 == t)) fun q=>ob (A2U q.2 r.1) fun d=>k (st.put o.dst d (.OX true q.2 0))
   | _=>none)=some x) (Rl:J6 E st a w.heap) (T:Then E w k x K):Gp C.P o a w K:=by
 obtain ⟨r,h1,H⟩:=A9 H;have e1:=Rl.src h1;have hp:∀ b,a.eval y = .pointer (some b)->(execOp a.eval o).run C.P w = .ok (.value (.pointer (some b))) w:=by
  intro b hb;simp only [execOp,D9,hb,Sem.run_pure]
 have hf:∀ f c d,a.eval y = .func (.func f) c d->(execOp a.eval o).run C.P w = .ok (.value (.func (.func f) c d)) w:=by
  intro f c d hb;simp only [execOp,D9,hb,Sem.run_pure]
 revert e1 H
 cases hm:r.2 <;> intro H e1 <;> simp only [reduceCtorEq] at H <;> simp only [RR,J8] at e1
 case val =>
  obtain ⟨q,-,H⟩:=A9 H;obtain ⟨d,hd,H⟩:=A9 H;obtain ⟨b,o0,r1,r2⟩:=B7O hd e1;exact T9 (hp _ r1) H Rl (fun _ _=>⟨b,o0,rfl,r2,fun h=>by cases h⟩) @T
 case loc s off=>exact T9 (hp _ e1.2) H Rl (fun _ _=>⟨rfl,rfl⟩) @T
 case OX ag sz off =>
  obtain ⟨b,o0,r1,r2,r3⟩:=e1;exact T9 (hp _ r1) H Rl (fun _ _=>⟨b,o0,rfl,r2,r3⟩) @T
 case ptr i off=>exact T9 (hp _ e1.2) H Rl (fun _ _=>⟨e1.1,rfl⟩) @T
 case Yr i sz idx off=>exact T9 (hp _ e1.2) H Rl (fun _ _=>⟨e1.1,rfl⟩) @T
 case opt i sz idx=>exact T9 (hp _ e1.2) H Rl (fun _ _=>⟨e1.1,rfl⟩) @T
 case fn f cs=>exact T9 (hf _ _ _ e1.1) H Rl (fun _ _=>⟨rfl,e1.2⟩) @T
theorem Fu {z:Nat × Bool} (hz:tz P t=some z) {b:Nat} (hl:vs.length=z.1) (hc:∀ (j:Nat) v,vs[j]?=some v->hc w.heap b (off+j)=some v) :
 ∃ v,(loadVar t ⟨b,off,none⟩).run P w = .ok v w/\(z.2=true->v = .agg vs.toArray)/\(z.2=false->vs=[v]):=by
 unfold loadVar;simp only [Sem.run_bind,B0e hz,Result.andThen_ok,Sem.run_ite]
 by_cases h2:z.2=true
 ·rw [if_pos h2]
  have h3:(loadCells ⟨b,off,none⟩ z.1).run P w = .ok vs.toArray w:=by
   rw [<- hl];refine run_loadCells_list w _ vs fun j v hv => ?_
   rw [Addr.add_lit,Sl];exact hc j v hv
  refine ⟨_,by simp only [LA hz,h3,Result.andThen_ok,Sem.run_pure],fun _=>rfl,fun h4 => ?_⟩
  rw [h2] at h4;cases h4
 ·rw [if_neg h2]
  have E_:z.1=1:=by
   obtain ⟨i,d,-,-,-,h4⟩:=GV hz;exact h4 (by simpa using h2)
  match vs,hl.trans E_ with
  | [v],_ =>
    have h5:=hc 0 v rfl;refine ⟨v, ?_,fun h3=>absurd h3 h2,fun _=>rfl⟩
    rw [run_load,Sl];simp only [ziq] at h5;rw [h5]
theorem Pd (D9:o.op = .load t y) {b:Nat} (he:a.eval y = .pointer (some ⟨b,off,none⟩)) (h:(loadVar t ⟨b,off,none⟩).run P w = .ok v w) :
 (execOp a.eval o).run P w = .ok (.value v) w:=by
 simp only [execOp,D9];refine Ab ?_;simp only [Instr.loadAt,he,Instr.sureAddr,Sem.run_bind,Sem.run_pure,Result.andThen_ok,h]
end
end Go.Su

/-
 THE DATA MACHINE, part 11: memory read.
-/
namespace Go.Su
variable {E:Env} {h:Heap} {tg:Tag} {cs:List (DV × Meta)} {off:Nat}
theorem wI {k a b:Nat} (B:ak E h tg k a b cs) {n:Nat} (hn:off+n<=cs.length) :
 ∃ vs:List Value,vs.length=n/\(∀ (j:Nat) v,vs[j]?=some v->hc h b (off+j)=some v) /\
   ∀ (j:Nat) v r,vs[j]?=some v->cs[off+j]?=some r->K6 r.1=true/\v.oneCell'=true/\X0 r.2=true/\J8 E h (.sp k a (off+j)) r.1 r.2 v:=by
 obtain ⟨c,T,h1,h2,h3,h4⟩:=B;have e:∀ (j:Nat) v,((c.toList.drop off).take n)[j]?=some v->c[off+j]?=some v:=by
  intro j v hv;have hj:j<n:=by have:=(z0q.1 hv).1;simp only [zfq,zhq] at this;omega
  rw [z4q hj,zaq] at hv;simpa using hv
 refine ⟨(c.toList.drop off).take n,by simp only [zfq,zhq,Array.length_toList];omega,fun j v hv => ?_,fun j v r hv hr=>h4 (off+j) r v hr (e j v hv)⟩
 unfold hc;rw [h1];exact e j v hv
variable {m:Meta}
theorem BS (h:X0 m=true):dm m=XW m/\X0 (dm m)=true/\dm m ≠ .own:=by
 cases m <;> simp_all [X0,dm,XW]
variable {d:DV} {v:Value}
theorem J8.BS {tg':Tag} (hm:X0 m=true) (R:J8 E h tg d m v):J8 E h tg' d (dm m) v:=by
 rw [(Su.BS hm).1];exact R.XW
theorem J8.oZ {tg':Tag} (R:J8 E h tg d .full v):J8 E h tg' d .own v:=by
 simp only [J8] at R ⊢;obtain ⟨r1,⟨p,n,rfl⟩,sz,ds,r2⟩:=R;refine ⟨r1,sz,ds,r2,fun x len cap hv M4 => ?_⟩
 simp only [Value.slice.injEq] at hv;omega
section
variable {X:Type} {C:X4} {R:O4} {o:Oper} {st:St} {k:St->Option X} {x:X} {E:Env} {a:Act} {w:World} {K:Act->World->Prop} {Q:Exit->Act->World->Prop}
theorem A2P {vs:List Value} (hl:vs.length=cs.length) (H:∀ (j:Nat) v r,vs[j]?=some v->cs[j]?=some r->K6 r.1=true/\v.oneCell'=true/\X0 r.2=true/\∃ tg,J8 E w.heap tg r.1 r.2 v) (p q:Nat) :
 RR E w.heap p q (fw cs).1 (fw cs).2 (.agg vs.toArray):=by
 simp only [fw,RR];refine ⟨_,_,rfl,rfl,by simp,by simp [hl],fun i m d v h1 h2 h3 => ?_⟩
 simp only [zbq,z9q] at h1 h2;obtain ⟨r,hr,rfl⟩:=h1;obtain ⟨r',Aw,rfl⟩:=h2;rw [hr] at Aw;simp only [Option.some.injEq] at Aw;subst Aw;obtain ⟨a1,a2,a3,tg,a4⟩:=H i v r (by simpa using h3) hr
 exact ⟨a1,a2,(Su.BS a3).2.1,a4.BS a3⟩
theorem B0A {r:DV × Meta} (h1:K6 r.1=true) (h2:v.oneCell'=true) (h3:X0 r.2=true) (h4:J8 E w.heap tg r.1 r.2 v) :
 K6 (WF r).1=true/\v.oneCell'=true/\X0 (WF r).2=true/\∃ tg,J8 E w.heap tg (WF r).1 (WF r).2 v:=by
 unfold WF
 split
 ·exact ⟨rfl,h2,rfl,tg,by simp only [J8,RV]⟩
 ·exact ⟨h1,h2,h3,tg,h4⟩
theorem bB (h:X5 cs off=some d):∃ m,cs[off]?=some (d,m)/\(m = .val\/m = .full\/m = .own\/m = .Di):=by
 unfold X5 at h
 split at h <;> simp only [Option.some.injEq,reduceCtorEq] at h <;> subst h
 ·exact ⟨_,‹_›, .inl rfl⟩
 ·exact ⟨_,‹_›, .inr (.inl rfl)⟩
 ·exact ⟨_,‹_›, .inr (.inr (.inl rfl))⟩
 ·exact ⟨_,‹_›, .inr (.inr (.inr rfl))⟩
theorem kH {E:Env} (hm:m = .val\/m = .full\/m = .own\/m = .Di) (R:J8 E h tg d m v):RV E.S h d v:=by
 rcases hm with rfl | rfl | rfl | rfl
 ·exact R
 ·exact R.1
 ·exact R.1
 ·obtain ⟨rfl,rfl⟩:=(R:_/\_)
  simp only [RV]
theorem A2E:∀ {n off:Nat} {cs:List (DV × Meta)} {ds:List DV},CV off n cs=some ds->ds.length=n/\∀ (i:Nat) d,ds[i]?=some d->X5 cs (off+i)=some d
 | 0,off,cs,ds,h=>by simp only [CV,Option.some.injEq] at h;subst h;simp
 | n+1,off,cs,ds,h=>by
   simp only [CV] at h;obtain ⟨d,hd,h⟩:=A9 h;obtain ⟨ds',iC,h⟩:=A9 h;simp only [Option.some.injEq] at h;subst h;obtain ⟨l1,l2⟩:=A2E iC;refine ⟨by simp [l1],fun i d' hi => ?_⟩
   cases i with
   | zero=>simp only [z2q,Option.some.injEq] at hi;subst hi;simpa using hd
   | succ i=>simp only [zeq] at hi;have:=l2 i d' hi;rwa [zlq,zGq 1 i] at this
variable {sg:List D8} {i:Nat}
theorem pW (h:M5 sg i=some cs):sg[i]?=some (.box cs):=by
 unfold M5 at h
 split at h
 ·simp only [Option.some.injEq] at h;subst h;assumption
 ·simp at h
theorem Zw {p:Nat × List DV} (h:BN sg i=some p):sg[i]?=some (.arr p.1 p.2):=by
 unfold BN at h
 split at h
 ·simp only [Option.some.injEq] at h;subst h;assumption
 ·simp at h
theorem pX {sz:Nat} {pre ds:List DV} (h:GU sg i=some (sz,pre,ds)):sg[i]?=some (.opn sz pre ds):=by
 unfold GU at h
 split at h
 ·rename_i heq
  simp only [Option.some.injEq,Prod.mk.injEq] at h;obtain ⟨rfl,rfl,rfl⟩:=h;exact heq
 ·simp at h
theorem Zx {n:Nat} {p:Nat × List DV} (h:Dt sg i n=some p):sg[i]?=some (.U1 n p.1 p.2):=by
 unfold Dt at h
 split at h
 ·split at h
  ·rename_i heq hn
   simp only [Option.some.injEq] at h;subst h hn;exact heq
  ·cases h
 ·simp at h
theorem A5i {p:Bool × List (DV × DV)} (h:Av sg i=some p):sg[i]?=some (.map p.1 p.2):=by
 unfold Av at h
 split at h
 ·simp only [Option.some.injEq] at h;subst h;assumption
 ·simp at h
theorem CO (Rl:J6 E st a w.heap) {ob:D8} (h:st.sg[i]?=some ob):i<E.n:=by
 rw [<- Rl.n];exact (z0q.1 h).1
theorem OV {α : Type} {l cs:List α} {o:Nat} (h:o+cs.length<=l.length) (j:Nat):(putAt l o cs)[j]?=if o<=j/\j<o+cs.length then cs[j-o]? else l[j]?:=by
 unfold putAt
 by_cases h1:j<o
 ·rw [if_neg (by omega),zIq,zgq (by simp;omega),z4q h1]
 ·by_cases h2:j<o+cs.length
  ·rw [if_pos (by omega),zIq,zdq (by simp;omega),zgq (by simp;omega)]
   congr 1
   simp;omega
  ·rw [if_neg (by omega),zdq (by simp;omega),zaq]
   congr 1
   simp;omega
theorem Kl {α : Type} {l cs:List α} {o:Nat} (h:o+cs.length<=l.length):(putAt l o cs).length=l.length:=by
 unfold putAt;simp;omega
theorem J6.B1T (Rl:J6 E st a w.heap) {s n:Nat} (hb:st.bx.getD s none=some cs) (hn:off+n<=cs.length) {f:Tag->Tag} (hf:∀ T,(∀ j,off<=j->j<off+n->T ≠ .sp 1 s j)->f T=T):J6 (E.re f) { st with bx:=st.bx.set s (some (putAt cs off (((cs.drop off).take n).map fun c:DV × Meta=>(c.1,dm c.2)))) } a w.heap:=by
 have Fs:f .shut = .shut:=hf _ (by simp)
 have OH:f .other = .other:=hf _ (by simp)
 have P:Pr (fun T=>∃ j,off<=j/\j<off+n/\T = .sp 1 s j) E w.heap (E.re f) w.heap:=Pr.re fun T hT=>hf T fun j h1 h2 h3=>hT ⟨j,h1,h2,h3⟩
 have J3:Y0 E.S w.heap (E.re f).S w.heap:=KE Fs;have hl:(((cs.drop off).take n).map fun c:DV × Meta=>(c.1,dm c.2)).length=n:=by simp;omega
 refine ⟨Rl.size,Rl.AP,by simp [Rl.Bi],Rl.n,fun u v hu => ?_,fun s' cs' hs => ?_,fun i ob hi => ?_,fun b o hb => ?_⟩
 ·exact (Rl.regs u v hu).re Fs OH fun b=>hf _ (by simp)
 ·have A2Y:s<st.bx.length:=by
   rcases zyq s st.bx.length with h1 | h1
   ·exact h1
   ·simp [z1q,zmq h1] at hb
  by_cases Xg:s=s'
  ·subst Xg
   simp only [z1q,z6q A2Y,zzq,Option.some.injEq] at hs;subst hs;obtain ⟨cv,T,h1,h2,h3,h4⟩:=Rl.boxes s cs hb;refine ⟨cv,T,h1,by rw [Kl (by omega)];exact h2,fun o => ?_,fun j r v hr hv => ?_⟩
   ·rcases h3 o with h5 | h5
    ·left;simp only [Env.re];rw [h5];exact hf _ (by simp)
    ·exact .inr h5
   ·rw [OV (by omega),hl] at hr
    by_cases hj:off<=j/\j<off+n
    ·rw [if_pos hj,zbq,z4q (by omega),zaq,z9q] at hr
     obtain ⟨c,NU,rfl⟩:=hr;rw [show off+(j-off)=j by omega] at NU
     obtain ⟨a1,a2,a3,a4⟩:=h4 j c v NU hv;have a5:J8 E w.heap .other c.1 (dm c.2) v:=a4.BS a3;exact ⟨a1,a2,(Su.BS a3).2.1,(a5.re Fs OH:J8 (E.re f) w.heap .other c.1 (dm c.2) v).tag (Su.BS a3).2.2⟩
    ·rw [if_neg hj] at hr
     obtain ⟨a1,a2,a3,a4⟩:=h4 j r v hr hv;exact ⟨a1,a2,a3,a4.re Fs (hf _ fun j' q1 q2 he=>by simp only [Tag.sp.injEq,true_and] at he;exact hj (by omega))⟩
  ·simp only [z1q,zcq Xg] at hs
   have:=Rl.boxes s' cs' (by simpa [z1q] using hs)
   exact this.mono P J3 (by simp) (by rintro j ⟨j',-,-,h⟩;simp only [Tag.sp.injEq,true_and] at h;exact Xg h.1.symm)
 ·exact (Rl.Q0 i ob hi).mono P J3 (by rw [<- Rl.n];exact (z0q.1 hi).1) (by simp) (by simp)
 ·simp only [Env.re];rw [Rl.fresh b o hb,OH]
theorem J6.B3D (Rl:J6 E st a w.heap) {s:Nat} {c:DV × Meta} (hb:st.bx.getD s none=some cs) (NU:cs[off]?=some c) {f:Tag->Tag} (hf:∀ T,T ≠ .sp 1 s off->f T=T):J6 (E.re f) { st with bx:=st.bx.set s (some (cs.set off (c.1,dm c.2))) } a w.heap:=by
 have Fs:f .shut = .shut:=hf _ (by simp)
 have OH:f .other = .other:=hf _ (by simp)
 have P:Pr (fun T=>T = .sp 1 s off) E w.heap (E.re f) w.heap:=Pr.re fun T hT=>hf T hT
 have J3:Y0 E.S w.heap (E.re f).S w.heap:=KE Fs;refine ⟨Rl.size,Rl.AP,by simp [Rl.Bi],Rl.n,fun u v hu => ?_,fun s' cs' hs => ?_,fun i ob hi => ?_,fun b o hb => ?_⟩
 ·exact (Rl.regs u v hu).re Fs OH fun b=>hf _ (by simp)
 ·have A2Y:s<st.bx.length:=by
   rcases zyq s st.bx.length with h1 | h1
   ·exact h1
   ·simp [z1q,zmq h1] at hb
  by_cases Xg:s=s'
  ·subst Xg
   simp only [z1q,z6q A2Y,zzq,Option.some.injEq] at hs;subst hs;obtain ⟨cv,T,h1,h2,h3,h4⟩:=Rl.boxes s cs hb;refine ⟨cv,T,h1,by simpa using h2,fun o => ?_,fun j r v hr hv => ?_⟩
   ·rcases h3 o with h5 | h5
    ·left;simp only [Env.re];rw [h5];exact hf _ (by simp)
    ·exact .inr h5
   ·by_cases hj:off=j
    ·subst hj
     have M4:=(z0q.1 NU).1;rw [z6q M4] at hr;simp only [Option.some.injEq] at hr;subst hr;obtain ⟨a1,a2,a3,a4⟩:=h4 off c v NU hv;have a5:J8 E w.heap .other c.1 (dm c.2) v:=a4.BS a3;exact ⟨a1,a2,(Su.BS a3).2.1,(a5.re Fs OH:J8 (E.re f) w.heap .other c.1 (dm c.2) v).tag (Su.BS a3).2.2⟩
    ·rw [zcq hj] at hr
     obtain ⟨a1,a2,a3,a4⟩:=h4 j r v hr hv;exact ⟨a1,a2,a3,a4.re Fs (hf _ (by simp;exact fun h=>hj h.symm))⟩
  ·simp only [z1q,zcq Xg] at hs
   have:=Rl.boxes s' cs' (by simpa [z1q] using hs)
   exact this.mono P J3 (by simp) (by simp;intro h;exact absurd h.symm Xg)
 ·exact (Rl.Q0 i ob hi).mono P J3 (by rw [<- Rl.n];exact (z0q.1 hi).1) (by simp) (by simp)
 ·simp only [Env.re];rw [Rl.fresh b o hb,OH]
theorem J6.B0M (Rl:J6 E st a w.heap) (hb:st.sg[i]?=some (.box cs)) (NU:cs[off]?=some (d,m)) (hm:m = .full\/m = .own) {f:Tag->Tag} (hf:∀ T,T ≠ .sp 2 i off->f T=T):J6 (E.re f) { st with sg:=st.sg.set i (.box (cs.set off (d, .val))) } a w.heap:=by
 have Fs:f .shut = .shut:=hf _ (by simp)
 have OH:f .other = .other:=hf _ (by simp)
 have P:Pr (fun T=>T = .sp 2 i off) E w.heap (E.re f) w.heap:=Pr.re fun T hT=>hf T hT
 have J3:Y0 E.S w.heap (E.re f).S w.heap:=KE Fs;have IZ:=(z0q.1 hb).1;refine ⟨Rl.size,Rl.AP,Rl.Bi,by simpa [Env.re] using Rl.n,fun u v hu => ?_,fun s' cs' hs => ?_,fun i' ob hi => ?_,fun b o hb => ?_⟩
 ·exact (Rl.regs u v hu).re Fs OH fun b=>hf _ (by simp)
 ·exact (Rl.boxes s' cs' hs).mono P J3 (by simp) (by simp)
 ·by_cases Cq:i=i'
  ·subst Cq
   simp only [z6q IZ,Option.some.injEq] at hi;subst hi;obtain ⟨cv,T,h1,h2,h3,h4⟩:=Rl.Q0 i _ hb;refine ⟨cv,T,h1,by simpa using h2,fun o => ?_,fun j r v hr hv => ?_⟩
   ·rcases h3 o with h5 | h5
    ·left;simp only [Env.re];rw [h5];exact hf _ (by simp)
    ·exact .inr h5
   ·by_cases hj:off=j
    ·subst hj
     have M4:=(z0q.1 NU).1;rw [z6q M4] at hr;simp only [Option.some.injEq] at hr;subst hr;obtain ⟨a1,a2,a3,a4⟩:=h4 off _ v NU hv;have a5:RV E.S w.heap d v:=kH (by rcases hm with h | h <;> simp [h]) a4
     exact ⟨a1,a2,rfl,a5.mono J3⟩
    ·rw [zcq hj] at hr
     obtain ⟨a1,a2,a3,a4⟩:=h4 j r v hr hv;exact ⟨a1,a2,a3,a4.re Fs (hf _ (by simp;exact fun h=>hj h.symm))⟩
  ·simp only [zcq Cq] at hi
   exact (Rl.Q0 i' ob hi).mono P J3 (CO Rl hi) (by simp) (by simp;intro h;exact absurd h.symm Cq)
 ·simp only [Env.re];rw [Rl.fresh b o hb,OH]
def Env.MP (E:Env):Env :=
 { E with base:=fun i=>if i=E.n then 0 else E.base i,top:=fun i=>if i=E.n then 0 else E.top i,Al:=fun i=>if i=E.n then 1 else E.Al i,n:=E.n+1 }
theorem J6.MP (Rl:J6 E st a w.heap) {sz:Nat} (hb:st.sg[i]?=some (.box cs)) (NU:cs[off]?=some (.list sz [], .full)) (hv:J8 E w.heap (.sp 2 i off) (.list sz []) .full v) (hpos:0<sz) :
 J6 E.MP { st with sg:=st.sg.set i (.box (cs.set off (.undef, .U1 st.sg.length 1 sz 0)))++[.U1 1 sz []] } a w.heap/\Pr (fun _=>False) E w.heap E.MP w.heap/\∀ tg,J8 E.MP w.heap tg .undef (.U1 st.sg.length 1 sz 0) v:=by
 have hn:=Rl.n;have vE:E.MP.Al E.n=1:=if_pos rfl;have P1:Pr (fun _=>False) E w.heap E.MP w.heap:=by
  refine ⟨z5q _,fun _ _=>U6.refl _ _,fun _ _ _ _=>rfl,Nat.le_succ _,fun j hj _ => ?_,fun _ _=>rfl,fun j hj => ?_⟩
  ·have Bg:j≠E.n:=Nat.ne_of_lt hj
   refine ⟨rfl, ?_, ?_⟩ <;> (show (if _ then _ else _)=_;rw [if_neg Bg])
  ·have:E.MP.Al j=E.Al j:=if_neg (Nat.ne_of_lt hj)
   rw [this];exact ⟨id,z5q _,fun _=>rfl⟩
 have J3:=P1.shut (by simp) Rl.fresh
 have key:∀ tg,J8 E.MP w.heap tg .undef (.U1 st.sg.length 1 sz 0) v:=by
  intro tg;simp only [J8] at hv ⊢;obtain ⟨g1,⟨x,m,rfl⟩,-⟩:=hv;obtain ⟨b0,len0,cap0,iF,q1,-,q3,-⟩:=Mc g1;simp only [Value.slice.injEq] at iF;obtain ⟨rfl,rfl,rfl⟩:=iF;have hm0:m=0:=by simpa using q1
  subst hm0;exact ⟨by rw [hn];exact zBq _,by omega,by rw [hn,vE];exact z5q _,x,0,rfl,z5q _,q3,fun h=>by omega,fun _ h=>by omega⟩
 have IZ:=(z0q.1 hb).1;refine ⟨⟨Rl.size,Rl.AP,Rl.Bi,by simp [Env.MP,hn],fun u v hu=>(Rl.regs u v hu).mono P1 J3 (by simp) (by simp),fun s' cs' hs=>(Rl.boxes s' cs' hs).mono P1 J3 (by simp) (by simp),fun i' ob hi => ?_,Rl.fresh⟩,P1,key⟩
 by_cases M4:i'<st.sg.length
 ·rw [zgq (by simpa using M4)] at hi
  by_cases Cq:i=i'
  ·subst Cq
   simp only [z6q IZ,Option.some.injEq] at hi;subst hi;obtain ⟨cv,T,h1,h2,h3,h4⟩:=(Rl.Q0 i _ hb:RO E w.heap i (.box cs)).mono P1 J3 (CO Rl hb) (by simp) (by simp)
   refine ⟨cv,T,h1,by simpa using h2,h3,fun j r v' hr MO => ?_⟩
   by_cases hj:off=j
   ·subst hj
    have C2W:=(z0q.1 NU).1;rw [z6q C2W] at hr;simp only [Option.some.injEq] at hr;subst hr;obtain ⟨cv0,T0,g1,g2,g3,g4⟩:=Rl.Q0 i _ hb;have C20:E.MP.obj i=E.obj i:=rfl;rw [C20,g1] at h1;simp only [Option.some.injEq,Obj.cells.injEq] at h1;obtain ⟨rfl,-⟩:=h1;obtain ⟨a1,a2,a3,a4⟩:=g4 off _ v' NU MO;refine ⟨rfl,a2,rfl, ?_⟩;simp only [J8] at a4 ⊢;obtain ⟨k1,⟨x,m,rfl⟩,-⟩:=a4;obtain ⟨b0,len0,cap0,iF,q1,-,q3,-⟩:=Mc k1;simp only [Value.slice.injEq] at iF;obtain ⟨rfl,rfl,rfl⟩:=iF;have hm0:m=0:=by simpa using q1
    subst hm0;exact ⟨by rw [hn];exact zBq _,by omega,by rw [hn,vE];exact z5q _,x,0,rfl,z5q _,q3,fun h=>by omega,fun _ h=>by omega⟩
   ·rw [zcq hj] at hr
    exact h4 j r v' hr MO
  ·rw [zcq Cq] at hi
   exact (Rl.Q0 i' ob hi).mono P1 J3 (CO Rl hi) (by simp) (by simp)
 ·have Kc:i'=st.sg.length:=by
   have:=(z0q.1 hi).1;simp at this;omega
  subst Kc;rw [zdq (by simp)] at hi
  simp only [zQq,zvq,z2q,Option.some.injEq] at hi;subst hi;simp only [RO];rw [hn];refine ⟨vE,by omega,hpos, .inl ⟨trivial, ?_⟩⟩
  show (if _ then _ else _)=(if _ then _ else _)
  rw [if_pos rfl,if_pos rfl]
def PN (T0:Tag) (t:Nat) (T:Tag):Tag:=if T=T0 then .sp 0 t 0 else T
def oh (s off n t:Nat) (T:Tag):Tag :=
 match T with
 | .sp 1 s' j=>if s'=s/\off<=j/\j<off+n then .sp 0 t (j-off+1) else .sp 1 s' j
 | T=>T
theorem jW {s n t:Nat} {T:Tag} (h:∀ j,off<=j->j<off+n->T ≠ .sp 1 s j):oh s off n t T=T:=by
 unfold oh
 split
 ·split
  ·rename_i hx;obtain ⟨rfl,h1,h2⟩:=hx;exact absurd rfl (h _ h1 h2)
  ·rfl
 ·rfl
theorem HY {T0:Tag} {t:Nat} {T:Tag} (h:T≠T0):PN T0 t T=T:=by simp [PN,h]
theorem B6G {fl:Flags} {t:TypeId} {y:Operand} (D9:o.op = .load t y) (H:CR C fl o t y st k=some x) (Rl:J6 E st a w.heap) (T:Then E w k x K):Gp C.P o a w K:=by
 unfold CR at H;obtain ⟨r,h1,H⟩:=A9 H;obtain ⟨z,hz,H⟩:=A9 H;have e1:=Rl.src h1;have E_:z.2=false->z.1=1:=by
  obtain ⟨i,d,-,-,-,h4⟩:=GV hz;exact h4
 split at H
 ·-- a private variable
  rename_i s off hm;rw [hm] at e1;simp only [RR,J8] at e1;obtain ⟨cs,hb,H⟩:=A9 H;obtain ⟨J3,H⟩:=L6 H;have B:=Rl.boxes s cs hb;obtain ⟨vs,l1,l2,l3⟩:=wI B J3;obtain ⟨v,g1,g2,g3⟩:=Fu (w:=w) hz l1 l2;have O8:=Pd D9 e1.2 g1
  by_cases h2:z.2=true
  ·rw [if_pos h2] at H
   simp only at H
   by_cases R6:J4 fl.M7 o.dst=true
   ·rw [if_pos R6] at H
    cases hd:o.dst with
    | none =>
      rw [hd] at R6;simp [J4] at R6
    | some t0 =>
      rw [hd] at H;refine AR O8 ?_;rw [hd];refine T (E.re (oh s off z.1 t0)) _ _ w H ((Rl.B1T hb J3 fun T hT=>jW hT).put fun t1 ht => ?_) (Pr.re fun T hT=>jW fun j _ _ he=>hT (by rw [he];simp [L8]))
      simp only [Option.some.injEq] at ht;subst ht;rw [g2 h2];simp only [RR];refine ⟨_,_,rfl,rfl,by simp,by simp;omega,fun i m d v e1 e2 e3 => ?_⟩
      simp only [zbq,z9q] at e1 e2;obtain ⟨r1,q1,rfl⟩:=e1;obtain ⟨r2,q2,rfl⟩:=e2;rw [q1] at q2;simp only [Option.some.injEq] at q2;subst q2;have hi:i<z.1:=by have:=(z0q.1 q1).1;simp only [zfq] at this;omega
      rw [z4q hi,zaq] at q1;obtain ⟨a1,a2,a3,a4⟩:=l3 i v r1 (by simpa using e3) q1
      exact ⟨a1,a2,a3,a4.re (jW (by simp)) (by simp [oh,hi])⟩
   rw [if_neg R6] at H;refine T9 O8 H Rl (fun t0 _ => ?_) @T
   rw [g2 h2];have C3X:((cs.drop off).take z.1).length=z.1:=by simp only [zfq,zhq];omega
   have B2n:∀ (j:Nat) v r,vs[j]?=some v->((cs.drop off).take z.1)[j]?=some r->K6 r.1=true/\v.oneCell'=true/\X0 r.2=true/\∃ tg,J8 E w.heap tg r.1 r.2 v:=by
    intro j v r hv hr;have hj:j<z.1:=by have:=(z0q.1 hr).1;omega
    rw [z4q hj,zaq] at hr;obtain ⟨a1,a2,a3,a4⟩:=l3 j v r hv hr;exact ⟨a1,a2,a3,_,a4⟩
   split
   ·refine A2P (by simp only [zPq];omega) (fun j v r hv hr => ?_) 0 t0
    simp only [zbq,z9q] at hr;obtain ⟨r0,zK,rfl⟩:=hr;obtain ⟨a1,a2,a3,tg,a4⟩:=B2n j v r0 hv zK;exact B0A a1 a2 a3 a4
   ·exact A2P (by omega) B2n 0 t0
  ·rw [if_neg h2] at H
   have hv:=g3 (by simpa using h2)
   subst hv;have M4:off<cs.length:=by have:=E_ (by simpa using h2);omega
   have Fq:cs[off]?=some (cs.getD off (.undef, .val)):=by simp [z1q,z3q M4]
   obtain ⟨a1,a2,a3,a4⟩:=l3 0 v _ rfl (by simpa using Fq)
   simp only [ziq] at a4
   split at H
   ·cases hd:o.dst with
    | none =>
      rename_i R6;rw [hd] at R6;simp [J4] at R6
    | some t0 =>
      rw [hd] at H;refine AR O8 ?_;rw [hd];refine T (E.re (PN (.sp 1 s off) t0)) _ _ w H ((Rl.B3D hb Fq fun T hT=>HY hT).put fun t1 ht => ?_) (Pr.re fun T hT=>HY fun he=>hT (by rw [he];simp [L8]))
      simp only [Option.some.injEq] at ht;subst ht;exact RR.Ad (a4.re (HY (by simp)) (by simp [PN]))
   ·exact T9 O8 H Rl (fun _ _=>RR.Ad (a4.BS a3)) @T
 ·-- an element
  rename_i ag sz off hm;rw [hm] at e1;simp only [RR,J8] at e1;obtain ⟨b,o0,r1,⟨us,u1,u2,u3⟩,r3⟩:=e1;obtain ⟨J3,H⟩:=L6 H;have l2:∀ (j:Nat) v,((us.drop off).take z.1)[j]?=some v->hc w.heap b (o0+off+j)=some v:=by
   intro j v hv;have hj:j<z.1:=by have:=(z0q.1 hv).1;simp only [zfq,zhq] at this;omega
   rw [z4q hj,zaq] at hv;rw [zlq];exact (u2 _ v hv).1
  obtain ⟨v,g1,g2,g3⟩:=Fu (w:=w) hz (vs:=(us.drop off).take z.1) (by simp only [zfq,zhq];omega) l2
  have O8:=Pd D9 r1 g1
  by_cases h2:z.2=true
  ·rw [if_pos h2] at H
   obtain ⟨hag,H⟩:=F4 H;refine X9 O8 H Rl ?_ @T;rw [g2 h2];simp only [RV];exact ⟨_,rfl,fe u3 (by omega)⟩
  ·rw [if_neg h2] at H
   have hv:=g3 (by simpa using h2)
   have M4:off<us.length:=by have:=E_ (by simpa using h2);omega
   have mZ:us[off]?=some v:=by
    have:=congrArg (fun l:List Value=>l[0]?) hv
    simp only [z2q] at this;rw [z4q (by have:=E_ (by simpa using h2);omega),zaq,ziq] at this
    exact this
   refine X9 O8 H Rl ?_ @T
   split
   ·obtain ⟨q1,q2⟩:=MZ u3 mZ
    exact LZ q1 q2
   ·rename_i hag
    have hl:=r3 (by simpa using hag)
    obtain ⟨u,rfl⟩:=KS hl u3;have dX:off=0:=by simp at M4;omega
    subst dX;simp only [z2q,Option.some.injEq] at mZ;subst mZ;exact LZ hl u3
 ·-- a shared variable
  rename_i i off hm;rw [hm] at e1;simp only [RR,J8] at e1;obtain ⟨cs,hb,H⟩:=A9 H;have hb:=pW hb;have B:=Rl.Q0 i _ hb;simp only [RO] at B;have one:∀ (n:Nat) c,cs[n]?=some c->n<cs.length:=fun n c hc=>(z0q.1 hc).1
  by_cases h2:z.2=true
  ·rw [if_pos h2] at H
   obtain ⟨hz0,H⟩:=F4 H;obtain ⟨ds,iC,H⟩:=A9 H;obtain ⟨d1,d2⟩:=A2E iC;have C3W:z.1≠0:=by simpa using hz0
   have J3:off+z.1<=cs.length:=by
    have:=d2 (z.1-1) _ (z3q (by omega))
    obtain ⟨m,hm,-⟩:=bB this;have:=one _ _ hm;omega
   obtain ⟨vs,l1,l2,l3⟩:=wI B J3;obtain ⟨v,g1,g2,g3⟩:=Fu (w:=w) hz l1 l2;refine X9 (Pd D9 e1.2 g1) H Rl ?_ @T;rw [g2 h2];simp only [RV];refine ⟨_,rfl,Eo.2 ⟨by simp only [d1];omega,fun j d v hd hv => ?_⟩⟩
   obtain ⟨m,hcm,hm⟩:=bB (d2 j d hd);obtain ⟨a1,a2,a3,a4⟩:=l3 j v _ (by simpa using hv) hcm
   exact ⟨a1,Nq a1 a2 (kH hm a4)⟩
  ·rw [if_neg h2] at H
   have o_:=E_ (by simpa using h2)
   have fin:∀ c,cs[off]?=some c->∃ v,(execOp a.eval o).run C.P w = .ok (.value v) w/\K6 c.1=true/\v.oneCell'=true/\X0 c.2=true/\J8 E w.heap (.sp 2 i off) c.1 c.2 v:=by
    intro c hc;have J3:off+z.1<=cs.length:=by have:=one _ _ hc;omega
    obtain ⟨vs,l1,l2,l3⟩:=wI B J3;obtain ⟨v,g1,g2,g3⟩:=Fu (w:=w) hz l1 l2;have hv:=g3 (by simpa using h2)
    subst hv;exact ⟨v,Pd D9 e1.2 g1,by simpa using l3 0 v c rfl (by simpa using hc)⟩
   split at H
   ·obtain ⟨j,hj,H⟩:=A9 H
    unfold Sk at hj
    split at hj <;> simp only [Option.some.injEq,reduceCtorEq] at hj
    rename_i hc;subst hj;obtain ⟨v,f1,f2,f3,f4,f5⟩:=fin _ hc;exact T9 f1 H Rl (fun _ _=>RR.Ad (by simp only [J8] at f5 ⊢;exact f5)) @T
   ·obtain ⟨j,hj,H⟩:=A9 H
    unfold kQ at hj
    split at hj <;> simp only [Option.some.injEq,reduceCtorEq] at hj
    rename_i hc;subst hj;obtain ⟨v,f1,f2,f3,f4,f5⟩:=fin _ hc;exact T9 f1 H Rl (fun _ _=>RR.Ad (by simp only [J8] at f5 ⊢;exact f5)) @T
   ·by_cases hvr:J4 fl.B61 o.dst=true
    ·rw [if_pos hvr] at H
     obtain ⟨e,he,H⟩:=A9 H;obtain ⟨ze,dZ,H⟩:=A9 H;obtain ⟨q,hq,H⟩:=A9 H;unfold kR at hq
     split at hq <;> try cases hq
     rename_i hc;obtain ⟨Un,ZM⟩:=L6 hq;subst Un;simp only [Option.some.injEq] at ZM;subst ZM;obtain ⟨v,f1,f2,f3,f4,f5⟩:=fin _ hc;exact T9 f1 H Rl (fun _ _=>RR.Ad (by simp only [J8] at f5 ⊢;exact f5)) @T
    rw [if_neg hvr] at H
    by_cases Qk:J4 fl.FF o.dst=true
    ·rw [if_pos Qk] at H
     obtain ⟨e,he,H⟩:=A9 H;obtain ⟨ze,dZ,H⟩:=A9 H;obtain ⟨q,hq,H⟩:=A9 H;unfold Rh at hq
     split at hq
     ·rename_i d0 j n sz' len hc
      obtain ⟨Un,ZM⟩:=L6 hq;subst Un;simp only [Option.some.injEq] at ZM;subst ZM;obtain ⟨v,f1,f2,f3,f4,f5⟩:=fin _ hc;exact T9 f1 H Rl (fun _ _=>RR.Ad (by simp only [J8] at f5 ⊢;exact f5)) @T
     ·rename_i sz' hc
      obtain ⟨⟨Un,hpos⟩,ZM⟩:=L6 hq;subst Un;simp only [Option.some.injEq] at ZM;subst ZM;obtain ⟨v,f1,f2,f3,f4,f5⟩:=fin _ hc;obtain ⟨R1,P1,R2⟩:=Rl.MP hb hc f5 hpos;exact AR f1 (T (E.MP) _ _ w H (R1.put fun t1 _=>RR.Ad (R2 _)) (P1.weaken (by simp)))
     ·cases hq
    ·rw [if_neg Qk] at H
     by_cases R6:J4 fl.M7 o.dst=true
     ·rw [if_pos R6] at H
      obtain ⟨d,hd,H⟩:=A9 H;have hc:∃ m,cs[off]?=some (d,m)/\(m = .full\/m = .own):=by
       unfold FP at hd
       split at hd <;> simp only [Option.some.injEq,reduceCtorEq] at hd <;> subst hd
       ·exact ⟨_,‹_›, .inl rfl⟩
       ·exact ⟨_,‹_›, .inr rfl⟩
      obtain ⟨m,hc,hm⟩:=hc;obtain ⟨v,f1,f2,f3,f4,f5⟩:=fin _ hc;cases FE:o.dst with
      | none =>
        rw [FE] at R6;simp [J4] at R6
      | some t0 =>
        rw [FE] at H;refine AR f1 ?_;rw [FE];refine T (E.re (PN (.sp 2 i off) t0)) _ _ w H ((Rl.B0M hb hc hm fun T hT=>HY hT).put fun t1 ht => ?_) (Pr.re fun T hT=>HY fun he=>hT (by rw [he];simp [L8]))
        simp only [Option.some.injEq] at ht;subst ht;have f6:J8 (E.re (PN (.sp 2 i off) t0)) w.heap (.sp 0 t0 0) d m v:=f5.re (HY (by simp)) (by simp [PN])
        rcases hm with rfl | rfl
        ·-- a slice that ends where its memory does owns what lies behind: nothing
         exact RR.Ad f6.oZ
        ·exact RR.Ad f6
     ·rw [if_neg R6] at H
      obtain ⟨d,hd,H⟩:=A9 H;obtain ⟨m,hc,hm⟩:=bB hd;obtain ⟨v,f1,f2,f3,f4,f5⟩:=fin _ hc;exact X9 f1 H Rl (kH hm f5) @T
 ·-- an element of a writable array
  rename_i i sz idx off hm;rw [hm] at e1;simp only [RR,J8] at e1;obtain ⟨p,hp,H⟩:=A9 H;obtain ⟨d,hd,H⟩:=A9 H;obtain ⟨Aa,H⟩:=F4 H;obtain ⟨J3,H⟩:=L6 H;have hp:=Zw hp;have Aa:p.1=sz:=by simpa using Aa
  rw [Aa] at hp;have B:=Rl.Q0 i _ hp;simp only [RO] at B;have hne:p.2≠[]:=by intro h;rw [h] at hd;simp at hd
  obtain ⟨c,TT,b1,b2,b3,b4,b5⟩:=B hne;obtain ⟨us,u1,u2,u3⟩:=b5 idx d hd;have l2:∀ (j:Nat) v,((us.drop off).take z.1)[j]?=some v->hc w.heap (E.obj i) (E.base i+idx * sz+off+j)=some v:=by
   intro j v hv;have hj:j<z.1:=by have:=(z0q.1 hv).1;simp only [zfq,zhq] at this;omega
   rw [z4q hj,zaq] at hv;rw [zlq];unfold hc;rw [b1];exact u2 _ v hv
  obtain ⟨v,g1,g2,g3⟩:=Fu (w:=w) hz (vs:=(us.drop off).take z.1) (by simp only [zfq,zhq];omega) l2
  have O8:=Pd D9 e1.2 g1
  by_cases h2:z.2=true
  ·rw [if_pos h2] at H
   refine X9 O8 H Rl ?_ @T;rw [g2 h2];simp only [RV];exact ⟨_,rfl,fe u3 (by omega)⟩
  ·rw [if_neg h2] at H
   have hv:=g3 (by simpa using h2)
   have o_:=E_ (by simpa using h2)
   have mZ:us[off]?=some v:=by
    have:=congrArg (fun l:List Value=>l[0]?) hv
    simp only [z2q] at this;rw [z4q (by omega),zaq,ziq] at this
    exact this
   split at H
   ·obtain ⟨hl,H⟩:=F4 H
    refine X9 O8 H Rl ?_ @T;obtain ⟨u,rfl⟩:=KS hl u3;have dX:off=0:=by have:=(z0q.1 mZ).1;simp at this;omega
    subst dX;simp only [z2q,Option.some.injEq] at mZ;subst mZ;exact LZ hl u3
   ·refine X9 O8 H Rl ?_ @T
    obtain ⟨q1,q2⟩:=MZ u3 mZ;exact LZ q1 q2
 ·-- an element of a vector
  rename_i i n sz idx off hm;rw [hm] at e1;simp only [RR,J8] at e1;obtain ⟨p,hp,H⟩:=A9 H;obtain ⟨d,hd,H⟩:=A9 H;obtain ⟨Aa,H⟩:=F4 H;obtain ⟨J3,H⟩:=L6 H;have hp:=Zx hp;have Aa:p.1=sz:=by simpa using Aa
  rw [Aa] at hp;have B:=Rl.Q0 i _ hp;simp only [RO] at B;obtain ⟨bv,b0,b3,B⟩:=B;have hne:p.2≠[]:=by intro h;rw [h] at hd;simp at hd
  obtain ⟨c,TT,ff,b1,b2,b2',b4,b5⟩:=B.resolve_left fun h=>hne h.1
  obtain ⟨-,-,-,eb,ep,ev,ex⟩:=e1;obtain ⟨rfl,rfl⟩:=ex bv;obtain ⟨us,u1,u2,u3⟩:=b5 idx d hd;have l2:∀ (j:Nat) v,((us.drop off).take z.1)[j]?=some v->hc w.heap (E.obj i) (E.base i+idx * sz+off+j)=some v:=by
   intro j v hv;have hj:j<z.1:=by have:=(z0q.1 hv).1;simp only [zfq,zhq] at this;omega
   rw [z4q hj,zaq] at hv;rw [zlq];unfold hc;rw [b1];exact u2 _ v hv
  obtain ⟨v,g1,g2,g3⟩:=Fu (w:=w) hz (vs:=(us.drop off).take z.1) (by simp only [zfq,zhq];omega) l2
  have O8:=Pd D9 ev g1
  by_cases h2:z.2=true
  ·rw [if_pos h2] at H
   refine X9 O8 H Rl ?_ @T;rw [g2 h2];simp only [RV];exact ⟨_,rfl,fe u3 (by omega)⟩
  ·rw [if_neg h2] at H
   have hv:=g3 (by simpa using h2)
   have o_:=E_ (by simpa using h2)
   have mZ:us[off]?=some v:=by
    have:=congrArg (fun l:List Value=>l[0]?) hv
    simp only [z2q] at this;rw [z4q (by omega),zaq,ziq] at this
    exact this
   split at H
   ·obtain ⟨hl,H⟩:=F4 H
    refine X9 O8 H Rl ?_ @T;obtain ⟨u,rfl⟩:=KS hl u3;have dX:off=0:=by have:=(z0q.1 mZ).1;simp at this;omega
    subst dX;simp only [z2q,Option.some.injEq] at mZ;subst mZ;exact LZ hl u3
   ·refine X9 O8 H Rl ?_ @T
    obtain ⟨q1,q2⟩:=MZ u3 mZ;exact LZ q1 q2
 ·simp at H
end
end Go.Su

/-
 THE DATA MACHINE, part 12: variables made; values and slices built.
-/
namespace Go.Su
variable {h:Heap} {ob:Obj}
theorem B6t {b:Nat} (hb:b<h.size):(h.push ob)[b]?=h[b]?:=by
 rw [Array.getElem?_push_lt hb,zrq hb]
theorem Lr:(h.push ob)[h.size]?=some ob:=by simp
variable {E:Env}
theorem Pr.push {ch:Tag->Prop} {E':Env} (ht:∀ b o,b<h.size->¬ ch (E.O b o)->E'.O b o=E.O b o) (hn:E.n<=E'.n) (ho:∀ i,i<E.n->E'.Al i=E.Al i->E'.obj i=E.obj i/\E'.base i=E.base i/\E'.top i=E.top i) (hb:∀ s,¬ ch (.SX s)->E'.blk s=E.blk s) (hv:A7Z ch E E'):Pr ch E h E' (h.push ob) :=
 ⟨by simp,fun b M4=>by rw [B6t M4];exact U6.refl _ _,ht,hn,ho,hb,hv⟩
theorem zB {c:Array Value} {T:TypeId} {f:Nat × Nat} (o:Nat):hc (h.push (.cells c T f)) h.size o=c[o]?:=by
 unfold hc;rw [Lr]
theorem A2w {d:DV} (h:I6 d=true):K6 d=true:=by cases d <;> simp_all [I6,K6]
variable {v:Value}
theorem A4M {S:X6} {d:DV} (hc:I6 d=true) (H:RV S h d v):v.oneCell'=true:=by
 cases d <;> simp only [I6] at hc <;> try contradiction
 ·rw [BP] at H;subst H;rfl
 ·rw [Ma] at H;subst H;rfl
 ·rw [XM] at H;subst H;rfl
 ·obtain ⟨a,len,cap,rfl,-⟩:=Mc H;rfl
 ·simp only [RV] at H;subst H;rfl
 ·rename_i sz d
  exact JH (d := .Mv sz d) rfl (by simpa only [RV] using H)
variable (E:Env) (h:Heap)
def DY (tg:Tag) (r:DV × Meta) (v:Value):Prop :=
 K6 r.1=true/\v.oneCell'=true/\X0 r.2=true/\J8 E h tg r.1 r.2 v
variable {X:Type} {E:Env} {h:Heap} {x:X}
theorem XO {k a:Nat} {r:DV × Meta} {K:DV × Meta->Option X} (R:RR E h k a r.1 r.2 v) (H:cellOf r K=some x) :
 ∃ c,K c=some x/\c.2=r.2/\DY E h (.sp k a 0) c v:=by
 unfold cellOf at H
 split at H
 ·rename_i hm
  rw [hm] at R;obtain ⟨hc,H⟩:=F4 H;exact ⟨_,H,hm.symm,A2w hc,A4M hc R,rfl,R⟩
 ·rename_i hm
  rw [hm] at R;simp only [RR,J8] at R;obtain ⟨r1,⟨p,n,rfl⟩,sz,ds,r2⟩:=R;exact ⟨_,H,hm.symm,by rw [r2];rfl,rfl,rfl,r1,⟨_,_,rfl⟩,_,_,r2⟩
 ·rename_i hm
  rw [hm] at R;simp only [RR,J8] at R;obtain ⟨r1,sz,ds,r2,r3⟩:=R;refine ⟨_,H,hm.symm,by rw [r2];rfl, ?_,rfl,r1,sz,ds,r2,r3⟩
  rw [r2] at r1;obtain ⟨a,len,cap,rfl,-⟩:=Mc r1;rfl
 ·rename_i hm
  rw [hm] at R;obtain ⟨-,rfl⟩:=(R:_/\_);exact ⟨_,H,hm.symm,rfl,rfl,rfl,rfl,rfl⟩
 ·obtain ⟨hm,H⟩:=F4 H
  refine ⟨_,H,rfl, ?_⟩;have n1:r.2 ≠ .val:=by intro h;simp_all
  have n2:r.2 ≠ .full:=by intro h;simp_all
  have n3:r.2 ≠ .own:=by intro h;simp_all
  have n4:r.2 ≠ .Di:=by intro h;simp_all
  revert R hm n1 n2 n3 n4
  generalize r.2=m;intro R hm n1 n2 n3 n4;cases m <;> simp only [X0] at hm <;> simp only [RR,J8] at R <;> try contradiction
  case ptr i o=>obtain ⟨r1,rfl⟩:=R;exact ⟨rfl,rfl,rfl,r1,rfl⟩
  case map i=>obtain ⟨r1,rfl⟩:=R;exact ⟨rfl,rfl,rfl,r1,rfl⟩
  case QL=>subst R;exact ⟨rfl,rfl,rfl,rfl⟩
  case arr i sz off len=>obtain ⟨r1,p,cap,rfl,r2⟩:=R;exact ⟨rfl,rfl,rfl,r1,_,_,rfl,r2⟩
  case U1 i n sz len=>obtain ⟨r1,r2,r3,p,cap,rfl,r4⟩:=R;exact ⟨rfl,rfl,rfl,r1,r2,r3,_,_,rfl,r4⟩
  case fn f caps=>obtain ⟨rfl,r2⟩:=R;exact ⟨rfl,rfl,rfl,rfl,r2⟩
def GI (E:Env) (h:Heap) (cs:List (DV × Meta)) (vs:List Value):Prop :=
 cs.length=vs.length/\∀ (j:Nat) r v,cs[j]?=some r->vs[j]?=some v->DY E h .other r v/\r.2 ≠ .own
theorem B0h:∀ {ds:List DV} {ms:List Meta} {j:Nat} {r:DV × Meta},(qO ds ms)[j]?=some r->ds[j]?=some r.1/\ms[j]?=some r.2
 | d::ds,m::ms,0,r,h=>by simp only [qO,z2q,Option.some.injEq] at h;subst h;simp
 | d::ds,m::ms,j+1,r,h=>by simp only [qO,zeq] at h ⊢;exact B0h h
 | [],ms,j,r,h=>by simp [qO] at h
 | d::ds,[],j,r,h=>by simp [qO] at h
theorem jq:∀ {ds:List DV} {ms:List Meta},ds.length=ms.length->(qO ds ms).length=ds.length
 | d::ds,m::ms,h=>by simp only [qO,zLq];rw [jq (by simpa using h)]
 | [],[],_=>rfl
theorem KW (n o:Nat) (d:DV):(cells n o d).length=n:=by simp [cells]
theorem A6t {n o j:Nat} {d e:DV} (h:(cells n o d)[j]?=some e):j<n/\e=A7 (o+j) d:=by
 have hj:j<n:=by have:=(z0q.1 h).1;simpa [cells] using this
 simp only [cells,zbq,zEq hj,znq,Option.some.injEq] at h;exact ⟨hj,h.symm⟩
def A3p (E:Env) (h:Heap) (k a:Nat) (cs:List (DV × Meta)) (vs:List Value):Prop :=
 cs.length=vs.length/\∀ (j:Nat) r v,cs[j]?=some r->vs[j]?=some v->DY E h (.sp k a (j+1)) r v
theorem DY.strip {tg tg':Tag} {r:DV × Meta} (H:DY E h tg r v):DY E h tg' (r.1,dm r.2) v/\dm r.2 ≠ .own :=
 ⟨⟨H.1,H.2.1,(Su.BS H.2.2.1).2.1,H.2.2.2.BS H.2.2.1⟩,(Su.BS H.2.2.1).2.2⟩
variable {cs:List (DV × Meta)} {vs:List Value}
theorem A3p.strip {k a:Nat} (H:A3p E h k a cs vs):GI E h (cs.map fun c=>(c.1,dm c.2)) vs:=by
 refine ⟨by simpa using H.1,fun j r v hr hv => ?_⟩
 simp only [zbq,z9q] at hr;obtain ⟨c,hc,rfl⟩:=hr;exact (H.2 j c v hc hv).strip
theorem A6s {z:Nat} {k a:Nat} {r:DV × Meta} (R:RR E h k a r.1 r.2 v) (hg:C9 z r.1=true) (Fe:kT z r=some cs) :
 cs.length=z/\A3p E h k a cs v.cells.toList:=by
 unfold kT at Fe
 split at Fe
 ·rename_i hm
  simp only [Option.some.injEq] at Fe;subst Fe;rw [hm] at R;obtain ⟨vs,rfl,Aa,hR⟩:=fo hg R;refine ⟨by simp [KW],by simp [KW,Value.cells,Aa],fun j r' u hr hu => ?_⟩
  simp only [zbq,z9q] at hr;obtain ⟨d,hd,rfl⟩:=hr;obtain ⟨hj,rfl⟩:=A6t hd;obtain ⟨q1,q2⟩:=MZ hR (j:=0+j) (v:=u) (by simpa [Value.cells] using hu)
  exact ⟨q1,JH q1 q2,rfl,LZ q1 q2⟩
 ·rename_i ms hm
  obtain ⟨hl,Fe⟩:=L6 Fe;simp only [Option.some.injEq] at Fe;subst Fe;rw [hm] at R;simp only [RR] at R;obtain ⟨ds,vs,hd,rfl,l1,l2,l3⟩:=R;refine ⟨by rw [jq (by rw [KW,hl])];exact KW _ _ _,by rw [jq (by rw [KW,hl]),KW];simp [Value.cells];omega,fun j r' u hr hu => ?_⟩
  obtain ⟨hr1,hr2⟩:=B0h hr;obtain ⟨hj,hr1⟩:=A6t hr1;have M4:j<ds.length:=by omega
  have hdj:ds[j]?=some r'.1:=by
   rw [hr1,hd];simp [A7,z1q,z3q M4]
  obtain ⟨a1,a2,a4,a5⟩:=l3 j r'.2 r'.1 u hr2 hdj (by simpa [Value.cells] using hu)
  exact ⟨a1,a2,a4,a5⟩
 ·simp at Fe
variable {P:Program} {t:TypeId}
theorem Zg {z:Nat × Bool} (hz:tz P t=some z) {k a:Nat} {r:DV × Meta} {K:List (DV × Meta)->Option X} (R:RR E h k a r.1 r.2 v) (H:explode P t r K=some x) :
 ∃ cs,K cs=some x/\cs.length=z.1/\GI E h cs v.cells.toList:=by
 unfold explode at H;obtain ⟨z',Un,H⟩:=A9 H;rw [hz] at Un;simp only [Option.some.injEq] at Un;subst Un
 split at H
 ·obtain ⟨hg,H⟩:=F4 H
  obtain ⟨cs,Fe,H⟩:=A9 H;obtain ⟨l1,l2⟩:=A6s R hg Fe;exact ⟨_,H,by simpa using l1,l2.strip⟩
 ·rename_i hz2
  obtain ⟨c,H,hm,w9⟩:=XO R H;have E_:z.1=1:=by
   obtain ⟨i,d,-,-,-,h4⟩:=GV hz;exact h4 (by simpa using hz2)
  have hv:v.cells = #[v]:=by
   have:=w9.2.1;cases v <;> first | rfl | (simp [Value.oneCell'] at this)
  refine ⟨_,H,E_.symm,by simp [hv],fun j r' u hr hu => ?_⟩
  rw [hv] at hu;cases j with
  | succ j=>simp at hr
  | zero =>
    simp only [z2q,Option.some.injEq] at hr hu;subst hr hu;exact w9.strip
theorem A8l {n:Nat} {r:DV × Meta} (h:kT n r=some cs) (hr:∀ ms,r.2 ≠ .Dw ms):∀ c∈cs,c.2 ≠ .own:=by
 unfold kT at h
 split at h
 ·simp only [Option.some.injEq] at h
  subst h;intro c hc;obtain ⟨d,-,rfl⟩:=List.mem_map.1 hc;simp
 ·rename_i ms hm;exact absurd hm (hr ms)
 ·cases h
theorem A14 {z:Nat × Bool} (hz:tz P t=some z) {k a:Nat} {r:DV × Meta} {K:List (DV × Meta)->Option X} (R:RR E h k a r.1 r.2 v) (H:IX P t r K=some x) :
 ∃ cs,K cs=some x/\cs.length=z.1/\A3p E h k a cs v.cells.toList/\((∀ ms,r.2 ≠ .Dw ms)->∀ c∈cs,c.2 ≠ .own):=by
 unfold IX at H;obtain ⟨z',Un,H⟩:=A9 H;rw [hz] at Un;simp only [Option.some.injEq] at Un;subst Un
 split at H
 ·obtain ⟨hg,H⟩:=F4 H
  obtain ⟨cs,Fe,H⟩:=A9 H;obtain ⟨l1,l2⟩:=A6s R hg Fe;exact ⟨_,H,l1,l2,A8l Fe⟩
 ·rename_i hz2
  obtain ⟨c,H,hm,w9⟩:=XO R H;have E_:z.1=1:=by
   obtain ⟨i,d,-,-,-,h4⟩:=GV hz;exact h4 (by simpa using hz2)
  have hv:v.cells = #[v]:=by
   have:=w9.2.1;cases v <;> first | rfl | (simp [Value.oneCell'] at this)
  refine ⟨_,H,E_.symm,⟨by simp [hv],fun j r' u hr hu => ?_⟩,fun _ c' hc'=>by simp only [List.mem_singleton] at hc';subst hc';exact (Su.BS w9.2.2.1).2.2⟩
  rw [hv] at hu;cases j with
  | succ j=>simp at hr
  | zero =>
    simp only [z2q,Option.some.injEq] at hr hu;subst hr hu;exact w9.strip.1
theorem B9G {r:DV × Meta} (H:cst P t v=some r):DY E h .other r v/\r.2 ≠ .own:=by
 have R:RR E h 0 0 r.1 r.2 v:=A4c H 0 0;unfold cst at H
 split at H <;> simp only [Option.some.injEq,reduceCtorEq] at H <;> subst H <;> exact ⟨⟨rfl,rfl,rfl,R⟩,by simp⟩
theorem wP {P:Program} {E:Env} {h:Heap}:∀ {ts:List TypeId} {vs:List Value} {cs:List (DV × Meta)},XR P ts vs=some cs->GI E h cs vs
 | [],[],cs,H=>by simp only [XR,Option.some.injEq] at H;subst H;exact ⟨rfl,by simp⟩
 | [],v::vs,cs,H=>by simp [XR] at H
 | t::ts,[],cs,H=>by simp [XR] at H
 | t::ts,v::vs,cs,H=>by
   simp only [XR] at H;obtain ⟨r,hr,H⟩:=A9 H;obtain ⟨rs,hrs,H⟩:=A9 H;simp only [Option.some.injEq] at H;subst H;obtain ⟨l1,l2⟩:=wP (E:=E) (h:=h) hrs;refine ⟨by simp [l1],fun j r' u h1 h2 => ?_⟩
   cases j with
   | zero=>simp only [z2q,Option.some.injEq] at h1 h2;subst h1 h2;exact B9G hr
   | succ j=>simp only [zeq] at h1 h2;exact l2 j r' u h1 h2
theorem Qr (H:Jo P t=some cs):∃ i v,P.info? t=some i/\i.zero=some v/\∀ E h,GI E h cs v.cells.toList:=by
 unfold Jo at H;obtain ⟨ts,hts,H⟩:=A9 H;obtain ⟨i,hi,H⟩:=A9 H;obtain ⟨v,hv,H⟩:=A9 H;exact ⟨i,v,hi,hv,fun E h=>wP H⟩
section
variable {X:Type} {C:X4} {R:O4} {o:Oper} {st:St} {k:St->Option X} {x:X} {E:Env} {a:Act} {w:World} {K:Act->World->Prop} {Q:Exit->Act->World->Prop}
def Env.Er (E:Env) (t0 b n:Nat):Env :=
 { E with blk:=fun s=>if s=t0 then b else E.blk s,
          O:=fun b' o=>if b'=b then (if o<n then .SX t0 else .other) else if E.O b' o = .SX t0 then .other else E.O b' o }
def Env.newObj (E:Env) (b n:Nat):Env :=
 { E with obj:=fun i=>if i=E.n then b else E.obj i,base:=fun i=>if i=E.n then 0 else E.base i,n:=E.n+1,Al:=fun i=>if i=E.n then 0 else E.Al i,
          O:=fun b' o=>if b'=b then (if o<n then .obj E.n else .other) else E.O b' o }
theorem DY.mono {ch:Tag->Prop} {E E':Env} {h':Heap} (H:Pr ch E h E' h') (J3:Y0 E.S h E'.S h') {r:DV × Meta} (hm:r.2 ≠ .own) {tg:Tag} (R:DY E h .other r v):DY E' h' tg r v:=by
 obtain ⟨a1,a2,a3,a4⟩:=R;exact ⟨a1,a2,a3,(a4.mono H J3 (fun x=>absurd x hm) fun s o hl=>by rw [hl] at a3;simp [X0] at a3).tag hm⟩
theorem J6.newObj {T0:TypeId} (hc:GI E w.heap cs vs) (Rl:J6 E st a w.heap) :
 J6 (E.newObj w.heap.size cs.length) { st with sg:=st.sg++[.box cs] } a (w.heap.push (.cells vs.toArray T0))/\Pr (fun _=>False) E w.heap (E.newObj w.heap.size cs.length) (w.heap.push (.cells vs.toArray T0)):=by
 obtain ⟨lc,hc⟩:=hc;have P1:Pr (fun _=>False) E w.heap (E.newObj w.heap.size cs.length) (w.heap.push (.cells vs.toArray T0)):=by
  refine Pr.push (fun b o hb _ => ?_) (by simp [Env.newObj]) (fun i hi _ => ?_) (fun _ _=>rfl) (aK rfl)
  ·simp only [Env.newObj];rw [if_neg (by omega)]
  ·refine ⟨?_, ?_,rfl⟩ <;> simp only [Env.newObj] <;> rw [if_neg (by omega)]
 have J3:=P1.shut (by simp) Rl.fresh
 refine ⟨⟨Rl.size,Rl.AP,Rl.Bi,by simp [Env.In,Env.newObj,Rl.n],fun t v hv=>(Rl.regs t v hv).mono P1 J3 (by simp) (by simp),fun s cs hs=>(Rl.boxes s cs hs).mono P1 J3 (by simp) (by simp),fun i ob hi => ?_,
         fun b o hb => ?_⟩,P1⟩
 ·by_cases M4:i<st.sg.length
  ·rw [zgq M4] at hi
   exact (Rl.Q0 i ob hi).mono P1 J3 (CO Rl hi) (by simp) (by simp)
  ·have Kc:i=st.sg.length:=by
    have:=(z0q.1 hi).1;simp at this;omega
   subst Kc;simp only [zdq (z5q _),zvq,z2q,Option.some.injEq] at hi;subst hi;have hn:=Rl.n;refine ⟨vs.toArray,T0, ?_,by simp [lc],fun o => ?_,fun j r v hr hv => ?_⟩
   ·simp only [Env.newObj,hn,if_true];exact Lr
   ·by_cases ho:o<cs.length
    ·left;simp only [Env.newObj,hn,if_true,if_pos ho]
    ·right;simp only [zCq];omega
   ·obtain ⟨q1,q2⟩:=hc j r v hr (by simpa using hv)
    exact q1.mono P1 J3 q2
 ·simp only [zwq] at hb
  simp only [Env.newObj];rw [if_neg (by omega)]
  exact Rl.fresh b o (by omega)
theorem J6.Er {t0:Nat} {T0:TypeId} (lc:cs.length=vs.length) (hc:∀ (j:Nat) r v,cs[j]?=some r->vs[j]?=some v->DY E w.heap (.sp 1 t0 j) r v) (Rl:J6 E st a w.heap) :
 J6 (E.Er t0 w.heap.size cs.length) { st with mt:=st.mt.map (Je t0),bx:=st.bx.set t0 (some cs) } a (w.heap.push (.cells vs.toArray T0))/\Pr (fun T=>T = .SX t0) E w.heap (E.Er t0 w.heap.size cs.length) (w.heap.push (.cells vs.toArray T0)):=by
 have P1:Pr (fun T=>T = .SX t0) E w.heap (E.Er t0 w.heap.size cs.length) (w.heap.push (.cells vs.toArray T0)):=by
  refine Pr.push (fun b o hb hn => ?_) (z5q _) (fun i hi _=>⟨rfl,rfl,rfl⟩) (fun s hs => ?_) (DK rfl)
  ·simp only [Env.Er];rw [if_neg (by omega),if_neg hn]
  ·simp only [Env.Er];rw [if_neg (by simpa using hs)]
 have J3:=P1.shut (by simp) Rl.fresh
 refine ⟨?_,P1⟩
 ·refine ⟨Rl.size,by simpa using Rl.AP,by simpa using Rl.Bi,Rl.n,fun t v hv => ?_,fun s cs' hs => ?_,fun i ob hi=>(Rl.Q0 i ob hi).mono P1 J3 (CO Rl hi) (by simp) (by simp),fun b o hb => ?_⟩
  ·have h0:=Rl.regs t v hv
   have hg:(St.get { st with mt:=st.mt.map (Je t0),bx:=st.bx.set t0 (some cs) } t)=((st.get t).1,Je t0 (st.get t).2):=by
    simp only [St.get,z1q,zbq];cases st.mt[t]? <;> rfl
   rw [hg];cases hm:(st.get t).2
   case loc s o =>
    rw [hm] at h0;simp only [RR,J8] at h0;simp only [Je]
    split
    ·rw [h0.1];simp only [RR,J8,RV]
    ·rename_i hne
     refine ⟨h0.1, ?_⟩;rw [h0.2];simp only [Env.Er];rw [if_neg hne]
   all_goals
    rw [hm] at h0;simp only [Je];exact h0.mono P1 J3 (by simp) (by simp)
  ·have A2Y:t0=s->s<st.bx.length:=by
    intro hts;rcases zyq s st.bx.length with h1 | h1
    ·exact h1
    ·simp [z1q,zmq (by simpa using h1:(st.bx.set t0 (some cs)).length<=s)] at hs
   by_cases Xg:t0=s
   ·subst Xg
    simp only [z1q,z6q (A2Y rfl),zzq,Option.some.injEq] at hs;subst hs;refine ⟨vs.toArray,T0, ?_,by simp [lc],fun o => ?_,fun j r v hr hv => ?_⟩
    ·simp only [Env.Er,if_true];exact Lr
    ·by_cases ho:o<cs.length
     ·left;simp only [Env.Er,if_true,if_pos ho]
     ·right;simp only [zCq];omega
    ·obtain ⟨q1,q2,q3,q4⟩:=hc j r v hr (by simpa using hv)
     exact ⟨q1,q2,q3,q4.mono P1 J3 (fun _=>by simp) fun s o hl=>by rw [hl] at q3;simp [X0] at q3⟩
   ·simp only [z1q,zcq Xg] at hs
    have B:=Rl.boxes s cs' (by simpa [z1q] using hs)
    have hne:¬ s=t0:=fun h=>Xg h.symm
    have:=B.mono P1 J3 (tg := .SX s) (by simpa using hne) (by simp)
    simp only [Env.Er] at this ⊢;rw [if_neg hne];exact this
  ·simp only [zwq] at hb
   simp only [Env.Er];rw [if_neg (by omega)]
   have:=Rl.fresh b o (by omega)
   rw [this];simp
theorem A4X {sh:Bool} {T0:TypeId} (hc:GI E w.heap cs vs) (H:k (st.Ei sh o.dst cs)=some x) (hr:(execOp a.eval o).run C.P w = .ok (.value (.pointer (some ⟨w.heap.size,0,none⟩))) (w.alloc (.cells vs.toArray T0))) (Rl:J6 E st a w.heap) (T:Then E w k x K):Gp C.P o a w K:=by
 refine AR hr ?_;obtain ⟨lc,hc⟩:=hc;cases hd:o.dst with
 | none =>
   rw [hd] at H;simp only [St.Ei] at H;have P1:Pr (fun _=>False) E w.heap E (w.heap.push (.cells vs.toArray T0)):=Pr.push (fun _ _ _ _=>rfl) (z5q _) (fun _ _ _=>⟨rfl,rfl,rfl⟩) (fun _ _=>rfl) (DK rfl)
   have J3:=P1.shut (by simp) Rl.fresh
   refine T E st _ (w.alloc (.cells vs.toArray T0)) H ?_ (P1.weaken (by simp))
   exact ⟨Rl.size,Rl.AP,Rl.Bi,Rl.n,fun t v hv=>(Rl.regs t v hv).mono P1 J3 (by simp) (by simp),fun s cs hs=>(Rl.boxes s cs hs).mono P1 J3 (by simp) (by simp),fun i ob hi=>(Rl.Q0 i ob hi).mono P1 J3 (CO Rl hi) (by simp) (by simp),
    fun b o hb=>Rl.fresh b o (by simp at hb;omega)⟩
 | some t0 =>
   rw [hd] at H;cases sh with
   | true =>
     simp only [St.Ei,if_true] at H;have P1:Pr (fun _=>False) E w.heap (E.newObj w.heap.size cs.length) (w.heap.push (.cells vs.toArray T0)):=by
      refine Pr.push (fun b o hb _ => ?_) (by simp [Env.newObj]) (fun i hi _ => ?_) (fun _ _=>rfl) (aK rfl)
      ·simp only [Env.newObj];rw [if_neg (by omega)]
      ·refine ⟨?_, ?_,rfl⟩ <;> simp only [Env.newObj] <;> rw [if_neg (by omega)]
     have J3:=P1.shut (by simp) Rl.fresh
     have R1:J6 (E.newObj w.heap.size cs.length) { st with sg:=st.sg++[.box cs] } a (w.heap.push (.cells vs.toArray T0)):=by
      refine ⟨Rl.size,Rl.AP,Rl.Bi,by simp [Env.In,Env.newObj,Rl.n],fun t v hv=>(Rl.regs t v hv).mono P1 J3 (by simp) (by simp),fun s cs hs=>(Rl.boxes s cs hs).mono P1 J3 (by simp) (by simp),fun i ob hi => ?_,
       fun b o hb => ?_⟩
      ·by_cases M4:i<st.sg.length
       ·rw [zgq M4] at hi
        exact (Rl.Q0 i ob hi).mono P1 J3 (CO Rl hi) (by simp) (by simp)
       ·have Kc:i=st.sg.length:=by
         have:=(z0q.1 hi).1;simp at this;omega
        subst Kc;simp only [zdq (z5q _),zvq,z2q,Option.some.injEq] at hi;subst hi;have hn:=Rl.n;refine ⟨vs.toArray,T0, ?_,by simp [lc],fun o => ?_,fun j r v hr hv => ?_⟩
        ·simp only [Env.newObj,hn,if_true];exact Lr
        ·by_cases ho:o<cs.length
         ·left;simp only [Env.newObj,hn,if_true,if_pos ho]
         ·right;simp only [zCq];omega
        ·obtain ⟨q1,q2⟩:=hc j r v hr (by simpa using hv)
         exact q1.mono P1 J3 q2
      ·simp only [zwq] at hb
       simp only [Env.newObj];rw [if_neg (by omega)]
       exact Rl.fresh b o (by omega)
     refine T (E.newObj w.heap.size cs.length) _ _ (w.alloc (.cells vs.toArray T0)) H (R1.put fun t1 _ => ?_) (P1.weaken (by simp))
     refine RR.Ad ⟨by simp [Env.In,Env.newObj,Rl.n], ?_⟩
     simp only [Env.newObj,Rl.n,if_true]
   | false =>
     simp only [St.Ei,zoq,if_false] at H;obtain ⟨R1,P1⟩:=Rl.Er (t0:=t0) (T0:=T0) lc fun j r v hr hv=>⟨(hc j r v hr hv).1.1,(hc j r v hr hv).1.2.1,(hc j r v hr hv).1.2.2.1,(hc j r v hr hv).1.2.2.2.tag (hc j r v hr hv).2⟩
     refine T (E.Er t0 w.heap.size cs.length) _ _ (w.alloc (.cells vs.toArray T0)) H (R1.put fun t1 ht => ?_) (P1.weaken (by rintro T rfl;simp [L8]))
     simp only [Option.some.injEq] at ht;subst ht;refine RR.Ad ⟨rfl, ?_⟩;simp only [Env.Er,if_true]
end
end Go.Su

/-
 THE DATA MACHINE, part 13: new variables, structs and slices built, maps made, functions made.
-/
namespace Go.Su
variable (vs:List Value) (off:Nat)
theorem qD:∀ (cells:Array Value) (n:Nat),off+n+vs.length<=cells.size->∀ j,
 ((vs.zipIdx n).foldl (fun (cs:Array Value) (p:Value × Nat)=>cs.setIfInBounds (off+p.2) p.1) cells)[j]?=if off+n<=j/\j<off+n+vs.length then vs[j-(off+n)]? else cells[j]?:=by
 induction vs with
 | nil =>
   intro cells n _ j;simp only [List.zipIdx_nil,List.foldl_nil,List.length_nil,ziq];rw [if_neg (by omega)]
 | cons v vs ih =>
   intro cells n hn j;simp only [zMq,List.foldl_cons,zLq] at hn ⊢;rw [ih _ (n+1) (by simp;omega) j]
   by_cases h1:j=off+n
   ·subst h1
    rw [if_neg (by omega),if_pos (by omega)]
    simp only [zvq,z2q];rw [zpq (by omega)]
   ·by_cases h2:off+(n+1)<=j/\j<off+(n+1)+vs.length
    ·rw [if_pos h2,if_pos (by omega)]
     rw [show j-(off+n)=(j-(off+(n+1)))+1 from by omega,zeq]
    ·rw [if_neg h2,if_neg (by omega),zsq (Ne.symm h1)]
theorem A2K:∀ (cells:Array Value) (n:Nat),((vs.zipIdx n).foldl (fun (cs:Array Value) (p:Value × Nat)=>cs.setIfInBounds (off+p.2) p.1) cells).size=cells.size:=by
 induction vs with
 | nil=>intro cells n;simp
 | cons v vs ih=>intro cells n;simp [zMq,ih]
variable (cells:Array Value)
def splice (off:Nat) (v:Value):Array Value:=v.cells.zipIdx.foldl (fun cs (c,j)=>cs.setIfInBounds (off+j) c) cells
theorem A7b (off:Nat) (v:Value):splice cells off v=(v.cells.toList.zipIdx 0).foldl (fun (cs:Array Value) (p:Value × Nat)=>cs.setIfInBounds (off+p.2) p.1) cells:=by
 unfold splice;rw [<- Array.foldl_toList];simp
variable {off:Nat}
theorem A6F (place:Nat->Option (Nat × Nat)) (cells:Array Value) (i:Nat) (v:Value) (rest:List (Nat × Value)) {size:Nat} (h1:place i=some (off,size)) (h2:v.cells.size=size) (h3:off+size<=cells.size) :
 Instr.fill place cells ((i,v)::rest)=Instr.fill place (splice cells off v) rest:=by
 simp only [Instr.fill,h1];rw [if_neg (by simp only [h2,ne_eq,not_true_eq_false,zoq,false_or,decide_false,Bool.or_eq_true,decide_eq_true_eq];omega)]
 rfl
theorem A86 {α β : Type} {f : α -> Option β}:∀ {l:List α} {r:List β},l.mapM f=some r->∀ (i:Nat) y,l[i]?=some y->∃ z,f y=some z/\r[i]?=some z
 | [],r,h,i,y,hy=>by simp at hy
 | u::us,r,h,i,y,hy=>by
   simp only [List.mapM_cons,Option.bind_eq_bind,Option.pure_def,Option.bind_eq_some_iff] at h;obtain ⟨z,hz,zs,VO,hr⟩:=h;simp only [Option.some.injEq] at hr;subst hr;cases i with
   | zero=>simp only [z2q,Option.some.injEq] at hy;subst hy;exact ⟨z,hz,rfl⟩
   | succ i=>simp only [zeq] at hy ⊢;exact A86 VO i y hy
section
variable {X:Type} {C:X4} {R:O4} {o:Oper} {st:St} {k:St->Option X} {x:X} {E:Env} {a:Act} {w:World} {K:Act->World->Prop} {Q:Exit->Act->World->Prop} {h:Heap} {arr:Array Value} {v:Value}
theorem GI.splice {cs xs:List (DV × Meta)} (H:GI E h cs arr.toList) (G:GI E h xs v.cells.toList) (J3:off+xs.length<=cs.length) :
 GI E h (putAt cs off xs) (Su.splice arr off v).toList:=by
 obtain ⟨l1,l2⟩:=H;obtain ⟨g1,g2⟩:=G;have l1':cs.length=arr.size:=by simpa using l1
 have g1':xs.length=v.cells.toList.length:=g1;rw [A7b];refine ⟨by rw [Kl J3];simp [A2K,l1'],fun j r u hr hu => ?_⟩
 rw [OV J3] at hr;have Ia:=hu;rw [Array.getElem?_toList,qD _ _ _ _ (by omega)] at Ia
 simp only [ziq] at Ia
 by_cases hc:off<=j/\j<off+xs.length
 ·rw [if_pos hc] at hr
  rw [if_pos (by omega)] at Ia
  exact g2 _ r u hr Ia
 ·rw [if_neg hc] at hr
  rw [if_neg (by omega)] at Ia
  exact l2 j r u hr (by simpa using Ia)
theorem qg {t:TypeId} {pl:Nat->Option (Nat × Nat)} (hp:∀ i q inf,partAt C.P t i=some q->C.P.info? q.1=some inf->pl i=some (q.2,inf.size)) (Rl:J6 E st a w.heap)
 {F:List (DV × Meta)->Option X}:∀ (ps:List (Nat × Operand)) (cs:List (DV × Meta)) (arr:Array Value),Gx C.P t st ps cs F=some x->GI E w.heap cs arr.toList ->
 ∃ cs' arr',F cs'=some x/\Instr.fill pl arr (ps.map fun p=>(p.1,a.eval p.2))=some arr'/\GI E w.heap cs' arr'.toList
 | [],cs,arr,H,G=>⟨cs,arr,H,rfl,G⟩
 | (i,y)::ps,cs,arr,H,G=>by
   simp only [Gx] at H;obtain ⟨f,hf,H⟩:=A9 H;obtain ⟨r,hr,H⟩:=A9 H;have uU:∃ z,tz C.P f.1=some z:=by
    unfold explode at H;obtain ⟨z,hz,-⟩:=A9 H;exact ⟨z,hz⟩
   obtain ⟨z,uU⟩:=uU;obtain ⟨xs,H,hl,w9⟩:=Zg uU (Rl.src hr) H;obtain ⟨J3,H⟩:=L6 H;obtain ⟨inf,d',AY,-,h2,-⟩:=GV uU;have Aa:z.1=inf.size:=by rw [h2]
   have Ul:cs.length=arr.size:=by simpa using G.1
   have VM:(a.eval y).cells.size=inf.size:=by have:=w9.1;simp at this;omega
   obtain ⟨cs',arr',q1,q2,q3⟩:=qg hp Rl ps _ _ H (G.splice w9 J3);refine ⟨cs',arr',q1, ?_,q3⟩;rw [zSq,A6F _ _ _ _ _ (off:=f.2) (size:=inf.size) (hp i f inf hf AY) VM (by omega)]
   exact q2
variable {t:TypeId} {ps:Array (Nat × Operand)}
theorem B4M (D9:o.op = .build t ps) (H:(ob (Jo C.P t) fun zs=>ob (places C.P t) fun _=>Gx C.P t st ps.toList zs fun cs=>k (st.put o.dst (fw cs).1 (fw cs).2))=some x) (Rl:J6 E st a w.heap) (T:Then E w k x K):Gp C.P o a w K:=by
 obtain ⟨zs,VO,H⟩:=A9 H;obtain ⟨pl,VL,H⟩:=A9 H;obtain ⟨inf,zv,AY,Pv,w9⟩:=Qr VO;have fin:∀ (pf:Nat->Option (Nat × Nat)),(∀ i q inf,partAt C.P t i=some q->C.P.info? q.1=some inf->pf i=some (q.2,inf.size)) ->
  (∀ l,C.P.built t l=Instr.fill pf zv.cells l)->Gp C.P o a w K:=by
  intro pf hp zA;obtain ⟨cs,arr,H,B2j,Fe⟩:=qg hp Rl ps.toList zs zv.cells H (w9 E w.heap);have hb:C.P.built t (ps.map fun (i,y)=>(i,a.eval y)).toList=some arr:=by
   rw [zA,<- B2j];simp
  refine T9 (v := .agg arr) ?_ H Rl (fun t0 _ => ?_) @T
  ·simp only [execOp,D9]
   exact Ab (run_build w t _ arr hb)
  ·have:=A2P (E:=E) (w:=w) (cs:=cs) (vs:=arr.toList) Fe.1.symm (fun j v r hv hr=>let ⟨⟨a1,a2,a3,a4⟩,_⟩:=Fe.2 j r v hr hv;⟨a1,a2,a3,_,a4⟩) 0 t0
   simpa using this
 unfold places at VL
 split at VL
 ·rename_i fs hu
  refine fin (pl.toArray[·]?) (fun i q inf hq AY => ?_) (fun l=>by unfold Program.built;simp only [AY,hu,Pv,VL])
  simp only [partAt,hu,z9q] at hq;obtain ⟨f,hf,rfl⟩:=hq;obtain ⟨z,hz,hzi⟩:=A86 VL i f (by simpa using hf)
  rw [AY] at hz;simp only [znq,Option.some.injEq] at hz;subst hz;simpa using hzi
 ·rename_i n e hu
  simp only [z9q] at VL;obtain ⟨ie,hie,-⟩:=VL;refine fin (fun i=>some (i * ie.size,ie.size)) (fun i q inf hq AY => ?_) (fun l=>by unfold Program.built;simp only [AY,hu,Pv,hie])
  simp only [partAt,hu,hie,znq,Option.some.injEq] at hq;subst hq;rw [hie] at AY;simp only [Option.some.injEq] at AY;subst AY;rfl
 ·simp at VL
variable {fl:Flags}
theorem B4L (D9:o.op = .alloc t) (H:(ob (Jo C.P t) fun cs=>og (PD (J4 fl.shared o.dst) o.dst st) (k (st.Ei (J4 fl.shared o.dst) o.dst cs)))=some x) (Rl:J6 E st a w.heap) (T:Then E w k x K):Gp C.P o a w K:=by
 obtain ⟨zs,VO,H⟩:=A9 H;obtain ⟨inf,zv,AY,Pv,w9⟩:=Qr VO;obtain ⟨_,H9⟩:=F4 H;refine A4X (w9 E w.heap) H9 (T0:=t) ?_ Rl @T;simp only [execOp,D9];refine Ab ?_;unfold Instr.alloc;simp [zeroValue,typeInfo,AY,Pv,newVar,newRow]
def fu (S:X6) (h:Heap) (sz:Nat) (ds:List DV) (arr:Array Value):Prop :=
 arr.size=ds.length * sz/\∀ (i:Nat) d,ds[i]?=some d->∃ vs:List Value,vs.length=sz/\(∀ (j:Nat) u,vs[j]?=some u->arr[i * sz+j]?=some u)/\RC S h d vs
variable {sz:Nat}
theorem seg_lt {i j n:Nat} (hi:i<n) (hj:j<sz):i * sz+j<n * sz:=by
 calc i * sz+j<i * sz+sz:=by omega
  _=(i+1) * sz:=by rw [zqq]
  _<=n * sz:=zkq _ hi
theorem A5e {i i' j j':Nat} (hj:j<sz) (Bg:j'<sz) (h:i * sz+j=i' * sz+j'):i=i':=by
 have hpos:0<sz:=by omega
 have h1:(i * sz+j) / sz=i:=by rw [zJq,zNq hpos,zKq hj,ziq]
 have h2:(i' * sz+j') / sz=i':=by rw [zJq,zNq hpos,zKq Bg,ziq]
 rw [<- h1,<- h2,h]
theorem oC {z:Nat × Bool} (E_:z.2=false->z.1=1) {p q:Nat} {r:DV × Meta} {F:DV->Option X} (R:RR E h p q r.1 r.2 v) (H:Me z r F=some x) :
 F r.1=some x/\v.cells.size=z.1/\RC E.S h r.1 v.cells.toList:=by
 unfold Me at H;obtain ⟨hd,H⟩:=F4 H;have R1:=R.data hd
 by_cases h2:z.2=true
 ·rw [if_pos h2] at H
  obtain ⟨hg,H⟩:=F4 H;obtain ⟨vs,rfl,hs,hR⟩:=fo hg R1;exact ⟨H,hs,hR⟩
 ·rw [if_neg h2] at H
  obtain ⟨hc,H⟩:=F4 H;have ho:=A4M hc R1;have hv:v.cells = #[v]:=by cases v <;> first | rfl | (simp [Value.oneCell'] at ho)
  refine ⟨H,by rw [hv,E_ (by simpa using h2)];rfl, ?_⟩
  rw [hv];exact Nq (A2w hc) ho R1
variable {ds:List DV}
theorem fu.splice {i:Nat} {d:DV} (H:fu E.S h sz ds arr) (hi:i<ds.length) (hs:v.cells.size=sz) (hR:RC E.S h d v.cells.toList) :
 fu E.S h sz (ds.set i d) (Su.splice arr (i * sz) v):=by
 obtain ⟨l1,l2⟩:=H;have Dh:v.cells.toList.length=sz:=by simpa using hs
 have Dx:i * sz+0+v.cells.toList.length<=arr.size:=by
  rw [l1,Dh,ziq,<- zqq];exact zkq _ hi
 rw [A7b];refine ⟨by rw [A2K,l1,zQq],fun i' d' ES => ?_⟩
 by_cases Cq:i=i'
 ·subst Cq
  rw [z6q hi] at ES;simp only [Option.some.injEq] at ES;subst ES;refine ⟨v.cells.toList,Dh,fun j u hu => ?_,hR⟩
  have hj:j<sz:=by have:=(z0q.1 hu).1;omega
  rw [qD _ _ _ _ Dx,if_pos (by omega)]
  rw [<- hu]
  congr 1
  omega
 ·rw [zcq Cq] at ES
  obtain ⟨us,u1,u2,u3⟩:=l2 i' d' ES;refine ⟨us,u1,fun j u hu => ?_,u3⟩
  have hj:j<sz:=by have:=(z0q.1 hu).1;omega
  rw [qD _ _ _ _ Dx,if_neg,u2 j u hu];rintro ⟨c1,c2⟩;exact Cq (A5e (j:=i' * sz+j-i * sz) (j':=j) (by omega) hj (by omega))
variable {P:Program} {y:Operand}
theorem J6.ji (Rl:J6 E st a w.heap) {r:DV × Meta} (H:ji P t st y=some r):RR E w.heap 0 (mi y) r.1 r.2 (a.eval y):=by
 unfold Su.ji at H
 split at H
 ·rename_i vs
  obtain ⟨ts,h1,H⟩:=A9 H;obtain ⟨rs,h2,H⟩:=A9 H;obtain ⟨hd,H⟩:=F4 H;simp only [Option.some.injEq] at H;subst H;have G:=wP (E:=E) (h:=w.heap) h2
  show RV E.S w.heap (.agg _) (.agg vs)
  simp only [RV];refine ⟨vs,rfl,Eo.2 ⟨by simpa using G.1,fun j d u hj hu => ?_⟩⟩
  rw [zbq] at hj;cases hr:rs[j]? with
  | none=>rw [hr] at hj;cases hj
  | some r =>
    rw [hr,znq,Option.some.injEq] at hj;subst hj;obtain ⟨⟨a1,a2,a3,a4⟩,a5⟩:=G.2 j r u hr (by simpa using hu)
    have Yd:=zDq.1 hd r (zxq hr);exact ⟨a1,Nq a1 a2 (RR.data (k:=9) (a:=0) Yd (RR.Ad (a4.tag a5)))⟩
 ·exact Rl.src H
theorem uf {e:TypeId} {z:Nat × Bool} (E_:z.2=false->z.1=1) (Rl:J6 E st a w.heap) {F:List DV->Option X}:∀ (ps:List (Nat × Operand)) (ds:List DV) (arr:Array Value),He C.P e z st ps ds F=some x->fu E.S w.heap z.1 ds arr ->
 ∃ ds' arr',F ds'=some x/\ds'.length=ds.length/\Instr.fill (fun i=>some (i * z.1,z.1)) arr (ps.map fun p=>(p.1,a.eval p.2))=some arr'/\fu E.S w.heap z.1 ds' arr'
 | [],ds,arr,H,G=>⟨ds,arr,H,rfl,rfl,G⟩
 | (i,y)::ps,ds,arr,H,G=>by
   simp only [He] at H;obtain ⟨r,hr,H⟩:=A9 H;obtain ⟨H,hs,hR⟩:=oC E_ (Rl.ji hr) H;obtain ⟨hi,H⟩:=L6 H;obtain ⟨ds',arr',q1,q2,q3,q4⟩:=uf E_ Rl ps _ _ H (G.splice hi hs hR);refine ⟨ds',arr',q1,by simpa using q2, ?_,q4⟩
   rw [zSq,A6F _ _ _ _ _ (off:=i * z.1) (size:=z.1) rfl hs ?_]
   ·exact q3
   ·rw [G.1,<- zqq]
    exact zkq _ hi
def Env.PT (E:Env) (b n:Nat):Env:={ E with O:=fun b' o=>if b'=b then (if o<n then .shut else .other) else E.O b' o }
theorem pI (E:Env) (h:Heap) (ob:Obj) (n:Nat):Pr (fun _=>False) E h (E.PT h.size n) (h.push ob):=by
 refine Pr.push (fun b o hb _ => ?_) (z5q _) (fun _ _ _=>⟨rfl,rfl,rfl⟩) (fun _ _=>rfl) (DK rfl)
 simp only [Env.PT];rw [if_neg (by omega)]
theorem J6.push {E':Env} {ob:Obj} (Rl:J6 E st a h) (P:Pr (fun _=>False) E h E' (h.push ob)) (hn:E'.n=E.n) (hf:∀ b o,(h.push ob).size<=b->E'.O b o = .other):J6 E' st a (h.push ob):=by
 have J3:=P.shut (by simp) Rl.fresh
 exact ⟨Rl.size,Rl.AP,Rl.Bi,by rw [hn];exact Rl.n,fun t v hv=>(Rl.regs t v hv).mono P J3 (by simp) (by simp),fun s cs hs=>by rw [P.jD s (by simp)];exact (Rl.boxes s cs hs).mono P J3 (by simp) (by simp),
  fun i ob hi=>(Rl.Q0 i ob hi).mono P J3 (by rw [<- Rl.n];exact (z0q.1 hi).1) (by simp) (by simp),hf⟩
variable {T0:TypeId}
theorem B0K (hf:∀ b o,h.size<=b->E.O b o = .other) (H:fu E.S h sz ds arr) (hpos:ds≠[]->0<sz) :
 RV (E.PT h.size arr.size).S (h.push (.cells arr T0)) (.list sz ds) (.slice (some ⟨h.size,0,none⟩) ds.length ds.length):=by
 have P:=pI E h (.cells arr T0) arr.size;have J3:=P.shut (by simp) hf
 refine LY rfl (z5q _) (by simp) hpos fun y hy => ?_
 simp only [Option.some.injEq] at hy;subst hy;refine ⟨fun _=>rfl,Dp.2 fun i d hd => ?_⟩
 obtain ⟨vs,v1,v2,v3⟩:=H.2 i d hd;refine ⟨vs,v1,fun j u hu => ?_,v3.mono J3⟩
 have hj:j<sz:=by have:=(z0q.1 hu).1;omega
 have hi:i<ds.length:=(z0q.1 hd).1;have M4:=seg_lt hi hj;refine ⟨by rw [zuq,zB];exact v2 j u hu, ?_⟩
 simp only [Env.S,Env.PT,if_true];rw [if_pos (by rw [H.1];omega)]
theorem B1a {z:Nat × Bool} {cs:List (DV × Meta)} {ze:DV} {zv:Value} (H:qN z cs=some ze) (G:GI E h cs zv.cells.toList) (hd:cs.all (fun c=>J5 c.2)=true):RC E.S h ze zv.cells.toList:=by
 have one:∀ (j:Nat) r u,cs[j]?=some r->zv.cells.toList[j]?=some u->K6 r.1=true/\RC E.S h r.1 [u]:=by
  intro j r u hr hu;obtain ⟨⟨a1,a2,a3,a4⟩,a5⟩:=G.2 j r u hr hu;have Yd:=zDq.1 hd r (zxq hr);refine ⟨a1,Nq a1 a2 ?_⟩;exact RR.data (k:=9) (a:=0) Yd (RR.Ad (a4.tag a5))
 unfold qN at H
 split at H
 ·simp only [Option.some.injEq] at H
  subst H;simp only [RC];refine Eo.2 ⟨by simpa using G.1,fun j d u hj hu => ?_⟩
  simp only [zbq,z9q] at hj;obtain ⟨r,hr,rfl⟩:=hj;exact one j r u hr hu
 ·split at H
  ·rename_i c
   simp only [Option.some.injEq] at H;subst H;have Dh:zv.cells.toList.length=1:=by simpa using G.1.symm
   match hz:zv.cells.toList,Dh with
   | [u],_=>exact (one 0 c u rfl (by rw [hz];rfl)).2
  ·simp at H
def Env.EG (E:Env) (b hi:Nat):Env :=
 { E with obj:=fun i=>if i=E.n then b else E.obj i,base:=fun i=>if i=E.n then 0 else E.base i,top:=fun i=>if i=E.n then hi else E.top i,Al:=fun i=>if i=E.n then 1 else E.Al i,n:=E.n+1,
          O:=fun b' o=>if b'=b then (if o<hi then .obj E.n else .other) else E.O b' o }
theorem J6.EG (Rl:J6 E st a h) (G:fu E.S h sz ds arr) (hz:sz≠0) :
 Pr (fun _=>False) E h (E.EG h.size arr.size) (h.push (.cells arr T0))/\J6 (E.EG h.size arr.size) { st with sg:=st.sg++[D8.U1 1 sz ds] } a (h.push (.cells arr T0)) /\
 ∀ tg,J8 (E.EG h.size arr.size) (h.push (.cells arr T0)) tg .undef (.U1 st.sg.length 1 sz ds.length) (.slice (some ⟨h.size,0,none⟩) ds.length ds.length):=by
 have hn:=Rl.n;have vE:(E.EG h.size arr.size).Al E.n=1:=if_pos rfl;have oE:(E.EG h.size arr.size).obj E.n=h.size:=if_pos rfl;have bE:(E.EG h.size arr.size).base E.n=0:=if_pos rfl;have tE:(E.EG h.size arr.size).top E.n=arr.size:=if_pos rfl;have P1:Pr (fun _=>False) E h (E.EG h.size arr.size) (h.push (.cells arr T0)):=by
  refine Pr.push (fun b o hb _ => ?_) (Nat.le_succ _) (fun i hi _ => ?_) (fun _ _=>rfl) (fun i hi => ?_)
  ·simp only [Env.EG];rw [if_neg (by omega)]
  ·refine ⟨?_, ?_, ?_⟩ <;> simp only [Env.EG] <;> rw [if_neg (by omega)]
  ·have:(E.EG h.size arr.size).Al i=E.Al i:=if_neg (by omega)
   rw [this];exact ⟨id,z5q _,fun _=>rfl⟩
 have J3:=P1.shut (by simp) Rl.fresh
 refine ⟨P1,⟨Rl.size,Rl.AP,Rl.Bi,by simp [Env.EG,Rl.n],fun t v hv=>(Rl.regs t v hv).mono P1 J3 (by simp) (by simp),fun s cs hs=>(Rl.boxes s cs hs).mono P1 J3 (by simp) (by simp),fun i ob hi => ?_,
         fun b o hb => ?_⟩,fun tg=>⟨by rw [hn];exact zBq _,by omega,by rw [hn,vE];exact z5q _,_,_,rfl,z5q _,by simp,fun _ y hy => ?_,fun _ _ => ?_⟩⟩
 ·by_cases M4:i<st.sg.length
  ·simp only [zgq M4] at hi
   exact (Rl.Q0 i ob hi).mono P1 J3 (by rw [<- hn];exact M4) (by simp) (by simp)
  ·have Kc:i=st.sg.length:=by
    have:=(z0q.1 hi).1;simp at this;omega
   subst Kc;simp only [zdq (z5q _),zvq,z2q,Option.some.injEq] at hi;subst hi;rw [hn];refine ⟨vE,by omega,by omega, .inr ⟨arr,T0,(0,0),by rw [oE];exact Lr,by rw [bE,tE,G.1];omega,by rw [tE];exact z5q _,fun o h3 h4 => ?_,fun j d hd => ?_⟩⟩
   ·rw [oE]
    rw [tE] at h4;refine ⟨?_,by omega⟩
    simp only [Env.EG,if_true];rw [if_pos h4]
   ·obtain ⟨vs,v1,v2,v3⟩:=G.2 j d hd
    exact ⟨vs,v1,fun y u hu=>by rw [bE,zuq];exact v2 y u hu,v3.mono J3⟩
 ·have Ef:h.size+1<=b:=by simpa using hb
  simp only [Env.EG];rw [if_neg (by omega)]
  exact Rl.fresh b o (by omega)
 ·simp only [Option.some.injEq] at hy;rw [<- hy]
 ·rw [hn,oE,bE,tE,G.1]
  exact ⟨rfl,by omega⟩
theorem A5Z {n:Nat} (D9:o.op = .buildSlice t n ps) (H:(ob (Gy C.P t) fun e=>ob (tz C.P e) fun z=>ob (Jo C.P e) fun zs=>ob (qN z zs) fun ze =>
   if (n * z.1<=2 ^ 24/\z.1≠0)/\zs.length=z.1/\zs.all (fun c=>J5 c.2)=true then He C.P e z st ps.toList (List.replicate n ze) fun ds =>
    if J4 fl.FF o.dst then k ({ st with sg:=st.sg++[D8.U1 1 z.1 ds] }.put o.dst .undef (.U1 st.sg.length 1 z.1 n)) else k (st.put o.dst (.list z.1 ds) .full) else none)=some x) (Rl:J6 E st a w.heap) (T:Then E w k x K):Gp C.P o a w K:=by
 obtain ⟨e,he,H⟩:=A9 H;obtain ⟨z,hz,H⟩:=A9 H;obtain ⟨zs,VO,H⟩:=A9 H;obtain ⟨ze,dZ,H⟩:=A9 H;obtain ⟨⟨⟨C3O,hz0⟩,hzl,Yd⟩,H⟩:=L6 H;have hu:C.P.underlying t=some (.slice e):=by
  unfold Gy at he
  split at he
  ·simp only [Option.some.injEq] at he;subst he;assumption
  ·simp at he
 obtain ⟨inf,zv,AY,Pv,w9⟩:=Qr VO;obtain ⟨inf',dsc,B2k,hue,hzz,E_⟩:=GV hz;rw [AY] at B2k;simp only [Option.some.injEq] at B2k;subst B2k;have o_:z.1=inf.size:=by rw [hzz]
 have C0f:zv.cells.size=z.1:=by have:=(w9 E w.heap).1;simp at this;omega
 have hRC:=B1a (E:=E) (h:=w.heap) dZ (w9 E w.heap) Yd;have B2n:fu E.S w.heap z.1 (List.replicate n ze) ((Array.range (n * z.1)).map (zv.cells[· % zv.cells.size]!)):=by
  refine ⟨by simp,fun i d hd => ?_⟩
  have hi:i<n:=by have:=(z0q.1 hd).1;simpa using this
  rw [List.getElem?_replicate,if_pos hi] at hd;simp only [Option.some.injEq] at hd;subst hd;refine ⟨zv.cells.toList,by simpa using C0f,fun j u hu => ?_,hRC⟩
  have hj:j<z.1:=by have:=(z0q.1 hu).1;simp at this;omega
  have M4:=seg_lt hi hj;rw [Array.getElem?_map,Array.getElem?_range,if_pos M4];simp only [znq,Option.some.injEq];rw [C0f,zJq,Nat.mul_add_mod,Nat.mod_eq_of_lt hj];rw [getElem!_def,show zv.cells[j]?=some u from by simpa using hu]
 obtain ⟨ds,arr,H,hdl,B2j,hsg⟩:=uf E_ Rl ps.toList _ _ H B2n;have hdn:ds.length=n:=by simpa using hdl
 have P1:=pI E w.heap (.cells arr e) arr.size;have O8:(execOp a.eval o).run C.P w = .ok (.value (.slice (some ⟨w.heap.size,0,none⟩) n n)) (w.alloc (.cells arr e)):=by
  simp only [execOp,D9];refine Ab ?_;unfold Instr.buildSlice;have A8V:Instr.fill (fun i=>some (i * z.1,z.1)) ((Array.range (n * z.1)).map (zv.cells[· % zv.cells.size]!)) (ps.map fun (i,y)=>(i,a.eval y)).toList=some arr:=by
   rw [<- B2j];simp
  simp only [Sem.run_bind,run_underlying hu,Result.andThen_ok,LA hz,Sem.run_ite];rw [if_neg (by omega)]
  by_cases hn0:n * z.1=0
  ·have:((Array.range (n * z.1)).map (zv.cells[· % zv.cells.size]!))=((Array.range (n * z.1)).map ((#[]:Array Value)[· % (#[]:Array Value).size]!)):=by rw [hn0];simp
   rw [this] at A8V;simp only [Sem.run_pure,Result.andThen_ok,if_pos hn0,A8V];rfl
  ·simp only [if_neg hn0,zeroValue,typeInfo,Sem.run_bind,run_program,Result.andThen_ok,AY,Sem.run_pure,Pv,A8V]
   rfl
 by_cases hq:J4 fl.FF o.dst=true
 ·rw [if_pos hq] at H
  obtain ⟨P2,R2,R3⟩:=Rl.EG (T0:=e) hsg hz0;exact AR O8 (T (E.EG w.heap.size arr.size) _ _ (w.alloc (.cells arr e)) H (R2.put fun t0 _=>by rw [<- hdn];exact RR.Ad (R3 _)) (P2.weaken (by simp)))
 rw [if_neg hq] at H;refine AR O8 (T (E.PT w.heap.size arr.size) _ _ (w.alloc (.cells arr e)) H ((Rl.push P1 rfl fun b o hb => ?_).put fun t0 _ => ?_) (P1.weaken (by simp)))
 ·simp only [zwq] at hb
  simp only [Env.PT];rw [if_neg (by omega)]
  exact Rl.fresh b o (by omega)
 ·refine ⟨?_,⟨_,_,rfl⟩,_,_,rfl⟩
  have:=B0K (T0:=e) Rl.fresh hsg (fun _=>by omega)
  rw [hdn] at this;exact this
def QV (y:Operand) (t off:Nat) (T:Tag):Tag :=
 match y,T with
 | .tmp s', .sp 0 s (b+1)=>if s'=s then .sp 1 t (off+b) else .sp 0 s (b+1)
 | _,T=>T
theorem Ns {t:Nat} {T:Tag} (h:∀ s b,y = .tmp s->T ≠ .sp 0 s b):QV y t off T=T:=by
 unfold QV
 split
 ·split
  ·rename_i hx;subst hx;exact absurd rfl (h _ _ rfl)
  ·rfl
 ·rfl
theorem DY.box {E:Env} {t j:Nat} {r:DV × Meta} (hy:(∀ i,y ≠ .tmp i)->r.2 ≠ .own) (H:DY E h (.sp 0 (mi y) (j+1)) r v):DY (E.re (QV y t off)) h (.sp 1 t (off+j)) r v:=by
 obtain ⟨a1,a2,a3,a4⟩:=H;refine ⟨a1,a2,a3, ?_⟩
 by_cases hx:∃ i,y = .tmp i
 ·obtain ⟨i,rfl⟩:=hx
  exact a4.re (Ns (by simp)) (by simp [QV,mi])
 ·have ZL:=hy fun i hi=>hx ⟨i,hi⟩
  have a5:J8 (E.re (QV y t off)) h .other r.1 r.2 v:=(a4.tag ZL:J8 E h .other r.1 r.2 v).re (Ns (by simp)) (Ns (by simp))
  exact a5.tag ZL
theorem A6T {r:DV × Meta} (hs:src P t st y=some r) (hy:∀ i,y ≠ .tmp i):∀ ms,r.2 ≠ .Dw ms:=by
 cases y with
 | tmp i=>exact absurd rfl (hy i)
 | const v=>exact A6v hs
 | func f=>simp only [src,Option.some.injEq] at hs;subst hs;simp
 | global g=>simp [src] at hs
theorem B8L (D9:o.op = .box t y) (H:(ob (src C.P t st y) fun r =>
 if J4 fl.Yl o.dst then ob (tz C.P t) fun z=>og (J5 r.2 && C9 z.1 r.1 && z.2) (k (st.put o.dst (.Mv z.1 r.1) .val))
 else if J4 fl.M7 o.dst then IX C.P t r fun cs=>og (PD false o.dst st) (k ((st.release y).Ei false o.dst cs))
 else explode C.P t r fun cs=>og (PD (J4 fl.shared o.dst) o.dst st) (k (st.Ei (J4 fl.shared o.dst) o.dst cs)))=some x) (Rl:J6 E st a w.heap) (T:Then E w k x K):Gp C.P o a w K:=by
 obtain ⟨r,hr,H⟩:=A9 H;have O8:(execOp a.eval o).run C.P w = .ok (.value (.pointer (some ⟨w.heap.size,0,none⟩))) (w.alloc (.cells (a.eval y).cells t)):=by
  simp only [execOp,D9];refine Ab ?_;simp [Instr.box,newVar,newRow]
 have e1:=Rl.src hr
 by_cases JR:J4 fl.Yl o.dst=true
 ·-- a variable that is sealed at once
  rw [if_pos JR] at H;obtain ⟨z,hz,H⟩:=A9 H;obtain ⟨hd,H⟩:=F4 H;simp only [z8q] at hd;obtain ⟨vs,hv,hs,hR⟩:=fo hd.1.2 (e1.data hd.1.1);have P1:=pI E w.heap (.cells (a.eval y).cells t) z.1;refine AR O8 (T (E.PT w.heap.size z.1) _ _ (w.alloc (.cells (a.eval y).cells t)) H ((Rl.push P1 rfl fun b o hb => ?_).put fun t0 _ => ?_) (P1.weaken (by simp)))
  ·simp only [zwq] at hb
   simp only [Env.PT];rw [if_neg (by omega)]
   exact Rl.fresh b o (by omega)
  ·show RV _ _ _ _
   have J3:=P1.shut (by simp) Rl.fresh
   simp only [RV,RC];refine ⟨_,_,rfl,vs.toList,by simpa using hs,fun j v MO => ?_,hR.mono J3⟩
   have hj:j<z.1:=by have:=(z0q.1 MO).1;simp at this;omega
   rw [zuq];refine ⟨?_, ?_⟩
   ·show hc (w.heap.push _) w.heap.size j=_
    rw [zB,hv];simpa [Value.cells] using MO
   ·simp only [Env.S,Env.PT,if_true]
    rw [if_pos hj]
 rw [if_neg JR] at H
 by_cases R6:J4 fl.M7 o.dst=true
 ·rw [if_pos R6] at H
  have uU:∃ z,tz C.P t=some z:=by
   unfold IX at H;obtain ⟨z,hz,-⟩:=A9 H;exact ⟨z,hz⟩
  obtain ⟨z,uU⟩:=uU;obtain ⟨xs,H,hl,⟨lc,w9⟩,ZL⟩:=A14 uU e1 H;obtain ⟨_,H⟩:=F4 H;cases hd:o.dst with
  | none=>rw [hd] at R6;simp [J4] at R6
  | some t0 =>
    rw [hd] at H;refine AR O8 ?_;rw [hd];simp only [St.Ei,zoq,if_false] at H;have Rl1:=Rl.release (x:=y) (f:=QV y t0 0) fun T hT=>Ns hT
    have P0:Pr L8 E w.heap (E.re (QV y t0 0)) w.heap:=Pr.re fun T hT=>Ns fun s b _ he=>hT (by rw [he];simp [L8])
    obtain ⟨R1,P1⟩:=Rl1.Er (t0:=t0) (T0:=t) lc fun j r' v Aw hv=>by
     have:=(w9 j r' v Aw hv).box (t:=t0) (off:=0) fun hy=>ZL (A6T hr hy) r' (zxq Aw)
     rwa [zuq] at this
    rw [Array.toArray_toList] at R1 P1;refine T _ _ _ (w.alloc (.cells (a.eval y).cells t)) H (R1.put fun t1 ht => ?_) (P0.trans (P1.weaken (by rintro T rfl;simp [L8])))
    simp only [Option.some.injEq] at ht;subst ht;refine RR.Ad ⟨rfl, ?_⟩;simp only [Env.Er,if_true]
 rw [if_neg R6] at H;have uU:∃ z,tz C.P t=some z:=by
  unfold explode at H;obtain ⟨z,hz,-⟩:=A9 H;exact ⟨z,hz⟩
 obtain ⟨z,uU⟩:=uU;obtain ⟨xs,H,hl,w9⟩:=Zg uU e1 H;obtain ⟨_,H9⟩:=F4 H;exact A4X w9 H9 (T0:=t) (by simpa using O8) Rl @T
def Env.OO (E:Env) (b:Nat):Env :=
 { E with obj:=fun i=>if i=E.n then b else E.obj i,base:=fun i=>if i=E.n then 0 else E.base i,n:=E.n+1,Al:=fun i=>if i=E.n then 0 else E.Al i,
          O:=fun b' o=>if b'=b then .obj E.n else E.O b' o }
theorem B0O (D9:o.op = .makeMap t none) {ks:Bool} (H:k ({ st with sg:=st.sg++[D8.map ks []] }.put o.dst .undef (.map st.sg.length))=some x) (Rl:J6 E st a w.heap) (T:Then E w k x K):Gp C.P o a w K:=by
 have O8:(execOp a.eval o).run C.P w = .ok (.value (.map (some w.heap.size))) (w.alloc (.map #[] 0)):=by
  simp only [execOp,D9];refine Ab ?_;simp [Instr.makeMap]
 have P1:Pr (fun _=>False) E w.heap (E.OO w.heap.size) (w.heap.push (.map #[] 0)):=by
  refine Pr.push (fun b o hb _ => ?_) (by simp [Env.OO]) (fun i hi _ => ?_) (fun _ _=>rfl) (aK rfl)
  ·simp only [Env.OO];rw [if_neg (by omega)]
  ·refine ⟨?_, ?_,rfl⟩ <;> simp only [Env.OO] <;> rw [if_neg (by omega)]
 have J3:=P1.shut (by simp) Rl.fresh
 have hn:=Rl.n;have R1:J6 (E.OO w.heap.size) { st with sg:=st.sg++[D8.map ks []] } a (w.heap.push (.map #[] 0)):=by
  refine ⟨Rl.size,Rl.AP,Rl.Bi,by simp [Env.In,Env.OO,Rl.n],fun t v hv=>(Rl.regs t v hv).mono P1 J3 (by simp) (by simp),fun s cs hs=>(Rl.boxes s cs hs).mono P1 J3 (by simp) (by simp),fun i ob hi => ?_,
   fun b o hb => ?_⟩
  ·by_cases M4:i<st.sg.length
   ·simp only [zgq M4] at hi
    exact (Rl.Q0 i ob hi).mono P1 J3 (CO Rl hi) (by simp) (by simp)
   ·have Kc:i=st.sg.length:=by
     have:=(z0q.1 hi).1;simp at this;omega
    subst Kc;simp only [zdq (z5q _),zvq,z2q,Option.some.injEq] at hi;subst hi;refine ⟨#[],0, ?_,fun o => ?_,⟨rfl,by simp⟩,by simp [nN]⟩
    ·simp only [Env.OO,hn,if_true];exact Lr
    ·simp only [Env.OO,hn,if_true]
  ·have Ef:w.heap.size+1<=b:=by simpa using hb
   simp only [Env.OO];rw [if_neg (by omega)]
   exact Rl.fresh b o (by omega)
 refine AR O8 (T _ _ _ (w.alloc (.map #[] 0)) H (R1.put fun t0 _ => ?_) (P1.weaken (by simp)))
 refine RR.Ad ⟨by simp [Env.In,Env.OO,hn], ?_⟩
 simp only [Env.OO,hn,if_true]
theorem iW {P:Program}:∀ {ts:List TypeId} {xs:List Operand} {rs:List (DV × Meta)},Ie P st ts xs=some rs->rs.length=xs.length/\∀ (i:Nat) y r,xs[i]?=some y->rs[i]?=some r->∃ t,src P t st y=some r
 | ts,[],rs,H=>by
   cases ts <;> simp only [Ie,Option.some.injEq] at H <;> subst H <;> simp
 | t::ts,y::xs,rs,H=>by
   simp only [Ie] at H;obtain ⟨r,hr,H⟩:=A9 H;obtain ⟨rs',hrs,H⟩:=A9 H;simp only [Option.some.injEq] at H;subst H;obtain ⟨l1,l2⟩:=iW hrs;refine ⟨by simp [l1],fun i z r' hz Aw => ?_⟩
   cases i with
   | zero=>simp only [z2q,Option.some.injEq] at hz Aw;subst hz Aw;exact ⟨t,hr⟩
   | succ i=>simp only [zeq] at hz Aw;exact l2 i z r' hz Aw
 | [],y::xs,rs,H=>by
   simp only [Ie] at H;obtain ⟨r,hr,H⟩:=A9 H;obtain ⟨rs',hrs,H⟩:=A9 H;simp only [Option.some.injEq] at H;subst H;obtain ⟨l1,l2⟩:=iW hrs;refine ⟨by simp [l1],fun i z r' hz Aw => ?_⟩
   cases i with
   | zero=>simp only [z2q,Option.some.injEq] at hz Aw;subst hz Aw;exact ⟨_,hr⟩
   | succ i=>simp only [zeq] at hz Aw;exact l2 i z r' hz Aw
theorem ql:∀ {rs:List (DV × Meta)} {ms:List (Nat × Nat)},Vb rs=some ms->rs.length=ms.length/\∀ (i:Nat) r m,rs[i]?=some r->ms[i]?=some m->r.2 = .ptr m.1 m.2
 | [],ms,H=>by simp only [Vb,Option.some.injEq] at H;subst H;simp
 | (d,m)::rs,ms,H=>by
   unfold Vb at H
   split at H
   ·rename_i heq;simp at heq
   ·rename_i heq
    simp only [List.cons.injEq,Prod.mk.injEq] at heq;obtain ⟨⟨-,rfl⟩,rfl⟩:=heq;obtain ⟨ms',uS,H⟩:=A9 H;simp only [Option.some.injEq] at H;subst H;obtain ⟨l1,l2⟩:=ql uS;refine ⟨by simp [l1],fun i r m hr hm => ?_⟩
    cases i with
    | zero=>simp only [z2q,Option.some.injEq] at hr hm;subst hr hm;rfl
    | succ i=>simp only [zeq] at hr hm;exact l2 i r m hr hm
   ·simp at H
theorem A9E {f:FuncId} {first caps:Array Operand} (D9:o.op = .makeFunc (.func f) first caps) (H:(if first.isEmpty then ob (Ie C.P st [] caps.toList) fun rs=>ob (Vb rs) fun ms=>k (st.put o.dst .undef (.fn f ms)) else none)=some x) (Rl:J6 E st a w.heap) (T:Then E w k x K):Gp C.P o a w K:=by
 obtain ⟨hf,H⟩:=L6 H;obtain ⟨rs,hrs,H⟩:=A9 H;obtain ⟨ms,uS,H⟩:=A9 H;obtain ⟨l1,l2⟩:=iW hrs;obtain ⟨m1,m2⟩:=ql uS;have key:∀ (i:Nat) y,caps.toList[i]?=some y->∃ m,ms[i]?=some m/\E.In m.1/\a.eval y = .pointer (some ⟨E.obj m.1,m.2,none⟩):=by
  intro i y hy;have hi:i<caps.toList.length:=(z0q.1 hy).1;have hr:rs[i]?=some (rs[i]'(by omega)):=z3q (by omega)
  have hm:ms[i]?=some (ms[i]'(by omega)):=z3q (by omega)
  obtain ⟨t,ht⟩:=l2 i y _ hy hr;have e:=Rl.src ht;rw [m2 i _ _ hr hm] at e;simp only [RR,J8] at e;exact ⟨_,hm,e⟩
 refine T9 (v := .func (.func f) #[] (caps.map a.eval)) ?_ H Rl (fun _ _=>RR.Ad ⟨?_, ?_⟩) @T
 ·simp only [execOp,D9]
  refine Ab ?_;have:first = #[]:=by simpa using hf
  subst this;simp [Instr.makeFunc]
 ·congr 1
  apply Array.toList_inj.1;simp only [Array.toList_map];apply List.ext_getElem?;intro i;simp only [zbq];cases hy:caps.toList[i]? with
  | none =>
    have:ms[i]?=none:=by
     rw [List.getElem?_eq_none_iff] at hy ⊢;omega
    simp [this]
  | some y =>
    obtain ⟨m,hm,-,he⟩:=key i y hy;simp [hm,he]
 ·intro c hc
  obtain ⟨i,hi,Cq⟩:=List.mem_iff_getElem.1 hc;have hy:caps.toList[i]?=some (caps.toList[i]'(by omega)):=z3q (by omega)
  obtain ⟨m,hm,M4,-⟩:=key i _ hy;rw [z3q hi,Cq] at hm;simp only [Option.some.injEq] at hm;subst hm;exact M4
end
end Go.Su
