/-
  Parts of the proof, merged: SuData, SuEval, SuRel, SuState, SuBase, SuOp1, SuOp2, SuOp3, SuOp4, SuOp5, SuOp6, SuOp7, SuOp8, SuOp9.
-/
import Derived.Calls
import Derived.Control
import Derived.Laws.Cells
import Derived.Laws.Entries
import Derived.Laws.Sem
import Derived.Laws.Slices
import Derived.Laws.StructEq
import Derived.Laws.Tables
import Derived.Laws.World
import Derived.LoopN
import Derived.Orders
set_option linter.unusedVariables false
set_option linter.unusedSimpArgs false
/-
 THE DATA MACHINE, part 1: values as plain data, states, and one operation at a time.
 No program is named here. What is proved about it stands in the parts behind.
-/
open Array renaming getElem?_eq_some_iff → z6q, getElem?_setIfInBounds_self_of_lt → zmq, getElem?_eq_getElem → zsq, getElem?_setIfInBounds_ne → ztq, size_push → zBq
open Bool renaming and_eq_true → z9q, false_eq_true → zrq
open List renaming getElem?_eq_some_iff → z0q, getD_eq_getElem?_getD → z1q, getElem?_eq_getElem → z2q, getElem?_cons_zero → z3q, getElem?_set_self → z4q, getElem?_set_ne → z5q, getElem?_take_of_lt → z7q, getElem?_map → zbq, getElem?_drop → zdq, getElem?_cons_succ → zeq, getElem?_append_right → zfq, length_take → zgq, getElem?_append_left → zhq, length_drop → ziq, getElem?_eq_none → znq, mem_iff_getElem → zoq, mem_of_getElem? → zuq, length_set → zvq, eq_nil_of_length_eq_zero → zwq, all_eq_true → zCq, length_cons → zDq, length_map → zEq, size_toArray → zHq, getElem?_range → zIq, mem_cons → zJq, append_assoc → zMq, ext_getElem? → zPq, zipIdx_cons → zQq, tail_drop → zTq, map_cons → zUq
open Nat renaming le_refl → z8q, mul_le_mul_right → zcq, add_zero → zjq, lt_of_lt_of_le → zkq, add_assoc → zlq, succ_mul → zpq, lt_or_ge → zxq, zero_add → zyq, sub_self → zzq, lt_succ_self → zGq, add_comm → zKq, le_trans → zLq, mul_comm → zNq, div_eq_of_lt → zOq, mul_add_div → zRq, add_mul → zSq
open Option renaming map_eq_some_iff → zaq, map_some → zqq, getD_some → zAq, isNone_iff_eq_none → zFq
namespace Go.Su
set_option linter.defProp false
def D9{α : Type _}(a b : α):(some a=some b)=(a=b):=Option.some.injEq a b
def F5{p:Prop}[Decidable p]:(decide p=true)=p:=decide_eq_true_eq
def Q8{p:Prop}{_:Decidable p}:(decide p=false)↔¬p:=decide_eq_false_iff_not
def D5{c:Prop}{_:Decidable c}(hc:c){α : Sort _}{t e : α}:ite c t e=t:=if_pos hc
def C8{c:Prop}{_:Decidable c}(hc:¬c){α : Sort _}{t e : α}:ite c t e=e:=if_neg hc
def H5{α : Sort _}{_:Decidable True}(t e : α):ite True t e=t:=if_true t e
def F9{α : Sort _}{_:Decidable False}(t e : α):ite False t e=e:=if_false t e
def L8(h:Decidable True):@decide True h=true:=decide_true h
def R4(h:Decidable False):@decide False h=false:=decide_false h
inductive DV where
 |undef
 |int (k:IntKind) (n:Int)
 |bool (b:Bool)
 |str (s:ByteArray)
 |agg (cs:List DV)
 |I4 (cs:List DV)
 |list (sz:Nat) (ds:List DV)
 |LY
 |P_ (sz:Nat) (d:DV)
 deriving Inhabited
inductive H6 where
 |val
 |full
 |own
 |loc (s o:Nat)
 |Re (ag:Bool) (sz o:Nat)
 |ptr (i o:Nat)
 |FZ
 |map (i:Nat)
 |Tv
 |arr (i sz off len:Nat)
 |fI (i sz idx o:Nat)
 |opt (i sz idx:Nat)
 |BF (i n sz len:Nat)
 |wJ (i n sz idx o:Nat)
 |fn (f:FuncId) (caps:List (Nat×Nat))
 |DJ (ms:List H6)
 |FW (ms:List H6)
 deriving Inhabited
inductive H7 where
 |box (cs:List (DV×H6))
 |arr (sz:Nat) (ds:List DV)
 |map (ks:Bool) (es:List (DV×DV))
 |opn (sz:Nat) (pre ds:List DV)
 |BF (n sz:Nat) (ds:List DV)
 deriving Inhabited
structure St where
 tm:List DV
 mt:List H6
 bx:List (Option (List (DV×H6)))
 sg:List H7
variable {β : Type}
def ob{α : Type}(x:Option α)(f : α->Option β):Option β :=
 match x with
 |some a=>f a
 |none=>none
variable (d:DV)
def F3(t e:Option β):Option β :=
 match d with
 |.bool true=>t
 |.bool false=>e
 |_=>none
def og(t:Bool)(x:Option β):Option β :=
 match t with
 |true=>x
 |false=>none
def E5(n:Nat):DV->Bool
 |.agg cs=>cs.length==n
 |_=>false
def A7(j:Nat):DV->DV
 |.agg cs=>cs.getD j .undef
 |_=>.undef
def cells(n o:Nat)(d:DV):List DV:=(List.range n).map λj=>A7 (o+j) d
def M7:DV->Bool
 |.agg _ | .I4 _=>false
 |_=>true
def J7:DV->Bool
 |.int _ _=>true
 |.bool _=>true
 |.str _=>true
 |.list _ _=>true
 |.LY=>true
 |.P_ _ _=>true
 |_=>false
variable (sz:Nat)
def A6X:DV->Option DV
 |.P_ sz' d=>if sz'=sz then some d else none
 |_=>none
def L6:DV->Option DV
 |.list _ ds=>some (.int .i64 ds.length)
 |_=>none
def aC:DV->Option (Nat×List DV)
 |.list sz ds=>some (sz,ds)
 |_=>none
def ES:DV->Option DV
 |.str s=>some (.int .i64 s.size)
 |_=>none
def F7(d i:DV):Option DV :=
 match d,i with
 |.list sz' ds,.int _ n=>if sz'=sz/\0<=n then ds[n.toNat]? else none
 |_,_=>none
def Af(i:DV):Option DV :=
 match d,i with
 |.str s,.int _ n=>if 0<=n then(s.data[n.toNat]?).map λb=>.int .u8 b.toNat else none
 |_,_=>none
def J9:Nat:=2 ^ 32
def AP(d e:DV):Option DV :=
 match d,e with
 |.list a ds,.list b es=>if (a=sz/\b=sz)/\ds.length+es.length<=J9 then some (.list sz (ds++es))else none
 |_,_=>none
def XE(d e:DV):Option (List DV×List DV) :=
 match d,e with
 |.list a ds,.list b es=>if (a=sz/\b=sz)/\ds.length+es.length<=J9/\0<es.length then some (ds,es)else none
 |_,_=>none
def bnd(dflt:Nat):Option DV->Option Nat
 |none=>some dflt
 |some (.int _ n)=>if 0<=n then some n.toNat else none
 |_=>none
def Cz(d:DV)(lo hi:Option DV):Option DV :=
 match d with
 |.list sz' ds=>ob (bnd ds.length hi) λh=>ob (bnd 0 lo) λl=>if sz'=sz/\l<=h/\h<=ds.length then some (.list sz ((ds.take h).drop l))else none
 |_=>none
def tL(lo hi:Option DV):Option DV :=
 match d with
 |.str s=>ob (bnd s.size hi) λh=>ob (bnd 0 lo) λl=>if l<=h/\h<=s.size then some (.str (s.extract l h))else none
 |_=>none
def Yq(d:DV)(lo:Option DV)(hi mx:DV):Option DV :=
 match hi,mx with
 |.int _ h,.int _ m=>if h=m then Cz sz d lo (some hi)else none
 |_,_=>none
inductive LK where
 |int | bool | str
def A18(k:LK)(x y:DV):Option Bool :=
 match k,x,y with
 |.int,.int k a,.int k' b=>if k=k' then some (a==b)else none
 |.bool,.bool a,.bool b=>some (a==b)
 |.str,.str a,.str b=>some (a.toList==b.toList)
 |_,_,_=>none
def Eg:List LK->List DV->List DV->Option Bool
 |[],[],[]=>some true
 |k::ks,x::xs,y::ys=>ob (A18 k x y) λb=>if b then Eg ks xs ys else some false
 |_,_,_=>none
def JH:List UInt8->List UInt8->Bool
 |_,[]=>false
 |[],_::_=>true
 |a::x,b::y=>a<b||(a==b&&JH x y)
def Le:BinOp->Bool
 |.shl=>true
 |.shr=>true
 |_=>false
variable (op:BinOp)(k:IntKind)
def B9w(a b:Int):Option DV :=
 if b<0 then none else
 match op with
 |.shl=>some (.int k (k.wrap (a * 2 ^ (min b.toNat k.bits))))
 |.shr=>some (.int k (a.fdiv (2 ^ (min b.toNat k.bits))))
 |_=>none
def NS(a b:Int):Option DV :=
 match op with
 |.add=>some (.int k (k.wrap (a+b)))
 |.sub=>some (.int k (k.wrap (a-b)))
 |.mul=>some (.int k (k.wrap (a * b)))
 |.eql=>some (.bool (a==b))
 |.neq=>some (.bool (a != b))
 |.lss=>some (.bool (a<b))
 |.leq=>some (.bool (a<=b))
 |.gtr=>some (.bool (a>b))
 |.geq=>some (.bool (a ≥ b))
 |.quo=>if b=0 then none else some (.int k (k.wrap (a.tdiv b)))
 |.rem=>if b=0 then none else some (.int k (a.tmod b))
 |.and=>some (.int k (k.wrap (BitVec.ofInt k.bits a &&& BitVec.ofInt k.bits b).toNat))
 |.or=>some (.int k (k.wrap (BitVec.ofInt k.bits a ||| BitVec.ofInt k.bits b).toNat))
 |.xor=>some (.int k (k.wrap (BitVec.ofInt k.bits a ^^^ BitVec.ofInt k.bits b).toNat))
 |_=>none
def tN(a b:ByteArray):Option DV :=
 match op with
 |.add=>if a.size+b.size<=J9 then some (.str (a++b))else none
 |.eql=>some (.bool (a.toList==b.toList))
 |.neq=>some (.bool !(a.toList==b.toList))
 |.lss=>some (.bool (JH a.toList b.toList))
 |.leq=>some (.bool (JH a.toList b.toList||a.toList==b.toList))
 |.gtr=>some (.bool !(JH a.toList b.toList||a.toList==b.toList))
 |.geq=>some (.bool !JH a.toList b.toList)
 |_=>none
variable (x:DV)
def D7(y:DV):Option DV :=
 match x,y with
 |.int k a,.int k' b=>match Le op with
   |true=>B9w op k a b
   |false=>if k=k' then NS op k a b else none
 |.str a,.str b=>tN op a b
 |_,_=>none
def A17(y:DV):Option Bool :=
 match x,y with
 |.bool a,.bool b=>some (a==b)
 |_,_=>none
def jk(ks:List LK)(x y:DV):Option Bool :=
 match x,y with
 |.agg xs,.agg ys=>Eg ks xs ys
 |_,_=>none
def R8(op:UnOp)(x:DV):Option DV :=
 match op,x with
 |.not,.bool b=>some (.bool !b)
 |.neg,.int k n=>some (.int k (k.wrap (0-n)))
 |_,_=>none
def B2X(c a b:DV):Option DV :=
 match c with
 |.bool true=>some a
 |.bool false=>some b
 |_=>none
def jm(y:DV):Option DV :=
 match x,y with
 |.int k a,.int k' b=>if k=k' then some (.int k (if b>a then b else a))else none
 |_,_=>none
def jo(y:DV):Option DV :=
 match x,y with
 |.int k a,.int k' b=>if k=k' then some (.int k (if b<a then b else a))else none
 |_,_=>none
def XF:DV->Option DV
 |.int _ n=>some (.int k (k.wrap n))
 |_=>none
def K5(i:Nat):DV->Option DV
 |.I4 cs=>cs[i]?
 |_=>none
def DK(y:DV):Bool :=
 match x,y with
 |.int _ a,.int _ b=>a==b
 |.str a,.str b=>a.toList==b.toList
 |_,_=>false
def Ao(ks:Bool):DV->Bool
 |.int k _=> !ks&&k == .i64
 |.str _=>ks
 |_=>false
def AQ(es:List (DV×DV))(k:DV):Option DV:=(es.find? λe=>DK k e.1).map (·.2)
def BJ:List (DV×DV)->DV->DV->List (DV×DV)
 |[],k,v=>[(k,v)]
 |e::es,k,v=>if DK k e.1 then(e.1,v)::es else e::BJ es k v
abbrev R6:DV:=.agg [A7 0 d,A7 1 d,A7 2 d]
abbrev IL:DV:=.agg [A7 0 d,A7 1 d,A7 2 d,A7 3 d,A7 4 d,A7 5 d,A7 6 d]
abbrev AO:DV:=.agg [A7 0 d,A7 1 d,A7 2 d,A7 3 d,A7 4 d,A7 5 d,A7 6 d,A7 7 d,A7 8 d,A7 9 d,A7 10 d,A7 11 d,A7 12 d,A7 13 d,A7 14 d]
abbrev A6P:DV:=.agg [A7 0 d,A7 1 d,A7 2 d,A7 3 d,A7 4 d,A7 5 d,A7 6 d,A7 7 d,A7 8 d,A7 9 d,A7 10 d,A7 11 d,A7 12 d,A7 13 d,A7 14 d,A7 15 d]
abbrev I7:DV:=.agg [A7 0 d,A7 1 d,A7 2 d,A7 3 d,A7 4 d,A7 5 d,A7 6 d,A7 7 d,A7 8 d,A7 9 d,A7 10 d,A7 11 d,A7 12 d,A7 13 d,A7 14 d,A7 15 d,A7 16 d,A7 17 d,A7 18 d,A7 19 d]
abbrev iI(n:Int):DV:=.int .i64 n
end Go.Su

/-
 THE DATA MACHINE, part 2: the program's own code, run over plain data. Nothing is proved here.
-/
namespace Go.Su
set_option linter.defProp false
noncomputable section
inductive MK where
 |val | own
 |ptr
 |dU (n:Nat) (os:List Nat)
 deriving Inhabited
structure D_ where
 params:List MK
 results:List MK
 lock:Bool:=false
structure I5 where
 Q6:List Nat:=[]
 shared:List Nat:=[]
 hide:List Nat:=[]
 opn:List Nat:=[]
 Hf:List Nat:=[]
 C2G:List Nat:=[]
 B8B:List (Nat×Nat):=[]
 refs:List (Nat×Nat):=[]
 eu:List Nat:=[]
 keep:List (Nat×List Nat×List Nat×List Nat×List Nat):=[]
structure Cut where
 pre:List Code
 mid:St->Option St
 post:Code
inductive C46:Type
def Nq:List Code->Code->Code
 |[],c=>c
 |p::ps,c=>.seq p (Nq ps c)
structure AB where
 P:Program
 fl:FuncId->I5
 sig:FuncId->Option D_
 eZ:FuncId->Option Cut
 clone:FuncId->Bool
 tK:FuncId->Nat
 pV:FuncId->Option FuncId:=λ_=>none
 iter:FuncId->Option (List DV->Option (List DV)):=λ_=>none
 ref:TypeId->Bool:=λ_=>false
 C1i:FuncId->Option C46:=λ_=>none
 dfn:FuncId->Bool:=λ_=>false
structure U1 where
 p:FuncId->List DV->Option DV
 r:FuncId->List (DV×H6)->List H7->Option (List DV×List H7)
def B4a:TypeDesc->Bool
 |.struct _=>true
 |.array _ _=>true
 |_=>false
variable (P:Program)(t:TypeId)
def tz:Option (Nat×Bool) :=ob (P.info? t) λi=>ob (P.underlying t) λd=>if B4a d||i.size==1 then some (i.size,B4a d)else none
def Jl:Option TypeId :=
 match P.underlying t with
 |some (.slice e)=>some e
 |_=>none
def B6I(f:Nat):Option Field :=
 match P.underlying t with
 |some (.struct fs)=>fs[f]?
 |_=>none
def C5w:Nat :=
 match Jl P t with
 |some e=>match tz P e with
   |some z=>z.1
   |none=>0
 |none=>0
def cst:Value->Option (DV×H6)
 |.int k n=>some (.int k n,.val)
 |.bool b=>some (.bool b,.val)
 |.string s=>some (.str s,.val)
 |.slice none 0 0=>some (.list (C5w P t) [],.full)
 |.pointer none=>some (.LY,.FZ)
 |.map none=>some (.undef,.Tv)
 |_=>none
def A4s(P:Program):Nat->TypeId->Option (List TypeId)
 |0,_=>none
 |n+1,t=>
   match P.underlying t with
   |some (.struct fs)=>fs.toList.foldr (λf acc=>ob (A4s P n f.type) λl=>ob acc λr=>some (l++r)) (some [])
   |some (.array m e)=>ob (A4s P n e) λl=>some (List.replicate m l).flatten
   |some _=>some [t]
   |none=>none
def bA(P:Program):List TypeId->List Value->Option (List (DV×H6))
 |[],[]=>some []
 |t::ts,v::vs=>ob (cst P t v) λr=>ob (bA P ts vs) λrs=>some (r::rs)
 |_,_=>none
def Mf:Option (List (DV×H6)) :=ob (A4s P 8 t) λts=>ob (P.info? t) λi=>ob i.zero λv=>bA P ts v.cells.toList
def bF:H6->H6
 |.own=>.val
 |m=>m
def dm:H6->H6
 |.own=>.val
 |.DJ ms=>.DJ (ms.map bF)
 |.FW ms=>.FW (ms.map bF)
 |m=>m
def M6:H6->Bool
 |.val=>true
 |.full=>true
 |.own=>true
 |.FZ=>true
 |.FW ms=>ms.all λm=>match m with
   |.val=>true
   |.full=>true
   |.own=>true
   |.FZ=>true
   |_=>false
 |_=>false
def w9:H6->Bool
 |.val=>true
 |.full=>true
 |.own=>true
 |.ptr _ _=>true
 |.FZ=>true
 |.map _=>true
 |.Tv=>true
 |.arr _ _ _ _=>true
 |.BF _ _ _ _=>true
 |.fn _ _=>true
 |_=>false
variable (st:St)
def St.get(t:Nat):DV×H6:=(st.tm.getD t .undef,st.mt.getD t .val)
variable (dst:Option Nat)(d:DV)(m:H6)
def St.put:St :=
 match dst with
 |none=>st
 |some t=>{ st with tm:=st.tm.set t d,mt:=st.mt.set t m }
def St.release:Operand->St
 |.tmp t=>{ st with mt:=st.mt.set t (dm (st.mt.getD t .val)) }
 |_=>st
variable (x:Operand)
def St.yn(m:H6):St :=
 match x with
 |.tmp t=>{ st with mt:=st.mt.set t m }
 |_=>st
def MU(s:Nat):H6->H6
 |.loc s' o=>if s'=s then .val else .loc s' o
 |m=>m
variable (shared:Bool)
def St.Gh(dst:Option Nat)(cs:List (DV×H6)):St :=
 match dst with
 |none=>st
 |some t=>
   if shared then{ st with sg:=st.sg++[H7.box cs] }.put dst .undef (.ptr st.sg.length 0)
   else{ st with mt:=st.mt.map (MU t),bx:=st.bx.set t (some cs) }.put dst .undef (.loc t 0)
def Mx(t:Nat)(mt:List H6):Bool :=
 mt.all λm=>match m with
  |.loc s _=>s != t
  |_=>true
def Sd(dst:Option Nat)(st:St):Bool :=
 match dst with
 |none=>true
 |some t=>shared||Mx t st.mt
def aO{α : Type}(ts:List Nat)(d : α):Nat->List α->List α
 |_,[]=>[]
 |i,x::xs=>(if ts.contains i then x else d)::aO ts d (i+1) xs
def Qd:H6->H6
 |.full=>.own
 |m=>m
def mP{α : Type}(f : α -> α)(ts:List Nat):Nat->List α->List α
 |_,[]=>[]
 |i,x::xs=>(if ts.contains i then f x else x)::mP f ts (i+1) xs
def ZZ:Option (List (DV×H6))->Option (List (DV×H6))
 |some cs=>some (cs.map λc=>(c.1,Qd c.2))
 |none=>none
def aV:H6:=if M6 m then .val else m
def yo:Option (List (DV×H6))->Option (List (DV×H6))
 |some cs=>some (cs.map λc=>(c.1,aV c.2))
 |none=>none
def St.keep(ts bs os vs:List Nat):St :={ st with tm:=aO ts .undef 0 st.tm,mt:=mP aV vs 0 (mP Qd os 0 (aO ts .val 0 st.mt)),bx:=mP yo vs 0 (mP ZZ os 0 (aO bs none 0 st.bx)) }
def src:Operand->Option (DV×H6)
 |.tmp x=>some (st.get x)
 |.const v=>cst P t v
 |.func f=>some (.undef,.fn f [])
 |.global _=>none
def LZ(P:Program)(st:St):List TypeId->List Operand->Option (List (DV×H6))
 |t::ts,x::xs=>ob (src P t st x) λr=>ob (LZ P st ts xs) λrs=>some (r::rs)
 |[],x::xs=>ob (src P 0 st x) λr=>ob (LZ P st [] xs) λrs=>some (r::rs)
 |_,[]=>some []
def yz:List DV->List H6->List (DV×H6)
 |d::ds,m::ms=>(d,m)::yz ds ms
 |_,_=>[]
variable (n:Nat)
def tH(r:DV×H6):Option (List (DV×H6)) :=
 match r.2 with
 |.val=>some ((cells n 0 r.1).map λd=>(d,.val))
 |.FW ms=>if ms.length=n then some (yz (cells n 0 r.1) ms)else none
 |_=>none
variable {X:Type}
def cellOf(r:DV×H6)(k:DV×H6->Option X):Option X :=
 match r.2 with
 |.val=>og (J7 r.1) (k (r.1,.val))
 |.full=>k (r.1,.full)
 |.own=>k (r.1,.own)
 |.FZ=>k (.LY,.FZ)
 |m=>og (w9 m) (k (.undef,m))
def JJ(r:DV×H6)(k:List (DV×H6)->Option X):Option X :=
 ob (tz P t) λz=>
  if z.2 then og (E5 z.1 r.1) (ob (tH z.1 r) λcs=>k (cs.map λc=>(c.1,dm c.2)))
  else cellOf r λc=>k [(c.1,dm c.2)]
def Kl(r:DV×H6)(k:List (DV×H6)->Option X):Option X :=
 ob (tz P t) λz=>
  if z.2 then og (E5 z.1 r.1) (ob (tH z.1 r) k)
  else cellOf r λc=>k [(c.1,dm c.2)]
def Ic{α : Type}(l:List α)(o:Nat)(cs:List α):List α := l.take o++cs++l.drop (o+cs.length)
def C5a:Option (Nat×TypeId) :=
 match P.underlying t with
 |some (.array n e)=>some (n,e)
 |_=>none
def places:Option (List (Nat×Nat)) :=
 match P.underlying t with
 |some (.struct fs)=>fs.toList.mapM λf=>(P.info? f.type).map λi=>(f.offset,i.size)
 |some (.array _ e)=>(P.info? e).map λi=>[(0,i.size)]
 |_=>none
variable (i:Nat)
def partAt:Option (TypeId×Nat) :=
 match P.underlying t with
 |some (.struct fs)=>fs[i]?.map λf=>(f.type,f.offset)
 |some (.array _ e)=>(P.info? e).map λq=>(e,i * q.size)
 |_=>none
def Jk{X:Type}(P:Program)(t:TypeId)(st:St):List (Nat×Operand)->List (DV×H6)->(List (DV×H6)->Option X)->Option X
 |[],cs,k=>k cs
 | (i,x)::rest,cs,k=>ob (partAt P t i) λf=>ob (src P f.1 st x) λr=>JJ P f.1 r λxs=>if f.2+xs.length<=cs.length then Jk P t st rest (Ic cs f.2 xs) k else none
variable (cs:List (DV×H6))
def nY:DV×H6:=(.agg (cs.map (·.1)),.FW (cs.map λc=>dm c.2))
def Pi(z:Nat×Bool)(r:DV×H6)(k:DV->Option X):Option X :=og (M6 r.2) (if z.2 then og (E5 z.1 r.1) (k r.1)else og (J7 r.1) (k r.1))
def rZ:Option (DV×H6) :=
 match x with
 |.const (.agg vs)=>ob (A4s P 8 t) λts=>ob (bA P ts vs.toList) λrs=>og (rs.all λc=>M6 c.2) (some (.agg (rs.map (·.1)),.val))
 |x=>src P t st x
def Jy{X:Type}(P:Program)(e:TypeId)(z:Nat×Bool)(st:St):List (Nat×Operand)->List DV->(List DV->Option X)->Option X
 |[],ds,k=>k ds
 | (i,x)::rest,ds,k=>ob (rZ P e st x) λr=>Pi z r λd=>if i<ds.length then Jy P e z st rest (ds.set i d) k else none
def yw(z:Nat×Bool)(cs:List (DV×H6)):Option DV :=
 if z.2 then some (.agg (cs.map (·.1)))
 else match cs with
  |[c]=>some c.1
  |_=>none
variable (sg:List H7)
def Q7(i:Nat):Option (List (DV×H6)) :=
 match sg[i]? with
 |some (.box cs)=>some cs
 |_=>none
def CZ(i:Nat):Option (Nat×List DV) :=
 match sg[i]? with
 |some (.arr sz ds)=>some (sz,ds)
 |_=>none
def NB(i:Nat):Option (Nat×List DV×List DV) :=
 match sg[i]? with
 |some (.opn sz pre ds)=>some (sz,pre,ds)
 |_=>none
def VJ(i n:Nat):Option (Nat×List DV) :=
 match sg[i]? with
 |some (.BF n' sz ds)=>if n'=n then some (sz,ds)else none
 |_=>none
def Po(q:Nat×List DV×List DV)(idx:Nat)(e:DV):Option H7 :=if q.2.1.length<=idx/\idx-q.2.1.length<q.2.2.length then some (.opn q.1 q.2.1 (q.2.2.set (idx-q.2.1.length) e))else none
def Kh(q:Nat×List DV×List DV)(sz len:Nat):Option DV :=if q.1=sz/\q.2.1.length+q.2.2.length=len/\0<len then some (.list sz (q.2.1++q.2.2))else none
def X0(i:Nat):Option (Bool×List (DV×DV)) :=
 match sg[i]? with
 |some (.map ks es)=>some (ks,es)
 |_=>none
variable (o:Nat)
def Y5:Option DV :=
 match cs[o]? with
 |some (d,.val)=>some d
 |some (d,.full)=>some d
 |some (d,.own)=>some d
 |some (d,.FZ)=>some d
 |_=>none
def Ld:Option DV :=
 match cs[o]? with
 |some (d,.full)=>some d
 |some (d,.own)=>some d
 |_=>none
def iW:Option (Nat×Nat×Nat) :=
 match cs[o]? with
 |some (_,.arr i sz 0 len)=>some (i,sz,len)
 |_=>none
def tF(sz:Nat):Option (Nat×Nat×Nat) :=
 match cs[o]? with
 |some (_,.BF i n sz' len)=>if sz'=sz then some (i,n,len)else none
 |_=>none
def iR(i off:Nat)(cs:List (DV×H6))(sz:Nat):Option (List H7×Nat×Nat×Nat) :=
 match cs[off]? with
 |some (_,.BF j n sz' len)=>if sz'=sz then some (sg,j,n,len)else none
 |some (.list sz' [],.full)=>if sz'=sz/\0<sz then some (sg.set i (.box (cs.set off (.undef,.BF sg.length 1 sz 0)))++[.BF 1 sz []],sg.length,1,0)else none
 |_=>none
def Vy:Option Nat :=
 match cs[o]? with
 |some (_,.map i)=>some i
 |_=>none
def tC:Option Nat :=
 match cs[o]? with
 |some (_,.ptr i 0)=>some i
 |_=>none
def Dj:Nat->Nat->List (DV×H6)->Option (List DV)
 |_,0,_=>some []
 |o,n+1,cs=>ob (Y5 cs o) λd=>ob (Dj (o+1) n cs) λds=>some (d::ds)
inductive C0X where
 |dat | map | ptr
variable (C:AB)
def C1a(t:TypeId):C0X :=
 match C.P.underlying t with
 |some (.map _ _)=>.map
 |some (.pointer _)=>if C.ref t then .dat else .ptr
 |_=>.dat
def A7r:Option DV :=ob (P.info? t) λi=>ob i.zero λv=>ob (cst P t v) λr=>og (M6 r.2) (some r.1)
def mapKeys:Option (Bool×TypeId) :=
 match P.underlying t with
 |some (.map kt et)=>
   match P.underlying kt with
   |some (.int .i64)=>some (false,et)
   |some .string=>some (true,et)
   |_=>none
 |_=>none
section
variable {X:Type}(C:AB)(R:U1)
def M4(l:List Nat):Option Nat->Bool
 |some t=>l.contains t
 |none=>false
def ZU(c:DV×H6):DV×H6 :=
 match c.2 with
 |.arr _ _ _ _=>(.undef,.val)
 |_=>c
def Df(fl:I5)(o:Oper)(t:TypeId)(x:Operand)(st:St)(k:St->Option X):Option X :=
 ob (src C.P 0 st x) λr=>ob (tz C.P t) λz=>
  match r.2 with
  |.loc s off=>ob (st.bx.getD s none) λcs=>
    if off+z.1<=cs.length then
     if z.2 then
      let seg:=(cs.drop off).take z.1
      if M4 fl.Q6 o.dst then
       k ({ st with bx:=st.bx.set s (some (Ic cs off (seg.map λc:DV×H6=>(c.1,dm c.2)))) }.put o.dst (.agg (seg.map λc:DV×H6=>c.1)) (.FW (seg.map λc:DV×H6=>c.2)))
      else
       let a:=nY (if M4 fl.hide o.dst then seg.map ZU else seg)
       k (st.put o.dst a.1 a.2)
     else
      let c:=cs.getD off (.undef,.val)
      if M4 fl.Q6 o.dst then k ({ st with bx:=st.bx.set s (some (cs.set off (c.1,dm c.2))) }.put o.dst c.1 c.2)
      else k (st.put o.dst c.1 (dm c.2))
    else none
  |.Re ag sz off=>
    if off+z.1<=sz then
     if z.2 then og ag (k (st.put o.dst (.agg (cells z.1 off r.1)) .val))
     else k (st.put o.dst (if ag then A7 off r.1 else r.1) .val)
    else none
  |.ptr i off=>ob (Q7 st.sg i) λcs=>
    if z.2 then og (z.1 != 0) (ob (Dj off z.1 cs) λds=>k (st.put o.dst (.agg ds) .val))
    else match C1a C t with
     |.map=>ob (Vy cs off) λj=>k (st.put o.dst .undef (.map j))
     |.ptr=>ob (tC cs off) λj=>k (st.put o.dst .undef (.ptr j 0))
     |.dat=>
       if M4 fl.C2G o.dst then
        ob (Jl C.P t) λe=>ob (tz C.P e) λze=>ob (tF cs off ze.1) λq=>k (st.put o.dst .undef (.BF q.1 q.2.1 ze.1 q.2.2))
       else if M4 fl.Hf o.dst then
        ob (Jl C.P t) λe=>ob (tz C.P e) λze=>ob (iR st.sg i off cs ze.1) λq=>k ({ st with sg:=q.1 }.put o.dst .undef (.BF q.2.1 q.2.2.1 ze.1 q.2.2.2))
       else if M4 fl.Q6 o.dst then
        ob (Ld cs off) λd=>k ({ st with sg:=st.sg.set i (.box (cs.set off (d,.val))) }.put o.dst d .own)
       else ob (Y5 cs off) λd=>k (st.put o.dst d .val)
  |.fI i sz idx off=>ob (CZ st.sg i) λa=>ob a.2[idx]? λd=>
    og (a.1==sz)
     (if off+z.1<=sz then
       if z.2 then k (st.put o.dst (.agg (cells z.1 off d)) .val)
       else if sz=1 then og (M7 d) (k (st.put o.dst d .val))else k (st.put o.dst (A7 off d) .val)
     else none)
  |.wJ i n sz idx off=>ob (VJ st.sg i n) λa=>ob a.2[idx]? λd=>
    og (a.1==sz)
     (if off+z.1<=sz then
       if z.2 then k (st.put o.dst (.agg (cells z.1 off d)) .val)
       else if sz=1 then og (M7 d) (k (st.put o.dst d .val))else k (st.put o.dst (A7 off d) .val)
     else none)
  |_=>none
def Zg(sz off:Nat)(d:DV)(xs:List (DV×H6)):Option DV :=
 match d with
 |.agg cs=>if xs.all (λc=>M6 c.2&&M7 c.1)=true/\cs.length=sz/\off+xs.length<=sz then some (.agg (Ic cs off (xs.map (·.1))))else none
 |_=>none
def ET(o:Oper)(t:TypeId)(x y:Operand)(st:St)(k:St->Option X):Option X :=
 ob (src C.P 0 st x) λr=>ob (src C.P t st y) λv=>ob (tz C.P t) λz=>
  match r.2 with
  |.loc s off=>ob (st.bx.getD s none) λcs=>
    if z.2 then Kl C.P t v λxs=>if off+xs.length<=cs.length then k (({ st with bx:=st.bx.set s (some (Ic cs off xs)) }.release y).put o.dst (.I4 []) .val)else none
    else cellOf v λc=>if off<cs.length then k (({ st with bx:=st.bx.set s (some (cs.set off c)) }.release y).put o.dst (.I4 []) .val)else none
  |.ptr i off=>ob (Q7 st.sg i) λcs=>
    if z.2 then JJ C.P t v λxs=>if off+xs.length<=cs.length then k ({ st with sg:=st.sg.set i (.box (Ic cs off xs)) }.put o.dst (.I4 []) .val)else none
    else cellOf v λc=>ob cs[off]? λ_=>k (({ st with sg:=st.sg.set i (.box (cs.set off c)) }.release y).put o.dst (.I4 []) .val)
  |.fI i sz idx off=>ob (CZ st.sg i) λa=>ob a.2[idx]? λ_=>Pi z v λe=>
    og (a.1==sz)
     (if z.1=sz/\off=0 then k ({ st with sg:=st.sg.set i (.arr sz (a.2.set idx e)) }.put o.dst (.I4 []) .val)
     else none)
  |.opt i sz idx=>ob (NB st.sg i) λq=>Pi z v λe=>og (q.1==sz&&z.1==sz)
     (ob (Po q idx e) λx=>k ({ st with sg:=st.sg.set i x }.put o.dst (.I4 []) .val))
  |.wJ i n sz idx off=>ob (VJ st.sg i n) λa=>ob a.2[idx]? λd=>og (a.1==sz)
     (if z.2 then JJ C.P t v λxs=>ob (Zg sz off d xs) λe=>k ({ st with sg:=st.sg.set i (.BF n sz (a.2.set idx e)) }.put o.dst (.I4 []) .val)
     else cellOf v λc=>ob (Zg sz off d [c]) λe=>k ({ st with sg:=st.sg.set i (.BF n sz (a.2.set idx e)) }.put o.dst (.I4 []) .val))
  |_=>none
def bY(r:DV×H6):Option Bool :=
 match r.2 with
 |.FZ=>some true
 |.ptr _ _=>some false
 |.val=>match r.1 with
   |.LY=>some true
   |.P_ _ _=>some false
   |_=>none
 |_=>none
def XI(r s:DV×H6):Option Bool :=
 match bY r,bY s with
 |some true,some b=>some b
 |some false,some true=>some false
 |_,_=>none
def A89(m n:H6):Option Bool :=
 match m,n with
 |.Tv,.Tv=>some true
 |.Tv,.map _=>some false
 |.map _,.Tv=>some false
 |_,_=>none
inductive B6y where
 |num | bool | flat (ks:List LK) | ptr | map | ref
def Qb(P:Program)(t:TypeId):Option LK :=
 match P.underlying t with
 |some .bool=>some .bool
 |some (.int _)=>some .int
 |some .string=>some .str
 |_=>none
def WG(P:Program):Nat->List Field->Option (List LK)
 |_,[]=>some []
 |i,f::fs=>if f.name != "_"&&f.offset==i then ob (Qb P f.type) λk=>ob (WG P (i+1) fs) λks=>some (k::ks)else none
def sW(P:Program)(t:TypeId):B6y :=
 match P.underlying t with
 |some (.int _)=>.num
 |some .string=>.num
 |some .bool=>.bool
 |some (.pointer _)=>.ptr
 |some (.map _ _)=>.map
 |some (.struct fs)=>
   match WG P 0 fs.toList,P.stoodInHeld t,P.eqGuardType P.depth t with
   |some ks,false,false=>.flat ks
   |_,_,_=>.ref
 |_=>.ref
def xE(op:BinOp)(b:Bool):Option DV :=
 match op with
 |.eql=>some (.bool b)
 |.neq=>some (.bool !b)
 |_=>none
def gm(o:Oper)(op:BinOp)(t:TypeId)(x y:Operand)(st:St)(k:St->Option X):Option X :=
 ob (src C.P t st x) λr=>ob (src C.P t st y) λs=>
  match sW C.P t with
  |.num=>og (M6 r.2&&M6 s.2) (ob (D7 op r.1 s.1) λd=>k (st.put o.dst d .val))
  |.bool=>og (M6 r.2&&M6 s.2) (ob (A17 r.1 s.1) λb=>ob (xE op b) λd=>k (st.put o.dst d .val))
  |.flat ks=>og (M6 r.2&&M6 s.2) (ob (jk ks r.1 s.1) λb=>ob (xE op b) λd=>k (st.put o.dst d .val))
  |.ptr=>ob (XI r s) λb=>ob (xE op b) λd=>k (st.put o.dst d .val)
  |.map=>ob (A89 r.2 s.2) λb=>ob (xE op b) λd=>k (st.put o.dst d .val)
  |.ref=>none
def UH(o:Oper)(t:TypeId)(x:Operand)(f:Nat)(st:St)(k:St->Option X):Option X :=
 ob (src C.P 0 st x) λr=>ob (B6I C.P t f) λfd=>ob (tz C.P fd.type) λz=>
  if z.1=0 then none
  else match r.2 with
   |.loc s off=>k (st.put o.dst .undef (.loc s (off+fd.offset)))
   |.Re ag sz off=>k (st.put o.dst r.1 (.Re ag sz (off+fd.offset)))
   |.ptr i off=>k (st.put o.dst .undef (.ptr i (off+fd.offset)))
   |.fI i sz idx off=>k (st.put o.dst .undef (.fI i sz idx (off+fd.offset)))
   |.wJ i n sz idx off=>k (st.put o.dst .undef (.wJ i n sz idx (off+fd.offset)))
   |_=>none
def Cf(off len:Nat):DV->Option Nat
 |.int _ n=>if 0<=n/\n<len then some (off+n.toNat)else none
 |_=>none
def xM(o:Oper)(t:TypeId)(r j:DV×H6)(st:St)(k:St->Option X):Option X :=
 ob (C5a C.P t) λq=>ob (tz C.P q.2) λz=>
  match r.2 with
  |.loc s off=>og (M6 j.2) (ob (Cf 0 q.1 j.1) λn=>k (st.put o.dst .undef (.loc s (off+n * z.1))))
  |_=>none
def IY(fl:I5)(o:Oper)(t:TypeId)(x i:Operand)(st:St)(k:St->Option X):Option X :=
 ob (src C.P t st x) λr=>ob (src C.P 0 st i) λj=>match Jl C.P t with
 |none=>xM C o t r j st k
 |some e=>ob (tz C.P e) λz=>
   match r.2 with
   |.arr a sz off len=>og (sz==z.1&&M6 j.2) (ob (Cf off len j.1) λn=>k (st.put o.dst .undef (if M4 fl.opn o.dst then .opt a sz n else .fI a sz n 0)))
   |.BF i n sz len=>og (sz==z.1&&M6 j.2) (ob (Cf 0 len j.1) λidx=>k (st.put o.dst .undef (.wJ i n sz idx 0)))
   |m=>og (M6 m&&M6 j.2) (ob (F7 z.1 r.1 j.1) λd=>if z.2 then k (st.put o.dst d (.Re true z.1 0))else og (M7 d) (k (st.put o.dst d (.Re false z.1 0))))
def bW(P:Program)(st:St):Option Operand->Option (Option DV)
 |none=>some none
 |some x=>ob (src P 0 st x) λr=>og (M6 r.2) (some (some r.1))
def B2V:H6->Option (Nat×Nat×Nat×Nat)
 |.arr i sz off len=>some (i,sz,off,len)
 |_=>none
def B28:H6->Option (Nat×Nat×Nat×Nat)
 |.BF i n sz len=>some (i,n,sz,len)
 |_=>none
def Si(o:Oper)(t:TypeId)(x:Operand)(lo hi mx:Option Operand)(st:St)(k:St->Option X):Option X :=
 ob (src C.P t st x) λr=>ob (bW C.P st lo) λl=>ob (bW C.P st hi) λh=>ob (bW C.P st mx) λm=>
  match B2V r.2 with
  |some q=>ob (Jl C.P t) λe=>ob (tz C.P e) λz=>og (m.isNone&&q.2.1==z.1) (ob (bnd q.2.2.2 h) λhh=>ob (bnd 0 l) λll=>if ll<=hh/\hh<=q.2.2.2 then k (st.put o.dst .undef (.arr q.1 q.2.1 (q.2.2.1+ll) (hh-ll)))else none)
  |none=>match B28 r.2 with
  |some q=>ob (Jl C.P t) λe=>ob (tz C.P e) λz=>og (m.isNone&&l.isNone&&q.2.2.1==z.1) (ob (bnd q.2.2.2 h) λhh=>if hh<=q.2.2.2 then k (st.put o.dst .undef (.BF q.1 q.2.1 q.2.2.1 hh))else none)
  |none=>og (M6 r.2)
    (match C.P.underlying t with
      |some (.slice e)=>ob (tz C.P e) λz=>
        match m,h with
        |none,_=>ob (Cz z.1 r.1 l h) λd=>k (st.put o.dst d .val)
        |some m,some h=>ob (Yq z.1 r.1 l h m) λd=>k (st.put o.dst d .full)
        |_,_=>none
      |some .string=>
        match m with
        |none=>ob (tL r.1 l h) λd=>k (st.put o.dst d .val)
        |some _=>none
      |_=>none)
def B92(sg:List H7):H6->Option Nat
 |.map i=>ob (X0 sg i) λp=>some p.2.length
 |.Tv=>some 0
 |_=>none
def B0F:Nat->Option DV
 |0=>some (.int .i64 0)
 |n+1=>some (.int .i64 ((n+1:Nat):Int))
theorem B0G(n:Nat):B0F n=some (.int .i64 n):=by cases n<;>rfl
def Xg(o:Oper)(x:Operand)(t:TypeId)(st:St)(k:St->Option X):Option X :=
 ob (src C.P t st x) λr=>
  match C.P.underlying t with
  |some (.slice _)=>
    match r.2 with
    |.arr _ _ _ len=>k (st.put o.dst (.int .i64 len) .val)
    |.BF _ _ _ len=>ob (B0F len) λd=>k (st.put o.dst d .val)
    |m=>og (M6 m) (ob (L6 r.1) λd=>k (st.put o.dst d .val))
  |some .string=>og (M6 r.2) (ob (ES r.1) λd=>k (st.put o.dst d .val))
  |some (.map _ _)=>ob (B92 st.sg r.2) λn=>k (st.put o.dst (.int .i64 n) .val)
  |_=>none
def Nf:H6->Bool
 |.full=>true
 |.own=>true
 |_=>false
def A8c(P:Program)(t u:TypeId):Option Nat :=ob (Jl P t) λe=>ob (Jl P u) λ_=>ob (tz P e) λz=>ob (P.info? e) λi=>ob (Mf P e) λzs=>if z.1≠0/\i.bytes<=2 ^ 14/\zs.length=z.1 then some z.1 else none
def A8L(o:Oper)(x y:Operand)(t u:TypeId)(st:St)(k:St->Option X):Option X :=
 ob (src C.P t st x) λr=>ob (src C.P u st y) λs=>
  ob (A8c C.P t u) λsz=>og (M6 s.2&&o.dst.isSome) (ob (B28 r.2) λq=>
   ob (VJ st.sg q.1 q.2.1) λa=>og (a.1==sz&&q.2.2.1==sz&&decide (q.2.2.2<=a.2.length))
    (ob (XE sz (.list sz (a.2.take q.2.2.2)) s.1) λp=>k ({ st with sg:=st.sg.set q.1 (.BF (q.2.1+1) sz (p.1++p.2)) }.put o.dst .undef (.BF q.1 (q.2.1+1) sz (p.1.length+p.2.length)))))
def IA(fl:I5)(o:Oper)(x y:Operand)(t u:TypeId)(st:St)(k:St->Option X):Option X :=
 if M4 fl.Hf o.dst then A8L C o x y t u st k else
 ob (src C.P t st x) λr=>ob (src C.P u st y) λs=>
  ob (A8c C.P t u) λsz=>og (Nf r.2&&M6 s.2&&o.dst.isSome)
   (if M4 fl.opn o.dst then ob (XE sz r.1 s.1) λp=>k ({ st.release x with sg:=st.sg++[H7.opn sz p.1 p.2] }.put o.dst .undef (.arr st.sg.length sz 0 (p.1.length+p.2.length)))
   else ob (AP sz r.1 s.1) λd=>k ((st.release x).put o.dst d .own))
def ZK(o:Oper)(x:Operand)(t:TypeId)(st:St)(k:St->Option X):Option X :=
 ob (src C.P t st x) λr=>ob (B2V r.2) λq=>ob (CZ st.sg q.1) λa=>ob (Jl C.P t) λe=>ob (tz C.P e) λz=>ob (Mf C.P e) λzs=>
  og (a.1==q.2.1&&q.2.1==z.1&&zs.length==z.1&&decide (q.2.2.1+q.2.2.2<=a.2.length))
   (k ({ st with sg:=st.sg.set q.1 (.arr q.2.1 (a.2.take q.2.2.1)) }.put o.dst (.I4 []) .val))
def fH(m:H6):H6:=if M6 m then .val else dm m
def pX(os:List Nat):Nat->List H6->List H6
 |_,[]=>[]
 |i,m::ms=>(if os.contains i then Qd m else fH m)::pX os (i+1) ms
def bX(m:H6)(k:MK):H6 :=
 match k,m with
 |.own,.full=>.own
 |.own,m=>m
 |.dU _ os,.FW ms=>.FW (pX os 0 ms)
 |_,m=>fH m
def KU:List MK->List (DV×H6)->List (DV×H6)
 |k::ks,r::rs=>(r.1,bX r.2 k)::KU ks rs
 |[],rs=>rs.map λr=>(r.1,fH r.2)
 |_,[]=>[]
def C24:H6->Bool
 |.loc _ _=>false
 |.Re _ _ _=>false
 |.DJ _=>false
 |.FW ms=>ms.all w9
 |_=>true
def Ej:MK->Bool
 |.own=>true
 |.dU _ _=>true
 |_=>false
def IG:Nat->List MK->List Operand->Option (Nat×Operand)
 |i,k::ks,x::xs=>if Ej k then some (i,x)else IG (i+1) ks xs
 |_,_,_=>none
def St.KS(st:St):Option (Nat×Operand)->St
 |some p=>st.release p.2
 |none=>st
def Nn(k:MK)(d:DV):DV×H6 :=
 match k with
 |.val=>(d,.val)
 |.own=>(d,.own)
 |.ptr=>match d with
   |.int _ i=>(.undef,.ptr i.toNat 0)
   |.LY=>(.LY,.FZ)
   |_=>(.undef,.val)
 |.dU n os=>(d,.FW ((List.range n).map λi=>if os.contains i then .own else .val))
def B25(ks:List MK):Bool:=ks.length==1||ks.all λk=>match k with
 |.val=>true
 |.own=>true
 |_=>false
def Pq(ks:List MK)(ds:List DV):DV×H6 :=
 match ks with
 |[k]=>Nn k (ds.getD 0 .undef)
 |_=>(.I4 ds,.DJ (ks.map λk=>(Nn k .undef).2))
def A9X:DV->Option Nat
 |.int _ n=>some n.toNat
 |_=>none
def mV{X:Type}(ks:List MK)(ds:List DV)(k:DV×H6->Option X):Option X :=
 match ks with
 |[.ptr]=>ob (A9X (ds.getD 0 .undef)) λi=>k (.undef,.ptr i 0)
 |ks=>k (Pq ks ds)
theorem A6D{X:Type}{ks:List MK}{ds:List DV}{k:DV×H6->Option X}{x:X}(h:mV ks ds k=some x):k (Pq ks ds)=some x/\∀(Y:Type)(k':DV×H6->Option Y),mV ks ds k'=k' (Pq ks ds):=by
 unfold mV at h;split at h
 ·cases hd:A9X (ds.getD 0 .undef)with
  |none=>rw[hd]at h;cases h
  |some i=>
    have e:Pq [.ptr] ds=(.undef,.ptr i 0):=by unfold A9X at hd;split at hd<;>simp only[D9,reduceCtorEq]at hd;rename_i kk n hx;simp only[Pq,Nn];rw[hx,<- hd]
    rw[hd]at h;rw[e];exact⟨h,λY k'=>by simp only[mV,hd,ob]⟩
 ·rename_i hne;refine⟨h,λY k'=>?_⟩;unfold mV;split
  ·exact absurd rfl hne
  ·rfl
def C01:DV->Option (List DV)
 |.agg cs=>some cs
 |_=>none
def Lv(o:Oper)(f:FuncId)(xs:List Operand)(rs:List (DV×H6))(st:St)(k:St->Option X):Option X :=
 if C.clone f then
  match rs with
  |[r]=>ob (aC r.1) λp=>og (M6 r.2&&p.1==C.tK f&&decide (p.2.length<=J9)) (k ({ st with sg:=st.sg++[H7.arr (C.tK f) p.2] }.put o.dst .undef (.arr st.sg.length (C.tK f) 0 p.2.length)))
  |_=>none
 else match C.pV f with
 |some g=>
   match rs with
   |[r]=>ob (C01 r.1) λcs=>og (M6 r.2&&cs.length==C.tK f) (k ({ st with sg:=st.sg++[H7.box (cs.map λd=>(d,.val))] }.put o.dst .undef (.fn g [(st.sg.length,0)])))
   |_=>none
 |none=>match C.sig f with
   |none=>og (rs.all λr=>M6 r.2) (ob (R.p f (rs.map (·.1))) λd=>k (st.put o.dst d .val))
   |some s=>og ((rs.all λr=>C24 r.2)&&decide ((s.params.filter Ej).length<=1)&&B25 s.results)
     (ob (R.r f (KU s.params rs) st.sg) λq=>mV s.results q.1 λr=>k (({ st with sg:=q.2 }.KS (IG 0 s.params xs)).put o.dst r.1 r.2))
def Ht(fl:I5)(o:Oper)(c:Call)(st:St)(k:St->Option X):Option X :=
 match c.callee with
 |.builtin b=>
   match b,c.args.toList,c.argTypes.toList with
   |.len,[x],[t]=>Xg C o x t st k
   |.append,[x,y],[t,u]=>IA C fl o x y t u st k
   |.clear,[x],[t]=>ZK C o x t st k
   |.max,[x,y],[t,u]=>ob (src C.P t st x) λr=>ob (src C.P u st y) λs=>og (M6 r.2&&M6 s.2) (ob (jm r.1 s.1) λd=>k (st.put o.dst d .val))
   |.min,[x,y],[t,u]=>ob (src C.P t st x) λr=>ob (src C.P u st y) λs=>og (M6 r.2&&M6 s.2) (ob (jo r.1 s.1) λd=>k (st.put o.dst d .val))
   |_,_,_=>none
 |.value fv=>ob (src C.P 0 st fv) λr=>ob (LZ C.P st c.argTypes.toList c.args.toList) λrs=>
   match r.2 with
   |.fn f caps=>Lv C R o f c.args.toList (rs++caps.map λm=>(.undef,.ptr m.1 m.2)) st k
   |_=>none
 |.invoke _ _=>none
def Yn:List (DV×H6)->Option (List (Nat×Nat))
 |[]=>some []
 | (_,.ptr i o)::rs=>ob (Yn rs) λms=>some ((i,o)::ms)
 |_=>none
def K8(fl:I5)(o:Oper)(st:St)(k:St->Option X):Option X :=
 match o.op with
 |.move x=>ob (src C.P o.type st x) λr=>if M4 fl.Q6 o.dst then k ((st.release x).put o.dst r.1 r.2)else k (st.put o.dst r.1 (dm r.2))
 |.assign x=>ob (src C.P o.type st x) λr=>if M4 fl.Q6 o.dst then k ((st.release x).put o.dst r.1 r.2)else k (st.put o.dst r.1 (dm r.2))
 |.pick c a b=>ob (src C.P 0 st c) λrc=>ob (src C.P o.type st a) λra=>ob (src C.P o.type st b) λrb=>og (M6 rc.2&&M6 ra.2&&M6 rb.2) (ob (B2X rc.1 ra.1 rb.1) λd=>k (st.put o.dst d .val))
 |.alloc t=>ob (Mf C.P t) λcs=>og (Sd (M4 fl.shared o.dst) o.dst st) (k (st.Gh (M4 fl.shared o.dst) o.dst cs))
 |.box t x=>ob (src C.P t st x) λr=>
   if M4 fl.eu o.dst then ob (tz C.P t) λz=>og (M6 r.2&&E5 z.1 r.1&&z.2) (k (st.put o.dst (.P_ z.1 r.1) .val))
   else if M4 fl.Q6 o.dst then Kl C.P t r λcs=>og (Sd false o.dst st) (k ((st.release x).Gh false o.dst cs))
   else JJ C.P t r λcs=>og (Sd (M4 fl.shared o.dst) o.dst st) (k (st.Gh (M4 fl.shared o.dst) o.dst cs))
 |.build t ps=>ob (Mf C.P t) λzs=>ob (places C.P t) λ_=>Jk C.P t st ps.toList zs λcs=>k (st.put o.dst (nY cs).1 (nY cs).2)
 |.buildSlice t n ps=>ob (Jl C.P t) λe=>ob (tz C.P e) λz=>ob (Mf C.P e) λzs=>ob (yw z zs) λze=>
   if (n * z.1<=2 ^ 24/\z.1≠0)/\zs.length=z.1/\zs.all (λc=>M6 c.2)=true then Jy C.P e z st ps.toList (List.replicate n ze) λds=>if M4 fl.Hf o.dst then k ({ st with sg:=st.sg++[H7.BF 1 z.1 ds] }.put o.dst .undef (.BF st.sg.length 1 z.1 n))else k (st.put o.dst (.list z.1 ds) .full)
   else none
 |.load t x=>Df C fl o t x st k
 |.store t x y=>ET C o t x y st k
 |.nilCheck x=>ob (src C.P 0 st x) λr=>
   match r.2 with
   |.loc s o'=>k (st.put o.dst .undef (.loc s o'))
   |.Re ag sz o'=>k (st.put o.dst r.1 (.Re ag sz o'))
   |.ptr i o'=>k (st.put o.dst .undef (.ptr i o'))
   |.fI i sz j o'=>k (st.put o.dst .undef (.fI i sz j o'))
   |.opt i sz j=>k (st.put o.dst .undef (.opt i sz j))
   |.fn f cs=>k (st.put o.dst .undef (.fn f cs))
   |.val=>ob (o.dst.bind λt=>fl.refs.find? (·.1==t)) λq=>ob (A6X q.2 r.1) λd=>k (st.put o.dst d (.Re true q.2 0))
   |_=>none
 |.binOp op t x y _=>gm C o op t x y st k
 |.unOp op t x=>ob (src C.P t st x) λr=>og (M6 r.2) (ob (R8 op r.1) λd=>k (st.put o.dst d .val))
 |.convert t u x=>ob (src C.P t st x) λr=>
   match C.P.underlying u with
   |some (.int kd)=>og (M6 r.2&&(C.P.underlying t).isSome) (ob (XF kd r.1) λd=>k (st.put o.dst d .val))
   |_=>none
 |.fieldAddr t x f=>UH C o t x f st k
 |.indexAddr t x i=>IY C fl o t x i st k
 |.index t x i=>ob (src C.P t st x) λr=>ob (src C.P 0 st i) λj=>
   match C.P.underlying t with
   |some .string=>og (M6 r.2&&M6 j.2) (ob (Af r.1 j.1) λd=>k (st.put o.dst d .val))
   |_=>none
 |.slice t x lo hi mx=>Si C o t x lo hi mx st k
 |.makeFunc (.func f) first caps=>
   if first.isEmpty then ob (LZ C.P st [] caps.toList) λrs=>ob (Yn rs) λms=>k (st.put o.dst .undef (.fn f ms))
   else none
 |.makeMap t none=>ob (mapKeys C.P t) λq=>k ({ st with sg:=st.sg++[H7.map q.1 []] }.put o.dst .undef (.map st.sg.length))
 |.lookup t x y ok=>ob (src C.P t st x) λr=>ob (src C.P 0 st y) λkey=>ob (mapKeys C.P t) λq=>
   ob (A7r C.P q.2) λze=>
    og (Ao q.1 key.1&&M6 key.2)
     (match r.2 with
       |.map i=>ob (X0 st.sg i) λp=>og (p.1==q.1)
         (if ok then k (st.put o.dst (.I4 [(AQ p.2 key.1).getD ze,.bool (AQ p.2 key.1).isSome]) .val)
         else k (st.put o.dst ((AQ p.2 key.1).getD ze) .val))
       |_=>none)
 |.mapUpdate t x y v=>ob (src C.P t st x) λr=>ob (src C.P 0 st y) λkey=>ob (src C.P 0 st v) λval=>ob (mapKeys C.P t) λq=>
   og (Ao q.1 key.1&&M6 key.2&&M6 val.2)
    (match r.2 with
      |.map i=>ob (X0 st.sg i) λp=>og (p.1==q.1) (k ({ st with sg:=st.sg.set i (.map q.1 (BJ p.2 key.1 val.1)) }.put o.dst (.I4 []) .val))
      |_=>none)
 |.extract x i=>ob (src C.P 0 st x) λr=>
   match r.2 with
   |.val=>ob (K5 i r.1) λd=>k (st.put o.dst d .val)
   |.DJ ms=>ob (K5 i r.1) λd=>
     match ms.getD i .val with
     |.own=>if M4 fl.Q6 o.dst then k ((st.yn x (.DJ (ms.set i .val))).put o.dst d .own)else k (st.put o.dst d .val)
     |.val=>k (st.put o.dst d .val)
     |_=>none
   |_=>none
 |.call c=>Ht C R fl o c st k
 |_=>none
def A3w{α X:Type}:List α->(List α->X)->X
 |[],k=>k []
 |a::l,k=>A3w l λl'=>k (a::l')
def B9G{X:Type}(m:H6)(k:H6->X):X :=
 match m with
 |.val=>k .val
 |.full=>k .full
 |.own=>k .own
 |.loc s o=>k (.loc s o)
 |.Re ag sz o=>k (.Re ag sz o)
 |.ptr i o=>k (.ptr i o)
 |.FZ=>k .FZ
 |.map i=>k (.map i)
 |.Tv=>k .Tv
 |.arr i sz off len=>k (.arr i sz off len)
 |.fI i sz idx o=>k (.fI i sz idx o)
 |.opt i sz idx=>k (.opt i sz idx)
 |.BF i n sz len=>k (.BF i n sz len)
 |.wJ i n sz idx o=>k (.wJ i n sz idx o)
 |.fn f caps=>k (.fn f caps)
 |.DJ ms=>k (.DJ ms)
 |.FW ms=>k (.FW ms)
def A4n{X:Type}:List H6->(List H6->X)->X
 |[],k=>k []
 |m::l,k=>B9G m λm'=>A4n l λl'=>k (m'::l')
def A4o{X:Type}(st:St)(k:St->X):X :=A3w st.tm λtm=>A4n st.mt λmt=>A3w st.bx λbx=>k { tm:=tm,mt:=mt,bx:=bx,sg:=st.sg }
def B1i{α X:Type}:∀(l:List α)(k:List α->X),A3w l k=k l
 |[],_=>rfl
 |a::l,k=>by simp only[A3w,B1i l]
def A8X{X:Type}:∀(l:List H6)(k:List H6->X),A4n l k=k l
 |[],_=>rfl
 |m::l,k=>by
   have h:∀(m:H6)(k:H6->X),B9G m k=k m:=λm k=>by cases m<;>rfl
   simp only[A4n,A8X l,h]
def Xu{X:Type}(st:St)(k:St->X):A4o st k=k st:=by simp only[A4o,B1i,A8X]
def Ma(ops:List Oper)(g:Nat):Option Nat:=ob ops[g]? λo=>o.dst
def St.know(st:St)(t:Nat)(d:DV):St:={ st with tm:=st.tm.set t d }
def K3{β : Type}(d:DV)(a b c:Option β):Option β :=
 match d with
 |.bool true=>a
 |.bool false=>b
 |.I4 []=>c
 |_=>none
def Eh(fl:I5)(all:List Oper):List Oper->St->(St->Option X)->Option X
 |[],st,k=>k st
 |o::os,st,k=>A4o st λst=>
   match o.guard with
   |none=>K8 C R fl o st λst=>Eh fl all os st k
   |some (g,want)=>ob (Ma all g) λt=>og (M6 (st.get t).2) <|
     K3 (st.get t).1
      (if want then K8 C R fl o (st.know t (.bool true)) λst=>Eh fl all os st k else Eh fl all os ((st.know t (.bool true)).put o.dst (.I4 []) .val) k)
      (if want then Eh fl all os ((st.know t (.bool false)).put o.dst (.I4 []) .val) k else K8 C R fl o (st.know t (.bool false)) λst=>Eh fl all os st k)
      (Eh fl all os ((st.know t (.I4 [])).put o.dst (.I4 []) .val) k)
structure Fp where
 rt:List Nat:=[]
 wt:List Nat:=[]
 rb:List Nat:=[]
 wb:List Nat:=[]
 wl:List Nat:=[]
 rs:Bool:=false
 ws:Bool:=false
 nb:Option Nat:=none
 ex:Option (Nat×Nat×Nat):=none
 so:Option Bool:=none
def C1n(x:Operand)(i:Nat)(d:Option Nat):Option (Nat×Nat×Nat) :=
 match x,d with
 |.tmp t,some u=>some (t,i,u)
 |_,_=>none
def O9:Operand->List Nat
 |.tmp t=>[t]
 |_=>[]
def M0(xs:List Operand):List Nat:=xs.flatMap O9
def Jr(mt:List H6)(t:Nat):List Nat :=
 match mt.getD t .val with
 |.loc s _=>[s]
 |_=>[]
def iF(m:H6):Option Nat :=
 match m with
 |.ptr i _=>some i
 |.opt i _ _=>some i
 |.wJ i _ _ _ _=>some i
 |_=>none
def iG(m:H6):Option Bool :=
 match m with
 |.ptr _ _=>some false
 |.opt _ _ _=>some true
 |.wJ _ _ _ _ _=>some true
 |_=>none
def GK(m:H6):List Nat×Bool :=
 match m with
 |.loc s _=>([s],false)
 |.Re _ _ _=>([],false)
 |_=>([],true)
def Fp.Bq(f:Fp)(st st1:St):Fp:={ f with wl:=f.wt.flatMap (Jr st.mt)++f.wt.flatMap (Jr st1.mt) }
def Gm(mt:List H6):Operand->List Nat
 |.tmp t=>match mt.getD t .val with
   |.arr _ _ _ _=>[]
   |.BF _ _ _ _=>[]
   |_=>[t]
 |_=>[]
def G_(fl:I5)(o:Oper)(st:St):Fp :=
 let d:=o.dst.toList
 let Q6:=M4 fl.Q6 o.dst
 match o.op with
 |.move x=>{ rt:=O9 x,wt:=d++(if Q6 then O9 x else[]) }
 |.assign x=>{ rt:=O9 x,wt:=d++(if Q6 then O9 x else[]) }
 |.pick c a b=>{ rt:=M0 [c,a,b],wt:=d }
 |.alloc _=>if M4 fl.shared o.dst then{ wt:=d,rs:=true,ws:=true }else{ wt:=d,wb:=d,nb:=o.dst }
 |.box _ x=>if M4 fl.eu o.dst then{ rt:=O9 x,wt:=d }else if M4 fl.Q6 o.dst then{ rt:=O9 x,wt:=d++O9 x,wb:=d,nb:=o.dst }else if M4 fl.shared o.dst then{ rt:=O9 x,wt:=d,rs:=true,ws:=true }else{ rt:=O9 x,wt:=d,wb:=d,nb:=o.dst }
 |.build _ ps=>{ rt:=M0 (ps.toList.map (·.2)),wt:=d }
 |.buildSlice _ _ ps=>{ rt:=M0 (ps.toList.map (·.2)),wt:=d,rs:=M4 fl.Hf o.dst,ws:=M4 fl.Hf o.dst }
 |.load _ x=>
   match src default 0 st x with
   |some r=>{ rt:=O9 x,wt:=d,rb:=(GK r.2).1,wb:=if Q6 then(GK r.2).1 else[],rs:=(GK r.2).2,ws:=(Q6||M4 fl.Hf o.dst)&&(GK r.2).2 }
   |none=>{}
 |.store _ x y=>
   match src default 0 st x with
   |some r=>{ rt:=M0 [x,y],wt:=d++Gm st.mt y,rb:=(GK r.2).1,wb:=(GK r.2).1,rs:=(GK r.2).2,ws:=(GK r.2).2,so:=if o.dst.isNone then iG r.2 else none }
   |none=>{}
 |.nilCheck x=>{ rt:=O9 x,wt:=d }
 |.binOp _ _ x y _=>{ rt:=M0 [x,y],wt:=d }
 |.unOp _ _ x=>{ rt:=O9 x,wt:=d }
 |.convert _ _ x=>{ rt:=O9 x,wt:=d }
 |.fieldAddr _ x _=>{ rt:=O9 x,wt:=d }
 |.indexAddr _ x i=>{ rt:=M0 [x,i],wt:=d }
 |.index _ x i=>{ rt:=M0 [x,i],wt:=d }
 |.slice _ x lo hi mx=>{ rt:=M0 (x::(lo.toList++hi.toList++mx.toList)),wt:=d }
 |.makeFunc _ _ caps=>{ rt:=M0 caps.toList,wt:=d }
 |.lookup _ x y _=>{ rt:=M0 [x,y],wt:=d,rs:=true }
 |.extract x i=>{ rt:=O9 x,wt:=d++(if Q6 then O9 x else[]),ex:=C1n x i o.dst }
 |.call c=>
   match c.callee with
   |.builtin .len=>{ rt:=M0 c.args.toList,wt:=d,rs:=true }
   |.builtin .append=>{ rt:=M0 c.args.toList,wt:=d++M0 c.args.toList,rs:=M4 fl.opn o.dst||M4 fl.Hf o.dst,ws:=M4 fl.opn o.dst||M4 fl.Hf o.dst }
   |.builtin .clear=>{ rt:=M0 c.args.toList,wt:=d,rs:=true,ws:=true }
   |.builtin _=>{ rt:=M0 c.args.toList,wt:=d }
   |.value x=>{ rt:=M0 (x::c.args.toList),wt:=d++M0 c.args.toList,rs:=true,ws:=true }
   |.invoke _ _=>{}
 |op=>{ rt:=M0 op.operands.toList,wt:=d++M0 op.operands.toList,rs:=true,ws:=true }
def bU(C:AB)(o:Oper):Bool :=
 match o.op with
 |.call c=>match c.callee with
   |.value (.func f)=> !C.clone f&&(C.pV f).isNone&&(C.sig f).isNone
   |_=>false
 |_=>false
def C5A(C:AB)(fl:I5)(o:Oper)(st st1:St):Fp :=(if bU C o then{ rt:=M0 o.op.operands.toList,wt:=o.dst.toList }else G_ fl o st).Bq st st1
def qp(a b:List Nat):Bool:=a.all λx=> !b.contains x
def A4t(f g:Fp):Bool :=
 match f.nb with
 |some t=> !g.wl.contains t
 |none=>true
def B7w(f g:Fp):Bool :=qp f.wt g.rt&&qp f.wt g.wt&&qp g.wt f.rt&&qp f.wb g.rb&&qp f.wb g.wb&&qp g.wb f.rb &&!(f.ws&&(g.rs||g.ws))&&!(g.ws&&(f.rs||f.ws))&&A4t f g&&A4t g f
def B9B(f g:Fp):Bool :=
 match f.ex,g.ex with
 |some (x,i,d),some (y,j,e)=>x==y&&i != j&&d != e&&d != x&&e != x
 |_,_=>false
def B4Q(f g:Fp):Bool :=
 match f.so,g.so with
 |some i,some j=>i != j&&qp f.wt g.rt&&qp f.wt g.wt&&qp g.wt f.rt
 |_,_=>false
def comm(f g:Fp):Bool:=B7w f g||B9B f g||B4Q f g
def B3T{X:Type}(n:Nat)(k:Nat->X):X :=
 match n with
 |0=>k 0
 |n+1=>k (n+1)
def Pm{X:Type}:List Nat->(List Nat->X)->X
 |[],k=>k []
 |a::l,k=>B3T a λa'=>Pm l λl'=>k (a'::l')
def lS{X:Type}:List (List Nat)->(List (List Nat)->X)->X
 |[],k=>k []
 |a::l,k=>Pm a λa'=>lS l λl'=>k (a'::l')
theorem B1j{X:Type}(n:Nat)(k:Nat->X):B3T n k=k n:=by cases n<;>rfl
def Xt{X:Type}:∀(l:List Nat)(k:List Nat->X),Pm l k=k l
 |[],_=>rfl
 |a::l,k=>by simp only[Pm,B1j,Xt l]
def rO{X:Type}:∀(l:List (List Nat))(k:List (List Nat)->X),lS l k=k l
 |[],_=>rfl
 |a::l,k=>by simp only[lS,Xt,rO l]
def uniq:List Nat->List Nat
 |[]=>[]
 |a::l=>if l.contains a then uniq l else a::uniq l
def A7a{x:Nat}:∀{l:List Nat},x∈uniq l↔x∈l
 |[]=>by simp[uniq]
 |a::l=>by
   simp only[uniq]
   split
   ·rename_i h;rw[A7a (l:=l),zJq];constructor
    ·exact .inr
    ·rintro(rfl | h')
     ·simpa using h
     ·exact h'
   ·rw[zJq,zJq,A7a (l:=l)]
def NP:List Oper->List (List Nat)->List (List Nat)
 |[],acc=>acc
 |o::os,acc=>Pm (uniq ((o.after.toList.filter (Region.binds .any)).flatMap λe=>e.on::acc.getD e.on [])) λl=>NP os (acc++[l])
def WA:Nat->List Oper->Bool
 |_,[]=>true
 |i,o::os=>(o.after.toList.filter (Region.binds .any)).all (λe=>decide (e.on<i))&&WA (i+1) os
def Lf(bf:List (List Nat))(i:Nat)(acc:List (Nat×Fp))(f:Fp):Bool :=acc.all λp=>(bf.getD i []).contains p.1||comm p.2 f
def A8V{X:Type}(b:Bool)(k:Bool->X):X :=
 match b with
 |true=>k true
 |false=>k false
def B3U{X:Type}(o:Option Nat)(k:Option Nat->X):X :=
 match o with
 |none=>k none
 |some n=>B3T n λn=>k (some n)
def B0b{X:Type}(o:Option Bool)(k:Option Bool->X):X :=
 match o with
 |none=>k none
 |some b=>A8V b λb=>k (some b)
def WH{X:Type}(f:Fp)(k:Fp->X):X :=Pm f.rt λrt=>Pm f.wt λwt=>Pm f.rb λrb=>Pm f.wb λwb=>Pm f.wl λwl=>A8V f.rs λrs=>A8V f.ws λws=>B3U f.nb λnb=>B0b f.so λso=>k { rt:=rt,wt:=wt,rb:=rb,wb:=wb,wl:=wl,rs:=rs,ws:=ws,nb:=nb,ex:=f.ex,so:=so }
theorem B1h{X:Type}(b:Bool)(k:Bool->X):A8V b k=k b:=by cases b<;>rfl
def B9H{X:Type}(o:Option Nat)(k:Option Nat->X):B3U o k=k o:=by cases o<;>simp only[B3U,B1j]
def B7J{X:Type}(o:Option Bool)(k:Option Bool->X):B0b o k=k o:=by cases o<;>simp only[B0b,B1h]
def A8W{X:Type}(f:Fp)(k:Fp->X):WH f k=k f:=by simp only[WH,Xt,B1h,B9H,B7J]
def Fp.look(f:Fp)(t:Nat):Fp:={ f with rt:=t::f.rt,ex:=none,so:=none }
def C6I(o:Oper)(t:Nat)(st:St):Fp:=Fp.Bq { rt:=[t],wt:=o.dst.toList } st (st.put o.dst (.I4 []) .val)
def tO(fl:I5)(o:Oper)(t:Nat)(st:St)(J:Fp->St->Option X):Option X :=K8 C R fl o st λst1=>J ((C5A C fl o st st1).look t) st1
def Yr(o:Oper)(t:Nat)(st:St)(J:Fp->St->Option X):Option X :=J (C6I o t st) (st.put o.dst (.I4 []) .val)
def EC(fl:I5)(all:List Oper)(bf:List (List Nat)):List Oper->Nat->List (Nat×Fp)->St->(St->Option X)->Option X
 |[],_,_,st,k=>k st
 |o::os,i,acc,st,k=>A4o st λst=>
   match o.guard with
   |none=>K8 C R fl o st λst1=>WH (C5A C fl o st st1) λf=>og (Lf bf i acc f) (EC fl all bf os (i+1) ((i,f)::acc) st1 k)
   |some (g,want)=>ob (Ma all g) λt=>og (M6 (st.get t).2) <|
     K3 (st.get t).1
      (if want then tO C R fl o t (st.know t (.bool true)) λf st1=>WH f λf=>og (Lf bf i acc f) (EC fl all bf os (i+1) ((i,f)::acc) st1 k)
       else Yr o t (st.know t (.bool true)) λf st1=>WH f λf=>og (Lf bf i acc f) (EC fl all bf os (i+1) ((i,f)::acc) st1 k))
      (if want then Yr o t (st.know t (.bool false)) λf st1=>WH f λf=>og (Lf bf i acc f) (EC fl all bf os (i+1) ((i,f)::acc) st1 k)
       else tO C R fl o t (st.know t (.bool false)) λf st1=>WH f λf=>og (Lf bf i acc f) (EC fl all bf os (i+1) ((i,f)::acc) st1 k))
      (Yr o t (st.know t (.I4 [])) λf st1=>WH f λf=>og (Lf bf i acc f) (EC fl all bf os (i+1) ((i,f)::acc) st1 k))
inductive Out where
 |normal
 |exit (id:Nat)
 |ret
 deriving Inhabited
def RQ(fl:I5)(id:Nat)(st:St):St :=
 match fl.keep.find? (·.1==id)with
 |some e=>st.keep e.2.1 e.2.2.1 e.2.2.2.1 e.2.2.2.2
 |none=>st
def A3z:Code->Option Nat
 |.region id _ _=>some id
 |.seq a _=>A3z a
 |.block _ b=>A3z b
 |.loop b=>A3z b
 |_=>none
def clean(fl:I5)(c:Code)(st:St):St :=
 match A3z c with
 |some id=>RQ fl id st
 |none=>st
def iX{X:Type}(r:Nat)(st:St)(k:St->Option X):Option X :=
 match (st.get r).2 with
 |.arr i sz 0 len=>ob (NB st.sg i) λq=>ob (Kh q sz len) λd=>k ({ st with sg:=st.sg.set i (.arr 1 []) }.put (some r) d .own)
 |.ptr b off=>ob (Q7 st.sg b) λcs=>ob (iW cs off) λa=>ob (NB st.sg a.1) λq=>ob (Kh q a.2.1 a.2.2) λd=>k { st with sg:=(st.sg.set b (.box (cs.set off (d,.own)))).set a.1 (.arr 1 []) }
 |_=>none
def JI{X:Type}(fl:I5)(id:Nat)(st:St)(k:St->Option X):Option X :=
 match fl.B8B.find? (·.1==id)with
 |some e=>iX e.2 st k
 |none=>k st
def A8I(P:Program)(c:Operand)(st:St)(a b:St->Option X):Option X :=
 ob (src P 0 st c) λr=>og (M6 r.2) <|
  match c with
  |.tmp t=>F3 r.1 (a (st.know t (.bool true))) (b (st.know t (.bool false)))
  |_=>F3 r.1 (a st) (b st)
def iter{S X:Type}(F:(S->Option X)->S->Option X):Nat->S->Option X
 |0,_=>none
 |n+1,s=>F (iter F n) s
def A4D(r:DV×H6):DV×H6 :=
 match r.2 with
 |.val=>(r.1,.val)
 |.full=>(r.1,.full)
 |.own=>(r.1,.val)
 |.ptr i o=>(.undef,.ptr i o)
 |.FZ=>(.LY,.FZ)
 |.map i=>(.undef,.map i)
 |.Tv=>(.undef,.Tv)
 |.fn f caps=>(.undef,.fn f caps)
 |_=>(.undef,.val)
def BA(st:St)(sg:List H7):St :={ tm:=(st.tm.zip st.mt).map (λr=>(A4D r).1),mt:=(st.tm.zip st.mt).map (λr=>(A4D r).2),bx:=st.bx.map (λ_=>none),sg:=sg }
def Ze(st:St)(p:Nat)(d:DV)(sg:List H7):St:=(BA st sg).put (some p) d .val
def Ce:List (DV×H6)->Option (List DV)
 |[]=>some []
 |c::cs=>og (match c.2 with
   |.val=>true
   |.full=>true
   |.own=>true
   |_=>false) (ob (Ce cs) λds=>some (c.1::ds))
def Aq:Code->Bool
 |.rangeFunc _ _ _ _=>false
 |.seq a b=>Aq a&&Aq b
 |.cond _ a b=>Aq a&&Aq b
 |.block _ b=>Aq b
 |.loop b=>Aq b
 |_=>true
def xu:Code->Bool
 |.region _ _ false=>true
 |.skip=>true
 |_=>false
def PL{X:Type}(step:DV->(List H7->Option X)->List H7->Option X)(fin:List H7->Option X):List DV->List H7->Option X
 |[],sg=>fin sg
 |d::ds,sg=>step d (PL step fin ds) sg
def A4l{X:Type}(C:AB)(st:St)(g:Operand)(ps:Array Nat)(pl:Bool)(fin:St->Option X)(step:Nat->DV->(List H7->Option X)->List H7->Option X):Option X :=
 match g,ps.toList with
 |.tmp t,[p]=>
   match (st.get t).2 with
   |.fn f [(i,0)]=>ob (C.iter f) λit=>ob (Q7 st.sg i) λcs=>ob (Ce cs) λcd=>ob (it cd) λds=>og pl
      (PL (step p) (λsg=>fin (BA st sg)) ds (st.sg.set i (.arr 1 [])))
   |_=>none
 |_,_=>none
open Classical in
def Jt{S X:Type}(F:(S->Option X)->S->Option X)(s:S):Option X :=if h:∃x n,iter F n s=some x then some h.choose else none
def AC(fl:I5):Code->(Out->St->Option X)->St->Option X
 |.skip,K,st=>K .normal st
 |.region id ops false,K,st=>Eh C R fl ops.toList ops.toList (RQ fl id st) λst=>JI fl id st (K .normal)
 |.region id ops true,K,st=>og (WA 0 ops.toList) (lS (NP ops.toList []) λbf=>EC C R fl ops.toList bf ops.toList 0 [] (RQ fl id st) λst=>JI fl id st (K .normal))
 |.seq a b,K,st=>AC fl a (λo st=>match o with
    |.normal=>AC fl b K (clean fl b st)
    |.exit i=>K (.exit i) st
    |.ret=>K .ret st) st
 |.cond c a b,K,st=>A8I C.P c st (λst=>AC fl a K (clean fl a st)) (λst=>AC fl b K (clean fl b st))
 |.block id b,K,st=>AC fl b (λo st=>match o with
    |.normal=>K .normal st
    |.exit i=>if i=id then K .normal st else K (.exit i) st
    |.ret=>K .ret st) st
 |.loop b,K,st=>Jt (λJ st=>AC fl b (λo st=>match o with
    |.normal=>J (clean fl b st)
    |.exit i=>K (.exit i) st
    |.ret=>K .ret st) st) (clean fl b st)
 |.rangeFunc g ps assign body,K,st=>A4l C st g ps (xu assign&&Aq body) (λst=>K .normal st) λp d J sg=>
    AC fl assign (λo st1=>match o with
     |.normal=>AC fl body (λo st2=>match o with
       |.normal=>J st2.sg
       |.exit e=>K (.exit e) (BA st st2.sg)
       |.ret=>K .ret (BA st st2.sg)) (clean fl body st1)
     |.exit _=>none
     |.ret=>none) (clean fl assign (Ze st p d sg))
 |.exit id,K,st=>K (.exit id) st
 |.ret,K,st=>K .ret st
 |_,_,_=>none
end
variable (fn:Func)
def I6(rs:List (DV×H6))(sg:List H7):St where
 tm:=rs.map (·.1)++List.replicate (fn.ntmps-rs.length) (.I4 [])
 mt:=rs.map (·.2)++List.replicate (fn.ntmps-rs.length) .val
 bx:=List.replicate (rs.length+(fn.ntmps-rs.length)) none
 sg:=sg
def V6(c:DV×H6):Option DV :=
 match c.2 with
 |.val=>some c.1
 |.full=>some c.1
 |.own=>some c.1
 |.FZ=>some c.1
 |.arr i sz off len=>ob (CZ sg i) λa=>og (a.1==sz) (if off+len<=a.2.length then some (.list sz ((a.2.drop off).take len))else none)
 |_=>none
def X6(sg:List H7):List (DV×H6)->Option (List DV)
 |[]=>some []
 |c::cs=>ob (V6 sg c) λd=>ob (X6 sg cs) λds=>some (d::ds)
def mX:ResultVar->Option DV
 |.tmp t=>
   match (st.get t).2 with
   |.FW ms=>  og (M6 (.FW ms)) (some (st.get t).1)
   |_=>V6 st.sg (st.get t)
 |.cell a t=>
   match (st.get a).2 with
   |.loc s 0=>ob (st.bx.getD s none) λcs=>ob (tz P t) λz=>
     if z.1=cs.length then
      if z.2 then ob (X6 st.sg cs) λds=>some (.agg ds)
      else match cs with
       |[c]=>V6 st.sg c
       |_=>none
     else none
   |.ptr i 0=>ob (Q7 st.sg i) λcs=>ob (tz P t) λz=>
     if z.1=cs.length then
      if z.2 then ob (X6 st.sg cs) λds=>some (.agg ds)
      else match cs with
       |[c]=>V6 st.sg c
       |_=>none
     else none
   |_=>none
def iq(P:Program)(st:St):List ResultVar->Option (List DV)
 |[]=>some []
 |v::vs=>ob (mX P st v) λd=>ob (iq P st vs) λds=>some (d::ds)
def pack:List DV->DV
 |[d]=>d
 |ds=>.I4 ds
def Vp:Out->St->Option DV
 |.exit _,_=>none
 |_,st=>ob (iq P st fn.results.toList) λds=>some (pack ds)
def A4h:H6->List Nat
 |.arr i _ _ _=>[i]
 |_=>[]
def XC:ResultVar->List Nat
 |.tmp t=>A4h (st.get t).2
 |.cell a _=>
   match (st.get a).2 with
   |.loc s _=>
     match st.bx.getD s none with
     |some cs=>cs.flatMap λc=>A4h c.2
     |none=>[]
   |_=>[]
def kill(us:List Nat):List H7:=us.foldl (λg i=>g.set i (.arr 1 [])) sg
def A64:ResultVar->Bool
 |.tmp _=>true
 |.cell a _=>
   match (st.get a).2 with
   |.loc _ _=>true
   |_=>false
def B4v(r:DV×H6):Option DV :=
 match r.2 with
 |.ptr i 0=>some (.int .u64 i)
 |.FZ=>some .LY
 |_=>none
def sS(os:List Nat):Nat->List (DV×H6)->Bool
 |_,[]=>true
 |i,c::cs=>(if os.contains i then Nf c.2 else M6 c.2)&&sS os (i+1) cs
def A9t(sl:Bool)(st:St)(k:MK)(v:ResultVar):Option DV :=
 match k with
 |.val=>match sl&&A64 st v with
   |true=>mX P st v
   |false=>mX P { st with sg:=[] } v
 |.own=>
   match v with
   |.tmp t=>og (Nf (st.get t).2) (some (st.get t).1)
   |_=>none
 |.ptr=>
   match v with
   |.tmp t=>B4v (st.get t)
   |_=>none
 |.dU n os=>
   match v with
   |.cell a t=>
     match (st.get a).2 with
     |.loc s 0=>ob (st.bx.getD s none) λcs=>ob (tz P t) λz=>og (z.2&&z.1==cs.length&&n==z.1&&sS os 0 cs) (some (.agg (cs.map (·.1))))
     |_=>none
   |_=>none
def bZ(P:Program)(sl:Bool)(st:St):List MK->List ResultVar->Option (List DV)
 |[],[]=>some []
 |k::ks,v::vs=>ob (A9t P sl st k v) λd=>ob (bZ P sl st ks vs) λds=>some (d::ds)
 |_,_=>none
def mY(s:D_):Out->St->Option (List DV×List H7)
 |.exit _,_=>none
 |_,st=>og (decide ((s.results.filter Ej).length<=1)) (ob (bZ P s.lock st s.results fn.results.toList) λds=>some (ds,match s.lock with
   |true=>kill st.sg (fn.results.toList.flatMap (XC st))
   |false=>st.sg))
variable (R:U1)(fl:I5)
def qm(p:Cut)(K:Out->St->Option X):Out->St->Option X
 |.normal,st=>ob (p.mid st) λst=>AC C R fl p.post K (clean fl p.post st)
 |.exit _,_=>none
 |.ret,st=>K .ret st
def A2E(q:Option Cut)(c:Code)(K:Out->St->Option X)(st:St):Option X :=
 match q with
 |some p=>AC C R fl (Nq p.pre .skip) (qm C R fl p K) st
 |none=>AC C R fl c K st
def Dr:U1 where
 p f ds:=ob C.P.funcs[f]? λfn=>ob fn.body λc=>A2E C R (C.fl f) (C.eZ f) c (Vp C.P fn) (I6 fn (ds.map λd=>(d,.val)) [])
 r f rs sg:=ob (C.sig f) λs=>ob C.P.funcs[f]? λfn=>ob fn.body λc=>AC C R (C.fl f) c (mY C.P fn s) (I6 fn rs sg)
def Oe(C:AB):Nat->U1
 |0=>{ p:=λ_ _=>none,r:=λ_ _ _=>none }
 |n+1=>Dr C (Oe C n)
open Classical in
def run:U1 where
 p f ds:=if h:∃x n,(Oe C n).p f ds=some x then some h.choose else none
 r f rs sg:=if h:∃x n,(Oe C n).r f rs sg=some x then some h.choose else none
abbrev pt:DV×H6:=(.undef,.ptr i 0)
abbrev oc{α : Type}(q:Option (List DV×List H7))(k:DV->List H7->Option α):Option α := ob q λr=>k (r.1.getD 0 .undef) r.2
end
end Go.Su

/-
 THE DATA MACHINE, part 3: what it means that memory holds plain data, and what keeps it so.
-/
namespace Go.Su
set_option linter.defProp false
abbrev Heap:=Array Obj
abbrev AL:=Nat->Nat->Prop
variable (h:Heap)
def hc(b o:Nat):Option Value :=
 match h[b]? with
 |some (.cells c _ _)=>c[o]?
 |_=>none
def Vz(w:World)(b o:Nat):w.cell? ⟨b,o,none⟩=hc w.heap b o:=by unfold World.cell? hc;split<;>simp_all
variable (S:AL)
def At(h:Heap)(b o:Nat)(vs:List Value):Prop :=∀j v,vs[j]?=some v->hc h b (o+j)=some v/\S b (o+j)
mutual
def RC(S:AL)(h:Heap):DV->List Value->Prop
 |.undef,vs=>∃v,vs=[v]/\v.oneCell'=true
 |.int k n,vs=>vs=[.int k n]
 |.bool b,vs=>vs=[.bool b]
 |.str s,vs=>vs=[.string s]
 |.agg cs,vs=>Jb S h cs vs
 |.I4 _,_=>False
 |.list sz ds,vs=>∃a len cap,vs=[.slice a len cap]/\len=ds.length/\len<=cap/\(a=none->cap=0)/\(ds≠[]->0<sz) /\∀x,a=some x->(0<cap->x.spot=none)/\Ez S h sz x.block x.off ds
 |.LY,vs=>vs=[.pointer none]
 |.P_ sz d,vs=>∃b o,vs=[.pointer (some ⟨b,o,none⟩)]/\∃us:List Value,us.length=sz/\At S h b o us/\RC S h d us
def Jb(S:AL)(h:Heap):List DV->List Value->Prop
 |[],vs=>vs=[]
 |d::ds,vs=>∃v vs',vs=v::vs'/\M7 d=true/\RC S h d [v]/\Jb S h ds vs'
def Ez(S:AL)(h:Heap)(sz b:Nat):Nat->List DV->Prop
 |_,[]=>True
 |o,d::ds=>(∃vs,vs.length=sz/\At S h b o vs/\RC S h d vs)/\Ez S h sz b (o+sz) ds
end
mutual
def RV(S:AL)(h:Heap):DV->Value->Prop
 |.undef,_=>True
 |.int k n,v=>v=.int k n
 |.bool b,v=>v=.bool b
 |.str s,v=>v=.string s
 |.agg cs,v=>∃vs,v=.agg vs/\Jb S h cs vs.toList
 |.I4 ds,v=>∃vs,v=.tuple vs/\TJ S h ds vs.toList
 |.list sz ds,v=>RC S h (.list sz ds) [v]
 |.LY,v=>v=.pointer none
 |.P_ sz d,v=>RC S h (.P_ sz d) [v]
def TJ(S:AL)(h:Heap):List DV->List Value->Prop
 |[],vs=>vs=[]
 |d::ds,vs=>∃v vs',vs=v::vs'/\RV S h d v/\TJ S h ds vs'
end
def Gr{S:AL}{h:Heap}:∀{cs:List DV}{vs:List Value},Jb S h cs vs ↔
 cs.length=vs.length/\∀(i:Nat) d v,cs[i]?=some d->vs[i]?=some v->M7 d=true/\RC S h d [v]
 |[],vs=>by
   simp only[Jb];constructor
   ·rintro rfl;simp
   ·rintro⟨h1,-⟩;exact zwq h1.symm
 |d::ds,vs=>by
   simp only[Jb];constructor
   ·rintro⟨v,vs',rfl,hl,hc,hr⟩;obtain⟨h1,h2⟩:=Gr.1 hr;refine⟨by simp[h1],λi d' v' hd hv=>?_⟩;cases i with
    |zero=>simp at hd hv;subst hd hv;exact⟨hl,hc⟩
    |succ i=>simp at hd hv;exact h2 i d' v' hd hv
   ·rintro⟨h1,h2⟩;cases vs with
    |nil=>simp at h1
    |cons v vs'=>refine⟨v,vs',rfl,(h2 0 d v rfl rfl).1,(h2 0 d v rfl rfl).2,Gr.2 ⟨by simpa using h1,λi d' v' hd hv=>h2 (i+1) d' v' (by simpa using hd) (by simpa using hv)⟩⟩
def Yj{S:AL}{h:Heap}:∀{cs:List DV}{vs:List Value},TJ S h cs vs ↔
 cs.length=vs.length/\∀(i:Nat) d v,cs[i]?=some d->vs[i]?=some v->RV S h d v
 |[],vs=>by
   simp only[TJ];constructor
   ·rintro rfl;simp
   ·rintro⟨h1,-⟩;exact zwq h1.symm
 |d::ds,vs=>by
   simp only[TJ];constructor
   ·rintro⟨v,vs',rfl,hc,hr⟩;obtain⟨h1,h2⟩:=Yj.1 hr;refine⟨by simp[h1],λi d' v' hd hv=>?_⟩;cases i with
    |zero=>simp at hd hv;subst hd hv;exact hc
    |succ i=>simp at hd hv;exact h2 i d' v' hd hv
   ·rintro⟨h1,h2⟩;cases vs with
    |nil=>simp at h1
    |cons v vs'=>refine⟨v,vs',rfl,h2 0 d v rfl rfl,Yj.2 ⟨by simpa using h1,λi d' v' hd hv=>h2 (i+1) d' v' (by simpa using hd) (by simpa using hv)⟩⟩
def Elem(S:AL)(h:Heap)(sz b o:Nat)(d:DV):Prop:=∃vs:List Value,vs.length=sz/\At S h b o vs/\RC S h d vs
def FL{S:AL}{h:Heap}{sz b:Nat}:∀{ds:List DV}{o:Nat},Ez S h sz b o ds ↔
 ∀(i:Nat) d,ds[i]?=some d->Elem S h sz b (o+i * sz) d
 |[],o=>by simp[Ez]
 |d::ds,o=>by
   simp only[Ez];constructor
   ·rintro⟨h1,h2⟩ i d' hd;cases i with
    |zero=>simp at hd;subst hd;simpa[Elem]using h1
    |succ i=>have:=FL.1 h2 i d' (by simpa using hd);rw[zpq,zKq (i * sz),<- zlq];exact this
   ·intro hh;refine⟨by simpa[Elem]using hh 0 d rfl,FL.2 λi d' hd=>?_⟩;have:=hh (i+1) d' (by simpa using hd);rw[zpq,zKq (i * sz),<- zlq]at this;exact this
structure AZ(S:AL)(h:Heap)(S':AL)(h':Heap):Prop where
 s:∀b o,S b o->S' b o
 c:∀b o v,S b o->hc h b o=some v->hc h' b o=some v
variable {S:AL}{h:Heap}{vs:List Value}
def At.mono{S':AL}{h':Heap}{b o:Nat}(M3:AZ S h S' h')(H:At S h b o vs):At S' h' b o vs :=λj v hv=>⟨M3.c _ _ _ (H j v hv).2 (H j v hv).1,M3.s _ _ (H j v hv).2⟩
mutual
def RC.mono{S S':AL}{h h':Heap}(M3:AZ S h S' h'):∀(d:DV){vs:List Value},RC S h d vs->RC S' h' d vs
 |.undef,_,H=>by simpa only[RC]using H
 |.int _ _,_,H=>by simpa only[RC]using H
 |.bool _,_,H=>by simpa only[RC]using H
 |.str _,_,H=>by simpa only[RC]using H
 |.agg cs,_,H=>by simp only[RC]at H ⊢;exact Jb.mono M3 cs H
 |.I4 _,_,H=>by simp only[RC]at H
 |.list sz ds,_,H=>by simp only[RC]at H ⊢;obtain⟨a,len,cap,h1,h2,h3,h4,h5,h6⟩:=H;exact⟨a,len,cap,h1,h2,h3,h4,h5,λx hx=>⟨(h6 x hx).1,Ez.mono M3 ds (h6 x hx).2⟩⟩
 |.LY,_,H=>by simpa only[RC]using H
 |.P_ sz d,_,H=>by simp only[RC]at H ⊢;obtain⟨b,o,h1,us,h2,h3,h4⟩:=H;exact⟨b,o,h1,us,h2,h3.mono M3,RC.mono M3 d h4⟩
def Jb.mono{S S':AL}{h h':Heap}(M3:AZ S h S' h'):∀(ds:List DV){vs:List Value},Jb S h ds vs->Jb S' h' ds vs
 |[],_,H=>by simpa only[Jb]using H
 |d::ds,_,H=>by simp only[Jb]at H ⊢;obtain⟨v,vs',h1,h2,h3,h4⟩:=H;exact⟨v,vs',h1,h2,RC.mono M3 d h3,Jb.mono M3 ds h4⟩
def Ez.mono{S S':AL}{h h':Heap}(M3:AZ S h S' h'){sz b:Nat}:∀(ds:List DV){o:Nat},Ez S h sz b o ds->Ez S' h' sz b o ds
 |[],_,_=>by simp only[Ez]
 |d::ds,_,H=>by simp only[Ez]at H ⊢;obtain⟨⟨vs,h1,h2,h3⟩,h4⟩:=H;exact⟨⟨vs,h1,h2.mono M3,RC.mono M3 d h3⟩,Ez.mono M3 ds h4⟩
end
variable {S:AL}{h:Heap}{d:DV}
def Elem.mono{S':AL}{h':Heap}(M3:AZ S h S' h'){sz b o:Nat}(H:Elem S h sz b o d):Elem S' h' sz b o d :=
 let⟨vs,h1,h2,h3⟩:=H
 ⟨vs,h1,h2.mono M3,RC.mono M3 d h3⟩
mutual
def RV.mono{S S':AL}{h h':Heap}(M3:AZ S h S' h'):∀(d:DV){v:Value},RV S h d v->RV S' h' d v
 |.undef,_,_=>by simp only[RV]
 |.int _ _,_,H=>by simpa only[RV]using H
 |.bool _,_,H=>by simpa only[RV]using H
 |.str _,_,H=>by simpa only[RV]using H
 |.agg cs,_,H=>by simp only[RV]at H ⊢;obtain⟨vs,h1,h2⟩:=H;exact⟨vs,h1,Jb.mono M3 cs h2⟩
 |.I4 ds,_,H=>by simp only[RV]at H ⊢;obtain⟨vs,h1,h2⟩:=H;exact⟨vs,h1,TJ.mono M3 ds h2⟩
 |.list _ _,_,H=>by simp only[RV]at H ⊢;exact RC.mono M3 _ H
 |.LY,_,H=>by simpa only[RV]using H
 |.P_ _ _,_,H=>by simp only[RV]at H ⊢;exact RC.mono M3 _ H
def TJ.mono{S S':AL}{h h':Heap}(M3:AZ S h S' h'):∀(ds:List DV){vs:List Value},TJ S h ds vs->TJ S' h' ds vs
 |[],_,H=>by simpa only[TJ]using H
 |d::ds,_,H=>by simp only[TJ]at H ⊢;obtain⟨v,vs',h1,h2,h3⟩:=H;exact⟨v,vs',h1,RV.mono M3 d h2,TJ.mono M3 ds h3⟩
end
variable {S:AL}{h:Heap}{d:DV}{v:Value}
theorem Lu(hl:M7 d=true)(H:RC S h d [v]):v.oneCell'=true:=by
 cases d<;>simp only[RC,M7]at H hl<;>try contradiction
 ·obtain⟨u,hu,hv⟩:=H;simp at hu;subst hu;exact hv
 ·simp at H;subst H;rfl
 ·simp at H;subst H;rfl
 ·simp at H;subst H;rfl
 ·obtain⟨a,len,cap,hu,-⟩:=H;simp at hu;subst hu;rfl
 ·simp at H;subst H;rfl
 ·obtain⟨b,o,hu,-⟩:=H;simp at hu;subst hu;rfl
variable {vs:List Value}
def NN(hl:M7 d=true)(H:RC S h d vs):∃v,vs=[v]:=by
 cases d<;>simp only[RC,M7]at H hl<;>try contradiction
 ·obtain⟨u,hu,-⟩:=H;exact⟨u,hu⟩
 ·exact⟨_,H⟩
 ·exact⟨_,H⟩
 ·exact⟨_,H⟩
 ·obtain⟨a,len,cap,hu,-⟩:=H;exact⟨_,hu⟩
 ·exact⟨_,H⟩
 ·obtain⟨b,o,hu,-⟩:=H;exact⟨_,hu⟩
def Qr(hl:M7 d=true)(H:RC S h d [v]):RV S h d v:=by
 cases d<;>simp only[RC,RV,M7]at H hl ⊢<;>try contradiction
 ·simpa using H
 ·simpa using H
 ·simpa using H
 ·exact H
 ·simpa using H
 ·exact H
def Qq(hl:M7 d=true)(hv:v.oneCell'=true)(H:RV S h d v):RC S h d [v]:=by
 cases d<;>simp only[RC,RV,M7]at H hl ⊢<;>try contradiction
 ·exact⟨v,rfl,hv⟩
 ·simpa using H
 ·simpa using H
 ·simpa using H
 ·exact H
 ·simpa using H
 ·exact H
def Sc(H:RC S h d vs){j:Nat}(hv:vs[j]?=some v):
 M7 (A7 j d)=true/\RC S h (A7 j d) [v]:=by
 have und:∀u:Value,u.oneCell'=true->M7 DV.undef=true/\RC S h DV.undef [u]:=λu hu=>⟨rfl,by simp only[RC];exact⟨u,rfl,hu⟩⟩;cases d with
 |agg cs=>simp only[RC]at H;obtain⟨h1,h2⟩:=Gr.1 H;have hj:j<vs.length:=(z0q.1 hv).1;have hc:cs[j]?=some (cs[j]'(by omega)):=z2q (by omega);have:=h2 j _ v hc hv;simp only[A7,z1q,hc,zAq];exact this
 |I4 _=>simp only[RC]at H
 |undef=>
   obtain⟨u,rfl⟩:=NN (d:=.undef) rfl H;have h1:=Lu (d:=.undef) rfl H;cases j with
   |zero=>simp at hv;subst hv;exact und _ h1
   |succ j=>simp at hv
 |int k n=>
   obtain⟨u,rfl⟩:=NN (d:=.int k n) rfl H;have h1:=Lu (d:=.int k n) rfl H;cases j with
   |zero=>simp at hv;subst hv;exact und _ h1
   |succ j=>simp at hv
 |bool b=>
   obtain⟨u,rfl⟩:=NN (d:=.bool b) rfl H;have h1:=Lu (d:=.bool b) rfl H;cases j with
   |zero=>simp at hv;subst hv;exact und _ h1
   |succ j=>simp at hv
 |str s=>
   obtain⟨u,rfl⟩:=NN (d:=.str s) rfl H;have h1:=Lu (d:=.str s) rfl H;cases j with
   |zero=>simp at hv;subst hv;exact und _ h1
   |succ j=>simp at hv
 |list sz ds=>
   obtain⟨u,rfl⟩:=NN (d:=.list sz ds) rfl H;have h1:=Lu (d:=.list sz ds) rfl H;cases j with
   |zero=>simp at hv;subst hv;exact und _ h1
   |succ j=>simp at hv
 |LY=>
   obtain⟨u,rfl⟩:=NN (d:=.LY) rfl H;have h1:=Lu (d:=.LY) rfl H;cases j with
   |zero=>simp at hv;subst hv;exact und _ h1
   |succ j=>simp at hv
 |P_ sz d=>
   obtain⟨u,rfl⟩:=NN (d:=.P_ sz d) rfl H;have h1:=Lu (d:=.P_ sz d) rfl H;cases j with
   |zero=>simp at hv;subst hv;exact und _ h1
   |succ j=>simp at hv
end Go.Su

/-
 THE DATA MACHINE, part 4: a state of the data machine and a state of the model that hold the same.
-/
namespace Go.Su
set_option linter.defProp false
inductive Tag where
 |other
 |U0
 |Vo (s:Nat)
 |obj (i:Nat)
 |sp (k a b:Nat)
 deriving DecidableEq
structure Env where
 blk:Nat->Nat
 obj:Nat->Nat
 base:Nat->Nat
 top:Nat->Nat
 O:Nat->Nat->Tag
 n:Nat
 Bj:Nat->Nat
variable (E:Env)
def Env.In(i:Nat):Prop:=i<E.n/\E.Bj i=0
def Env.S:AL:=λb o=>E.O b o=.U0
variable (h:Heap)(tg:Tag)
def B2T(sz:Nat)(v:Value):Prop :=∀(x:Addr)(len cap:Nat),v=.slice (some x) len cap->len<cap->∃c T f,h[x.block]?=some (.cells c T f)/\x.off+cap * sz<=c.size /\∀o,x.off+len * sz<=o->o<x.off+cap * sz->E.O x.block o=tg/\¬(f.1<=o/\o<f.2)
def O0(d:DV)(m:H6)(v:Value):Prop :=
 match m with
 |.val=>RV E.S h d v
 |.full=>RV E.S h d v/\(∃(a:Option Addr)(n:Nat),v=.slice a n n)/\∃sz ds,d=.list sz ds
 |.own=>RV E.S h d v/\∃sz ds,d=.list sz ds/\B2T E h tg sz v
 |.loc s o=>d=.undef/\v=.pointer (some ⟨E.blk s,o,none⟩)
 |.Re ag sz o=>∃b o0,v=.pointer (some ⟨b,o0+o,none⟩)/\Elem E.S h sz b o0 d/\(ag=false->M7 d=true)
 |.ptr i o=>E.In i/\v=.pointer (some ⟨E.obj i,o,none⟩)
 |.FZ=>d=.LY/\v=.pointer none
 |.map i=>E.In i/\v=.map (some (E.obj i))
 |.Tv=>v=.map none
 |.arr i sz off len=>E.In i/\∃(a:Option Addr)(cap:Nat),v=.slice a len cap/\(0<len->a=some ⟨E.obj i,E.base i+off * sz,none⟩)/\len<=cap/\(a=none->cap=0)/\(∀x,a=some x->x.spot=none)/\(0<len->E.base i+(off+cap) * sz<=E.top i)
 |.fI i sz idx o=>E.In i/\v=.pointer (some ⟨E.obj i,E.base i+idx * sz+o,none⟩)
 |.opt i sz idx=>E.In i/\v=.pointer (some ⟨E.obj i,E.base i+idx * sz,none⟩)
 |.BF i n sz len=>i<E.n/\0<n/\n<=E.Bj i/\∃(a:Option Addr)(cap:Nat),v=.slice a len cap/\len<=cap/\(a=none->cap=0)/\(0<cap->∀x,a=some x->x.spot=none) /\(E.Bj i=n->0<cap->a=some ⟨E.obj i,E.base i,none⟩/\E.base i+cap * sz<=E.top i)
 |.wJ i n sz idx o=>i<E.n/\0<n/\n<=E.Bj i/\∃b p,v=.pointer (some ⟨b,p+o,none⟩)/\(E.Bj i=n->b=E.obj i/\p=E.base i+idx * sz)
 |.fn f caps=>v=.func (.func f) #[] (caps.map λc=>Value.pointer (some ⟨E.obj c.1,c.2,none⟩)).toArray/\∀c∈caps,E.In c.1
 |.DJ _=>False
 |.FW _=>False
def RR(k a:Nat)(d:DV)(m:H6)(v:Value):Prop :=
 match m with
 |.DJ ms=>∃(ds:List DV)(vs:Array Value),d=.I4 ds/\v=.tuple vs/\ds.length=ms.length/\vs.size=ms.length /\∀(i:Nat) m' d' u,ms[i]?=some m'->ds[i]?=some d'->vs[i]?=some u->w9 m'=true/\O0 E h (.sp k a (i+1)) d' m' u
 |.FW ms=>∃(ds:List DV)(vs:Array Value),d=.agg ds/\v=.agg vs/\ds.length=ms.length/\vs.size=ms.length /\∀(i:Nat) m' d' u,ms[i]?=some m'->ds[i]?=some d'->vs[i]?=some u->M7 d'=true/\u.oneCell'=true/\w9 m'=true/\O0 E h (.sp k a (i+1)) d' m' u
 |m=>O0 E h (.sp k a 0) d m v
def jT(k a:Nat)(b:Nat)(cs:List (DV×H6)):Prop :=∃c T,h[b]?=some (.cells c T (0,0))/\c.size=cs.length/\(∀o,E.O b o=tg\/c.size<=o) /\∀(j:Nat) r v,cs[j]?=some r->c[j]?=some v->M7 r.1=true/\v.oneCell'=true/\w9 r.2=true/\O0 E h (.sp k a j) r.1 r.2 v
def C47(S:AL)(h:Heap)(ks:Bool)(es:List (DV×DV))(ens:Array MapEntry):Prop :=es.length=ens.size/\∀(j:Nat) e n,es[j]?=some e->ens[j]?=some n->Ao ks e.1=true/\RV S h e.1 n.key/\RV S h e.2 n.val
def wL(ens:Array MapEntry)(clk:Nat):Prop :=(∀(j:Nat) n,ens[j]?=some n->n.born<clk)/\∀(i j:Nat) m n,ens[i]?=some m->ens[j]?=some n->m.born=n.born->i=j
def RO(i:Nat):H7->Prop
 |.box cs=>jT E h (.obj i) 2 i (E.obj i) cs
 |.arr sz ds=>ds≠[]->∃c T,h[E.obj i]?=some (.cells c T (0,0))/\E.base i+ds.length * sz<=c.size/\0<sz /\
    (∀o,E.base i<=o->o<E.base i+ds.length * sz->E.O (E.obj i) o=.obj i) /\
    ∀(j:Nat) d,ds[j]?=some d->∃vs:List Value,vs.length=sz/\(∀(x:Nat) u,vs[x]?=some u->c[E.base i+j * sz+x]?=some u)/\RC E.S h d vs
 |.opn sz pre ds=>∃c T f,h[E.obj i]?=some (.cells c T f)/\E.base i+(pre.length+ds.length) * sz<=E.top i/\E.top i<=c.size/\0<sz /\
    (∀o,E.base i+pre.length * sz<=o->o<E.top i->E.O (E.obj i) o=.obj i/\¬(f.1<=o/\o<f.2)) /\
    (∀(j:Nat) d,pre[j]?=some d->Elem E.S h sz (E.obj i) (E.base i+j * sz) d) /\
    ∀(j:Nat) d,ds[j]?=some d->∃vs:List Value,vs.length=sz/\(∀(x:Nat) u,vs[x]?=some u->c[E.base i+(pre.length+j) * sz+x]?=some u)/\RC E.S h d vs
 |.BF n sz ds=>E.Bj i=n/\0<n/\0<sz/\((ds=[]/\E.top i=E.base i)\/∃c T f,h[E.obj i]?=some (.cells c T f)/\E.base i+ds.length * sz<=E.top i/\E.top i<=c.size /\
    (∀o,E.base i<=o->o<E.top i->E.O (E.obj i) o=.obj i/\¬(f.1<=o/\o<f.2)) /\
    ∀(j:Nat) d,ds[j]?=some d->∃vs:List Value,vs.length=sz/\(∀(x:Nat) u,vs[x]?=some u->c[E.base i+j * sz+x]?=some u)/\RC E.S h d vs)
 |.map ks es=>∃ens clk,h[E.obj i]?=some (.map ens clk)/\(∀o,E.O (E.obj i) o=.obj i)/\C47 E.S h ks es ens/\wL ens clk
structure M9(E:Env)(st:St)(a:Act)(h:Heap):Prop where
 size:a.tmps.size=st.tm.length
 Ba:st.mt.length=st.tm.length
 Dm:st.bx.length=st.tm.length
 n:st.sg.length=E.n
 AA:∀(t:Nat) v,a.tmps[t]?=some v->RR E h 0 t (st.get t).1 (st.get t).2 v
 Ad:∀(s:Nat) cs,st.bx.getD s none=some cs->jT E h (.Vo s) 1 s (E.blk s) cs
 V8:∀(i:Nat) ob,st.sg[i]?=some ob->RO E h i ob
 fresh:∀b o,h.size<=b->E.O b o=.other
structure W9(w w':World):Prop where
 os:w'.os=w.os
 tape:w'.tape=w.tape
 output:w'.output=w.output
def W9.refl(w:World):W9 w w:=⟨rfl,rfl,rfl⟩
def W9.trans{a b c:World}(h:W9 a b)(k:W9 b c):W9 a c:=⟨k.os.trans h.os,k.tape.trans h.tape,k.output.trans h.output⟩
def Y4(keep:Nat->Prop)(x y:Option Obj):Prop :=
 match x with
 |none=>True
 |some (.cells c T f)=>∃c',y=some (.cells c' T f)/\c'.size=c.size/\∀o,keep o->c'[o]?=c[o]?
 |some ob=>keep 0->y=some ob
def B2U(ch:Tag->Prop)(E E':Env):Prop:=∀i,i<E.n->(E.Bj i=0->E'.Bj i=0)/\E.Bj i<=E'.Bj i/\(¬ch (.obj i)->E'.Bj i=E.Bj i)
variable {E:Env}{E':Env}
def Ee{ch:Tag->Prop}(h:E'.Bj=E.Bj):B2U ch E E':=λi _=>by rw[h];exact⟨id,z8q _,λ_=>rfl⟩
def iw{ch:Tag->Prop}(h:E'.Bj=λi=>if i=E.n then 0 else E.Bj i):B2U ch E E':=λi hi=>by
 have:E'.Bj i=E.Bj i:=by rw[h];exact C8 (by omega)
 rw[this];exact⟨id,z8q _,λ_=>rfl⟩
structure Pr(ch:Tag->Prop)(E:Env)(h:Heap)(E':Env)(h':Heap):Prop where
 size:h.size<=h'.size
 blk:∀b,b<h.size->Y4 (λo=>¬ch (E.O b o)) h[b]? h'[b]?
 tags:∀b o,b<h.size->¬ch (E.O b o)->E'.O b o=E.O b o
 n:E.n<=E'.n
 V8:∀i,i<E.n->E'.Bj i=E.Bj i->E'.obj i=E.obj i/\E'.base i=E.base i/\E'.top i=E.top i
 qf:∀s,¬ch (.Vo s)->E'.blk s=E.blk s
 Rx:B2U ch E E'
theorem Y4.refl(keep:Nat->Prop)(x:Option Obj):Y4 keep x x:=by
 unfold Y4;split
 ·trivial
 ·exact⟨_,rfl,rfl,λ_ _=>rfl⟩
 ·exact λ_=>rfl
def Pr.refl(ch:Tag->Prop)(E:Env)(h:Heap):Pr ch E h E h :=⟨z8q _,λ_ _=>Y4.refl _ _,λ_ _ _ _=>rfl,z8q _,λ_ _ _=>⟨rfl,rfl,rfl⟩,λ_ _=>rfl,Ee rfl⟩
variable {h:Heap}{h':Heap}{i:Nat}
def Pr.old{ch:Tag->Prop}(H:Pr ch E h E' h')(hi:E.In i):E'.obj i=E.obj i/\E'.base i=E.base i/\E'.top i=E.top i :=H.V8 i hi.1 (((H.Rx i hi.1).1 hi.2).trans hi.2.symm)
def Pr.In{ch:Tag->Prop}(H:Pr ch E h E' h')(hi:E.In i):E'.In i:=⟨zkq hi.1 H.n,(H.Rx i hi.1).1 hi.2⟩
def Pr.Au{ch ch':Tag->Prop}(H:Pr ch E h E' h')(hc:∀t,ch t->ch' t):Pr ch' E h E' h':=by
 refine⟨H.size,λb hb=>?_,λb o hb hn=>H.tags b o hb λx=>hn (hc _ x),H.n,H.V8,λs hn=>H.qf s λx=>hn (hc _ x),λi hi=>⟨(H.Rx i hi).1,(H.Rx i hi).2.1,λhn=>(H.Rx i hi).2.2 λx=>hn (hc _ x)⟩⟩;have:=H.blk b hb;unfold Y4 at this ⊢;split at this
 ·trivial
 ·obtain⟨c',h1,h2,h3⟩:=this;exact⟨c',h1,h2,λo ho=>h3 o λx=>ho (hc _ x)⟩
 ·exact λh0=>this λx=>h0 (hc _ x)
def Pr.trans{ch:Tag->Prop}{E1 E2:Env}{h1 h2:Heap}(A:Pr ch E h E1 h1)(B:Pr ch E1 h1 E2 h2):Pr ch E h E2 h2:=by
 refine⟨zLq A.size B.size,λb hb=>?_,λb o hb hn=>?_,zLq A.n B.n,λi hi hv=>?_,λs hn=>(B.qf s hn).trans (A.qf s hn),λi hi=>?_⟩
 ·have a:=A.blk b hb;have bb:=B.blk b (zkq hb A.size);unfold Y4 at a;unfold Y4;split at a
  ·trivial
  ·obtain⟨c',e1,e2,e3⟩:=a;unfold Y4 at bb;rw[e1]at bb;obtain⟨c2,f1,f2,f3⟩:=bb;refine⟨c2,f1,f2.trans e2,λo ho=>(f3 o ?_).trans (e3 o ho)⟩;show ¬ch (E1.O b o);rw[A.tags b o hb ho];exact ho
  ·rename_i ob hne _;intro h0;have e1:=a h0;rw[e1]at bb;have bM:¬ch (E1.O b 0):=by rw[A.tags b 0 hb h0];exact h0
   unfold Y4 at bb;split at bb
   ·simp_all
   ·rename_i heq;simp only[D9]at heq;exact absurd heq (hne _ _ _)
   ·rename_i heq;rw[<- heq]at bb;exact heq ▸ bb bM
 ·have:=A.tags b o hb hn;exact(B.tags b o (zkq hb A.size) (by rw[this];exact hn)).trans this
 ·have v1:=(A.Rx i hi).2.1;have v2:=(B.Rx i (zkq hi A.n)).2.1;have x:=A.V8 i hi (by omega);have y:=B.V8 i (zkq hi A.n) (by omega);exact⟨y.1.trans x.1,y.2.1.trans x.2.1,y.2.2.trans x.2.2⟩
 ·have v1:=A.Rx i hi;have v2:=B.Rx i (zkq hi A.n);exact⟨λh=>v2.1 (v1.1 h),zLq v1.2.1 v2.2.1,λhn=>(v2.2.2 hn).trans (v1.2.2 hn)⟩
variable {v:Value}
def Pr.hc{ch:Tag->Prop}(H:Pr ch E h E' h'){b o:Nat}(hn:¬ch (E.O b o))(hv:hc h b o=some v):Su.hc h' b o=some v:=by
 have hb:b<h.size:=by
  rcases zxq b h.size with h1 | h1
  ·exact h1
  ·simp[Su.hc,Array.getElem?_eq_none h1]at hv
 have:=H.blk b hb;unfold Y4 at this;unfold Su.hc at hv ⊢;split at this
 ·simp_all
 ·rename_i c T f he;obtain⟨c',e1,e2,e3⟩:=this;rw[he]at hv;rw[e1];simp only at hv ⊢;rw[e3 o hn];exact hv
 ·rename_i ob hne he;rw[he]at hv;split at hv
  ·rename_i heq;simp only[D9]at heq;exact absurd heq (hne _ _ _)
  ·simp at hv
def Pr.U0{ch:Tag->Prop}(H:Pr ch E h E' h')(hs:¬ch .U0)(hf:∀b o,h.size<=b->E.O b o=.other):AZ E.S h E'.S h':=by
 refine⟨λb o h1=>?_,λb o v h1 hv=>H.hc (by rw[show E.O b o=.U0 from h1];exact hs) hv⟩;have hb:b<h.size:=by
  rcases zxq b h.size with h2 | h2
  ·exact h2
  ·have:=hf b o h2;rw[show E.O b o=.U0 from h1]at this;cases this
 have:=H.tags b o hb (by rw[show E.O b o=.U0 from h1];exact hs);exact this.trans h1
variable {tg:Tag}
def B2T.mono{ch:Tag->Prop}(H:Pr ch E h E' h')(ht:¬ch tg){sz:Nat}(hs:B2T E h tg sz v):B2T E' h' tg sz v:=by intro x len cap hv P8;obtain⟨c,T,f,h1,h2,h3⟩:=hs x len cap hv P8;have hb:x.block<h.size:=(z6q.1 h1).1;have:=H.blk x.block hb;unfold Y4 at this;rw[h1]at this;obtain⟨c',e1,e2,e3⟩:=this;refine⟨c',T,f,e1,by rw[e2];exact h2,λo h4 h5=>?_⟩;obtain⟨h6,h7⟩:=h3 o h4 h5;exact⟨(H.tags _ _ hb (by rw[h6];exact ht)).trans h6,h7⟩
def O0.mono{ch:Tag->Prop}(H:Pr ch E h E' h')(M3:AZ E.S h E'.S h'){d:DV}{m:H6}(ht:m=.own->¬ch tg)(hl:∀s o,m=.loc s o->¬ch (.Vo s))(R:O0 E h tg d m v):O0 E' h' tg d m v:=by
 cases m<;>simp only[O0]at R ⊢
 case val=>exact R.mono M3
 case full=>exact⟨R.1.mono M3,R.2⟩
 case own=>obtain⟨r1,sz,ds,r2,r3⟩:=R;exact⟨r1.mono M3,sz,ds,r2,r3.mono H (ht rfl)⟩
 case loc s o=>rw[H.qf s (hl s o rfl)];exact R
 case Re ag sz o=>obtain⟨b,o0,r1,r2,r3⟩:=R;exact⟨b,o0,r1,r2.mono M3,r3⟩
 case ptr i o=>rw[(H.old R.1).1];exact⟨H.In R.1,R.2⟩
 case FZ=>exact R
 case map i=>rw[(H.old R.1).1];exact⟨H.In R.1,R.2⟩
 case Tv=>exact R
 case arr i sz off len=>rw[(H.old R.1).1,(H.old R.1).2.1,(H.old R.1).2.2];exact⟨H.In R.1,R.2⟩
 case fI i sz idx o=>rw[(H.old R.1).1,(H.old R.1).2.1];exact⟨H.In R.1,R.2⟩
 case opt i sz idx=>rw[(H.old R.1).1,(H.old R.1).2.1];exact⟨H.In R.1,R.2⟩
 case fn f caps=>refine⟨?_,λc hc=>H.In (R.2 c hc)⟩;rw[R.1];congr 2;exact List.map_congr_left λc hc=>by rw[(H.old (R.2 c hc)).1]
 case BF i n sz len=>obtain⟨r1,r2,r3,a,cap,r4,r5,r6,r7,r8⟩:=R;have hv:=(H.Rx i r1).2.1;refine⟨zkq r1 H.n,r2,by omega,a,cap,r4,r5,r6,r7,λe=>?_⟩;have q:=H.V8 i r1 (by omega);rw[q.1,q.2.1,q.2.2];exact r8 (by omega)
 case wJ i n sz idx o=>obtain⟨r1,r2,r3,b,p,r4,r5⟩:=R;have hv:=(H.Rx i r1).2.1;refine⟨zkq r1 H.n,r2,by omega,b,p,r4,λe=>?_⟩;have q:=H.V8 i r1 (by omega);rw[q.1,q.2.1];exact r5 (by omega)
def RR.mono{ch:Tag->Prop}(H:Pr ch E h E' h')(M3:AZ E.S h E'.S h'){k a:Nat}{d:DV}{m:H6}(ht:∀b,¬ch (.sp k a b))(hl:∀s o,m=.loc s o->¬ch (.Vo s))(R:RR E h k a d m v):RR E' h' k a d m v:=by
 have gen:(∀ms,m ≠ .DJ ms)->(∀ms,m ≠ .FW ms)->O0 E h (.sp k a 0) d m v->O0 E' h' (.sp k a 0) d m v :=λ_ _ r=>r.mono H M3 (λ_=>ht 0) hl
 cases m<;>simp only[RR]at R ⊢<;>try (exact gen (by simp) (by simp) R)
 case DJ ms=>
  obtain⟨ds,vs,h1,h2,h3,h4,h5⟩:=R;exact⟨ds,vs,h1,h2,h3,h4,λi m' d' u e1 e2 e3=>let⟨a0,a4⟩:=h5 i m' d' u e1 e2 e3
   ⟨a0,a4.mono H M3 (λ_=>ht _) λs o hm=>by rw[hm]at a0;simp[w9]at a0⟩⟩
 case FW ms=>
  obtain⟨ds,vs,h1,h2,h3,h4,h5⟩:=R;exact⟨ds,vs,h1,h2,h3,h4,λi m' d' u e1 e2 e3=>let⟨a1,a2,a0,a4⟩:=h5 i m' d' u e1 e2 e3
   ⟨a1,a2,a0,a4.mono H M3 (λ_=>ht _) λs o hm=>by rw[hm]at a0;simp[w9]at a0⟩⟩
def jT.mono{ch:Tag->Prop}(H:Pr ch E h E' h')(M3:AZ E.S h E'.S h')(ht:¬ch tg){k a b:Nat}{cs:List (DV×H6)}(hs:∀j,¬ch (.sp k a j))(R:jT E h tg k a b cs):jT E' h' tg k a b cs:=by
 obtain⟨c,T,h1,h2,h3,h4⟩:=R;have hb:b<h.size:=(z6q.1 h1).1;have:=H.blk b hb;unfold Y4 at this;rw[h1]at this;obtain⟨c',e1,e2,e3⟩:=this;refine⟨c',T,e1,e2.trans h2,λo=>?_,λj r v hr hv=>?_⟩
 ·rcases h3 o with h5 | h5
  ·exact .inl ((H.tags b o hb (by rw[h5];exact ht)).trans h5)
  ·exact .inr (by omega)
 ·have hj:j<c.size:=by have:=(z0q.1 hr).1;omega
  have hne:¬ch (E.O b j):=by
   rcases h3 j with h5 | h5
   ·rw[h5];exact ht
   ·omega
  rw[e3 j hne]at hv;obtain⟨a1,a2,a0,a3⟩:=h4 j r v hr hv;exact⟨a1,a2,a0,a3.mono H M3 (λ_=>hs j) λs o hm=>by rw[hm]at a0;simp[w9]at a0⟩
def RO.mono{ch:Tag->Prop}(H:Pr ch E h E' h')(M3:AZ E.S h E'.S h')(hi:i<E.n)(ht:¬ch (.obj i))(hs:∀j,¬ch (.sp 2 i j)){ob:H7}(R:RO E h i ob):RO E' h' i ob:=by
 obtain⟨ho,xg,B7Z⟩:=H.V8 i hi ((H.Rx i hi).2.2 ht);cases ob with
 |box cs=>simp only[RO]at R ⊢;rw[ho];exact R.mono H M3 ht hs
 |arr sz ds=>
   simp only[RO]at R ⊢;intro hne;obtain⟨c,T,h1,h2,hz,h3,h4⟩:=R hne;rw[ho,xg];have hb:E.obj i<h.size:=(z6q.1 h1).1;have:=H.blk _ hb;unfold Y4 at this;rw[h1]at this;obtain⟨c',e1,e2,e3⟩:=this;refine⟨c',T,e1,by omega,hz,λo h5 h6=>?_,λj d hd=>?_⟩
   ·have:=h3 o h5 h6;exact(H.tags _ o hb (by rw[this];exact ht)).trans this
   ·obtain⟨vs,v1,v2,v3⟩:=h4 j d hd;refine⟨vs,v1,λx u hu=>?_,v3.mono M3⟩;have hx:x<sz:=by have:=(z0q.1 hu).1;omega
    have hj:j<ds.length:=(z0q.1 hd).1;have P8:j * sz+x<ds.length * sz:=by
     calc j * sz+x<j * sz+sz:=by omega
      _=(j+1) * sz:=by rw[zpq]
      _<=ds.length * sz:=zcq _ hj
    rw[e3 _ (by show ¬ch _;rw[h3 _ (by omega) (by omega)];exact ht)];exact v2 x u hu
 |opn sz pre ds=>
   simp only[RO]at R ⊢;obtain⟨c,T,f,h1,h2,WI,hz,h3,h4,h5⟩:=R;rw[ho,xg,B7Z];have hb:E.obj i<h.size:=(z6q.1 h1).1;have:=H.blk _ hb;unfold Y4 at this;rw[h1]at this;obtain⟨c',e1,e2,e3⟩:=this;refine⟨c',T,f,e1,h2,by omega,hz,λo h6 h7=>?_,λj d hd=>(h4 j d hd).mono M3,λj d hd=>?_⟩
   ·have:=h3 o h6 h7;exact⟨(H.tags _ o hb (by rw[this.1];exact ht)).trans this.1,this.2⟩
   ·obtain⟨vs,v1,v2,v3⟩:=h5 j d hd;refine⟨vs,v1,λx u hu=>?_,v3.mono M3⟩;have hx:x<sz:=by have:=(z0q.1 hu).1;omega
    have hj:j<ds.length:=(z0q.1 hd).1;have P8:(pre.length+j) * sz+x<(pre.length+ds.length) * sz:=by
     calc (pre.length+j) * sz+x<(pre.length+j) * sz+sz:=by omega
      _=(pre.length+j+1) * sz:=by rw[zpq]
      _<=(pre.length+ds.length) * sz:=zcq _ (by omega)
    have hge:pre.length * sz<=(pre.length+j) * sz:=zcq _ (by omega);rw[e3 _ (by show ¬ch _;rw[(h3 _ (by omega) (by omega)).1];exact ht)];exact v2 x u hu
 |BF n sz ds=>
   simp only[RO]at R ⊢;obtain⟨hv,hn,hz,R⟩:=R;rw[ho,xg,B7Z];refine⟨((H.Rx i hi).2.2 ht).trans hv,hn,hz,?_⟩;rcases R with R | ⟨c,T,f,h1,h2,WI,h3,h5⟩
   ·exact .inl R
   right;have hb:E.obj i<h.size:=(z6q.1 h1).1;have:=H.blk _ hb;unfold Y4 at this;rw[h1]at this;obtain⟨c',e1,e2,e3⟩:=this;refine⟨c',T,f,e1,h2,by omega,λo h6 h7=>?_,λj d hd=>?_⟩
   ·have:=h3 o h6 h7;exact⟨(H.tags _ o hb (by rw[this.1];exact ht)).trans this.1,this.2⟩
   ·obtain⟨vs,v1,v2,v3⟩:=h5 j d hd;refine⟨vs,v1,λx u hu=>?_,v3.mono M3⟩;have hx:x<sz:=by have:=(z0q.1 hu).1;omega
    have hj:j<ds.length:=(z0q.1 hd).1;have P8:j * sz+x<ds.length * sz:=by
     calc j * sz+x<j * sz+sz:=by omega
      _=(j+1) * sz:=by rw[zpq]
      _<=ds.length * sz:=zcq _ (by omega)
    rw[e3 _ (by show ¬ch _;rw[(h3 _ (by omega) (by omega)).1];exact ht)];exact v2 x u hu
 |map ks es=>simp only[RO]at R ⊢;obtain⟨ens,clk,h1,h2,h3,h4⟩:=R;rw[ho];have hb:E.obj i<h.size:=(z6q.1 h1).1;have hk:=H.blk _ hb;unfold Y4 at hk;rw[h1]at hk;refine⟨ens,clk,hk (by show ¬ch _;rw[h2 0];exact ht),λo=>(H.tags _ o hb (by rw[h2 o];exact ht)).trans (h2 o),⟨h3.1,λj e n he hn=>?_⟩,h4⟩;obtain⟨a1,a2,a3⟩:=h3.2 j e n he hn;exact⟨a1,a2.mono M3,a3.mono M3⟩
end Go.Su

/-
 THE DATA MACHINE, part 5: operands; registers written; how one operation of the model is met.
-/
namespace Go.Su
set_option linter.defProp false
def Q4(t:Tag):Prop:=t ≠ .other/\t ≠ .U0
variable {E:Env}{h:Heap}{d:DV}{m:H6}{v:Value}
def O0.tag{tg tg':Tag}(hm:m ≠ .own)(R:O0 E h tg d m v):O0 E h tg' d m v:=by cases m<;>simp only[O0]at R ⊢<;>first | exact R | exact absurd rfl hm
def O0.bF{tg tg':Tag}(R:O0 E h tg d m v):O0 E h tg' d (bF m) v:=by cases m<;>simp only[O0,Su.bF]at R ⊢<;>first | exact R | exact R.1
def RR.Bb{k a:Nat}(R:O0 E h (.sp k a 0) d m v):RR E h k a d m v:=by cases m<;>first | exact R | (simp only[O0]at R)
def RR.A36{k a:Nat}(h1:∀ms,m ≠ .DJ ms)(h2:∀ms,m ≠ .FW ms)(R:RR E h k a d m v):O0 E h (.sp k a 0) d m v:=by cases m<;>first | exact R | exact absurd rfl (h1 _) | exact absurd rfl (h2 _)
def RR.dm{k a k' a':Nat}(R:RR E h k a d m v):RR E h k' a' d (dm m) v:=by
 cases m
 case FW ms=>simp only[RR,Su.dm]at R ⊢;obtain⟨ds,vs,h1,h2,h3,h4,h5⟩:=R;refine⟨ds,vs,h1,h2,by simpa using h3,by simpa using h4,λi m' d' u e1 e2 e3=>?_⟩;simp only[zbq,zaq]at e1;obtain⟨m0,e1,rfl⟩:=e1;obtain⟨a1,a2,a0,a4⟩:=h5 i m0 d' u e1 e2 e3;exact⟨a1,a2,by cases m0<;>simp_all[w9,Su.bF],a4.bF⟩
 case DJ ms=>simp only[RR,Su.dm]at R ⊢;obtain⟨ds,vs,h1,h2,h3,h4,h5⟩:=R;refine⟨ds,vs,h1,h2,by simpa using h3,by simpa using h4,λi m' d' u e1 e2 e3=>?_⟩;simp only[zbq,zaq]at e1;obtain⟨m0,e1,rfl⟩:=e1;obtain⟨a0,a4⟩:=h5 i m0 d' u e1 e2 e3;exact⟨by cases m0<;>simp_all[w9,Su.bF],a4.bF⟩
 all_goals exact RR.Bb (O0.bF (RR.A36 (by simp) (by simp) R))
def RR.data{k a:Nat}(hm:M6 m=true)(R:RR E h k a d m v):RV E.S h d v:=by
 cases m<;>simp only[M6]at hm<;>try contradiction
 ·exact R
 ·exact R.1
 ·exact R.1
 ·obtain⟨rfl,rfl⟩:=(R:_/\_);simp only[RV]
 ·rename_i ms;simp only[RR]at R;obtain⟨ds,vs,rfl,rfl,h3,h4,h5⟩:=R;simp only[RV];refine⟨vs,rfl,Gr.2 ⟨by simp[h3,h4],λi d v hd hv=>?_⟩⟩;have hi:i<ms.length:=by have:=(z0q.1 hd).1;omega
  have hmi:ms[i]?=some ms[i]:=z2q hi;obtain⟨a1,a2,a0,a4⟩:=h5 i _ d v hmi hd (by simpa using hv);refine⟨a1,Qq a1 a2 ?_⟩;have:=zCq.1 hm ms[i] (List.getElem_mem hi);cases hx:ms[i]<;>simp only[hx]at this a4<;>first | contradiction | exact a4 | exact a4.1 | (obtain⟨rfl,rfl⟩:=(a4:_/\_);simp only[RV])
def RR.val{k a:Nat}(R:RV E.S h d v):RR E h k a d .val v:=R
variable {P:Program}{t:TypeId}
def A8q{r:DV×H6}(H:cst P t v=some r)(k a:Nat):RR E h k a r.1 r.2 v:=by
 unfold cst at H;split at H<;>simp only[D9,reduceCtorEq]at H<;>subst H<;>simp only[RR,O0,RV,and_self]
 refine⟨?_,⟨_,_,rfl⟩,_,_,rfl⟩;simp only[RC];exact⟨none,0,0,rfl,rfl,z8q _,λ_=>rfl,by simp,λx hx=>by simp at hx⟩
def B03{r:DV×H6}(H:cst P t v=some r)(ms:List H6):r.2 ≠ .FW ms:=by unfold cst at H;split at H<;>simp only[D9,reduceCtorEq]at H<;>subst H<;>simp
def bB{r:DV×H6}(H:cst P t v=some r):r.2 ≠ .own/\(∀ms,r.2 ≠ .DJ ms):=by unfold cst at H;split at H<;>simp only[D9,reduceCtorEq]at H<;>subst H<;>simp
def vZ:Operand->Nat
 |.tmp t=>t
 |_=>0
variable {st:St}{t:Nat}
def pE(ht:st.tm.length<=t)(hm:st.mt.length=st.tm.length):st.get t=(.undef,.val):=by simp[St.get,z1q,znq ht,znq (hm ▸ ht)]
variable {t:TypeId}{a:Act}{x:Operand}
def M9.src(R:M9 E st a h){r:DV×H6}(H:src P t st x=some r):
 RR E h 0 (vZ x) r.1 r.2 (a.eval x):=by
 cases x with
 |tmp i=>
   simp only[Su.src,D9]at H;subst H;simp only[vZ,Act.eval]
   by_cases hi:i<a.tmps.size
   ·have:a.tmps[i]?=some a.tmps[i]:=zsq hi;simpa[Array.getD_eq_getD_getElem?,this]using R.AA i _ this
   ·have hi':st.tm.length<=i:=by rw[<- R.size];exact Nat.le_of_not_lt hi
    rw[pE hi' R.Ba];simp only[RR,O0,RV]
 |const v=>exact A8q H _ _
 |func f=>simp only[Su.src,D9]at H;subst H;simp only[RR,O0,Act.eval];exact⟨rfl,by simp⟩
 |global g=>simp[Su.src]at H
def M9.B7e{r:DV×H6}(H:Su.src P t st x=some r)(hx:∀i,x ≠ .tmp i)(k b:Nat):RR E h k b r.1 r.2 (a.eval x):=by
 cases x with
 |tmp i=>exact absurd rfl (hx i)
 |const v=>exact A8q H _ _
 |func f=>simp only[Su.src,D9]at H;subst H;simp only[RR,O0,Act.eval];exact⟨rfl,by simp⟩
 |global g=>simp[Su.src]at H
variable (st:St)(dst:Option Nat)(d:DV)(m:H6)
def YL:(st.put dst d m).tm.length=st.tm.length:=by cases dst<;>simp[St.put]
def B4x:(st.put dst d m).mt.length=st.mt.length:=by cases dst<;>simp[St.put]
@[simp] theorem ve:(st.put dst d m).bx=st.bx:=by cases dst<;>rfl
@[simp] theorem mU:(st.put dst d m).sg=st.sg:=by cases dst<;>rfl
variable {st:St}{d:DV}{m:H6}
def Rc{t:Nat}(ht:t<st.tm.length)(hm:st.mt.length=st.tm.length):(st.put (some t) d m).get t=(d,m):=by simp[St.put,St.get,z1q,z4q ht,z4q (hm ▸ ht)]
def ed{t u:Nat}(h:t≠u):(st.put (some t) d m).get u=st.get u:=by simp[St.put,St.get,z1q,z5q h]
variable (a:Act)
def U3(dst:Option Nat)(v:Value):(a.put dst v).tmps.size=a.tmps.size:=by cases dst<;>simp[Act.put]
theorem Yl(dst:Option Nat)(v:Value):(a.put dst v).defers=a.defers:=by cases dst<;>rfl
variable {a:Act}
def M9.put(R:M9 E st a h){dst:Option Nat}(hv:∀t,dst=some t->RR E h 0 t d m v):M9 E (st.put dst d m) (a.put dst v) h:=by
 refine⟨by rw[U3,YL];exact R.size,by rw[B4x,YL];exact R.Ba,by rw[ve,YL];exact R.Dm,by rw[mU];exact R.n,λu w hu=>?_,λs cs hs=>R.Ad s cs (by rwa [ve]at hs),λi ob hi=>R.V8 i ob (by rwa [mU]at hi),R.fresh⟩
 cases dst with
 |none=>exact R.AA u w hu
 |some t=>
   by_cases htu:t=u
   ·subst htu;have ht:t<a.tmps.size:=by have:=(z6q.1 hu).1;simpa[Act.put]using this
    rw[Rc (by rw[<- R.size];exact ht) R.Ba];simp only[Act.put,zmq ht,D9]at hu;subst hu;exact hv t rfl
   ·rw[ed htu];simp only[Act.put,ztq htu]at hu;exact R.AA u w hu
def Gp(P:Program)(o:Oper)(a:Act)(w:World)(K:Act->World->Prop):Prop :=(∃v w',(execOp a.eval o).run P w=.ok (.value v) w'/\K (a.put o.dst v) w')\/(∃w',(execOp a.eval o).run P w=.ok .skip w'/\K (a.put o.dst undef) w') \/∃f args,(execOp a.eval o).run P w=.ok (.enter f args) w/\Calls P f args w λe w'=>∃v,e=.returned v/\K (a.put o.dst v) w'
variable {o:Oper}
def Gp.mono{w:World}{K K':Act->World->Prop}(H:Gp P o a w K)(h:∀a' w',a'.defers=a.defers->K a' w'->K' a' w'):Gp P o a w K':=by
 have hd:∀v,(a.put o.dst v).defers=a.defers:=λv=>Yl a o.dst v;rcases H with⟨v,w',h1,h2⟩ | ⟨w',h1,h2⟩ | ⟨f,args,h1,h2⟩
 ·exact .inl ⟨v,w',h1,h _ _ (hd v) h2⟩
 ·exact .inr (.inl ⟨w',h1,h _ _ (hd _) h2⟩)
 ·exact .inr (.inr ⟨f,args,h1,h2.mono λe w' ⟨v,he,hk⟩=>⟨v,he,h _ _ (hd v) hk⟩⟩)
def BM{w w':World}{K:Act->World->Prop}(h:(execOp a.eval o).run P w=.ok (.value v) w')(hk:K (a.put o.dst v) w'):Gp P o a w K:=.inl ⟨v,w',h,hk⟩
def Ou{w w':World}{K:Act->World->Prop}(h:(execOp a.eval o).run P w=.ok .skip w')(hk:K (a.put o.dst undef) w'):Gp P o a w K:=.inr (.inl ⟨w',h,hk⟩)
def Bf{x:Sem Value}{w w':World}(h:x.run P w=.ok v w'):
 (do pure (Next.value (<- x)):Sem Next).run P w=.ok (.value v) w':=by
 simp[h]
def C3f{x:Sem Unit}{w w':World}(h:x.run P w=.ok () w'):
 (do x;pure Next.skip:Sem Next).run P w=.ok .skip w':=by
 simp[h]
variable {β : Type}
def D8{α : Type}{x:Option α}{f : α->Option β}{b : β}(h:ob x f=some b):∃a,x=some a/\f a=some b:=by
 cases x with
 |none=>simp[ob]at h
 |some a=>exact⟨a,rfl,h⟩
def I9{t:Bool}{x:Option β}{b : β}(h:og t x=some b):t=true/\x=some b:=by
 cases t with
 |false=>simp[og]at h
 |true=>exact⟨rfl,h⟩
def yA{t e:Option β}{b : β}(h:F3 d t e=some b):(d=.bool true/\t=some b)\/(d=.bool false/\e=some b):=by
 unfold F3 at h;split at h
 ·exact .inl ⟨rfl,h⟩
 ·exact .inr ⟨rfl,h⟩
 ·simp at h
def O7{c:Prop}[Decidable c]{x:Option β}{b : β}(h:(if c then x else none)=some b):c/\x=some b:=by
 split at h
 ·exact⟨‹_›,h⟩
 ·simp at h
def KV{z:Nat×Bool}(H:tz P t=some z):∃i d,P.info? t=some i/\P.underlying t=some d/\z=(i.size,B4a d)/\(z.2=false->z.1=1):=by unfold tz at H;obtain⟨i,hi,H⟩:=D8 H;obtain⟨d,hd,H⟩:=D8 H;obtain⟨hc,H⟩:=O7 H;simp only[D9]at H;subst H;refine⟨i,d,hi,hd,rfl,λh=>?_⟩;simp only at h;simpa[h]using hc
theorem C2y{z:Nat×Bool}(H:tz P t=some z)(w:World):(isAgg t).run P w=.ok z.2 w:=by obtain⟨i,d,hi,hd,rfl,-⟩:=KV H;unfold isAgg;simp only[Sem.run_bind,run_underlying hd,Result.andThen_ok];cases d<;>rfl
def Rw{z:Nat×Bool}(H:tz P t=some z)(w:World):(sizeOf t).run P w=.ok z.1 w:=by obtain⟨i,d,hi,hd,rfl,-⟩:=KV H;simp[sizeOf,typeInfo,hi]
end Go.Su

/-
 THE DATA MACHINE, part 6: operations that make a value and leave memory as it is.
-/
namespace Go.Su
set_option linter.defProp false
theorem C3w(m:H6):bF (bF m)=bF m:=by cases m<;>rfl
def C7b(m:H6):dm (dm m)=dm m:=by
 cases m<;>simp only[dm]
 all_goals simp[C3w]
variable {E:Env}{h:Heap}{d:DV}{m:H6}{v:Value}
def RR.B3v{k a k' a':Nat}(R:RR E h k a d (Su.dm m) v):RR E h k' a' d (Su.dm m) v:=by
 have:=R.dm (k':=k') (a':=a')
 rwa [C7b]at this
def Env.re(E:Env)(f:Tag->Tag):Env:={ E with O:=λb o=>f (E.O b o) }
def Pr.re{f:Tag->Tag}{ch:Tag->Prop}(hf:∀T,¬ch T->f T=T):Pr ch E h (E.re f) h :=⟨z8q _,λ_ _=>Y4.refl _ _,λ_ _ _ hn=>hf _ hn,z8q _,λ_ _ _=>⟨rfl,rfl,rfl⟩,λ_ _=>rfl,Ee rfl⟩
def NA{f:Tag->Tag}(hf:f .U0=.U0):AZ E.S h (E.re f).S h :=⟨λb o hs=>by simp only[Env.S,Env.re]at hs ⊢;rw[hs,hf],λ_ _ _ _ hv=>hv⟩
def O0.re{f:Tag->Tag}{tg tg':Tag}(hs:f .U0=.U0)(ht:f tg=tg')(R:O0 E h tg d m v):
 O0 (E.re f) h tg' d m v:=by
 cases m<;>simp only[O0]at R ⊢
 case val=>exact R.mono (NA hs)
 case full=>exact⟨R.1.mono (NA hs),R.2⟩
 case own=>obtain⟨r1,sz,ds,r2,r3⟩:=R;refine⟨r1.mono (NA hs),sz,ds,r2,λx len cap hv P8=>?_⟩;obtain⟨c,T,g,e1,e2,e3⟩:=r3 x len cap hv P8;refine⟨c,T,g,e1,e2,λo ho ho'=>?_⟩;obtain⟨e4,e5⟩:=e3 o ho ho';exact⟨by simp only[Env.re];rw[e4,ht],e5⟩
 case Re ag sz o=>obtain⟨b,o0,r1,r2,r3⟩:=R;exact⟨b,o0,r1,r2.mono (NA hs),r3⟩
 all_goals exact R
def RR.re{f:Tag->Tag}{k a k' a':Nat}(hs:f .U0=.U0)(ho:f .other=.other)(ht:∀b,f (.sp k a b)=.sp k' a' b)(R:RR E h k a d m v):
 RR (E.re f) h k' a' d m v:=by
 cases m
 case DJ ms=>simp only[RR]at R ⊢;obtain⟨ds,vs,h1,h2,h3,h4,h5⟩:=R;exact⟨ds,vs,h1,h2,h3,h4,λi m' d' u e1 e2 e3=>let⟨a0,a4⟩:=h5 i m' d' u e1 e2 e3;⟨a0,a4.re hs (ht _)⟩⟩
 case FW ms=>simp only[RR]at R ⊢;obtain⟨ds,vs,h1,h2,h3,h4,h5⟩:=R;exact⟨ds,vs,h1,h2,h3,h4,λi m' d' u e1 e2 e3=>let⟨a1,a2,a0,a4⟩:=h5 i m' d' u e1 e2 e3;⟨a1,a2,a0,a4.re hs (ht _)⟩⟩
 all_goals exact RR.Bb ((RR.A36 (by simp) (by simp) R).re hs (ht 0))
variable {x:Operand}
def M9.release{st:St}{a:Act}(R:M9 E st a h){f:Tag->Tag}(hf:∀T,(∀s b,x=.tmp s->T ≠ .sp 0 s b)->f T=T):M9 (E.re f) (st.release x) a h:=by
 have Ia:f .U0=.U0:=hf _ (by simp);have RN:f .other=.other:=hf _ (by simp);have P:Pr (λT=>∃s b,x=.tmp s/\T=.sp 0 s b) E h (E.re f) h:=Pr.re λT hT=>hf T λs b hx hb=>hT ⟨s,b,hx,hb⟩;have M3:AZ E.S h (E.re f).S h:=NA Ia;have lm:(st.release x).mt.length=st.mt.length:=by cases x<;>simp[St.release]
 have lt:(st.release x).tm=st.tm:=by cases x<;>simp[St.release]
 have lb:(st.release x).bx=st.bx:=by cases x<;>simp[St.release]
 have lg:(st.release x).sg=st.sg:=by cases x<;>simp[St.release]
 refine⟨by rw[lt];exact R.size,by rw[lm,lt];exact R.Ba,by rw[lb,lt];exact R.Dm,by rw[lg];exact R.n,λu v hu=>?_,λs cs hs=>?_,λi ob hi=>?_,λb o hb=>?_⟩
 ·have h0:=R.AA u v hu;by_cases hx:x=.tmp u
  ·subst hx;have hg:(st.release (.tmp u)).get u=((st.get u).1,dm (st.get u).2):=by
    have MI:u<st.tm.length:=by rw[<- R.size];exact(z6q.1 hu).1
    simp[St.release,St.get,z1q,z4q (R.Ba ▸ MI)]
   rw[hg];have h1:RR E h 9 0 (st.get u).1 (dm (st.get u).2) v:=h0.dm;have h2:RR (E.re f) h 9 0 (st.get u).1 (dm (st.get u).2) v:=h1.re Ia RN λb=>hf _ (by simp);exact h2.B3v
  ·have hg:(st.release x).get u=st.get u:=by
    cases x with
    |tmp s=>have:s≠u:=λe=>hx (by rw[e]);simp[St.release,St.get,z1q,z5q this]
    |_=>rfl
   rw[hg];exact h0.re Ia RN λb=>hf _ λs b' hs he=>by simp only[Tag.sp.injEq]at he;exact hx (by rw[hs,he.2.1])
 ·exact(R.Ad s cs (by rwa [lb]at hs)).mono P M3 (by simp) (by simp)
 ·exact(R.V8 i ob (by rwa [lg]at hi)).mono P M3 (by rw[<- R.n];rw[lg]at hi;exact(z0q.1 hi).1) (by simp) (by simp)
 ·simp only[Env.re];rw[R.fresh b o hb,RN]
def pW(x:Operand)(k t:Nat)(T:Tag):Tag :=
 match x,T with
 |.tmp s',.sp 0 s b=>if s'=s then .sp k t b else .sp 0 s b
 |_,T=>T
theorem RX{k t:Nat}{T:Tag}(h:∀s b,x=.tmp s->T ≠ .sp 0 s b):pW x k t T=T:=by
 unfold pW;split
 ·split
  ·rename_i hx;subst hx;exact absurd rfl (h _ _ rfl)
  ·rfl
 ·rfl
section
variable {X:Type}{C:AB}{R:U1}{o:Oper}{st:St}{k:St->Option X}{x:X}{E:Env}{a:Act}{w:World}{K:Act->World->Prop}{Q:Exit->Act->World->Prop}
def Then(E:Env)(w:World)(k:St->Option X)(x:X)(K:Act->World->Prop):Prop :=∀E' st' a' w',k st'=some x->M9 E' st' a' w'.heap->Pr Q4 E w.heap E' w'.heap->(_:W9 w w':=by exact⟨rfl,rfl,rfl⟩)->K a' w'
def X4(hr:(execOp a.eval o).run C.P w=.ok (.value v) w)(hk:k (st.put o.dst d m)=some x)(Rl:M9 E st a w.heap)(hv:∀t,o.dst=some t->RR E w.heap 0 t d m v)(T:Then E w k x K):Gp C.P o a w K :=BM hr (T E _ _ w hk (Rl.put hv) (Pr.refl _ _ _))
variable {t:TypeId}{y:Operand}
def C2n{P:Program}{r:DV×H6}(hr:(execOp a.eval o).run C.P w=.ok (.value (a.eval y)) w)(hs:src P t st y=some r)(hk:k ((st.release y).put o.dst r.1 r.2)=some x)(Rl:M9 E st a w.heap)(T:Then E w k x K):Gp C.P o a w K:=by
 refine BM hr ?_;cases hd:o.dst with
 |none=>rw[hd]at hk;have P1:Pr Q4 E w.heap (E.re id) w.heap:=Pr.re λ_ _=>rfl;exact T (E.re id) _ _ w hk ((Rl.release (x:=y) (f:=id) λ_ _=>rfl).put (λt ht=>by simp at ht)) P1
 |some t0=>
   rw[hd]at hk;have P1:Pr Q4 E w.heap (E.re (pW y 0 t0)) w.heap:=Pr.re λT hT=>RX λs b _ he=>hT (by rw[he];simp[Q4]);refine T (E.re (pW y 0 t0)) _ _ w hk ((Rl.release λT hT=>RX hT).put λt ht=>?_) P1;simp only[D9]at ht;subst ht;by_cases hy:∃i,y=.tmp i
   ·obtain⟨i,rfl⟩:=hy;have:=Rl.src hs;refine this.re (RX (by simp)) (RX (by simp)) λb=>?_;simp[pW,vZ]
   ·have:=M9.B7e (E:=E) (a:=a) (h:=w.heap) hs (λi hi=>hy ⟨i,hi⟩) 9 0;have h2:RR (E.re (pW y 0 t0)) w.heap 9 0 r.1 r.2 (a.eval y):=this.re (RX (by simp)) (RX (by simp)) λb=>RX (by simp);have gB:dm r.2=r.2:=by
     cases y with
     |tmp i=>exact absurd ⟨i,rfl⟩ hy
     |const v=>obtain⟨h1,h3⟩:=bB hs;have h4:=B03 hs;cases hm:r.2<;>simp_all[dm]
     |func f=>simp only[src,D9]at hs;subst hs;rfl
     |global g=>simp[src]at hs
    rw[<- gB]at h2 ⊢;exact h2.B3v
def B4M{fl:I5}(hr:(execOp a.eval o).run C.P w=.ok (.value (a.eval y)) w)(H:(ob (src C.P t st y) λr=>if M4 fl.Q6 o.dst then k ((st.release y).put o.dst r.1 r.2)else k (st.put o.dst r.1 (dm r.2)))=some x)(Rl:M9 E st a w.heap)(T:Then E w k x K):Gp C.P o a w K:=by
 obtain⟨r,hs,H⟩:=D8 H;split at H
 ·exact C2n hr hs H Rl @T
 ·exact X4 hr H Rl (λt _=>(Rl.src hs).dm) @T
end
end Go.Su

/-
 THE DATA MACHINE, part 7: arithmetic, comparison, indexes, lengths, parts of strings and slices.
-/
namespace Go.Su
set_option linter.defProp false
variable {S:AL}{h:Heap}{v:Value}
def Cc{k:IntKind}{n:Int}:RV S h (.int k n) v↔v=.int k n:=by simp only[RV]
def Pe{b:Bool}:RV S h (.bool b) v↔v=.bool b:=by simp only[RV]
def ai{s:ByteArray}:RV S h (.str s) v↔v=.string s:=by simp only[RV]
variable {op:UnOp}{d:DV}
def C1g{y:DV}(h:R8 op y=some d):(∃b,op=.not/\y=.bool b/\d=.bool !b)\/(∃k n,op=.neg/\y=.int k n/\d=.int k (k.wrap (0-n))):=by
 unfold R8 at h;split at h<;>simp only[D9,reduceCtorEq]at h<;>subst h
 ·exact .inl ⟨_,rfl,rfl,rfl⟩
 ·exact .inr ⟨_,_,rfl,rfl,rfl⟩
def B7z{c y z:DV}(h:B2X c y z=some d):(c=.bool true/\d=y)\/(c=.bool false/\d=z):=by
 unfold B2X at h;split at h<;>simp only[D9,reduceCtorEq]at h<;>subst h
 ·exact .inl ⟨rfl,rfl⟩
 ·exact .inr ⟨rfl,rfl⟩
variable {kd:IntKind}
def B7x{y:DV}(h:XF kd y=some d):∃k n,y=.int k n/\d=.int kd (kd.wrap n):=by unfold XF at h;split at h<;>simp only[D9,reduceCtorEq]at h<;>subst h;exact⟨_,_,rfl,rfl⟩
def B05{i:Nat}{y:DV}(h:K5 i y=some d):∃cs,y=.I4 cs/\cs[i]?=some d:=by
 unfold K5 at h;split at h
 ·exact⟨_,rfl,h⟩
 ·simp at h
def B9s{sz:Nat}{y i:DV}(h:F7 sz y i=some d):∃ds kd n,y=.list sz ds/\i=.int kd n/\0<=n/\ds[n.toNat]?=some d:=by
 unfold F7 at h;split at h
 ·obtain⟨⟨Ak,h0⟩,hd⟩:=O7 h;subst Ak;exact⟨_,_,_,rfl,rfl,h0,hd⟩
 ·simp at h
def qY{off len n:Nat}{i:DV}(h:Cf off len i=some n):∃(kd:IntKind)(q:Int),i=.int kd q/\0<=q/\q<len/\n=off+q.toNat:=by
 unfold Cf at h;split at h
 ·obtain⟨⟨h0,P8⟩,hn⟩:=O7 h;simp only[D9]at hn;exact⟨_,_,rfl,h0,P8,hn.symm⟩
 ·simp at h
def A8i:∀x y:List UInt8,Op.bytesLess x y=JH x y
 |_,[]=>by simp[Op.bytesLess,JH]
 |[],_::_=>by simp[Op.bytesLess,JH]
 |a::x,b::y=>by simp[Op.bytesLess,JH,A8i x y]
section
variable {X:Type}{C:AB}{R:U1}{o:Oper}{st:St}{k:St->Option X}{x:X}{E:Env}{a:Act}{w:World}{K:Act->World->Prop}{Q:Exit->Act->World->Prop}
def Ar(hr:(execOp a.eval o).run C.P w=.ok (.value v) w)(hk:k (st.put o.dst d .val)=some x)(Rl:M9 E st a w.heap)(hv:RV E.S w.heap d v)(T:Then E w k x K):Gp C.P o a w K :=X4 hr hk Rl (λ_ _=>hv) @T
variable {P:Program}{t:TypeId}{y:Operand}
def C2d{op:BinOp}{x:Operand}{dx dy:DV}{vx vy:Value}(H:D7 op dx dy=some d)(hx:RV S h dx vx)(hy:RV S h dy vy)(w:World):
 ∃v,(do eqGuard op t x y vx vy;binOp op t vx vy:Sem Value).run P w=.ok v w/\RV S h d v:=by
 unfold D7 at H;split at H
 ·rw[Cc]at hx hy;subst hx hy;split at H
  ·rename_i hsh;unfold B9w at H;split at H
   ·cases H
   ·rename_i hb;cases op<;>simp only[Le,zrq]at hsh<;>simp only[D9]at H<;>subst H <;>
     (refine⟨_,?_,by simp only[RV];rfl⟩;simp[eqGuard_at_int,binOp,Op.shift,hb])
  obtain⟨hk,H1⟩:=O7 H;clear H;subst hk;by_cases hq:op=.quo\/op=.rem
  ·rcases hq with rfl | rfl<;>simp only[NS]at H1<;>split at H1<;>simp only[reduceCtorEq,D9]at H1<;>subst H1 <;>
    (rename_i hb;refine⟨_,?_,by simp only[RV];rfl⟩;simp[eqGuard_at_int,binOp,Op.intDiv,hb])
  simp only[not_or]at hq;cases op<;>(try exact absurd rfl hq.1)<;>(try exact absurd rfl hq.2)<;>simp only[NS,reduceCtorEq,D9]at H1<;>subst H1 <;>
   (refine⟨_,?_,by simp only[RV];rfl⟩;simp[eqGuard_at_int,binOp,Op.intArith,Op.intCmp,Op.intBits])
 ·rw[ai]at hx hy;subst hx hy;cases op<;>simp only[tN,reduceCtorEq,D9]at H
  case add=>
   obtain⟨hc,H1⟩:=O7 H;clear H;simp only[D9]at H1;subst H1;refine⟨_,?_,by simp only[RV];rfl⟩;rename_i sa sb;have:¬(((sa.size+sb.size:Nat):Int)>IntKind.i64.max):=by rw[IntKind.max_i64];have:=hc;unfold J9 at this;omega
   simp only[eqGuard_at_string,binOp,Op.stringOp,Sem.run_bind,Sem.run_pure,Result.andThen_ok];rw[C8 this];rfl
  all_goals
   subst H;refine⟨_,?_,by simp only[RV];rfl⟩;simp[eqGuard_at_string,binOp,Op.stringOp,A8i]
 ·simp at H
def C2l{c z:Operand}(I1:o.op=.pick c y z)(H:(ob (src C.P 0 st c) λrc=>ob (src C.P o.type st y) λra=>ob (src C.P o.type st z) λrb=>
   og (M6 rc.2&&M6 ra.2&&M6 rb.2) (ob (B2X rc.1 ra.1 rb.1) λd=>k (st.put o.dst d .val)))=some x)(Rl:M9 E st a w.heap)(T:Then E w k x K):Gp C.P o a w K:=by
 obtain⟨rc,h1,H⟩:=D8 H;obtain⟨ra,h2,H⟩:=D8 H;obtain⟨rb,h3,H⟩:=D8 H;obtain⟨hc,H⟩:=I9 H;obtain⟨d,hd,H⟩:=D8 H;simp only[z9q]at hc;have e1:=(Rl.src h1).data hc.1.1;have e2:=(Rl.src h2).data hc.1.2;have e3:=(Rl.src h3).data hc.2;rcases B7z hd with⟨hb,hd⟩ | ⟨hb,hd⟩
 ·rw[hb,Pe]at e1;subst hd;refine Ar (v:=a.eval y) ?_ H Rl e2 @T;simp[execOp,I1,e1,asBool]
 ·rw[hb,Pe]at e1;subst hd;refine Ar (v:=a.eval z) ?_ H Rl e3 @T;simp[execOp,I1,e1,asBool]
def C6H(I1:o.op=.unOp op t y)(H:(ob (src C.P t st y) λr=>og (M6 r.2) (ob (R8 op r.1) λd=>k (st.put o.dst d .val)))=some x)(Rl:M9 E st a w.heap)(T:Then E w k x K):Gp C.P o a w K:=by
 obtain⟨r,h1,H⟩:=D8 H;obtain⟨hc,H⟩:=I9 H;obtain⟨d,hd,H⟩:=D8 H;have e1:=(Rl.src h1).data hc;rcases C1g hd with⟨b,rfl,hb,rfl⟩ | ⟨kd,n,rfl,hb,rfl⟩
 ·rw[hb,Pe]at e1;refine Ar (v:=.bool _) ?_ H Rl (by rw[Pe]) @T;simp[execOp,I1,e1,Op.unary]
 ·rw[hb,Cc]at e1;refine Ar (v:=.int _ _) ?_ H Rl (by rw[Cc]) @T;simp[execOp,I1,e1,Op.unary,Op.intArith]
def C2i{u:TypeId}(I1:o.op=.convert t u y)(H:(ob (src C.P t st y) λr=>match C.P.underlying u with
   |some (.int kd)=>og (M6 r.2&&(C.P.underlying t).isSome) (ob (XF kd r.1) λd=>k (st.put o.dst d .val))
   |_=>none)=some x)(Rl:M9 E st a w.heap)(T:Then E w k x K):Gp C.P o a w K:=by
 obtain⟨r,h1,H⟩:=D8 H;split at H
 ·rename_i kd hu;obtain⟨hc,H⟩:=I9 H;obtain⟨d,hd,H⟩:=D8 H;simp only[z9q]at hc;have e1:=(Rl.src h1).data hc.1;obtain⟨dt,ht⟩:=Option.isSome_iff_exists.1 hc.2;obtain⟨_,_,hb,rfl⟩:=B7x hd;rw[hb,Cc]at e1;refine Ar (v:=.int _ _) ?_ H Rl (by rw[Cc]) @T;simp only[execOp,I1];refine Bf ?_;simp only[convert,e1,Sem.run_bind,run_underlying ht,run_underlying hu,Result.andThen_ok];cases dt<;>rfl
 ·simp at H
def C4r{i:Nat}{r:DV×H6}{m:H6}(I1:o.op=.extract y i)(h1:src C.P 0 st y=some r)(hm:r.2=.val)(hd:K5 i r.1=some d)(hmv:m=.val)(H:k (st.put o.dst d m)=some x)(Rl:M9 E st a w.heap)(T:Then E w k x K):Gp C.P o a w K:=by
 subst hmv;have e1:=(Rl.src h1).data (by rw[hm];rfl);obtain⟨cs,hb,hd⟩:=B05 hd;rw[hb]at e1;simp only[RV]at e1;obtain⟨vs,hv,hr⟩:=e1;obtain⟨l1,l2⟩:=Yj.1 hr;have hi:=(z0q.1 hd).1;have hvi:vs.toList[i]?=some (vs.toList[i]'(by omega)):=z2q (by omega);refine Ar (v:=vs.toList[i]'(by omega)) ?_ H Rl (l2 i d _ hd hvi) @T;simp only[execOp,I1];refine Bf ?_;have C8M:vs[i]?=some (vs.toList[i]'(by omega)):=by simp
 simp only[Instr.extract,hv,C8M,Sem.run_pure]
def B2m{f:Nat}(I1:o.op=.fieldAddr t y f)(H:UH C o t y f st k=some x)(Rl:M9 E st a w.heap)(T:Then E w k x K):Gp C.P o a w K:=by
 unfold UH at H;obtain⟨r,h1,H⟩:=D8 H;obtain⟨fd,h2,H⟩:=D8 H;obtain⟨z,h3,H⟩:=D8 H;have hz:z.1≠0:=by intro h;rw[D5 h]at H;simp at H
 rw[C8 hz]at H;have hu:∃fs,C.P.underlying t=some (.struct fs)/\fs[f]?=some fd:=by
  unfold B6I at h2;split at h2
  ·exact⟨_,‹_›,h2⟩
  ·simp at h2
 obtain⟨fs,hu,hf⟩:=hu;have run:∀b off,a.eval y=.pointer (some ⟨b,off,none⟩)->(execOp a.eval o).run C.P w=.ok (.value (.pointer (some ⟨b,off+fd.offset,none⟩))) w:=by intro b off he;simp only[execOp,I1];refine Bf ?_;simp only[Instr.fieldAt,Sem.run_bind,run_underlying hu,Result.andThen_ok,hf,he,Instr.sureAddr,Sem.run_pure,fieldPlace,Rw h3,hz,F9,Addr.add_lit]
 have e1:=Rl.src h1;revert e1 H;cases hm:r.2<;>intro H e1<;>simp only[reduceCtorEq]at H<;>simp only[RR,O0]at e1
 case loc s off=>exact X4 (run _ _ e1.2) H Rl (λ_ _=>⟨rfl,rfl⟩) @T
 case Re ag sz off=>obtain⟨b,o0,r1,r2,r3⟩:=e1;exact X4 (run _ _ r1) H Rl (λ_ _=>⟨b,o0,by rw[zlq],r2,r3⟩) @T
 case ptr i off=>exact X4 (run _ _ e1.2) H Rl (λ_ _=>⟨e1.1,rfl⟩) @T
 case fI i sz idx off=>exact X4 (run _ _ e1.2) H Rl (λ_ _=>⟨e1.1,by rw[zlq]⟩) @T
 case wJ i n sz idx off=>obtain⟨r1,r2,r3,b,p,r4,r5⟩:=e1;exact X4 (run _ _ r4) H Rl (λ_ _=>⟨r1,r2,r3,b,p,by rw[zlq],r5⟩) @T
def YN{e:TypeId}{z:Nat×Bool}(hu:P.underlying t=some (.slice e))(hz:tz P e=some z){b:Addr}{len cap:Nat}{i:Int}(h0:0<=i)(h1:i<len)(w:World):
 (Instr.indexAt t (.slice (some b) len cap) (.int kd i)).run P w=.ok (.pointer (some (b.add (i.toNat * z.1)))) w:=by
 simp[Instr.indexAt,run_underlying hu,asIntOf,Rw hz,h0,h1]
def A9x{e:TypeId}{m:Nat}{z:Nat×Bool}(hu:P.underlying t=some (.array m e))(hz:tz P e=some z){b off:Nat}{i:Int}(h0:0<=i)(h1:i<m)(w:World):
 (Instr.indexAt t (.pointer (some ⟨b,off,none⟩)) (.int kd i)).run P w=.ok (.pointer (some ⟨b,off+i.toNat * z.1,none⟩)) w:=by
 simp[Instr.indexAt,run_underlying hu,asIntOf,Rw hz,h0,h1,Instr.sureAddr,Addr.add_lit]
def B2n{fl:I5}{i:Operand}(I1:o.op=.indexAddr t y i)(H:IY C fl o t y i st k=some x)(Rl:M9 E st a w.heap)(T:Then E w k x K):Gp C.P o a w K:=by
 unfold IY at H;obtain⟨r,h1,H⟩:=D8 H;obtain⟨j,h2,H⟩:=D8 H;cases h3:Jl C.P t with
 |none=>
   rw[h3]at H;simp only[xM]at H;obtain⟨q,h4,H⟩:=D8 H;obtain⟨z,h5,H⟩:=D8 H;split at H
   ·rename_i s off hm;obtain⟨h6,H⟩:=I9 H;obtain⟨n,h7,H⟩:=D8 H;have hu:C.P.underlying t=some (.array q.1 q.2):=by
     unfold C5a at h4;split at h4
     ·simp only[D9]at h4;subst h4;assumption
     ·simp at h4
    have e1:=Rl.src h1;have f2:=(Rl.src h2).data h6;obtain⟨kd,i,hj,h0,P8,rfl⟩:=qY h7;rw[hj,Cc]at f2;rw[hm]at e1;simp only[RR,O0]at e1;refine X4 (v:=.pointer (some ⟨_,_,none⟩)) ?_ H Rl (λ_ _=>⟨rfl,rfl⟩) @T;simp only[execOp,I1];refine Bf ?_;rw[e1.2,f2,A9x hu h5 h0 P8,zyq]
   ·cases H
 |some e=>
 rw[h3]at H;simp only at H;obtain⟨z,h4,H⟩:=D8 H;have hu:C.P.underlying t=some (.slice e):=by
  unfold Jl at h3;split at h3
  ·simp only[D9]at h3;subst h3;assumption
  ·simp at h3
 have e1:=Rl.src h1;have e2:=Rl.src h2;have dat:M6 r.2=true->og (M6 r.2&&M6 j.2) (ob (F7 z.1 r.1 j.1) λd=>
  if z.2 then k (st.put o.dst d (.Re true z.1 0))else og (M7 d) (k (st.put o.dst d (.Re false z.1 0))))=some x->Gp C.P o a w K:=by
  intro eT H;obtain⟨hc,H⟩:=I9 H;obtain⟨d,hd,H⟩:=D8 H;simp only[z9q]at hc;have f1:=e1.data hc.1;have f2:=e2.data hc.2;obtain⟨ds,kd,n,hr,hj,h0,hd⟩:=B9s hd;rw[hr]at f1;rw[hj,Cc]at f2;simp only[RV,RC]at f1;obtain⟨b,len,cap,hv,Bl,A3y,Vj,hpos,hel⟩:=f1;simp only[List.cons.injEq,and_true]at hv;have hn:n.toNat<ds.length:=(z0q.1 hd).1;cases b with
  |none=>have:=Vj rfl;omega
  |some b=>
    obtain⟨hs,hE⟩:=hel b rfl;have hs:=hs (by omega);have hE:=FL.1 hE n.toNat d hd;have hb:b=⟨b.block,b.off,none⟩:=by cases b;simp only at hs;subst hs;rfl
    have Bh:(execOp a.eval o).run C.P w=.ok (.value (.pointer (some ⟨b.block,b.off+n.toNat * z.1+0,none⟩))) w:=by simp only[execOp,I1];refine Bf ?_;rw[hv,f2,YN hu h4 h0 (by omega)];rw[hb];simp only[Addr.add_lit,zjq]
    by_cases hz:z.2=true
    ·rw[D5 hz]at H;exact X4 Bh H Rl (λ_ _=>⟨b.block,b.off+n.toNat * z.1,rfl,hE,by simp⟩) @T
    ·rw[C8 hz]at H;obtain⟨hl,H⟩:=I9 H;exact X4 Bh H Rl (λ_ _=>⟨b.block,b.off+n.toNat * z.1,rfl,hE,λ_=>hl⟩) @T
 revert e1 H dat;cases hm:r.2<;>intro H e1 dat
 case arr i sz off len=>
  obtain⟨hc,H⟩:=I9 H;obtain⟨n,hn,H⟩:=D8 H;simp only[z9q,beq_iff_eq]at hc;have f2:=e2.data hc.2;obtain⟨kd,q,hj,h0,P8,rfl⟩:=qY hn;rw[hj,Cc]at f2;simp only[RR,O0]at e1;obtain⟨hi,b,cap,hv,hb⟩:=e1;have hb:=hb.1 (by omega);subst hb;refine X4 (v:=.pointer (some ⟨E.obj i,E.base i+(off+q.toNat) * sz+0,none⟩)) ?_ H Rl (λ_ _=>?_) @T
  ·simp only[execOp,I1]
   refine Bf ?_;rw[hv,f2,YN hu h4 h0 P8];simp only[Addr.add_lit,zjq,hc.1,zSq,zlq]
  ·split
   ·exact⟨hi,rfl⟩
   ·exact⟨hi,rfl⟩
 case BF i n sz len=>
  obtain⟨hc,H⟩:=I9 H;obtain⟨idx,hn,H⟩:=D8 H;simp only[z9q,beq_iff_eq]at hc;have f2:=e2.data hc.2;obtain⟨kd,q,hj,h0,P8,rfl⟩:=qY hn;rw[hj,Cc]at f2;simp only[RR,O0]at e1;obtain⟨r1,r2,r3,a',cap,r4,r5,r6,r7,r8⟩:=e1;cases a' with
  |none=>have:=r6 rfl;omega
  |some b=>
    have hs:=r7 (by omega) b rfl;have hb:b=⟨b.block,b.off,none⟩:=by cases b;simp only at hs;subst hs;rfl
    refine X4 (v:=.pointer (some ⟨b.block,b.off+q.toNat * sz+0,none⟩)) ?_ H Rl (λ_ _=>⟨r1,r2,r3,b.block,b.off+q.toNat * sz,by rw[zjq],λe=>?_⟩) @T
    ·simp only[execOp,I1]
     refine Bf ?_;rw[r4,f2,YN hu h4 h0 P8,hb];simp only[Addr.add_lit,zjq,hc.1]
    ·obtain⟨q1,-⟩:=r8 e (by omega);simp only[D9]at q1;rw[q1];exact⟨rfl,by rw[zyq]⟩
 all_goals exact dat (by have:=(I9 H).1;simp only[z9q]at this;exact this.1) H
end
end Go.Su

/-
 THE DATA MACHINE, part 8: comparison, lengths, bytes of texts, parts of slices, fields of values.
-/
namespace Go.Su
set_option linter.defProp false
variable {S:AL}{h:Heap}{sz:Nat}{ds:List DV}{v:Value}
def Pf(H:RV S h (.list sz ds) v):
 ∃a len cap,v=.slice a len cap/\len=ds.length/\len<=cap/\(a=none->cap=0)/\(ds≠[]->0<sz)/\∀x,a=some x->(0<cap->x.spot=none)/\Ez S h sz x.block x.off ds:=by
 simp only[RV,RC]at H;obtain⟨a,len,cap,h1,h2⟩:=H;simp only[List.cons.injEq,and_true]at h1;exact⟨a,len,cap,h1,h2⟩
variable {len:Nat}{cap:Nat}
def OP{a:Option Addr}(h1:len=ds.length)(h2:len<=cap)(h3:a=none->cap=0)(h4:ds≠[]->0<sz)(h5:∀x,a=some x->(0<cap->x.spot=none)/\Ez S h sz x.block x.off ds):RV S h (.list sz ds) (.slice a len cap):=by simp only[RV,RC];exact⟨a,len,cap,rfl,h1,h2,h3,h4,h5⟩
def B9t{y d:DV}(h:L6 y=some d):∃sz ds,y=.list sz ds/\d=.int .i64 ds.length:=by
 unfold L6 at h;split at h
 ·simp only[D9]at h;exact⟨_,_,rfl,h.symm⟩
 ·simp at h
def B7y{y d:DV}(h:ES y=some d):∃s,y=.str s/\d=.int .i64 s.size:=by
 unfold ES at h;split at h
 ·simp only[D9]at h;exact⟨_,rfl,h.symm⟩
 ·simp at h
def B3u{y i d:DV}(h:Af y i=some d):∃s kd n b,y=.str s/\i=.int kd n/\0<=n/\s.data[n.toNat]?=some b/\d=.int .u8 b.toNat:=by
 unfold Af at h;split at h
 ·obtain⟨h0,h⟩:=O7 h;simp only[zaq]at h;obtain⟨b,hb,rfl⟩:=h;exact⟨_,_,_,b,rfl,rfl,h0,hb,rfl⟩
 ·simp at h
def jc{n m:Nat}{x:Option DV}(h:bnd n x=some m):(x=none/\m=n)\/∃kd q,x=some (.int kd q)/\0<=q/\m=q.toNat:=by
 unfold bnd at h;split at h
 ·simp only[D9]at h;exact .inl ⟨rfl,h.symm⟩
 ·obtain⟨h0,h⟩:=O7 h;simp only[D9]at h;exact .inr ⟨_,_,rfl,h0,h.symm⟩
 ·simp at h
def A5x{y d:DV}{lo hi:Option DV}(h:Cz sz y lo hi=some d):∃ds hh ll,y=.list sz ds/\bnd ds.length hi=some hh/\bnd 0 lo=some ll/\ll<=hh/\hh<=ds.length/\d=.list sz ((ds.take hh).drop ll):=by
 unfold Cz at h;split at h
 ·obtain⟨hh,b1,h⟩:=D8 h;obtain⟨ll,b2,h⟩:=D8 h;obtain⟨⟨c1,c2,c3⟩,h⟩:=O7 h;simp only[D9]at h;subst c1;exact⟨_,hh,ll,rfl,b1,b2,c2,c3,h.symm⟩
 ·simp at h
def B3t{y d hi mx:DV}{lo:Option DV}(h:Yq sz y lo hi mx=some d):∃kd kd' q,hi=.int kd q/\mx=.int kd' q/\Cz sz y lo (some hi)=some d:=by
 unfold Yq at h;split at h
 ·obtain⟨hqm,h1⟩:=O7 h;subst hqm;exact⟨_,_,_,rfl,rfl,h1⟩
 ·simp at h
def B5t{b o l n:Nat}(H:Ez S h sz b o ds):Ez S h sz b (o+l * sz) ((ds.take n).drop l):=by
 rw[FL]at H ⊢;intro i d hd;rw[zdq]at hd;have RJ:ds[l+i]?=some d:=by
  rw[List.getElem?_take]at hd;split at hd
  ·exact hd
  ·simp at hd
 have:=H (l+i) d RJ
 rwa [zSq,<- zlq]at this
section
variable {X:Type}{C:AB}{R:U1}{o:Oper}{st:St}{k:St->Option X}{x:X}{E:Env}{a:Act}{w:World}{K:Act->World->Prop}{Q:Exit->Act->World->Prop}{P:Program}{hp:Heap}
def A4A{isS:Bool}{h l:Nat}{lo hi:Option DV}{vlo vhi:Option Value}(hh:bnd len hi=some h)(hl:bnd 0 lo=some l)(h1:l<=h)(h2:h<=len)(h3:len<=cap)(elo:∀d,lo=some d->∃v,vlo=some v/\RV S hp d v)(nlo:lo=none->vlo=none)(ehi:∀d,hi=some d->∃v,vhi=some v/\RV S hp d v)(nhi:hi=none->vhi=none)(w:World):
 (Instr.sliceBounds isS len cap vlo vhi none).run P w=.ok (l,h,cap) w:=by
 have A:∀(kd:IntKind)(q:Int)(y:Nat)(code:BoundsCode),0<=q->q.toNat<=y->(Instr.sliceBound (.int kd q) y code).run P w=.ok q.toNat w:=by intro kd q y code h0 h4;unfold Instr.sliceBound;simp only[asIntOf,pure_bind,Sem.run_ite];rw[D5 ⟨h0,by omega⟩];rfl
 unfold Instr.sliceBounds;rcases jc hh with⟨rfl,rfl⟩ | ⟨kd,q,rfl,h0,rfl⟩
 ·rw[nhi rfl];rcases jc hl with⟨rfl,rfl⟩ | ⟨kd',q',rfl,bM,rfl⟩
  ·rw[nlo rfl];simp
  ·obtain⟨v,rfl,hv⟩:=elo _ rfl;rw[Cc]at hv;subst hv;simp only[Sem.run_bind,Sem.run_pure,Result.andThen_ok,A _ _ _ _ bM h1]
 ·obtain⟨v,rfl,hv⟩:=ehi _ rfl;rw[Cc]at hv;subst hv;rcases jc hl with⟨rfl,rfl⟩ | ⟨kd',q',rfl,bM,rfl⟩
  ·rw[nlo rfl];simp only[Sem.run_bind,Sem.run_pure,Result.andThen_ok,A _ _ _ _ h0 (by omega:q.toNat<=cap)]
  ·obtain⟨v,rfl,hv⟩:=elo _ rfl;rw[Cc]at hv;subst hv;simp only[Sem.run_bind,Sem.run_pure,Result.andThen_ok,A _ _ _ _ h0 (by omega:q.toNat<=cap),A _ _ _ _ bM h1]
def B0j{y:Option Operand}{l:Option DV}(h:bW P st y=some l)(Rl:M9 E st a w.heap):
 (∀d,l=some d->∃v,y.map a.eval=some v/\RV E.S w.heap d v)/\(l=none->y.map a.eval=none):=by
 unfold bW at h;split at h
 ·simp only[D9]at h;subst h;simp
 ·obtain⟨r,h1,h⟩:=D8 h;obtain⟨h2,h⟩:=I9 h;simp only[D9]at h;subst h;refine⟨λd hd=>?_,by simp⟩;simp only[D9]at hd;subst hd;exact⟨_,rfl,(Rl.src h1).data h2⟩
variable {t:TypeId}{b:Option Addr}
def yP{e:TypeId}{z:Nat×Bool}(hu:P.underlying t=some (.slice e))(hz:tz P e=some z){l h m:Nat}{vlo vhi vmx:Option Value}(hb:(Instr.sliceBounds true len cap vlo vhi vmx).run P w=.ok (l,h,m) w):
 (Instr.sliceAt t (.slice b len cap) vlo vhi vmx).run P w=.ok (.slice (if m=l then b else b.map (·.add (l * z.1))) (h-l) (m-l)) w:=by
 unfold Instr.sliceAt;simp only[Sem.run_bind,run_underlying hu,Result.andThen_ok];unfold Instr.slice;simp only[Sem.run_bind,run_underlying hu,Result.andThen_ok,hb,Rw hz,Sem.run_pure]
def B4P{l h m:Nat}(H:RV S hp (.list sz ds) (.slice b len cap))(h1:l<=h)(h2:h<=ds.length)(h3:h<=m)(h4:m<=cap):
 RV S hp (.list sz ((ds.take h).drop l)) (.slice (if m=l then b else b.map (·.add (l * sz))) (h-l) (m-l)):=by
 obtain⟨b',len',cap',hv,e1,e2,e3,e4,e5⟩:=Pf H;simp only[Value.slice.injEq]at hv;obtain⟨rfl,rfl,rfl⟩:=hv;refine OP ?_ (by omega) ?_ ?_ ?_
 ·simp only[ziq,zgq];omega
 ·intro hn;split at hn
  ·omega
  ·cases b with
   |none=>have:=e3 rfl;omega
   |some y=>simp at hn
 ·intro hne;exact e4 λhd=>hne (by simp[hd])
 ·intro y hy;split at hy
  ·rename_i hml;have hlh:h=l:=by omega
   obtain⟨s1,s2⟩:=e5 y hy;refine⟨λh0=>absurd h0 (by omega),?_⟩;have:(ds.take h).drop l=[]:=by apply List.drop_eq_nil_of_le;simp only[zgq];omega
   rw[this];simp only[Ez]
  ·cases b with
   |none=>simp at hy
   |some z=>
     simp only[zqq,D9]at hy;subst hy;obtain⟨s1,s2⟩:=e5 z rfl;have s1:=s1 (by omega);have hz:z=⟨z.block,z.off,none⟩:=by cases z;simp only at s1;subst s1;rfl
     rw[hz];simp only[Addr.add_lit];exact⟨λ_=>trivial,B5t s2⟩
def A8f{m:H6}{q:Nat×Nat×Nat×Nat}(h:B2V m=some q):m=.arr q.1 q.2.1 q.2.2.1 q.2.2.2:=by
 unfold B2V at h;split at h
 ·simp only[D9]at h;subst h;rfl
 ·cases h
def xC{e:TypeId}(h:Jl P t=some e):P.underlying t=some (.slice e):=by
 unfold Jl at h;split at h
 ·simp only[D9]at h;subst h;assumption
 ·cases h
def C03{E:Env}{tg:Tag}{i off l hh:Nat}(e1:O0 E h tg .undef (.arr i sz off len) (.slice b len cap))(c2:l<=hh)(c3:hh<=len):
 O0 E h tg .undef (.arr i sz (off+l) (hh-l)) (.slice (if cap=l then b else b.map (·.add (l * sz))) (hh-l) (cap-l)):=by
 obtain⟨f0,b',cap',hv,f1,f2,f3,f4,f5⟩:=e1;simp only[Value.slice.injEq,true_and]at hv;obtain⟨rfl,rfl⟩:=hv;refine⟨f0,_,_,rfl,λhp=>?_,by omega,λhb=>?_,λy hy=>?_,λhp=>?_⟩
 ·rw[C8 (by omega),f1 (by omega),zqq,Addr.add_lit,zlq,<- zSq]
 ·split at hb
  ·rw[f3 hb];omega
  ·cases b with
   |none=>rw[f3 rfl];omega
   |some z=>simp at hb
 ·split at hy
  ·exact f4 y hy
  ·cases b with
   |none=>simp at hy
   |some z=>
     simp only[zqq,D9]at hy;subst hy;have:=f4 z rfl;have hz:z=⟨z.block,z.off,none⟩:=by cases z;simp only at this;subst this;rfl
     rw[hz,Addr.add_lit]
 ·have:=f5 (by omega)
  rwa [show off+l+(cap-l)=off+cap by omega]
def A9N{m:H6}{q:Nat×Nat×Nat×Nat}(h:B28 m=some q):m=.BF q.1 q.2.1 q.2.2.1 q.2.2.2:=by
 unfold B28 at h;split at h
 ·simp only[D9]at h;subst h;rfl
 ·cases h
def C2F{E:Env}{tg:Tag}{i n hh:Nat}(e1:O0 E h tg .undef (.BF i n sz len) (.slice b len cap))(c3:hh<=len):
 O0 E h tg .undef (.BF i n sz hh) (.slice (if cap=0 then b else b.map (·.add (0 * sz))) (hh-0) (cap-0)):=by
 obtain⟨r1,r2,r3,b',cap',hv,f2,f3,f4,f5⟩:=e1;simp only[Value.slice.injEq,true_and]at hv;obtain⟨rfl,rfl⟩:=hv;have eb:(if cap=0 then b else b.map (·.add (0 * sz)))=b:=by
  split
  ·rfl
  ·cases b with
   |none=>rfl
   |some z=>
     have:=f4 (by omega) z rfl;have hz:z=⟨z.block,z.off,none⟩:=by cases z;simp only at this;subst this;rfl
     rw[zqq,hz,Addr.add_lit,Nat.zero_mul,zjq]
 rw[eb];exact⟨r1,r2,r3,b,cap,rfl,by omega,f3,f4,f5⟩
variable {y:Operand}
def C0s{lo hi mx:Option Operand}(I1:o.op=.slice t y lo hi mx)(H:Si C o t y lo hi mx st k=some x)(Rl:M9 E st a w.heap)(T:Then E w k x K):Gp C.P o a w K:=by
 unfold Si at H;obtain⟨r,h1,H⟩:=D8 H;obtain⟨l,h2,H⟩:=D8 H;obtain⟨h,h3,H⟩:=D8 H;obtain⟨m,h4,H⟩:=D8 H;obtain⟨l1,l2⟩:=B0j h2 Rl;obtain⟨k1,k2⟩:=B0j h3 Rl;obtain⟨m1,m2⟩:=B0j h4 Rl;have U7:∀v,(Instr.sliceAt t (a.eval y) (lo.map a.eval) (hi.map a.eval) (mx.map a.eval)).run C.P w=.ok v w->(execOp a.eval o).run C.P w=.ok (.value v) w:=by intro v hv;simp only[execOp,I1];exact Bf hv
 split at H
 ·rename_i q hq;have hm:=A8f hq;have e1:=Rl.src h1;rw[hm]at e1;simp only[RR,O0]at e1;obtain⟨e,he,H⟩:=D8 H;obtain⟨z,hz,H⟩:=D8 H;obtain⟨vQ,H⟩:=I9 H;obtain⟨hh,b1,H⟩:=D8 H;obtain⟨ll,b2,H⟩:=D8 H;obtain⟨⟨c2,c3⟩,H⟩:=O7 H;rw[z9q,beq_iff_eq]at vQ;have hmn:m=none:=by cases m;rfl;exact absurd vQ.1 (by simp)
  have hu:=xC he;obtain⟨f0,b,cap,hv,fr⟩:=e1;rw[hv]at U7;refine X4 (m:=.arr q.1 q.2.1 (q.2.2.1+ll) (hh-ll)) (U7 (.slice (if cap=ll then b else b.map (·.add (ll * q.2.1))) (hh-ll) (cap-ll)) ?_) H Rl (λ_ _=>?_) @T
  ·rw[m2 hmn,vQ.2];exact yP hu hz (A4A b1 b2 c2 c3 fr.2.1 l1 l2 k1 k2 w)
  ·exact C03 (h:=w.heap) (tg:=.other) ⟨f0,b,cap,rfl,fr⟩ c2 c3
 split at H
 ·rename_i q hq;have hm:=A9N hq;have e1:=Rl.src h1;rw[hm]at e1;simp only[RR]at e1;obtain⟨e,he,H⟩:=D8 H;obtain⟨z,hz,H⟩:=D8 H;obtain⟨vQ,H⟩:=I9 H;obtain⟨hh,b1,H⟩:=D8 H;obtain⟨c3,H⟩:=O7 H;simp only[z9q,beq_iff_eq]at vQ;have hmn:m=none:=by cases m;rfl;exact absurd vQ.1.1 (by simp)
  have hln:l=none:=by cases l;rfl;exact absurd vQ.1.2 (by simp)
  have hu:=xC he;have e0:=e1;simp only[O0]at e0;obtain⟨-,-,-,b,cap,hv,fc,-⟩:=e0;rw[hv]at U7 e1;have b2:bnd 0 l=some 0:=by rw[hln];rfl
  refine X4 (m:=.BF q.1 q.2.1 q.2.2.1 hh) (U7 (.slice (if cap=0 then b else b.map (·.add (0 * q.2.2.1))) (hh-0) (cap-0)) ?_) H Rl (λ_ _=>?_) @T
  ·rw[m2 hmn,vQ.2];exact yP hu hz (A4A b1 b2 (Nat.zero_le _) c3 fc l1 l2 k1 k2 w)
  ·exact C2F (h:=w.heap) (tg:=.other) e1 c3
 rename_i hq _;obtain⟨hd,H⟩:=I9 H;have e1:=(Rl.src h1).data hd;split at H
 ·rename_i e hu;obtain⟨z,hz,H⟩:=D8 H;split at H
  ·obtain⟨d,RJ,H⟩:=D8 H;obtain⟨ds,hh,ll,hr,b1,b2,c2,c3,rfl⟩:=A5x RJ;rw[hr]at e1;obtain⟨b,len,cap,hv,f1,f2,f3⟩:=Pf e1;rw[hv]at e1;refine Ar (U7 _ ?_) H Rl (B4P (m:=cap) e1 c2 c3 (by omega) (z8q _)) @T;rw[hv,m2 rfl];exact yP hu hz (A4A (f1 ▸ b1) b2 c2 (by omega) f2 l1 l2 k1 k2 w)
  ·obtain⟨d,RJ,H⟩:=D8 H;obtain⟨kd,kd',qh,rfl,rfl,hd3⟩:=B3t RJ;obtain⟨ds,hh,ll,hr,b1,b2,c2,c3,rfl⟩:=A5x hd3;rw[hr]at e1;obtain⟨b,len,cap,hv,f1,f2,f3⟩:=Pf e1;rw[hv]at e1;have hb:=jc b1;simp only[reduceCtorEq,false_and,D9,DV.int.injEq,false_or]at hb;obtain⟨kd1,q1,⟨rfl,rfl⟩,hq0,rfl⟩:=hb;have hR:=B4P (m:=qh.toNat) e1 c2 c3 (z8q _) (by omega);refine X4 (m:=.full) (U7 _ ?_) H Rl (λ_ _=>⟨hR,⟨_,_,rfl⟩,_,_,rfl⟩) @T;obtain⟨vh,evh,rvh⟩:=k1 _ rfl;obtain⟨vm,evm,rvm⟩:=m1 _ rfl;rw[Cc]at rvh rvm;subst rvh rvm;rw[hv,evh,evm];refine yP hu hz ?_;have A:∀(kd:IntKind)(q:Int)(y:Nat)(code:BoundsCode),0<=q->q.toNat<=y->(Instr.sliceBound (.int kd q) y code).run C.P w=.ok q.toNat w:=by intro kd q y code h0 h4;unfold Instr.sliceBound;simp only[asIntOf,pure_bind,Sem.run_ite];rw[D5 ⟨h0,by omega⟩];rfl
   unfold Instr.sliceBounds;rcases jc b2 with⟨rfl,rfl⟩ | ⟨kd',q',rfl,bM,rfl⟩
   ·rw[l2 rfl];simp only[Sem.run_bind,Sem.run_pure,Result.andThen_ok,A _ _ _ _ hq0 (by omega:qh.toNat<=cap),A _ _ _ _ hq0 (z8q _)]
   ·obtain⟨v,evl,hv⟩:=l1 _ rfl;rw[Cc]at hv;subst hv;rw[evl];simp only[Sem.run_bind,Sem.run_pure,Result.andThen_ok,A _ _ _ _ hq0 (by omega:qh.toNat<=cap),A _ _ _ _ hq0 (z8q _),A _ _ _ _ bM c2]
  ·simp at H
 ·rename_i hu;split at H
  ·obtain⟨d,RJ,H⟩:=D8 H;unfold tL at RJ;split at RJ
   ·rename_i s hr;obtain⟨hh,b1,RJ⟩:=D8 RJ;obtain⟨ll,b2,RJ⟩:=D8 RJ;obtain⟨⟨c2,c3⟩,RJ⟩:=O7 RJ;simp only[D9]at RJ;subst RJ;rw[hr,ai]at e1;refine Ar (v:=.string _) (U7 _ ?_) H Rl (by rw[ai]) @T;rw[e1,m2 rfl];unfold Instr.sliceAt;simp only[Sem.run_bind,run_underlying hu,Result.andThen_ok];unfold Instr.slice;simp only[Sem.run_bind,run_underlying hu,Result.andThen_ok,Option.isSome_none,zrq,F9,Sem.run_pure,A4A b1 b2 c2 c3 (z8q _) l1 l2 k1 k2 w]
   ·simp at RJ
  ·simp at H
 ·simp at H
def Ga{b:Builtin}{c:Call}(I1:o.op=.call c)(hc:c.callee=.builtin b){w':World}(h:(builtin b c.argTypes o.type (c.args.map fun | .const _=>true | _=>false) (c.args.map a.eval)).run C.P w=.ok (.value v) w'):(execOp a.eval o).run C.P w=.ok (.value v) w':=by simp only[execOp,I1,resolve,hc,Sem.run_bind,Sem.run_pure,Result.andThen_ok,invoke];exact h
theorem A4i{α : Type}{xs:Array α}{y : α}(h:xs.toList=[y]):xs=#[y]:=by cases xs;simp at h;subst h;rfl
theorem Vw{α : Type}{xs:Array α}{y z : α}(h:xs.toList=[y,z]):xs=#[y,z]:=by cases xs;simp at h;subst h;rfl
def C4s{c:Call}(I1:o.op=.call c)(hc:c.callee=.builtin .len)(ha:c.args.toList=[y])(ht:c.argTypes.toList=[t])(H:Xg C o y t st k=some x)(Rl:M9 E st a w.heap)(T:Then E w k x K):Gp C.P o a w K:=by
 unfold Xg at H;obtain⟨r,h1,H⟩:=D8 H;have e1:=Rl.src h1;have U7:∀v,(Builtin.len_ #[t] o.type #[a.eval y]).run C.P w=.ok v w->(execOp a.eval o).run C.P w=.ok (.value v) w:=by intro v hv;refine Ga I1 hc ?_;rw[A4i ht,show c.args.map a.eval=#[a.eval y]from by rw[A4i ha];simp];exact Bf hv
 have fin:∀{n:Nat},k (st.put o.dst (.int .i64 n) .val)=some x->(Builtin.len_ #[t] o.type #[a.eval y]).run C.P w=.ok (.int .i64 n) w->Gp C.P o a w K :=λH hv=>Ar (U7 _ hv) H Rl (by rw[Cc]) @T
 split at H
 ·rename_i e hu;have dat:og (M6 r.2) (ob (L6 r.1) λd=>k (st.put o.dst d .val))=some x->Gp C.P o a w K:=by intro H;obtain⟨hd,H⟩:=I9 H;obtain⟨d,RJ,H⟩:=D8 H;obtain⟨sz,ds,hr,rfl⟩:=B9t RJ;have e2:=e1.data hd;rw[hr]at e2;obtain⟨b,len,cap,hv,f1,-⟩:=Pf e2;refine fin H ?_;rw[hv,f1];unfold Builtin.len_;simp[run_underlying hu,goInt]
  split at H
  ·rename_i i sz off len hm;rw[hm]at e1;simp only[RR,O0]at e1;obtain⟨hi,b,cap,hv,-⟩:=e1;refine fin H ?_;rw[hv];unfold Builtin.len_;simp[run_underlying hu,goInt]
  ·rename_i i n sz len hm;rw[B0G]at H;rw[hm]at e1;simp only[RR,O0]at e1;obtain⟨-,-,-,b,cap,hv,-⟩:=e1;refine fin H ?_;rw[hv];unfold Builtin.len_;simp[run_underlying hu,goInt]
  ·exact dat H
 ·rename_i hu;obtain⟨hd,H⟩:=I9 H;obtain⟨d,RJ,H⟩:=D8 H;obtain⟨s,hr,rfl⟩:=B7y RJ;have e2:=e1.data hd;rw[hr,ai]at e2;refine fin H ?_;rw[e2];unfold Builtin.len_;simp[run_underlying hu,goInt]
 ·rename_i kt et hu;obtain⟨n,hn,H⟩:=D8 H;unfold B92 at hn;split at hn
  ·rename_i i hm;obtain⟨es,hes,hn⟩:=D8 hn;simp only[D9]at hn;subst hn;rw[hm]at e1;simp only[RR,O0]at e1;have hO:st.sg[i]?=some (.map es.1 es.2):=by
    unfold X0 at hes;split at hes
    ·simp only[D9]at hes;subst hes;assumption
    ·simp at hes
   obtain⟨ens,clk,g1,g2,g3,-⟩:=Rl.V8 i _ hO;refine fin H ?_;rw[e1.2,g3.1];unfold Builtin.len_;simp[run_underlying hu,goInt,getObj,Sem.run,g1]
  ·rename_i hm;simp only[D9]at hn;subst hn;rw[hm]at e1;simp only[RR,O0]at e1;refine fin H ?_;rw[e1];unfold Builtin.len_;simp[run_underlying hu,goInt]
  ·simp at hn
 ·simp at H
end
end Go.Su

/-
 THE DATA MACHINE, part 9: operators, bytes of texts, fields of values, checked addresses, max and min.
-/
namespace Go.Su
set_option linter.defProp false
variable {b:Bool}
def B9q{y z:DV}(h:A17 y z=some b):∃p q,y=.bool p/\z=.bool q/\b=(p==q):=by
 unfold A17 at h;split at h
 ·simp only[D9]at h;exact⟨_,_,rfl,rfl,h.symm⟩
 ·simp at h
def B9p{ks:List LK}{y z:DV}(h:jk ks y z=some b):∃p q,y=.agg p/\z=.agg q/\Eg ks p q=some b:=by
 unfold jk at h;split at h
 ·exact⟨_,_,rfl,rfl,h⟩
 ·simp at h
variable {op:BinOp}{d:DV}
def A8u(h:xE op b=some d):(op=.eql/\d=.bool b)\/(op=.neq/\d=.bool !b):=by
 unfold xE at h;split at h<;>simp only[D9,reduceCtorEq]at h<;>subst h
 ·exact .inl ⟨rfl,rfl⟩
 ·exact .inr ⟨rfl,rfl⟩
def B9u{y z:DV}(h:jm y z=some d):∃k p q,y=.int k p/\z=.int k q/\d=.int k (if q>p then q else p):=by
 unfold jm at h;split at h
 ·obtain⟨hk,h1⟩:=O7 h;simp only[D9]at h1;subst hk;exact⟨_,_,_,rfl,rfl,h1.symm⟩
 ·simp at h
def B9v{y z:DV}(h:jo y z=some d):∃k p q,y=.int k p/\z=.int k q/\d=.int k (if q<p then q else p):=by
 unfold jo at h;split at h
 ·obtain⟨hk,h1⟩:=O7 h;simp only[D9]at h1;subst hk;exact⟨_,_,_,rfl,rfl,h1.symm⟩
 ·simp at h
variable {P:Program}{t:TypeId}{lk:LK}
def B9X(h:Qb P t=some lk)(w:World):(isAgg t).run P w=.ok false w:=by
 unfold Qb at h;split at h
 ·rename_i hu;unfold isAgg;simp[run_underlying hu]
 ·rename_i hu;unfold isAgg;simp[run_underlying hu]
 ·rename_i hu;unfold isAgg;simp[run_underlying hu]
 ·simp at h
variable {hp:Heap}
def B3F{S:AL}{dx dy:DV}{vx vy:Value}(hk:Qb P t=some lk)(H:A18 lk dx dy=some b)(hx:RC S hp dx [vx])(hy:RC S hp dy [vy])(n:Nat)(w:World):(Op.equalIn (n+1) t vx vy).run P w=.ok b w:=by
 unfold A18 at H;split at H
 ·obtain⟨BD,H1⟩:=O7 H;simp only[D9]at H1;subst H1 BD;simp only[RC,List.cons.injEq,and_true]at hx hy;subst hx hy;unfold Qb at hk;split at hk<;>simp only[D9,reduceCtorEq]at hk;rename_i hu;exact run_equalIn_int w n t _ _ _ _ hu
 ·simp only[D9]at H;subst H;simp only[RC,List.cons.injEq,and_true]at hx hy;subst hx hy;unfold Qb at hk;split at hk<;>simp only[D9,reduceCtorEq]at hk;rename_i hu;exact run_equalIn_bool' w n t _ _ hu
 ·simp only[D9]at H;subst H;simp only[RC,List.cons.injEq,and_true]at hx hy;subst hx hy;unfold Qb at hk;split at hk<;>simp only[D9,reduceCtorEq]at hk;rename_i hu;exact run_equalIn_string w n t _ _ hu
 ·simp at H
variable {v:Value}
def B1z(h:Qb P t=some lk){cs:Array Value}{off:Nat}(hv:cs[off]?=some v)(w:World):(part t cs off).run P w=.ok v w:=by unfold part;simp[B9X h,hv]
def B19{S:AL}{n:Nat}{xs ys:Array Value}{ax ay:List DV}(hx:Jb S hp ax xs.toList)(hy:Jb S hp ay ys.toList):∀(fs:List Field)(ks:List LK)(i:Nat)(b:Bool),
 WG P i fs=some ks->Eg ks (ax.drop i) (ay.drop i)=some b->∀w:World,(Op.eqFields (n+1) xs ys fs).run P w=.ok b w:=by
 obtain⟨lx,hx⟩:=Gr.1 hx;obtain⟨ly,hy⟩:=Gr.1 hy;intro fs;induction fs with
 |nil=>intro ks i b h1 h2 w;simp only[WG,D9]at h1;subst h1;unfold Eg at h2;split at h2<;>simp_all[Op.eqFields]
 |cons f fs ih=>
   intro ks i b h1 h2 w;simp only[WG]at h1;obtain⟨hc,h1⟩:=O7 h1;obtain⟨lk,hk,h1⟩:=D8 h1;obtain⟨ks',Ny,h1⟩:=D8 h1;simp only[D9]at h1;subst h1;simp only[z9q,bne_iff_ne,ne_eq,beq_iff_eq]at hc;cases hax:ax.drop i with
   |nil=>rw[hax]at h2;simp[Eg]at h2
   |cons dx rx=>
     cases hay:ay.drop i with
     |nil=>rw[hax,hay]at h2;simp[Eg]at h2
     |cons dy ry=>
       rw[hax,hay]at h2;simp only[Eg]at h2;obtain⟨q,hq,h2⟩:=D8 h2;have C5H:ax[i]?=some dx:=by have:=congrArg (λl:List DV=>l[0]?) hax;simpa using this
       have C5I:ay[i]?=some dy:=by have:=congrArg (λl:List DV=>l[0]?) hay;simpa using this
       have Na:i<xs.toList.length:=by have:=(z0q.1 C5H).1;omega
       have hi2:i<ys.toList.length:=by have:=(z0q.1 C5I).1;omega
       have hvx:xs.toList[i]?=some xs.toList[i]:=z2q Na;have hvy:ys.toList[i]?=some ys.toList[i]:=z2q hi2;have rx':rx=ax.drop (i+1):=by rw[<- zTq,hax];rfl
       have ry':ry=ay.drop (i+1):=by rw[<- zTq,hay];rfl
       have e1:(part f.type xs f.offset).run P w=.ok xs.toList[i] w:=B1z hk (by rw[hc.2];simp) w;have e2:(part f.type ys f.offset).run P w=.ok ys.toList[i] w:=B1z hk (by rw[hc.2];simp) w;have e3:=B3F (P:=P) hk hq (hx i dx _ C5H hvx).2 (hy i dy _ C5I hvy).2 n w;simp only[Op.eqFields,Sem.run_ite];rw[D5 hc.1];simp only[Sem.run_bind,e1,e2,e3,Result.andThen_ok,Sem.run_ite];cases q with
       |false=>simp only[zrq,F9,D9]at h2;subst h2;simp
       |true=>simp only[H5]at h2;rw[rx',ry']at h2;simpa using ih ks' (i+1) b Ny h2 w
section
variable {X:Type}{C:AB}{R:U1}{o:Oper}{st:St}{k:St->Option X}{x:X}{E:Env}{a:Act}{w:World}{K:Act->World->Prop}{Q:Exit->Act->World->Prop}
def B7F{e:TypeId}(hu:P.underlying t=some (.pointer e))(n:Nat)(b:Option Addr)(w:World):(Op.equalIn (n+1) t (.pointer none) (.pointer b)).run P w=.ok b.isNone w:=by simp[Op.equalIn,run_underlying hu]
def B7G{e:TypeId}(hu:P.underlying t=some (.pointer e))(n:Nat)(b:Addr)(w:World):(Op.equalIn (n+1) t (.pointer (some b)) (.pointer none)).run P w=.ok false w:=by simp[Op.equalIn,run_underlying hu]
def pu{E:Env}{h:Heap}{k a:Nat}{r:DV×H6}(H:bY r=some b)(R:RR E h k a r.1 r.2 v):∃p:Option Addr,v=.pointer p/\p.isNone=b:=by
 obtain⟨d,m⟩:=r;unfold bY at H;simp only at H R;split at H
 ·simp only[D9]at H;subst H;obtain⟨-,rfl⟩:=(R:_/\_);exact⟨none,rfl,rfl⟩
 ·simp only[D9]at H;subst H;obtain⟨-,rfl⟩:=(R:_/\_);exact⟨_,rfl,rfl⟩
 ·split at H<;>simp only[D9,reduceCtorEq]at H<;>subst H
  ·exact⟨none,by simpa only[RR,O0,RV]using R,rfl⟩
  ·simp only[RR,O0,RV,RC]at R;obtain⟨b,o,hv,-⟩:=R;simp only[List.cons.injEq,and_true]at hv;exact⟨_,hv,rfl⟩
 ·cases H
def C1j{e:TypeId}(hu:P.underlying t=some (.pointer e)){E:Env}{h:Heap}{k a k' a':Nat}{r s:DV×H6}{u:Value}{n:Nat}(w:World)(H:XI r s=some b)(R:RR E h k a r.1 r.2 u)(S:RR E h k' a' s.1 s.2 v):
 ∃p q,u=.pointer p/\v=.pointer q/\(Op.equalIn (n+1) t u v).run P w=.ok b w:=by
 unfold XI at H;split at H<;>simp only[D9,reduceCtorEq]at H<;>subst H<;>rename_i h1 h2
 ·obtain⟨p,rfl,hp⟩:=pu h1 R;obtain⟨q,rfl,hq⟩:=pu h2 S;simp only[zFq]at hp;subst hp hq;exact⟨_,_,rfl,rfl,B7F hu _ _ w⟩
 ·obtain⟨p,rfl,hp⟩:=pu h1 R;obtain⟨q,rfl,hq⟩:=pu h2 S;simp only[zFq]at hq;subst hq;cases p with
  |none=>cases hp
  |some p=>exact⟨_,_,rfl,rfl,B7G hu _ _ w⟩
def A8x{e e':TypeId}(hu:P.underlying t=some (.map e e'))(n:Nat)(b:Option Nat)(w:World):(Op.equalIn (n+1) t (.map none) (.map b)).run P w=.ok b.isNone w:=by simp[Op.equalIn,run_underlying hu]
def B7E{e e':TypeId}(hu:P.underlying t=some (.map e e'))(n:Nat)(b:Nat)(w:World):(Op.equalIn (n+1) t (.map (some b)) (.map none)).run P w=.ok false w:=by simp[Op.equalIn,run_underlying hu]
variable {yt:TypeId}
def qD{y z:Operand}(I1:o.op=.binOp op t y z yt)(he:xE op b=some d)(hg:(eqGuard op t y z (a.eval y) (a.eval z)).run C.P w=.ok () w)(hq:(Op.equal t (a.eval y) (a.eval z)).run C.P w=.ok b w)(hb:∀op',binOp op' t (a.eval y) (a.eval z)=(match op' with | .eql=>(do pure (.bool (<- Op.equal t (a.eval y) (a.eval z)))) | .neq=>(do pure (.bool (!(<- Op.equal t (a.eval y) (a.eval z))))) | _=>binOp op' t (a.eval y) (a.eval z)))(H:k (st.put o.dst d .val)=some x)(Rl:M9 E st a w.heap)(T:Then E w k x K):Gp C.P o a w K:=by
 rcases A8u he with⟨rfl,rfl⟩ | ⟨rfl,rfl⟩
 ·refine Ar (v:=.bool b) ?_ H Rl (by rw[Pe]) @T;simp only[execOp,I1];refine Bf ?_;rw[hb];simp[hg,hq]
 ·refine Ar (v:=.bool !b) ?_ H Rl (by rw[Pe]) @T;simp only[execOp,I1];refine Bf ?_;rw[hb];simp[hg,hq]
def C4o{y z:Operand}(I1:o.op=.binOp op t y z yt)(H:gm C o op t y z st k=some x)(Rl:M9 E st a w.heap)(T:Then E w k x K):Gp C.P o a w K:=by
 unfold gm at H;obtain⟨r,h1,H⟩:=D8 H;obtain⟨s,h2,H⟩:=D8 H;have e1:=Rl.src h1;have e2:=Rl.src h2;split at H
 ·obtain⟨hc,H⟩:=I9 H;obtain⟨d,hd,H⟩:=D8 H;simp only[z9q]at hc;obtain⟨v,hv,hR⟩:=C2d (P:=C.P) (t:=t) (x:=y) (y:=z) hd (e1.data hc.1) (e2.data hc.2) w;refine Ar (v:=v) ?_ H Rl hR @T;simp only[execOp,I1];exact Bf hv
 ·rename_i IM;have hu:C.P.underlying t=some .bool:=by unfold sW at IM;split at IM<;>first | assumption | (simp at IM;done) | (split at IM<;>simp at IM)
  obtain⟨hc,H⟩:=I9 H;obtain⟨b,hb,H⟩:=D8 H;obtain⟨d,hd,H⟩:=D8 H;simp only[z9q]at hc;obtain⟨p,q,hp,hq,hpq⟩:=B9q hb;have f1:=e1.data hc.1;have f2:=e2.data hc.2;rw[hp,Pe]at f1;rw[hq,Pe]at f2;refine qD I1 hd ?_ ?_ ?_ H Rl @T
  ·rw[f1,eqGuard_at_bool];rfl
  ·rw[f1,f2,hpq];exact run_equalIn_bool' w _ t p q hu
  ·intro op';rw[f1,f2];cases op'<;>rfl
 ·rename_i ks IM;have hu:∃fs,C.P.underlying t=some (.struct fs)/\WG C.P 0 fs.toList=some ks/\C.P.stoodInHeld t=false/\C.P.eqGuardType C.P.depth t=false:=by
   unfold sW at IM;split at IM<;>first | (simp at IM;done) | skip
   rename_i fs hfs;split at IM<;>first | (simp at IM;done) | skip
   rename_i ks' g1 g2 g3;simp only[B6y.flat.injEq]at IM;subst IM;exact⟨fs,hfs,g1,g2,g3⟩
  obtain⟨fs,hu,pJ,V9,hgt⟩:=hu;obtain⟨hc,H⟩:=I9 H;obtain⟨b,hb,H⟩:=D8 H;obtain⟨d,hd,H⟩:=D8 H;simp only[z9q]at hc;obtain⟨p,q,hp,hq,bN⟩:=B9p hb;have f1:=e1.data hc.1;have f2:=e2.data hc.2;rw[hp]at f1;rw[hq]at f2;simp only[RV]at f1 f2;obtain⟨vs,UU,rvs⟩:=f1;obtain⟨us,hus,rus⟩:=f2;refine qD I1 hd ?_ ?_ ?_ H Rl @T
  ·rw[UU,hus];exact run_eqGuard_agg w op t y z vs us hgt
  ·rw[UU,hus];show(Op.equalIn 10000 t _ _).run C.P w=_;have hfs:C.P.fieldsOf t=fs:=by unfold Program.fieldsOf;rw[hu]
   rw[run_equalIn_struct w 9999 t vs us (by rw[hfs];exact hu) V9,hfs];exact B19 rvs rus fs.toList ks 0 b pJ bN w
  ·intro op';rw[UU,hus];cases op'<;>rfl
 ·rename_i IM;have hu:∃e,C.P.underlying t=some (.pointer e):=by unfold sW at IM;split at IM<;>first | exact⟨_,by assumption⟩ | (simp at IM;done) | (split at IM<;>simp at IM)
  obtain⟨et,hu⟩:=hu;obtain⟨b,hb,H⟩:=D8 H;obtain⟨d,hd,H⟩:=D8 H;have key:∃p q,a.eval y=.pointer p/\a.eval z=.pointer q/\(Op.equal t (a.eval y) (a.eval z)).run C.P w=.ok b w:=by exact C1j hu w hb e1 e2
  obtain⟨p,q,hp,hq,he⟩:=key;refine qD I1 hd ?_ he ?_ H Rl @T
  ·rw[hp,eqGuard_at_pointer];rfl
  ·intro op';rcases A8u hd with⟨rfl,-⟩ | ⟨rfl,-⟩<;>rw[hp,hq]<;>cases op'<;>first | rfl | skip
 ·rename_i IM;have hu:∃e e',C.P.underlying t=some (.map e e'):=by unfold sW at IM;split at IM<;>first | exact⟨_,_,by assumption⟩ | (simp at IM;done) | (split at IM<;>simp at IM)
  obtain⟨et,et',hu⟩:=hu;obtain⟨b,hb,H⟩:=D8 H;obtain⟨d,hd,H⟩:=D8 H;have key:∃p q,a.eval y=.map p/\a.eval z=.map q/\(Op.equal t (a.eval y) (a.eval z)).run C.P w=.ok b w:=by
   revert hb e1 e2;unfold A89;split<;>intro e1 e2 hb<;>simp only[D9,reduceCtorEq]at hb<;>subst hb<;>rename_i hm hn<;>rw[hm]at e1<;>rw[hn]at e2<;>simp only[RR,O0]at e1 e2
   ·refine⟨_,_,e1,e2,?_⟩;rw[e1,e2];exact A8x hu _ _ w
   ·refine⟨_,_,e1,e2.2,?_⟩;rw[e1,e2.2];exact A8x hu _ _ w
   ·refine⟨_,_,e1.2,e2,?_⟩;rw[e1.2,e2];exact B7E hu _ _ w
  obtain⟨p,q,hp,hq,he⟩:=key;refine qD I1 hd ?_ he ?_ H Rl @T
  ·rw[hp,eqGuard_at_map];rfl
  ·intro op';rw[hp,hq];cases op'<;>rfl
 ·simp at H
end
end Go.Su

/-
 THE DATA MACHINE, part 10: bytes of texts, fields of values, checked addresses, max and min; addresses read.
-/
namespace Go.Su
set_option linter.defProp false
section
variable {X:Type}{C:AB}{R:U1}{o:Oper}{st:St}{k:St->Option X}{x:X}{E:Env}{a:Act}{w:World}{K:Act->World->Prop}{Q:Exit->Act->World->Prop}{t:TypeId}{y:Operand}
def C0r{i:Operand}(I1:o.op=.index t y i)(H:(ob (src C.P t st y) λr=>ob (src C.P 0 st i) λj=>match C.P.underlying t with
   |some .string=>og (M6 r.2&&M6 j.2) (ob (Af r.1 j.1) λd=>k (st.put o.dst d .val))
   |_=>none)=some x)(Rl:M9 E st a w.heap)(T:Then E w k x K):Gp C.P o a w K:=by
 obtain⟨r,h1,H⟩:=D8 H;obtain⟨j,h2,H⟩:=D8 H;split at H
 ·rename_i hu;obtain⟨hc,H⟩:=I9 H;obtain⟨d,hd,H⟩:=D8 H;simp only[z9q]at hc;have e1:=(Rl.src h1).data hc.1;have e2:=(Rl.src h2).data hc.2;obtain⟨s,kd,n,b,hr,hj,h0,hb,UQ⟩:=B3u hd;rw[hr,ai]at e1;rw[hj,Cc]at e2;rw[UQ]at H;refine Ar (v:=.int .u8 b.toNat) ?_ H Rl (by rw[Cc]) @T;simp only[execOp,I1];refine Bf ?_;have hs:s[n.toNat]?=some b:=by have P8:n.toNat<s.data.size:=(z6q.1 hb).1;have hv:s.data[n.toNat]=b:=(z6q.1 hb).2;rw[getElem?_pos s n.toNat P8];exact congrArg some hv
  unfold Instr.index;simp only[e1,e2,asIntOf,Sem.run_bind,Sem.run_pure,Result.andThen_ok,run_underlying hu,h0,H5,hs]
 ·simp at H
variable {S:AL}{h:Heap}{vs:List Value}
def A1W{d:DV}(H:RC S h d vs){off n:Nat}(hn:off+n<=vs.length):Jb S h (cells n off d) ((vs.drop off).take n):=by
 refine Gr.2 ⟨by simp only[cells,zEq,List.length_range,zgq,ziq];omega,λi d' v hd hv=>?_⟩;have hi:i<n:=by have:=(z0q.1 hd).1;simpa[cells]using this
 simp only[cells,zbq,zIq hi,zqq,D9]at hd;subst hd;rw[z7q hi,zdq]at hv;exact Sc H hv
variable {v:Value}
def A1X{n:Nat}{d:DV}(hg:E5 n d=true)(H:RV S h d v):∃vs,v=.agg vs/\vs.size=n/\RC S h d vs.toList:=by
 cases d<;>simp only[E5]at hg<;>try contradiction
 rename_i cs;simp only[RV]at H;obtain⟨vs,rfl,H⟩:=H;refine⟨vs,rfl,?_,by simp only[RC];exact H⟩;have:=(Gr.1 H).1;simp only[beq_iff_eq]at hg;simp at this;omega
def C4t{c:Call}{z:Operand}{u:TypeId}(I1:o.op=.call c)(hc:c.callee=.builtin .max)(ha:c.args.toList=[y,z])(H:(ob (src C.P t st y) λr=>ob (src C.P u st z) λs=>og (M6 r.2&&M6 s.2) (ob (jm r.1 s.1) λd=>k (st.put o.dst d .val)))=some x)(Rl:M9 E st a w.heap)(T:Then E w k x K):Gp C.P o a w K:=by obtain⟨r,h1,H⟩:=D8 H;obtain⟨s,h2,H⟩:=D8 H;obtain⟨UO,H⟩:=I9 H;obtain⟨d,hd,H⟩:=D8 H;simp only[z9q]at UO;obtain⟨kd,p,q,hr,hs,UQ⟩:=B9u hd;have e1:=(Rl.src h1).data UO.1;have e2:=(Rl.src h2).data UO.2;rw[hr,Cc]at e1;rw[hs,Cc]at e2;rw[UQ]at H;refine Ar (v:=.int kd (if q>p then q else p)) ?_ H Rl (by rw[Cc]) @T;refine Ga I1 hc ?_;rw[show c.args.map a.eval=#[a.eval y,a.eval z]from by rw[Vw ha];simp];refine Bf ?_;rw[e1,e2];simp[Builtin.max_,Builtin.max2]
def C4u{c:Call}{z:Operand}{u:TypeId}(I1:o.op=.call c)(hc:c.callee=.builtin .min)(ha:c.args.toList=[y,z])(H:(ob (src C.P t st y) λr=>ob (src C.P u st z) λs=>og (M6 r.2&&M6 s.2) (ob (jo r.1 s.1) λd=>k (st.put o.dst d .val)))=some x)(Rl:M9 E st a w.heap)(T:Then E w k x K):Gp C.P o a w K:=by obtain⟨r,h1,H⟩:=D8 H;obtain⟨s,h2,H⟩:=D8 H;obtain⟨UO,H⟩:=I9 H;obtain⟨d,hd,H⟩:=D8 H;simp only[z9q]at UO;obtain⟨kd,p,q,hr,hs,UQ⟩:=B9v hd;have e1:=(Rl.src h1).data UO.1;have e2:=(Rl.src h2).data UO.2;rw[hr,Cc]at e1;rw[hs,Cc]at e2;rw[UQ]at H;refine Ar (v:=.int kd (if q<p then q else p)) ?_ H Rl (by rw[Cc]) @T;refine Ga I1 hc ?_;rw[show c.args.map a.eval=#[a.eval y,a.eval z]from by rw[Vw ha];simp];refine Bf ?_;rw[e1,e2];simp[Builtin.min_,Builtin.min2]
def C3t{sz:Nat}{d e:DV}(H:A6X sz d=some e)(R:RV S h d v):∃b o,v=.pointer (some ⟨b,o,none⟩)/\Elem S h sz b o e:=by
 unfold A6X at H;split at H
 ·rename_i sz' d';split at H
  ·rename_i hs;simp only[D9]at H;subst H hs;simp only[RV,RC]at R;obtain⟨b,o,hv,us,h1,h2,h3⟩:=R;simp only[List.cons.injEq,and_true]at hv;exact⟨b,o,hv,us,h1,h2,h3⟩
  ·cases H
 ·cases H
def B4N{fl:I5}(I1:o.op=.nilCheck y)(H:(ob (src C.P 0 st y) λr=>match r.2 with
   |.loc s o'=>k (st.put o.dst .undef (.loc s o'))
   |.Re ag sz o'=>k (st.put o.dst r.1 (.Re ag sz o'))
   |.ptr i o'=>k (st.put o.dst .undef (.ptr i o'))
   |.fI i sz j o'=>k (st.put o.dst .undef (.fI i sz j o'))
   |.opt i sz j=>k (st.put o.dst .undef (.opt i sz j))
   |.fn f cs=>k (st.put o.dst .undef (.fn f cs))
   |.val=>ob (o.dst.bind λt=>fl.refs.find? (·.1==t)) λq=>ob (A6X q.2 r.1) λd=>k (st.put o.dst d (.Re true q.2 0))
   |_=>none)=some x)(Rl:M9 E st a w.heap)(T:Then E w k x K):Gp C.P o a w K:=by
 obtain⟨r,h1,H⟩:=D8 H;have e1:=Rl.src h1;have hp:∀b,a.eval y=.pointer (some b)->(execOp a.eval o).run C.P w=.ok (.value (.pointer (some b))) w:=by intro b hb;simp only[execOp,I1,hb,Sem.run_pure]
 have hf:∀f c d,a.eval y=.func (.func f) c d->(execOp a.eval o).run C.P w=.ok (.value (.func (.func f) c d)) w:=by intro f c d hb;simp only[execOp,I1,hb,Sem.run_pure]
 revert e1 H;cases hm:r.2<;>intro H e1<;>simp only[reduceCtorEq]at H<;>simp only[RR,O0]at e1
 case val=>obtain⟨q,-,H⟩:=D8 H;obtain⟨d,hd,H⟩:=D8 H;obtain⟨b,o0,r1,r2⟩:=C3t hd e1;exact X4 (hp _ r1) H Rl (λ_ _=>⟨b,o0,rfl,r2,λh=>by cases h⟩) @T
 case loc s off=>exact X4 (hp _ e1.2) H Rl (λ_ _=>⟨rfl,rfl⟩) @T
 case Re ag sz off=>obtain⟨b,o0,r1,r2,r3⟩:=e1;exact X4 (hp _ r1) H Rl (λ_ _=>⟨b,o0,rfl,r2,r3⟩) @T
 case ptr i off=>exact X4 (hp _ e1.2) H Rl (λ_ _=>⟨e1.1,rfl⟩) @T
 case fI i sz idx off=>exact X4 (hp _ e1.2) H Rl (λ_ _=>⟨e1.1,rfl⟩) @T
 case opt i sz idx=>exact X4 (hp _ e1.2) H Rl (λ_ _=>⟨e1.1,rfl⟩) @T
 case fn f cs=>exact X4 (hf _ _ _ e1.1) H Rl (λ_ _=>⟨rfl,e1.2⟩) @T
variable {P:Program}
def Ie{z:Nat×Bool}(hz:tz P t=some z){b off:Nat}(hl:vs.length=z.1)(hc:∀(j:Nat) v,vs[j]?=some v->hc w.heap b (off+j)=some v):
 ∃v,(loadVar t ⟨b,off,none⟩).run P w=.ok v w/\(z.2=true->v=.agg vs.toArray)/\(z.2=false->vs=[v]):=by
 unfold loadVar;simp only[Sem.run_bind,C2y hz,Result.andThen_ok,Sem.run_ite]
 by_cases h2:z.2=true
 ·rw[D5 h2];have h3:(loadCells ⟨b,off,none⟩ z.1).run P w=.ok vs.toArray w:=by rw[<- hl];refine run_loadCells_list w _ vs λj v hv=>?_;rw[Addr.add_lit,Vz];exact hc j v hv
  refine⟨_,by simp only[Rw hz,h3,Result.andThen_ok,Sem.run_pure],λ_=>rfl,λh4=>?_⟩;rw[h2]at h4;cases h4
 ·rw[C8 h2];have Hu:z.1=1:=by obtain⟨i,d,-,-,-,h4⟩:=KV hz;exact h4 (by simpa using h2)
  match vs,hl.trans Hu with
  |[v],_=>have h5:=hc 0 v rfl;refine⟨v,?_,λh3=>absurd h3 h2,λ_=>rfl⟩;rw[run_load,Vz];simp only[zjq]at h5;rw[h5]
def TD(I1:o.op=.load t y){b off:Nat}(he:a.eval y=.pointer (some ⟨b,off,none⟩))(h:(loadVar t ⟨b,off,none⟩).run P w=.ok v w):
 (execOp a.eval o).run P w=.ok (.value v) w:=by
 simp only[execOp,I1];refine Bf ?_;simp only[Instr.loadAt,he,Instr.sureAddr,Sem.run_bind,Sem.run_pure,Result.andThen_ok,h]
end
end Go.Su

/-
 THE DATA MACHINE, part 11: memory read.
-/
namespace Go.Su
set_option linter.defProp false
variable {E:Env}{h:Heap}{tg:Tag}{cs:List (DV×H6)}{off:Nat}
def A1V{k a b:Nat}(B:jT E h tg k a b cs){n:Nat}(hn:off+n<=cs.length):
 ∃vs:List Value,vs.length=n/\(∀(j:Nat) v,vs[j]?=some v->hc h b (off+j)=some v) /\∀(j:Nat) v r,vs[j]?=some v->cs[off+j]?=some r->M7 r.1=true/\v.oneCell'=true/\w9 r.2=true/\O0 E h (.sp k a (off+j)) r.1 r.2 v:=by
 obtain⟨c,T,h1,h2,h3,h4⟩:=B;have e:∀(j:Nat) v,((c.toList.drop off).take n)[j]?=some v->c[off+j]?=some v:=by
  intro j v hv;have hj:j<n:=by have:=(z0q.1 hv).1;simp only[zgq,ziq]at this;omega
  rw[z7q hj,zdq]at hv;simpa using hv
 refine⟨(c.toList.drop off).take n,by simp only[zgq,ziq,Array.length_toList];omega,λj v hv=>?_,λj v r hv hr=>h4 (off+j) r v hr (e j v hv)⟩;unfold hc;rw[h1];exact e j v hv
variable {m:H6}
def Ci(h:w9 m=true):dm m=bF m/\w9 (dm m)=true/\dm m ≠ .own:=by cases m<;>simp_all[w9,dm,bF]
variable {d:DV}{v:Value}
def O0.Ci{tg':Tag}(hm:w9 m=true)(R:O0 E h tg d m v):O0 E h tg' d (dm m) v:=by rw[(Su.Ci hm).1];exact R.bF
def O0.xe{tg':Tag}(R:O0 E h tg d .full v):O0 E h tg' d .own v:=by simp only[O0]at R ⊢;obtain⟨r1,⟨p,n,rfl⟩,sz,ds,r2⟩:=R;refine⟨r1,sz,ds,r2,λx len cap hv P8=>?_⟩;simp only[Value.slice.injEq]at hv;omega
section
variable {X:Type}{C:AB}{R:U1}{o:Oper}{st:St}{k:St->Option X}{x:X}{E:Env}{a:Act}{w:World}{K:Act->World->Prop}{Q:Exit->Act->World->Prop}
def A6Q{vs:List Value}(hl:vs.length=cs.length)(H:∀(j:Nat) v r,vs[j]?=some v->cs[j]?=some r->M7 r.1=true/\v.oneCell'=true/\w9 r.2=true/\∃tg,O0 E w.heap tg r.1 r.2 v)(p q:Nat):
 RR E w.heap p q (nY cs).1 (nY cs).2 (.agg vs.toArray):=by
 simp only[nY,RR];refine⟨_,_,rfl,rfl,by simp,by simp[hl],λi m d v h1 h2 h3=>?_⟩;simp only[zbq,zaq]at h1 h2;obtain⟨r,hr,rfl⟩:=h1;obtain⟨r',Bh,rfl⟩:=h2;rw[hr]at Bh;simp only[D9]at Bh;subst Bh;obtain⟨a1,a2,a3,tg,a4⟩:=H i v r (by simpa using h3) hr;exact⟨a1,a2,(Su.Ci a3).2.1,a4.Ci a3⟩
def B5O{r:DV×H6}(h1:M7 r.1=true)(h2:v.oneCell'=true)(h3:w9 r.2=true)(h4:O0 E w.heap tg r.1 r.2 v):
 M7 (ZU r).1=true/\v.oneCell'=true/\w9 (ZU r).2=true/\∃tg,O0 E w.heap tg (ZU r).1 (ZU r).2 v:=by
 unfold ZU;split
 ·exact⟨rfl,h2,rfl,tg,by simp only[O0,RV]⟩
 ·exact⟨h1,h2,h3,tg,h4⟩
def je(h:Y5 cs off=some d):∃m,cs[off]?=some (d,m)/\(m=.val\/m=.full\/m=.own\/m=.FZ):=by
 unfold Y5 at h;split at h<;>simp only[D9,reduceCtorEq]at h<;>subst h
 ·exact⟨_,‹_›,.inl rfl⟩
 ·exact⟨_,‹_›,.inr (.inl rfl)⟩
 ·exact⟨_,‹_›,.inr (.inr (.inl rfl))⟩
 ·exact⟨_,‹_›,.inr (.inr (.inr rfl))⟩
def sQ{E:Env}(hm:m=.val\/m=.full\/m=.own\/m=.FZ)(R:O0 E h tg d m v):RV E.S h d v:=by
 rcases hm with rfl | rfl | rfl | rfl
 ·exact R
 ·exact R.1
 ·exact R.1
 ·obtain⟨rfl,rfl⟩:=(R:_/\_);simp only[RV]
def A6F:∀{n off:Nat}{cs:List (DV×H6)}{ds:List DV},Dj off n cs=some ds->ds.length=n/\∀(i:Nat) d,ds[i]?=some d->Y5 cs (off+i)=some d
 |0,off,cs,ds,h=>by simp only[Dj,D9]at h;subst h;simp
 |n+1,off,cs,ds,h=>by
   simp only[Dj]at h;obtain⟨d,hd,h⟩:=D8 h;obtain⟨ds',pI,h⟩:=D8 h;simp only[D9]at h;subst h;obtain⟨l1,l2⟩:=A6F pI;refine⟨by simp[l1],λi d' hi=>?_⟩;cases i with
   |zero=>simp only[z3q,D9]at hi;subst hi;simpa using hd
   |succ i=>simp only[zeq]at hi;have:=l2 i d' hi;rwa [zlq,zKq 1 i]at this
variable {sg:List H7}{i:Nat}
def yK(h:Q7 sg i=some cs):sg[i]?=some (.box cs):=by
 unfold Q7 at h;split at h
 ·simp only[D9]at h;subst h;assumption
 ·simp at h
def iM{p:Nat×List DV}(h:CZ sg i=some p):sg[i]?=some (.arr p.1 p.2):=by
 unfold CZ at h;split at h
 ·simp only[D9]at h;subst h;assumption
 ·simp at h
def yM{sz:Nat}{pre ds:List DV}(h:NB sg i=some (sz,pre,ds)):sg[i]?=some (.opn sz pre ds):=by
 unfold NB at h;split at h
 ·rename_i heq;simp only[D9,Prod.mk.injEq]at h;obtain⟨rfl,rfl,rfl⟩:=h;exact heq
 ·simp at h
def iN{n:Nat}{p:Nat×List DV}(h:VJ sg i n=some p):sg[i]?=some (.BF n p.1 p.2):=by
 unfold VJ at h;split at h
 ·split at h
  ·rename_i heq hn;simp only[D9]at h;subst h hn;exact heq
  ·cases h
 ·simp at h
def A9C{p:Bool×List (DV×DV)}(h:X0 sg i=some p):sg[i]?=some (.map p.1 p.2):=by
 unfold X0 at h;split at h
 ·simp only[D9]at h;subst h;assumption
 ·simp at h
def Dc(Rl:M9 E st a w.heap){ob:H7}(h:st.sg[i]?=some ob):i<E.n:=by rw[<- Rl.n];exact(z0q.1 h).1
def Rb{α : Type}{l cs:List α}{o:Nat}(h:o+cs.length<=l.length)(j:Nat):(Ic l o cs)[j]?=if o<=j/\j<o+cs.length then cs[j-o]? else l[j]?:=by
 unfold Ic;by_cases h1:j<o
 ·rw[C8 (by omega),zMq,zhq (by simp;omega),z7q h1]
 ·by_cases h2:j<o+cs.length
  ·rw[D5 (by omega),zMq,zfq (by simp;omega),zhq (by simp;omega)];congr 1;simp;omega
  ·rw[C8 (by omega),zfq (by simp;omega),zdq];congr 1;simp;omega
def Nk{α : Type}{l cs:List α}{o:Nat}(h:o+cs.length<=l.length):(Ic l o cs).length=l.length:=by unfold Ic;simp;omega
def M9.B7s(Rl:M9 E st a w.heap){s n:Nat}(hb:st.bx.getD s none=some cs)(hn:off+n<=cs.length){f:Tag->Tag}(hf:∀T,(∀j,off<=j->j<off+n->T ≠ .sp 1 s j)->f T=T):M9 (E.re f) { st with bx:=st.bx.set s (some (Ic cs off (((cs.drop off).take n).map λc:DV×H6=>(c.1,dm c.2)))) } a w.heap:=by
 have Ia:f .U0=.U0:=hf _ (by simp);have RN:f .other=.other:=hf _ (by simp);have P:Pr (λT=>∃j,off<=j/\j<off+n/\T=.sp 1 s j) E w.heap (E.re f) w.heap:=Pr.re λT hT=>hf T λj h1 h2 h3=>hT ⟨j,h1,h2,h3⟩;have M3:AZ E.S w.heap (E.re f).S w.heap:=NA Ia;have hl:(((cs.drop off).take n).map λc:DV×H6=>(c.1,dm c.2)).length=n:=by simp;omega
 refine⟨Rl.size,Rl.Ba,by simp[Rl.Dm],Rl.n,λu v hu=>?_,λs' cs' hs=>?_,λi ob hi=>?_,λb o hb=>?_⟩
 ·exact(Rl.AA u v hu).re Ia RN λb=>hf _ (by simp)
 ·have A62:s<st.bx.length:=by
   rcases zxq s st.bx.length with h1 | h1
   ·exact h1
   ·simp[z1q,znq h1]at hb
  by_cases bR:s=s'
  ·subst bR;simp only[z1q,z4q A62,zAq,D9]at hs;subst hs;obtain⟨cv,T,h1,h2,h3,h4⟩:=Rl.Ad s cs hb;refine⟨cv,T,h1,by rw[Nk (by omega)];exact h2,λo=>?_,λj r v hr hv=>?_⟩
   ·rcases h3 o with h5 | h5
    ·left;simp only[Env.re];rw[h5];exact hf _ (by simp)
    ·exact .inr h5
   ·rw[Rb (by omega),hl]at hr;by_cases hj:off<=j/\j<off+n
    ·rw[D5 hj,zbq,z7q (by omega),zdq,zaq]at hr;obtain⟨c,UO,rfl⟩:=hr;rw[show off+(j-off)=j by omega]at UO;obtain⟨a1,a2,a3,a4⟩:=h4 j c v UO hv;have a5:O0 E w.heap .other c.1 (dm c.2) v:=a4.Ci a3;exact⟨a1,a2,(Su.Ci a3).2.1,(a5.re Ia RN:O0 (E.re f) w.heap .other c.1 (dm c.2) v).tag (Su.Ci a3).2.2⟩
    ·rw[C8 hj]at hr;obtain⟨a1,a2,a3,a4⟩:=h4 j r v hr hv;exact⟨a1,a2,a3,a4.re Ia (hf _ λj' q1 q2 he=>by simp only[Tag.sp.injEq,true_and]at he;exact hj (by omega))⟩
  ·simp only[z1q,z5q bR]at hs;have:=Rl.Ad s' cs' (by simpa[z1q]using hs);exact this.mono P M3 (by simp) (by rintro j ⟨j',-,-,h⟩;simp only[Tag.sp.injEq,true_and]at h;exact bR h.1.symm)
 ·exact(Rl.V8 i ob hi).mono P M3 (by rw[<- Rl.n];exact(z0q.1 hi).1) (by simp) (by simp)
 ·simp only[Env.re];rw[Rl.fresh b o hb,RN]
def M9.B9f(Rl:M9 E st a w.heap){s:Nat}{c:DV×H6}(hb:st.bx.getD s none=some cs)(UO:cs[off]?=some c){f:Tag->Tag}(hf:∀T,T ≠ .sp 1 s off->f T=T):M9 (E.re f) { st with bx:=st.bx.set s (some (cs.set off (c.1,dm c.2))) } a w.heap:=by
 have Ia:f .U0=.U0:=hf _ (by simp);have RN:f .other=.other:=hf _ (by simp);have P:Pr (λT=>T=.sp 1 s off) E w.heap (E.re f) w.heap:=Pr.re λT hT=>hf T hT;have M3:AZ E.S w.heap (E.re f).S w.heap:=NA Ia;refine⟨Rl.size,Rl.Ba,by simp[Rl.Dm],Rl.n,λu v hu=>?_,λs' cs' hs=>?_,λi ob hi=>?_,λb o hb=>?_⟩
 ·exact(Rl.AA u v hu).re Ia RN λb=>hf _ (by simp)
 ·have A62:s<st.bx.length:=by
   rcases zxq s st.bx.length with h1 | h1
   ·exact h1
   ·simp[z1q,znq h1]at hb
  by_cases bR:s=s'
  ·subst bR;simp only[z1q,z4q A62,zAq,D9]at hs;subst hs;obtain⟨cv,T,h1,h2,h3,h4⟩:=Rl.Ad s cs hb;refine⟨cv,T,h1,by simpa using h2,λo=>?_,λj r v hr hv=>?_⟩
   ·rcases h3 o with h5 | h5
    ·left;simp only[Env.re];rw[h5];exact hf _ (by simp)
    ·exact .inr h5
   ·by_cases hj:off=j
    ·subst hj;have P8:=(z0q.1 UO).1;rw[z4q P8]at hr;simp only[D9]at hr;subst hr;obtain⟨a1,a2,a3,a4⟩:=h4 off c v UO hv;have a5:O0 E w.heap .other c.1 (dm c.2) v:=a4.Ci a3;exact⟨a1,a2,(Su.Ci a3).2.1,(a5.re Ia RN:O0 (E.re f) w.heap .other c.1 (dm c.2) v).tag (Su.Ci a3).2.2⟩
    ·rw[z5q hj]at hr;obtain⟨a1,a2,a3,a4⟩:=h4 j r v hr hv;exact⟨a1,a2,a3,a4.re Ia (hf _ (by simp;exact λh=>hj h.symm))⟩
  ·simp only[z1q,z5q bR]at hs;have:=Rl.Ad s' cs' (by simpa[z1q]using hs);exact this.mono P M3 (by simp) (by simp;intro h;exact absurd h.symm bR)
 ·exact(Rl.V8 i ob hi).mono P M3 (by rw[<- Rl.n];exact(z0q.1 hi).1) (by simp) (by simp)
 ·simp only[Env.re];rw[Rl.fresh b o hb,RN]
def M9.B51(Rl:M9 E st a w.heap)(hb:st.sg[i]?=some (.box cs))(UO:cs[off]?=some (d,m))(hm:m=.full\/m=.own){f:Tag->Tag}(hf:∀T,T ≠ .sp 2 i off->f T=T):M9 (E.re f) { st with sg:=st.sg.set i (.box (cs.set off (d,.val))) } a w.heap:=by
 have Ia:f .U0=.U0:=hf _ (by simp);have RN:f .other=.other:=hf _ (by simp);have P:Pr (λT=>T=.sp 2 i off) E w.heap (E.re f) w.heap:=Pr.re λT hT=>hf T hT;have M3:AZ E.S w.heap (E.re f).S w.heap:=NA Ia;have Kq:=(z0q.1 hb).1;refine⟨Rl.size,Rl.Ba,Rl.Dm,by simpa[Env.re]using Rl.n,λu v hu=>?_,λs' cs' hs=>?_,λi' ob hi=>?_,λb o hb=>?_⟩
 ·exact(Rl.AA u v hu).re Ia RN λb=>hf _ (by simp)
 ·exact(Rl.Ad s' cs' hs).mono P M3 (by simp) (by simp)
 ·by_cases EE:i=i'
  ·subst EE;simp only[z4q Kq,D9]at hi;subst hi;obtain⟨cv,T,h1,h2,h3,h4⟩:=Rl.V8 i _ hb;refine⟨cv,T,h1,by simpa using h2,λo=>?_,λj r v hr hv=>?_⟩
   ·rcases h3 o with h5 | h5
    ·left;simp only[Env.re];rw[h5];exact hf _ (by simp)
    ·exact .inr h5
   ·by_cases hj:off=j
    ·subst hj;have P8:=(z0q.1 UO).1;rw[z4q P8]at hr;simp only[D9]at hr;subst hr;obtain⟨a1,a2,a3,a4⟩:=h4 off _ v UO hv;have a5:RV E.S w.heap d v:=sQ (by rcases hm with h | h<;>simp[h]) a4;exact⟨a1,a2,rfl,a5.mono M3⟩
    ·rw[z5q hj]at hr;obtain⟨a1,a2,a3,a4⟩:=h4 j r v hr hv;exact⟨a1,a2,a3,a4.re Ia (hf _ (by simp;exact λh=>hj h.symm))⟩
  ·simp only[z5q EE]at hi;exact(Rl.V8 i' ob hi).mono P M3 (Dc Rl hi) (by simp) (by simp;intro h;exact absurd h.symm EE)
 ·simp only[Env.re];rw[Rl.fresh b o hb,RN]
def Env.PO(E:Env):Env :={ E with base:=λi=>if i=E.n then 0 else E.base i,top:=λi=>if i=E.n then 0 else E.top i,Bj:=λi=>if i=E.n then 1 else E.Bj i,n:=E.n+1 }
def M9.PO(Rl:M9 E st a w.heap){sz:Nat}(hb:st.sg[i]?=some (.box cs))(UO:cs[off]?=some (.list sz [],.full))(hv:O0 E w.heap (.sp 2 i off) (.list sz []) .full v)(hpos:0<sz):
 M9 E.PO { st with sg:=st.sg.set i (.box (cs.set off (.undef,.BF st.sg.length 1 sz 0)))++[.BF 1 sz []] } a w.heap/\Pr (λ_=>False) E w.heap E.PO w.heap/\∀tg,O0 E.PO w.heap tg .undef (.BF st.sg.length 1 sz 0) v:=by
 have hn:=Rl.n;have vE:E.PO.Bj E.n=1:=D5 rfl;have P1:Pr (λ_=>False) E w.heap E.PO w.heap:=by
  refine⟨z8q _,λ_ _=>Y4.refl _ _,λ_ _ _ _=>rfl,Nat.le_succ _,λj hj _=>?_,λ_ _=>rfl,λj hj=>?_⟩
  ·have BS:j≠E.n:=Nat.ne_of_lt hj;refine⟨rfl,?_,?_⟩<;>(show(if _ then _ else _)=_;rw[C8 BS])
  ·have:E.PO.Bj j=E.Bj j:=C8 (Nat.ne_of_lt hj);rw[this];exact⟨id,z8q _,λ_=>rfl⟩
 have M3:=P1.U0 (by simp) Rl.fresh;have key:∀tg,O0 E.PO w.heap tg .undef (.BF st.sg.length 1 sz 0) v:=by
  intro tg;simp only[O0]at hv ⊢;obtain⟨g1,⟨x,m,rfl⟩,-⟩:=hv;obtain⟨b0,len0,cap0,WJ,q1,-,q3,-⟩:=Pf g1;simp only[Value.slice.injEq]at WJ;obtain⟨rfl,rfl,rfl⟩:=WJ;have hm0:m=0:=by simpa using q1
  subst hm0;exact⟨by rw[hn];exact zGq _,by omega,by rw[hn,vE];exact z8q _,x,0,rfl,z8q _,q3,λh=>by omega,λ_ h=>by omega⟩
 have Kq:=(z0q.1 hb).1;refine⟨⟨Rl.size,Rl.Ba,Rl.Dm,by simp[Env.PO,hn],λu v hu=>(Rl.AA u v hu).mono P1 M3 (by simp) (by simp),λs' cs' hs=>(Rl.Ad s' cs' hs).mono P1 M3 (by simp) (by simp),λi' ob hi=>?_,Rl.fresh⟩,P1,key⟩;by_cases P8:i'<st.sg.length
 ·rw[zhq (by simpa using P8)]at hi;by_cases EE:i=i'
  ·subst EE;simp only[z4q Kq,D9]at hi;subst hi;obtain⟨cv,T,h1,h2,h3,h4⟩:=(Rl.V8 i _ hb:RO E w.heap i (.box cs)).mono P1 M3 (Dc Rl hb) (by simp) (by simp);refine⟨cv,T,h1,by simpa using h2,h3,λj r v' hr PN=>?_⟩;by_cases hj:off=j
   ·subst hj;have C8D:=(z0q.1 UO).1;rw[z4q C8D]at hr;simp only[D9]at hr;subst hr;obtain⟨cv0,T0,g1,g2,g3,g4⟩:=Rl.V8 i _ hb;have C8H:E.PO.obj i=E.obj i:=rfl;rw[C8H,g1]at h1;simp only[D9,Obj.cells.injEq]at h1;obtain⟨rfl,-⟩:=h1;obtain⟨a1,a2,a3,a4⟩:=g4 off _ v' UO PN;refine⟨rfl,a2,rfl,?_⟩;simp only[O0]at a4 ⊢;obtain⟨k1,⟨x,m,rfl⟩,-⟩:=a4;obtain⟨b0,len0,cap0,WJ,q1,-,q3,-⟩:=Pf k1;simp only[Value.slice.injEq]at WJ;obtain⟨rfl,rfl,rfl⟩:=WJ;have hm0:m=0:=by simpa using q1
    subst hm0;exact⟨by rw[hn];exact zGq _,by omega,by rw[hn,vE];exact z8q _,x,0,rfl,z8q _,q3,λh=>by omega,λ_ h=>by omega⟩
   ·rw[z5q hj]at hr;exact h4 j r v' hr PN
  ·rw[z5q EE]at hi;exact(Rl.V8 i' ob hi).mono P1 M3 (Dc Rl hi) (by simp) (by simp)
 ·have Na:i'=st.sg.length:=by have:=(z0q.1 hi).1;simp at this;omega
  subst Na;rw[zfq (by simp)]at hi;simp only[zvq,zzq,z3q,D9]at hi;subst hi;simp only[RO];rw[hn];refine⟨vE,by omega,hpos,.inl ⟨trivial,?_⟩⟩;show(if _ then _ else _)=(if _ then _ else _);rw[D5 rfl,D5 rfl]
def Sn(T0:Tag)(t:Nat)(T:Tag):Tag:=if T=T0 then .sp 0 t 0 else T
def xf(s off n t:Nat)(T:Tag):Tag :=
 match T with
 |.sp 1 s' j=>if s'=s/\off<=j/\j<off+n then .sp 0 t (j-off+1)else .sp 1 s' j
 |T=>T
theorem rP{s n t:Nat}{T:Tag}(h:∀j,off<=j->j<off+n->T ≠ .sp 1 s j):xf s off n t T=T:=by
 unfold xf;split
 ·split
  ·rename_i hx;obtain⟨rfl,h1,h2⟩:=hx;exact absurd rfl (h _ h1 h2)
  ·rfl
 ·rfl
def Jq{T0:Tag}{t:Nat}{T:Tag}(h:T≠T0):Sn T0 t T=T:=by simp[Sn,h]
def C2k{fl:I5}{t:TypeId}{y:Operand}(I1:o.op=.load t y)(H:Df C fl o t y st k=some x)(Rl:M9 E st a w.heap)(T:Then E w k x K):Gp C.P o a w K:=by
 unfold Df at H;obtain⟨r,h1,H⟩:=D8 H;obtain⟨z,hz,H⟩:=D8 H;have e1:=Rl.src h1;have Hu:z.2=false->z.1=1:=by obtain⟨i,d,-,-,-,h4⟩:=KV hz;exact h4
 split at H
 ·-- a private variable
  rename_i s off hm;rw[hm]at e1;simp only[RR,O0]at e1;obtain⟨cs,hb,H⟩:=D8 H;obtain⟨M3,H⟩:=O7 H;have B:=Rl.Ad s cs hb;obtain⟨vs,l1,l2,l3⟩:=A1V B M3;obtain⟨v,g1,g2,g3⟩:=Ie (w:=w) hz l1 l2;have U7:=TD I1 e1.2 g1;by_cases h2:z.2=true
  ·rw[D5 h2]at H;simp only at H;by_cases V9:M4 fl.Q6 o.dst=true
   ·rw[D5 V9]at H;cases hd:o.dst with
    |none=>rw[hd]at V9;simp[M4]at V9
    |some t0=>
      rw[hd]at H;refine BM U7 ?_;rw[hd];refine T (E.re (xf s off z.1 t0)) _ _ w H ((Rl.B7s hb M3 λT hT=>rP hT).put λt1 ht=>?_) (Pr.re λT hT=>rP λj _ _ he=>hT (by rw[he];simp[Q4]));simp only[D9]at ht;subst ht;rw[g2 h2];simp only[RR];refine⟨_,_,rfl,rfl,by simp,by simp;omega,λi m d v e1 e2 e3=>?_⟩;simp only[zbq,zaq]at e1 e2;obtain⟨r1,q1,rfl⟩:=e1;obtain⟨r2,q2,rfl⟩:=e2;rw[q1]at q2;simp only[D9]at q2;subst q2;have hi:i<z.1:=by have:=(z0q.1 q1).1;simp only[zgq]at this;omega
      rw[z7q hi,zdq]at q1;obtain⟨a1,a2,a3,a4⟩:=l3 i v r1 (by simpa using e3) q1;exact⟨a1,a2,a3,a4.re (rP (by simp)) (by simp[xf,hi])⟩
   rw[C8 V9]at H;refine X4 U7 H Rl (λt0 _=>?_) @T;rw[g2 h2];have C9J:((cs.drop off).take z.1).length=z.1:=by simp only[zgq,ziq];omega
   have B7X:∀(j:Nat) v r,vs[j]?=some v->((cs.drop off).take z.1)[j]?=some r->M7 r.1=true/\v.oneCell'=true/\w9 r.2=true/\∃tg,O0 E w.heap tg r.1 r.2 v:=by
    intro j v r hv hr;have hj:j<z.1:=by have:=(z0q.1 hr).1;omega
    rw[z7q hj,zdq]at hr;obtain⟨a1,a2,a3,a4⟩:=l3 j v r hv hr;exact⟨a1,a2,a3,_,a4⟩
   split
   ·refine A6Q (by simp only[zEq];omega) (λj v r hv hr=>?_) 0 t0;simp only[zbq,zaq]at hr;obtain⟨r0,hr0,rfl⟩:=hr;obtain⟨a1,a2,a3,tg,a4⟩:=B7X j v r0 hv hr0;exact B5O a1 a2 a3 a4
   ·exact A6Q (by omega) B7X 0 t0
  ·rw[C8 h2]at H;have hv:=g3 (by simpa using h2);subst hv;have P8:off<cs.length:=by have:=Hu (by simpa using h2);omega
   have IZ:cs[off]?=some (cs.getD off (.undef,.val)):=by simp[z1q,z2q P8]
   obtain⟨a1,a2,a3,a4⟩:=l3 0 v _ rfl (by simpa using IZ);simp only[zjq]at a4;split at H
   ·cases hd:o.dst with
    |none=>rename_i V9;rw[hd]at V9;simp[M4]at V9
    |some t0=>rw[hd]at H;refine BM U7 ?_;rw[hd];refine T (E.re (Sn (.sp 1 s off) t0)) _ _ w H ((Rl.B9f hb IZ λT hT=>Jq hT).put λt1 ht=>?_) (Pr.re λT hT=>Jq λhe=>hT (by rw[he];simp[Q4]));simp only[D9]at ht;subst ht;exact RR.Bb (a4.re (Jq (by simp)) (by simp[Sn]))
   ·exact X4 U7 H Rl (λ_ _=>RR.Bb (a4.Ci a3)) @T
 ·-- an element
  rename_i ag sz off hm;rw[hm]at e1;simp only[RR,O0]at e1;obtain⟨b,o0,r1,⟨us,u1,u2,u3⟩,r3⟩:=e1;obtain⟨M3,H⟩:=O7 H;have l2:∀(j:Nat) v,((us.drop off).take z.1)[j]?=some v->hc w.heap b (o0+off+j)=some v:=by
   intro j v hv;have hj:j<z.1:=by have:=(z0q.1 hv).1;simp only[zgq,ziq]at this;omega
   rw[z7q hj,zdq]at hv;rw[zlq];exact(u2 _ v hv).1
  obtain⟨v,g1,g2,g3⟩:=Ie (w:=w) hz (vs:=(us.drop off).take z.1) (by simp only[zgq,ziq];omega) l2;have U7:=TD I1 r1 g1;by_cases h2:z.2=true
  ·rw[D5 h2]at H;obtain⟨hag,H⟩:=I9 H;refine Ar U7 H Rl ?_ @T;rw[g2 h2];simp only[RV];exact⟨_,rfl,A1W u3 (by omega)⟩
  ·rw[C8 h2]at H;have hv:=g3 (by simpa using h2);have P8:off<us.length:=by have:=Hu (by simpa using h2);omega
   have vR:us[off]?=some v:=by have:=congrArg (λl:List Value=>l[0]?) hv;simp only[z3q]at this;rw[z7q (by have:=Hu (by simpa using h2);omega),zdq,zjq]at this;exact this
   refine Ar U7 H Rl ?_ @T;split
   ·obtain⟨q1,q2⟩:=Sc u3 vR;exact Qr q1 q2
   ·rename_i hag;have hl:=r3 (by simpa using hag);obtain⟨u,rfl⟩:=NN hl u3;have lZ:off=0:=by simp at P8;omega
    subst lZ;simp only[z3q,D9]at vR;subst vR;exact Qr hl u3
 ·-- a shared variable
  rename_i i off hm;rw[hm]at e1;simp only[RR,O0]at e1;obtain⟨cs,hb,H⟩:=D8 H;have hb:=yK hb;have B:=Rl.V8 i _ hb;simp only[RO]at B;have one:∀(n:Nat) c,cs[n]?=some c->n<cs.length:=λn c hc=>(z0q.1 hc).1;by_cases h2:z.2=true
  ·rw[D5 h2]at H;obtain⟨hz0,H⟩:=I9 H;obtain⟨ds,pI,H⟩:=D8 H;obtain⟨d1,d2⟩:=A6F pI;have C9I:z.1≠0:=by simpa using hz0
   have M3:off+z.1<=cs.length:=by have:=d2 (z.1-1) _ (z2q (by omega));obtain⟨m,hm,-⟩:=je this;have:=one _ _ hm;omega
   obtain⟨vs,l1,l2,l3⟩:=A1V B M3;obtain⟨v,g1,g2,g3⟩:=Ie (w:=w) hz l1 l2;refine Ar (TD I1 e1.2 g1) H Rl ?_ @T;rw[g2 h2];simp only[RV];refine⟨_,rfl,Gr.2 ⟨by simp only[d1];omega,λj d v hd hv=>?_⟩⟩;obtain⟨m,hcm,hm⟩:=je (d2 j d hd);obtain⟨a1,a2,a3,a4⟩:=l3 j v _ (by simpa using hv) hcm;exact⟨a1,Qq a1 a2 (sQ hm a4)⟩
  ·rw[C8 h2]at H;have xq:=Hu (by simpa using h2);have fin:∀c,cs[off]?=some c->∃v,(execOp a.eval o).run C.P w=.ok (.value v) w/\M7 c.1=true/\v.oneCell'=true/\w9 c.2=true/\O0 E w.heap (.sp 2 i off) c.1 c.2 v:=by
    intro c hc;have M3:off+z.1<=cs.length:=by have:=one _ _ hc;omega
    obtain⟨vs,l1,l2,l3⟩:=A1V B M3;obtain⟨v,g1,g2,g3⟩:=Ie (w:=w) hz l1 l2;have hv:=g3 (by simpa using h2);subst hv;exact⟨v,TD I1 e1.2 g1,by simpa using l3 0 v c rfl (by simpa using hc)⟩
   split at H
   ·obtain⟨j,hj,H⟩:=D8 H;unfold Vy at hj;split at hj<;>simp only[D9,reduceCtorEq]at hj;rename_i hc;subst hj;obtain⟨v,f1,f2,f3,f4,f5⟩:=fin _ hc;exact X4 f1 H Rl (λ_ _=>RR.Bb (by simp only[O0]at f5 ⊢;exact f5)) @T
   ·obtain⟨j,hj,H⟩:=D8 H;unfold tC at hj;split at hj<;>simp only[D9,reduceCtorEq]at hj;rename_i hc;subst hj;obtain⟨v,f1,f2,f3,f4,f5⟩:=fin _ hc;exact X4 f1 H Rl (λ_ _=>RR.Bb (by simp only[O0]at f5 ⊢;exact f5)) @T
   ·by_cases hvr:M4 fl.C2G o.dst=true
    ·rw[D5 hvr]at H;obtain⟨e,he,H⟩:=D8 H;obtain⟨ze,lu,H⟩:=D8 H;obtain⟨q,hq,H⟩:=D8 H;unfold tF at hq;split at hq<;>try cases hq
     rename_i hc;obtain⟨X_,gD⟩:=O7 hq;subst X_;simp only[D9]at gD;subst gD;obtain⟨v,f1,f2,f3,f4,f5⟩:=fin _ hc;exact X4 f1 H Rl (λ_ _=>RR.Bb (by simp only[O0]at f5 ⊢;exact f5)) @T
    rw[C8 hvr]at H;by_cases UT:M4 fl.Hf o.dst=true
    ·rw[D5 UT]at H;obtain⟨e,he,H⟩:=D8 H;obtain⟨ze,lu,H⟩:=D8 H;obtain⟨q,hq,H⟩:=D8 H;unfold iR at hq;split at hq
     ·rename_i d0 j n sz' len hc;obtain⟨X_,gD⟩:=O7 hq;subst X_;simp only[D9]at gD;subst gD;obtain⟨v,f1,f2,f3,f4,f5⟩:=fin _ hc;exact X4 f1 H Rl (λ_ _=>RR.Bb (by simp only[O0]at f5 ⊢;exact f5)) @T
     ·rename_i sz' hc;obtain⟨⟨X_,hpos⟩,gD⟩:=O7 hq;subst X_;simp only[D9]at gD;subst gD;obtain⟨v,f1,f2,f3,f4,f5⟩:=fin _ hc;obtain⟨R1,P1,R2⟩:=Rl.PO hb hc f5 hpos;exact BM f1 (T (E.PO) _ _ w H (R1.put λt1 _=>RR.Bb (R2 _)) (P1.Au (by simp)))
     ·cases hq
    ·rw[C8 UT]at H;by_cases V9:M4 fl.Q6 o.dst=true
     ·rw[D5 V9]at H;obtain⟨d,hd,H⟩:=D8 H;have hc:∃m,cs[off]?=some (d,m)/\(m=.full\/m=.own):=by
       unfold Ld at hd;split at hd<;>simp only[D9,reduceCtorEq]at hd<;>subst hd
       ·exact⟨_,‹_›,.inl rfl⟩
       ·exact⟨_,‹_›,.inr rfl⟩
      obtain⟨m,hc,hm⟩:=hc;obtain⟨v,f1,f2,f3,f4,f5⟩:=fin _ hc;cases Il:o.dst with
      |none=>rw[Il]at V9;simp[M4]at V9
      |some t0=>
        rw[Il]at H;refine BM f1 ?_;rw[Il];refine T (E.re (Sn (.sp 2 i off) t0)) _ _ w H ((Rl.B51 hb hc hm λT hT=>Jq hT).put λt1 ht=>?_) (Pr.re λT hT=>Jq λhe=>hT (by rw[he];simp[Q4]));simp only[D9]at ht;subst ht;have f6:O0 (E.re (Sn (.sp 2 i off) t0)) w.heap (.sp 0 t0 0) d m v:=f5.re (Jq (by simp)) (by simp[Sn]);rcases hm with rfl | rfl
        ·-- a slice that ends where its memory does owns what lies behind: nothing
         exact RR.Bb f6.xe
        ·exact RR.Bb f6
     ·rw[C8 V9]at H;obtain⟨d,hd,H⟩:=D8 H;obtain⟨m,hc,hm⟩:=je hd;obtain⟨v,f1,f2,f3,f4,f5⟩:=fin _ hc;exact Ar f1 H Rl (sQ hm f5) @T
 ·-- an element of a writable array
  rename_i i sz idx off hm;rw[hm]at e1;simp only[RR,O0]at e1;obtain⟨p,hp,H⟩:=D8 H;obtain⟨d,hd,H⟩:=D8 H;obtain⟨Ak,H⟩:=I9 H;obtain⟨M3,H⟩:=O7 H;have hp:=iM hp;have Ak:p.1=sz:=by simpa using Ak
  rw[Ak]at hp;have B:=Rl.V8 i _ hp;simp only[RO]at B;have hne:p.2≠[]:=by intro h;rw[h]at hd;simp at hd
  obtain⟨c,TT,b1,b2,b3,b4,b5⟩:=B hne;obtain⟨us,u1,u2,u3⟩:=b5 idx d hd;have l2:∀(j:Nat) v,((us.drop off).take z.1)[j]?=some v->hc w.heap (E.obj i) (E.base i+idx * sz+off+j)=some v:=by
   intro j v hv;have hj:j<z.1:=by have:=(z0q.1 hv).1;simp only[zgq,ziq]at this;omega
   rw[z7q hj,zdq]at hv;rw[zlq];unfold hc;rw[b1];exact u2 _ v hv
  obtain⟨v,g1,g2,g3⟩:=Ie (w:=w) hz (vs:=(us.drop off).take z.1) (by simp only[zgq,ziq];omega) l2;have U7:=TD I1 e1.2 g1;by_cases h2:z.2=true
  ·rw[D5 h2]at H;refine Ar U7 H Rl ?_ @T;rw[g2 h2];simp only[RV];exact⟨_,rfl,A1W u3 (by omega)⟩
  ·rw[C8 h2]at H;have hv:=g3 (by simpa using h2);have xq:=Hu (by simpa using h2);have vR:us[off]?=some v:=by have:=congrArg (λl:List Value=>l[0]?) hv;simp only[z3q]at this;rw[z7q (by omega),zdq,zjq]at this;exact this
   split at H
   ·obtain⟨hl,H⟩:=I9 H;refine Ar U7 H Rl ?_ @T;obtain⟨u,rfl⟩:=NN hl u3;have lZ:off=0:=by have:=(z0q.1 vR).1;simp at this;omega
    subst lZ;simp only[z3q,D9]at vR;subst vR;exact Qr hl u3
   ·refine Ar U7 H Rl ?_ @T;obtain⟨q1,q2⟩:=Sc u3 vR;exact Qr q1 q2
 ·-- an element of a vector
  rename_i i n sz idx off hm;rw[hm]at e1;simp only[RR,O0]at e1;obtain⟨p,hp,H⟩:=D8 H;obtain⟨d,hd,H⟩:=D8 H;obtain⟨Ak,H⟩:=I9 H;obtain⟨M3,H⟩:=O7 H;have hp:=iN hp;have Ak:p.1=sz:=by simpa using Ak
  rw[Ak]at hp;have B:=Rl.V8 i _ hp;simp only[RO]at B;obtain⟨bv,b0,b3,B⟩:=B;have hne:p.2≠[]:=by intro h;rw[h]at hd;simp at hd
  obtain⟨c,TT,ff,b1,b2,b2',b4,b5⟩:=B.resolve_left λh=>hne h.1;obtain⟨-,-,-,eb,ep,ev,ex⟩:=e1;obtain⟨rfl,rfl⟩:=ex bv;obtain⟨us,u1,u2,u3⟩:=b5 idx d hd;have l2:∀(j:Nat) v,((us.drop off).take z.1)[j]?=some v->hc w.heap (E.obj i) (E.base i+idx * sz+off+j)=some v:=by
   intro j v hv;have hj:j<z.1:=by have:=(z0q.1 hv).1;simp only[zgq,ziq]at this;omega
   rw[z7q hj,zdq]at hv;rw[zlq];unfold hc;rw[b1];exact u2 _ v hv
  obtain⟨v,g1,g2,g3⟩:=Ie (w:=w) hz (vs:=(us.drop off).take z.1) (by simp only[zgq,ziq];omega) l2;have U7:=TD I1 ev g1;by_cases h2:z.2=true
  ·rw[D5 h2]at H;refine Ar U7 H Rl ?_ @T;rw[g2 h2];simp only[RV];exact⟨_,rfl,A1W u3 (by omega)⟩
  ·rw[C8 h2]at H;have hv:=g3 (by simpa using h2);have xq:=Hu (by simpa using h2);have vR:us[off]?=some v:=by have:=congrArg (λl:List Value=>l[0]?) hv;simp only[z3q]at this;rw[z7q (by omega),zdq,zjq]at this;exact this
   split at H
   ·obtain⟨hl,H⟩:=I9 H;refine Ar U7 H Rl ?_ @T;obtain⟨u,rfl⟩:=NN hl u3;have lZ:off=0:=by have:=(z0q.1 vR).1;simp at this;omega
    subst lZ;simp only[z3q,D9]at vR;subst vR;exact Qr hl u3
   ·refine Ar U7 H Rl ?_ @T;obtain⟨q1,q2⟩:=Sc u3 vR;exact Qr q1 q2
 ·simp at H
end
end Go.Su

/-
 THE DATA MACHINE, part 12: variables made; values and slices built.
-/
namespace Go.Su
set_option linter.defProp false
variable {h:Heap}{ob:Obj}
def C18{b:Nat}(hb:b<h.size):(h.push ob)[b]?=h[b]?:=by rw[Array.getElem?_push_lt hb,zsq hb]
def Og:(h.push ob)[h.size]?=some ob:=by simp
variable {E:Env}
def Pr.push{ch:Tag->Prop}{E':Env}(ht:∀b o,b<h.size->¬ch (E.O b o)->E'.O b o=E.O b o)(hn:E.n<=E'.n)(ho:∀i,i<E.n->E'.Bj i=E.Bj i->E'.obj i=E.obj i/\E'.base i=E.base i/\E'.top i=E.top i)(hb:∀s,¬ch (.Vo s)->E'.blk s=E.blk s)(hv:B2U ch E E'):Pr ch E h E' (h.push ob) :=⟨by simp,λb P8=>by rw[C18 P8];exact Y4.refl _ _,ht,hn,ho,hb,hv⟩
def A3x{c:Array Value}{T:TypeId}{f:Nat×Nat}(o:Nat):hc (h.push (.cells c T f)) h.size o=c[o]?:=by unfold hc;rw[Og]
def A6y{d:DV}(h:J7 d=true):M7 d=true:=by cases d<;>simp_all[J7,M7]
variable {v:Value}
def A83{S:AL}{d:DV}(hc:J7 d=true)(H:RV S h d v):v.oneCell'=true:=by
 cases d<;>simp only[J7]at hc<;>try contradiction
 ·rw[Cc]at H;subst H;rfl
 ·rw[Pe]at H;subst H;rfl
 ·rw[ai]at H;subst H;rfl
 ·obtain⟨a,len,cap,rfl,-⟩:=Pf H;rfl
 ·simp only[RV]at H;subst H;rfl
 ·rename_i sz d;exact Lu (d:=.P_ sz d) rfl (by simpa only[RV]using H)
variable (E:Env)(h:Heap)
def Et(tg:Tag)(r:DV×H6)(v:Value):Prop :=M7 r.1=true/\v.oneCell'=true/\w9 r.2=true/\O0 E h tg r.1 r.2 v
variable {X:Type}{E:Env}{h:Heap}{x:X}
def au{k a:Nat}{r:DV×H6}{K:DV×H6->Option X}(R:RR E h k a r.1 r.2 v)(H:cellOf r K=some x):
 ∃c,K c=some x/\c.2=r.2/\Et E h (.sp k a 0) c v:=by
 unfold cellOf at H;split at H
 ·rename_i hm;rw[hm]at R;obtain⟨hc,H⟩:=I9 H;exact⟨_,H,hm.symm,A6y hc,A83 hc R,rfl,R⟩
 ·rename_i hm;rw[hm]at R;simp only[RR,O0]at R;obtain⟨r1,⟨p,n,rfl⟩,sz,ds,r2⟩:=R;exact⟨_,H,hm.symm,by rw[r2];rfl,rfl,rfl,r1,⟨_,_,rfl⟩,_,_,r2⟩
 ·rename_i hm;rw[hm]at R;simp only[RR,O0]at R;obtain⟨r1,sz,ds,r2,r3⟩:=R;refine⟨_,H,hm.symm,by rw[r2];rfl,?_,rfl,r1,sz,ds,r2,r3⟩;rw[r2]at r1;obtain⟨a,len,cap,rfl,-⟩:=Pf r1;rfl
 ·rename_i hm;rw[hm]at R;obtain⟨-,rfl⟩:=(R:_/\_);exact⟨_,H,hm.symm,rfl,rfl,rfl,rfl,rfl⟩
 ·obtain⟨hm,H⟩:=I9 H;refine⟨_,H,rfl,?_⟩;have n1:r.2 ≠ .val:=by intro h;simp_all
  have n2:r.2 ≠ .full:=by intro h;simp_all
  have n3:r.2 ≠ .own:=by intro h;simp_all
  have n4:r.2 ≠ .FZ:=by intro h;simp_all
  revert R hm n1 n2 n3 n4;generalize r.2=m;intro R hm n1 n2 n3 n4;cases m<;>simp only[w9]at hm<;>simp only[RR,O0]at R<;>try contradiction
  case ptr i o=>obtain⟨r1,rfl⟩:=R;exact⟨rfl,rfl,rfl,r1,rfl⟩
  case map i=>obtain⟨r1,rfl⟩:=R;exact⟨rfl,rfl,rfl,r1,rfl⟩
  case Tv=>subst R;exact⟨rfl,rfl,rfl,rfl⟩
  case arr i sz off len=>obtain⟨r1,p,cap,rfl,r2⟩:=R;exact⟨rfl,rfl,rfl,r1,_,_,rfl,r2⟩
  case BF i n sz len=>obtain⟨r1,r2,r3,p,cap,rfl,r4⟩:=R;exact⟨rfl,rfl,rfl,r1,r2,r3,_,_,rfl,r4⟩
  case fn f caps=>obtain⟨rfl,r2⟩:=R;exact⟨rfl,rfl,rfl,rfl,r2⟩
def JA(E:Env)(h:Heap)(cs:List (DV×H6))(vs:List Value):Prop :=cs.length=vs.length/\∀(j:Nat) r v,cs[j]?=some r->vs[j]?=some v->Et E h .other r v/\r.2 ≠ .own
def B5r:∀{ds:List DV}{ms:List H6}{j:Nat}{r:DV×H6},(yz ds ms)[j]?=some r->ds[j]?=some r.1/\ms[j]?=some r.2
 |d::ds,m::ms,0,r,h=>by simp only[yz,z3q,D9]at h;subst h;simp
 |d::ds,m::ms,j+1,r,h=>by simp only[yz,zeq]at h ⊢;exact B5r h
 |[],ms,j,r,h=>by simp[yz]at h
 |d::ds,[],j,r,h=>by simp[yz]at h
theorem r_:∀{ds:List DV}{ms:List H6},ds.length=ms.length->(yz ds ms).length=ds.length
 |d::ds,m::ms,h=>by simp only[yz,zDq];rw[r_ (by simpa using h)]
 |[],[],_=>rfl
def NR(n o:Nat)(d:DV):(cells n o d).length=n:=by simp[cells]
def B00{n o j:Nat}{d e:DV}(h:(cells n o d)[j]?=some e):j<n/\e=A7 (o+j) d:=by
 have hj:j<n:=by have:=(z0q.1 h).1;simpa[cells]using this
 simp only[cells,zbq,zIq hj,zqq,D9]at h;exact⟨hj,h.symm⟩
def A7s(E:Env)(h:Heap)(k a:Nat)(cs:List (DV×H6))(vs:List Value):Prop :=cs.length=vs.length/\∀(j:Nat) r v,cs[j]?=some r->vs[j]?=some v->Et E h (.sp k a (j+1)) r v
def Et.strip{tg tg':Tag}{r:DV×H6}(H:Et E h tg r v):Et E h tg' (r.1,dm r.2) v/\dm r.2 ≠ .own :=⟨⟨H.1,H.2.1,(Su.Ci H.2.2.1).2.1,H.2.2.2.Ci H.2.2.1⟩,(Su.Ci H.2.2.1).2.2⟩
variable {cs:List (DV×H6)}{vs:List Value}
def A7s.strip{k a:Nat}(H:A7s E h k a cs vs):JA E h (cs.map λc=>(c.1,dm c.2)) vs:=by refine⟨by simpa using H.1,λj r v hr hv=>?_⟩;simp only[zbq,zaq]at hr;obtain⟨c,hc,rfl⟩:=hr;exact(H.2 j c v hc hv).strip
def B0Z{z:Nat}{k a:Nat}{r:DV×H6}(R:RR E h k a r.1 r.2 v)(hg:E5 z r.1=true)(IP:tH z r=some cs):
 cs.length=z/\A7s E h k a cs v.cells.toList:=by
 unfold tH at IP;split at IP
 ·rename_i hm;simp only[D9]at IP;subst IP;rw[hm]at R;obtain⟨vs,rfl,Ak,hR⟩:=A1X hg R;refine⟨by simp[NR],by simp[NR,Value.cells,Ak],λj r' u hr hu=>?_⟩;simp only[zbq,zaq]at hr;obtain⟨d,hd,rfl⟩:=hr;obtain⟨hj,rfl⟩:=B00 hd;obtain⟨q1,q2⟩:=Sc hR (j:=0+j) (v:=u) (by simpa[Value.cells]using hu);exact⟨q1,Lu q1 q2,rfl,Qr q1 q2⟩
 ·rename_i ms hm;obtain⟨hl,IP⟩:=O7 IP;simp only[D9]at IP;subst IP;rw[hm]at R;simp only[RR]at R;obtain⟨ds,vs,hd,rfl,l1,l2,l3⟩:=R;refine⟨by rw[r_ (by rw[NR,hl])];exact NR _ _ _,by rw[r_ (by rw[NR,hl]),NR];simp[Value.cells];omega,λj r' u hr hu=>?_⟩;obtain⟨hr1,hr2⟩:=B5r hr;obtain⟨hj,hr1⟩:=B00 hr1;have P8:j<ds.length:=by omega
  have hdj:ds[j]?=some r'.1:=by rw[hr1,hd];simp[A7,z1q,z2q P8]
  obtain⟨a1,a2,a4,a5⟩:=l3 j r'.2 r'.1 u hr2 hdj (by simpa[Value.cells]using hu);exact⟨a1,a2,a4,a5⟩
 ·simp at IP
variable {P:Program}{t:TypeId}
def gq{z:Nat×Bool}(hz:tz P t=some z){k a:Nat}{r:DV×H6}{K:List (DV×H6)->Option X}(R:RR E h k a r.1 r.2 v)(H:JJ P t r K=some x):
 ∃cs,K cs=some x/\cs.length=z.1/\JA E h cs v.cells.toList:=by
 unfold JJ at H;obtain⟨z',X_,H⟩:=D8 H;rw[hz]at X_;simp only[D9]at X_;subst X_;split at H
 ·obtain⟨hg,H⟩:=I9 H;obtain⟨cs,IP,H⟩:=D8 H;obtain⟨l1,l2⟩:=B0Z R hg IP;exact⟨_,H,by simpa using l1,l2.strip⟩
 ·rename_i hz2;obtain⟨c,H,hm,A_⟩:=au R H;have Hu:z.1=1:=by obtain⟨i,d,-,-,-,h4⟩:=KV hz;exact h4 (by simpa using hz2)
  have hv:v.cells=#[v]:=by have:=A_.2.1;cases v<;>first | rfl | (simp[Value.oneCell']at this)
  refine⟨_,H,Hu.symm,by simp[hv],λj r' u hr hu=>?_⟩;rw[hv]at hu;cases j with
  |succ j=>simp at hr
  |zero=>simp only[z3q,D9]at hr hu;subst hr hu;exact A_.strip
def B3i{n:Nat}{r:DV×H6}(h:tH n r=some cs)(hr:∀ms,r.2 ≠ .FW ms):∀c∈cs,c.2 ≠ .own:=by
 unfold tH at h;split at h
 ·simp only[D9]at h;subst h;intro c hc;obtain⟨d,-,rfl⟩:=List.mem_map.1 hc;simp
 ·rename_i ms hm;exact absurd hm (hr ms)
 ·cases h
def A54{z:Nat×Bool}(hz:tz P t=some z){k a:Nat}{r:DV×H6}{K:List (DV×H6)->Option X}(R:RR E h k a r.1 r.2 v)(H:Kl P t r K=some x):
 ∃cs,K cs=some x/\cs.length=z.1/\A7s E h k a cs v.cells.toList/\((∀ms,r.2 ≠ .FW ms)->∀c∈cs,c.2 ≠ .own):=by
 unfold Kl at H;obtain⟨z',X_,H⟩:=D8 H;rw[hz]at X_;simp only[D9]at X_;subst X_;split at H
 ·obtain⟨hg,H⟩:=I9 H;obtain⟨cs,IP,H⟩:=D8 H;obtain⟨l1,l2⟩:=B0Z R hg IP;exact⟨_,H,l1,l2,B3i IP⟩
 ·rename_i hz2;obtain⟨c,H,hm,A_⟩:=au R H;have Hu:z.1=1:=by obtain⟨i,d,-,-,-,h4⟩:=KV hz;exact h4 (by simpa using hz2)
  have hv:v.cells=#[v]:=by have:=A_.2.1;cases v<;>first | rfl | (simp[Value.oneCell']at this)
  refine⟨_,H,Hu.symm,⟨by simp[hv],λj r' u hr hu=>?_⟩,λ_ c' hc'=>by simp only[List.mem_singleton]at hc';subst hc';exact(Su.Ci A_.2.2.1).2.2⟩;rw[hv]at hu;cases j with
  |succ j=>simp at hr
  |zero=>simp only[z3q,D9]at hr hu;subst hr hu;exact A_.strip.1
def C5k{r:DV×H6}(H:cst P t v=some r):Et E h .other r v/\r.2 ≠ .own:=by have R:RR E h 0 0 r.1 r.2 v:=A8q H 0 0;unfold cst at H;split at H<;>simp only[D9,reduceCtorEq]at H<;>subst H<;>exact⟨⟨rfl,rfl,rfl,R⟩,by simp⟩
def A15{P:Program}{E:Env}{h:Heap}:∀{ts:List TypeId}{vs:List Value}{cs:List (DV×H6)},bA P ts vs=some cs->JA E h cs vs
 |[],[],cs,H=>by simp only[bA,D9]at H;subst H;exact⟨rfl,by simp⟩
 |[],v::vs,cs,H=>by simp[bA]at H
 |t::ts,[],cs,H=>by simp[bA]at H
 |t::ts,v::vs,cs,H=>by
   simp only[bA]at H;obtain⟨r,hr,H⟩:=D8 H;obtain⟨rs,hrs,H⟩:=D8 H;simp only[D9]at H;subst H;obtain⟨l1,l2⟩:=A15 (E:=E) (h:=h) hrs;refine⟨by simp[l1],λj r' u h1 h2=>?_⟩;cases j with
   |zero=>simp only[z3q,D9]at h1 h2;subst h1 h2;exact C5k hr
   |succ j=>simp only[zeq]at h1 h2;exact l2 j r' u h1 h2
def Ud(H:Mf P t=some cs):∃i v,P.info? t=some i/\i.zero=some v/\∀E h,JA E h cs v.cells.toList:=by unfold Mf at H;obtain⟨ts,hts,H⟩:=D8 H;obtain⟨i,hi,H⟩:=D8 H;obtain⟨v,hv,H⟩:=D8 H;exact⟨i,v,hi,hv,λE h=>A15 H⟩
section
variable {X:Type}{C:AB}{R:U1}{o:Oper}{st:St}{k:St->Option X}{x:X}{E:Env}{a:Act}{w:World}{K:Act->World->Prop}{Q:Exit->Act->World->Prop}
def Env.Gs(E:Env)(t0 b n:Nat):Env :={ E with blk:=λs=>if s=t0 then b else E.blk s,O:=λb' o=>if b'=b then(if o<n then .Vo t0 else .other)else if E.O b' o=.Vo t0 then .other else E.O b' o }
def Env.newObj(E:Env)(b n:Nat):Env :={ E with obj:=λi=>if i=E.n then b else E.obj i,base:=λi=>if i=E.n then 0 else E.base i,n:=E.n+1,Bj:=λi=>if i=E.n then 0 else E.Bj i,O:=λb' o=>if b'=b then(if o<n then .obj E.n else .other)else E.O b' o }
def Et.mono{ch:Tag->Prop}{E E':Env}{h':Heap}(H:Pr ch E h E' h')(M3:AZ E.S h E'.S h'){r:DV×H6}(hm:r.2 ≠ .own){tg:Tag}(R:Et E h .other r v):Et E' h' tg r v:=by obtain⟨a1,a2,a3,a4⟩:=R;exact⟨a1,a2,a3,(a4.mono H M3 (λx=>absurd x hm) λs o hl=>by rw[hl]at a3;simp[w9]at a3).tag hm⟩
def M9.newObj{T0:TypeId}(hc:JA E w.heap cs vs)(Rl:M9 E st a w.heap):
 M9 (E.newObj w.heap.size cs.length) { st with sg:=st.sg++[.box cs] } a (w.heap.push (.cells vs.toArray T0))/\Pr (λ_=>False) E w.heap (E.newObj w.heap.size cs.length) (w.heap.push (.cells vs.toArray T0)):=by
 obtain⟨lc,hc⟩:=hc;have P1:Pr (λ_=>False) E w.heap (E.newObj w.heap.size cs.length) (w.heap.push (.cells vs.toArray T0)):=by
  refine Pr.push (λb o hb _=>?_) (by simp[Env.newObj]) (λi hi _=>?_) (λ_ _=>rfl) (iw rfl)
  ·simp only[Env.newObj];rw[C8 (by omega)]
  ·refine⟨?_,?_,rfl⟩<;>simp only[Env.newObj]<;>rw[C8 (by omega)]
 have M3:=P1.U0 (by simp) Rl.fresh;refine⟨⟨Rl.size,Rl.Ba,Rl.Dm,by simp[Env.In,Env.newObj,Rl.n],λt v hv=>(Rl.AA t v hv).mono P1 M3 (by simp) (by simp),λs cs hs=>(Rl.Ad s cs hs).mono P1 M3 (by simp) (by simp),λi ob hi=>?_,λb o hb=>?_⟩,P1⟩
 ·by_cases P8:i<st.sg.length
  ·rw[zhq P8]at hi;exact(Rl.V8 i ob hi).mono P1 M3 (Dc Rl hi) (by simp) (by simp)
  ·have Na:i=st.sg.length:=by have:=(z0q.1 hi).1;simp at this;omega
   subst Na;simp only[zfq (z8q _),zzq,z3q,D9]at hi;subst hi;have hn:=Rl.n;refine⟨vs.toArray,T0,?_,by simp[lc],λo=>?_,λj r v hr hv=>?_⟩
   ·simp only[Env.newObj,hn,H5];exact Og
   ·by_cases ho:o<cs.length
    ·left;simp only[Env.newObj,hn,H5,D5 ho]
    ·right;simp only[zHq];omega
   ·obtain⟨q1,q2⟩:=hc j r v hr (by simpa using hv);exact q1.mono P1 M3 q2
 ·simp only[zBq]at hb;simp only[Env.newObj];rw[C8 (by omega)];exact Rl.fresh b o (by omega)
def M9.Gs{t0:Nat}{T0:TypeId}(lc:cs.length=vs.length)(hc:∀(j:Nat) r v,cs[j]?=some r->vs[j]?=some v->Et E w.heap (.sp 1 t0 j) r v)(Rl:M9 E st a w.heap):
 M9 (E.Gs t0 w.heap.size cs.length) { st with mt:=st.mt.map (MU t0),bx:=st.bx.set t0 (some cs) } a (w.heap.push (.cells vs.toArray T0))/\Pr (λT=>T=.Vo t0) E w.heap (E.Gs t0 w.heap.size cs.length) (w.heap.push (.cells vs.toArray T0)):=by
 have P1:Pr (λT=>T=.Vo t0) E w.heap (E.Gs t0 w.heap.size cs.length) (w.heap.push (.cells vs.toArray T0)):=by
  refine Pr.push (λb o hb hn=>?_) (z8q _) (λi hi _=>⟨rfl,rfl,rfl⟩) (λs hs=>?_) (Ee rfl)
  ·simp only[Env.Gs];rw[C8 (by omega),C8 hn]
  ·simp only[Env.Gs];rw[C8 (by simpa using hs)]
 have M3:=P1.U0 (by simp) Rl.fresh;refine⟨?_,P1⟩
 ·refine⟨Rl.size,by simpa using Rl.Ba,by simpa using Rl.Dm,Rl.n,λt v hv=>?_,λs cs' hs=>?_,λi ob hi=>(Rl.V8 i ob hi).mono P1 M3 (Dc Rl hi) (by simp) (by simp),λb o hb=>?_⟩
  ·have h0:=Rl.AA t v hv;have hg:(St.get { st with mt:=st.mt.map (MU t0),bx:=st.bx.set t0 (some cs) } t)=((st.get t).1,MU t0 (st.get t).2):=by simp only[St.get,z1q,zbq];cases st.mt[t]?<;>rfl
   rw[hg];cases hm:(st.get t).2
   case loc s o=>
    rw[hm]at h0;simp only[RR,O0]at h0;simp only[MU]
    split
    ·rw[h0.1];simp only[RR,O0,RV]
    ·rename_i hne;refine⟨h0.1,?_⟩;rw[h0.2];simp only[Env.Gs];rw[C8 hne]
   all_goals
    rw[hm]at h0;simp only[MU];exact h0.mono P1 M3 (by simp) (by simp)
  ·have A62:t0=s->s<st.bx.length:=by
    intro hts;rcases zxq s st.bx.length with h1 | h1
    ·exact h1
    ·simp[z1q,znq (by simpa using h1:(st.bx.set t0 (some cs)).length<=s)]at hs
   by_cases bR:t0=s
   ·subst bR;simp only[z1q,z4q (A62 rfl),zAq,D9]at hs;subst hs;refine⟨vs.toArray,T0,?_,by simp[lc],λo=>?_,λj r v hr hv=>?_⟩
    ·simp only[Env.Gs,H5];exact Og
    ·by_cases ho:o<cs.length
     ·left;simp only[Env.Gs,H5,D5 ho]
     ·right;simp only[zHq];omega
    ·obtain⟨q1,q2,q3,q4⟩:=hc j r v hr (by simpa using hv);exact⟨q1,q2,q3,q4.mono P1 M3 (λ_=>by simp) λs o hl=>by rw[hl]at q3;simp[w9]at q3⟩
   ·simp only[z1q,z5q bR]at hs;have B:=Rl.Ad s cs' (by simpa[z1q]using hs);have hne:¬s=t0:=λh=>bR h.symm;have:=B.mono P1 M3 (tg:=.Vo s) (by simpa using hne) (by simp);simp only[Env.Gs]at this ⊢;rw[C8 hne];exact this
  ·simp only[zBq]at hb;simp only[Env.Gs];rw[C8 (by omega)];have:=Rl.fresh b o (by omega);rw[this];simp
def A9d{sh:Bool}{T0:TypeId}(hc:JA E w.heap cs vs)(H:k (st.Gh sh o.dst cs)=some x)(hr:(execOp a.eval o).run C.P w=.ok (.value (.pointer (some ⟨w.heap.size,0,none⟩))) (w.alloc (.cells vs.toArray T0)))(Rl:M9 E st a w.heap)(T:Then E w k x K):Gp C.P o a w K:=by
 refine BM hr ?_;obtain⟨lc,hc⟩:=hc;cases hd:o.dst with
 |none=>rw[hd]at H;simp only[St.Gh]at H;have P1:Pr (λ_=>False) E w.heap E (w.heap.push (.cells vs.toArray T0)):=Pr.push (λ_ _ _ _=>rfl) (z8q _) (λ_ _ _=>⟨rfl,rfl,rfl⟩) (λ_ _=>rfl) (Ee rfl);have M3:=P1.U0 (by simp) Rl.fresh;refine T E st _ (w.alloc (.cells vs.toArray T0)) H ?_ (P1.Au (by simp));exact⟨Rl.size,Rl.Ba,Rl.Dm,Rl.n,λt v hv=>(Rl.AA t v hv).mono P1 M3 (by simp) (by simp),λs cs hs=>(Rl.Ad s cs hs).mono P1 M3 (by simp) (by simp),λi ob hi=>(Rl.V8 i ob hi).mono P1 M3 (Dc Rl hi) (by simp) (by simp),λb o hb=>Rl.fresh b o (by simp at hb;omega)⟩
 |some t0=>
   rw[hd]at H;cases sh with
   |true=>
     simp only[St.Gh,H5]at H;have P1:Pr (λ_=>False) E w.heap (E.newObj w.heap.size cs.length) (w.heap.push (.cells vs.toArray T0)):=by
      refine Pr.push (λb o hb _=>?_) (by simp[Env.newObj]) (λi hi _=>?_) (λ_ _=>rfl) (iw rfl)
      ·simp only[Env.newObj];rw[C8 (by omega)]
      ·refine⟨?_,?_,rfl⟩<;>simp only[Env.newObj]<;>rw[C8 (by omega)]
     have M3:=P1.U0 (by simp) Rl.fresh;have R1:M9 (E.newObj w.heap.size cs.length) { st with sg:=st.sg++[.box cs] } a (w.heap.push (.cells vs.toArray T0)):=by
      refine⟨Rl.size,Rl.Ba,Rl.Dm,by simp[Env.In,Env.newObj,Rl.n],λt v hv=>(Rl.AA t v hv).mono P1 M3 (by simp) (by simp),λs cs hs=>(Rl.Ad s cs hs).mono P1 M3 (by simp) (by simp),λi ob hi=>?_,λb o hb=>?_⟩
      ·by_cases P8:i<st.sg.length
       ·rw[zhq P8]at hi;exact(Rl.V8 i ob hi).mono P1 M3 (Dc Rl hi) (by simp) (by simp)
       ·have Na:i=st.sg.length:=by have:=(z0q.1 hi).1;simp at this;omega
        subst Na;simp only[zfq (z8q _),zzq,z3q,D9]at hi;subst hi;have hn:=Rl.n;refine⟨vs.toArray,T0,?_,by simp[lc],λo=>?_,λj r v hr hv=>?_⟩
        ·simp only[Env.newObj,hn,H5];exact Og
        ·by_cases ho:o<cs.length
         ·left;simp only[Env.newObj,hn,H5,D5 ho]
         ·right;simp only[zHq];omega
        ·obtain⟨q1,q2⟩:=hc j r v hr (by simpa using hv);exact q1.mono P1 M3 q2
      ·simp only[zBq]at hb;simp only[Env.newObj];rw[C8 (by omega)];exact Rl.fresh b o (by omega)
     refine T (E.newObj w.heap.size cs.length) _ _ (w.alloc (.cells vs.toArray T0)) H (R1.put λt1 _=>?_) (P1.Au (by simp));refine RR.Bb ⟨by simp[Env.In,Env.newObj,Rl.n],?_⟩;simp only[Env.newObj,Rl.n,H5]
   |false=>simp only[St.Gh,zrq,F9]at H;obtain⟨R1,P1⟩:=Rl.Gs (t0:=t0) (T0:=T0) lc λj r v hr hv=>⟨(hc j r v hr hv).1.1,(hc j r v hr hv).1.2.1,(hc j r v hr hv).1.2.2.1,(hc j r v hr hv).1.2.2.2.tag (hc j r v hr hv).2⟩;refine T (E.Gs t0 w.heap.size cs.length) _ _ (w.alloc (.cells vs.toArray T0)) H (R1.put λt1 ht=>?_) (P1.Au (by rintro T rfl;simp[Q4]));simp only[D9]at ht;subst ht;refine RR.Bb ⟨rfl,?_⟩;simp only[Env.Gs,H5]
end
end Go.Su

/-
 THE DATA MACHINE, part 13: new variables, structs and slices built, maps made, functions made.
-/
namespace Go.Su
set_option linter.defProp false
variable (vs:List Value)(off:Nat)
def yT:∀(cells:Array Value)(n:Nat),off+n+vs.length<=cells.size->∀j,
 ((vs.zipIdx n).foldl (λ(cs:Array Value)(p:Value×Nat)=>cs.setIfInBounds (off+p.2) p.1) cells)[j]?=if off+n<=j/\j<off+n+vs.length then vs[j-(off+n)]? else cells[j]?:=by
 induction vs with
 |nil=>intro cells n _ j;simp only[List.zipIdx_nil,List.foldl_nil,List.length_nil,zjq];rw[C8 (by omega)]
 |cons v vs ih=>
   intro cells n hn j;simp only[zQq,List.foldl_cons,zDq]at hn ⊢;rw[ih _ (n+1) (by simp;omega) j];by_cases h1:j=off+n
   ·subst h1;rw[C8 (by omega),D5 (by omega)];simp only[zzq,z3q];rw[zmq (by omega)]
   ·by_cases h2:off+(n+1)<=j/\j<off+(n+1)+vs.length
    ·rw[D5 h2,D5 (by omega)];rw[show j-(off+n)=(j-(off+(n+1)))+1 from by omega,zeq]
    ·rw[C8 h2,C8 (by omega),ztq (Ne.symm h1)]
def A6K:∀(cells:Array Value)(n:Nat),((vs.zipIdx n).foldl (λ(cs:Array Value)(p:Value×Nat)=>cs.setIfInBounds (off+p.2) p.1) cells).size=cells.size:=by
 induction vs with
 |nil=>intro cells n;simp
 |cons v vs ih=>intro cells n;simp[zQq,ih]
variable (cells:Array Value)
def splice(off:Nat)(v:Value):Array Value:=v.cells.zipIdx.foldl (λcs (c,j)=>cs.setIfInBounds (off+j) c) cells
def B1R(off:Nat)(v:Value):splice cells off v=(v.cells.toList.zipIdx 0).foldl (λ(cs:Array Value)(p:Value×Nat)=>cs.setIfInBounds (off+p.2) p.1) cells:=by unfold splice;rw[<- Array.foldl_toList];simp
variable {off:Nat}
theorem B1f(place:Nat->Option (Nat×Nat))(cells:Array Value)(i:Nat)(v:Value)(rest:List (Nat×Value)){size:Nat}(h1:place i=some (off,size))(h2:v.cells.size=size)(h3:off+size<=cells.size):
 Instr.fill place cells ((i,v)::rest)=Instr.fill place (splice cells off v) rest:=by
 simp only[Instr.fill,h1];rw[C8 (by simp only[h2,ne_eq,not_true_eq_false,zrq,false_or,R4,Bool.or_eq_true,F5];omega)];rfl
def B4f{α β : Type}{f : α->Option β}:∀{l:List α}{r:List β},l.mapM f=some r->∀(i:Nat) y,l[i]?=some y->∃z,f y=some z/\r[i]?=some z
 |[],r,h,i,y,hy=>by simp at hy
 |u::us,r,h,i,y,hy=>by
   simp only[List.mapM_cons,Option.bind_eq_bind,Option.pure_def,Option.bind_eq_some_iff]at h;obtain⟨z,hz,zs,Ya,hr⟩:=h;simp only[D9]at hr;subst hr;cases i with
   |zero=>simp only[z3q,D9]at hy;subst hy;exact⟨z,hz,rfl⟩
   |succ i=>simp only[zeq]at hy ⊢;exact B4f Ya i y hy
section
variable {X:Type}{C:AB}{R:U1}{o:Oper}{st:St}{k:St->Option X}{x:X}{E:Env}{a:Act}{w:World}{K:Act->World->Prop}{Q:Exit->Act->World->Prop}{h:Heap}{arr:Array Value}{v:Value}
def JA.splice{cs xs:List (DV×H6)}(H:JA E h cs arr.toList)(G:JA E h xs v.cells.toList)(M3:off+xs.length<=cs.length):
 JA E h (Ic cs off xs) (Su.splice arr off v).toList:=by
 obtain⟨l1,l2⟩:=H;obtain⟨g1,g2⟩:=G;have l1':cs.length=arr.size:=by simpa using l1
 have g1':xs.length=v.cells.toList.length:=g1;rw[B1R];refine⟨by rw[Nk M3];simp[A6K,l1'],λj r u hr hu=>?_⟩;rw[Rb M3]at hr;have MI:=hu;rw[Array.getElem?_toList,yT _ _ _ _ (by omega)]at MI;simp only[zjq]at MI;by_cases hc:off<=j/\j<off+xs.length
 ·rw[D5 hc]at hr;rw[D5 (by omega)]at MI;exact g2 _ r u hr MI
 ·rw[C8 hc]at hr;rw[C8 (by omega)]at MI;exact l2 j r u hr (by simpa using MI)
def zQ{t:TypeId}{pl:Nat->Option (Nat×Nat)}(hp:∀i q inf,partAt C.P t i=some q->C.P.info? q.1=some inf->pl i=some (q.2,inf.size))(Rl:M9 E st a w.heap)
 {F:List (DV×H6)->Option X}:∀(ps:List (Nat×Operand))(cs:List (DV×H6))(arr:Array Value),Jk C.P t st ps cs F=some x->JA E w.heap cs arr.toList->
 ∃cs' arr',F cs'=some x/\Instr.fill pl arr (ps.map λp=>(p.1,a.eval p.2))=some arr'/\JA E w.heap cs' arr'.toList
 |[],cs,arr,H,G=>⟨cs,arr,H,rfl,G⟩
 | (i,y)::ps,cs,arr,H,G=>by
   simp only[Jk]at H;obtain⟨f,hf,H⟩:=D8 H;obtain⟨r,hr,H⟩:=D8 H;have htz:∃z,tz C.P f.1=some z:=by unfold JJ at H;obtain⟨z,hz,-⟩:=D8 H;exact⟨z,hz⟩
   obtain⟨z,htz⟩:=htz;obtain⟨xs,H,hl,A_⟩:=gq htz (Rl.src hr) H;obtain⟨M3,H⟩:=O7 H;obtain⟨inf,d',BP,-,h2,-⟩:=KV htz;have Ak:z.1=inf.size:=by rw[h2]
   have bO:cs.length=arr.size:=by simpa using G.1
   have UU:(a.eval y).cells.size=inf.size:=by have:=A_.1;simp at this;omega
   obtain⟨cs',arr',q1,q2,q3⟩:=zQ hp Rl ps _ _ H (G.splice A_ M3);refine⟨cs',arr',q1,?_,q3⟩;rw[zUq,B1f _ _ _ _ _ (off:=f.2) (size:=inf.size) (hp i f inf hf BP) UU (by omega)];exact q2
variable {t:TypeId}{ps:Array (Nat×Operand)}
def C0n(I1:o.op=.build t ps)(H:(ob (Mf C.P t) λzs=>ob (places C.P t) λ_=>Jk C.P t st ps.toList zs λcs=>k (st.put o.dst (nY cs).1 (nY cs).2))=some x)(Rl:M9 E st a w.heap)(T:Then E w k x K):Gp C.P o a w K:=by
 obtain⟨zs,Ya,H⟩:=D8 H;obtain⟨pl,YZ,H⟩:=D8 H;obtain⟨inf,zv,BP,TW,A_⟩:=Ud Ya;have fin:∀(pf:Nat->Option (Nat×Nat)),(∀i q inf,partAt C.P t i=some q->C.P.info? q.1=some inf->pf i=some (q.2,inf.size))->
  (∀l,C.P.built t l=Instr.fill pf zv.cells l)->Gp C.P o a w K:=by
  intro pf hp vO;obtain⟨cs,arr,H,B7S,IP⟩:=zQ hp Rl ps.toList zs zv.cells H (A_ E w.heap);have hb:C.P.built t (ps.map λ(i,y)=>(i,a.eval y)).toList=some arr:=by rw[vO,<- B7S];simp
  refine X4 (v:=.agg arr) ?_ H Rl (λt0 _=>?_) @T
  ·simp only[execOp,I1]
   exact Bf (run_build w t _ arr hb)
  ·have:=A6Q (E:=E) (w:=w) (cs:=cs) (vs:=arr.toList) IP.1.symm (λj v r hv hr=>let⟨⟨a1,a2,a3,a4⟩,_⟩:=IP.2 j r v hr hv;⟨a1,a2,a3,_,a4⟩) 0 t0;simpa using this
 unfold places at YZ;split at YZ
 ·rename_i fs hu;refine fin (pl.toArray[·]?) (λi q inf hq BP=>?_) (λl=>by unfold Program.built;simp only[BP,hu,TW,YZ]);simp only[partAt,hu,zaq]at hq;obtain⟨f,hf,rfl⟩:=hq;obtain⟨z,hz,hzi⟩:=B4f YZ i f (by simpa using hf);rw[BP]at hz;simp only[zqq,D9]at hz;subst hz;simpa using hzi
 ·rename_i n e hu;simp only[zaq]at YZ;obtain⟨ie,hie,-⟩:=YZ;refine fin (λi=>some (i * ie.size,ie.size)) (λi q inf hq BP=>?_) (λl=>by unfold Program.built;simp only[BP,hu,TW,hie]);simp only[partAt,hu,hie,zqq,D9]at hq;subst hq;rw[hie]at BP;simp only[D9]at BP;subst BP;rfl
 ·simp at YZ
variable {fl:I5}
def C0m(I1:o.op=.alloc t)(H:(ob (Mf C.P t) λcs=>og (Sd (M4 fl.shared o.dst) o.dst st) (k (st.Gh (M4 fl.shared o.dst) o.dst cs)))=some x)(Rl:M9 E st a w.heap)(T:Then E w k x K):Gp C.P o a w K:=by obtain⟨zs,Ya,H⟩:=D8 H;obtain⟨inf,zv,BP,TW,A_⟩:=Ud Ya;obtain⟨_,H9⟩:=I9 H;refine A9d (A_ E w.heap) H9 (T0:=t) ?_ Rl @T;simp only[execOp,I1];refine Bf ?_;unfold Instr.alloc;simp[zeroValue,typeInfo,BP,TW,newVar,newRow]
def nX(S:AL)(h:Heap)(sz:Nat)(ds:List DV)(arr:Array Value):Prop :=arr.size=ds.length * sz/\∀(i:Nat) d,ds[i]?=some d->∃vs:List Value,vs.length=sz/\(∀(j:Nat) u,vs[j]?=some u->arr[i * sz+j]?=some u)/\RC S h d vs
variable {sz:Nat}
def seg_lt{i j n:Nat}(hi:i<n)(hj:j<sz):i * sz+j<n * sz:=by
 calc i * sz+j<i * sz+sz:=by omega
  _=(i+1) * sz:=by rw[zpq]
  _<=n * sz:=zcq _ hi
def A9y{i i' j j':Nat}(hj:j<sz)(BS:j'<sz)(h:i * sz+j=i' * sz+j'):i=i':=by
 have hpos:0<sz:=by omega
 have h1:(i * sz+j) / sz=i:=by rw[zNq,zRq hpos,zOq hj,zjq]
 have h2:(i' * sz+j') / sz=i':=by rw[zNq,zRq hpos,zOq BS,zjq]
 rw[<- h1,<- h2,h]
def xD{z:Nat×Bool}(Hu:z.2=false->z.1=1){p q:Nat}{r:DV×H6}{F:DV->Option X}(R:RR E h p q r.1 r.2 v)(H:Pi z r F=some x):
 F r.1=some x/\v.cells.size=z.1/\RC E.S h r.1 v.cells.toList:=by
 unfold Pi at H;obtain⟨hd,H⟩:=I9 H;have R1:=R.data hd;by_cases h2:z.2=true
 ·rw[D5 h2]at H;obtain⟨hg,H⟩:=I9 H;obtain⟨vs,rfl,hs,hR⟩:=A1X hg R1;exact⟨H,hs,hR⟩
 ·rw[C8 h2]at H;obtain⟨hc,H⟩:=I9 H;have ho:=A83 hc R1;have hv:v.cells=#[v]:=by cases v<;>first | rfl | (simp[Value.oneCell']at ho)
  refine⟨H,by rw[hv,Hu (by simpa using h2)];rfl,?_⟩;rw[hv];exact Qq (A6y hc) ho R1
variable {ds:List DV}
def nX.splice{i:Nat}{d:DV}(H:nX E.S h sz ds arr)(hi:i<ds.length)(hs:v.cells.size=sz)(hR:RC E.S h d v.cells.toList):
 nX E.S h sz (ds.set i d) (Su.splice arr (i * sz) v):=by
 obtain⟨l1,l2⟩:=H;have Bl:v.cells.toList.length=sz:=by simpa using hs
 have Bp:i * sz+0+v.cells.toList.length<=arr.size:=by rw[l1,Bl,zjq,<- zpq];exact zcq _ hi
 rw[B1R];refine⟨by rw[A6K,l1,zvq],λi' d' FU=>?_⟩;by_cases EE:i=i'
 ·subst EE;rw[z4q hi]at FU;simp only[D9]at FU;subst FU;refine⟨v.cells.toList,Bl,λj u hu=>?_,hR⟩;have hj:j<sz:=by have:=(z0q.1 hu).1;omega
  rw[yT _ _ _ _ Bp,D5 (by omega)];rw[<- hu];congr 1;omega
 ·rw[z5q EE]at FU;obtain⟨us,u1,u2,u3⟩:=l2 i' d' FU;refine⟨us,u1,λj u hu=>?_,u3⟩;have hj:j<sz:=by have:=(z0q.1 hu).1;omega
  rw[yT _ _ _ _ Bp,C8,u2 j u hu];rintro⟨c1,c2⟩;exact EE (A9y (j:=i' * sz+j-i * sz) (j':=j) (by omega) hj (by omega))
variable {P:Program}{y:Operand}
def M9.rZ(Rl:M9 E st a w.heap){r:DV×H6}(H:rZ P t st y=some r):RR E w.heap 0 (vZ y) r.1 r.2 (a.eval y):=by
 unfold Su.rZ at H;split at H
 ·rename_i vs;obtain⟨ts,h1,H⟩:=D8 H;obtain⟨rs,h2,H⟩:=D8 H;obtain⟨hd,H⟩:=I9 H;simp only[D9]at H;subst H;have G:=A15 (E:=E) (h:=w.heap) h2;show RV E.S w.heap (.agg _) (.agg vs);simp only[RV];refine⟨vs,rfl,Gr.2 ⟨by simpa using G.1,λj d u hj hu=>?_⟩⟩;rw[zbq]at hj;cases hr:rs[j]? with
  |none=>rw[hr]at hj;cases hj
  |some r=>rw[hr,zqq,D9]at hj;subst hj;obtain⟨⟨a1,a2,a3,a4⟩,a5⟩:=G.2 j r u hr (by simpa using hu);have eT:=zCq.1 hd r (zuq hr);exact⟨a1,Qq a1 a2 (RR.data (k:=9) (a:=0) eT (RR.Bb (a4.tag a5)))⟩
 ·exact Rl.src H
def A06{e:TypeId}{z:Nat×Bool}(Hu:z.2=false->z.1=1)(Rl:M9 E st a w.heap){F:List DV->Option X}:∀(ps:List (Nat×Operand))(ds:List DV)(arr:Array Value),Jy C.P e z st ps ds F=some x->nX E.S w.heap z.1 ds arr->
 ∃ds' arr',F ds'=some x/\ds'.length=ds.length/\Instr.fill (λi=>some (i * z.1,z.1)) arr (ps.map λp=>(p.1,a.eval p.2))=some arr'/\nX E.S w.heap z.1 ds' arr'
 |[],ds,arr,H,G=>⟨ds,arr,H,rfl,rfl,G⟩
 | (i,y)::ps,ds,arr,H,G=>by
   simp only[Jy]at H;obtain⟨r,hr,H⟩:=D8 H;obtain⟨H,hs,hR⟩:=xD Hu (Rl.rZ hr) H;obtain⟨hi,H⟩:=O7 H;obtain⟨ds',arr',q1,q2,q3,q4⟩:=A06 Hu Rl ps _ _ H (G.splice hi hs hR);refine⟨ds',arr',q1,by simpa using q2,?_,q4⟩;rw[zUq,B1f _ _ _ _ _ (off:=i * z.1) (size:=z.1) rfl hs ?_]
   ·exact q3
   ·rw[G.1,<- zpq];exact zcq _ hi
def Env.Sw(E:Env)(b n:Nat):Env:={ E with O:=λb' o=>if b'=b then(if o<n then .U0 else .other)else E.O b' o }
def x_(E:Env)(h:Heap)(ob:Obj)(n:Nat):Pr (λ_=>False) E h (E.Sw h.size n) (h.push ob):=by refine Pr.push (λb o hb _=>?_) (z8q _) (λ_ _ _=>⟨rfl,rfl,rfl⟩) (λ_ _=>rfl) (Ee rfl);simp only[Env.Sw];rw[C8 (by omega)]
def M9.push{E':Env}{ob:Obj}(Rl:M9 E st a h)(P:Pr (λ_=>False) E h E' (h.push ob))(hn:E'.n=E.n)(hf:∀b o,(h.push ob).size<=b->E'.O b o=.other):M9 E' st a (h.push ob):=by have M3:=P.U0 (by simp) Rl.fresh;exact⟨Rl.size,Rl.Ba,Rl.Dm,by rw[hn];exact Rl.n,λt v hv=>(Rl.AA t v hv).mono P M3 (by simp) (by simp),λs cs hs=>by rw[P.qf s (by simp)];exact(Rl.Ad s cs hs).mono P M3 (by simp) (by simp),λi ob hi=>(Rl.V8 i ob hi).mono P M3 (by rw[<- Rl.n];exact(z0q.1 hi).1) (by simp) (by simp),hf⟩
variable {T0:TypeId}
def B5Z(hf:∀b o,h.size<=b->E.O b o=.other)(H:nX E.S h sz ds arr)(hpos:ds≠[]->0<sz):
 RV (E.Sw h.size arr.size).S (h.push (.cells arr T0)) (.list sz ds) (.slice (some ⟨h.size,0,none⟩) ds.length ds.length):=by
 have P:=x_ E h (.cells arr T0) arr.size;have M3:=P.U0 (by simp) hf;refine OP rfl (z8q _) (by simp) hpos λy hy=>?_;simp only[D9]at hy;subst hy;refine⟨λ_=>rfl,FL.2 λi d hd=>?_⟩;obtain⟨vs,v1,v2,v3⟩:=H.2 i d hd;refine⟨vs,v1,λj u hu=>?_,v3.mono M3⟩;have hj:j<sz:=by have:=(z0q.1 hu).1;omega
 have hi:i<ds.length:=(z0q.1 hd).1;have P8:=seg_lt hi hj;refine⟨by rw[zyq,A3x];exact v2 j u hu,?_⟩;simp only[Env.S,Env.Sw,H5];rw[D5 (by rw[H.1];omega)]
def B6x{z:Nat×Bool}{cs:List (DV×H6)}{ze:DV}{zv:Value}(H:yw z cs=some ze)(G:JA E h cs zv.cells.toList)(hd:cs.all (λc=>M6 c.2)=true):RC E.S h ze zv.cells.toList:=by
 have one:∀(j:Nat) r u,cs[j]?=some r->zv.cells.toList[j]?=some u->M7 r.1=true/\RC E.S h r.1 [u]:=by intro j r u hr hu;obtain⟨⟨a1,a2,a3,a4⟩,a5⟩:=G.2 j r u hr hu;have eT:=zCq.1 hd r (zuq hr);refine⟨a1,Qq a1 a2 ?_⟩;exact RR.data (k:=9) (a:=0) eT (RR.Bb (a4.tag a5))
 unfold yw at H;split at H
 ·simp only[D9]at H;subst H;simp only[RC];refine Gr.2 ⟨by simpa using G.1,λj d u hj hu=>?_⟩;simp only[zbq,zaq]at hj;obtain⟨r,hr,rfl⟩:=hj;exact one j r u hr hu
 ·split at H
  ·rename_i c;simp only[D9]at H;subst H;have Bl:zv.cells.toList.length=1:=by simpa using G.1.symm
   match hz:zv.cells.toList,Bl with
   |[u],_=>exact(one 0 c u rfl (by rw[hz];rfl)).2
  ·simp at H
def Env.Fs(E:Env)(b hi:Nat):Env :={ E with obj:=λi=>if i=E.n then b else E.obj i,base:=λi=>if i=E.n then 0 else E.base i,top:=λi=>if i=E.n then hi else E.top i,Bj:=λi=>if i=E.n then 1 else E.Bj i,n:=E.n+1,O:=λb' o=>if b'=b then(if o<hi then .obj E.n else .other)else E.O b' o }
def M9.Fs(Rl:M9 E st a h)(G:nX E.S h sz ds arr)(hz:sz≠0):
 Pr (λ_=>False) E h (E.Fs h.size arr.size) (h.push (.cells arr T0))/\M9 (E.Fs h.size arr.size) { st with sg:=st.sg++[H7.BF 1 sz ds] } a (h.push (.cells arr T0)) /\
 ∀tg,O0 (E.Fs h.size arr.size) (h.push (.cells arr T0)) tg .undef (.BF st.sg.length 1 sz ds.length) (.slice (some ⟨h.size,0,none⟩) ds.length ds.length):=by
 have hn:=Rl.n;have vE:(E.Fs h.size arr.size).Bj E.n=1:=D5 rfl;have oE:(E.Fs h.size arr.size).obj E.n=h.size:=D5 rfl;have bE:(E.Fs h.size arr.size).base E.n=0:=D5 rfl;have tE:(E.Fs h.size arr.size).top E.n=arr.size:=D5 rfl;have P1:Pr (λ_=>False) E h (E.Fs h.size arr.size) (h.push (.cells arr T0)):=by
  refine Pr.push (λb o hb _=>?_) (Nat.le_succ _) (λi hi _=>?_) (λ_ _=>rfl) (λi hi=>?_)
  ·simp only[Env.Fs];rw[C8 (by omega)]
  ·refine⟨?_,?_,?_⟩<;>simp only[Env.Fs]<;>rw[C8 (by omega)]
  ·have:(E.Fs h.size arr.size).Bj i=E.Bj i:=C8 (by omega);rw[this];exact⟨id,z8q _,λ_=>rfl⟩
 have M3:=P1.U0 (by simp) Rl.fresh;refine⟨P1,⟨Rl.size,Rl.Ba,Rl.Dm,by simp[Env.Fs,Rl.n],λt v hv=>(Rl.AA t v hv).mono P1 M3 (by simp) (by simp),λs cs hs=>(Rl.Ad s cs hs).mono P1 M3 (by simp) (by simp),λi ob hi=>?_,λb o hb=>?_⟩,λtg=>⟨by rw[hn];exact zGq _,by omega,by rw[hn,vE];exact z8q _,_,_,rfl,z8q _,by simp,λ_ y hy=>?_,λ_ _=>?_⟩⟩
 ·by_cases P8:i<st.sg.length
  ·simp only[zhq P8]at hi;exact(Rl.V8 i ob hi).mono P1 M3 (by rw[<- hn];exact P8) (by simp) (by simp)
  ·have Na:i=st.sg.length:=by have:=(z0q.1 hi).1;simp at this;omega
   subst Na;simp only[zfq (z8q _),zzq,z3q,D9]at hi;subst hi;rw[hn];refine⟨vE,by omega,by omega,.inr ⟨arr,T0,(0,0),by rw[oE];exact Og,by rw[bE,tE,G.1];omega,by rw[tE];exact z8q _,λo h3 h4=>?_,λj d hd=>?_⟩⟩
   ·rw[oE];rw[tE]at h4;refine⟨?_,by omega⟩;simp only[Env.Fs,H5];rw[D5 h4]
   ·obtain⟨vs,v1,v2,v3⟩:=G.2 j d hd;exact⟨vs,v1,λy u hu=>by rw[bE,zyq];exact v2 y u hu,v3.mono M3⟩
 ·have HV:h.size+1<=b:=by simpa using hb
  simp only[Env.Fs];rw[C8 (by omega)];exact Rl.fresh b o (by omega)
 ·simp only[D9]at hy;rw[<- hy]
 ·rw[hn,oE,bE,tE,G.1];exact⟨rfl,by omega⟩
def B0q{n:Nat}(I1:o.op=.buildSlice t n ps)(H:(ob (Jl C.P t) λe=>ob (tz C.P e) λz=>ob (Mf C.P e) λzs=>ob (yw z zs) λze=>
   if (n * z.1<=2 ^ 24/\z.1≠0)/\zs.length=z.1/\zs.all (λc=>M6 c.2)=true then Jy C.P e z st ps.toList (List.replicate n ze) λds=>if M4 fl.Hf o.dst then k ({ st with sg:=st.sg++[H7.BF 1 z.1 ds] }.put o.dst .undef (.BF st.sg.length 1 z.1 n))else k (st.put o.dst (.list z.1 ds) .full)else none)=some x)(Rl:M9 E st a w.heap)(T:Then E w k x K):Gp C.P o a w K:=by
 obtain⟨e,he,H⟩:=D8 H;obtain⟨z,hz,H⟩:=D8 H;obtain⟨zs,Ya,H⟩:=D8 H;obtain⟨ze,lu,H⟩:=D8 H;obtain⟨⟨⟨C9x,hz0⟩,hzl,eT⟩,H⟩:=O7 H;have hu:C.P.underlying t=some (.slice e):=by
  unfold Jl at he;split at he
  ·simp only[D9]at he;subst he;assumption
  ·simp at he
 obtain⟨inf,zv,BP,TW,A_⟩:=Ud Ya;obtain⟨inf',dsc,B7U,hue,hzz,Hu⟩:=KV hz;rw[BP]at B7U;simp only[D9]at B7U;subst B7U;have xq:z.1=inf.size:=by rw[hzz]
 have C5X:zv.cells.size=z.1:=by have:=(A_ E w.heap).1;simp at this;omega
 have hRC:=B6x (E:=E) (h:=w.heap) lu (A_ E w.heap) eT;have B7X:nX E.S w.heap z.1 (List.replicate n ze) ((Array.range (n * z.1)).map (zv.cells[· % zv.cells.size]!)):=by
  refine⟨by simp,λi d hd=>?_⟩;have hi:i<n:=by have:=(z0q.1 hd).1;simpa using this
  rw[List.getElem?_replicate,D5 hi]at hd;simp only[D9]at hd;subst hd;refine⟨zv.cells.toList,by simpa using C5X,λj u hu=>?_,hRC⟩;have hj:j<z.1:=by have:=(z0q.1 hu).1;simp at this;omega
  have P8:=seg_lt hi hj;rw[Array.getElem?_map,Array.getElem?_range,D5 P8];simp only[zqq,D9];rw[C5X,zNq,Nat.mul_add_mod,Nat.mod_eq_of_lt hj];rw[getElem!_def,show zv.cells[j]?=some u from by simpa using hu]
 obtain⟨ds,arr,H,hdl,B7S,bQ⟩:=A06 Hu Rl ps.toList _ _ H B7X;have hdn:ds.length=n:=by simpa using hdl
 have P1:=x_ E w.heap (.cells arr e) arr.size;have U7:(execOp a.eval o).run C.P w=.ok (.value (.slice (some ⟨w.heap.size,0,none⟩) n n)) (w.alloc (.cells arr e)):=by
  simp only[execOp,I1];refine Bf ?_;unfold Instr.buildSlice;have B33:Instr.fill (λi=>some (i * z.1,z.1)) ((Array.range (n * z.1)).map (zv.cells[· % zv.cells.size]!)) (ps.map λ(i,y)=>(i,a.eval y)).toList=some arr:=by rw[<- B7S];simp
  simp only[Sem.run_bind,run_underlying hu,Result.andThen_ok,Rw hz,Sem.run_ite];rw[C8 (by omega)];by_cases hn0:n * z.1=0
  ·have:((Array.range (n * z.1)).map (zv.cells[· % zv.cells.size]!))=((Array.range (n * z.1)).map ((#[]:Array Value)[· % (#[]:Array Value).size]!)):=by rw[hn0];simp
   rw[this]at B33;simp only[Sem.run_pure,Result.andThen_ok,D5 hn0,B33];rfl
  ·simp only[C8 hn0,zeroValue,typeInfo,Sem.run_bind,run_program,Result.andThen_ok,BP,Sem.run_pure,TW,B33]
   rfl
 by_cases hq:M4 fl.Hf o.dst=true
 ·rw[D5 hq]at H;obtain⟨P2,R2,R3⟩:=Rl.Fs (T0:=e) bQ hz0;exact BM U7 (T (E.Fs w.heap.size arr.size) _ _ (w.alloc (.cells arr e)) H (R2.put λt0 _=>by rw[<- hdn];exact RR.Bb (R3 _)) (P2.Au (by simp)))
 rw[C8 hq]at H;refine BM U7 (T (E.Sw w.heap.size arr.size) _ _ (w.alloc (.cells arr e)) H ((Rl.push P1 rfl λb o hb=>?_).put λt0 _=>?_) (P1.Au (by simp)))
 ·simp only[zBq]at hb;simp only[Env.Sw];rw[C8 (by omega)];exact Rl.fresh b o (by omega)
 ·refine⟨?_,⟨_,_,rfl⟩,_,_,rfl⟩;have:=B5Z (T0:=e) Rl.fresh bQ (λ_=>by omega);rw[hdn]at this;exact this
def UC(y:Operand)(t off:Nat)(T:Tag):Tag :=
 match y,T with
 |.tmp s',.sp 0 s (b+1)=>if s'=s then .sp 1 t (off+b)else .sp 0 s (b+1)
 |_,T=>T
theorem Qt{t:Nat}{T:Tag}(h:∀s b,y=.tmp s->T ≠ .sp 0 s b):UC y t off T=T:=by
 unfold UC;split
 ·split
  ·rename_i hx;subst hx;exact absurd rfl (h _ _ rfl)
  ·rfl
 ·rfl
def Et.box{E:Env}{t j:Nat}{r:DV×H6}(hy:(∀i,y ≠ .tmp i)->r.2 ≠ .own)(H:Et E h (.sp 0 (vZ y) (j+1)) r v):Et (E.re (UC y t off)) h (.sp 1 t (off+j)) r v:=by
 obtain⟨a1,a2,a3,a4⟩:=H;refine⟨a1,a2,a3,?_⟩;by_cases hx:∃i,y=.tmp i
 ·obtain⟨i,rfl⟩:=hx;exact a4.re (Qt (by simp)) (by simp[UC,vZ])
 ·have gB:=hy λi hi=>hx ⟨i,hi⟩;have a5:O0 (E.re (UC y t off)) h .other r.1 r.2 v:=(a4.tag gB:O0 E h .other r.1 r.2 v).re (Qt (by simp)) (Qt (by simp));exact a5.tag gB
def B1v{r:DV×H6}(hs:src P t st y=some r)(hy:∀i,y ≠ .tmp i):∀ms,r.2 ≠ .FW ms:=by
 cases y with
 |tmp i=>exact absurd rfl (hy i)
 |const v=>exact B03 hs
 |func f=>simp only[src,D9]at hs;subst hs;simp
 |global g=>simp[src]at hs
def C4p(I1:o.op=.box t y)(H:(ob (src C.P t st y) λr=>
 if M4 fl.eu o.dst then ob (tz C.P t) λz=>og (M6 r.2&&E5 z.1 r.1&&z.2) (k (st.put o.dst (.P_ z.1 r.1) .val))
 else if M4 fl.Q6 o.dst then Kl C.P t r λcs=>og (Sd false o.dst st) (k ((st.release y).Gh false o.dst cs))
 else JJ C.P t r λcs=>og (Sd (M4 fl.shared o.dst) o.dst st) (k (st.Gh (M4 fl.shared o.dst) o.dst cs)))=some x)(Rl:M9 E st a w.heap)(T:Then E w k x K):Gp C.P o a w K:=by
 obtain⟨r,hr,H⟩:=D8 H;have U7:(execOp a.eval o).run C.P w=.ok (.value (.pointer (some ⟨w.heap.size,0,none⟩))) (w.alloc (.cells (a.eval y).cells t)):=by simp only[execOp,I1];refine Bf ?_;simp[Instr.box,newVar,newRow]
 have e1:=Rl.src hr;by_cases Kr:M4 fl.eu o.dst=true
 ·-- a variable that is sealed at once
  rw[D5 Kr]at H;obtain⟨z,hz,H⟩:=D8 H;obtain⟨hd,H⟩:=I9 H;simp only[z9q]at hd;obtain⟨vs,hv,hs,hR⟩:=A1X hd.1.2 (e1.data hd.1.1);have P1:=x_ E w.heap (.cells (a.eval y).cells t) z.1;refine BM U7 (T (E.Sw w.heap.size z.1) _ _ (w.alloc (.cells (a.eval y).cells t)) H ((Rl.push P1 rfl λb o hb=>?_).put λt0 _=>?_) (P1.Au (by simp)))
  ·simp only[zBq]at hb;simp only[Env.Sw];rw[C8 (by omega)];exact Rl.fresh b o (by omega)
  ·show RV _ _ _ _;have M3:=P1.U0 (by simp) Rl.fresh;simp only[RV,RC];refine⟨_,_,rfl,vs.toList,by simpa using hs,λj v PN=>?_,hR.mono M3⟩;have hj:j<z.1:=by have:=(z0q.1 PN).1;simp at this;omega
   rw[zyq];refine⟨?_,?_⟩
   ·show hc (w.heap.push _) w.heap.size j=_;rw[A3x,hv];simpa[Value.cells]using PN
   ·simp only[Env.S,Env.Sw,H5]
    rw[D5 hj]
 rw[C8 Kr]at H;by_cases V9:M4 fl.Q6 o.dst=true
 ·rw[D5 V9]at H;have htz:∃z,tz C.P t=some z:=by unfold Kl at H;obtain⟨z,hz,-⟩:=D8 H;exact⟨z,hz⟩
  obtain⟨z,htz⟩:=htz;obtain⟨xs,H,hl,⟨lc,A_⟩,gB⟩:=A54 htz e1 H;obtain⟨_,H⟩:=I9 H;cases hd:o.dst with
  |none=>rw[hd]at V9;simp[M4]at V9
  |some t0=>
    rw[hd]at H;refine BM U7 ?_;rw[hd];simp only[St.Gh,zrq,F9]at H;have Rl1:=Rl.release (x:=y) (f:=UC y t0 0) λT hT=>Qt hT;have P0:Pr Q4 E w.heap (E.re (UC y t0 0)) w.heap:=Pr.re λT hT=>Qt λs b _ he=>hT (by rw[he];simp[Q4]);obtain⟨R1,P1⟩:=Rl1.Gs (t0:=t0) (T0:=t) lc λj r' v Bh hv=>by
     have:=(A_ j r' v Bh hv).box (t:=t0) (off:=0) λhy=>gB (B1v hr hy) r' (zuq Bh)
     rwa [zyq]at this
    rw[Array.toArray_toList]at R1 P1;refine T _ _ _ (w.alloc (.cells (a.eval y).cells t)) H (R1.put λt1 ht=>?_) (P0.trans (P1.Au (by rintro T rfl;simp[Q4])));simp only[D9]at ht;subst ht;refine RR.Bb ⟨rfl,?_⟩;simp only[Env.Gs,H5]
 rw[C8 V9]at H;have htz:∃z,tz C.P t=some z:=by unfold JJ at H;obtain⟨z,hz,-⟩:=D8 H;exact⟨z,hz⟩
 obtain⟨z,htz⟩:=htz;obtain⟨xs,H,hl,A_⟩:=gq htz e1 H;obtain⟨_,H9⟩:=I9 H;exact A9d A_ H9 (T0:=t) (by simpa using U7) Rl @T
def Env.RY(E:Env)(b:Nat):Env :={ E with obj:=λi=>if i=E.n then b else E.obj i,base:=λi=>if i=E.n then 0 else E.base i,n:=E.n+1,Bj:=λi=>if i=E.n then 0 else E.Bj i,O:=λb' o=>if b'=b then .obj E.n else E.O b' o }
def B53(I1:o.op=.makeMap t none){ks:Bool}(H:k ({ st with sg:=st.sg++[H7.map ks []] }.put o.dst .undef (.map st.sg.length))=some x)(Rl:M9 E st a w.heap)(T:Then E w k x K):Gp C.P o a w K:=by
 have U7:(execOp a.eval o).run C.P w=.ok (.value (.map (some w.heap.size))) (w.alloc (.map #[] 0)):=by simp only[execOp,I1];refine Bf ?_;simp[Instr.makeMap]
 have P1:Pr (λ_=>False) E w.heap (E.RY w.heap.size) (w.heap.push (.map #[] 0)):=by
  refine Pr.push (λb o hb _=>?_) (by simp[Env.RY]) (λi hi _=>?_) (λ_ _=>rfl) (iw rfl)
  ·simp only[Env.RY];rw[C8 (by omega)]
  ·refine⟨?_,?_,rfl⟩<;>simp only[Env.RY]<;>rw[C8 (by omega)]
 have M3:=P1.U0 (by simp) Rl.fresh;have hn:=Rl.n;have R1:M9 (E.RY w.heap.size) { st with sg:=st.sg++[H7.map ks []] } a (w.heap.push (.map #[] 0)):=by
  refine⟨Rl.size,Rl.Ba,Rl.Dm,by simp[Env.In,Env.RY,Rl.n],λt v hv=>(Rl.AA t v hv).mono P1 M3 (by simp) (by simp),λs cs hs=>(Rl.Ad s cs hs).mono P1 M3 (by simp) (by simp),λi ob hi=>?_,λb o hb=>?_⟩
  ·by_cases P8:i<st.sg.length
   ·simp only[zhq P8]at hi;exact(Rl.V8 i ob hi).mono P1 M3 (Dc Rl hi) (by simp) (by simp)
   ·have Na:i=st.sg.length:=by have:=(z0q.1 hi).1;simp at this;omega
    subst Na;simp only[zfq (z8q _),zzq,z3q,D9]at hi;subst hi;refine⟨#[],0,?_,λo=>?_,⟨rfl,by simp⟩,by simp[wL]⟩
    ·simp only[Env.RY,hn,H5];exact Og
    ·simp only[Env.RY,hn,H5]
  ·have HV:w.heap.size+1<=b:=by simpa using hb
   simp only[Env.RY];rw[C8 (by omega)];exact Rl.fresh b o (by omega)
 refine BM U7 (T _ _ _ (w.alloc (.map #[] 0)) H (R1.put λt0 _=>?_) (P1.Au (by simp)));refine RR.Bb ⟨by simp[Env.In,Env.RY,hn],?_⟩;simp only[Env.RY,hn,H5]
def qF{P:Program}:∀{ts:List TypeId}{xs:List Operand}{rs:List (DV×H6)},LZ P st ts xs=some rs->rs.length=xs.length/\∀(i:Nat) y r,xs[i]?=some y->rs[i]?=some r->∃t,src P t st y=some r
 |ts,[],rs,H=>by cases ts<;>simp only[LZ,D9]at H<;>subst H<;>simp
 |t::ts,y::xs,rs,H=>by
   simp only[LZ]at H;obtain⟨r,hr,H⟩:=D8 H;obtain⟨rs',hrs,H⟩:=D8 H;simp only[D9]at H;subst H;obtain⟨l1,l2⟩:=qF hrs;refine⟨by simp[l1],λi z r' hz Bh=>?_⟩;cases i with
   |zero=>simp only[z3q,D9]at hz Bh;subst hz Bh;exact⟨t,hr⟩
   |succ i=>simp only[zeq]at hz Bh;exact l2 i z r' hz Bh
 |[],y::xs,rs,H=>by
   simp only[LZ]at H;obtain⟨r,hr,H⟩:=D8 H;obtain⟨rs',hrs,H⟩:=D8 H;simp only[D9]at H;subst H;obtain⟨l1,l2⟩:=qF hrs;refine⟨by simp[l1],λi z r' hz Bh=>?_⟩;cases i with
   |zero=>simp only[z3q,D9]at hz Bh;subst hz Bh;exact⟨_,hr⟩
   |succ i=>simp only[zeq]at hz Bh;exact l2 i z r' hz Bh
def zR:∀{rs:List (DV×H6)}{ms:List (Nat×Nat)},Yn rs=some ms->rs.length=ms.length/\∀(i:Nat) r m,rs[i]?=some r->ms[i]?=some m->r.2=.ptr m.1 m.2
 |[],ms,H=>by simp only[Yn,D9]at H;subst H;simp
 | (d,m)::rs,ms,H=>by
   unfold Yn at H;split at H
   ·rename_i heq;simp at heq
   ·rename_i heq;simp only[List.cons.injEq,Prod.mk.injEq]at heq;obtain⟨⟨-,rfl⟩,rfl⟩:=heq;obtain⟨ms',vQ,H⟩:=D8 H;simp only[D9]at H;subst H;obtain⟨l1,l2⟩:=zR vQ;refine⟨by simp[l1],λi r m hr hm=>?_⟩;cases i with
    |zero=>simp only[z3q,D9]at hr hm;subst hr hm;rfl
    |succ i=>simp only[zeq]at hr hm;exact l2 i r m hr hm
   ·simp at H
def B4L{f:FuncId}{first caps:Array Operand}(I1:o.op=.makeFunc (.func f) first caps)(H:(if first.isEmpty then ob (LZ C.P st [] caps.toList) λrs=>ob (Yn rs) λms=>k (st.put o.dst .undef (.fn f ms))else none)=some x)(Rl:M9 E st a w.heap)(T:Then E w k x K):Gp C.P o a w K:=by
 obtain⟨hf,H⟩:=O7 H;obtain⟨rs,hrs,H⟩:=D8 H;obtain⟨ms,vQ,H⟩:=D8 H;obtain⟨l1,l2⟩:=qF hrs;obtain⟨m1,m2⟩:=zR vQ;have key:∀(i:Nat) y,caps.toList[i]?=some y->∃m,ms[i]?=some m/\E.In m.1/\a.eval y=.pointer (some ⟨E.obj m.1,m.2,none⟩):=by intro i y hy;have hi:i<caps.toList.length:=(z0q.1 hy).1;have hr:rs[i]?=some (rs[i]'(by omega)):=z2q (by omega);have hm:ms[i]?=some (ms[i]'(by omega)):=z2q (by omega);obtain⟨t,ht⟩:=l2 i y _ hy hr;have e:=Rl.src ht;rw[m2 i _ _ hr hm]at e;simp only[RR,O0]at e;exact⟨_,hm,e⟩
 refine X4 (v:=.func (.func f) #[] (caps.map a.eval)) ?_ H Rl (λ_ _=>RR.Bb ⟨?_,?_⟩) @T
 ·simp only[execOp,I1]
  refine Bf ?_;have:first=#[]:=by simpa using hf
  subst this;simp[Instr.makeFunc]
 ·congr 1;apply Array.toList_inj.1;simp only[Array.toList_map];apply zPq;intro i;simp only[zbq];cases hy:caps.toList[i]? with
  |none=>
    have:ms[i]?=none:=by rw[List.getElem?_eq_none_iff]at hy ⊢;omega
    simp[this]
  |some y=>obtain⟨m,hm,-,he⟩:=key i y hy;simp[hm,he]
 ·intro c hc;obtain⟨i,hi,EE⟩:=zoq.1 hc;have hy:caps.toList[i]?=some (caps.toList[i]'(by omega)):=z2q (by omega);obtain⟨m,hm,P8,-⟩:=key i _ hy;rw[z2q hi,EE]at hm;simp only[D9]at hm;subst hm;exact P8
end
end Go.Su

/-
 THE DATA MACHINE, part 14: memory written; maps read and written; parts of results.
-/
namespace Go.Su
set_option linter.defProp false
variable {c:Array Value}{T:TypeId}
def B4H(w:World){b o:Nat}{f:Nat×Nat}(h:w.heap[b]?=some (.cells c T f))(v:Value):
 (w.setCell ⟨b,o,none⟩ v).heap[b]?=some (.cells (c.setIfInBounds o v) T f)/\(∀b',b'≠b->(w.setCell ⟨b,o,none⟩ v).heap[b']?=w.heap[b']?)/\(w.setCell ⟨b,o,none⟩ v).heap.size=w.heap.size:=by
 have P8:b<w.heap.size:=(z6q.1 h).1;have hv:w.heap[b]=.cells c T f:=(z6q.1 h).2;refine⟨?_,λb' hb=>?_,by simp⟩
 ·unfold World.setCell;rw[zsq (by simpa using P8),Array.getElem_modify];simp[hv]
 ·simp[World.setCell,Array.getElem?_modify,Ne.symm hb]
structure jU(w w':World)(b o:Nat)(vs:List Value)(c:Array Value)(T:TypeId)(f:Nat×Nat):Prop where
 ex:∃c',w'.heap[b]?=some (.cells c' T f)/\c'.size=c.size/\∀j,c'[j]?=if o<=j/\j<o+vs.length then vs[j-o]? else c[j]?
 rest:∀b',b'≠b->w'.heap[b']?=w.heap[b']?
 size:w'.heap.size=w.heap.size
 out:W9 w w'
def KT{P:Program}{b T:Nat}{f:Nat×Nat}(off:Nat):∀(vs:List Value)(c:Array Value)(i:Nat)(w:World),w.heap[b]?=some (.cells c T f)->off+i+vs.length<=c.size->(∀v∈vs,v.oneCell'=true)->
 (∀o,off+i<=o->o<off+i+vs.length->¬(f.1<=o/\o<f.2))->∃w',(storeCells ⟨b,off,none⟩ vs i).run P w=.ok () w'/\jU w w' b (off+i) vs c T f
 |[],c,i,w,h,_,_,_=>⟨w,rfl,⟨c,h,rfl,λj=>by rw[C8 (by rintro⟨h1,h2⟩;simp at h2;omega)]⟩,λ_ _=>rfl,rfl,W9.refl _⟩
 |v::vs,c,i,w,h,hn,ho,hf=>by
   simp only[zDq]at hn hf;have IZ:w.cell? ⟨b,off+i,none⟩=some (c[off+i]'(by omega)):=by rw[Vz];unfold hc;rw[h];exact zsq (by omega)
   have hfr:w.frozen? ⟨b,off+i,none⟩=false:=by unfold World.frozen?;simp only[h];have:=hf (off+i) (z8q _) (by omega);simpa using this
   have h1:(store ((⟨b,off,none⟩:Addr).add i) v).run P w=.ok () (w.setCell ⟨b,off+i,none⟩ v):=by rw[Addr.add_lit,run_store P w _ v _ (ho v (by simp)),IZ];simp[hfr]
   obtain⟨s1,s2,s3⟩:=B4H w (o:=off+i) h v;obtain⟨w',r1,⟨c',e1,e2,e3⟩,e4,e5,e6⟩:=KT off vs _ (i+1) _ s1 (by simp;omega) (λu hu=>ho u (by simp[hu])) (λo h1 h2=>hf o (by omega) (by omega));refine⟨w',?_,⟨c',e1,by simpa using e2,λj=>?_⟩,λb' hb=>(e4 b' hb).trans (s2 b' hb),e5.trans s3,W9.trans (b:=w.setCell ⟨b,off+i,none⟩ v) ⟨rfl,rfl,rfl⟩ e6⟩
   ·unfold storeCells;simp only[Sem.run_bind,h1,Result.andThen_ok];exact r1
   ·rw[e3 j,zDq];by_cases hj:j=off+i
    ·subst hj;rw[C8 (by omega),D5 (by omega),zmq (by omega)];simp
    ·rw[ztq (Ne.symm hj)];by_cases hc:off+(i+1)<=j/\j<off+(i+1)+vs.length
     ·rw[D5 hc,D5 (by omega),show j-(off+i)=(j-(off+(i+1)))+1 from by omega,zeq]
     ·rw[C8 hc,C8 (by omega)]
variable {P:Program}{t:TypeId}{off:Nat}{v:Value}
def Ky{z:Nat×Bool}(hz:tz P t=some z){w:World}{b T:Nat}{f:Nat×Nat}(h:w.heap[b]?=some (.cells c T f))(hs:v.cells.size=z.1)(hn:off+z.1<=c.size)(ho:∀u∈v.cells.toList,u.oneCell'=true)(hf:∀o,off<=o->o<off+z.1->¬(f.1<=o/\o<f.2)):∃w',(storeVar t ⟨b,off,none⟩ v).run P w=.ok () w'/\jU w w' b off v.cells.toList c T f:=by obtain⟨w',r,s⟩:=KT (P:=P) off v.cells.toList c 0 w h (by simp;omega) ho (λo h1 h2=>hf o (by omega) (by simp at h2;omega));refine⟨w',?_,by simpa using s⟩;unfold storeVar;simp only[Sem.run_bind,Rw hz,Result.andThen_ok,Sem.run_ite];rw[C8 (by omega)];exact r
variable {w':World}{vs:List Value}
def jU.Pr{E:Env}{w:World}{b o:Nat}{f:Nat×Nat}(S:jU w w' b o vs c T f){ch:Tag->Prop}(hb:w.heap[b]?=some (.cells c T f))(ht:∀j,o<=j->j<o+vs.length->ch (E.O b j)):
 Pr ch E w.heap E w'.heap:=by
 refine⟨Nat.le_of_eq S.size.symm,λb' HV=>?_,λ_ _ _ _=>rfl,z8q _,λ_ _ _=>⟨rfl,rfl,rfl⟩,λ_ _=>rfl,Ee rfl⟩;by_cases bN:b'=b
 ·subst bN;rw[hb];obtain⟨c',e1,e2,e3⟩:=S.ex;refine⟨c',e1,e2,λj hj=>?_⟩;rw[e3 j,C8];rintro⟨c1,c2⟩;exact hj (ht j c1 c2)
 ·rw[S.rest b' bN];exact Y4.refl _ _
section
variable {X:Type}{C:AB}{R:U1}{o:Oper}{st:St}{k:St->Option X}{x:X}{E:Env}{a:Act}{w:World}{K:Act->World->Prop}{Q:Exit->Act->World->Prop}
def jT.write{tg:Tag}{p q b:Nat}{cs xs:List (DV×H6)}(B:jT E w.heap tg p q b cs)(hb:w.heap[b]?=some (.cells c T (0,0)))(S:jU w w' b off vs c T (0,0))(hl:xs.length=vs.length)(M3:off+xs.length<=cs.length)(hx:∀(j:Nat) r v,xs[j]?=some r->vs[j]?=some v->Et E w.heap (.sp p q (off+j)) r v)(hs:AZ E.S w.heap E.S w'.heap)(hP:Pr (λt=>t=tg) E w.heap E w'.heap)(hns:∀k' a' b',tg ≠ .sp k' a' b'):jT E w'.heap tg p q b (Ic cs off xs):=by
 obtain⟨c0,T0,h1,h2,h3,h4⟩:=B;rw[hb]at h1;simp only[D9,Obj.cells.injEq]at h1;obtain⟨rfl,rfl,-⟩:=h1;obtain⟨c',e1,e2,e3⟩:=S.ex;have mono:∀{tg':Tag}{r:DV×H6}{v:Value},(∃x y z,tg'=.sp x y z)->Et E w.heap tg' r v->Et E w'.heap tg' r v:=by rintro tg' r v ⟨x1,y1,z1,rfl⟩ ⟨a1,a2,a3,a4⟩;exact⟨a1,a2,a3,a4.mono hP hs (λ_=>λh=>hns _ _ _ h.symm) λs o' hm=>by rw[hm]at a3;simp[w9]at a3⟩
 refine⟨c',T,e1,by rw[e2,h2,Nk M3],λo'=>?_,λj r v hr hv=>?_⟩
 ·rcases h3 o' with h5 | h5
  ·exact .inl h5
  ·exact .inr (by omega)
 ·rw[Rb M3]at hr;rw[e3 j]at hv;by_cases hc:off<=j/\j<off+xs.length
  ·rw[D5 hc]at hr;rw[D5 (by omega)]at hv;have:=hx (j-off) r v hr hv;rw[show off+(j-off)=j from by omega]at this;exact mono ⟨_,_,_,rfl⟩ this
  ·rw[C8 hc]at hr;rw[C8 (by omega)]at hv;exact mono ⟨_,_,_,rfl⟩ (h4 j r v hr hv)
def M9.B13{s:Nat}{cs xs:List (DV×H6)}(Rl:M9 E st a w.heap)(hbx:st.bx.getD s none=some cs)(hb:w.heap[E.blk s]?=some (.cells c T (0,0)))(S:jU w w' (E.blk s) off vs c T (0,0))(hl:xs.length=vs.length)(M3:off+xs.length<=cs.length)(hx:∀(j:Nat) r v,xs[j]?=some r->vs[j]?=some v->Et E w.heap (.sp 1 s (off+j)) r v):
 M9 E { st with bx:=st.bx.set s (some (Ic cs off xs)) } a w'.heap/\Pr (λt=>t=.Vo s) E w.heap E w'.heap:=by
 have B:=Rl.Ad s cs hbx;have Ak:c.size=cs.length:=by obtain⟨c0,T0,h1,h2,-⟩:=B;rw[hb]at h1;simp only[D9,Obj.cells.injEq]at h1;rw[h1.1];exact h2
 have hP:Pr (λt=>t=.Vo s) E w.heap E w'.heap:=S.Pr hb λj h1 h2=>by
  obtain⟨c1,T1,g1,g2,g3,-⟩:=B;rw[hb]at g1;simp only[D9,Obj.cells.injEq]at g1;rcases g3 j with h6 | h6
  ·exact h6
  ·rw[<- g1.1]at h6;omega
 have hs:=hP.U0 (by simp) Rl.fresh;refine⟨⟨Rl.size,Rl.Ba,by simpa using Rl.Dm,Rl.n,λt v hv=>?_,λs' cs' FD=>?_,λi ob hi=>(Rl.V8 i ob hi).mono hP hs (Dc Rl hi) (by simp) (by simp),λb o' HV=>Rl.fresh b o' (by rw[<- S.size];exact HV)⟩,hP⟩
 ·have h0:=Rl.AA t v hv;cases hm:(st.get t).2
  case loc s' o'=>show RR E w'.heap 0 t (st.get t).1 (st.get t).2 v;rw[hm]at h0 ⊢;exact h0
  all_goals
   show RR E w'.heap 0 t (st.get t).1 (st.get t).2 v;exact h0.mono hP hs (by simp) (by rw[hm];simp)
 ·have A62:s<st.bx.length:=by
   rcases zxq s st.bx.length with h1 | h1
   ·exact h1
   ·simp[z1q,znq h1]at hbx
  by_cases bR:s=s'
  ·subst bR;simp only[z1q,z4q A62,zAq,D9]at FD;subst FD;exact B.write hb S hl M3 hx hs hP (by simp)
  ·simp only[z1q,z5q bR]at FD;exact(Rl.Ad s' cs' (by simpa[z1q]using FD)).mono hP hs (by simp;exact λh=>bR h.symm) (by simp)
def M9.B14{i:Nat}{cs xs:List (DV×H6)}(Rl:M9 E st a w.heap)(bQ:st.sg[i]?=some (.box cs))(hb:w.heap[E.obj i]?=some (.cells c T (0,0)))(S:jU w w' (E.obj i) off vs c T (0,0))(hl:xs.length=vs.length)(M3:off+xs.length<=cs.length)(hx:∀(j:Nat) r v,xs[j]?=some r->vs[j]?=some v->Et E w.heap (.sp 2 i (off+j)) r v):
 M9 E { st with sg:=st.sg.set i (.box (Ic cs off xs)) } a w'.heap/\Pr (λt=>t=.obj i) E w.heap E w'.heap:=by
 have B:=Rl.V8 i _ bQ;simp only[RO]at B;have Ak:c.size=cs.length:=by obtain⟨c0,T0,h1,h2,-⟩:=B;rw[hb]at h1;simp only[D9,Obj.cells.injEq]at h1;rw[h1.1];exact h2
 have hP:Pr (λt=>t=.obj i) E w.heap E w'.heap:=S.Pr hb λj h1 h2=>by
  obtain⟨c1,T1,g1,g2,g3,-⟩:=B;rw[hb]at g1;simp only[D9,Obj.cells.injEq]at g1;rcases g3 j with h6 | h6
  ·exact h6
  ·rw[<- g1.1]at h6;omega
 have hs:=hP.U0 (by simp) Rl.fresh;have Kq:=(z0q.1 bQ).1;refine⟨⟨Rl.size,Rl.Ba,Rl.Dm,by simpa using Rl.n,λt v hv=>(Rl.AA t v hv).mono hP hs (by simp) (by simp),λs' cs' FD=>(Rl.Ad s' cs' FD).mono hP hs (by simp) (by simp),λi' ob hi=>?_,λb o' HV=>Rl.fresh b o' (by rw[<- S.size];exact HV)⟩,hP⟩;by_cases EE:i=i'
 ·subst EE;simp only[z4q Kq,D9]at hi;subst hi;exact B.write hb S hl M3 hx hs hP (by simp)
 ·simp only[z5q EE]at hi;exact(Rl.V8 i' ob hi).mono hP hs (Dc Rl hi) (by simp;exact λh=>EE h.symm) (by simp)
def DL(y:Operand)(p s off:Nat)(T:Tag):Tag :=
 match y,T with
 |.tmp t,.sp 0 t' 0=>if t=t' then .sp p s off else .sp 0 t' 0
 |_,T=>T
variable {y:Operand}
theorem IJ{p s:Nat}{T:Tag}(h:∀t b,y=.tmp t->T ≠ .sp 0 t b):DL y p s off T=T:=by
 unfold DL;split
 ·split
  ·rename_i hx;subst hx;exact absurd rfl (h _ _ rfl)
  ·rfl
 ·rfl
def B6B{r:DV×H6}(hs:src P t st y=some r){p s:Nat}{c:DV×H6}(hm:c.2=r.2)(hc:Et E w.heap (.sp 0 (vZ y) 0) c (a.eval y)):
 Et (E.re (DL y p s off)) w.heap (.sp p s off) c (a.eval y):=by
 obtain⟨a1,a2,a3,a4⟩:=hc;refine⟨a1,a2,a3,?_⟩;by_cases hy:∃i,y=.tmp i
 ·obtain⟨i,rfl⟩:=hy;exact a4.re (IJ (by simp)) (by simp[DL,vZ])
 ·have gB:c.2 ≠ .own:=by
   rw[hm];cases y with
   |tmp i=>exact absurd ⟨i,rfl⟩ hy
   |const v=>exact(bB hs).1
   |func f=>simp only[src,D9]at hs;subst hs;simp
   |global g=>simp[src]at hs
  have a5:O0 (E.re (DL y p s off)) w.heap .other c.1 c.2 (a.eval y):=(a4.tag (tg':=.other) gB).re (IJ (by simp)) (IJ (by simp));exact a5.tag gB
def KL{v:Operand}{b:Nat}(I1:o.op=.store t y v)(he:a.eval y=.pointer (some ⟨b,off,none⟩))(h:(storeVar t ⟨b,off,none⟩ (a.eval v)).run C.P w=.ok () w'):
 (execOp a.eval o).run C.P w=.ok .skip w':=by
 simp only[execOp,I1];refine C3f ?_;simp only[Instr.storeAt,he,Instr.sureAddr,Sem.run_bind,Sem.run_pure,Result.andThen_ok,h]
def cells_one(h:v.oneCell'=true):v.cells=#[v]:=by cases v<;>first | rfl | (simp[Value.oneCell']at h)
def B1C{α : Type}{l:List α}{o:Nat}{y : α}(h:o<l.length):Ic l o [y]=l.set o y:=by
 apply zPq;intro j;rw[Rb (by simp;omega)];by_cases hj:o=j
 ·subst hj;rw[D5 (by simp),z4q h];simp
 ·rw[C8 (by simp;omega),z5q hj]
def O0.dat{E:Env}{h:Heap}{tg:Tag}{d:DV}{m:H6}(hm:M6 m=true)(R:O0 E h tg d m v):RV E.S h d v:=by
 cases m<;>simp only[M6]at hm<;>simp only[O0]at R<;>try contradiction
 ·exact R
 ·exact R.1
 ·exact R.1
 ·obtain⟨rfl,rfl⟩:=R;simp only[RV]
def B1Z{z:Nat×Bool}(hz:tz P t=some z)(Rl:M9 E st a w.heap){i n sz idx:Nat}{ds:List DV}{d e:DV}(hp:st.sg[i]?=some (.BF n sz ds))(hd:ds[idx]?=some d)(UU:v.cells.size=z.1){xs:List (DV×H6)}(hl:xs.length=v.cells.size){tg:Nat->Tag}(A_:∀(j:Nat) r v',xs[j]?=some r->v.cells.toList[j]?=some v'->M7 r.1=true/\v'.oneCell'=true/\O0 E w.heap (tg j) r.1 r.2 v')(he:Zg sz off d xs=some e):
 ∃w',(storeVar t ⟨E.obj i,E.base i+idx * sz+off,none⟩ v).run P w=.ok () w'/\M9 E { st with sg:=st.sg.set i (.BF n sz (ds.set idx e)) } a w'.heap/\Pr (λt=>t=.obj i) E w.heap E w'.heap/\W9 w w':=by
 unfold Zg at he;split at he
 ·rename_i cs;obtain⟨⟨ZT,Bl,lZ⟩,he⟩:=O7 he;simp only[D9]at he;subst he;have B:=Rl.V8 i _ hp;simp only[RO]at B;obtain⟨bv,b0,b3,B⟩:=B;have hne:ds≠[]:=by intro h;rw[h]at hd;simp at hd
  obtain⟨c,TT,f,b1,b2,b2',b4,b5⟩:=B.resolve_left λh=>hne h.1;have hidx:idx<ds.length:=(z0q.1 hd).1;have Bp:idx * sz+sz<=ds.length * sz:=by rw[<- zpq];exact zcq _ hidx
  have bO:v.cells.toList.length=xs.length:=by simp[hl]
  have IZ:∀u∈v.cells.toList,u.oneCell'=true:=by intro q hq;obtain⟨j,hj,vP⟩:=zoq.1 hq;exact(A_ j _ q (z2q (by omega)) (by rw[z2q hj,vP])).2.1
  obtain⟨w',hw,S⟩:=Ky (P:=P) hz (off:=E.base i+idx * sz+off) b1 UU (by omega) IZ (λo h1 h2=>(b4 o (by omega) (by omega)).2);have P1:Pr (λt=>t=.obj i) E w.heap E w'.heap:=S.Pr b1 λj h1 h2=>(b4 j (by omega) (by simp at h2;omega)).1;have hs:=P1.U0 (by simp) Rl.fresh;have Kq:=(z0q.1 hp).1;refine⟨w',hw,?_,P1,S.out⟩;refine⟨Rl.size,Rl.Ba,Rl.Dm,by simpa using Rl.n,λt v hv=>(Rl.AA t v hv).mono P1 hs (by simp) (by simp),λs' cs' FD=>(Rl.Ad s' cs' FD).mono P1 hs (by simp) (by simp),λi' ob hi=>?_,λb o' HV=>Rl.fresh b o' (by rw[<- S.size];exact HV)⟩;by_cases EE:i=i'
  ·subst EE;simp only[z4q Kq,D9]at hi;subst hi;simp only[RO];obtain⟨c',e1',e2',e3'⟩:=S.ex;refine⟨bv,b0,b3,.inr ⟨c',TT,f,e1',by rw[zvq];exact b2,by rw[e2'];exact b2',b4,λj d' FU=>?_⟩⟩;by_cases hj:idx=j
   ·subst hj;rw[z4q hidx]at FU;simp only[D9]at FU;subst FU;obtain⟨us,u1,u2,u3⟩:=b5 idx _ hd;have YZ:off+v.cells.toList.length<=us.length:=by omega
    refine⟨Ic us off v.cells.toList,by rw[Nk YZ,u1],λy q hq=>?_,?_⟩
    ·rw[Rb YZ]at hq;by_cases hy:off<=y/\y<off+v.cells.toList.length
     ·rw[D5 hy]at hq;rw[e3',D5 (by omega),<- hq];congr 1;omega
     ·rw[C8 hy]at hq;rw[e3',C8 (by omega),u2 y q hq]
    ·simp only[RC]at u3 ⊢;obtain⟨k1,k2⟩:=Gr.1 u3;have hpc:off+(xs.map (·.1)).length<=cs.length:=by simp;omega
     refine Gr.2 ⟨by rw[Nk YZ,Nk hpc,k1],λy q u hq hu=>?_⟩;rw[Rb YZ]at hu;rw[Rb hpc]at hq;by_cases hy:off<=y/\y<off+v.cells.toList.length
     ·rw[D5 hy]at hu;rw[D5 (by simp only[zEq];omega),zbq,zaq]at hq;obtain⟨r,hr,rfl⟩:=hq;obtain⟨g1,g2,g3⟩:=A_ _ r u hr hu;have g4:=zCq.1 ZT r (zuq hr);rw[z9q]at g4;exact⟨g1,(Qq g1 g2 (g3.dat g4.1)).mono hs⟩
     ·rw[C8 hy]at hu;rw[C8 (by simp only[zEq];omega)]at hq;obtain⟨g1,g2⟩:=k2 y q u hq hu;exact⟨g1,g2.mono hs⟩
   ·rw[z5q hj]at FU;obtain⟨us,u1,u2,u3⟩:=b5 j d' FU;refine⟨us,u1,λy q hq=>?_,u3.mono hs⟩;have hy:y<sz:=by have:=(z0q.1 hq).1;omega
    rw[e3',C8,u2 y q hq];rintro⟨c1,c2⟩;have:=A9y (sz:=sz) (i:=idx) (i':=j) (j:=j * sz+y-idx * sz) (j':=y) (by omega) hy (by omega);omega
  ·simp only[z5q EE]at hi;exact(Rl.V8 i' ob hi).mono P1 hs (Dc Rl hi) (by simp;exact λh=>EE h.symm) (by simp)
 ·simp at he
def C0t{v:Operand}(I1:o.op=.store t y v)(H:ET C o t y v st k=some x)(Rl:M9 E st a w.heap)(T:Then E w k x K):Gp C.P o a w K:=by
 unfold ET at H;obtain⟨r,h1,H⟩:=D8 H;obtain⟨u,h2,H⟩:=D8 H;obtain⟨z,hz,H⟩:=D8 H;have e1:=Rl.src h1;have e2:=Rl.src h2;have Hu:z.2=false->z.1=1:=by obtain⟨i,d,-,-,-,h4⟩:=KV hz;exact h4
 have lq:∀{E':Env}{h':Heap}(t0:Nat),RR E' h' 0 t0 (.I4 []) .val undef:=by intro E' h' t0;simp only[RR,O0,RV];exact⟨#[],rfl,by simp[TJ]⟩
 split at H
 ·-- a private variable
  rename_i s off hm;rw[hm]at e1;simp only[RR,O0]at e1;obtain⟨cs,hb,H⟩:=D8 H;have B:=Rl.Ad s cs hb;obtain⟨c,TT,IM,Ak,hO,-⟩:=B;split at H
  ·obtain⟨xs,H,hl,A_,gB⟩:=A54 hz e2 H;obtain⟨M3,H⟩:=O7 H;obtain⟨w',hw,S⟩:=Ky (P:=C.P) hz (off:=off) IM (v:=a.eval v) (by have:=A_.1;simp at this;omega) (by omega) (λu hu=>by obtain⟨j,hj,vP⟩:=zoq.1 hu;have hl2:=A_.1;exact(A_.2 j _ u (z2q (by omega)) (by rw[z2q hj,vP])).2.1) (λo _ _=>by simp)
   have R0:=Rl.release (x:=v) (f:=UC v s off) λT hT=>Qt hT;have Kr:(st.release v).bx=st.bx:=by cases v<;>rfl
   obtain⟨R1,P1⟩:=R0.B13 (by rw[Kr];exact hb) IM S A_.1 M3 λj r' v' hr hv=>(A_.2 j r' v' hr hv).box λhy=>gB (B1v h2 hy) r' (zuq hr)
   rw[Kr]at R1;have V9:({ st with bx:=st.bx.set s (some (Ic cs off xs)) }.release v)={ st.release v with bx:=st.bx.set s (some (Ic cs off xs)) }:=by cases v<;>rfl
   rw[V9]at H;have P0:Pr Q4 E w.heap (E.re (UC v s off)) w.heap:=Pr.re λT hT=>Qt λt b _ he=>hT (by rw[he];simp[Q4]);exact Ou (KL I1 e1.2 hw) (T (E.re (UC v s off)) _ _ w' H (R1.put λt0 _=>lq t0) (P0.trans (P1.Au (by rintro T rfl;simp[Q4]))) S.out)
  ·rename_i hz2;have xq:=Hu (by simpa using hz2);obtain⟨cc,H,hmm,A_⟩:=au e2 H;obtain⟨P8,H⟩:=O7 H;have bS:=cells_one A_.2.1;obtain⟨w',hw,S⟩:=Ky (P:=C.P) hz (off:=off) IM (v:=a.eval v) (by rw[bS,xq];rfl) (by omega) (λu hu=>by rw[bS]at hu;simp at hu;subst hu;exact A_.2.1) (λo _ _=>by simp)
   rw[bS]at S;have R0:=Rl.release (x:=v) (f:=DL v 1 s off) λT hT=>IJ hT;have IZ:=B6B h2 (p:=1) (s:=s) (off:=off) hmm A_;have Kr:(st.release v).bx=st.bx:=by cases v<;>rfl
   obtain⟨R1,P1⟩:=R0.B13 (xs:=[cc]) (by rw[Kr];exact hb) IM S rfl (by simp;omega) λj r' v' hr hv=>by
    cases j with
    |succ j=>simp at hr
    |zero=>
      have Bh:r'=cc:=by simpa using hr.symm
      have PN:v'=a.eval v:=by simpa using hv.symm
      rw[Bh,PN];exact IZ
   rw[B1C P8,Kr]at R1;have V9:({ st with bx:=st.bx.set s (some (cs.set off cc)) }.release v)={ st.release v with bx:=st.bx.set s (some (cs.set off cc)) }:=by cases v<;>rfl
   rw[V9]at H;have P0:Pr Q4 E w.heap (E.re (DL v 1 s off)) w.heap:=Pr.re λT hT=>IJ λt b _ he=>hT (by rw[he];simp[Q4]);exact Ou (KL I1 e1.2 hw) (T (E.re (DL v 1 s off)) _ _ w' H (R1.put λt0 _=>lq t0) (P0.trans (P1.Au (by rintro T rfl;simp[Q4]))) S.out)
 ·-- a shared variable
  rename_i i off hm;rw[hm]at e1;simp only[RR,O0]at e1;obtain⟨cs,hb,H⟩:=D8 H;have hb:=yK hb;have B:=Rl.V8 i _ hb;simp only[RO]at B;obtain⟨c,TT,IM,Ak,hO,-⟩:=B;split at H
  ·obtain⟨xs,H,hl,A_⟩:=gq hz e2 H;obtain⟨M3,H⟩:=O7 H;obtain⟨w',hw,S⟩:=Ky (P:=C.P) hz (off:=off) IM (v:=a.eval v) (by have:=A_.1;simp at this;omega) (by omega) (λu hu=>by obtain⟨j,hj,vP⟩:=zoq.1 hu;have hl2:=A_.1;obtain⟨⟨-,q,-,-⟩,-⟩:=A_.2 j _ u (z2q (by omega)) (by rw[z2q hj,vP]);exact q) (λo _ _=>by simp)
   obtain⟨R1,P1⟩:=Rl.B14 hb IM S A_.1 M3 λj r' v' hr hv=>let⟨q1,q2⟩:=A_.2 j r' v' hr hv;⟨q1.1,q1.2.1,q1.2.2.1,q1.2.2.2.tag q2⟩
   exact Ou (KL I1 e1.2 hw) (T E _ _ w' H (R1.put λt0 _=>lq t0) (P1.Au (by rintro T rfl;simp[Q4])) S.out)
  ·rename_i hz2;have xq:=Hu (by simpa using hz2);obtain⟨cc,H,hmm,A_⟩:=au e2 H;obtain⟨c0,hc0,H⟩:=D8 H;have P8:off<cs.length:=(z0q.1 hc0).1;have bS:=cells_one A_.2.1;obtain⟨w',hw,S⟩:=Ky (P:=C.P) hz (off:=off) IM (v:=a.eval v) (by rw[bS,xq];rfl) (by omega) (λu hu=>by rw[bS]at hu;simp at hu;subst hu;exact A_.2.1) (λo _ _=>by simp)
   rw[bS]at S;have R0:=Rl.release (x:=v) (f:=DL v 2 i off) λT hT=>IJ hT;have IZ:=B6B h2 (p:=2) (s:=i) (off:=off) hmm A_;have Kr:(st.release v).sg=st.sg:=by cases v<;>rfl
   obtain⟨R1,P1⟩:=R0.B14 (xs:=[cc]) (by rw[Kr];exact hb) IM S rfl (by simp;omega) λj r' v' hr hv=>by
    cases j with
    |succ j=>simp at hr
    |zero=>
      have Bh:r'=cc:=by simpa using hr.symm
      have PN:v'=a.eval v:=by simpa using hv.symm
      rw[Bh,PN];exact IZ
   rw[B1C P8,Kr]at R1;have V9:({ st with sg:=st.sg.set i (.box (cs.set off cc)) }.release v)={ st.release v with sg:=st.sg.set i (.box (cs.set off cc)) }:=by cases v<;>rfl
   rw[V9]at H;have P0:Pr Q4 E w.heap (E.re (DL v 2 i off)) w.heap:=Pr.re λT hT=>IJ λt b _ he=>hT (by rw[he];simp[Q4]);exact Ou (KL I1 e1.2 hw) (T (E.re (DL v 2 i off)) _ _ w' H (R1.put λt0 _=>lq t0) (P0.trans (P1.Au (by rintro T rfl;simp[Q4]))) S.out)
 ·-- an element of a writable array
  rename_i i sz idx off hm;rw[hm]at e1;simp only[RR,O0]at e1;obtain⟨p,hp,H⟩:=D8 H;obtain⟨d,hd,H⟩:=D8 H;obtain⟨H,UU,hRC⟩:=xD Hu e2 H;obtain⟨Ak,H⟩:=I9 H;obtain⟨⟨hzz,lZ⟩,H9⟩:=O7 H;clear H;subst lZ;have hp:=iM hp;have Ak:p.1=sz:=by simpa using Ak
  rw[Ak]at hp;have B:=Rl.V8 i _ hp;simp only[RO]at B;have hne:p.2≠[]:=by intro h;rw[h]at hd;simp at hd
  obtain⟨c,TT,b1,b2,b3,b4,b5⟩:=B hne;have hidx:idx<p.2.length:=(z0q.1 hd).1;have Bp:idx * sz+sz<=p.2.length * sz:=by rw[<- zpq];exact zcq _ hidx
  have IZ:∀u∈(a.eval v).cells.toList,u.oneCell'=true:=by intro q hq;obtain⟨j,hj,vP⟩:=zoq.1 hq;obtain⟨q1,q2⟩:=Sc hRC (j:=j) (v:=q) (by rw[z2q hj,vP]);exact Lu q1 q2
  obtain⟨w',hw,S⟩:=Ky (P:=C.P) hz (off:=E.base i+idx * sz) b1 (v:=a.eval v) UU (by omega) IZ (λo _ _=>by simp);have P1:Pr (λt=>t=.obj i) E w.heap E w'.heap:=S.Pr b1 λj h1 h2=>b4 j (by omega) (by simp at h2;omega);have hs:=P1.U0 (by simp) Rl.fresh;have Kq:=(z0q.1 hp).1;have R1:M9 E { st with sg:=st.sg.set i (.arr sz (p.2.set idx u.1)) } a w'.heap:=by
   refine⟨Rl.size,Rl.Ba,Rl.Dm,by simpa using Rl.n,λt v hv=>(Rl.AA t v hv).mono P1 hs (by simp) (by simp),λs' cs' FD=>(Rl.Ad s' cs' FD).mono P1 hs (by simp) (by simp),λi' ob hi=>?_,λb o' HV=>Rl.fresh b o' (by rw[<- S.size];exact HV)⟩;by_cases EE:i=i'
   ·subst EE;simp only[z4q Kq,D9]at hi;subst hi;simp only[RO];intro _;obtain⟨c',e1',e2',e3'⟩:=S.ex;refine⟨c',TT,e1',by rw[zvq,e2'];exact b2,b3,by rw[zvq];exact b4,λj d' FU=>?_⟩;by_cases hj:idx=j
    ·subst hj;rw[z4q hidx]at FU;simp only[D9]at FU;subst FU;refine⟨(a.eval v).cells.toList,by simp;omega,λy q hq=>?_,hRC.mono hs⟩;have hy:y<sz:=by have:=(z0q.1 hq).1;simp at this;omega
     rw[e3',D5 (by simp;omega),<- hq];congr 1;omega
    ·rw[z5q hj]at FU;obtain⟨us,u1,u2,u3⟩:=b5 j d' FU;refine⟨us,u1,λy q hq=>?_,u3.mono hs⟩;have hy:y<sz:=by have:=(z0q.1 hq).1;omega
     rw[e3',C8,u2 y q hq];rintro⟨c1,c2⟩;simp at c2;exact hj (A9y (sz:=sz) (j:=j * sz+y-idx * sz) (j':=y) (by omega) hy (by omega))
   ·simp only[z5q EE]at hi;exact(Rl.V8 i' ob hi).mono P1 hs (Dc Rl hi) (by simp;exact λh=>EE h.symm) (by simp)
  exact Ou (KL I1 (by rw[e1.2];rfl) hw) (T E _ _ w' H9 (R1.put λt0 _=>lq t0) (P1.Au (by rintro T rfl;simp[Q4])) S.out)
 ·-- an open element
  rename_i i sz idx hm;rw[hm]at e1;simp only[RR,O0]at e1;obtain⟨q,hq,H⟩:=D8 H;obtain⟨H,UU,hRC⟩:=xD Hu e2 H;obtain⟨Ak,H⟩:=I9 H;obtain⟨ob1,hx,H9⟩:=D8 H;clear H;simp only[z9q,beq_iff_eq]at Ak;obtain⟨HY,hs2⟩:=Ak;obtain⟨sz',pre,ds⟩:=q;simp only at HY;subst HY;have hq:=yM hq;simp only[Po]at hx;obtain⟨⟨Na,hi2⟩,hx⟩:=O7 hx;simp only[D9]at hx;subst hx;have B:=Rl.V8 i _ hq;simp only[RO]at B;obtain⟨c,TT,f,b1,b2,b2',b3,b4,b5,b6⟩:=B;have B7V:pre.length * sz'<=idx * sz':=zcq _ Na;have Bp:idx * sz'+sz'<=(pre.length+ds.length) * sz':=by rw[<- zpq];exact zcq _ (by omega)
  have IZ:∀u∈(a.eval v).cells.toList,u.oneCell'=true:=by intro q hq;obtain⟨j,hj,vP⟩:=zoq.1 hq;obtain⟨q1,q2⟩:=Sc hRC (j:=j) (v:=q) (by rw[z2q hj,vP]);exact Lu q1 q2
  obtain⟨w',hw,S⟩:=Ky (P:=C.P) hz (off:=E.base i+idx * sz') b1 (v:=a.eval v) UU (by omega) IZ (λo h1 h2=>(b4 o (by omega) (by omega)).2);have P1:Pr (λt=>t=.obj i) E w.heap E w'.heap:=S.Pr b1 λj h1 h2=>(b4 j (by omega) (by simp at h2;omega)).1;have hs:=P1.U0 (by simp) Rl.fresh;have Kq:=(z0q.1 hq).1;have R1:M9 E { st with sg:=st.sg.set i (.opn sz' pre (ds.set (idx-pre.length) u.1)) } a w'.heap:=by
   refine⟨Rl.size,Rl.Ba,Rl.Dm,by simpa using Rl.n,λt v hv=>(Rl.AA t v hv).mono P1 hs (by simp) (by simp),λs' cs' FD=>(Rl.Ad s' cs' FD).mono P1 hs (by simp) (by simp),λi' ob hi=>?_,λb o' HV=>Rl.fresh b o' (by rw[<- S.size];exact HV)⟩;by_cases EE:i=i'
   ·subst EE;simp only[z4q Kq,D9]at hi;subst hi;simp only[RO];obtain⟨c',e1',e2',e3'⟩:=S.ex;refine⟨c',TT,f,e1',by rw[zvq];exact b2,by rw[e2'];exact b2',b3,b4,λj d' FU=>(b5 j d' FU).mono hs,λj d' FU=>?_⟩;by_cases hj:idx-pre.length=j
    ·subst hj;rw[z4q hi2]at FU;simp only[D9]at FU;subst FU;have e4:pre.length+(idx-pre.length)=idx:=by omega
     refine⟨(a.eval v).cells.toList,by simp;omega,λy q hq=>?_,hRC.mono hs⟩;have hy:y<sz':=by have:=(z0q.1 hq).1;simp at this;omega
     rw[e4,e3',D5 (by simp;omega),<- hq];congr 1;omega
    ·rw[z5q hj]at FU;obtain⟨us,u1,u2,u3⟩:=b6 j d' FU;refine⟨us,u1,λy q hq=>?_,u3.mono hs⟩;have hy:y<sz':=by have:=(z0q.1 hq).1;omega
     rw[e3',C8,u2 y q hq];rintro⟨c1,c2⟩;simp at c2;have:=A9y (sz:=sz') (i:=idx) (i':=pre.length+j) (j:=(pre.length+j) * sz'+y-idx * sz') (j':=y) (by omega) hy (by omega);omega
   ·simp only[z5q EE]at hi;exact(Rl.V8 i' ob hi).mono P1 hs (Dc Rl hi) (by simp;exact λh=>EE h.symm) (by simp)
  exact Ou (KL I1 (by rw[e1.2]) hw) (T E _ _ w' H9 (R1.put λt0 _=>lq t0) (P1.Au (by rintro T rfl;simp[Q4])) S.out)
 ·-- an element of a vector
  rename_i i n sz idx off hm;rw[hm]at e1;simp only[RR,O0]at e1;obtain⟨p,hp,H⟩:=D8 H;obtain⟨d,hd,H⟩:=D8 H;obtain⟨Ak,H⟩:=I9 H;have hp:=iN hp;have Ak:p.1=sz:=by simpa using Ak
  rw[Ak]at hp;obtain⟨-,-,-,eb,ep,ev,ex⟩:=e1;have B:=Rl.V8 i _ hp;simp only[RO]at B;obtain⟨rfl,rfl⟩:=ex B.1;split at H
  ·obtain⟨xs,H,hl,A_⟩:=gq hz e2 H;obtain⟨e,he,H9⟩:=D8 H;obtain⟨w',hw,R1,P1,ho⟩:=B1Z (P:=C.P) hz Rl hp hd (v:=a.eval v) (by have:=A_.1;simp at this;omega) (xs:=xs) (by have:=A_.1;simpa using this) (λj r' v' hr hv=>let⟨q1,q2⟩:=A_.2 j r' v' hr hv;⟨q1.1,q1.2.1,q1.2.2.2⟩) he;exact Ou (KL I1 ev hw) (T E _ _ w' H9 (R1.put λt0 _=>lq t0) (P1.Au (by rintro T rfl;simp[Q4])) ho)
  ·rename_i hz2;have xq:=Hu (by simpa using hz2);obtain⟨cc,H,hmm,A_⟩:=au e2 H;obtain⟨e,he,H9⟩:=D8 H;have bS:=cells_one A_.2.1;obtain⟨w',hw,R1,P1,ho⟩:=B1Z (P:=C.P) hz Rl hp hd (v:=a.eval v) (by rw[bS,xq];rfl) (xs:=[cc]) (by rw[bS];rfl) (λj r' v' hr hv=>by
    rw[bS]at hv;cases j with
    |succ j=>simp at hr
    |zero=>
      have Bh:r'=cc:=by simpa using hr.symm
      have PN:v'=a.eval v:=by simpa using hv.symm
      rw[Bh,PN];exact⟨A_.1,A_.2.1,A_.2.2.2⟩) he
   exact Ou (KL I1 ev hw) (T E _ _ w' H9 (R1.put λt0 _=>lq t0) (P1.Au (by rintro T rfl;simp[Q4])) ho)
 ·simp at H
end
end Go.Su
