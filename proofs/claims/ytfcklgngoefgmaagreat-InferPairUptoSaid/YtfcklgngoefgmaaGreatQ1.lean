/-
  Parts of the proof, merged: SuData, SuEval, SuRel, SuState, SuBase, SuOp1, SuOp2, SuOp3, SuOp4, SuOp5, SuOp6, SuOp7, SuOp8.
-/
import Derived.Calls
import Derived.Control
import Derived.Laws.Cells
import Derived.Laws.Entries
import Derived.Laws.Sem
import Derived.Laws.Slices
import Derived.Laws.StructEq
import Derived.Laws.Tables
import Derived.Laws.World
import Derived.LoopN
import Derived.Orders
set_option linter.defProp false
set_option linter.unusedSectionVars false
set_option linter.unusedSimpArgs false
set_option linter.unusedVariables false
open Array renaming getElem?_eq_some_iff → z4q, getElem?_eq_getElem → zpq, getElem?_setIfInBounds_self_of_lt → zqq, getElem?_setIfInBounds_ne → ztq, size_push → zxq, toList_extract → zIq
open Bool renaming and_eq_true → z8q, false_eq_true → zhq
open List renaming getElem?_eq_some_iff → z0q, getD_eq_getElem?_getD → z1q, getElem?_cons_zero → z2q, getElem?_eq_getElem → z3q, getElem?_take_of_lt → z6q, getElem?_set_self → z7q, getElem?_drop → z9q, getElem?_map → zbq, getElem?_append_right → zcq, getElem?_set_ne → zdq, getElem?_append_left → zeq, getElem?_cons_succ → zfq, length_take → zgq, length_drop → zjq, getElem?_eq_none → znq, eq_nil_of_length_eq_zero → zuq, mem_of_getElem? → zyq, extract_eq_take_drop → zzq, tail_drop → zBq, size_toArray → zEq, all_eq_true → zFq, length_cons → zGq, mem_cons → zHq, getElem?_range → zJq, getElem?_take → zKq, append_assoc → zNq, zipIdx_cons → zQq, length_map → zTq, length_set → zUq, drop_drop → zVq, map_cons → zWq
open Nat renaming le_refl → z5q, lt_of_lt_of_le → ziq, add_zero → zkq, mul_le_mul_right → zlq, add_assoc → zmq, succ_mul → zrq, sub_self → zsq, lt_or_ge → zvq, zero_add → zwq, lt_succ_self → zDq, add_comm → zLq, le_trans → zMq, mul_comm → zOq, div_eq_of_lt → zPq, mul_add_div → zRq, add_mul → zSq
open Option renaming map_eq_some_iff → zaq, map_some → zoq, getD_some → zAq, isNone_iff_eq_none → zCq
namespace Go.Su
section
def D8{α : Type _}(a b : α):(some a=some b)=(a=b):=Option.some.injEq a b
def I6{p:Prop}[Decidable p]:(decide p=true)=p:=decide_eq_true_eq
def QE{p:Prop}{_:Decidable p}:(decide p=false)↔¬p:=decide_eq_false_iff_not
def A9{c:Prop}{_:Decidable c}(hc:c){α : Sort _}{t e : α}:ite c t e=t:=if_pos hc
def A7{c:Prop}{_:Decidable c}(hc:¬c){α : Sort _}{t e : α}:ite c t e=e:=if_neg hc
def F6{α : Sort _}{_:Decidable True}(t e : α):ite True t e=t:=if_true t e
def G9{α : Sort _}{_:Decidable False}(t e : α):ite False t e=e:=if_false t e
def J9(h:Decidable True):@decide True h=true:=decide_true h
def T9(h:Decidable False):@decide False h=false:=decide_false h
inductive DV where
 |undef
 |int (k:IntKind) (n:Int)
 |bool (b:Bool)
 |str (s:ByteArray)
 |agg (cs:List DV)
 |J6 (cs:List DV)
 |list (sz:Nat) (ds:List DV)
 |R_
 |Vi (sz:Nat) (d:DV)
 deriving Inhabited
inductive F4 where
 |val
 |full
 |own
 |loc (s o:Nat)
 |Qg (ag:Bool) (sz o:Nat)
 |ptr (i o:Nat)
 |KX
 |map (i:Nat)
 |Rz
 |arr (i sz off len:Nat)
 |Xz (i sz idx o:Nat)
 |opt (i sz idx:Nat)
 |P9 (i n sz len:Nat)
 |gK (i n sz idx o:Nat)
 |fn (f:FuncId) (caps:List (Nat×Nat))
 |Cg (ms:List F4)
 |EZ (ms:List F4)
 |U0 (i n sz:Nat)
 |Hr (ks:Bool)
 deriving Inhabited
inductive E5 where
 |box (cs:List (DV×F4))
 |arr (sz:Nat) (ds:List DV)
 |map (ks:Bool) (es:List (DV×DV))
 |opn (sz:Nat) (pre ds:List DV)
 |P9 (n sz:Nat) (ds:List DV)
 |U0 (n sz len:Nat)
 deriving Inhabited
structure St where
 tm:List DV
 mt:List F4
 bx:List (Option (List (DV×F4)))
 sg:List E5
variable {β : Type}
def ob{α : Type}(x:Option α)(f : α->Option β):Option β :=
 match x with
 |some a=>f a
 |none=>none
variable (d:DV)
def G8(t e:Option β):Option β :=
 match d with
 |.bool true=>t
 |.bool false=>e
 |_=>none
def og(t:Bool)(x:Option β):Option β :=
 match t with
 |true=>x
 |false=>none
def I5(n:Nat):DV->Bool
 |.agg cs=>cs.length==n
 |_=>false
def C8(j:Nat):DV->DV
 |.agg cs=>cs.getD j .undef
 |_=>.undef
def cells(n o:Nat)(d:DV):List DV:=(List.range n).map λj=>C8 (o+j) d
def M8:DV->Bool
 |.agg _ | .J6 _=>false
 |_=>true
def I9:DV->Bool
 |.int _ _=>true
 |.bool _=>true
 |.str _=>true
 |.list _ _=>true
 |.R_=>true
 |.Vi _ _=>true
 |_=>false
variable (sz:Nat)
def B0v:DV->Option DV
 |.Vi sz' d=>if sz'=sz then some d else none
 |_=>none
def O6:DV->Option DV
 |.list _ ds=>some (.int .i64 ds.length)
 |_=>none
def A47:DV->Option (Nat×List DV)
 |.list sz ds=>some (sz,ds)
 |_=>none
def Ez:DV->Option DV
 |.str s=>some (.int .i64 s.size)
 |_=>none
def O0(d i:DV):Option DV :=
 match d,i with
 |.list sz' ds,.int _ n=>if sz'=sz/\0<=n then ds[n.toNat]? else none
 |_,_=>none
def IM(i:DV):Option DV :=
 match d,i with
 |.str s,.int _ n=>if 0<=n then(s.data[n.toNat]?).map λb=>.int .u8 b.toNat else none
 |_,_=>none
def R6:Nat:=2 ^ 32
def Dh(d e:DV):Option DV :=
 match d,e with
 |.list a ds,.list b es=>if (a=sz/\b=sz)/\ds.length+es.length<=R6 then some (.list sz (ds++es))else none
 |_,_=>none
def KJ(d e:DV):Option (List DV×List DV) :=
 match d,e with
 |.list a ds,.list b es=>if (a=sz/\b=sz)/\ds.length+es.length<=R6/\0<es.length then some (ds,es)else none
 |_,_=>none
def bnd(dflt:Nat):Option DV->Option Nat
 |none=>some dflt
 |some (.int _ n)=>if 0<=n then some n.toNat else none
 |_=>none
def OO(d:DV)(lo hi:Option DV):Option DV :=
 match d with
 |.list sz' ds=>ob (bnd ds.length hi) λh=>ob (bnd 0 lo) λl=>if sz'=sz/\l<=h/\h<=ds.length then some (.list sz ((ds.take h).drop l))else none
 |_=>none
def jS(lo hi:Option DV):Option DV :=
 match d with
 |.str s=>ob (bnd s.size hi) λh=>ob (bnd 0 lo) λl=>if l<=h/\h<=s.size then some (.str (s.extract l h))else none
 |_=>none
def Zz(d:DV)(lo:Option DV)(hi mx:DV):Option DV :=
 match hi,mx with
 |.int _ h,.int _ m=>if h=m then OO sz d lo (some hi)else none
 |_,_=>none
inductive LK where
 |int | bool | str
def B0r(k:LK)(x y:DV):Option Bool :=
 match k,x,y with
 |.int,.int k a,.int k' b=>if k=k' then some (a==b)else none
 |.bool,.bool a,.bool b=>some (a==b)
 |.str,.str a,.str b=>some (a.toList==b.toList)
 |_,_,_=>none
def Ay:List LK->List DV->List DV->Option Bool
 |[],[],[]=>some true
 |k::ks,x::xs,y::ys=>ob (B0r k x y) λb=>if b then Ay ks xs ys else some false
 |_,_,_=>none
def Qv:List UInt8->List UInt8->Bool
 |_,[]=>false
 |[],_::_=>true
 |a::x,b::y=>a<b||(a==b&&Qv x y)
def Oi:BinOp->Bool
 |.shl=>true
 |.shr=>true
 |_=>false
variable (op:BinOp)(k:IntKind)
def B2j(a b:Int):Option DV :=
 if b<0 then none else
 match op with
 |.shl=>some (.int k (k.wrap (a * 2 ^ (min b.toNat k.bits))))
 |.shr=>some (.int k (a.fdiv (2 ^ (min b.toNat k.bits))))
 |_=>none
def QC(a b:Int):Option DV :=
 match op with
 |.add=>some (.int k (k.wrap (a+b)))
 |.sub=>some (.int k (k.wrap (a-b)))
 |.mul=>some (.int k (k.wrap (a * b)))
 |.eql=>some (.bool (a==b))
 |.neq=>some (.bool (a != b))
 |.lss=>some (.bool (a<b))
 |.leq=>some (.bool (a<=b))
 |.gtr=>some (.bool (a>b))
 |.geq=>some (.bool (a ≥ b))
 |.quo=>if b=0 then none else some (.int k (k.wrap (a.tdiv b)))
 |.rem=>if b=0 then none else some (.int k (a.tmod b))
 |.and=>some (.int k (k.wrap (BitVec.ofInt k.bits a &&& BitVec.ofInt k.bits b).toNat))
 |.or=>some (.int k (k.wrap (BitVec.ofInt k.bits a ||| BitVec.ofInt k.bits b).toNat))
 |.xor=>some (.int k (k.wrap (BitVec.ofInt k.bits a ^^^ BitVec.ofInt k.bits b).toNat))
 |_=>none
def jT(a b:ByteArray):Option DV :=
 match op with
 |.add=>if a.size+b.size<=R6 then some (.str (a++b))else none
 |.eql=>some (.bool (a.toList==b.toList))
 |.neq=>some (.bool !(a.toList==b.toList))
 |.lss=>some (.bool (Qv a.toList b.toList))
 |.leq=>some (.bool (Qv a.toList b.toList||a.toList==b.toList))
 |.gtr=>some (.bool !(Qv a.toList b.toList||a.toList==b.toList))
 |.geq=>some (.bool !Qv a.toList b.toList)
 |_=>none
variable (x:DV)
def D7(y:DV):Option DV :=
 match x,y with
 |.int k a,.int k' b=>match Oi op with
   |true=>B2j op k a b
   |false=>if k=k' then QC op k a b else none
 |.str a,.str b=>jT op a b
 |_,_=>none
def B0q(y:DV):Option Bool :=
 match x,y with
 |.bool a,.bool b=>some (a==b)
 |_,_=>none
def tY(ks:List LK)(x y:DV):Option Bool :=
 match x,y with
 |.agg xs,.agg ys=>Ay ks xs ys
 |_,_=>none
def l8(op:UnOp)(x:DV):Option DV :=
 match op,x with
 |.not,.bool b=>some (.bool !b)
 |.neg,.int k n=>some (.int k (k.wrap (0-n)))
 |_,_=>none
def A48(c a b:DV):Option DV :=
 match c with
 |.bool true=>some a
 |.bool false=>some b
 |_=>none
def zT(y:DV):Option DV :=
 match x,y with
 |.int k a,.int k' b=>if k=k' then some (.int k (if b>a then b else a))else none
 |_,_=>none
def ae(y:DV):Option DV :=
 match x,y with
 |.int k a,.int k' b=>if k=k' then some (.int k (if b<a then b else a))else none
 |_,_=>none
def A46:DV->Option DV
 |.int _ n=>some (.int k (k.wrap n))
 |_=>none
def Q0(i:Nat):DV->Option DV
 |.J6 cs=>cs[i]?
 |_=>none
def FV(y:DV):Bool :=
 match x,y with
 |.int _ a,.int _ b=>a==b
 |.str a,.str b=>a.toList==b.toList
 |_,_=>false
def Z4(ks:Bool):DV->Bool
 |.int k _=> !ks&&k == .i64
 |.str _=>ks
 |_=>false
def V7(es:List (DV×DV))(k:DV):Option DV:=(es.find? λe=>FV k e.1).map (·.2)
def Bb:List (DV×DV)->DV->DV->List (DV×DV)
 |[],k,v=>[(k,v)]
 |e::es,k,v=>if FV k e.1 then(e.1,v)::es else e::Bb es k v
abbrev CB:DV:=.agg [C8 0 d,C8 1 d,C8 2 d]
abbrev Ta:DV:=.agg [C8 0 d,C8 1 d,C8 2 d,C8 3 d,C8 4 d,C8 5 d,C8 6 d]
abbrev X5:DV:=.agg [C8 0 d,C8 1 d,C8 2 d,C8 3 d,C8 4 d,C8 5 d,C8 6 d,C8 7 d,C8 8 d,C8 9 d,C8 10 d,C8 11 d,C8 12 d,C8 13 d,C8 14 d,C8 15 d]
abbrev iI(n:Int):DV:=.int .i64 n
end
noncomputable section
inductive MK where
 |val | own
 |ptr
 |Yb (n:Nat) (os:List Nat)
 deriving Inhabited
structure j3 where
 params:List MK
 results:List MK
 lock:Bool:=false
structure H8 where
 Q4:List Nat:=[]
 shared:List Nat:=[]
 hide:List Nat:=[]
 opn:List Nat:=[]
 Dn:List Nat:=[]
 PK:List Nat:=[]
 B52:List (Nat×Nat):=[]
 refs:List (Nat×Nat):=[]
 Yo:List Nat:=[]
 Oy:List Nat:=[]
 grow:List (Nat×Nat×List Nat):=[]
 Hr:List Nat:=[]
 B5U:List (Nat×List Nat):=[]
 keep:List (Nat×List Nat×List Nat×List Nat×List Nat):=[]
inductive Cut:Type
inductive B7v:Type
structure BQ where
 P:Program
 fl:FuncId->H8
 sig:FuncId->Option j3
 vO:FuncId->Option Cut
 clone:FuncId->Bool
 jO:FuncId->Nat
 fO:FuncId->Option FuncId:=λ_=>none
 iter:FuncId->Option (List DV->Option (List DV)):=λ_=>none
 ref:TypeId->Bool:=λ_=>false
 B4e:FuncId->Option B7v:=λ_=>none
 dfn:FuncId->Bool:=λ_=>false
structure O8 where
 p:FuncId->List DV->Option DV
 r:FuncId->List (DV×F4)->List E5->Option (List DV×List E5)
def A6J:TypeDesc->Bool
 |.struct _=>true
 |.array _ _=>true
 |_=>false
variable (P:Program)(t:TypeId)
def tz:Option (Nat×Bool) :=ob (P.info? t) λi=>ob (P.underlying t) λd=>if A6J d||i.size==1 then some (i.size,A6J d)else none
def JB:Option TypeId :=
 match P.underlying t with
 |some (.slice e)=>some e
 |_=>none
def A9m(f:Nat):Option Field :=
 match P.underlying t with
 |some (.struct fs)=>fs[f]?
 |_=>none
def B7R:Nat :=
 match JB P t with
 |some e=>match tz P e with
   |some z=>z.1
   |none=>0
 |none=>0
def cst:Value->Option (DV×F4)
 |.int k n=>some (.int k n,.val)
 |.bool b=>some (.bool b,.val)
 |.string s=>some (.str s,.val)
 |.slice none 0 0=>some (.list (B7R P t) [],.full)
 |.pointer none=>some (.R_,.KX)
 |.map none=>some (.undef,.Rz)
 |_=>none
def ky(P:Program):Nat->TypeId->Option (List TypeId)
 |0,_=>none
 |n+1,t=>
   match P.underlying t with
   |some (.struct fs)=>fs.toList.foldr (λf acc=>ob (ky P n f.type) λl=>ob acc λr=>some (l++r)) (some [])
   |some (.array m e)=>ob (ky P n e) λl=>some (List.replicate m l).flatten
   |some _=>some [t]
   |none=>none
def SL(P:Program):List TypeId->List Value->Option (List (DV×F4))
 |[],[]=>some []
 |t::ts,v::vs=>ob (cst P t v) λr=>ob (SL P ts vs) λrs=>some (r::rs)
 |_,_=>none
def MC:Option (List (DV×F4)) :=ob (ky P 8 t) λts=>ob (P.info? t) λi=>ob i.zero λv=>SL P ts v.cells.toList
def Xy:F4->F4
 |.own=>.val
 |.Hr _=>.val
 |m=>m
def dm:F4->F4
 |.own=>.val
 |.Cg ms=>.Cg (ms.map Xy)
 |.EZ ms=>.EZ (ms.map Xy)
 |.Hr _=>.val
 |m=>m
def K6:F4->Bool
 |.val=>true
 |.full=>true
 |.own=>true
 |.KX=>true
 |.EZ ms=>ms.all λm=>match m with
   |.val=>true
   |.full=>true
   |.own=>true
   |.KX=>true
   |_=>false
 |_=>false
def Z0:F4->Bool
 |.val=>true
 |.full=>true
 |.own=>true
 |.ptr _ _=>true
 |.KX=>true
 |.map _=>true
 |.Rz=>true
 |.arr _ _ _ _=>true
 |.P9 _ _ _ _=>true
 |.fn _ _=>true
 |.U0 _ _ _=>true
 |_=>false
variable (st:St)
def St.get(t:Nat):DV×F4:=(st.tm.getD t .undef,st.mt.getD t .val)
variable (dst:Option Nat)(d:DV)(m:F4)
def St.put:St :=
 match dst with
 |none=>st
 |some t=>{ st with tm:=st.tm.set t d,mt:=st.mt.set t m }
def St.release:Operand->St
 |.tmp t=>{ st with mt:=st.mt.set t (dm (st.mt.getD t .val)) }
 |_=>st
variable (x:Operand)
def St.qB(m:F4):St :=
 match x with
 |.tmp t=>{ st with mt:=st.mt.set t m }
 |_=>st
def Lj(s:Nat):F4->F4
 |.loc s' o=>if s'=s then .val else .loc s' o
 |m=>m
variable (shared:Bool)
def St.FX(dst:Option Nat)(cs:List (DV×F4)):St :=
 match dst with
 |none=>st
 |some t=>
   if shared then{ st with sg:=st.sg++[E5.box cs] }.put dst .undef (.ptr st.sg.length 0)
   else{ st with mt:=st.mt.map (Lj t),bx:=st.bx.set t (some cs) }.put dst .undef (.loc t 0)
def MN(t:Nat)(mt:List F4):Bool :=
 mt.all λm=>match m with
  |.loc s _=>s != t
  |_=>true
def Qu(dst:Option Nat)(st:St):Bool :=
 match dst with
 |none=>true
 |some t=>shared||MN t st.mt
def XY{α : Type}(ts:List Nat)(d : α):Nat->List α->List α
 |_,[]=>[]
 |i,x::xs=>(if ts.contains i then x else d)::XY ts d (i+1) xs
def Pj:F4->F4
 |.full=>.own
 |m=>m
def cK{α : Type}(f : α -> α)(ts:List Nat):Nat->List α->List α
 |_,[]=>[]
 |i,x::xs=>(if ts.contains i then f x else x)::cK f ts (i+1) xs
def XC:Option (List (DV×F4))->Option (List (DV×F4))
 |some cs=>some (cs.map λc=>(c.1,Pj c.2))
 |none=>none
def Xa:F4:=if K6 m then .val else m
def qC:Option (List (DV×F4))->Option (List (DV×F4))
 |some cs=>some (cs.map λc=>(c.1,Xa c.2))
 |none=>none
def St.keep(ts bs os vs:List Nat):St :={ st with tm:=XY ts .undef 0 st.tm,mt:=cK Xa vs 0 (cK Pj os 0 (XY ts .val 0 st.mt)),bx:=cK qC vs 0 (cK XC os 0 (XY bs none 0 st.bx)) }
def src:Operand->Option (DV×F4)
 |.tmp x=>some (st.get x)
 |.const v=>cst P t v
 |.func f=>some (.undef,.fn f [])
 |.global _=>none
def Ka(P:Program)(st:St):List TypeId->List Operand->Option (List (DV×F4))
 |t::ts,x::xs=>ob (src P t st x) λr=>ob (Ka P st ts xs) λrs=>some (r::rs)
 |[],x::xs=>ob (src P 0 st x) λr=>ob (Ka P st [] xs) λrs=>some (r::rs)
 |_,[]=>some []
def qG:List DV->List F4->List (DV×F4)
 |d::ds,m::ms=>(d,m)::qG ds ms
 |_,_=>[]
variable (n:Nat)
def jM(r:DV×F4):Option (List (DV×F4)) :=
 match r.2 with
 |.val=>some ((cells n 0 r.1).map λd=>(d,.val))
 |.EZ ms=>if ms.length=n then some (qG (cells n 0 r.1) ms)else none
 |_=>none
variable {X:Type}
def cellOf(r:DV×F4)(k:DV×F4->Option X):Option X :=
 match r.2 with
 |.val=>og (I9 r.1) (k (r.1,.val))
 |.full=>k (r.1,.full)
 |.own=>k (r.1,.own)
 |.KX=>k (.R_,.KX)
 |.U0 i n sz=>k (r.1,.U0 i n sz)
 |m=>og (Z0 m) (k (.undef,m))
def IQ(r:DV×F4)(k:List (DV×F4)->Option X):Option X :=
 ob (tz P t) λz=>
  if z.2 then og (I5 z.1 r.1) (ob (jM z.1 r) λcs=>k (cs.map λc=>(c.1,dm c.2)))
  else cellOf r λc=>k [(c.1,dm c.2)]
def Jp(r:DV×F4)(k:List (DV×F4)->Option X):Option X :=
 ob (tz P t) λz=>
  if z.2 then og (I5 z.1 r.1) (ob (jM z.1 r) k)
  else cellOf r λc=>k [(c.1,dm c.2)]
def FC{α : Type}(l:List α)(o:Nat)(cs:List α):List α := l.take o++cs++l.drop (o+cs.length)
def B7C:Option (Nat×TypeId) :=
 match P.underlying t with
 |some (.array n e)=>some (n,e)
 |_=>none
def places:Option (List (Nat×Nat)) :=
 match P.underlying t with
 |some (.struct fs)=>fs.toList.mapM λf=>(P.info? f.type).map λi=>(f.offset,i.size)
 |some (.array _ e)=>(P.info? e).map λi=>[(0,i.size)]
 |_=>none
variable (i:Nat)
def partAt:Option (TypeId×Nat) :=
 match P.underlying t with
 |some (.struct fs)=>fs[i]?.map λf=>(f.type,f.offset)
 |some (.array _ e)=>(P.info? e).map λq=>(e,i * q.size)
 |_=>none
def Gw{X:Type}(P:Program)(t:TypeId)(st:St):List (Nat×Operand)->List (DV×F4)->(List (DV×F4)->Option X)->Option X
 |[],cs,k=>k cs
 | (i,x)::rest,cs,k=>ob (partAt P t i) λf=>ob (src P f.1 st x) λr=>IQ P f.1 r λxs=>if f.2+xs.length<=cs.length then Gw P t st rest (FC cs f.2 xs) k else none
variable (cs:List (DV×F4))
def XR:DV×F4:=(.agg (cs.map (·.1)),.EZ (cs.map λc=>dm c.2))
def Oe(z:Nat×Bool)(r:DV×F4)(k:DV->Option X):Option X :=og (K6 r.2) (if z.2 then og (I5 z.1 r.1) (k r.1)else og (I9 r.1) (k r.1))
def iq:Option (DV×F4) :=
 match x with
 |.const (.agg vs)=>ob (ky P 8 t) λts=>ob (SL P ts vs.toList) λrs=>og (rs.all λc=>K6 c.2) (some (.agg (rs.map (·.1)),.val))
 |x=>src P t st x
def JR{X:Type}(P:Program)(e:TypeId)(z:Nat×Bool)(st:St):List (Nat×Operand)->List DV->(List DV->Option X)->Option X
 |[],ds,k=>k ds
 | (i,x)::rest,ds,k=>ob (iq P e st x) λr=>Oe z r λd=>if i<ds.length then JR P e z st rest (ds.set i d) k else none
def qF(z:Nat×Bool)(cs:List (DV×F4)):Option DV :=
 if z.2 then some (.agg (cs.map (·.1)))
 else match cs with
  |[c]=>some c.1
  |_=>none
variable (sg:List E5)
def H5(i:Nat):Option (List (DV×F4)) :=
 match sg[i]? with
 |some (.box cs)=>some cs
 |_=>none
def RL(i:Nat):Option (Nat×List DV) :=
 match sg[i]? with
 |some (.arr sz ds)=>some (sz,ds)
 |_=>none
def Lc(i:Nat):Option (Nat×List DV×List DV) :=
 match sg[i]? with
 |some (.opn sz pre ds)=>some (sz,pre,ds)
 |_=>none
def V5(i n:Nat):Option (Nat×List DV) :=
 match sg[i]? with
 |some (.P9 n' sz ds)=>if n'=n then some (sz,ds)else none
 |_=>none
def aG(q:Nat×List DV×List DV)(idx:Nat)(e:DV):Option E5 :=if q.2.1.length<=idx/\idx-q.2.1.length<q.2.2.length then some (.opn q.1 q.2.1 (q.2.2.set (idx-q.2.1.length) e))else none
def TJ(q:Nat×List DV×List DV)(sz len:Nat):Option DV :=if q.1=sz/\q.2.1.length+q.2.2.length=len/\0<len then some (.list sz (q.2.1++q.2.2))else none
def Q5(i:Nat):Option (Bool×List (DV×DV)) :=
 match sg[i]? with
 |some (.map ks es)=>some (ks,es)
 |_=>none
variable (o:Nat)
def U6:Option DV :=
 match cs[o]? with
 |some (d,.val)=>some d
 |some (d,.full)=>some d
 |some (d,.own)=>some d
 |some (d,.KX)=>some d
 |some (d,.U0 _ _ _)=>some d
 |_=>none
variable (sz:Nat)
def Qw:Option (DV×Nat×Nat) :=
 match cs[o]? with
 |some (d,.U0 i n sz')=>if sz'=sz then some (d,i,n)else none
 |_=>none
def QR(sg:List E5)(b:Nat):List Nat->Option (List E5)
 |[]=>some sg
 |o::os=>ob (H5 sg b) λcs=>
   match cs[o]? with
   |some (.list sz [],.full)=>if 0<sz then QR (sg.set b (.box (cs.set o (.list sz [],.U0 sg.length 1 sz)))++[.U0 1 sz 0]) b os else none
   |_=>none
def B0M:F4->Option (Nat×Nat×Nat)
 |.U0 i n sz=>some (i,n,sz)
 |_=>none
def Sb(i n sz:Nat)(d s:DV):Option (DV×List E5) :=
 match sg[i]? with
 |some (.U0 n' sz' len)=>if n'=n/\sz'=sz then ob (KJ sz d s) λp=>if len=p.1.length then some (.list sz (p.1++p.2),sg.set i (.U0 (n+1) sz (p.1.length+p.2.length)))else none else none
 |_=>none
def wQ:Option DV :=
 match cs[o]? with
 |some (d,.full)=>some d
 |some (d,.own)=>some d
 |_=>none
def wP:Option (Nat×Nat×Nat) :=
 match cs[o]? with
 |some (_,.arr i sz 0 len)=>some (i,sz,len)
 |_=>none
def Ao:Option (Nat×Nat×Nat) :=
 match cs[o]? with
 |some (_,.P9 i n sz' len)=>if sz'=sz then some (i,n,len)else none
 |_=>none
def B1N(i off:Nat)(cs:List (DV×F4))(sz:Nat):Option (List E5×Nat×Nat×Nat) :=
 match cs[off]? with
 |some (_,.P9 j n sz' len)=>if sz'=sz then some (sg,j,n,len)else none
 |some (.list sz' [],.full)=>if sz'=sz/\0<sz then some (sg.set i (.box (cs.set off (.undef,.P9 sg.length 1 sz 0)))++[.P9 1 sz []],sg.length,1,0)else none
 |_=>none
def Bn:Option Nat :=
 match cs[o]? with
 |some (_,.map i)=>some i
 |_=>none
def X8:Option Nat :=
 match cs[o]? with
 |some (_,.ptr i 0)=>some i
 |_=>none
def Vo:Nat->Nat->List (DV×F4)->Option (List DV)
 |_,0,_=>some []
 |o,n+1,cs=>ob (U6 cs o) λd=>ob (Vo (o+1) n cs) λds=>some (d::ds)
inductive B3N where
 |dat | map | ptr
variable (C:BQ)
def B37(t:TypeId):B3N :=
 match C.P.underlying t with
 |some (.map _ _)=>.map
 |some (.pointer _)=>if C.ref t then .dat else .ptr
 |_=>.dat
def A0x:Option DV :=
 ob (P.info? t) λi=>ob i.zero λv=>
  match v with
  |.agg vs=>ob (ky P 8 t) λts=>ob (SL P ts vs.toList) λrs=>og (rs.all λc=>K6 c.2) (some (.agg (rs.map (·.1))))
  |v=>ob (cst P t v) λr=>og (K6 r.2) (some r.1)
def mapKeys:Option (Bool×TypeId) :=
 match P.underlying t with
 |some (.map kt et)=>
   match P.underlying kt with
   |some (.int .i64)=>some (false,et)
   |some .string=>some (true,et)
   |_=>none
 |_=>none
section
variable {X:Type}(C:BQ)(R:O8)
def I8(l:List Nat):Option Nat->Bool
 |some t=>l.contains t
 |none=>false
def Wx(c:DV×F4):DV×F4 :=
 match c.2 with
 |.arr _ _ _ _=>(.undef,.val)
 |_=>c
def Cc(fl:H8)(o:Oper)(t:TypeId)(x:Operand)(st:St)(k:St->Option X):Option X :=
 ob (src C.P 0 st x) λr=>ob (tz C.P t) λz=>
  match r.2 with
  |.loc s off=>ob (st.bx.getD s none) λcs=>
    if off+z.1<=cs.length then
     if z.2 then
      let seg:=(cs.drop off).take z.1
      if I8 fl.Q4 o.dst then
       k ({ st with bx:=st.bx.set s (some (FC cs off (seg.map λc:DV×F4=>(c.1,dm c.2)))) }.put o.dst (.agg (seg.map λc:DV×F4=>c.1)) (.EZ (seg.map λc:DV×F4=>c.2)))
      else
       let a:=XR (if I8 fl.hide o.dst then seg.map Wx else seg)
       k (st.put o.dst a.1 a.2)
     else
      let c:=cs.getD off (.undef,.val)
      if I8 fl.Q4 o.dst then k ({ st with bx:=st.bx.set s (some (cs.set off (c.1,dm c.2))) }.put o.dst c.1 c.2)
      else k (st.put o.dst c.1 (dm c.2))
    else none
  |.Qg ag sz off=>
    if off+z.1<=sz then
     if z.2 then og ag (k (st.put o.dst (.agg (cells z.1 off r.1)) .val))
     else k (st.put o.dst (if ag then C8 off r.1 else r.1) .val)
    else none
  |.ptr i off=>ob (H5 st.sg i) λcs=>
    if z.2 then og (z.1 != 0) (ob (Vo off z.1 cs) λds=>k (st.put o.dst (.agg ds) .val))
    else match B37 C t with
     |.map=>ob (Bn cs off) λj=>k (st.put o.dst .undef (.map j))
     |.ptr=>ob (X8 cs off) λj=>k (st.put o.dst .undef (.ptr j 0))
     |.dat=>
       if I8 fl.Oy o.dst then
        ob (JB C.P t) λe=>ob (tz C.P e) λze=>ob (Qw cs off ze.1) λq=>k (st.put o.dst q.1 (.U0 q.2.1 q.2.2 ze.1))
       else if I8 fl.PK o.dst then
        ob (JB C.P t) λe=>ob (tz C.P e) λze=>ob (Ao cs off ze.1) λq=>k (st.put o.dst .undef (.P9 q.1 q.2.1 ze.1 q.2.2))
       else if I8 fl.Dn o.dst then
        ob (JB C.P t) λe=>ob (tz C.P e) λze=>ob (B1N st.sg i off cs ze.1) λq=>k ({ st with sg:=q.1 }.put o.dst .undef (.P9 q.2.1 q.2.2.1 ze.1 q.2.2.2))
       else if I8 fl.Q4 o.dst then
        ob (wQ cs off) λd=>k ({ st with sg:=st.sg.set i (.box (cs.set off (d,.val))) }.put o.dst d .own)
       else ob (U6 cs off) λd=>k (st.put o.dst d .val)
  |.Xz i sz idx off=>ob (RL st.sg i) λa=>ob a.2[idx]? λd=>
    og (a.1==sz)
     (if off+z.1<=sz then
       if z.2 then k (st.put o.dst (.agg (cells z.1 off d)) .val)
       else if sz=1 then og (M8 d) (k (st.put o.dst d .val))else k (st.put o.dst (C8 off d) .val)
     else none)
  |.gK i n sz idx off=>ob (V5 st.sg i n) λa=>ob a.2[idx]? λd=>
    og (a.1==sz)
     (if off+z.1<=sz then
       if z.2 then k (st.put o.dst (.agg (cells z.1 off d)) .val)
       else if sz=1 then og (M8 d) (k (st.put o.dst d .val))else k (st.put o.dst (C8 off d) .val)
     else none)
  |_=>none
def Kj(sz off:Nat)(d:DV)(xs:List (DV×F4)):Option DV :=
 match d with
 |.agg cs=>if xs.all (λc=>K6 c.2&&M8 c.1)=true/\cs.length=sz/\off+xs.length<=sz then some (.agg (FC cs off (xs.map (·.1))))else none
 |d=>
   match xs with
   |[c]=>if M8 d=true/\(K6 c.2&&M8 c.1)=true/\sz=1/\off=0 then some c.1 else none
   |_=>none
def Dj(o:Oper)(t:TypeId)(x y:Operand)(st:St)(k:St->Option X):Option X :=
 ob (src C.P 0 st x) λr=>ob (src C.P t st y) λv=>ob (tz C.P t) λz=>
  match r.2 with
  |.loc s off=>ob (st.bx.getD s none) λcs=>
    if z.2 then Jp C.P t v λxs=>if off+xs.length<=cs.length then k (({ st with bx:=st.bx.set s (some (FC cs off xs)) }.release y).put o.dst (.J6 []) .val)else none
    else cellOf v λc=>if off<cs.length then k (({ st with bx:=st.bx.set s (some (cs.set off c)) }.release y).put o.dst (.J6 []) .val)else none
  |.ptr i off=>ob (H5 st.sg i) λcs=>
    if z.2 then IQ C.P t v λxs=>if off+xs.length<=cs.length then k ({ st with sg:=st.sg.set i (.box (FC cs off xs)) }.put o.dst (.J6 []) .val)else none
    else cellOf v λc=>ob cs[off]? λ_=>k (({ st with sg:=st.sg.set i (.box (cs.set off c)) }.release y).put o.dst (.J6 []) .val)
  |.Xz i sz idx off=>ob (RL st.sg i) λa=>ob a.2[idx]? λ_=>Oe z v λe=>
    og (a.1==sz)
     (if z.1=sz/\off=0 then k ({ st with sg:=st.sg.set i (.arr sz (a.2.set idx e)) }.put o.dst (.J6 []) .val)
     else none)
  |.opt i sz idx=>ob (Lc st.sg i) λq=>Oe z v λe=>og (q.1==sz&&z.1==sz)
     (ob (aG q idx e) λx=>k ({ st with sg:=st.sg.set i x }.put o.dst (.J6 []) .val))
  |.gK i n sz idx off=>ob (V5 st.sg i n) λa=>ob a.2[idx]? λd=>og (a.1==sz)
     (if z.2 then IQ C.P t v λxs=>ob (Kj sz off d xs) λe=>k ({ st with sg:=st.sg.set i (.P9 n sz (a.2.set idx e)) }.put o.dst (.J6 []) .val)
     else cellOf v λc=>ob (Kj sz off d [c]) λe=>k ({ st with sg:=st.sg.set i (.P9 n sz (a.2.set idx e)) }.put o.dst (.J6 []) .val))
  |_=>none
def A1M(r:DV×F4):Option Bool :=
 match r.2 with
 |.KX=>some true
 |.ptr _ _=>some false
 |.val=>match r.1 with
   |.R_=>some true
   |.Vi _ _=>some false
   |_=>none
 |_=>none
def B0x(r s:DV×F4):Option Bool :=
 match A1M r,A1M s with
 |some true,some b=>some b
 |some false,some true=>some false
 |_,_=>none
def A1C(m n:F4):Option Bool :=
 match m,n with
 |.Rz,.Rz=>some true
 |.Rz,.map _=>some false
 |.map _,.Rz=>some false
 |_,_=>none
inductive A84 where
 |num | bool | flat (ks:List LK) | ptr | map | ref
def Zi(P:Program)(t:TypeId):Option LK :=
 match P.underlying t with
 |some .bool=>some .bool
 |some (.int _)=>some .int
 |some .string=>some .str
 |_=>none
def VG(P:Program):Nat->List Field->Option (List LK)
 |_,[]=>some []
 |i,f::fs=>if f.name != "_"&&f.offset==i then ob (Zi P f.type) λk=>ob (VG P (i+1) fs) λks=>some (k::ks)else none
def A6n(P:Program)(t:TypeId):Option (List LK) :=
 match P.underlying t with
 |some (.struct gs)=>if P.stoodInHeld t then none else ob (tz P t) λz=>ob (VG P 0 gs.toList) λl=>if z.2=true/\l.length=z.1 then some l else none
 |_=>none
def QQ(P:Program):Nat->List Field->Option (List LK)
 |_,[]=>some []
 |i,f::fs=>if f.name != "_"&&f.offset==i then
    match Zi P f.type with
    |some k=>ob (QQ P (i+1) fs) λks=>some (k::ks)
    |none=>ob (A6n P f.type) λl=>ob (QQ P (i+l.length) fs) λks=>some (l++ks)
   else none
def jJ(P:Program)(t:TypeId):A84 :=
 match P.underlying t with
 |some (.int _)=>.num
 |some .string=>.num
 |some .bool=>.bool
 |some (.pointer _)=>.ptr
 |some (.map _ _)=>.map
 |some (.struct fs)=>
   match QQ P 0 fs.toList,P.stoodInHeld t,P.eqGuardType P.depth t with
   |some ks,false,false=>.flat ks
   |_,_,_=>.ref
 |_=>.ref
def mU(op:BinOp)(b:Bool):Option DV :=
 match op with
 |.eql=>some (.bool b)
 |.neq=>some (.bool !b)
 |_=>none
def ZZ(o:Oper)(op:BinOp)(t:TypeId)(x y:Operand)(st:St)(k:St->Option X):Option X :=
 ob (src C.P t st x) λr=>ob (src C.P t st y) λs=>
  match jJ C.P t with
  |.num=>og (K6 r.2&&K6 s.2) (ob (D7 op r.1 s.1) λd=>k (st.put o.dst d .val))
  |.bool=>og (K6 r.2&&K6 s.2) (ob (B0q r.1 s.1) λb=>ob (mU op b) λd=>k (st.put o.dst d .val))
  |.flat ks=>og (K6 r.2&&K6 s.2) (ob (tY ks r.1 s.1) λb=>ob (mU op b) λd=>k (st.put o.dst d .val))
  |.ptr=>ob (B0x r s) λb=>ob (mU op b) λd=>k (st.put o.dst d .val)
  |.map=>ob (A1C r.2 s.2) λb=>ob (mU op b) λd=>k (st.put o.dst d .val)
  |.ref=>none
def SY(o:Oper)(t:TypeId)(x:Operand)(f:Nat)(st:St)(k:St->Option X):Option X :=
 ob (src C.P 0 st x) λr=>ob (A9m C.P t f) λfd=>ob (tz C.P fd.type) λz=>
  if z.1=0 then none
  else match r.2 with
   |.loc s off=>k (st.put o.dst .undef (.loc s (off+fd.offset)))
   |.Qg ag sz off=>k (st.put o.dst r.1 (.Qg ag sz (off+fd.offset)))
   |.ptr i off=>k (st.put o.dst .undef (.ptr i (off+fd.offset)))
   |.Xz i sz idx off=>k (st.put o.dst .undef (.Xz i sz idx (off+fd.offset)))
   |.gK i n sz idx off=>k (st.put o.dst .undef (.gK i n sz idx (off+fd.offset)))
   |_=>none
def l7(off len:Nat):DV->Option Nat
 |.int _ n=>if 0<=n/\n<len then some (off+n.toNat)else none
 |_=>none
def nH(o:Oper)(t:TypeId)(r j:DV×F4)(st:St)(k:St->Option X):Option X :=
 ob (B7C C.P t) λq=>ob (tz C.P q.2) λz=>
  match r.2 with
  |.loc s off=>og (K6 j.2) (ob (l7 0 q.1 j.1) λn=>k (st.put o.dst .undef (.loc s (off+n * z.1))))
  |_=>none
def Gx(fl:H8)(o:Oper)(t:TypeId)(x i:Operand)(st:St)(k:St->Option X):Option X :=
 ob (src C.P t st x) λr=>ob (src C.P 0 st i) λj=>match JB C.P t with
 |none=>nH C o t r j st k
 |some e=>ob (tz C.P e) λz=>
   match r.2 with
   |.arr a sz off len=>og (sz==z.1&&K6 j.2) (ob (l7 off len j.1) λn=>k (st.put o.dst .undef (if I8 fl.opn o.dst then .opt a sz n else .Xz a sz n 0)))
   |.P9 i n sz len=>og (sz==z.1&&K6 j.2) (ob (l7 0 len j.1) λidx=>k (st.put o.dst .undef (.gK i n sz idx 0)))
   |m=>og (K6 m&&K6 j.2) (ob (O0 z.1 r.1 j.1) λd=>if z.2 then k (st.put o.dst d (.Qg true z.1 0))else og (M8 d) (k (st.put o.dst d (.Qg false z.1 0))))
def YU(P:Program)(st:St):Option Operand->Option (Option DV)
 |none=>some none
 |some x=>ob (src P 0 st x) λr=>og (K6 r.2) (some (some r.1))
def B0e:F4->Option (Nat×Nat×Nat×Nat)
 |.arr i sz off len=>some (i,sz,off,len)
 |_=>none
def A5l:F4->Option (Nat×Nat×Nat×Nat)
 |.P9 i n sz len=>some (i,n,sz,len)
 |_=>none
def Qx(o:Oper)(t:TypeId)(x:Operand)(lo hi mx:Option Operand)(st:St)(k:St->Option X):Option X :=
 ob (src C.P t st x) λr=>ob (YU C.P st lo) λl=>ob (YU C.P st hi) λh=>ob (YU C.P st mx) λm=>
  match B0e r.2 with
  |some q=>ob (JB C.P t) λe=>ob (tz C.P e) λz=>og (m.isNone&&q.2.1==z.1) (ob (bnd q.2.2.2 h) λhh=>ob (bnd 0 l) λll=>if ll<=hh/\hh<=q.2.2.2 then k (st.put o.dst .undef (.arr q.1 q.2.1 (q.2.2.1+ll) (hh-ll)))else none)
  |none=>match A5l r.2 with
  |some q=>ob (JB C.P t) λe=>ob (tz C.P e) λz=>og (m.isNone&&l.isNone&&q.2.2.1==z.1) (ob (bnd q.2.2.2 h) λhh=>if hh<=q.2.2.2 then k (st.put o.dst .undef (.P9 q.1 q.2.1 q.2.2.1 hh))else none)
  |none=>og (K6 r.2)
    (match C.P.underlying t with
      |some (.slice e)=>ob (tz C.P e) λz=>
        match m,h with
        |none,_=>ob (OO z.1 r.1 l h) λd=>k (st.put o.dst d .val)
        |some m,some h=>ob (Zz z.1 r.1 l h m) λd=>k (st.put o.dst d .full)
        |_,_=>none
      |some .string=>
        match m with
        |none=>ob (jS r.1 l h) λd=>k (st.put o.dst d .val)
        |some _=>none
      |_=>none)
def A1y(sg:List E5):F4->Option Nat
 |.map i=>ob (Q5 sg i) λp=>some p.2.length
 |.Rz=>some 0
 |_=>none
def iw:Nat->Option DV
 |0=>some (.int .i64 0)
 |n+1=>some (.int .i64 ((n+1:Nat):Int))
theorem XL(n:Nat):iw n=some (.int .i64 n):=by cases n<;>rfl
def Us(o:Oper)(x:Operand)(t:TypeId)(st:St)(k:St->Option X):Option X :=
 ob (src C.P t st x) λr=>
  match C.P.underlying t with
  |some (.slice _)=>
    match r.2 with
    |.arr _ _ _ len=>k (st.put o.dst (.int .i64 len) .val)
    |.P9 _ _ _ len=>ob (iw len) λd=>k (st.put o.dst d .val)
    |m=>og (K6 m) (ob (O6 r.1) λd=>k (st.put o.dst d .val))
  |some .string=>og (K6 r.2) (ob (Ez r.1) λd=>k (st.put o.dst d .val))
  |some (.map _ _)=>ob (A1y st.sg r.2) λn=>ob (iw n) λd=>k (st.put o.dst d .val)
  |_=>none
def Mr:F4->Bool
 |.full=>true
 |.own=>true
 |_=>false
def wN(P:Program)(t u:TypeId):Option Nat :=ob (JB P t) λe=>ob (JB P u) λ_=>ob (tz P e) λz=>ob (P.info? e) λi=>ob (MC P e) λzs=>if z.1≠0/\i.bytes<=2 ^ 14/\zs.length=z.1 then some z.1 else none
def A1e(o:Oper)(x y:Operand)(t u:TypeId)(st:St)(k:St->Option X):Option X :=
 ob (src C.P t st x) λr=>ob (src C.P u st y) λs=>
  ob (wN C.P t u) λsz=>og (K6 s.2&&o.dst.isSome) (ob (A5l r.2) λq=>
   ob (V5 st.sg q.1 q.2.1) λa=>og (a.1==sz&&q.2.2.1==sz&&decide (q.2.2.2<=a.2.length))
    (ob (KJ sz (.list sz (a.2.take q.2.2.2)) s.1) λp=>k ({ st with sg:=st.sg.set q.1 (.P9 (q.2.1+1) sz (p.1++p.2)) }.put o.dst .undef (.P9 q.1 (q.2.1+1) sz (p.1.length+p.2.length)))))
def A1b(o:Oper)(x y:Operand)(t u:TypeId)(st:St)(k:St->Option X):Option X :=
 ob (src C.P t st x) λr=>ob (src C.P u st y) λs=>
  ob (wN C.P t u) λsz=>og (K6 s.2&&o.dst.isSome) (ob (B0M r.2) λq=>og (q.2.2==sz)
   (ob (Sb st.sg q.1 q.2.1 sz r.1 s.1) λp=>k ({ st with sg:=p.2 }.put o.dst p.1 (.U0 q.1 (q.2.1+1) sz))))
def D_(fl:H8)(o:Oper)(x y:Operand)(t u:TypeId)(st:St)(k:St->Option X):Option X :=
 if I8 fl.Oy o.dst then A1b C o x y t u st k else
 if I8 fl.Dn o.dst then A1e C o x y t u st k else
 ob (src C.P t st x) λr=>ob (src C.P u st y) λs=>
  ob (wN C.P t u) λsz=>og (Mr r.2&&K6 s.2&&o.dst.isSome)
   (if I8 fl.opn o.dst then ob (KJ sz r.1 s.1) λp=>k ({ st.release x with sg:=st.sg++[E5.opn sz p.1 p.2] }.put o.dst .undef (.arr st.sg.length sz 0 (p.1.length+p.2.length)))
   else ob (Dh sz r.1 s.1) λd=>k ((st.release x).put o.dst d .own))
def Yz(m:F4):F4:=if K6 m then .val else dm m
def fV(os:List Nat):Nat->List F4->List F4
 |_,[]=>[]
 |i,m::ms=>(if os.contains i then Pj m else Yz m)::fV os (i+1) ms
def YV(m:F4)(k:MK):F4 :=
 match k,m with
 |.own,.full=>.own
 |.own,m=>m
 |.Yb _ os,.EZ ms=>.EZ (fV os 0 ms)
 |_,m=>Yz m
def Ji:List MK->List (DV×F4)->List (DV×F4)
 |k::ks,r::rs=>(r.1,YV r.2 k)::Ji ks rs
 |[],rs=>rs.map λr=>(r.1,Yz r.2)
 |_,[]=>[]
def B5P:F4->Bool
 |.loc _ _=>false
 |.Qg _ _ _=>false
 |.Cg _=>false
 |.Hr _=>false
 |.EZ ms=>ms.all Z0
 |_=>true
def EC:MK->Bool
 |.own=>true
 |.Yb _ _=>true
 |_=>false
def Gg:Nat->List MK->List Operand->Option (Nat×Operand)
 |i,k::ks,x::xs=>if EC k then some (i,x)else Gg (i+1) ks xs
 |_,_,_=>none
def St.Jf(st:St):Option (Nat×Operand)->St
 |some p=>st.release p.2
 |none=>st
def Mx(k:MK)(d:DV):DV×F4 :=
 match k with
 |.val=>(d,.val)
 |.own=>(d,.own)
 |.ptr=>match d with
   |.int _ i=>(.undef,.ptr i.toNat 0)
   |.R_=>(.R_,.KX)
   |_=>(.undef,.val)
 |.Yb n os=>(d,.EZ ((List.range n).map λi=>if os.contains i then .own else .val))
def A5h(ks:List MK):Bool:=ks.length==1||ks.all λk=>match k with
 |.val=>true
 |.own=>true
 |_=>false
def Oj(ks:List MK)(ds:List DV):DV×F4 :=
 match ks with
 |[k]=>Mx k (ds.getD 0 .undef)
 |_=>(.J6 ds,.Cg (ks.map λk=>(Mx k .undef).2))
def A5B:DV->Option Nat
 |.int _ n=>some n.toNat
 |_=>none
def cZ{X:Type}(ks:List MK)(ds:List DV)(k:DV×F4->Option X):Option X :=
 match ks with
 |[.ptr]=>ob (A5B (ds.getD 0 .undef)) λi=>k (.undef,.ptr i 0)
 |ks=>k (Oj ks ds)
theorem yx{X:Type}{ks:List MK}{ds:List DV}{k:DV×F4->Option X}{x:X}(h:cZ ks ds k=some x):k (Oj ks ds)=some x/\∀(Y:Type)(k':DV×F4->Option Y),cZ ks ds k'=k' (Oj ks ds):=by
 unfold cZ at h;split at h
 ·cases hd:A5B (ds.getD 0 .undef)with
  |none=>rw[hd]at h;cases h
  |some i=>
    have e:Oj [.ptr] ds=(.undef,.ptr i 0):=by unfold A5B at hd;split at hd<;>simp only[D8,reduceCtorEq]at hd;rename_i kk n hx;simp only[Oj,Mx];rw[hx,<- hd]
    rw[hd]at h;rw[e];exact⟨h,λY k'=>by simp only[cZ,hd,ob]⟩
 ·rename_i hne;refine⟨h,λY k'=>?_⟩;unfold cZ;split
  ·exact absurd rfl hne
  ·rfl
def B3S:DV->Option (List DV)
 |.agg cs=>some cs
 |_=>none
def LB(o:Oper)(f:FuncId)(xs:List Operand)(rs:List (DV×F4))(st:St)(k:St->Option X):Option X :=
 if C.clone f then
  match rs with
  |[r]=>ob (A47 r.1) λp=>og (K6 r.2&&p.1==C.jO f&&decide (p.2.length<=R6)) (k ({ st with sg:=st.sg++[E5.arr (C.jO f) p.2] }.put o.dst .undef (.arr st.sg.length (C.jO f) 0 p.2.length)))
  |_=>none
 else match C.fO f with
 |some g=>
   match rs with
   |[r]=>ob (B3S r.1) λcs=>og (K6 r.2&&cs.length==C.jO f) (k ({ st with sg:=st.sg++[E5.box (cs.map λd=>(d,.val))] }.put o.dst .undef (.fn g [(st.sg.length,0)])))
   |_=>none
 |none=>match C.sig f with
   |none=>og (rs.all λr=>K6 r.2) (ob (R.p f (rs.map (·.1))) λd=>k (st.put o.dst d .val))
   |some s=>og ((rs.all λr=>B5P r.2)&&decide ((s.params.filter EC).length<=1)&&A5h s.results)
     (ob (R.r f (Ji s.params rs) st.sg) λq=>cZ s.results q.1 λr=>k (({ st with sg:=q.2 }.Jf (Gg 0 s.params xs)).put o.dst r.1 r.2))
def Hm(fl:H8)(o:Oper)(c:Call)(st:St)(k:St->Option X):Option X :=
 match c.callee with
 |.builtin b=>
   match b,c.args.toList,c.argTypes.toList with
   |.len,[x],[t]=>Us C o x t st k
   |.append,[x,y],[t,u]=>D_ C fl o x y t u st k
   |.max,[x,y],[t,u]=>ob (src C.P t st x) λr=>ob (src C.P u st y) λs=>og (K6 r.2&&K6 s.2) (ob (zT r.1 s.1) λd=>k (st.put o.dst d .val))
   |.min,[x,y],[t,u]=>ob (src C.P t st x) λr=>ob (src C.P u st y) λs=>og (K6 r.2&&K6 s.2) (ob (ae r.1 s.1) λd=>k (st.put o.dst d .val))
   |_,_,_=>none
 |.value fv=>ob (src C.P 0 st fv) λr=>ob (Ka C.P st c.argTypes.toList c.args.toList) λrs=>
   match r.2 with
   |.fn f caps=>LB C R o f c.args.toList (rs++caps.map λm=>(.undef,.ptr m.1 m.2)) st k
   |_=>none
 |.invoke _ _=>none
def Wj:List (DV×F4)->Option (List (Nat×Nat))
 |[]=>some []
 | (_,.ptr i o)::rs=>ob (Wj rs) λms=>some ((i,o)::ms)
 |_=>none
def Qc:List Nat->St->Option St
 |[],st=>some st
 |t::ts,st=>
   match (st.get t).2 with
   |.Hr ks=>Qc ts ({ st with sg:=st.sg++[E5.map ks []] }.put (some t) .undef (.map st.sg.length))
   |_=>none
def Jg(fl:H8):Option Nat->List Nat
 |some t=>
   match fl.B5U.find? (·.1==t)with
   |some e=>e.2
   |none=>[]
 |none=>[]
def J3(fl:H8)(o:Oper)(st:St)(k:St->Option X):Option X :=
 match o.op with
 |.move x=>ob (src C.P o.type st x) λr=>if I8 fl.Q4 o.dst then k ((st.release x).put o.dst r.1 r.2)else k (st.put o.dst r.1 (dm r.2))
 |.assign x=>ob (src C.P o.type st x) λr=>if I8 fl.Q4 o.dst then k ((st.release x).put o.dst r.1 r.2)else k (st.put o.dst r.1 (dm r.2))
 |.pick c a b=>ob (src C.P 0 st c) λrc=>ob (src C.P o.type st a) λra=>ob (src C.P o.type st b) λrb=>og (K6 rc.2&&K6 ra.2&&K6 rb.2) (ob (A48 rc.1 ra.1 rb.1) λd=>k (st.put o.dst d .val))
 |.alloc t=>ob (MC C.P t) λcs=>og (Qu (I8 fl.shared o.dst) o.dst st) (k (st.FX (I8 fl.shared o.dst) o.dst cs))
 |.box t x=>ob (src C.P t st x) λr=>
   if I8 fl.Yo o.dst then ob (tz C.P t) λz=>og (K6 r.2&&I5 z.1 r.1&&z.2) (k (st.put o.dst (.Vi z.1 r.1) .val))
   else if I8 fl.Q4 o.dst then Jp C.P t r λcs=>og (Qu false o.dst st) (k ((st.release x).FX false o.dst cs))
   else IQ C.P t r λcs=>og (Qu (I8 fl.shared o.dst) o.dst st) (k (st.FX (I8 fl.shared o.dst) o.dst cs))
 |.build t ps=>ob (Qc (Jg fl o.dst) st) λst=>ob (MC C.P t) λzs=>ob (places C.P t) λ_=>Gw C.P t st ps.toList zs λcs=>k (st.put o.dst (XR cs).1 (XR cs).2)
 |.buildSlice t n ps=>ob (JB C.P t) λe=>ob (tz C.P e) λz=>ob (MC C.P e) λzs=>ob (qF z zs) λze=>
   if (n * z.1<=2 ^ 24/\z.1≠0)/\zs.length=z.1/\zs.all (λc=>K6 c.2)=true then JR C.P e z st ps.toList (List.replicate n ze) λds=>if I8 fl.Dn o.dst then k ({ st with sg:=st.sg++[E5.P9 1 z.1 ds] }.put o.dst .undef (.P9 st.sg.length 1 z.1 n))else k (st.put o.dst (.list z.1 ds) .full)
   else none
 |.load t x=>Cc C fl o t x st k
 |.store t x y=>Dj C o t x y st k
 |.nilCheck x=>ob (src C.P 0 st x) λr=>
   match r.2 with
   |.loc s o'=>k (st.put o.dst .undef (.loc s o'))
   |.Qg ag sz o'=>k (st.put o.dst r.1 (.Qg ag sz o'))
   |.ptr i o'=>k (st.put o.dst .undef (.ptr i o'))
   |.Xz i sz j o'=>k (st.put o.dst .undef (.Xz i sz j o'))
   |.opt i sz j=>k (st.put o.dst .undef (.opt i sz j))
   |.fn f cs=>k (st.put o.dst .undef (.fn f cs))
   |.val=>ob (o.dst.bind λt=>fl.refs.find? (·.1==t)) λq=>ob (B0v q.2 r.1) λd=>k (st.put o.dst d (.Qg true q.2 0))
   |_=>none
 |.binOp op t x y _=>ZZ C o op t x y st k
 |.unOp op t x=>ob (src C.P t st x) λr=>og (K6 r.2) (ob (l8 op r.1) λd=>k (st.put o.dst d .val))
 |.convert t u x=>ob (src C.P t st x) λr=>
   match C.P.underlying u with
   |some (.int kd)=>og (K6 r.2&&(C.P.underlying t).isSome) (ob (A46 kd r.1) λd=>k (st.put o.dst d .val))
   |_=>none
 |.fieldAddr t x f=>SY C o t x f st k
 |.indexAddr t x i=>Gx C fl o t x i st k
 |.index t x i=>ob (src C.P t st x) λr=>ob (src C.P 0 st i) λj=>
   match C.P.underlying t with
   |some .string=>og (K6 r.2&&K6 j.2) (ob (IM r.1 j.1) λd=>k (st.put o.dst d .val))
   |_=>none
 |.slice t x lo hi mx=>Qx C o t x lo hi mx st k
 |.makeFunc (.func f) first caps=>
   if first.isEmpty then ob (Ka C.P st [] caps.toList) λrs=>ob (Wj rs) λms=>k (st.put o.dst .undef (.fn f ms))
   else none
 |.makeMap t none=>ob (mapKeys C.P t) λq=>if I8 fl.Hr o.dst then k (st.put o.dst .undef (.Hr q.1))else k ({ st with sg:=st.sg++[E5.map q.1 []] }.put o.dst .undef (.map st.sg.length))
 |.lookup t x y ok=>ob (src C.P t st x) λr=>ob (src C.P 0 st y) λkey=>ob (mapKeys C.P t) λq=>
   ob (A0x C.P q.2) λze=>
    og (Z4 q.1 key.1&&K6 key.2)
     (match r.2 with
       |.map i=>ob (Q5 st.sg i) λp=>og (p.1==q.1)
         (if ok then k (st.put o.dst (.J6 [(V7 p.2 key.1).getD ze,.bool (V7 p.2 key.1).isSome]) .val)
         else k (st.put o.dst ((V7 p.2 key.1).getD ze) .val))
       |_=>none)
 |.mapUpdate t x y v=>ob (src C.P t st x) λr=>ob (src C.P 0 st y) λkey=>ob (src C.P 0 st v) λval=>ob (mapKeys C.P t) λq=>
   og (Z4 q.1 key.1&&K6 key.2&&K6 val.2)
    (match r.2 with
      |.map i=>ob (Q5 st.sg i) λp=>og (p.1==q.1) (k ({ st with sg:=st.sg.set i (.map q.1 (Bb p.2 key.1 val.1)) }.put o.dst (.J6 []) .val))
      |_=>none)
 |.extract x i=>ob (src C.P 0 st x) λr=>
   match r.2 with
   |.val=>ob (Q0 i r.1) λd=>k (st.put o.dst d .val)
   |.Cg ms=>ob (Q0 i r.1) λd=>
     match ms.getD i .val with
     |.own=>if I8 fl.Q4 o.dst then k ((st.qB x (.Cg (ms.set i .val))).put o.dst d .own)else k (st.put o.dst d .val)
     |.val=>k (st.put o.dst d .val)
     |_=>none
   |_=>none
 |.call c=>Hm C R fl o c st k
 |_=>none
def uY{α X:Type}:List α->(List α->X)->X
 |[],k=>k []
 |a::l,k=>uY l λl'=>k (a::l')
def B2s{X:Type}(m:F4)(k:F4->X):X :=
 match m with
 |.val=>k .val
 |.full=>k .full
 |.own=>k .own
 |.loc s o=>k (.loc s o)
 |.Qg ag sz o=>k (.Qg ag sz o)
 |.ptr i o=>k (.ptr i o)
 |.KX=>k .KX
 |.map i=>k (.map i)
 |.Rz=>k .Rz
 |.arr i sz off len=>k (.arr i sz off len)
 |.Xz i sz idx o=>k (.Xz i sz idx o)
 |.opt i sz idx=>k (.opt i sz idx)
 |.P9 i n sz len=>k (.P9 i n sz len)
 |.gK i n sz idx o=>k (.gK i n sz idx o)
 |.fn f caps=>k (.fn f caps)
 |.Cg ms=>k (.Cg ms)
 |.EZ ms=>k (.EZ ms)
 |.U0 i n sz=>k (.U0 i n sz)
 |.Hr ks=>k (.Hr ks)
def wV{X:Type}:List F4->(List F4->X)->X
 |[],k=>k []
 |m::l,k=>B2s m λm'=>wV l λl'=>k (m'::l')
def wW{X:Type}(st:St)(k:St->X):X :=uY st.tm λtm=>wV st.mt λmt=>uY st.bx λbx=>k { tm:=tm,mt:=mt,bx:=bx,sg:=st.sg }
def A3C{α X:Type}:∀(l:List α)(k:List α->X),uY l k=k l
 |[],_=>rfl
 |a::l,k=>by simp only[uY,A3C l]
def A1o{X:Type}:∀(l:List F4)(k:List F4->X),wV l k=k l
 |[],_=>rfl
 |m::l,k=>by
   have h:∀(m:F4)(k:F4->X),B2s m k=k m:=λm k=>by cases m<;>rfl
   simp only[wV,A1o l,h]
def Zg{X:Type}(st:St)(k:St->X):wW st k=k st:=by simp only[wW,A3C,A1o]
def Ll(ops:List Oper)(g:Nat):Option Nat:=ob ops[g]? λo=>o.dst
def St.know(st:St)(t:Nat)(d:DV):St:={ st with tm:=st.tm.set t d }
variable {β : Type}
def M9(d:DV)(a b c:Option β):Option β :=
 match d with
 |.bool true=>a
 |.bool false=>b
 |.J6 []=>c
 |_=>none
def FO(fl:H8)(all:List Oper):List Oper->St->(St->Option X)->Option X
 |[],st,k=>k st
 |o::os,st,k=>wW st λst=>
   match o.guard with
   |none=>J3 C R fl o st λst=>FO fl all os st k
   |some (g,want)=>ob (Ll all g) λt=>og (K6 (st.get t).2) <|
     M9 (st.get t).1
      (if want then J3 C R fl o (st.know t (.bool true)) λst=>FO fl all os st k else FO fl all os ((st.know t (.bool true)).put o.dst (.J6 []) .val) k)
      (if want then FO fl all os ((st.know t (.bool false)).put o.dst (.J6 []) .val) k else J3 C R fl o (st.know t (.bool false)) λst=>FO fl all os st k)
      (FO fl all os ((st.know t (.J6 [])).put o.dst (.J6 []) .val) k)
structure Fp where
 rt:List Nat:=[]
 wt:List Nat:=[]
 rb:List Nat:=[]
 wb:List Nat:=[]
 wl:List Nat:=[]
 rs:Bool:=false
 ws:Bool:=false
 nb:Option Nat:=none
 ex:Option (Nat×Nat×Nat):=none
 so:Option Bool:=none
 ld:Option Nat:=none
 lk:Bool:=false
 ch:Option (List E5×List E5):=none
def B4j(x:Operand)(i:Nat)(d:Option Nat):Option (Nat×Nat×Nat) :=
 match x,d with
 |.tmp t,some u=>some (t,i,u)
 |_,_=>none
def O5:Operand->List Nat
 |.tmp t=>[t]
 |_=>[]
def K3(xs:List Operand):List Nat:=xs.flatMap O5
def FW(mt:List F4)(t:Nat):List Nat :=
 match mt.getD t .val with
 |.loc s _=>[s]
 |_=>[]
def Zo(m:F4):Option Nat :=
 match m with
 |.ptr i _=>some i
 |.opt i _ _=>some i
 |.gK i _ _ _ _=>some i
 |_=>none
def A67(m:F4):Option Nat :=
 match m with
 |.ptr i _=>some i
 |.Xz i _ _ _=>some i
 |.gK i _ _ _ _=>some i
 |_=>none
def Zp(m:F4):Option Bool :=
 match m with
 |.ptr _ _=>some false
 |.opt _ _ _=>some true
 |.gK _ _ _ _ _=>some true
 |_=>none
def Ec(m:F4):List Nat×Bool :=
 match m with
 |.loc s _=>([s],false)
 |.Qg _ _ _=>([],false)
 |_=>([],true)
def Fp.turns(f:Fp):Bool := !f.lk&&(f.so.isNone&&f.ws)
def Fp.AB(f:Fp)(st st1:St):Fp:={ f with wl:=f.wt.flatMap (FW st.mt)++f.wt.flatMap (FW st1.mt),ch:=match f.turns with | true=>some (st.sg,st1.sg) | false=>none }
def Fa(mt:List F4):Operand->List Nat
 |.tmp t=>match mt.getD t .val with
   |.arr _ _ _ _=>[]
   |.P9 _ _ _ _=>[]
   |_=>[t]
 |_=>[]
def VZ(Q4 P9:Bool)(rt d:List Nat)(m:F4):Fp :=
 match (if Q4||P9 then none else A67 m)with
 |some j=>{ rt:=rt,wt:=d,ld:=some j }
 |none=>{ rt:=rt,wt:=d,rb:=(Ec m).1,wb:=if Q4 then(Ec m).1 else[],rs:=(Ec m).2,ws:=(Q4||P9)&&(Ec m).2 }
@[simp] theorem B9Y(a b:Bool)(rt d:List Nat)(m:F4):(VZ a b rt d m).rt=rt:=by unfold VZ;split<;>rfl
@[simp] theorem B9X(a b:Bool)(rt d:List Nat)(m:F4):(VZ a b rt d m).ex=none:=by unfold VZ;split<;>rfl
@[simp] theorem B9Z(a b:Bool)(rt d:List Nat)(m:F4):(VZ a b rt d m).so=none:=by unfold VZ;split<;>rfl
def FQ(fl:H8)(o:Oper)(st:St):Fp :=
 let d:=o.dst.toList
 let Q4:=I8 fl.Q4 o.dst
 match o.op with
 |.move x=>{ rt:=O5 x,wt:=d++(if Q4 then O5 x else[]) }
 |.assign x=>{ rt:=O5 x,wt:=d++(if Q4 then O5 x else[]) }
 |.pick c a b=>{ rt:=K3 [c,a,b],wt:=d }
 |.alloc _=>if I8 fl.shared o.dst then{ wt:=d,rs:=true,ws:=true }else{ wt:=d,wb:=d,nb:=o.dst }
 |.box _ x=>if I8 fl.Yo o.dst then{ rt:=O5 x,wt:=d }else if I8 fl.Q4 o.dst then{ rt:=O5 x,wt:=d++O5 x,wb:=d,nb:=o.dst }else if I8 fl.shared o.dst then{ rt:=O5 x,wt:=d,rs:=true,ws:=true }else{ rt:=O5 x,wt:=d,wb:=d,nb:=o.dst }
 |.build _ ps=>{ rt:=K3 (ps.toList.map (·.2))++Jg fl o.dst,wt:=d++Jg fl o.dst,rs := !(Jg fl o.dst).isEmpty,ws := !(Jg fl o.dst).isEmpty }
 |.makeMap _ none=>{ wt:=d,rs := !I8 fl.Hr o.dst,ws := !I8 fl.Hr o.dst }
 |.buildSlice _ _ ps=>{ rt:=K3 (ps.toList.map (·.2)),wt:=d,rs:=I8 fl.Dn o.dst,ws:=I8 fl.Dn o.dst }
 |.load _ x=>
   match src default 0 st x with
   |some r=>VZ Q4 (I8 fl.Dn o.dst) (O5 x) d r.2
   |none=>{}
 |.store _ x y=>
   match src default 0 st x with
   |some r=>{ rt:=K3 [x,y],wt:=d++Fa st.mt y,rb:=(Ec r.2).1,wb:=(Ec r.2).1,rs:=(Ec r.2).2,ws:=(Ec r.2).2,so:=if o.dst.isNone then Zp r.2 else none }
   |none=>{}
 |.nilCheck x=>{ rt:=O5 x,wt:=d }
 |.binOp _ _ x y _=>{ rt:=K3 [x,y],wt:=d }
 |.unOp _ _ x=>{ rt:=O5 x,wt:=d }
 |.convert _ _ x=>{ rt:=O5 x,wt:=d }
 |.fieldAddr _ x _=>{ rt:=O5 x,wt:=d }
 |.indexAddr _ x i=>{ rt:=K3 [x,i],wt:=d }
 |.index _ x i=>{ rt:=K3 [x,i],wt:=d }
 |.slice _ x lo hi mx=>{ rt:=K3 (x::(lo.toList++hi.toList++mx.toList)),wt:=d }
 |.makeFunc _ _ caps=>{ rt:=K3 caps.toList,wt:=d }
 |.lookup _ x y _=>{ rt:=K3 [x,y],wt:=d,rs:=true }
 |.extract x i=>{ rt:=O5 x,wt:=d++(if Q4 then O5 x else[]),ex:=B4j x i o.dst }
 |.call c=>
   match c.callee with
   |.builtin .len=>{ rt:=K3 c.args.toList,wt:=d,rs:=true }
   |.builtin .append=>{ rt:=K3 c.args.toList,wt:=d++K3 c.args.toList,rs:=I8 fl.opn o.dst||(I8 fl.Dn o.dst||I8 fl.Oy o.dst),ws:=I8 fl.opn o.dst||(I8 fl.Dn o.dst||I8 fl.Oy o.dst) }
   |.builtin _=>{ rt:=K3 c.args.toList,wt:=d }
   |.value x=>{ rt:=K3 (x::c.args.toList),wt:=d++K3 c.args.toList,rs:=true,ws:=true }
   |.invoke _ _=>{}
 |op=>{ rt:=K3 op.operands.toList,wt:=d++K3 op.operands.toList,rs:=true,ws:=true }
def YP(C:BQ)(o:Oper):Bool :=
 match o.op with
 |.call c=>match c.callee with
   |.value (.func f)=> !C.clone f&&(C.fO f).isNone&&(C.sig f).isNone
   |_=>false
 |_=>false
def B7V(C:BQ)(fl:H8)(o:Oper)(st st1:St):Fp :=(if YP C o then{ rt:=K3 o.op.operands.toList,wt:=o.dst.toList }else FQ fl o st).AB st st1
def g_(a b:List Nat):Bool:=a.all λx=> !b.contains x
def wo(f g:Fp):Bool :=
 match f.nb with
 |some t=> !g.wl.contains t
 |none=>true
def A2M(f g:Fp):Bool :=
 match g.ld with
 |some _=> !f.ws||f.turns
 |none=>true
def B0o(f g:Fp):Bool :=g_ f.wt g.rt&&g_ f.wt g.wt&&g_ g.wt f.rt&&g_ f.wb g.rb&&g_ f.wb g.wb&&g_ g.wb f.rb &&!(f.ws&&(g.rs||g.ws))&&!(g.ws&&(f.rs||f.ws))&&wo f g&&wo g f&&A2M f g&&A2M g f
def xA(f g:Fp):List (List E5×List E5×Nat) :=
 match g.ld with
 |some j=>match f.ch with
   |some q=>[(q.1,q.2,j)]
   |none=>[]
 |none=>[]
def B2p(f g:Fp):Bool :=
 match f.ex,g.ex with
 |some (x,i,d),some (y,j,e)=>x==y&&i != j&&d != e&&d != x&&e != x
 |_,_=>false
def A7L(f g:Fp):Bool :=
 match f.so,g.so with
 |some i,some j=>i != j&&g_ f.wt g.rt&&g_ f.wt g.wt&&g_ g.wt f.rt
 |_,_=>false
def comm(f g:Fp):Bool:=B0o f g||B2p f g||A7L f g
def A6p{X:Type}(n:Nat)(k:Nat->X):X :=
 match n with
 |0=>k 0
 |n+1=>k (n+1)
def Oh{X:Type}:List Nat->(List Nat->X)->X
 |[],k=>k []
 |a::l,k=>A6p a λa'=>Oh l λl'=>k (a'::l')
def bP{X:Type}:List (List Nat)->(List (List Nat)->X)->X
 |[],k=>k []
 |a::l,k=>Oh a λa'=>bP l λl'=>k (a'::l')
theorem A3D{X:Type}(n:Nat)(k:Nat->X):A6p n k=k n:=by cases n<;>rfl
def VH{X:Type}:∀(l:List Nat)(k:List Nat->X),Oh l k=k l
 |[],_=>rfl
 |a::l,k=>by simp only[Oh,A3D,VH l]
def iX{X:Type}:∀(l:List (List Nat))(k:List (List Nat)->X),bP l k=k l
 |[],_=>rfl
 |a::l,k=>by simp only[bP,VH,iX l]
def uniq:List Nat->List Nat
 |[]=>[]
 |a::l=>if l.contains a then uniq l else a::uniq l
def A0e{x:Nat}:∀{l:List Nat},x∈uniq l↔x∈l
 |[]=>by simp[uniq]
 |a::l=>by
   simp only[uniq]
   split
   ·rename_i h;rw[A0e (l:=l),zHq];constructor
    ·exact .inr
    ·rintro(rfl | h')
     ·simpa using h
     ·exact h'
   ·rw[zHq,zHq,A0e (l:=l)]
def Md:List Oper->List (List Nat)->List (List Nat)
 |[],acc=>acc
 |o::os,acc=>Oh (uniq ((o.after.toList.filter (Region.binds .any)).flatMap λe=>e.on::acc.getD e.on [])) λl=>Md os (acc++[l])
def Te:Nat->List Oper->Bool
 |_,[]=>true
 |i,o::os=>(o.after.toList.filter (Region.binds .any)).all (λe=>decide (e.on<i))&&Te (i+1) os
def Ki(bf:List (List Nat))(i:Nat)(acc:List (Nat×Fp))(f:Fp):Bool :=acc.all λp=>(bf.getD i []).contains p.1||comm p.2 f
def S_(bf:List (List Nat))(i:Nat)(acc:List (Nat×Fp))(f:Fp):List (List E5×List E5×Nat) :=
 acc.flatMap λp=>match (bf.getD i []).contains p.1 with
  |true=>[]
  |false=>xA p.2 f++xA f p.2
open Classical in
def Mv(p:Prop)(y:Option β):Option β := if p then y else none
def lH{β : Type}:List (List E5×List E5×Nat)->Option β->Option β
 |[],y=>y
 |q::l,y=>Mv (q.2.1[q.2.2]?=q.1[q.2.2]?) (lH l y)
def B4Q{p:Prop}{y:Option β}{x : β}(h:Mv p y=some x):p/\y=some x:=by
 unfold Mv at h;split at h
 ·exact⟨by assumption,h⟩
 ·cases h
def B8D{p:Prop}(h:p)(y:Option β):Mv p y=y:=A9 h
def oW{β : Type}{y:Option β}{x : β}:∀{l:List (List E5×List E5×Nat)},lH l y=some x->(∀q∈l,q.2.1[q.2.2]?=q.1[q.2.2]?)/\y=some x
 |[],h=>⟨λq hq=>(by cases hq),h⟩
 |q::l,h=>by
   obtain⟨h1,h2⟩:=B4Q h;obtain⟨h3,h4⟩:=oW h2;refine⟨λq' um=>?_,h4⟩;rcases zHq.1 um with rfl | um
   ·exact h1
   ·exact h3 q' um
def B2W{β : Type}(y:Option β):∀{l:List (List E5×List E5×Nat)},(∀q∈l,q.2.1[q.2.2]?=q.1[q.2.2]?)->lH l y=y
 |[],_=>rfl
 |q::l,h=>by rw[lH,B8D (h q (List.mem_cons_self ..))];exact B2W y λq' um=>h q' (List.mem_cons_of_mem _ um)
def uX{X:Type}(b:Bool)(k:Bool->X):X :=
 match b with
 |true=>k true
 |false=>k false
def A6q{X:Type}(o:Option Nat)(k:Option Nat->X):X :=
 match o with
 |none=>k none
 |some n=>A6p n λn=>k (some n)
def B2u{X:Type}(o:Option Nat)(k:Option Nat->X):X :=
 match o with
 |none=>k none
 |some n=>k (some n)
def A2D{X:Type}(o:Option Bool)(k:Option Bool->X):X :=
 match o with
 |none=>k none
 |some b=>uX b λb=>k (some b)
def Tw{X:Type}(f:Fp)(k:Fp->X):X :=Oh f.rt λrt=>Oh f.wt λwt=>Oh f.rb λrb=>Oh f.wb λwb=>Oh f.wl λwl=>uX f.rs λrs=>uX f.ws λws=>A6q f.nb λnb=>A2D f.so λso=>B2u f.ld λld=>uX f.lk λlk=>k { rt:=rt,wt:=wt,rb:=rb,wb:=wb,wl:=wl,rs:=rs,ws:=ws,nb:=nb,ex:=f.ex,so:=so,ld:=ld,lk:=lk,ch:=f.ch }
theorem A3B{X:Type}(b:Bool)(k:Bool->X):uX b k=k b:=by cases b<;>rfl
def B2t{X:Type}(o:Option Nat)(k:Option Nat->X):A6q o k=k o:=by cases o<;>simp only[A6q,A3D]
def B0H{X:Type}(o:Option Bool)(k:Option Bool->X):A2D o k=k o:=by cases o<;>simp only[A2D,A3B]
theorem B2v{X:Type}(o:Option Nat)(k:Option Nat->X):B2u o k=k o:=by cases o<;>rfl
def A1n{X:Type}(f:Fp)(k:Fp->X):Tw f k=k f:=by simp only[Tw,VH,A3B,B2t,B0H,B2v]
def Fp.look(f:Fp)(t:Nat):Fp:={ f with rt:=t::f.rt,ex:=none,so:=none,lk:=true,ch:=none }
def B80(o:Oper)(t:Nat)(st:St):Fp:=Fp.AB { rt:=[t],wt:=o.dst.toList } st (st.put o.dst (.J6 []) .val)
def jU(fl:H8)(o:Oper)(t:Nat)(st:St)(J:Fp->St->Option X):Option X :=J3 C R fl o st λst1=>J ((B7V C fl o st st1).look t) st1
def Wn(o:Oper)(t:Nat)(st:St)(J:Fp->St->Option X):Option X :=J (B80 o t st) (st.put o.dst (.J6 []) .val)
def DT(fl:H8)(all:List Oper)(bf:List (List Nat)):List Oper->Nat->List (Nat×Fp)->St->(St->Option X)->Option X
 |[],_,_,st,k=>k st
 |o::os,i,acc,st,k=>wW st λst=>
   match o.guard with
   |none=>J3 C R fl o st λst1=>Tw (B7V C fl o st st1) λf=>og (Ki bf i acc f) (lH (S_ bf i acc f) (DT fl all bf os (i+1) ((i,f)::acc) st1 k))
   |some (g,want)=>ob (Ll all g) λt=>og (K6 (st.get t).2) <|
     M9 (st.get t).1
      (if want then jU C R fl o t (st.know t (.bool true)) λf st1=>Tw f λf=>og (Ki bf i acc f) (lH (S_ bf i acc f) (DT fl all bf os (i+1) ((i,f)::acc) st1 k))
       else Wn o t (st.know t (.bool true)) λf st1=>Tw f λf=>og (Ki bf i acc f) (lH (S_ bf i acc f) (DT fl all bf os (i+1) ((i,f)::acc) st1 k)))
      (if want then Wn o t (st.know t (.bool false)) λf st1=>Tw f λf=>og (Ki bf i acc f) (lH (S_ bf i acc f) (DT fl all bf os (i+1) ((i,f)::acc) st1 k))
       else jU C R fl o t (st.know t (.bool false)) λf st1=>Tw f λf=>og (Ki bf i acc f) (lH (S_ bf i acc f) (DT fl all bf os (i+1) ((i,f)::acc) st1 k)))
      (Wn o t (st.know t (.J6 [])) λf st1=>Tw f λf=>og (Ki bf i acc f) (lH (S_ bf i acc f) (DT fl all bf os (i+1) ((i,f)::acc) st1 k)))
inductive Out where
 |normal
 |exit (id:Nat)
 |ret
 deriving Inhabited
def QZ(fl:H8)(id:Nat)(st:St):St :=
 match fl.keep.find? (·.1==id)with
 |some e=>st.keep e.2.1 e.2.2.1 e.2.2.2.1 e.2.2.2.2
 |none=>st
def kV:Code->Option Nat
 |.region id _ _=>some id
 |.seq a _=>kV a
 |.block _ b=>kV b
 |.loop b=>kV b
 |.scope b=>kV b
 |_=>none
def clean(fl:H8)(c:Code)(st:St):St :=
 match kV c with
 |some id=>QZ fl id st
 |none=>st
def Zy{X:Type}(r:Nat)(st:St)(k:St->Option X):Option X :=
 match (st.get r).2 with
 |.arr i sz 0 len=>ob (Lc st.sg i) λq=>ob (TJ q sz len) λd=>k ({ st with sg:=st.sg.set i (.arr 1 []) }.put (some r) d .own)
 |.ptr b off=>ob (H5 st.sg b) λcs=>ob (wP cs off) λa=>ob (Lc st.sg a.1) λq=>ob (TJ q a.2.1 a.2.2) λd=>k { st with sg:=(st.sg.set b (.box (cs.set off (d,.own)))).set a.1 (.arr 1 []) }
 |_=>none
def A1q{X:Type}(r:Nat)(os:List Nat)(st:St)(k:St->Option X):Option X :=
 match (st.get r).2 with
 |.ptr b 0=>ob (QR st.sg b os) λg=>k { st with sg:=g }
 |_=>none
def VJ{X:Type}(fl:H8)(id:Nat)(st:St)(k:St->Option X):Option X :=
 match fl.grow.find? (·.1==id)with
 |some e=>A1q e.2.1 e.2.2 st k
 |none=>k st
def IK{X:Type}(fl:H8)(id:Nat)(st:St)(k:St->Option X):Option X :=
 match fl.B52.find? (·.1==id)with
 |some e=>Zy e.2 st λst=>VJ fl id st k
 |none=>VJ fl id st k
def A09(P:Program)(c:Operand)(st:St)(a b:St->Option X):Option X :=
 ob (src P 0 st c) λr=>og (K6 r.2) <|
  match c with
  |.tmp t=>G8 r.1 (a (st.know t (.bool true))) (b (st.know t (.bool false)))
  |_=>G8 r.1 (a st) (b st)
def iter{S X:Type}(F:(S->Option X)->S->Option X):Nat->S->Option X
 |0,_=>none
 |n+1,s=>F (iter F n) s
def xI(r:DV×F4):DV×F4 :=
 match r.2 with
 |.val=>(r.1,.val)
 |.full=>(r.1,.full)
 |.own=>(r.1,.val)
 |.ptr i o=>(.undef,.ptr i o)
 |.KX=>(.R_,.KX)
 |.map i=>(.undef,.map i)
 |.Rz=>(.undef,.Rz)
 |.fn f caps=>(.undef,.fn f caps)
 |_=>(.undef,.val)
def Ae(st:St)(sg:List E5):St :={ tm:=(st.tm.zip st.mt).map (λr=>(xI r).1),mt:=(st.tm.zip st.mt).map (λr=>(xI r).2),bx:=st.bx.map (λ_=>none),sg:=sg }
def XG(st:St)(p:Nat)(d:DV)(sg:List E5):St:=(Ae st sg).put (some p) d .val
def Mc:List (DV×F4)->Option (List DV)
 |[]=>some []
 |c::cs=>og (match c.2 with
   |.val=>true
   |.full=>true
   |.own=>true
   |_=>false) (ob (Mc cs) λds=>some (c.1::ds))
def Cf:Code->Bool
 |.rangeFunc _ _ _ _=>false
 |.seq a b=>Cf a&&Cf b
 |.cond _ a b=>Cf a&&Cf b
 |.block _ b=>Cf b
 |.loop b=>Cf b
 |.scope b=>Cf b
 |_=>true
def oG:Code->Bool
 |.region _ _ false=>true
 |.skip=>true
 |_=>false
def Ml{X:Type}(step:DV->(List E5->Option X)->List E5->Option X)(fin:List E5->Option X):List DV->List E5->Option X
 |[],sg=>fin sg
 |d::ds,sg=>step d (Ml step fin ds) sg
def wT{X:Type}(C:BQ)(st:St)(g:Operand)(ps:Array Nat)(pl:Bool)(fin:St->Option X)(step:Nat->DV->(List E5->Option X)->List E5->Option X):Option X :=
 match g,ps.toList with
 |.tmp t,[p]=>
   match (st.get t).2 with
   |.fn f [(i,0)]=>ob (C.iter f) λit=>ob (H5 st.sg i) λcs=>ob (Mc cs) λcd=>ob (it cd) λds=>og pl
      (Ml (step p) (λsg=>fin (Ae st sg)) ds (st.sg.set i (.arr 1 [])))
   |_=>none
 |_,_=>none
open Classical in
def JJ{S X:Type}(F:(S->Option X)->S->Option X)(s:S):Option X :=if h:∃x n,iter F n s=some x then some h.choose else none
def l6(fl:H8):Code->(Out->St->Option X)->St->Option X
 |.skip,K,st=>K .normal st
 |.label _,K,st=>K .normal st
 |.scope b,K,st=>l6 fl b K st
 |.region id ops false,K,st=>FO C R fl ops.toList ops.toList (QZ fl id st) λst=>IK fl id st (K .normal)
 |.region id ops true,K,st=>og (Te 0 ops.toList) (bP (Md ops.toList []) λbf=>DT C R fl ops.toList bf ops.toList 0 [] (QZ fl id st) λst=>IK fl id st (K .normal))
 |.seq a b,K,st=>l6 fl a (λo st=>match o with
    |.normal=>l6 fl b K (clean fl b st)
    |.exit i=>K (.exit i) st
    |.ret=>K .ret st) st
 |.cond c a b,K,st=>A09 C.P c st (λst=>l6 fl a K (clean fl a st)) (λst=>l6 fl b K (clean fl b st))
 |.block id b,K,st=>l6 fl b (λo st=>match o with
    |.normal=>K .normal st
    |.exit i=>if i=id then K .normal st else K (.exit i) st
    |.ret=>K .ret st) st
 |.loop b,K,st=>JJ (λJ st=>l6 fl b (λo st=>match o with
    |.normal=>J (clean fl b st)
    |.exit i=>K (.exit i) st
    |.ret=>K .ret st) st) (clean fl b st)
 |.rangeFunc g ps assign body,K,st=>wT C st g ps (oG assign&&Cf body) (λst=>K .normal st) λp d J sg=>
    l6 fl assign (λo st1=>match o with
     |.normal=>l6 fl body (λo st2=>match o with
       |.normal=>J st2.sg
       |.exit e=>K (.exit e) (Ae st st2.sg)
       |.ret=>K .ret (Ae st st2.sg)) (clean fl body st1)
     |.exit _=>none
     |.ret=>none) (clean fl assign (XG st p d sg))
 |.exit id,K,st=>K (.exit id) st
 |.ret,K,st=>K .ret st
 |_,_,_=>none
end
variable (fn:Func)
def I4(rs:List (DV×F4))(sg:List E5):St where
 tm:=rs.map (·.1)++List.replicate (fn.ntmps-rs.length) (.J6 [])
 mt:=rs.map (·.2)++List.replicate (fn.ntmps-rs.length) .val
 bx:=List.replicate (rs.length+(fn.ntmps-rs.length)) none
 sg:=sg
def Bj(c:DV×F4):Option DV :=
 match c.2 with
 |.val=>some c.1
 |.full=>some c.1
 |.own=>some c.1
 |.KX=>some c.1
 |.U0 _ _ _=>some c.1
 |.arr i sz off len=>ob (RL sg i) λa=>og (a.1==sz) (if off+len<=a.2.length then some (.list sz ((a.2.drop off).take len))else none)
 |_=>none
def Es(sg:List E5):List (DV×F4)->Option (List DV)
 |[]=>some []
 |c::cs=>ob (Bj sg c) λd=>ob (Es sg cs) λds=>some (d::ds)
def cz:ResultVar->Option DV
 |.tmp t=>
   match (st.get t).2 with
   |.EZ ms=>  og (K6 (.EZ ms)) (some (st.get t).1)
   |_=>Bj st.sg (st.get t)
 |.cell a t=>
   match (st.get a).2 with
   |.loc s 0=>ob (st.bx.getD s none) λcs=>ob (tz P t) λz=>
     if z.1=cs.length then
      if z.2 then ob (Es st.sg cs) λds=>some (.agg ds)
      else match cs with
       |[c]=>Bj st.sg c
       |_=>none
     else none
   |.ptr i 0=>ob (H5 st.sg i) λcs=>ob (tz P t) λz=>
     if z.1=cs.length then
      if z.2 then ob (Es st.sg cs) λds=>some (.agg ds)
      else match cs with
       |[c]=>Bj st.sg c
       |_=>none
     else none
   |_=>none
def aJ(P:Program)(st:St):List ResultVar->Option (List DV)
 |[]=>some []
 |v::vs=>ob (cz P st v) λd=>ob (aJ P st vs) λds=>some (d::ds)
def pack:List DV->DV
 |[d]=>d
 |ds=>.J6 ds
def XE:Out->St->Option DV
 |.exit _,_=>none
 |_,st=>ob (aJ P st fn.results.toList) λds=>some (pack ds)
def wO:F4->List Nat
 |.arr i _ _ _=>[i]
 |_=>[]
def Uj:ResultVar->List Nat
 |.tmp t=>wO (st.get t).2
 |.cell a _=>
   match (st.get a).2 with
   |.loc s _=>
     match st.bx.getD s none with
     |some cs=>cs.flatMap λc=>wO c.2
     |none=>[]
   |_=>[]
def kill(us:List Nat):List E5:=us.foldl (λg i=>g.set i (.arr 1 [])) sg
def zx:ResultVar->Bool
 |.tmp _=>true
 |.cell a _=>
   match (st.get a).2 with
   |.loc _ _=>true
   |_=>false
def A7h(r:DV×F4):Option DV :=
 match r.2 with
 |.ptr i 0=>some (.int .u64 i)
 |.KX=>some .R_
 |_=>none
def jI(os:List Nat):Nat->List (DV×F4)->Bool
 |_,[]=>true
 |i,c::cs=>(if os.contains i then Mr c.2 else K6 c.2)&&jI os (i+1) cs
def A1N(sl:Bool)(st:St)(k:MK)(v:ResultVar):Option DV :=
 match k with
 |.val=>match sl&&zx st v with
   |true=>cz P st v
   |false=>cz P { st with sg:=[] } v
 |.own=>
   match v with
   |.tmp t=>og (Mr (st.get t).2) (some (st.get t).1)
   |_=>none
 |.ptr=>
   match v with
   |.tmp t=>A7h (st.get t)
   |_=>none
 |.Yb n os=>
   match v with
   |.cell a t=>
     match (st.get a).2 with
     |.loc s 0=>ob (st.bx.getD s none) λcs=>ob (tz P t) λz=>og (z.2&&z.1==cs.length&&n==z.1&&jI os 0 cs) (some (.agg (cs.map (·.1))))
     |_=>none
   |_=>none
def YW(P:Program)(sl:Bool)(st:St):List MK->List ResultVar->Option (List DV)
 |[],[]=>some []
 |k::ks,v::vs=>ob (A1N P sl st k v) λd=>ob (YW P sl st ks vs) λds=>some (d::ds)
 |_,_=>none
def dB(s:j3):Out->St->Option (List DV×List E5)
 |.exit _,_=>none
 |_,st=>og (decide ((s.results.filter EC).length<=1)) (ob (YW P s.lock st s.results fn.results.toList) λds=>some (ds,match s.lock with
   |true=>kill st.sg (fn.results.toList.flatMap (Uj st))
   |false=>st.sg))
def EI(R:O8):O8 where
 p f ds:=ob C.P.funcs[f]? λfn=>ob fn.body λc=>l6 C R (C.fl f) c (XE C.P fn) (I4 fn (ds.map λd=>(d,.val)) [])
 r f rs sg:=ob (C.sig f) λs=>ob C.P.funcs[f]? λfn=>ob fn.body λc=>l6 C R (C.fl f) c (dB C.P fn s) (I4 fn rs sg)
def Nr(C:BQ):Nat->O8
 |0=>{ p:=λ_ _=>none,r:=λ_ _ _=>none }
 |n+1=>EI C (Nr C n)
open Classical in
def run:O8 where
 p f ds:=if h:∃x n,(Nr C n).p f ds=some x then some h.choose else none
 r f rs sg:=if h:∃x n,(Nr C n).r f rs sg=some x then some h.choose else none
abbrev pt:DV×F4:=(.undef,.ptr i 0)
abbrev oc{α : Type}(q:Option (List DV×List E5))(k:DV->List E5->Option α):Option α := ob q λr=>k (r.1.getD 0 .undef) r.2
end
section
abbrev Heap:=Array Obj
abbrev AY:=Nat->Nat->Prop
variable (h:Heap)
def hc(b o:Nat):Option Value :=
 match h[b]? with
 |some (.cells c _ _)=>c[o]?
 |_=>none
def Me(w:World)(b o:Nat):w.cell? ⟨b,o,none⟩=hc w.heap b o:=by unfold World.cell? hc;split<;>simp_all
def At(S:AY)(h:Heap)(b o:Nat)(vs:List Value):Prop :=∀j v,vs[j]?=some v->hc h b (o+j)=some v/\S b (o+j)
mutual
def RC(S:AY)(h:Heap):DV->List Value->Prop
 |.undef,vs=>∃v,vs=[v]/\v.oneCell'=true
 |.int k n,vs=>vs=[.int k n]
 |.bool b,vs=>vs=[.bool b]
 |.str s,vs=>vs=[.string s]
 |.agg cs,vs=>FM S h cs vs
 |.J6 _,_=>False
 |.list sz ds,vs=>∃a len cap,vs=[.slice a len cap]/\len=ds.length/\len<=cap/\(a=none->cap=0)/\(ds≠[]->0<sz) /\∀x,a=some x->(0<cap->x.spot=none)/\El S h sz x.block x.off ds
 |.R_,vs=>vs=[.pointer none]
 |.Vi sz d,vs=>∃b o,vs=[.pointer (some ⟨b,o,none⟩)]/\∃us:List Value,us.length=sz/\At S h b o us/\RC S h d us
def FM(S:AY)(h:Heap):List DV->List Value->Prop
 |[],vs=>vs=[]
 |d::ds,vs=>∃v vs',vs=v::vs'/\M8 d=true/\RC S h d [v]/\FM S h ds vs'
def El(S:AY)(h:Heap)(sz b:Nat):Nat->List DV->Prop
 |_,[]=>True
 |o,d::ds=>(∃vs,vs.length=sz/\At S h b o vs/\RC S h d vs)/\El S h sz b (o+sz) ds
end
mutual
def RV(S:AY)(h:Heap):DV->Value->Prop
 |.undef,_=>True
 |.int k n,v=>v=.int k n
 |.bool b,v=>v=.bool b
 |.str s,v=>v=.string s
 |.agg cs,v=>∃vs,v=.agg vs/\FM S h cs vs.toList
 |.J6 ds,v=>∃vs,v=.tuple vs/\SH S h ds vs.toList
 |.list sz ds,v=>RC S h (.list sz ds) [v]
 |.R_,v=>v=.pointer none
 |.Vi sz d,v=>RC S h (.Vi sz d) [v]
def SH(S:AY)(h:Heap):List DV->List Value->Prop
 |[],vs=>vs=[]
 |d::ds,vs=>∃v vs',vs=v::vs'/\RV S h d v/\SH S h ds vs'
end
def CS{S:AY}{h:Heap}:∀{cs:List DV}{vs:List Value},FM S h cs vs ↔
 cs.length=vs.length/\∀(i:Nat) d v,cs[i]?=some d->vs[i]?=some v->M8 d=true/\RC S h d [v]
 |[],vs=>by
   simp only[FM];constructor
   ·rintro rfl;simp
   ·rintro⟨h1,-⟩;exact zuq h1.symm
 |d::ds,vs=>by
   simp only[FM];constructor
   ·rintro⟨v,vs',rfl,hl,hc,hr⟩;obtain⟨h1,h2⟩:=CS.1 hr;refine⟨by simp[h1],λi d' v' hd hv=>?_⟩;cases i with
    |zero=>simp at hd hv;subst hd hv;exact⟨hl,hc⟩
    |succ i=>simp at hd hv;exact h2 i d' v' hd hv
   ·rintro⟨h1,h2⟩;cases vs with
    |nil=>simp at h1
    |cons v vs'=>refine⟨v,vs',rfl,(h2 0 d v rfl rfl).1,(h2 0 d v rfl rfl).2,CS.2 ⟨by simpa using h1,λi d' v' hd hv=>h2 (i+1) d' v' (by simpa using hd) (by simpa using hv)⟩⟩
def Wh{S:AY}{h:Heap}:∀{cs:List DV}{vs:List Value},SH S h cs vs ↔
 cs.length=vs.length/\∀(i:Nat) d v,cs[i]?=some d->vs[i]?=some v->RV S h d v
 |[],vs=>by
   simp only[SH];constructor
   ·rintro rfl;simp
   ·rintro⟨h1,-⟩;exact zuq h1.symm
 |d::ds,vs=>by
   simp only[SH];constructor
   ·rintro⟨v,vs',rfl,hc,hr⟩;obtain⟨h1,h2⟩:=Wh.1 hr;refine⟨by simp[h1],λi d' v' hd hv=>?_⟩;cases i with
    |zero=>simp at hd hv;subst hd hv;exact hc
    |succ i=>simp at hd hv;exact h2 i d' v' hd hv
   ·rintro⟨h1,h2⟩;cases vs with
    |nil=>simp at h1
    |cons v vs'=>refine⟨v,vs',rfl,h2 0 d v rfl rfl,Wh.2 ⟨by simpa using h1,λi d' v' hd hv=>h2 (i+1) d' v' (by simpa using hd) (by simpa using hv)⟩⟩
def Elem(S:AY)(h:Heap)(sz b o:Nat)(d:DV):Prop:=∃vs:List Value,vs.length=sz/\At S h b o vs/\RC S h d vs
def EW{S:AY}{h:Heap}{sz b:Nat}:∀{ds:List DV}{o:Nat},El S h sz b o ds ↔
 ∀(i:Nat) d,ds[i]?=some d->Elem S h sz b (o+i * sz) d
 |[],o=>by simp[El]
 |d::ds,o=>by
   simp only[El];constructor
   ·rintro⟨h1,h2⟩ i d' hd;cases i with
    |zero=>simp at hd;subst hd;simpa[Elem]using h1
    |succ i=>have:=EW.1 h2 i d' (by simpa using hd);rw[zrq,zLq (i * sz),<- zmq];exact this
   ·intro hh;refine⟨by simpa[Elem]using hh 0 d rfl,EW.2 λi d' hd=>?_⟩;have:=hh (i+1) d' (by simpa using hd);rw[zrq,zLq (i * sz),<- zmq]at this;exact this
structure AJ(S:AY)(h:Heap)(S':AY)(h':Heap):Prop where
 s:∀b o,S b o->S' b o
 c:∀b o v,S b o->hc h b o=some v->hc h' b o=some v
variable {S:AY}{h:Heap}{vs:List Value}
def At.mono{S':AY}{h':Heap}{b o:Nat}(J4:AJ S h S' h')(H:At S h b o vs):At S' h' b o vs :=λj v hv=>⟨J4.c _ _ _ (H j v hv).2 (H j v hv).1,J4.s _ _ (H j v hv).2⟩
mutual
theorem RC.mono{S S':AY}{h h':Heap}(J4:AJ S h S' h'):∀(d:DV){vs:List Value},RC S h d vs->RC S' h' d vs
 |.undef,_,H=>by simpa only[RC]using H
 |.int _ _,_,H=>by simpa only[RC]using H
 |.bool _,_,H=>by simpa only[RC]using H
 |.str _,_,H=>by simpa only[RC]using H
 |.agg cs,_,H=>by simp only[RC]at H ⊢;exact FM.mono J4 cs H
 |.J6 _,_,H=>by simp only[RC]at H
 |.list sz ds,_,H=>by simp only[RC]at H ⊢;obtain⟨a,len,cap,h1,h2,h3,h4,h5,h6⟩:=H;exact⟨a,len,cap,h1,h2,h3,h4,h5,λx hx=>⟨(h6 x hx).1,El.mono J4 ds (h6 x hx).2⟩⟩
 |.R_,_,H=>by simpa only[RC]using H
 |.Vi sz d,_,H=>by simp only[RC]at H ⊢;obtain⟨b,o,h1,us,h2,h3,h4⟩:=H;exact⟨b,o,h1,us,h2,h3.mono J4,RC.mono J4 d h4⟩
theorem FM.mono{S S':AY}{h h':Heap}(J4:AJ S h S' h'):∀(ds:List DV){vs:List Value},FM S h ds vs->FM S' h' ds vs
 |[],_,H=>by simpa only[FM]using H
 |d::ds,_,H=>by simp only[FM]at H ⊢;obtain⟨v,vs',h1,h2,h3,h4⟩:=H;exact⟨v,vs',h1,h2,RC.mono J4 d h3,FM.mono J4 ds h4⟩
theorem El.mono{S S':AY}{h h':Heap}(J4:AJ S h S' h'){sz b:Nat}:∀(ds:List DV){o:Nat},El S h sz b o ds->El S' h' sz b o ds
 |[],_,_=>by simp only[El]
 |d::ds,_,H=>by simp only[El]at H ⊢;obtain⟨⟨vs,h1,h2,h3⟩,h4⟩:=H;exact⟨⟨vs,h1,h2.mono J4,RC.mono J4 d h3⟩,El.mono J4 ds h4⟩
end
variable {d:DV}
def Elem.mono{S':AY}{h':Heap}(J4:AJ S h S' h'){sz b o:Nat}(H:Elem S h sz b o d):Elem S' h' sz b o d :=
 let⟨vs,h1,h2,h3⟩:=H
 ⟨vs,h1,h2.mono J4,RC.mono J4 d h3⟩
mutual
theorem RV.mono{S S':AY}{h h':Heap}(J4:AJ S h S' h'):∀(d:DV){v:Value},RV S h d v->RV S' h' d v
 |.undef,_,_=>by simp only[RV]
 |.int _ _,_,H=>by simpa only[RV]using H
 |.bool _,_,H=>by simpa only[RV]using H
 |.str _,_,H=>by simpa only[RV]using H
 |.agg cs,_,H=>by simp only[RV]at H ⊢;obtain⟨vs,h1,h2⟩:=H;exact⟨vs,h1,FM.mono J4 cs h2⟩
 |.J6 ds,_,H=>by simp only[RV]at H ⊢;obtain⟨vs,h1,h2⟩:=H;exact⟨vs,h1,SH.mono J4 ds h2⟩
 |.list _ _,_,H=>by simp only[RV]at H ⊢;exact RC.mono J4 _ H
 |.R_,_,H=>by simpa only[RV]using H
 |.Vi _ _,_,H=>by simp only[RV]at H ⊢;exact RC.mono J4 _ H
theorem SH.mono{S S':AY}{h h':Heap}(J4:AJ S h S' h'):∀(ds:List DV){vs:List Value},SH S h ds vs->SH S' h' ds vs
 |[],_,H=>by simpa only[SH]using H
 |d::ds,_,H=>by simp only[SH]at H ⊢;obtain⟨v,vs',h1,h2,h3⟩:=H;exact⟨v,vs',h1,RV.mono J4 d h2,SH.mono J4 ds h3⟩
end
variable {v:Value}
theorem Jm(hl:M8 d=true)(H:RC S h d [v]):v.oneCell'=true:=by
 cases d<;>simp only[RC,M8]at H hl<;>try contradiction
 ·obtain⟨u,hu,hv⟩:=H;simp at hu;subst hu;exact hv
 ·simp at H;subst H;rfl
 ·simp at H;subst H;rfl
 ·simp at H;subst H;rfl
 ·obtain⟨a,len,cap,hu,-⟩:=H;simp at hu;subst hu;rfl
 ·simp at H;subst H;rfl
 ·obtain⟨b,o,hu,-⟩:=H;simp at hu;subst hu;rfl
def MZ(hl:M8 d=true)(H:RC S h d vs):∃v,vs=[v]:=by
 cases d<;>simp only[RC,M8]at H hl<;>try contradiction
 ·obtain⟨u,hu,-⟩:=H;exact⟨u,hu⟩
 ·exact⟨_,H⟩
 ·exact⟨_,H⟩
 ·exact⟨_,H⟩
 ·obtain⟨a,len,cap,hu,-⟩:=H;exact⟨_,hu⟩
 ·exact⟨_,H⟩
 ·obtain⟨b,o,hu,-⟩:=H;exact⟨_,hu⟩
def P_(hl:M8 d=true)(H:RC S h d [v]):RV S h d v:=by
 cases d<;>simp only[RC,RV,M8]at H hl ⊢<;>try contradiction
 ·simpa using H
 ·simpa using H
 ·simpa using H
 ·exact H
 ·simpa using H
 ·exact H
def NW(hl:M8 d=true)(hv:v.oneCell'=true)(H:RV S h d v):RC S h d [v]:=by
 cases d<;>simp only[RC,RV,M8]at H hl ⊢<;>try contradiction
 ·exact⟨v,rfl,hv⟩
 ·simpa using H
 ·simpa using H
 ·simpa using H
 ·exact H
 ·simpa using H
 ·exact H
def Oa(H:RC S h d vs){j:Nat}(hv:vs[j]?=some v):
 M8 (C8 j d)=true/\RC S h (C8 j d) [v]:=by
 have und:∀u:Value,u.oneCell'=true->M8 DV.undef=true/\RC S h DV.undef [u]:=λu hu=>⟨rfl,by simp only[RC];exact⟨u,rfl,hu⟩⟩;cases d with
 |agg cs=>simp only[RC]at H;obtain⟨h1,h2⟩:=CS.1 H;have hj:j<vs.length:=(z0q.1 hv).1;have hc:cs[j]?=some (cs[j]'(by omega)):=z3q (by omega);have:=h2 j _ v hc hv;simp only[C8,z1q,hc,zAq];exact this
 |J6 _=>simp only[RC]at H
 |undef=>
   obtain⟨u,rfl⟩:=MZ (d:=.undef) rfl H;have h1:=Jm (d:=.undef) rfl H;cases j with
   |zero=>simp at hv;subst hv;exact und _ h1
   |succ j=>simp at hv
 |int k n=>
   obtain⟨u,rfl⟩:=MZ (d:=.int k n) rfl H;have h1:=Jm (d:=.int k n) rfl H;cases j with
   |zero=>simp at hv;subst hv;exact und _ h1
   |succ j=>simp at hv
 |bool b=>
   obtain⟨u,rfl⟩:=MZ (d:=.bool b) rfl H;have h1:=Jm (d:=.bool b) rfl H;cases j with
   |zero=>simp at hv;subst hv;exact und _ h1
   |succ j=>simp at hv
 |str s=>
   obtain⟨u,rfl⟩:=MZ (d:=.str s) rfl H;have h1:=Jm (d:=.str s) rfl H;cases j with
   |zero=>simp at hv;subst hv;exact und _ h1
   |succ j=>simp at hv
 |list sz ds=>
   obtain⟨u,rfl⟩:=MZ (d:=.list sz ds) rfl H;have h1:=Jm (d:=.list sz ds) rfl H;cases j with
   |zero=>simp at hv;subst hv;exact und _ h1
   |succ j=>simp at hv
 |R_=>
   obtain⟨u,rfl⟩:=MZ (d:=.R_) rfl H;have h1:=Jm (d:=.R_) rfl H;cases j with
   |zero=>simp at hv;subst hv;exact und _ h1
   |succ j=>simp at hv
 |Vi sz d=>
   obtain⟨u,rfl⟩:=MZ (d:=.Vi sz d) rfl H;have h1:=Jm (d:=.Vi sz d) rfl H;cases j with
   |zero=>simp at hv;subst hv;exact und _ h1
   |succ j=>simp at hv
end
section
inductive Tag where
 |other
 |Q8
 |TR (s:Nat)
 |obj (i:Nat)
 |sp (k a b:Nat)
 deriving DecidableEq
structure Env where
 blk:Nat->Nat
 obj:Nat->Nat
 base:Nat->Nat
 top:Nat->Nat
 O:Nat->Nat->Tag
 n:Nat
 Q9:Nat->Nat
variable (E:Env)
def Env.In(i:Nat):Prop:=i<E.n/\E.Q9 i=0
def Env.S:AY:=λb o=>E.O b o=.Q8
variable (h:Heap)(tg:Tag)
def A44(sz:Nat)(v:Value):Prop :=∀(x:Addr)(len cap:Nat),v=.slice (some x) len cap->len<cap->∃c T f,h[x.block]?=some (.cells c T f)/\x.off+cap * sz<=c.size /\∀o,x.off+len * sz<=o->o<x.off+cap * sz->E.O x.block o=tg/\¬(f.1<=o/\o<f.2)
def M4(d:DV)(m:F4)(v:Value):Prop :=
 match m with
 |.val=>RV E.S h d v
 |.full=>RV E.S h d v/\(∃(a:Option Addr)(n:Nat),v=.slice a n n)/\∃sz ds,d=.list sz ds
 |.own=>RV E.S h d v/\∃sz ds,d=.list sz ds/\A44 E h tg sz v
 |.loc s o=>d=.undef/\v=.pointer (some ⟨E.blk s,o,none⟩)
 |.Qg ag sz o=>∃b o0,v=.pointer (some ⟨b,o0+o,none⟩)/\Elem E.S h sz b o0 d/\(ag=false->M8 d=true)
 |.ptr i o=>E.In i/\v=.pointer (some ⟨E.obj i,o,none⟩)
 |.KX=>d=.R_/\v=.pointer none
 |.map i=>E.In i/\v=.map (some (E.obj i))
 |.Rz=>v=.map none
 |.arr i sz off len=>E.In i/\∃(a:Option Addr)(cap:Nat),v=.slice a len cap/\(0<len->a=some ⟨E.obj i,E.base i+off * sz,none⟩)/\len<=cap/\(a=none->cap=0)/\(∀x,a=some x->x.spot=none)/\(0<len->E.base i+(off+cap) * sz<=E.top i)
 |.Xz i sz idx o=>E.In i/\v=.pointer (some ⟨E.obj i,E.base i+idx * sz+o,none⟩)
 |.opt i sz idx=>E.In i/\v=.pointer (some ⟨E.obj i,E.base i+idx * sz,none⟩)
 |.P9 i n sz len=>i<E.n/\0<n/\n<=E.Q9 i/\∃(a:Option Addr)(cap:Nat),v=.slice a len cap/\len<=cap/\(a=none->cap=0)/\(0<cap->∀x,a=some x->x.spot=none) /\(E.Q9 i=n->0<cap->a=some ⟨E.obj i,E.base i,none⟩/\E.base i+cap * sz<=E.top i)
 |.gK i n sz idx o=>i<E.n/\0<n/\n<=E.Q9 i/\∃b p,v=.pointer (some ⟨b,p+o,none⟩)/\(E.Q9 i=n->b=E.obj i/\p=E.base i+idx * sz)
 |.fn f caps=>v=.func (.func f) #[] (caps.map λc=>Value.pointer (some ⟨E.obj c.1,c.2,none⟩)).toArray/\∀c∈caps,E.In c.1
 |.Cg _=>False
 |.EZ _=>False
 |.U0 i n sz=>RV E.S h d v/\(∃ds,d=.list sz ds)/\i<E.n/\0<n/\n<=E.Q9 i/\∃(a:Option Addr)(len cap:Nat),v=.slice a len cap /\(E.Q9 i=n->0<cap->a=some ⟨E.obj i,E.base i,none⟩/\E.base i+cap * sz<=E.top i)
 |.Hr _=>d=.undef/\∃b clk,v=.map (some b)/\h[b]?=some (.map #[] clk)/\∀o,E.O b o=tg
def F4.owns:F4->Bool
 |.own=>true
 |.Hr _=>true
 |_=>false
def RR(k a:Nat)(d:DV)(m:F4)(v:Value):Prop :=
 match m with
 |.Cg ms=>∃(ds:List DV)(vs:Array Value),d=.J6 ds/\v=.tuple vs/\ds.length=ms.length/\vs.size=ms.length /\∀(i:Nat) m' d' u,ms[i]?=some m'->ds[i]?=some d'->vs[i]?=some u->Z0 m'=true/\M4 E h (.sp k a (i+1)) d' m' u
 |.EZ ms=>∃(ds:List DV)(vs:Array Value),d=.agg ds/\v=.agg vs/\ds.length=ms.length/\vs.size=ms.length /\∀(i:Nat) m' d' u,ms[i]?=some m'->ds[i]?=some d'->vs[i]?=some u->M8 d'=true/\u.oneCell'=true/\Z0 m'=true/\M4 E h (.sp k a (i+1)) d' m' u
 |m=>M4 E h (.sp k a 0) d m v
def aQ(k a:Nat)(b:Nat)(cs:List (DV×F4)):Prop :=∃c T,h[b]?=some (.cells c T (0,0))/\c.size=cs.length/\(∀o,E.O b o=tg\/c.size<=o) /\∀(j:Nat) r v,cs[j]?=some r->c[j]?=some v->M8 r.1=true/\v.oneCell'=true/\Z0 r.2=true/\M4 E h (.sp k a j) r.1 r.2 v
def B7y(S:AY)(h:Heap)(ks:Bool)(es:List (DV×DV))(ens:Array MapEntry):Prop :=es.length=ens.size/\∀(j:Nat) e n,es[j]?=some e->ens[j]?=some n->Z4 ks e.1=true/\RV S h e.1 n.key/\RV S h e.2 n.val
def gL(ens:Array MapEntry)(clk:Nat):Prop :=(∀(j:Nat) n,ens[j]?=some n->n.born<clk)/\∀(i j:Nat) m n,ens[i]?=some m->ens[j]?=some n->m.born=n.born->i=j
def RO(i:Nat):E5->Prop
 |.box cs=>aQ E h (.obj i) 2 i (E.obj i) cs
 |.arr sz ds=>ds≠[]->∃c T,h[E.obj i]?=some (.cells c T (0,0))/\E.base i+ds.length * sz<=c.size/\0<sz /\
    (∀o,E.base i<=o->o<E.base i+ds.length * sz->E.O (E.obj i) o=.obj i) /\
    ∀(j:Nat) d,ds[j]?=some d->∃vs:List Value,vs.length=sz/\(∀(x:Nat) u,vs[x]?=some u->c[E.base i+j * sz+x]?=some u)/\RC E.S h d vs
 |.opn sz pre ds=>∃c T f,h[E.obj i]?=some (.cells c T f)/\E.base i+(pre.length+ds.length) * sz<=E.top i/\E.top i<=c.size/\0<sz /\
    (∀o,E.base i+pre.length * sz<=o->o<E.top i->E.O (E.obj i) o=.obj i/\¬(f.1<=o/\o<f.2)) /\
    (∀(j:Nat) d,pre[j]?=some d->Elem E.S h sz (E.obj i) (E.base i+j * sz) d) /\
    ∀(j:Nat) d,ds[j]?=some d->∃vs:List Value,vs.length=sz/\(∀(x:Nat) u,vs[x]?=some u->c[E.base i+(pre.length+j) * sz+x]?=some u)/\RC E.S h d vs
 |.P9 n sz ds=>E.Q9 i=n/\0<n/\0<sz/\((ds=[]/\E.top i=E.base i)\/∃c T f,h[E.obj i]?=some (.cells c T f)/\E.base i+ds.length * sz<=E.top i/\E.top i<=c.size /\
    (∀o,E.base i<=o->o<E.top i->E.O (E.obj i) o=.obj i/\¬(f.1<=o/\o<f.2)) /\
    ∀(j:Nat) d,ds[j]?=some d->∃vs:List Value,vs.length=sz/\(∀(x:Nat) u,vs[x]?=some u->c[E.base i+j * sz+x]?=some u)/\RC E.S h d vs)
 |.U0 n sz len=>E.Q9 i=n/\0<n/\0<sz/\((len=0/\E.top i=E.base i)\/∃c T f,h[E.obj i]?=some (.cells c T f)/\E.base i+len * sz<=E.top i/\E.top i<=c.size /\∀o,E.base i+len * sz<=o->o<E.top i->E.O (E.obj i) o=.obj i/\¬(f.1<=o/\o<f.2))
 |.map ks es=>∃ens clk,h[E.obj i]?=some (.map ens clk)/\(∀o,E.O (E.obj i) o=.obj i)/\B7y E.S h ks es ens/\gL ens clk
structure L6(E:Env)(st:St)(a:Act)(h:Heap):Prop where
 size:a.tmps.size=st.tm.length
 AZ:st.mt.length=st.tm.length
 CW:st.bx.length=st.tm.length
 n:st.sg.length=E.n
 Be:∀(t:Nat) v,a.tmps[t]?=some v->RR E h 0 t (st.get t).1 (st.get t).2 v
 j4:∀(s:Nat) cs,st.bx.getD s none=some cs->aQ E h (.TR s) 1 s (E.blk s) cs
 U5:∀(i:Nat) ob,st.sg[i]?=some ob->RO E h i ob
 fresh:∀b o,h.size<=b->E.O b o=.other
structure Y9(w w':World):Prop where
 os:w'.os=w.os
 tape:w'.tape=w.tape
 output:w'.output=w.output
def Y9.refl(w:World):Y9 w w:=⟨rfl,rfl,rfl⟩
def Y9.trans{a b c:World}(h:Y9 a b)(k:Y9 b c):Y9 a c:=⟨k.os.trans h.os,k.tape.trans h.tape,k.output.trans h.output⟩
def X4(keep:Nat->Prop)(x y:Option Obj):Prop :=
 match x with
 |none=>True
 |some (.cells c T f)=>∃c',y=some (.cells c' T f)/\c'.size=c.size/\∀o,keep o->c'[o]?=c[o]?
 |some ob=>keep 0->y=some ob
def A45(ch:Tag->Prop)(E E':Env):Prop:=∀i,i<E.n->(E.Q9 i=0->E'.Q9 i=0)/\E.Q9 i<=E'.Q9 i/\(¬ch (.obj i)->E'.Q9 i=E.Q9 i)
variable {E:Env}{E':Env}
def EA{ch:Tag->Prop}(h:E'.Q9=E.Q9):A45 ch E E':=λi _=>by rw[h];exact⟨id,z5q _,λ_=>rfl⟩
def XM{ch:Tag->Prop}(h:E'.Q9=λi=>if i=E.n then 0 else E.Q9 i):A45 ch E E':=λi hi=>by
 have:E'.Q9 i=E.Q9 i:=by rw[h];exact A7 (by omega)
 rw[this];exact⟨id,z5q _,λ_=>rfl⟩
structure Pr(ch:Tag->Prop)(E:Env)(h:Heap)(E':Env)(h':Heap):Prop where
 size:h.size<=h'.size
 blk:∀b,b<h.size->X4 (λo=>¬ch (E.O b o)) h[b]? h'[b]?
 tags:∀b o,b<h.size->¬ch (E.O b o)->E'.O b o=E.O b o
 n:E.n<=E'.n
 U5:∀i,i<E.n->E'.Q9 i=E.Q9 i->E'.obj i=E.obj i/\E'.base i=E.base i/\E'.top i=E.top i
 gy:∀s,¬ch (.TR s)->E'.blk s=E.blk s
 OE:A45 ch E E'
theorem X4.refl(keep:Nat->Prop)(x:Option Obj):X4 keep x x:=by
 unfold X4;split
 ·trivial
 ·exact⟨_,rfl,rfl,λ_ _=>rfl⟩
 ·exact λ_=>rfl
def Pr.refl(ch:Tag->Prop)(E:Env)(h:Heap):Pr ch E h E h :=⟨z5q _,λ_ _=>X4.refl _ _,λ_ _ _ _=>rfl,z5q _,λ_ _ _=>⟨rfl,rfl,rfl⟩,λ_ _=>rfl,EA rfl⟩
variable {h:Heap}{h':Heap}{i:Nat}
def Pr.old{ch:Tag->Prop}(H:Pr ch E h E' h')(hi:E.In i):E'.obj i=E.obj i/\E'.base i=E.base i/\E'.top i=E.top i :=H.U5 i hi.1 (((H.OE i hi.1).1 hi.2).trans hi.2.symm)
def Pr.In{ch:Tag->Prop}(H:Pr ch E h E' h')(hi:E.In i):E'.In i:=⟨ziq hi.1 H.n,(H.OE i hi.1).1 hi.2⟩
def Pr.j6{ch ch':Tag->Prop}(H:Pr ch E h E' h')(hc:∀t,ch t->ch' t):Pr ch' E h E' h':=by
 refine⟨H.size,λb hb=>?_,λb o hb hn=>H.tags b o hb λx=>hn (hc _ x),H.n,H.U5,λs hn=>H.gy s λx=>hn (hc _ x),λi hi=>⟨(H.OE i hi).1,(H.OE i hi).2.1,λhn=>(H.OE i hi).2.2 λx=>hn (hc _ x)⟩⟩;have:=H.blk b hb;unfold X4 at this ⊢;split at this
 ·trivial
 ·obtain⟨c',h1,h2,h3⟩:=this;exact⟨c',h1,h2,λo ho=>h3 o λx=>ho (hc _ x)⟩
 ·exact λh0=>this λx=>h0 (hc _ x)
def Pr.trans{ch:Tag->Prop}{E1 E2:Env}{h1 h2:Heap}(A:Pr ch E h E1 h1)(B:Pr ch E1 h1 E2 h2):Pr ch E h E2 h2:=by
 refine⟨zMq A.size B.size,λb hb=>?_,λb o hb hn=>?_,zMq A.n B.n,λi hi hv=>?_,λs hn=>(B.gy s hn).trans (A.gy s hn),λi hi=>?_⟩
 ·have a:=A.blk b hb;have bb:=B.blk b (ziq hb A.size);unfold X4 at a;unfold X4;split at a
  ·trivial
  ·obtain⟨c',e1,e2,e3⟩:=a;unfold X4 at bb;rw[e1]at bb;obtain⟨c2,f1,f2,f3⟩:=bb;refine⟨c2,f1,f2.trans e2,λo ho=>(f3 o ?_).trans (e3 o ho)⟩;show ¬ch (E1.O b o);rw[A.tags b o hb ho];exact ho
  ·rename_i ob hne _;intro h0;have e1:=a h0;rw[e1]at bb;have uZ:¬ch (E1.O b 0):=by rw[A.tags b 0 hb h0];exact h0
   unfold X4 at bb;split at bb
   ·simp_all
   ·rename_i heq;simp only[D8]at heq;exact absurd heq (hne _ _ _)
   ·rename_i heq;rw[<- heq]at bb;exact heq ▸ bb uZ
 ·have:=A.tags b o hb hn;exact(B.tags b o (ziq hb A.size) (by rw[this];exact hn)).trans this
 ·have v1:=(A.OE i hi).2.1;have v2:=(B.OE i (ziq hi A.n)).2.1;have x:=A.U5 i hi (by omega);have y:=B.U5 i (ziq hi A.n) (by omega);exact⟨y.1.trans x.1,y.2.1.trans x.2.1,y.2.2.trans x.2.2⟩
 ·have v1:=A.OE i hi;have v2:=B.OE i (ziq hi A.n);exact⟨λh=>v2.1 (v1.1 h),zMq v1.2.1 v2.2.1,λhn=>(v2.2.2 hn).trans (v1.2.2 hn)⟩
variable {v:Value}
def Pr.hc{ch:Tag->Prop}(H:Pr ch E h E' h'){b o:Nat}(hn:¬ch (E.O b o))(hv:hc h b o=some v):Su.hc h' b o=some v:=by
 have hb:b<h.size:=by
  rcases zvq b h.size with h1 | h1
  ·exact h1
  ·simp[Su.hc,Array.getElem?_eq_none h1]at hv
 have:=H.blk b hb;unfold X4 at this;unfold Su.hc at hv ⊢;split at this
 ·simp_all
 ·rename_i c T f he;obtain⟨c',e1,e2,e3⟩:=this;rw[he]at hv;rw[e1];simp only at hv ⊢;rw[e3 o hn];exact hv
 ·rename_i ob hne he;rw[he]at hv;split at hv
  ·rename_i heq;simp only[D8]at heq;exact absurd heq (hne _ _ _)
  ·simp at hv
def Pr.Q8{ch:Tag->Prop}(H:Pr ch E h E' h')(hs:¬ch .Q8)(hf:∀b o,h.size<=b->E.O b o=.other):AJ E.S h E'.S h':=by
 refine⟨λb o h1=>?_,λb o v h1 hv=>H.hc (by rw[show E.O b o=.Q8 from h1];exact hs) hv⟩;have hb:b<h.size:=by
  rcases zvq b h.size with h2 | h2
  ·exact h2
  ·have:=hf b o h2;rw[show E.O b o=.Q8 from h1]at this;cases this
 have:=H.tags b o hb (by rw[show E.O b o=.Q8 from h1];exact hs);exact this.trans h1
variable {tg:Tag}
def A44.mono{ch:Tag->Prop}(H:Pr ch E h E' h')(ht:¬ch tg){sz:Nat}(hs:A44 E h tg sz v):A44 E' h' tg sz v:=by intro x len cap hv P6;obtain⟨c,T,f,h1,h2,h3⟩:=hs x len cap hv P6;have hb:x.block<h.size:=(z4q.1 h1).1;have:=H.blk x.block hb;unfold X4 at this;rw[h1]at this;obtain⟨c',e1,e2,e3⟩:=this;refine⟨c',T,f,e1,by rw[e2];exact h2,λo h4 h5=>?_⟩;obtain⟨h6,h7⟩:=h3 o h4 h5;exact⟨(H.tags _ _ hb (by rw[h6];exact ht)).trans h6,h7⟩
def M4.mono{ch:Tag->Prop}(H:Pr ch E h E' h')(J4:AJ E.S h E'.S h'){d:DV}{m:F4}(ht:m.owns=true->¬ch tg)(hl:∀s o,m=.loc s o->¬ch (.TR s))(R:M4 E h tg d m v):M4 E' h' tg d m v:=by
 cases m<;>simp only[M4]at R ⊢
 case U0 i n sz=>obtain⟨r0,rd,r1,r2,r3,a,len,cap,r4,r8⟩:=R;have hv:=(H.OE i r1).2.1;refine⟨r0.mono J4,rd,ziq r1 H.n,r2,by omega,a,len,cap,r4,λe=>?_⟩;have q:=H.U5 i r1 (by omega);rw[q.1,q.2.1,q.2.2];exact r8 (by omega)
 case Hr ks=>obtain⟨r0,b,clk,r1,r2,r3⟩:=R;have hb:b<h.size:=(z4q.1 r2).1;have hk:=H.blk _ hb;unfold X4 at hk;rw[r2]at hk;exact⟨r0,b,clk,r1,hk (by show ¬ch _;rw[r3 0];exact ht rfl),λo=>(H.tags _ o hb (by rw[r3 o];exact ht rfl)).trans (r3 o)⟩
 case val=>exact R.mono J4
 case full=>exact⟨R.1.mono J4,R.2⟩
 case own=>obtain⟨r1,sz,ds,r2,r3⟩:=R;exact⟨r1.mono J4,sz,ds,r2,r3.mono H (ht rfl)⟩
 case loc s o=>rw[H.gy s (hl s o rfl)];exact R
 case Qg ag sz o=>obtain⟨b,o0,r1,r2,r3⟩:=R;exact⟨b,o0,r1,r2.mono J4,r3⟩
 case ptr i o=>rw[(H.old R.1).1];exact⟨H.In R.1,R.2⟩
 case KX=>exact R
 case map i=>rw[(H.old R.1).1];exact⟨H.In R.1,R.2⟩
 case Rz=>exact R
 case arr i sz off len=>rw[(H.old R.1).1,(H.old R.1).2.1,(H.old R.1).2.2];exact⟨H.In R.1,R.2⟩
 case Xz i sz idx o=>rw[(H.old R.1).1,(H.old R.1).2.1];exact⟨H.In R.1,R.2⟩
 case opt i sz idx=>rw[(H.old R.1).1,(H.old R.1).2.1];exact⟨H.In R.1,R.2⟩
 case fn f caps=>refine⟨?_,λc hc=>H.In (R.2 c hc)⟩;rw[R.1];congr 2;exact List.map_congr_left λc hc=>by rw[(H.old (R.2 c hc)).1]
 case P9 i n sz len=>obtain⟨r1,r2,r3,a,cap,r4,r5,r6,r7,r8⟩:=R;have hv:=(H.OE i r1).2.1;refine⟨ziq r1 H.n,r2,by omega,a,cap,r4,r5,r6,r7,λe=>?_⟩;have q:=H.U5 i r1 (by omega);rw[q.1,q.2.1,q.2.2];exact r8 (by omega)
 case gK i n sz idx o=>obtain⟨r1,r2,r3,b,p,r4,r5⟩:=R;have hv:=(H.OE i r1).2.1;refine⟨ziq r1 H.n,r2,by omega,b,p,r4,λe=>?_⟩;have q:=H.U5 i r1 (by omega);rw[q.1,q.2.1];exact r5 (by omega)
def RR.mono{ch:Tag->Prop}(H:Pr ch E h E' h')(J4:AJ E.S h E'.S h'){k a:Nat}{d:DV}{m:F4}(ht:∀b,¬ch (.sp k a b))(hl:∀s o,m=.loc s o->¬ch (.TR s))(R:RR E h k a d m v):RR E' h' k a d m v:=by
 have gen:(∀ms,m ≠ .Cg ms)->(∀ms,m ≠ .EZ ms)->M4 E h (.sp k a 0) d m v->M4 E' h' (.sp k a 0) d m v :=λ_ _ r=>r.mono H J4 (λ_=>ht 0) hl
 cases m<;>simp only[RR]at R ⊢<;>try (exact gen (by simp) (by simp) R)
 case Cg ms=>
  obtain⟨ds,vs,h1,h2,h3,h4,h5⟩:=R;exact⟨ds,vs,h1,h2,h3,h4,λi m' d' u e1 e2 e3=>let⟨a0,a4⟩:=h5 i m' d' u e1 e2 e3
   ⟨a0,a4.mono H J4 (λ_=>ht _) λs o hm=>by rw[hm]at a0;simp[Z0]at a0⟩⟩
 case EZ ms=>
  obtain⟨ds,vs,h1,h2,h3,h4,h5⟩:=R;exact⟨ds,vs,h1,h2,h3,h4,λi m' d' u e1 e2 e3=>let⟨a1,a2,a0,a4⟩:=h5 i m' d' u e1 e2 e3
   ⟨a1,a2,a0,a4.mono H J4 (λ_=>ht _) λs o hm=>by rw[hm]at a0;simp[Z0]at a0⟩⟩
def aQ.mono{ch:Tag->Prop}(H:Pr ch E h E' h')(J4:AJ E.S h E'.S h')(ht:¬ch tg){k a b:Nat}{cs:List (DV×F4)}(hs:∀j,¬ch (.sp k a j))(R:aQ E h tg k a b cs):aQ E' h' tg k a b cs:=by
 obtain⟨c,T,h1,h2,h3,h4⟩:=R;have hb:b<h.size:=(z4q.1 h1).1;have:=H.blk b hb;unfold X4 at this;rw[h1]at this;obtain⟨c',e1,e2,e3⟩:=this;refine⟨c',T,e1,e2.trans h2,λo=>?_,λj r v hr hv=>?_⟩
 ·rcases h3 o with h5 | h5
  ·exact .inl ((H.tags b o hb (by rw[h5];exact ht)).trans h5)
  ·exact .inr (by omega)
 ·have hj:j<c.size:=by have:=(z0q.1 hr).1;omega
  have hne:¬ch (E.O b j):=by
   rcases h3 j with h5 | h5
   ·rw[h5];exact ht
   ·omega
  rw[e3 j hne]at hv;obtain⟨a1,a2,a0,a3⟩:=h4 j r v hr hv;exact⟨a1,a2,a0,a3.mono H J4 (λ_=>hs j) λs o hm=>by rw[hm]at a0;simp[Z0]at a0⟩
def RO.mono{ch:Tag->Prop}(H:Pr ch E h E' h')(J4:AJ E.S h E'.S h')(hi:i<E.n)(ht:¬ch (.obj i))(hs:∀j,¬ch (.sp 2 i j)){ob:E5}(R:RO E h i ob):RO E' h' i ob:=by
 obtain⟨ho,A5b,zu⟩:=H.U5 i hi ((H.OE i hi).2.2 ht);cases ob with
 |box cs=>simp only[RO]at R ⊢;rw[ho];exact R.mono H J4 ht hs
 |arr sz ds=>
   simp only[RO]at R ⊢;intro hne;obtain⟨c,T,h1,h2,hz,h3,h4⟩:=R hne;rw[ho,A5b];have hb:E.obj i<h.size:=(z4q.1 h1).1;have:=H.blk _ hb;unfold X4 at this;rw[h1]at this;obtain⟨c',e1,e2,e3⟩:=this;refine⟨c',T,e1,by omega,hz,λo h5 h6=>?_,λj d hd=>?_⟩
   ·have:=h3 o h5 h6;exact(H.tags _ o hb (by rw[this];exact ht)).trans this
   ·obtain⟨vs,v1,v2,v3⟩:=h4 j d hd;refine⟨vs,v1,λx u hu=>?_,v3.mono J4⟩;have hx:x<sz:=by have:=(z0q.1 hu).1;omega
    have hj:j<ds.length:=(z0q.1 hd).1;have P6:j * sz+x<ds.length * sz:=by
     calc j * sz+x<j * sz+sz:=by omega
      _=(j+1) * sz:=by rw[zrq]
      _<=ds.length * sz:=zlq _ hj
    rw[e3 _ (by show ¬ch _;rw[h3 _ (by omega) (by omega)];exact ht)];exact v2 x u hu
 |opn sz pre ds=>
   simp only[RO]at R ⊢;obtain⟨c,T,f,h1,h2,Pd,hz,h3,h4,h5⟩:=R;rw[ho,A5b,zu];have hb:E.obj i<h.size:=(z4q.1 h1).1;have:=H.blk _ hb;unfold X4 at this;rw[h1]at this;obtain⟨c',e1,e2,e3⟩:=this;refine⟨c',T,f,e1,h2,by omega,hz,λo h6 h7=>?_,λj d hd=>(h4 j d hd).mono J4,λj d hd=>?_⟩
   ·have:=h3 o h6 h7;exact⟨(H.tags _ o hb (by rw[this.1];exact ht)).trans this.1,this.2⟩
   ·obtain⟨vs,v1,v2,v3⟩:=h5 j d hd;refine⟨vs,v1,λx u hu=>?_,v3.mono J4⟩;have hx:x<sz:=by have:=(z0q.1 hu).1;omega
    have hj:j<ds.length:=(z0q.1 hd).1;have P6:(pre.length+j) * sz+x<(pre.length+ds.length) * sz:=by
     calc (pre.length+j) * sz+x<(pre.length+j) * sz+sz:=by omega
      _=(pre.length+j+1) * sz:=by rw[zrq]
      _<=(pre.length+ds.length) * sz:=zlq _ (by omega)
    have hge:pre.length * sz<=(pre.length+j) * sz:=zlq _ (by omega);rw[e3 _ (by show ¬ch _;rw[(h3 _ (by omega) (by omega)).1];exact ht)];exact v2 x u hu
 |P9 n sz ds=>
   simp only[RO]at R ⊢;obtain⟨hv,hn,hz,R⟩:=R;rw[ho,A5b,zu];refine⟨((H.OE i hi).2.2 ht).trans hv,hn,hz,?_⟩;rcases R with R | ⟨c,T,f,h1,h2,Pd,h3,h5⟩
   ·exact .inl R
   right;have hb:E.obj i<h.size:=(z4q.1 h1).1;have:=H.blk _ hb;unfold X4 at this;rw[h1]at this;obtain⟨c',e1,e2,e3⟩:=this;refine⟨c',T,f,e1,h2,by omega,λo h6 h7=>?_,λj d hd=>?_⟩
   ·have:=h3 o h6 h7;exact⟨(H.tags _ o hb (by rw[this.1];exact ht)).trans this.1,this.2⟩
   ·obtain⟨vs,v1,v2,v3⟩:=h5 j d hd;refine⟨vs,v1,λx u hu=>?_,v3.mono J4⟩;have hx:x<sz:=by have:=(z0q.1 hu).1;omega
    have hj:j<ds.length:=(z0q.1 hd).1;have P6:j * sz+x<ds.length * sz:=by
     calc j * sz+x<j * sz+sz:=by omega
      _=(j+1) * sz:=by rw[zrq]
      _<=ds.length * sz:=zlq _ (by omega)
    rw[e3 _ (by show ¬ch _;rw[(h3 _ (by omega) (by omega)).1];exact ht)];exact v2 x u hu
 |U0 n sz len=>
   simp only[RO]at R ⊢;obtain⟨hv,hn,hz,R⟩:=R;rw[ho,A5b,zu];refine⟨((H.OE i hi).2.2 ht).trans hv,hn,hz,?_⟩;rcases R with R | ⟨c,T,f,h1,h2,Pd,h3⟩
   ·exact .inl R
   right;have hb:E.obj i<h.size:=(z4q.1 h1).1;have:=H.blk _ hb;unfold X4 at this;rw[h1]at this;obtain⟨c',e1,e2,e3⟩:=this;refine⟨c',T,f,e1,h2,by omega,λo h6 h7=>?_⟩;have:=h3 o h6 h7;exact⟨(H.tags _ o hb (by rw[this.1];exact ht)).trans this.1,this.2⟩
 |map ks es=>simp only[RO]at R ⊢;obtain⟨ens,clk,h1,h2,h3,h4⟩:=R;rw[ho];have hb:E.obj i<h.size:=(z4q.1 h1).1;have hk:=H.blk _ hb;unfold X4 at hk;rw[h1]at hk;refine⟨ens,clk,hk (by show ¬ch _;rw[h2 0];exact ht),λo=>(H.tags _ o hb (by rw[h2 o];exact ht)).trans (h2 o),⟨h3.1,λj e n he hn=>?_⟩,h4⟩;obtain⟨a1,a2,a3⟩:=h3.2 j e n he hn;exact⟨a1,a2.mono J4,a3.mono J4⟩
end
section
def P8(t:Tag):Prop:=t ≠ .other/\t ≠ .Q8
variable {E:Env}{h:Heap}{d:DV}{m:F4}{v:Value}
def M4.tag{tg tg':Tag}(hm:m.owns=false)(R:M4 E h tg d m v):M4 E h tg' d m v:=by cases m<;>simp only[M4]at R ⊢<;>first | exact R | exact absurd hm (by simp[F4.owns])
def M4.Xy{tg tg':Tag}(R:M4 E h tg d m v):M4 E h tg' d (Xy m) v:=by cases m<;>simp only[M4,Su.Xy]at R ⊢<;>first | exact R | exact R.1 | (rw[R.1];simp only[RV])
def RR.AL{k a:Nat}(R:M4 E h (.sp k a 0) d m v):RR E h k a d m v:=by cases m<;>first | exact R | (simp only[M4]at R)
def RR.wD{k a:Nat}(h1:∀ms,m ≠ .Cg ms)(h2:∀ms,m ≠ .EZ ms)(R:RR E h k a d m v):M4 E h (.sp k a 0) d m v:=by cases m<;>first | exact R | exact absurd rfl (h1 _) | exact absurd rfl (h2 _)
def RR.dm{k a k' a':Nat}(R:RR E h k a d m v):RR E h k' a' d (dm m) v:=by
 cases m
 case EZ ms=>simp only[RR,Su.dm]at R ⊢;obtain⟨ds,vs,h1,h2,h3,h4,h5⟩:=R;refine⟨ds,vs,h1,h2,by simpa using h3,by simpa using h4,λi m' d' u e1 e2 e3=>?_⟩;simp only[zbq,zaq]at e1;obtain⟨m0,e1,rfl⟩:=e1;obtain⟨a1,a2,a0,a4⟩:=h5 i m0 d' u e1 e2 e3;exact⟨a1,a2,by cases m0<;>simp_all[Z0,Su.Xy],a4.Xy⟩
 case Cg ms=>simp only[RR,Su.dm]at R ⊢;obtain⟨ds,vs,h1,h2,h3,h4,h5⟩:=R;refine⟨ds,vs,h1,h2,by simpa using h3,by simpa using h4,λi m' d' u e1 e2 e3=>?_⟩;simp only[zbq,zaq]at e1;obtain⟨m0,e1,rfl⟩:=e1;obtain⟨a0,a4⟩:=h5 i m0 d' u e1 e2 e3;exact⟨by cases m0<;>simp_all[Z0,Su.Xy],a4.Xy⟩
 all_goals exact RR.AL (M4.Xy (RR.wD (by simp) (by simp) R))
def RR.data{k a:Nat}(hm:K6 m=true)(R:RR E h k a d m v):RV E.S h d v:=by
 cases m<;>simp only[K6]at hm<;>try contradiction
 ·exact R
 ·exact R.1
 ·exact R.1
 ·obtain⟨rfl,rfl⟩:=(R:_/\_);simp only[RV]
 ·rename_i ms;simp only[RR]at R;obtain⟨ds,vs,rfl,rfl,h3,h4,h5⟩:=R;simp only[RV];refine⟨vs,rfl,CS.2 ⟨by simp[h3,h4],λi d v hd hv=>?_⟩⟩;have hi:i<ms.length:=by have:=(z0q.1 hd).1;omega
  have hmi:ms[i]?=some ms[i]:=z3q hi;obtain⟨a1,a2,a0,a4⟩:=h5 i _ d v hmi hd (by simpa using hv);refine⟨a1,NW a1 a2 ?_⟩;have:=zFq.1 hm ms[i] (List.getElem_mem hi);cases hx:ms[i]<;>simp only[hx]at this a4<;>first | contradiction | exact a4 | exact a4.1 | (obtain⟨rfl,rfl⟩:=(a4:_/\_);simp only[RV])
def RR.val{k a:Nat}(R:RV E.S h d v):RR E h k a d .val v:=R
variable {P:Program}{t:TypeId}
def A0Z{r:DV×F4}(H:cst P t v=some r)(k a:Nat):RR E h k a r.1 r.2 v:=by
 unfold cst at H;split at H<;>simp only[D8,reduceCtorEq]at H<;>subst H<;>simp only[RR,M4,RV,and_self]
 refine⟨?_,⟨_,_,rfl⟩,_,_,rfl⟩;simp only[RC];exact⟨none,0,0,rfl,rfl,z5q _,λ_=>rfl,by simp,λx hx=>by simp at hx⟩
def A3q{r:DV×F4}(H:cst P t v=some r)(ms:List F4):r.2 ≠ .EZ ms:=by unfold cst at H;split at H<;>simp only[D8,reduceCtorEq]at H<;>subst H<;>simp
def eG{r:DV×F4}(H:cst P t v=some r):r.2 ≠ .own/\(∀ms,r.2 ≠ .Cg ms):=by unfold cst at H;split at H<;>simp only[D8,reduceCtorEq]at H<;>subst H<;>simp
def B18{r:DV×F4}(H:cst P t v=some r)(ks:Bool):r.2 ≠ .Hr ks:=by unfold cst at H;split at H<;>simp only[D8,reduceCtorEq]at H<;>subst H<;>simp
theorem B4b{r:DV×F4}(H:cst P t v=some r):r.2.owns=false:=by unfold cst at H;split at H<;>simp only[D8,reduceCtorEq]at H<;>subst H<;>rfl
def RD(h:Z0 m=true)(h2:m ≠ .own):m.owns=false:=by cases m<;>simp_all[Z0,F4.owns]
def fo:Operand->Nat
 |.tmp t=>t
 |_=>0
variable {st:St}{t:Nat}
def YK(ht:st.tm.length<=t)(hm:st.mt.length=st.tm.length):st.get t=(.undef,.val):=by simp[St.get,z1q,znq ht,znq (hm ▸ ht)]
variable {t:TypeId}{a:Act}{x:Operand}
def L6.src(R:L6 E st a h){r:DV×F4}(H:src P t st x=some r):
 RR E h 0 (fo x) r.1 r.2 (a.eval x):=by
 cases x with
 |tmp i=>
   simp only[Su.src,D8]at H;subst H;simp only[fo,Act.eval]
   by_cases hi:i<a.tmps.size
   ·have:a.tmps[i]?=some a.tmps[i]:=zpq hi;simpa[Array.getD_eq_getD_getElem?,this]using R.Be i _ this
   ·have hi':st.tm.length<=i:=by rw[<- R.size];exact Nat.le_of_not_lt hi
    rw[YK hi' R.AZ];simp only[RR,M4,RV]
 |const v=>exact A0Z H _ _
 |func f=>simp only[Su.src,D8]at H;subst H;simp only[RR,M4,Act.eval];exact⟨rfl,by simp⟩
 |global g=>simp[Su.src]at H
def L6.A9X{r:DV×F4}(H:Su.src P t st x=some r)(hx:∀i,x ≠ .tmp i)(k b:Nat):RR E h k b r.1 r.2 (a.eval x):=by
 cases x with
 |tmp i=>exact absurd rfl (hx i)
 |const v=>exact A0Z H _ _
 |func f=>simp only[Su.src,D8]at H;subst H;simp only[RR,M4,Act.eval];exact⟨rfl,by simp⟩
 |global g=>simp[Su.src]at H
variable (st:St)(dst:Option Nat)(d:DV)(m:F4)
def Vj:(st.put dst d m).tm.length=st.tm.length:=by cases dst<;>simp[St.put]
def A7i:(st.put dst d m).mt.length=st.mt.length:=by cases dst<;>simp[St.put]
@[simp] theorem lM:(st.put dst d m).bx=st.bx:=by cases dst<;>rfl
@[simp] theorem lN:(st.put dst d m).sg=st.sg:=by cases dst<;>rfl
variable {st:St}{d:DV}{m:F4}
def Qe{t:Nat}(ht:t<st.tm.length)(hm:st.mt.length=st.tm.length):(st.put (some t) d m).get t=(d,m):=by simp[St.put,St.get,z1q,z7q ht,z7q (hm ▸ ht)]
def Yn{t u:Nat}(h:t≠u):(st.put (some t) d m).get u=st.get u:=by simp[St.put,St.get,z1q,zdq h]
variable (a:Act)
def aS(dst:Option Nat)(v:Value):(a.put dst v).tmps.size=a.tmps.size:=by cases dst<;>simp[Act.put]
theorem jH(dst:Option Nat)(v:Value):(a.put dst v).defers=a.defers:=by cases dst<;>rfl
variable {a:Act}
def L6.put(R:L6 E st a h){dst:Option Nat}(hv:∀t,dst=some t->RR E h 0 t d m v):L6 E (st.put dst d m) (a.put dst v) h:=by
 refine⟨by rw[aS,Vj];exact R.size,by rw[A7i,Vj];exact R.AZ,by rw[lM,Vj];exact R.CW,by rw[lN];exact R.n,λu w hu=>?_,λs cs hs=>R.j4 s cs (by rwa [lM]at hs),λi ob hi=>R.U5 i ob (by rwa [lN]at hi),R.fresh⟩
 cases dst with
 |none=>exact R.Be u w hu
 |some t=>
   by_cases htu:t=u
   ·subst htu;have ht:t<a.tmps.size:=by have:=(z4q.1 hu).1;simpa[Act.put]using this
    rw[Qe (by rw[<- R.size];exact ht) R.AZ];simp only[Act.put,zqq ht,D8]at hu;subst hu;exact hv t rfl
   ·rw[Yn htu];simp only[Act.put,ztq htu]at hu;exact R.Be u w hu
def Gp(P:Program)(o:Oper)(a:Act)(w:World)(K:Act->World->Prop):Prop :=(∃v w',(execOp a.eval o).run P w=.ok (.value v) w'/\K (a.put o.dst v) w')\/(∃w',(execOp a.eval o).run P w=.ok .skip w'/\K (a.put o.dst undef) w') \/∃f args,(execOp a.eval o).run P w=.ok (.enter f args) w/\Calls P f args w λe w'=>∃v,e=.returned v/\K (a.put o.dst v) w'
variable {o:Oper}
def Gp.mono{w:World}{K K':Act->World->Prop}(H:Gp P o a w K)(h:∀a' w',a'.defers=a.defers->K a' w'->K' a' w'):Gp P o a w K':=by
 have hd:∀v,(a.put o.dst v).defers=a.defers:=λv=>jH a o.dst v;rcases H with⟨v,w',h1,h2⟩ | ⟨w',h1,h2⟩ | ⟨f,args,h1,h2⟩
 ·exact .inl ⟨v,w',h1,h _ _ (hd v) h2⟩
 ·exact .inr (.inl ⟨w',h1,h _ _ (hd _) h2⟩)
 ·exact .inr (.inr ⟨f,args,h1,h2.mono λe w' ⟨v,he,hk⟩=>⟨v,he,h _ _ (hd v) hk⟩⟩)
def Au{w w':World}{K:Act->World->Prop}(h:(execOp a.eval o).run P w=.ok (.value v) w')(hk:K (a.put o.dst v) w'):Gp P o a w K:=.inl ⟨v,w',h,hk⟩
def OG{w w':World}{K:Act->World->Prop}(h:(execOp a.eval o).run P w=.ok .skip w')(hk:K (a.put o.dst undef) w'):Gp P o a w K:=.inr (.inl ⟨w',h,hk⟩)
def CL{x:Sem Value}{w w':World}(h:x.run P w=.ok v w'):
 (do pure (Next.value (<- x)):Sem Next).run P w=.ok (.value v) w':=by
 simp[h]
def B51{x:Sem Unit}{w w':World}(h:x.run P w=.ok () w'):
 (do x;pure Next.skip:Sem Next).run P w=.ok .skip w':=by
 simp[h]
variable {β : Type}
def D6{α : Type}{x:Option α}{f : α->Option β}{b : β}(h:ob x f=some b):∃a,x=some a/\f a=some b:=by
 cases x with
 |none=>simp[ob]at h
 |some a=>exact⟨a,rfl,h⟩
def H6{t:Bool}{x:Option β}{b : β}(h:og t x=some b):t=true/\x=some b:=by
 cases t with
 |false=>simp[og]at h
 |true=>exact⟨rfl,h⟩
def oU{t e:Option β}{b : β}(h:G8 d t e=some b):(d=.bool true/\t=some b)\/(d=.bool false/\e=some b):=by
 unfold G8 at h;split at h
 ·exact .inl ⟨rfl,h⟩
 ·exact .inr ⟨rfl,h⟩
 ·simp at h
def M5{c:Prop}[Decidable c]{x:Option β}{b : β}(h:(if c then x else none)=some b):c/\x=some b:=by
 split at h
 ·exact⟨‹_›,h⟩
 ·simp at h
def Ib{z:Nat×Bool}(H:tz P t=some z):∃i d,P.info? t=some i/\P.underlying t=some d/\z=(i.size,A6J d)/\(z.2=false->z.1=1):=by unfold tz at H;obtain⟨i,hi,H⟩:=D6 H;obtain⟨d,hd,H⟩:=D6 H;obtain⟨hc,H⟩:=M5 H;simp only[D8]at H;subst H;refine⟨i,d,hi,hd,rfl,λh=>?_⟩;simp only at h;simpa[h]using hc
theorem A76{z:Nat×Bool}(H:tz P t=some z)(w:World):(isAgg t).run P w=.ok z.2 w:=by obtain⟨i,d,hi,hd,rfl,-⟩:=Ib H;unfold isAgg;simp only[Sem.run_bind,run_underlying hd,Result.andThen_ok];cases d<;>rfl
def NQ{z:Nat×Bool}(H:tz P t=some z)(w:World):(sizeOf t).run P w=.ok z.1 w:=by obtain⟨i,d,hi,hd,rfl,-⟩:=Ib H;simp[sizeOf,typeInfo,hi]
end
section
theorem B6j(m:F4):Xy (Xy m)=Xy m:=by cases m<;>rfl
def B9j(m:F4):dm (dm m)=dm m:=by
 cases m<;>simp only[dm]
 all_goals simp[B6j]
variable {E:Env}{h:Heap}{d:DV}{m:F4}{v:Value}
def RR.A5E{k a k' a':Nat}(R:RR E h k a d (Su.dm m) v):RR E h k' a' d (Su.dm m) v:=by
 have:=R.dm (k':=k') (a':=a')
 rwa [B9j]at this
def Env.re(E:Env)(f:Tag->Tag):Env:={ E with O:=λb o=>f (E.O b o) }
def Pr.re{f:Tag->Tag}{ch:Tag->Prop}(hf:∀T,¬ch T->f T=T):Pr ch E h (E.re f) h :=⟨z5q _,λ_ _=>X4.refl _ _,λ_ _ _ hn=>hf _ hn,z5q _,λ_ _ _=>⟨rfl,rfl,rfl⟩,λ_ _=>rfl,EA rfl⟩
def Lb{f:Tag->Tag}(hf:f .Q8=.Q8):AJ E.S h (E.re f).S h :=⟨λb o hs=>by simp only[Env.S,Env.re]at hs ⊢;rw[hs,hf],λ_ _ _ _ hv=>hv⟩
def M4.re{f:Tag->Tag}{tg tg':Tag}(hs:f .Q8=.Q8)(ht:f tg=tg')(R:M4 E h tg d m v):
 M4 (E.re f) h tg' d m v:=by
 cases m<;>simp only[M4]at R ⊢
 case val=>exact R.mono (Lb hs)
 case full=>exact⟨R.1.mono (Lb hs),R.2⟩
 case own=>obtain⟨r1,sz,ds,r2,r3⟩:=R;refine⟨r1.mono (Lb hs),sz,ds,r2,λx len cap hv P6=>?_⟩;obtain⟨c,T,g,e1,e2,e3⟩:=r3 x len cap hv P6;refine⟨c,T,g,e1,e2,λo ho ho'=>?_⟩;obtain⟨e4,e5⟩:=e3 o ho ho';exact⟨by simp only[Env.re];rw[e4,ht],e5⟩
 case Qg ag sz o=>obtain⟨b,o0,r1,r2,r3⟩:=R;exact⟨b,o0,r1,r2.mono (Lb hs),r3⟩
 case U0 i n sz=>exact⟨R.1.mono (Lb hs),R.2⟩
 case Hr ks=>obtain⟨r1,b,clk,r2,r3,r4⟩:=R;exact⟨r1,b,clk,r2,r3,λo=>by simp only[Env.re];rw[r4 o,ht]⟩
 all_goals exact R
def RR.re{f:Tag->Tag}{k a k' a':Nat}(hs:f .Q8=.Q8)(ho:f .other=.other)(ht:∀b,f (.sp k a b)=.sp k' a' b)(R:RR E h k a d m v):
 RR (E.re f) h k' a' d m v:=by
 cases m
 case Cg ms=>simp only[RR]at R ⊢;obtain⟨ds,vs,h1,h2,h3,h4,h5⟩:=R;exact⟨ds,vs,h1,h2,h3,h4,λi m' d' u e1 e2 e3=>let⟨a0,a4⟩:=h5 i m' d' u e1 e2 e3;⟨a0,a4.re hs (ht _)⟩⟩
 case EZ ms=>simp only[RR]at R ⊢;obtain⟨ds,vs,h1,h2,h3,h4,h5⟩:=R;exact⟨ds,vs,h1,h2,h3,h4,λi m' d' u e1 e2 e3=>let⟨a1,a2,a0,a4⟩:=h5 i m' d' u e1 e2 e3;⟨a1,a2,a0,a4.re hs (ht _)⟩⟩
 all_goals exact RR.AL ((RR.wD (by simp) (by simp) R).re hs (ht 0))
variable {x:Operand}
def L6.release{st:St}{a:Act}(R:L6 E st a h){f:Tag->Tag}(hf:∀T,(∀s b,x=.tmp s->T ≠ .sp 0 s b)->f T=T):L6 (E.re f) (st.release x) a h:=by
 have G_:f .Q8=.Q8:=hf _ (by simp);have QV:f .other=.other:=hf _ (by simp);have P:Pr (λT=>∃s b,x=.tmp s/\T=.sp 0 s b) E h (E.re f) h:=Pr.re λT hT=>hf T λs b hx hb=>hT ⟨s,b,hx,hb⟩;have J4:AJ E.S h (E.re f).S h:=Lb G_;have lm:(st.release x).mt.length=st.mt.length:=by cases x<;>simp[St.release]
 have lt:(st.release x).tm=st.tm:=by cases x<;>simp[St.release]
 have lb:(st.release x).bx=st.bx:=by cases x<;>simp[St.release]
 have lg:(st.release x).sg=st.sg:=by cases x<;>simp[St.release]
 refine⟨by rw[lt];exact R.size,by rw[lm,lt];exact R.AZ,by rw[lb,lt];exact R.CW,by rw[lg];exact R.n,λu v hu=>?_,λs cs hs=>?_,λi ob hi=>?_,λb o hb=>?_⟩
 ·have h0:=R.Be u v hu;by_cases hx:x=.tmp u
  ·subst hx;have hg:(st.release (.tmp u)).get u=((st.get u).1,dm (st.get u).2):=by
    have Du:u<st.tm.length:=by rw[<- R.size];exact(z4q.1 hu).1
    simp[St.release,St.get,z1q,z7q (R.AZ ▸ Du)]
   rw[hg];have h1:RR E h 9 0 (st.get u).1 (dm (st.get u).2) v:=h0.dm;have h2:RR (E.re f) h 9 0 (st.get u).1 (dm (st.get u).2) v:=h1.re G_ QV λb=>hf _ (by simp);exact h2.A5E
  ·have hg:(st.release x).get u=st.get u:=by
    cases x with
    |tmp s=>have:s≠u:=λe=>hx (by rw[e]);simp[St.release,St.get,z1q,zdq this]
    |_=>rfl
   rw[hg];exact h0.re G_ QV λb=>hf _ λs b' hs he=>by simp only[Tag.sp.injEq]at he;exact hx (by rw[hs,he.2.1])
 ·exact(R.j4 s cs (by rwa [lb]at hs)).mono P J4 (by simp) (by simp)
 ·exact(R.U5 i ob (by rwa [lg]at hi)).mono P J4 (by rw[<- R.n];rw[lg]at hi;exact(z0q.1 hi).1) (by simp) (by simp)
 ·simp only[Env.re];rw[R.fresh b o hb,QV]
def fP(x:Operand)(k t:Nat)(T:Tag):Tag :=
 match x,T with
 |.tmp s',.sp 0 s b=>if s'=s then .sp k t b else .sp 0 s b
 |_,T=>T
theorem Qb{k t:Nat}{T:Tag}(h:∀s b,x=.tmp s->T ≠ .sp 0 s b):fP x k t T=T:=by
 unfold fP;split
 ·split
  ·rename_i hx;subst hx;exact absurd rfl (h _ _ rfl)
  ·rfl
 ·rfl
section
variable {X:Type}{C:BQ}{R:O8}{o:Oper}{st:St}{k:St->Option X}{x:X}{E:Env}{a:Act}{w:World}{K:Act->World->Prop}{Q:Exit->Act->World->Prop}
def Then(E:Env)(w:World)(k:St->Option X)(x:X)(K:Act->World->Prop):Prop :=∀E' st' a' w',k st'=some x->L6 E' st' a' w'.heap->Pr P8 E w.heap E' w'.heap->(_:Y9 w w':=by exact⟨rfl,rfl,rfl⟩)->K a' w'
def X3(hr:(execOp a.eval o).run C.P w=.ok (.value v) w)(hk:k (st.put o.dst d m)=some x)(Rl:L6 E st a w.heap)(hv:∀t,o.dst=some t->RR E w.heap 0 t d m v)(T:Then E w k x K):Gp C.P o a w K :=Au hr (T E _ _ w hk (Rl.put hv) (Pr.refl _ _ _))
variable {t:TypeId}{y:Operand}
def B5i{P:Program}{r:DV×F4}(hr:(execOp a.eval o).run C.P w=.ok (.value (a.eval y)) w)(hs:src P t st y=some r)(hk:k ((st.release y).put o.dst r.1 r.2)=some x)(Rl:L6 E st a w.heap)(T:Then E w k x K):Gp C.P o a w K:=by
 refine Au hr ?_;cases hd:o.dst with
 |none=>rw[hd]at hk;have P1:Pr P8 E w.heap (E.re id) w.heap:=Pr.re λ_ _=>rfl;exact T (E.re id) _ _ w hk ((Rl.release (x:=y) (f:=id) λ_ _=>rfl).put (λt ht=>by simp at ht)) P1
 |some t0=>
   rw[hd]at hk;have P1:Pr P8 E w.heap (E.re (fP y 0 t0)) w.heap:=Pr.re λT hT=>Qb λs b _ he=>hT (by rw[he];simp[P8]);refine T (E.re (fP y 0 t0)) _ _ w hk ((Rl.release λT hT=>Qb hT).put λt ht=>?_) P1;simp only[D8]at ht;subst ht;by_cases hy:∃i,y=.tmp i
   ·obtain⟨i,rfl⟩:=hy;have:=Rl.src hs;refine this.re (Qb (by simp)) (Qb (by simp)) λb=>?_;simp[fP,fo]
   ·have:=L6.A9X (E:=E) (a:=a) (h:=w.heap) hs (λi hi=>hy ⟨i,hi⟩) 9 0;have h2:RR (E.re (fP y 0 t0)) w.heap 9 0 r.1 r.2 (a.eval y):=this.re (Qb (by simp)) (Qb (by simp)) λb=>Qb (by simp);have ZJ:dm r.2=r.2:=by
     cases y with
     |tmp i=>exact absurd ⟨i,rfl⟩ hy
     |const v=>obtain⟨h1,h3⟩:=eG hs;have h4:=A3q hs;have h5:=B18 hs;cases hm:r.2<;>simp_all[dm]
     |func f=>simp only[src,D8]at hs;subst hs;rfl
     |global g=>simp[src]at hs
    rw[<- ZJ]at h2 ⊢;exact h2.A5E
def A7G{fl:H8}(hr:(execOp a.eval o).run C.P w=.ok (.value (a.eval y)) w)(H:(ob (src C.P t st y) λr=>if I8 fl.Q4 o.dst then k ((st.release y).put o.dst r.1 r.2)else k (st.put o.dst r.1 (dm r.2)))=some x)(Rl:L6 E st a w.heap)(T:Then E w k x K):Gp C.P o a w K:=by
 obtain⟨r,hs,H⟩:=D6 H;split at H
 ·exact B5i hr hs H Rl @T
 ·exact X3 hr H Rl (λt _=>(Rl.src hs).dm) @T
end
end
section
variable {S:AY}{h:Heap}{v:Value}
def CO{k:IntKind}{n:Int}:RV S h (.int k n) v↔v=.int k n:=by simp only[RV]
def Ob{b:Bool}:RV S h (.bool b) v↔v=.bool b:=by simp only[RV]
def Xt{s:ByteArray}:RV S h (.str s) v↔v=.string s:=by simp only[RV]
variable {op:UnOp}{d:DV}
def B4c{y:DV}(h:l8 op y=some d):(∃b,op=.not/\y=.bool b/\d=.bool !b)\/(∃k n,op=.neg/\y=.int k n/\d=.int k (k.wrap (0-n))):=by
 unfold l8 at h;split at h<;>simp only[D8,reduceCtorEq]at h<;>subst h
 ·exact .inl ⟨_,rfl,rfl,rfl⟩
 ·exact .inr ⟨_,_,rfl,rfl,rfl⟩
def B0u{c y z:DV}(h:A48 c y z=some d):(c=.bool true/\d=y)\/(c=.bool false/\d=z):=by
 unfold A48 at h;split at h<;>simp only[D8,reduceCtorEq]at h<;>subst h
 ·exact .inl ⟨rfl,rfl⟩
 ·exact .inr ⟨rfl,rfl⟩
variable {kd:IntKind}
def B0p{y:DV}(h:A46 kd y=some d):∃k n,y=.int k n/\d=.int kd (kd.wrap n):=by unfold A46 at h;split at h<;>simp only[D8,reduceCtorEq]at h<;>subst h;exact⟨_,_,rfl,rfl⟩
def A3r{i:Nat}{y:DV}(h:Q0 i y=some d):∃cs,y=.J6 cs/\cs[i]?=some d:=by
 unfold Q0 at h;split at h
 ·exact⟨_,rfl,h⟩
 ·simp at h
def B2e{sz:Nat}{y i:DV}(h:O0 sz y i=some d):∃ds kd n,y=.list sz ds/\i=.int kd n/\0<=n/\ds[n.toNat]?=some d:=by
 unfold O0 at h;split at h
 ·obtain⟨⟨Cz,h0⟩,hd⟩:=M5 h;subst Cz;exact⟨_,_,_,rfl,rfl,h0,hd⟩
 ·simp at h
def gq{off len n:Nat}{i:DV}(h:l7 off len i=some n):∃(kd:IntKind)(q:Int),i=.int kd q/\0<=q/\q<len/\n=off+q.toNat:=by
 unfold l7 at h;split at h
 ·obtain⟨⟨h0,P6⟩,hn⟩:=M5 h;simp only[D8]at hn;exact⟨_,_,rfl,h0,P6,hn.symm⟩
 ·simp at h
def A0V:∀x y:List UInt8,Op.bytesLess x y=Qv x y
 |_,[]=>by simp[Op.bytesLess,Qv]
 |[],_::_=>by simp[Op.bytesLess,Qv]
 |a::x,b::y=>by simp[Op.bytesLess,Qv,A0V x y]
section
variable {X:Type}{C:BQ}{R:O8}{o:Oper}{st:St}{k:St->Option X}{x:X}{E:Env}{a:Act}{w:World}{K:Act->World->Prop}{Q:Exit->Act->World->Prop}
def Ag(hr:(execOp a.eval o).run C.P w=.ok (.value v) w)(hk:k (st.put o.dst d .val)=some x)(Rl:L6 E st a w.heap)(hv:RV E.S w.heap d v)(T:Then E w k x K):Gp C.P o a w K :=X3 hr hk Rl (λ_ _=>hv) @T
variable {P:Program}{t:TypeId}{y:Operand}
def B45{op:BinOp}{x:Operand}{dx dy:DV}{vx vy:Value}(H:D7 op dx dy=some d)(hx:RV S h dx vx)(hy:RV S h dy vy)(w:World):
 ∃v,(do eqGuard op t x y vx vy;binOp op t vx vy:Sem Value).run P w=.ok v w/\RV S h d v:=by
 unfold D7 at H;split at H
 ·rw[CO]at hx hy;subst hx hy;split at H
  ·rename_i hsh;unfold B2j at H;split at H
   ·cases H
   ·rename_i hb;cases op<;>simp only[Oi,zhq]at hsh<;>simp only[D8]at H<;>subst H <;>
     (refine⟨_,?_,by simp only[RV];rfl⟩;simp[eqGuard_at_int,binOp,Op.shift,hb])
  obtain⟨hk,H1⟩:=M5 H;clear H;subst hk;by_cases hq:op=.quo\/op=.rem
  ·rcases hq with rfl | rfl<;>simp only[QC]at H1<;>split at H1<;>simp only[reduceCtorEq,D8]at H1<;>subst H1 <;>
    (rename_i hb;refine⟨_,?_,by simp only[RV];rfl⟩;simp[eqGuard_at_int,binOp,Op.intDiv,hb])
  simp only[not_or]at hq;cases op<;>(try exact absurd rfl hq.1)<;>(try exact absurd rfl hq.2)<;>simp only[QC,reduceCtorEq,D8]at H1<;>subst H1 <;>
   (refine⟨_,?_,by simp only[RV];rfl⟩;simp[eqGuard_at_int,binOp,Op.intArith,Op.intCmp,Op.intBits])
 ·rw[Xt]at hx hy;subst hx hy;cases op<;>simp only[jT,reduceCtorEq,D8]at H
  case add=>
   obtain⟨hc,H1⟩:=M5 H;clear H;simp only[D8]at H1;subst H1;refine⟨_,?_,by simp only[RV];rfl⟩;rename_i sa sb;have:¬(((sa.size+sb.size:Nat):Int)>IntKind.i64.max):=by rw[IntKind.max_i64];have:=hc;unfold R6 at this;omega
   simp only[eqGuard_at_string,binOp,Op.stringOp,Sem.run_bind,Sem.run_pure,Result.andThen_ok];rw[A7 this];rfl
  all_goals
   subst H;refine⟨_,?_,by simp only[RV];rfl⟩;simp[eqGuard_at_string,binOp,Op.stringOp,A0V]
 ·simp at H
def B5g{c z:Operand}(F7:o.op=.pick c y z)(H:(ob (src C.P 0 st c) λrc=>ob (src C.P o.type st y) λra=>ob (src C.P o.type st z) λrb=>
   og (K6 rc.2&&K6 ra.2&&K6 rb.2) (ob (A48 rc.1 ra.1 rb.1) λd=>k (st.put o.dst d .val)))=some x)(Rl:L6 E st a w.heap)(T:Then E w k x K):Gp C.P o a w K:=by
 obtain⟨rc,h1,H⟩:=D6 H;obtain⟨ra,h2,H⟩:=D6 H;obtain⟨rb,h3,H⟩:=D6 H;obtain⟨hc,H⟩:=H6 H;obtain⟨d,hd,H⟩:=D6 H;simp only[z8q]at hc;have e1:=(Rl.src h1).data hc.1.1;have e2:=(Rl.src h2).data hc.1.2;have e3:=(Rl.src h3).data hc.2;rcases B0u hd with⟨hb,hd⟩ | ⟨hb,hd⟩
 ·rw[hb,Ob]at e1;subst hd;refine Ag (v:=a.eval y) ?_ H Rl e2 @T;simp[execOp,F7,e1,asBool]
 ·rw[hb,Ob]at e1;subst hd;refine Ag (v:=a.eval z) ?_ H Rl e3 @T;simp[execOp,F7,e1,asBool]
def B8Z(F7:o.op=.unOp op t y)(H:(ob (src C.P t st y) λr=>og (K6 r.2) (ob (l8 op r.1) λd=>k (st.put o.dst d .val)))=some x)(Rl:L6 E st a w.heap)(T:Then E w k x K):Gp C.P o a w K:=by
 obtain⟨r,h1,H⟩:=D6 H;obtain⟨hc,H⟩:=H6 H;obtain⟨d,hd,H⟩:=D6 H;have e1:=(Rl.src h1).data hc;rcases B4c hd with⟨b,rfl,hb,rfl⟩ | ⟨kd,n,rfl,hb,rfl⟩
 ·rw[hb,Ob]at e1;refine Ag (v:=.bool _) ?_ H Rl (by rw[Ob]) @T;simp[execOp,F7,e1,Op.unary]
 ·rw[hb,CO]at e1;refine Ag (v:=.int _ _) ?_ H Rl (by rw[CO]) @T;simp[execOp,F7,e1,Op.unary,Op.intArith]
def B5c{u:TypeId}(F7:o.op=.convert t u y)(H:(ob (src C.P t st y) λr=>match C.P.underlying u with
   |some (.int kd)=>og (K6 r.2&&(C.P.underlying t).isSome) (ob (A46 kd r.1) λd=>k (st.put o.dst d .val))
   |_=>none)=some x)(Rl:L6 E st a w.heap)(T:Then E w k x K):Gp C.P o a w K:=by
 obtain⟨r,h1,H⟩:=D6 H;split at H
 ·rename_i kd hu;obtain⟨hc,H⟩:=H6 H;obtain⟨d,hd,H⟩:=D6 H;simp only[z8q]at hc;have e1:=(Rl.src h1).data hc.1;obtain⟨dt,ht⟩:=Option.isSome_iff_exists.1 hc.2;obtain⟨_,_,hb,rfl⟩:=B0p hd;rw[hb,CO]at e1;refine Ag (v:=.int _ _) ?_ H Rl (by rw[CO]) @T;simp only[execOp,F7];refine CL ?_;simp only[convert,e1,Sem.run_bind,run_underlying ht,run_underlying hu,Result.andThen_ok];cases dt<;>rfl
 ·simp at H
def B61{i:Nat}{r:DV×F4}{m:F4}(F7:o.op=.extract y i)(h1:src C.P 0 st y=some r)(hm:r.2=.val)(hd:Q0 i r.1=some d)(hmv:m=.val)(H:k (st.put o.dst d m)=some x)(Rl:L6 E st a w.heap)(T:Then E w k x K):Gp C.P o a w K:=by
 subst hmv;have e1:=(Rl.src h1).data (by rw[hm];rfl);obtain⟨cs,hb,hd⟩:=A3r hd;rw[hb]at e1;simp only[RV]at e1;obtain⟨vs,hv,hr⟩:=e1;obtain⟨l1,l2⟩:=Wh.1 hr;have hi:=(z0q.1 hd).1;have hvi:vs.toList[i]?=some (vs.toList[i]'(by omega)):=z3q (by omega);refine Ag (v:=vs.toList[i]'(by omega)) ?_ H Rl (l2 i d _ hd hvi) @T;simp only[execOp,F7];refine CL ?_;have C0q:vs[i]?=some (vs.toList[i]'(by omega)):=by simp
 simp only[Instr.extract,hv,C0q,Sem.run_pure]
def A4T{f:Nat}(F7:o.op=.fieldAddr t y f)(H:SY C o t y f st k=some x)(Rl:L6 E st a w.heap)(T:Then E w k x K):Gp C.P o a w K:=by
 unfold SY at H;obtain⟨r,h1,H⟩:=D6 H;obtain⟨fd,h2,H⟩:=D6 H;obtain⟨z,h3,H⟩:=D6 H;have hz:z.1≠0:=by intro h;rw[A9 h]at H;simp at H
 rw[A7 hz]at H;have hu:∃fs,C.P.underlying t=some (.struct fs)/\fs[f]?=some fd:=by
  unfold A9m at h2;split at h2
  ·exact⟨_,‹_›,h2⟩
  ·simp at h2
 obtain⟨fs,hu,hf⟩:=hu;have run:∀b off,a.eval y=.pointer (some ⟨b,off,none⟩)->(execOp a.eval o).run C.P w=.ok (.value (.pointer (some ⟨b,off+fd.offset,none⟩))) w:=by intro b off he;simp only[execOp,F7];refine CL ?_;simp only[Instr.fieldAt,Sem.run_bind,run_underlying hu,Result.andThen_ok,hf,he,Instr.sureAddr,Sem.run_pure,fieldPlace,NQ h3,hz,G9,Addr.add_lit]
 have e1:=Rl.src h1;revert e1 H;cases hm:r.2<;>intro H e1<;>simp only[reduceCtorEq]at H<;>simp only[RR,M4]at e1
 case loc s off=>exact X3 (run _ _ e1.2) H Rl (λ_ _=>⟨rfl,rfl⟩) @T
 case Qg ag sz off=>obtain⟨b,o0,r1,r2,r3⟩:=e1;exact X3 (run _ _ r1) H Rl (λ_ _=>⟨b,o0,by rw[zmq],r2,r3⟩) @T
 case ptr i off=>exact X3 (run _ _ e1.2) H Rl (λ_ _=>⟨e1.1,rfl⟩) @T
 case Xz i sz idx off=>exact X3 (run _ _ e1.2) H Rl (λ_ _=>⟨e1.1,by rw[zmq]⟩) @T
 case gK i n sz idx off=>obtain⟨r1,r2,r3,b,p,r4,r5⟩:=e1;exact X3 (run _ _ r4) H Rl (λ_ _=>⟨r1,r2,r3,b,p,by rw[zmq],r5⟩) @T
def Vn{e:TypeId}{z:Nat×Bool}(hu:P.underlying t=some (.slice e))(hz:tz P e=some z){b:Addr}{len cap:Nat}{i:Int}(h0:0<=i)(h1:i<len)(w:World):
 (Instr.indexAt t (.slice (some b) len cap) (.int kd i)).run P w=.ok (.pointer (some (b.add (i.toNat * z.1)))) w:=by
 simp[Instr.indexAt,run_underlying hu,asIntOf,NQ hz,h0,h1]
def A1S{e:TypeId}{m:Nat}{z:Nat×Bool}(hu:P.underlying t=some (.array m e))(hz:tz P e=some z){b off:Nat}{i:Int}(h0:0<=i)(h1:i<m)(w:World):
 (Instr.indexAt t (.pointer (some ⟨b,off,none⟩)) (.int kd i)).run P w=.ok (.pointer (some ⟨b,off+i.toNat * z.1,none⟩)) w:=by
 simp[Instr.indexAt,run_underlying hu,asIntOf,NQ hz,h0,h1,Instr.sureAddr,Addr.add_lit]
def A4U{fl:H8}{i:Operand}(F7:o.op=.indexAddr t y i)(H:Gx C fl o t y i st k=some x)(Rl:L6 E st a w.heap)(T:Then E w k x K):Gp C.P o a w K:=by
 unfold Gx at H;obtain⟨r,h1,H⟩:=D6 H;obtain⟨j,h2,H⟩:=D6 H;cases h3:JB C.P t with
 |none=>
   rw[h3]at H;simp only[nH]at H;obtain⟨q,h4,H⟩:=D6 H;obtain⟨z,h5,H⟩:=D6 H;split at H
   ·rename_i s off hm;obtain⟨h6,H⟩:=H6 H;obtain⟨n,h7,H⟩:=D6 H;have hu:C.P.underlying t=some (.array q.1 q.2):=by
     unfold B7C at h4;split at h4
     ·simp only[D8]at h4;subst h4;assumption
     ·simp at h4
    have e1:=Rl.src h1;have f2:=(Rl.src h2).data h6;obtain⟨kd,i,hj,h0,P6,rfl⟩:=gq h7;rw[hj,CO]at f2;rw[hm]at e1;simp only[RR,M4]at e1;refine X3 (v:=.pointer (some ⟨_,_,none⟩)) ?_ H Rl (λ_ _=>⟨rfl,rfl⟩) @T;simp only[execOp,F7];refine CL ?_;rw[e1.2,f2,A1S hu h5 h0 P6,zwq]
   ·cases H
 |some e=>
 rw[h3]at H;simp only at H;obtain⟨z,h4,H⟩:=D6 H;have hu:C.P.underlying t=some (.slice e):=by
  unfold JB at h3;split at h3
  ·simp only[D8]at h3;subst h3;assumption
  ·simp at h3
 have e1:=Rl.src h1;have e2:=Rl.src h2;have dat:K6 r.2=true->og (K6 r.2&&K6 j.2) (ob (O0 z.1 r.1 j.1) λd=>
  if z.2 then k (st.put o.dst d (.Qg true z.1 0))else og (M8 d) (k (st.put o.dst d (.Qg false z.1 0))))=some x->Gp C.P o a w K:=by
  intro VO H;obtain⟨hc,H⟩:=H6 H;obtain⟨d,hd,H⟩:=D6 H;simp only[z8q]at hc;have f1:=e1.data hc.1;have f2:=e2.data hc.2;obtain⟨ds,kd,n,hr,hj,h0,hd⟩:=B2e hd;rw[hr]at f1;rw[hj,CO]at f2;simp only[RV,RC]at f1;obtain⟨b,len,cap,hv,FD,A2G,C0j,hpos,yZ⟩:=f1;simp only[List.cons.injEq,and_true]at hv;have hn:n.toNat<ds.length:=(z0q.1 hd).1;cases b with
  |none=>have:=C0j rfl;omega
  |some b=>
    obtain⟨hs,hE⟩:=yZ b rfl;have hs:=hs (by omega);have hE:=EW.1 hE n.toNat d hd;have hb:b=⟨b.block,b.off,none⟩:=by cases b;simp only at hs;subst hs;rfl
    have AV:(execOp a.eval o).run C.P w=.ok (.value (.pointer (some ⟨b.block,b.off+n.toNat * z.1+0,none⟩))) w:=by simp only[execOp,F7];refine CL ?_;rw[hv,f2,Vn hu h4 h0 (by omega)];rw[hb];simp only[Addr.add_lit,zkq]
    by_cases hz:z.2=true
    ·rw[A9 hz]at H;exact X3 AV H Rl (λ_ _=>⟨b.block,b.off+n.toNat * z.1,rfl,hE,by simp⟩) @T
    ·rw[A7 hz]at H;obtain⟨hl,H⟩:=H6 H;exact X3 AV H Rl (λ_ _=>⟨b.block,b.off+n.toNat * z.1,rfl,hE,λ_=>hl⟩) @T
 revert e1 H dat;cases hm:r.2<;>intro H e1 dat
 case arr i sz off len=>
  obtain⟨hc,H⟩:=H6 H;obtain⟨n,hn,H⟩:=D6 H;simp only[z8q,beq_iff_eq]at hc;have f2:=e2.data hc.2;obtain⟨kd,q,hj,h0,P6,rfl⟩:=gq hn;rw[hj,CO]at f2;simp only[RR,M4]at e1;obtain⟨hi,b,cap,hv,hb⟩:=e1;have hb:=hb.1 (by omega);subst hb;refine X3 (v:=.pointer (some ⟨E.obj i,E.base i+(off+q.toNat) * sz+0,none⟩)) ?_ H Rl (λ_ _=>?_) @T
  ·simp only[execOp,F7]
   refine CL ?_;rw[hv,f2,Vn hu h4 h0 P6];simp only[Addr.add_lit,zkq,hc.1,zSq,zmq]
  ·split
   ·exact⟨hi,rfl⟩
   ·exact⟨hi,rfl⟩
 case P9 i n sz len=>
  obtain⟨hc,H⟩:=H6 H;obtain⟨idx,hn,H⟩:=D6 H;simp only[z8q,beq_iff_eq]at hc;have f2:=e2.data hc.2;obtain⟨kd,q,hj,h0,P6,rfl⟩:=gq hn;rw[hj,CO]at f2;simp only[RR,M4]at e1;obtain⟨r1,r2,r3,a',cap,r4,r5,r6,r7,r8⟩:=e1;cases a' with
  |none=>have:=r6 rfl;omega
  |some b=>
    have hs:=r7 (by omega) b rfl;have hb:b=⟨b.block,b.off,none⟩:=by cases b;simp only at hs;subst hs;rfl
    refine X3 (v:=.pointer (some ⟨b.block,b.off+q.toNat * sz+0,none⟩)) ?_ H Rl (λ_ _=>⟨r1,r2,r3,b.block,b.off+q.toNat * sz,by rw[zkq],λe=>?_⟩) @T
    ·simp only[execOp,F7]
     refine CL ?_;rw[r4,f2,Vn hu h4 h0 P6,hb];simp only[Addr.add_lit,zkq,hc.1]
    ·obtain⟨q1,-⟩:=r8 e (by omega);simp only[D8]at q1;rw[q1];exact⟨rfl,by rw[zwq]⟩
 all_goals exact dat (by have:=(H6 H).1;simp only[z8q]at this;exact this.1) H
end
end
section
variable {S:AY}{h:Heap}{sz:Nat}{ds:List DV}{v:Value}
def Kg(H:RV S h (.list sz ds) v):
 ∃a len cap,v=.slice a len cap/\len=ds.length/\len<=cap/\(a=none->cap=0)/\(ds≠[]->0<sz)/\∀x,a=some x->(0<cap->x.spot=none)/\El S h sz x.block x.off ds:=by
 simp only[RV,RC]at H;obtain⟨a,len,cap,h1,h2⟩:=H;simp only[List.cons.injEq,and_true]at h1;exact⟨a,len,cap,h1,h2⟩
variable {len:Nat}{cap:Nat}
def NY{a:Option Addr}(h1:len=ds.length)(h2:len<=cap)(h3:a=none->cap=0)(h4:ds≠[]->0<sz)(h5:∀x,a=some x->(0<cap->x.spot=none)/\El S h sz x.block x.off ds):RV S h (.list sz ds) (.slice a len cap):=by simp only[RV,RC];exact⟨a,len,cap,rfl,h1,h2,h3,h4,h5⟩
def B2g{y d:DV}(h:O6 y=some d):∃sz ds,y=.list sz ds/\d=.int .i64 ds.length:=by
 unfold O6 at h;split at h
 ·simp only[D8]at h;exact⟨_,_,rfl,h.symm⟩
 ·simp at h
def B0s{y d:DV}(h:Ez y=some d):∃s,y=.str s/\d=.int .i64 s.size:=by
 unfold Ez at h;split at h
 ·simp only[D8]at h;exact⟨_,rfl,h.symm⟩
 ·simp at h
def A5D{y i d:DV}(h:IM y i=some d):∃s kd n b,y=.str s/\i=.int kd n/\0<=n/\s.data[n.toNat]?=some b/\d=.int .u8 b.toNat:=by
 unfold IM at h;split at h
 ·obtain⟨h0,h⟩:=M5 h;simp only[zaq]at h;obtain⟨b,hb,rfl⟩:=h;exact⟨_,_,_,b,rfl,rfl,h0,hb,rfl⟩
 ·simp at h
def aX{n m:Nat}{x:Option DV}(h:bnd n x=some m):(x=none/\m=n)\/∃kd q,x=some (.int kd q)/\0<=q/\m=q.toNat:=by
 unfold bnd at h;split at h
 ·simp only[D8]at h;exact .inl ⟨rfl,h.symm⟩
 ·obtain⟨h0,h⟩:=M5 h;simp only[D8]at h;exact .inr ⟨_,_,rfl,h0,h.symm⟩
 ·simp at h
def yJ{y d:DV}{lo hi:Option DV}(h:OO sz y lo hi=some d):∃ds hh ll,y=.list sz ds/\bnd ds.length hi=some hh/\bnd 0 lo=some ll/\ll<=hh/\hh<=ds.length/\d=.list sz ((ds.take hh).drop ll):=by
 unfold OO at h;split at h
 ·obtain⟨hh,b1,h⟩:=D6 h;obtain⟨ll,b2,h⟩:=D6 h;obtain⟨⟨c1,c2,c3⟩,h⟩:=M5 h;simp only[D8]at h;subst c1;exact⟨_,hh,ll,rfl,b1,b2,c2,c3,h.symm⟩
 ·simp at h
def A5C{y d hi mx:DV}{lo:Option DV}(h:Zz sz y lo hi mx=some d):∃kd kd' q,hi=.int kd q/\mx=.int kd' q/\OO sz y lo (some hi)=some d:=by
 unfold Zz at h;split at h
 ·obtain⟨hqm,h1⟩:=M5 h;subst hqm;exact⟨_,_,_,rfl,rfl,h1⟩
 ·simp at h
def A8b{b o l n:Nat}(H:El S h sz b o ds):El S h sz b (o+l * sz) ((ds.take n).drop l):=by
 rw[EW]at H ⊢;intro i d hd;rw[z9q]at hd;have QT:ds[l+i]?=some d:=by
  rw[zKq]at hd;split at hd
  ·exact hd
  ·simp at hd
 have:=H (l+i) d QT
 rwa [zSq,<- zmq]at this
section
variable {X:Type}{C:BQ}{R:O8}{o:Oper}{st:St}{k:St->Option X}{x:X}{E:Env}{a:Act}{w:World}{K:Act->World->Prop}{Q:Exit->Act->World->Prop}{P:Program}{hp:Heap}
def xE{isS:Bool}{h l:Nat}{lo hi:Option DV}{vlo vhi:Option Value}(hh:bnd len hi=some h)(hl:bnd 0 lo=some l)(h1:l<=h)(h2:h<=len)(h3:len<=cap)(elo:∀d,lo=some d->∃v,vlo=some v/\RV S hp d v)(nlo:lo=none->vlo=none)(ehi:∀d,hi=some d->∃v,vhi=some v/\RV S hp d v)(nhi:hi=none->vhi=none)(w:World):
 (Instr.sliceBounds isS len cap vlo vhi none).run P w=.ok (l,h,cap) w:=by
 have A:∀(kd:IntKind)(q:Int)(y:Nat)(code:BoundsCode),0<=q->q.toNat<=y->(Instr.sliceBound (.int kd q) y code).run P w=.ok q.toNat w:=by intro kd q y code h0 h4;unfold Instr.sliceBound;simp only[asIntOf,pure_bind,Sem.run_ite];rw[A9 ⟨h0,by omega⟩];rfl
 unfold Instr.sliceBounds;rcases aX hh with⟨rfl,rfl⟩ | ⟨kd,q,rfl,h0,rfl⟩
 ·rw[nhi rfl];rcases aX hl with⟨rfl,rfl⟩ | ⟨kd',q',rfl,uZ,rfl⟩
  ·rw[nlo rfl];simp
  ·obtain⟨v,rfl,hv⟩:=elo _ rfl;rw[CO]at hv;subst hv;simp only[Sem.run_bind,Sem.run_pure,Result.andThen_ok,A _ _ _ _ uZ h1]
 ·obtain⟨v,rfl,hv⟩:=ehi _ rfl;rw[CO]at hv;subst hv;rcases aX hl with⟨rfl,rfl⟩ | ⟨kd',q',rfl,uZ,rfl⟩
  ·rw[nlo rfl];simp only[Sem.run_bind,Sem.run_pure,Result.andThen_ok,A _ _ _ _ h0 (by omega:q.toNat<=cap)]
  ·obtain⟨v,rfl,hv⟩:=elo _ rfl;rw[CO]at hv;subst hv;simp only[Sem.run_bind,Sem.run_pure,Result.andThen_ok,A _ _ _ _ h0 (by omega:q.toNat<=cap),A _ _ _ _ uZ h1]
def A2T{y:Option Operand}{l:Option DV}(h:YU P st y=some l)(Rl:L6 E st a w.heap):
 (∀d,l=some d->∃v,y.map a.eval=some v/\RV E.S w.heap d v)/\(l=none->y.map a.eval=none):=by
 unfold YU at h;split at h
 ·simp only[D8]at h;subst h;simp
 ·obtain⟨r,h1,h⟩:=D6 h;obtain⟨h2,h⟩:=H6 h;simp only[D8]at h;subst h;refine⟨λd hd=>?_,by simp⟩;simp only[D8]at hd;subst hd;exact⟨_,rfl,(Rl.src h1).data h2⟩
variable {t:TypeId}{b:Option Addr}
def pV{e:TypeId}{z:Nat×Bool}(hu:P.underlying t=some (.slice e))(hz:tz P e=some z){l h m:Nat}{vlo vhi vmx:Option Value}(hb:(Instr.sliceBounds true len cap vlo vhi vmx).run P w=.ok (l,h,m) w):
 (Instr.sliceAt t (.slice b len cap) vlo vhi vmx).run P w=.ok (.slice (if m=l then b else b.map (·.add (l * z.1))) (h-l) (m-l)) w:=by
 unfold Instr.sliceAt;simp only[Sem.run_bind,run_underlying hu,Result.andThen_ok];unfold Instr.slice;simp only[Sem.run_bind,run_underlying hu,Result.andThen_ok,hb,NQ hz,Sem.run_pure]
def A7K{l h m:Nat}(H:RV S hp (.list sz ds) (.slice b len cap))(h1:l<=h)(h2:h<=ds.length)(h3:h<=m)(h4:m<=cap):
 RV S hp (.list sz ((ds.take h).drop l)) (.slice (if m=l then b else b.map (·.add (l * sz))) (h-l) (m-l)):=by
 obtain⟨b',len',cap',hv,e1,e2,e3,e4,e5⟩:=Kg H;simp only[Value.slice.injEq]at hv;obtain⟨rfl,rfl,rfl⟩:=hv;refine NY ?_ (by omega) ?_ ?_ ?_
 ·simp only[zjq,zgq];omega
 ·intro hn;split at hn
  ·omega
  ·cases b with
   |none=>have:=e3 rfl;omega
   |some y=>simp at hn
 ·intro hne;exact e4 λhd=>hne (by simp[hd])
 ·intro y hy;split at hy
  ·rename_i hml;have hlh:h=l:=by omega
   obtain⟨s1,s2⟩:=e5 y hy;refine⟨λh0=>absurd h0 (by omega),?_⟩;have:(ds.take h).drop l=[]:=by apply List.drop_eq_nil_of_le;simp only[zgq];omega
   rw[this];simp only[El]
  ·cases b with
   |none=>simp at hy
   |some z=>
     simp only[zoq,D8]at hy;subst hy;obtain⟨s1,s2⟩:=e5 z rfl;have s1:=s1 (by omega);have hz:z=⟨z.block,z.off,none⟩:=by cases z;simp only at s1;subst s1;rfl
     rw[hz];simp only[Addr.add_lit];exact⟨λ_=>trivial,A8b s2⟩
def B0f{m:F4}{q:Nat×Nat×Nat×Nat}(h:B0e m=some q):m=.arr q.1 q.2.1 q.2.2.1 q.2.2.2:=by
 unfold B0e at h;split at h
 ·simp only[D8]at h;subst h;rfl
 ·cases h
def A01{e:TypeId}(h:JB P t=some e):P.underlying t=some (.slice e):=by
 unfold JB at h;split at h
 ·simp only[D8]at h;subst h;assumption
 ·cases h
def B3Y{E:Env}{tg:Tag}{i off l hh:Nat}(e1:M4 E h tg .undef (.arr i sz off len) (.slice b len cap))(c2:l<=hh)(c3:hh<=len):
 M4 E h tg .undef (.arr i sz (off+l) (hh-l)) (.slice (if cap=l then b else b.map (·.add (l * sz))) (hh-l) (cap-l)):=by
 obtain⟨f0,b',cap',hv,f1,f2,f3,f4,f5⟩:=e1;simp only[Value.slice.injEq,true_and]at hv;obtain⟨rfl,rfl⟩:=hv;refine⟨f0,_,_,rfl,λhp=>?_,by omega,λhb=>?_,λy hy=>?_,λhp=>?_⟩
 ·rw[A7 (by omega),f1 (by omega),zoq,Addr.add_lit,zmq,<- zSq]
 ·split at hb
  ·rw[f3 hb];omega
  ·cases b with
   |none=>rw[f3 rfl];omega
   |some z=>simp at hb
 ·split at hy
  ·exact f4 y hy
  ·cases b with
   |none=>simp at hy
   |some z=>
     simp only[zoq,D8]at hy;subst hy;have:=f4 z rfl;have hz:z=⟨z.block,z.off,none⟩:=by cases z;simp only at this;subst this;rfl
     rw[hz,Addr.add_lit]
 ·have:=f5 (by omega)
  rwa [show off+l+(cap-l)=off+cap by omega]
def A19{m:F4}{q:Nat×Nat×Nat×Nat}(h:A5l m=some q):m=.P9 q.1 q.2.1 q.2.2.1 q.2.2.2:=by
 unfold A5l at h;split at h
 ·simp only[D8]at h;subst h;rfl
 ·cases h
def B5w{E:Env}{tg:Tag}{i n hh:Nat}(e1:M4 E h tg .undef (.P9 i n sz len) (.slice b len cap))(c3:hh<=len):
 M4 E h tg .undef (.P9 i n sz hh) (.slice (if cap=0 then b else b.map (·.add (0 * sz))) (hh-0) (cap-0)):=by
 obtain⟨r1,r2,r3,b',cap',hv,f2,f3,f4,f5⟩:=e1;simp only[Value.slice.injEq,true_and]at hv;obtain⟨rfl,rfl⟩:=hv;have eb:(if cap=0 then b else b.map (·.add (0 * sz)))=b:=by
  split
  ·rfl
  ·cases b with
   |none=>rfl
   |some z=>
     have:=f4 (by omega) z rfl;have hz:z=⟨z.block,z.off,none⟩:=by cases z;simp only at this;subst this;rfl
     rw[zoq,hz,Addr.add_lit,Nat.zero_mul,zkq]
 rw[eb];exact⟨r1,r2,r3,b,cap,rfl,by omega,f3,f4,f5⟩
variable {y:Operand}
def B3q{lo hi mx:Option Operand}(F7:o.op=.slice t y lo hi mx)(H:Qx C o t y lo hi mx st k=some x)(Rl:L6 E st a w.heap)(T:Then E w k x K):Gp C.P o a w K:=by
 unfold Qx at H;obtain⟨r,h1,H⟩:=D6 H;obtain⟨l,h2,H⟩:=D6 H;obtain⟨h,h3,H⟩:=D6 H;obtain⟨m,h4,H⟩:=D6 H;obtain⟨l1,l2⟩:=A2T h2 Rl;obtain⟨k1,k2⟩:=A2T h3 Rl;obtain⟨m1,m2⟩:=A2T h4 Rl;have V4:∀v,(Instr.sliceAt t (a.eval y) (lo.map a.eval) (hi.map a.eval) (mx.map a.eval)).run C.P w=.ok v w->(execOp a.eval o).run C.P w=.ok (.value v) w:=by intro v hv;simp only[execOp,F7];exact CL hv
 split at H
 ·rename_i q hq;have hm:=B0f hq;have e1:=Rl.src h1;rw[hm]at e1;simp only[RR,M4]at e1;obtain⟨e,he,H⟩:=D6 H;obtain⟨z,hz,H⟩:=D6 H;obtain⟨WS,H⟩:=H6 H;obtain⟨hh,b1,H⟩:=D6 H;obtain⟨ll,b2,H⟩:=D6 H;obtain⟨⟨c2,c3⟩,H⟩:=M5 H;rw[z8q,beq_iff_eq]at WS;have qf:m=none:=by cases m;rfl;exact absurd WS.1 (by simp)
  have hu:=A01 he;obtain⟨f0,b,cap,hv,fr⟩:=e1;rw[hv]at V4;refine X3 (m:=.arr q.1 q.2.1 (q.2.2.1+ll) (hh-ll)) (V4 (.slice (if cap=ll then b else b.map (·.add (ll * q.2.1))) (hh-ll) (cap-ll)) ?_) H Rl (λ_ _=>?_) @T
  ·rw[m2 qf,WS.2];exact pV hu hz (xE b1 b2 c2 c3 fr.2.1 l1 l2 k1 k2 w)
  ·exact B3Y (h:=w.heap) (tg:=.other) ⟨f0,b,cap,rfl,fr⟩ c2 c3
 split at H
 ·rename_i q hq;have hm:=A19 hq;have e1:=Rl.src h1;rw[hm]at e1;simp only[RR]at e1;obtain⟨e,he,H⟩:=D6 H;obtain⟨z,hz,H⟩:=D6 H;obtain⟨WS,H⟩:=H6 H;obtain⟨hh,b1,H⟩:=D6 H;obtain⟨c3,H⟩:=M5 H;simp only[z8q,beq_iff_eq]at WS;have qf:m=none:=by cases m;rfl;exact absurd WS.1.1 (by simp)
  have hln:l=none:=by cases l;rfl;exact absurd WS.1.2 (by simp)
  have hu:=A01 he;have e0:=e1;simp only[M4]at e0;obtain⟨-,-,-,b,cap,hv,fc,-⟩:=e0;rw[hv]at V4 e1;have b2:bnd 0 l=some 0:=by rw[hln];rfl
  refine X3 (m:=.P9 q.1 q.2.1 q.2.2.1 hh) (V4 (.slice (if cap=0 then b else b.map (·.add (0 * q.2.2.1))) (hh-0) (cap-0)) ?_) H Rl (λ_ _=>?_) @T
  ·rw[m2 qf,WS.2];exact pV hu hz (xE b1 b2 (Nat.zero_le _) c3 fc l1 l2 k1 k2 w)
  ·exact B5w (h:=w.heap) (tg:=.other) e1 c3
 rename_i hq _;obtain⟨hd,H⟩:=H6 H;have e1:=(Rl.src h1).data hd;split at H
 ·rename_i e hu;obtain⟨z,hz,H⟩:=D6 H;split at H
  ·obtain⟨d,QT,H⟩:=D6 H;obtain⟨ds,hh,ll,hr,b1,b2,c2,c3,rfl⟩:=yJ QT;rw[hr]at e1;obtain⟨b,len,cap,hv,f1,f2,f3⟩:=Kg e1;rw[hv]at e1;refine Ag (V4 _ ?_) H Rl (A7K (m:=cap) e1 c2 c3 (by omega) (z5q _)) @T;rw[hv,m2 rfl];exact pV hu hz (xE (f1 ▸ b1) b2 c2 (by omega) f2 l1 l2 k1 k2 w)
  ·obtain⟨d,QT,H⟩:=D6 H;obtain⟨kd,kd',qh,rfl,rfl,hd3⟩:=A5C QT;obtain⟨ds,hh,ll,hr,b1,b2,c2,c3,rfl⟩:=yJ hd3;rw[hr]at e1;obtain⟨b,len,cap,hv,f1,f2,f3⟩:=Kg e1;rw[hv]at e1;have hb:=aX b1;simp only[reduceCtorEq,false_and,D8,DV.int.injEq,false_or]at hb;obtain⟨kd1,q1,⟨rfl,rfl⟩,uo,rfl⟩:=hb;have hR:=A7K (m:=qh.toNat) e1 c2 c3 (z5q _) (by omega);refine X3 (m:=.full) (V4 _ ?_) H Rl (λ_ _=>⟨hR,⟨_,_,rfl⟩,_,_,rfl⟩) @T;obtain⟨vh,evh,rvh⟩:=k1 _ rfl;obtain⟨vm,evm,rvm⟩:=m1 _ rfl;rw[CO]at rvh rvm;subst rvh rvm;rw[hv,evh,evm];refine pV hu hz ?_;have A:∀(kd:IntKind)(q:Int)(y:Nat)(code:BoundsCode),0<=q->q.toNat<=y->(Instr.sliceBound (.int kd q) y code).run C.P w=.ok q.toNat w:=by intro kd q y code h0 h4;unfold Instr.sliceBound;simp only[asIntOf,pure_bind,Sem.run_ite];rw[A9 ⟨h0,by omega⟩];rfl
   unfold Instr.sliceBounds;rcases aX b2 with⟨rfl,rfl⟩ | ⟨kd',q',rfl,uZ,rfl⟩
   ·rw[l2 rfl];simp only[Sem.run_bind,Sem.run_pure,Result.andThen_ok,A _ _ _ _ uo (by omega:qh.toNat<=cap),A _ _ _ _ uo (z5q _)]
   ·obtain⟨v,evl,hv⟩:=l1 _ rfl;rw[CO]at hv;subst hv;rw[evl];simp only[Sem.run_bind,Sem.run_pure,Result.andThen_ok,A _ _ _ _ uo (by omega:qh.toNat<=cap),A _ _ _ _ uo (z5q _),A _ _ _ _ uZ c2]
  ·simp at H
 ·rename_i hu;split at H
  ·obtain⟨d,QT,H⟩:=D6 H;unfold jS at QT;split at QT
   ·rename_i s hr;obtain⟨hh,b1,QT⟩:=D6 QT;obtain⟨ll,b2,QT⟩:=D6 QT;obtain⟨⟨c2,c3⟩,QT⟩:=M5 QT;simp only[D8]at QT;subst QT;rw[hr,Xt]at e1;refine Ag (v:=.string _) (V4 _ ?_) H Rl (by rw[Xt]) @T;rw[e1,m2 rfl];unfold Instr.sliceAt;simp only[Sem.run_bind,run_underlying hu,Result.andThen_ok];unfold Instr.slice;simp only[Sem.run_bind,run_underlying hu,Result.andThen_ok,Option.isSome_none,zhq,G9,Sem.run_pure,xE b1 b2 c2 c3 (z5q _) l1 l2 k1 k2 w]
   ·simp at QT
  ·simp at H
 ·simp at H
def Hg{b:Builtin}{c:Call}(F7:o.op=.call c)(hc:c.callee=.builtin b){w':World}(h:(builtin b c.argTypes o.type (c.args.map fun | .const _=>true | _=>false) (c.args.map a.eval)).run C.P w=.ok (.value v) w'):(execOp a.eval o).run C.P w=.ok (.value v) w':=by simp only[execOp,F7,resolve,hc,Sem.run_bind,Sem.run_pure,Result.andThen_ok,invoke];exact h
theorem A9a{α : Type}{xs:Array α}{y : α}(h:xs.toList=[y]):xs=#[y]:=by cases xs;simp at h;subst h;rfl
theorem Oc{α : Type}{xs:Array α}{y z : α}(h:xs.toList=[y,z]):xs=#[y,z]:=by cases xs;simp at h;subst h;rfl
def B62{c:Call}(F7:o.op=.call c)(hc:c.callee=.builtin .len)(ha:c.args.toList=[y])(ht:c.argTypes.toList=[t])(H:Us C o y t st k=some x)(Rl:L6 E st a w.heap)(T:Then E w k x K):Gp C.P o a w K:=by
 unfold Us at H;obtain⟨r,h1,H⟩:=D6 H;have e1:=Rl.src h1;have V4:∀v,(Builtin.len_ #[t] o.type #[a.eval y]).run C.P w=.ok v w->(execOp a.eval o).run C.P w=.ok (.value v) w:=by intro v hv;refine Hg F7 hc ?_;rw[A9a ht,show c.args.map a.eval=#[a.eval y]from by rw[A9a ha];simp];exact CL hv
 have fin:∀{n:Nat},k (st.put o.dst (.int .i64 n) .val)=some x->(Builtin.len_ #[t] o.type #[a.eval y]).run C.P w=.ok (.int .i64 n) w->Gp C.P o a w K :=λH hv=>Ag (V4 _ hv) H Rl (by rw[CO]) @T
 split at H
 ·rename_i e hu;have dat:og (K6 r.2) (ob (O6 r.1) λd=>k (st.put o.dst d .val))=some x->Gp C.P o a w K:=by intro H;obtain⟨hd,H⟩:=H6 H;obtain⟨d,QT,H⟩:=D6 H;obtain⟨sz,ds,hr,rfl⟩:=B2g QT;have e2:=e1.data hd;rw[hr]at e2;obtain⟨b,len,cap,hv,f1,-⟩:=Kg e2;refine fin H ?_;rw[hv,f1];unfold Builtin.len_;simp[run_underlying hu,goInt]
  split at H
  ·rename_i i sz off len hm;rw[hm]at e1;simp only[RR,M4]at e1;obtain⟨hi,b,cap,hv,-⟩:=e1;refine fin H ?_;rw[hv];unfold Builtin.len_;simp[run_underlying hu,goInt]
  ·rename_i i n sz len hm;rw[XL]at H;rw[hm]at e1;simp only[RR,M4]at e1;obtain⟨-,-,-,b,cap,hv,-⟩:=e1;refine fin H ?_;rw[hv];unfold Builtin.len_;simp[run_underlying hu,goInt]
  ·exact dat H
 ·rename_i hu;obtain⟨hd,H⟩:=H6 H;obtain⟨d,QT,H⟩:=D6 H;obtain⟨s,hr,rfl⟩:=B0s QT;have e2:=e1.data hd;rw[hr,Xt]at e2;refine fin H ?_;rw[e2];unfold Builtin.len_;simp[run_underlying hu,goInt]
 ·rename_i kt et hu;obtain⟨n,hn,H⟩:=D6 H;rw[XL]at H;unfold A1y at hn;split at hn
  ·rename_i i hm;obtain⟨es,hes,hn⟩:=D6 hn;simp only[D8]at hn;subst hn;rw[hm]at e1;simp only[RR,M4]at e1;have hO:st.sg[i]?=some (.map es.1 es.2):=by
    unfold Q5 at hes;split at hes
    ·simp only[D8]at hes;subst hes;assumption
    ·simp at hes
   obtain⟨ens,clk,g1,g2,g3,-⟩:=Rl.U5 i _ hO;refine fin H ?_;rw[e1.2,g3.1];unfold Builtin.len_;simp[run_underlying hu,goInt,getObj,Sem.run,g1]
  ·rename_i hm;simp only[D8]at hn;subst hn;rw[hm]at e1;simp only[RR,M4]at e1;refine fin H ?_;rw[e1];unfold Builtin.len_;simp[run_underlying hu,goInt]
  ·simp at hn
 ·simp at H
end
end
section
variable {b:Bool}
def B2c{y z:DV}(h:B0q y z=some b):∃p q,y=.bool p/\z=.bool q/\b=(p==q):=by
 unfold B0q at h;split at h
 ·simp only[D8]at h;exact⟨_,_,rfl,rfl,h.symm⟩
 ·simp at h
def B2b{ks:List LK}{y z:DV}(h:tY ks y z=some b):∃p q,y=.agg p/\z=.agg q/\Ay ks p q=some b:=by
 unfold tY at h;split at h
 ·exact⟨_,_,rfl,rfl,h⟩
 ·simp at h
variable {op:BinOp}{d:DV}
def A03(h:mU op b=some d):(op=.eql/\d=.bool b)\/(op=.neq/\d=.bool !b):=by
 unfold mU at h;split at h<;>simp only[D8,reduceCtorEq]at h<;>subst h
 ·exact .inl ⟨rfl,rfl⟩
 ·exact .inr ⟨rfl,rfl⟩
def B2h{y z:DV}(h:zT y z=some d):∃k p q,y=.int k p/\z=.int k q/\d=.int k (if q>p then q else p):=by
 unfold zT at h;split at h
 ·obtain⟨hk,h1⟩:=M5 h;simp only[D8]at h1;subst hk;exact⟨_,_,_,rfl,rfl,h1.symm⟩
 ·simp at h
def B2i{y z:DV}(h:ae y z=some d):∃k p q,y=.int k p/\z=.int k q/\d=.int k (if q<p then q else p):=by
 unfold ae at h;split at h
 ·obtain⟨hk,h1⟩:=M5 h;simp only[D8]at h1;subst hk;exact⟨_,_,_,rfl,rfl,h1.symm⟩
 ·simp at h
variable {P:Program}{t:TypeId}{lk:LK}
def B2G(h:Zi P t=some lk)(w:World):(isAgg t).run P w=.ok false w:=by
 unfold Zi at h;split at h
 ·rename_i hu;unfold isAgg;simp[run_underlying hu]
 ·rename_i hu;unfold isAgg;simp[run_underlying hu]
 ·rename_i hu;unfold isAgg;simp[run_underlying hu]
 ·simp at h
variable {S:AY}{hp:Heap}
def uK{dx dy:DV}{vx vy:Value}(hk:Zi P t=some lk)(H:B0r lk dx dy=some b)(hx:RC S hp dx [vx])(hy:RC S hp dy [vy])(n:Nat)(w:World):(Op.equalIn (n+1) t vx vy).run P w=.ok b w:=by
 unfold B0r at H;split at H
 ·obtain⟨bV,H1⟩:=M5 H;simp only[D8]at H1;subst H1 bV;simp only[RC,List.cons.injEq,and_true]at hx hy;subst hx hy;unfold Zi at hk;split at hk<;>simp only[D8,reduceCtorEq]at hk;rename_i hu;exact run_equalIn_int w n t _ _ _ _ hu
 ·simp only[D8]at H;subst H;simp only[RC,List.cons.injEq,and_true]at hx hy;subst hx hy;unfold Zi at hk;split at hk<;>simp only[D8,reduceCtorEq]at hk;rename_i hu;exact run_equalIn_bool' w n t _ _ hu
 ·simp only[D8]at H;subst H;simp only[RC,List.cons.injEq,and_true]at hx hy;subst hx hy;unfold Zi at hk;split at hk<;>simp only[D8,reduceCtorEq]at hk;rename_i hu;exact run_equalIn_string w n t _ _ hu
 ·simp at H
variable {v:Value}
def fZ(h:Zi P t=some lk){cs:Array Value}{off:Nat}(hv:cs[off]?=some v)(w:World):(part t cs off).run P w=.ok v w:=by unfold part;simp[B2G h,hv]
variable {n:Nat}
def A02{xs ys:Array Value}{ax ay:List DV}(hx:FM S hp ax xs.toList)(hy:FM S hp ay ys.toList):∀(fs:List Field)(ks:List LK)(i:Nat)(b:Bool),
 VG P i fs=some ks->Ay ks (ax.drop i) (ay.drop i)=some b->∀w:World,(Op.eqFields (n+1) xs ys fs).run P w=.ok b w:=by
 obtain⟨lx,hx⟩:=CS.1 hx;obtain⟨ly,hy⟩:=CS.1 hy;intro fs;induction fs with
 |nil=>intro ks i b h1 h2 w;simp only[VG,D8]at h1;subst h1;unfold Ay at h2;split at h2<;>simp_all[Op.eqFields]
 |cons f fs ih=>
   intro ks i b h1 h2 w;simp only[VG]at h1;obtain⟨hc,h1⟩:=M5 h1;obtain⟨lk,hk,h1⟩:=D6 h1;obtain⟨ks',EP,h1⟩:=D6 h1;simp only[D8]at h1;subst h1;simp only[z8q,bne_iff_ne,ne_eq,beq_iff_eq]at hc;cases bS:ax.drop i with
   |nil=>rw[bS]at h2;simp[Ay]at h2
   |cons dx rx=>
     cases hay:ay.drop i with
     |nil=>rw[bS,hay]at h2;simp[Ay]at h2
     |cons dy ry=>
       rw[bS,hay]at h2;simp only[Ay]at h2;obtain⟨q,hq,h2⟩:=D6 h2;have A6z:ax[i]?=some dx:=by have:=congrArg (λl:List DV=>l[0]?) bS;simpa using this
       have A6A:ay[i]?=some dy:=by have:=congrArg (λl:List DV=>l[0]?) hay;simpa using this
       have NL:i<xs.toList.length:=by have:=(z0q.1 A6z).1;omega
       have uh:i<ys.toList.length:=by have:=(z0q.1 A6A).1;omega
       have hvx:xs.toList[i]?=some xs.toList[i]:=z3q NL;have hvy:ys.toList[i]?=some ys.toList[i]:=z3q uh;have rx':rx=ax.drop (i+1):=by rw[<- zBq,bS];rfl
       have ry':ry=ay.drop (i+1):=by rw[<- zBq,hay];rfl
       have e1:(part f.type xs f.offset).run P w=.ok xs.toList[i] w:=fZ hk (by rw[hc.2];simp) w;have e2:(part f.type ys f.offset).run P w=.ok ys.toList[i] w:=fZ hk (by rw[hc.2];simp) w;have e3:=uK (P:=P) hk hq (hx i dx _ A6z hvx).2 (hy i dy _ A6A hvy).2 n w;simp only[Op.eqFields,Sem.run_ite];rw[A9 hc.1];simp only[Sem.run_bind,e1,e2,e3,Result.andThen_ok,Sem.run_ite];cases q with
       |false=>simp only[zhq,G9,D8]at h2;subst h2;simp
       |true=>simp only[F6]at h2;rw[rx',ry']at h2;simpa using ih ks' (i+1) b EP h2 w
def qR:∀(l ks:List LK)(p q:List DV)(b:Bool),Ay (l++ks) p q=some b->∃c,Ay l (p.take l.length) (q.take l.length)=some c/\(if c=true then Ay ks (p.drop l.length) (q.drop l.length)=some b else b=false)
 |[],ks,p,q,b,h=>⟨true,rfl,by simpa using h⟩
 |k::l,ks,p,q,b,h=>by
   cases p with
   |nil=>simp[Ay]at h
   |cons x p=>
     cases q with
     |nil=>simp[Ay]at h
     |cons y q=>
       simp only[List.cons_append,Ay]at h;obtain⟨e,he,h⟩:=D6 h;simp only[zGq,List.take_succ_cons,Ay,he,ob,List.drop_succ_cons];cases e with
       |false=>simp only[zhq,G9,D8]at h ⊢;exact⟨false,rfl,by simp[<- h]⟩
       |true=>simp only[F6]at h ⊢;exact qR l ks p q b h
def yw{z:Nat×Bool}(h:tz P t=some z)(hz:z.2=true)(cs:Array Value)(off:Nat)(w:World):(part t cs off).run P w=.ok (.agg (cs.extract off (off+z.1))) w:=by have e:=A76 h w;rw[hz]at e;unfold part;simp[e,NQ h w]
def A85{ax:List DV}{xs:List Value}(h:FM S hp ax xs)(i n:Nat):FM S hp ((ax.drop i).take n) ((xs.drop i).take n):=by
 obtain⟨l,h⟩:=CS.1 h;refine CS.2 ⟨by simp[l],λj d v hd hv=>?_⟩;rw[zKq]at hd hv;split at hd
 ·rename_i hj;rw[A9 hj]at hv;rw[z9q]at hd hv;exact h (i+j) d v hd hv
 ·cases hd
def A4m{xs ys:Array Value}{ax ay:List DV}(hx0:FM S hp ax xs.toList)(hy0:FM S hp ay ys.toList):∀(fs:List Field)(ks:List LK)(i:Nat)(b:Bool),
 QQ P i fs=some ks->Ay ks (ax.drop i) (ay.drop i)=some b->∀w:World,(Op.eqFields (n+2) xs ys fs).run P w=.ok b w:=by
 obtain⟨lx,hx⟩:=CS.1 hx0;obtain⟨ly,hy⟩:=CS.1 hy0;intro fs;induction fs with
 |nil=>intro ks i b h1 h2 w;simp only[QQ,D8]at h1;subst h1;unfold Ay at h2;split at h2<;>simp_all[Op.eqFields]
 |cons f fs ih=>
   intro ks i b h1 h2 w;simp only[QQ]at h1;obtain⟨hc,h1⟩:=M5 h1;simp only[z8q,bne_iff_ne,ne_eq,beq_iff_eq]at hc;split at h1
   ·rename_i lk hk;obtain⟨ks',EP,h1⟩:=D6 h1;simp only[D8]at h1;subst h1;cases bS:ax.drop i with
    |nil=>rw[bS]at h2;simp[Ay]at h2
    |cons dx rx=>
      cases hay:ay.drop i with
      |nil=>rw[bS,hay]at h2;simp[Ay]at h2
      |cons dy ry=>
        rw[bS,hay]at h2;simp only[Ay]at h2;obtain⟨q,hq,h2⟩:=D6 h2;have A6z:ax[i]?=some dx:=by have:=congrArg (λl:List DV=>l[0]?) bS;simpa using this
        have A6A:ay[i]?=some dy:=by have:=congrArg (λl:List DV=>l[0]?) hay;simpa using this
        have NL:i<xs.toList.length:=by have:=(z0q.1 A6z).1;omega
        have uh:i<ys.toList.length:=by have:=(z0q.1 A6A).1;omega
        have hvx:xs.toList[i]?=some xs.toList[i]:=z3q NL;have hvy:ys.toList[i]?=some ys.toList[i]:=z3q uh;have rx':rx=ax.drop (i+1):=by rw[<- zBq,bS];rfl
        have ry':ry=ay.drop (i+1):=by rw[<- zBq,hay];rfl
        have e1:(part f.type xs f.offset).run P w=.ok xs.toList[i] w:=fZ hk (by rw[hc.2];simp) w;have e2:(part f.type ys f.offset).run P w=.ok ys.toList[i] w:=fZ hk (by rw[hc.2];simp) w;have e3:=uK (P:=P) hk hq (hx i dx _ A6z hvx).2 (hy i dy _ A6A hvy).2 (n+1) w;simp only[Op.eqFields,Sem.run_ite];rw[A9 hc.1];simp only[Sem.run_bind,e1,e2,e3,Result.andThen_ok,Sem.run_ite];cases q with
        |false=>simp only[zhq,G9,D8]at h2;subst h2;simp
        |true=>simp only[F6]at h2;rw[rx',ry']at h2;simpa using ih ks' (i+1) b EP h2 w
   ·obtain⟨l,hl,h1⟩:=D6 h1;obtain⟨ks',EP,h1⟩:=D6 h1;simp only[D8]at h1;subst h1;unfold A6n at hl;split at hl
    ·rename_i gs hu;split at hl
     ·cases hl
     rename_i R8;obtain⟨z,hz,hl⟩:=D6 hl;obtain⟨l',ZI,hl⟩:=D6 hl;obtain⟨⟨z2,zl⟩,hl⟩:=M5 hl;simp only[D8]at hl;subst hl;obtain⟨c,Mm,CJ⟩:=qR _ _ _ _ _ h2;have e1:=yw (P:=P) hz z2 xs f.offset w;have e2:=yw (P:=P) hz z2 ys f.offset w;have hfs:P.fieldsOf f.type=gs:=by unfold Program.fieldsOf;rw[hu]
     have e3:(Op.equalIn (n+2) f.type (.agg (xs.extract f.offset (f.offset+z.1))) (.agg (ys.extract f.offset (f.offset+z.1)))).run P w=.ok c w:=by
      rw[run_equalIn_struct w (n+1) f.type _ _ (by rw[hfs];exact hu) (by simpa using R8),hfs];have sx:FM S hp ((ax.drop i).take z.1) (xs.extract f.offset (f.offset+z.1)).toList:=by have:=A85 hx0 i z.1;rw[hc.2];simpa[zIq,zzq]using this
      have sy:FM S hp ((ay.drop i).take z.1) (ys.extract f.offset (f.offset+z.1)).toList:=by have:=A85 hy0 i z.1;rw[hc.2];simpa[zIq,zzq]using this
      rw[zl]at Mm;exact A02 sx sy gs.toList _ 0 c ZI (by simpa using Mm) w
     simp only[Op.eqFields,Sem.run_ite];rw[A9 hc.1];simp only[Sem.run_bind,e1,e2,e3,Result.andThen_ok,Sem.run_ite];cases c with
     |false=>simp only[zhq,G9]at CJ;subst CJ;simp
     |true=>simp only[F6]at CJ;rw[zVq,zVq]at CJ;simpa using ih ks' (i+_) b EP CJ w
    ·cases hl
section
variable {X:Type}{C:BQ}{R:O8}{o:Oper}{st:St}{k:St->Option X}{x:X}{E:Env}{a:Act}{w:World}{K:Act->World->Prop}{Q:Exit->Act->World->Prop}
def B0z{e:TypeId}(hu:P.underlying t=some (.pointer e))(n:Nat)(b:Option Addr)(w:World):(Op.equalIn (n+1) t (.pointer none) (.pointer b)).run P w=.ok b.isNone w:=by simp[Op.equalIn,run_underlying hu]
def B0A{e:TypeId}(hu:P.underlying t=some (.pointer e))(n:Nat)(b:Addr)(w:World):(Op.equalIn (n+1) t (.pointer (some b)) (.pointer none)).run P w=.ok false w:=by simp[Op.equalIn,run_underlying hu]
def fu{E:Env}{h:Heap}{k a:Nat}{r:DV×F4}(H:A1M r=some b)(R:RR E h k a r.1 r.2 v):∃p:Option Addr,v=.pointer p/\p.isNone=b:=by
 obtain⟨d,m⟩:=r;unfold A1M at H;simp only at H R;split at H
 ·simp only[D8]at H;subst H;obtain⟨-,rfl⟩:=(R:_/\_);exact⟨none,rfl,rfl⟩
 ·simp only[D8]at H;subst H;obtain⟨-,rfl⟩:=(R:_/\_);exact⟨_,rfl,rfl⟩
 ·split at H<;>simp only[D8,reduceCtorEq]at H<;>subst H
  ·exact⟨none,by simpa only[RR,M4,RV]using R,rfl⟩
  ·simp only[RR,M4,RV,RC]at R;obtain⟨b,o,hv,-⟩:=R;simp only[List.cons.injEq,and_true]at hv;exact⟨_,hv,rfl⟩
 ·cases H
def B4f{e:TypeId}(hu:P.underlying t=some (.pointer e)){E:Env}{h:Heap}{k a k' a':Nat}{r s:DV×F4}{u:Value}(w:World)(H:B0x r s=some b)(R:RR E h k a r.1 r.2 u)(S:RR E h k' a' s.1 s.2 v):
 ∃p q,u=.pointer p/\v=.pointer q/\(Op.equalIn (n+1) t u v).run P w=.ok b w:=by
 unfold B0x at H;split at H<;>simp only[D8,reduceCtorEq]at H<;>subst H<;>rename_i h1 h2
 ·obtain⟨p,rfl,hp⟩:=fu h1 R;obtain⟨q,rfl,hq⟩:=fu h2 S;simp only[zCq]at hp;subst hp hq;exact⟨_,_,rfl,rfl,B0z hu _ _ w⟩
 ·obtain⟨p,rfl,hp⟩:=fu h1 R;obtain⟨q,rfl,hq⟩:=fu h2 S;simp only[zCq]at hq;subst hq;cases p with
  |none=>cases hp
  |some p=>exact⟨_,_,rfl,rfl,B0A hu _ _ w⟩
def A04{e e':TypeId}(hu:P.underlying t=some (.map e e'))(n:Nat)(b:Option Nat)(w:World):(Op.equalIn (n+1) t (.map none) (.map b)).run P w=.ok b.isNone w:=by simp[Op.equalIn,run_underlying hu]
def B0y{e e':TypeId}(hu:P.underlying t=some (.map e e'))(n:Nat)(b:Nat)(w:World):(Op.equalIn (n+1) t (.map (some b)) (.map none)).run P w=.ok false w:=by simp[Op.equalIn,run_underlying hu]
variable {yt:TypeId}
def gD{y z:Operand}(F7:o.op=.binOp op t y z yt)(he:mU op b=some d)(hg:(eqGuard op t y z (a.eval y) (a.eval z)).run C.P w=.ok () w)(hq:(Op.equal t (a.eval y) (a.eval z)).run C.P w=.ok b w)(hb:∀op',binOp op' t (a.eval y) (a.eval z)=(match op' with | .eql=>(do pure (.bool (<- Op.equal t (a.eval y) (a.eval z)))) | .neq=>(do pure (.bool (!(<- Op.equal t (a.eval y) (a.eval z))))) | _=>binOp op' t (a.eval y) (a.eval z)))(H:k (st.put o.dst d .val)=some x)(Rl:L6 E st a w.heap)(T:Then E w k x K):Gp C.P o a w K:=by
 rcases A03 he with⟨rfl,rfl⟩ | ⟨rfl,rfl⟩
 ·refine Ag (v:=.bool b) ?_ H Rl (by rw[Ob]) @T;simp only[execOp,F7];refine CL ?_;rw[hb];simp[hg,hq]
 ·refine Ag (v:=.bool !b) ?_ H Rl (by rw[Ob]) @T;simp only[execOp,F7];refine CL ?_;rw[hb];simp[hg,hq]
def B6Z{y z:Operand}(F7:o.op=.binOp op t y z yt)(H:ZZ C o op t y z st k=some x)(Rl:L6 E st a w.heap)(T:Then E w k x K):Gp C.P o a w K:=by
 unfold ZZ at H;obtain⟨r,h1,H⟩:=D6 H;obtain⟨s,h2,H⟩:=D6 H;have e1:=Rl.src h1;have e2:=Rl.src h2;split at H
 ·obtain⟨hc,H⟩:=H6 H;obtain⟨d,hd,H⟩:=D6 H;simp only[z8q]at hc;obtain⟨v,hv,hR⟩:=B45 (P:=C.P) (t:=t) (x:=y) (y:=z) hd (e1.data hc.1) (e2.data hc.2) w;refine Ag (v:=v) ?_ H Rl hR @T;simp only[execOp,F7];exact CL hv
 ·rename_i Gr;have hu:C.P.underlying t=some .bool:=by unfold jJ at Gr;split at Gr<;>first | assumption | (simp at Gr;done) | (split at Gr<;>simp at Gr)
  obtain⟨hc,H⟩:=H6 H;obtain⟨b,hb,H⟩:=D6 H;obtain⟨d,hd,H⟩:=D6 H;simp only[z8q]at hc;obtain⟨p,q,hp,hq,uk⟩:=B2c hb;have f1:=e1.data hc.1;have f2:=e2.data hc.2;rw[hp,Ob]at f1;rw[hq,Ob]at f2;refine gD F7 hd ?_ ?_ ?_ H Rl @T
  ·rw[f1,eqGuard_at_bool];rfl
  ·rw[f1,f2,uk];exact run_equalIn_bool' w _ t p q hu
  ·intro op';rw[f1,f2];cases op'<;>rfl
 ·rename_i ks Gr;have hu:∃fs,C.P.underlying t=some (.struct fs)/\QQ C.P 0 fs.toList=some ks/\C.P.stoodInHeld t=false/\C.P.eqGuardType C.P.depth t=false:=by
   unfold jJ at Gr;split at Gr<;>first | (simp at Gr;done) | skip
   rename_i fs hfs;split at Gr<;>first | (simp at Gr;done) | skip
   rename_i ks' g1 g2 g3;simp only[A84.flat.injEq]at Gr;subst Gr;exact⟨fs,hfs,g1,g2,g3⟩
  obtain⟨fs,hu,fE,R8,hgt⟩:=hu;obtain⟨hc,H⟩:=H6 H;obtain⟨b,hb,H⟩:=D6 H;obtain⟨d,hd,H⟩:=D6 H;simp only[z8q]at hc;obtain⟨p,q,hp,hq,VM⟩:=B2b hb;have f1:=e1.data hc.1;have f2:=e2.data hc.2;rw[hp]at f1;rw[hq]at f2;simp only[RV]at f1 f2;obtain⟨vs,QX,rvs⟩:=f1;obtain⟨us,hus,rus⟩:=f2;refine gD F7 hd ?_ ?_ ?_ H Rl @T
  ·rw[QX,hus];exact run_eqGuard_agg w op t y z vs us hgt
  ·rw[QX,hus];show(Op.equalIn 10000 t _ _).run C.P w=_;have hfs:C.P.fieldsOf t=fs:=by unfold Program.fieldsOf;rw[hu]
   rw[run_equalIn_struct w 9999 t vs us (by rw[hfs];exact hu) R8,hfs];exact A4m rvs rus fs.toList ks 0 b fE VM w
  ·intro op';rw[QX,hus];cases op'<;>rfl
 ·rename_i Gr;have hu:∃e,C.P.underlying t=some (.pointer e):=by unfold jJ at Gr;split at Gr<;>first | exact⟨_,by assumption⟩ | (simp at Gr;done) | (split at Gr<;>simp at Gr)
  obtain⟨et,hu⟩:=hu;obtain⟨b,hb,H⟩:=D6 H;obtain⟨d,hd,H⟩:=D6 H;have key:∃p q,a.eval y=.pointer p/\a.eval z=.pointer q/\(Op.equal t (a.eval y) (a.eval z)).run C.P w=.ok b w:=by exact B4f hu w hb e1 e2
  obtain⟨p,q,hp,hq,he⟩:=key;refine gD F7 hd ?_ he ?_ H Rl @T
  ·rw[hp,eqGuard_at_pointer];rfl
  ·intro op';rcases A03 hd with⟨rfl,-⟩ | ⟨rfl,-⟩<;>rw[hp,hq]<;>cases op'<;>first | rfl | skip
 ·rename_i Gr;have hu:∃e e',C.P.underlying t=some (.map e e'):=by unfold jJ at Gr;split at Gr<;>first | exact⟨_,_,by assumption⟩ | (simp at Gr;done) | (split at Gr<;>simp at Gr)
  obtain⟨et,et',hu⟩:=hu;obtain⟨b,hb,H⟩:=D6 H;obtain⟨d,hd,H⟩:=D6 H;have key:∃p q,a.eval y=.map p/\a.eval z=.map q/\(Op.equal t (a.eval y) (a.eval z)).run C.P w=.ok b w:=by
   revert hb e1 e2;unfold A1C;split<;>intro e1 e2 hb<;>simp only[D8,reduceCtorEq]at hb<;>subst hb<;>rename_i hm hn<;>rw[hm]at e1<;>rw[hn]at e2<;>simp only[RR,M4]at e1 e2
   ·refine⟨_,_,e1,e2,?_⟩;rw[e1,e2];exact A04 hu _ _ w
   ·refine⟨_,_,e1,e2.2,?_⟩;rw[e1,e2.2];exact A04 hu _ _ w
   ·refine⟨_,_,e1.2,e2,?_⟩;rw[e1.2,e2];exact B0y hu _ _ w
  obtain⟨p,q,hp,hq,he⟩:=key;refine gD F7 hd ?_ he ?_ H Rl @T
  ·rw[hp,eqGuard_at_map];rfl
  ·intro op';rw[hp,hq];cases op'<;>rfl
 ·simp at H
end
end
section
variable {X:Type}{C:BQ}{R:O8}{o:Oper}{st:St}{k:St->Option X}{x:X}{E:Env}{a:Act}{w:World}{K:Act->World->Prop}{Q:Exit->Act->World->Prop}{t:TypeId}{y:Operand}
def B3p{i:Operand}(F7:o.op=.index t y i)(H:(ob (src C.P t st y) λr=>ob (src C.P 0 st i) λj=>match C.P.underlying t with
   |some .string=>og (K6 r.2&&K6 j.2) (ob (IM r.1 j.1) λd=>k (st.put o.dst d .val))
   |_=>none)=some x)(Rl:L6 E st a w.heap)(T:Then E w k x K):Gp C.P o a w K:=by
 obtain⟨r,h1,H⟩:=D6 H;obtain⟨j,h2,H⟩:=D6 H;split at H
 ·rename_i hu;obtain⟨hc,H⟩:=H6 H;obtain⟨d,hd,H⟩:=D6 H;simp only[z8q]at hc;have e1:=(Rl.src h1).data hc.1;have e2:=(Rl.src h2).data hc.2;obtain⟨s,kd,n,b,hr,hj,h0,hb,Rk⟩:=A5D hd;rw[hr,Xt]at e1;rw[hj,CO]at e2;rw[Rk]at H;refine Ag (v:=.int .u8 b.toNat) ?_ H Rl (by rw[CO]) @T;simp only[execOp,F7];refine CL ?_;have hs:s[n.toNat]?=some b:=by have P6:n.toNat<s.data.size:=(z4q.1 hb).1;have hv:s.data[n.toNat]=b:=(z4q.1 hb).2;rw[getElem?_pos s n.toNat P6];exact congrArg some hv
  unfold Instr.index;simp only[e1,e2,asIntOf,Sem.run_bind,Sem.run_pure,Result.andThen_ok,run_underlying hu,h0,F6,hs]
 ·simp at H
variable {S:AY}{h:Heap}{vs:List Value}
def tJ{d:DV}(H:RC S h d vs){off n:Nat}(hn:off+n<=vs.length):FM S h (cells n off d) ((vs.drop off).take n):=by
 refine CS.2 ⟨by simp only[cells,zTq,List.length_range,zgq,zjq];omega,λi d' v hd hv=>?_⟩;have hi:i<n:=by have:=(z0q.1 hd).1;simpa[cells]using this
 simp only[cells,zbq,zJq hi,zoq,D8]at hd;subst hd;rw[z6q hi,z9q]at hv;exact Oa H hv
variable {v:Value}
def tK{n:Nat}{d:DV}(hg:I5 n d=true)(H:RV S h d v):∃vs,v=.agg vs/\vs.size=n/\RC S h d vs.toList:=by
 cases d<;>simp only[I5]at hg<;>try contradiction
 rename_i cs;simp only[RV]at H;obtain⟨vs,rfl,H⟩:=H;refine⟨vs,rfl,?_,by simp only[RC];exact H⟩;have:=(CS.1 H).1;simp only[beq_iff_eq]at hg;simp at this;omega
def B63{c:Call}{z:Operand}{u:TypeId}(F7:o.op=.call c)(hc:c.callee=.builtin .max)(ha:c.args.toList=[y,z])(H:(ob (src C.P t st y) λr=>ob (src C.P u st z) λs=>og (K6 r.2&&K6 s.2) (ob (zT r.1 s.1) λd=>k (st.put o.dst d .val)))=some x)(Rl:L6 E st a w.heap)(T:Then E w k x K):Gp C.P o a w K:=by obtain⟨r,h1,H⟩:=D6 H;obtain⟨s,h2,H⟩:=D6 H;obtain⟨Mm,H⟩:=H6 H;obtain⟨d,hd,H⟩:=D6 H;simp only[z8q]at Mm;obtain⟨kd,p,q,hr,hs,Rk⟩:=B2h hd;have e1:=(Rl.src h1).data Mm.1;have e2:=(Rl.src h2).data Mm.2;rw[hr,CO]at e1;rw[hs,CO]at e2;rw[Rk]at H;refine Ag (v:=.int kd (if q>p then q else p)) ?_ H Rl (by rw[CO]) @T;refine Hg F7 hc ?_;rw[show c.args.map a.eval=#[a.eval y,a.eval z]from by rw[Oc ha];simp];refine CL ?_;rw[e1,e2];simp[Builtin.max_,Builtin.max2]
def B64{c:Call}{z:Operand}{u:TypeId}(F7:o.op=.call c)(hc:c.callee=.builtin .min)(ha:c.args.toList=[y,z])(H:(ob (src C.P t st y) λr=>ob (src C.P u st z) λs=>og (K6 r.2&&K6 s.2) (ob (ae r.1 s.1) λd=>k (st.put o.dst d .val)))=some x)(Rl:L6 E st a w.heap)(T:Then E w k x K):Gp C.P o a w K:=by obtain⟨r,h1,H⟩:=D6 H;obtain⟨s,h2,H⟩:=D6 H;obtain⟨Mm,H⟩:=H6 H;obtain⟨d,hd,H⟩:=D6 H;simp only[z8q]at Mm;obtain⟨kd,p,q,hr,hs,Rk⟩:=B2i hd;have e1:=(Rl.src h1).data Mm.1;have e2:=(Rl.src h2).data Mm.2;rw[hr,CO]at e1;rw[hs,CO]at e2;rw[Rk]at H;refine Ag (v:=.int kd (if q<p then q else p)) ?_ H Rl (by rw[CO]) @T;refine Hg F7 hc ?_;rw[show c.args.map a.eval=#[a.eval y,a.eval z]from by rw[Oc ha];simp];refine CL ?_;rw[e1,e2];simp[Builtin.min_,Builtin.min2]
def B6i{sz:Nat}{d e:DV}(H:B0v sz d=some e)(R:RV S h d v):∃b o,v=.pointer (some ⟨b,o,none⟩)/\Elem S h sz b o e:=by
 unfold B0v at H;split at H
 ·rename_i sz' d';split at H
  ·rename_i hs;simp only[D8]at H;subst H hs;simp only[RV,RC]at R;obtain⟨b,o,hv,us,h1,h2,h3⟩:=R;simp only[List.cons.injEq,and_true]at hv;exact⟨b,o,hv,us,h1,h2,h3⟩
  ·cases H
 ·cases H
def A7H{fl:H8}(F7:o.op=.nilCheck y)(H:(ob (src C.P 0 st y) λr=>match r.2 with
   |.loc s o'=>k (st.put o.dst .undef (.loc s o'))
   |.Qg ag sz o'=>k (st.put o.dst r.1 (.Qg ag sz o'))
   |.ptr i o'=>k (st.put o.dst .undef (.ptr i o'))
   |.Xz i sz j o'=>k (st.put o.dst .undef (.Xz i sz j o'))
   |.opt i sz j=>k (st.put o.dst .undef (.opt i sz j))
   |.fn f cs=>k (st.put o.dst .undef (.fn f cs))
   |.val=>ob (o.dst.bind λt=>fl.refs.find? (·.1==t)) λq=>ob (B0v q.2 r.1) λd=>k (st.put o.dst d (.Qg true q.2 0))
   |_=>none)=some x)(Rl:L6 E st a w.heap)(T:Then E w k x K):Gp C.P o a w K:=by
 obtain⟨r,h1,H⟩:=D6 H;have e1:=Rl.src h1;have hp:∀b,a.eval y=.pointer (some b)->(execOp a.eval o).run C.P w=.ok (.value (.pointer (some b))) w:=by intro b hb;simp only[execOp,F7,hb,Sem.run_pure]
 have hf:∀f c d,a.eval y=.func (.func f) c d->(execOp a.eval o).run C.P w=.ok (.value (.func (.func f) c d)) w:=by intro f c d hb;simp only[execOp,F7,hb,Sem.run_pure]
 revert e1 H;cases hm:r.2<;>intro H e1<;>simp only[reduceCtorEq]at H<;>simp only[RR,M4]at e1
 case val=>obtain⟨q,-,H⟩:=D6 H;obtain⟨d,hd,H⟩:=D6 H;obtain⟨b,o0,r1,r2⟩:=B6i hd e1;exact X3 (hp _ r1) H Rl (λ_ _=>⟨b,o0,rfl,r2,λh=>by cases h⟩) @T
 case loc s off=>exact X3 (hp _ e1.2) H Rl (λ_ _=>⟨rfl,rfl⟩) @T
 case Qg ag sz off=>obtain⟨b,o0,r1,r2,r3⟩:=e1;exact X3 (hp _ r1) H Rl (λ_ _=>⟨b,o0,rfl,r2,r3⟩) @T
 case ptr i off=>exact X3 (hp _ e1.2) H Rl (λ_ _=>⟨e1.1,rfl⟩) @T
 case Xz i sz idx off=>exact X3 (hp _ e1.2) H Rl (λ_ _=>⟨e1.1,rfl⟩) @T
 case opt i sz idx=>exact X3 (hp _ e1.2) H Rl (λ_ _=>⟨e1.1,rfl⟩) @T
 case fn f cs=>exact X3 (hf _ _ _ e1.1) H Rl (λ_ _=>⟨rfl,e1.2⟩) @T
variable {P:Program}
def HV{z:Nat×Bool}(hz:tz P t=some z){b off:Nat}(hl:vs.length=z.1)(hc:∀(j:Nat) v,vs[j]?=some v->hc w.heap b (off+j)=some v):
 ∃v,(loadVar t ⟨b,off,none⟩).run P w=.ok v w/\(z.2=true->v=.agg vs.toArray)/\(z.2=false->vs=[v]):=by
 unfold loadVar;simp only[Sem.run_bind,A76 hz,Result.andThen_ok,Sem.run_ite]
 by_cases h2:z.2=true
 ·rw[A9 h2];have h3:(loadCells ⟨b,off,none⟩ z.1).run P w=.ok vs.toArray w:=by rw[<- hl];refine run_loadCells_list w _ vs λj v hv=>?_;rw[Addr.add_lit,Me];exact hc j v hv
  refine⟨_,by simp only[NQ hz,h3,Result.andThen_ok,Sem.run_pure],λ_=>rfl,λh4=>?_⟩;rw[h2]at h4;cases h4
 ·rw[A7 h2];have Hq:z.1=1:=by obtain⟨i,d,-,-,-,h4⟩:=Ib hz;exact h4 (by simpa using h2)
  match vs,hl.trans Hq with
  |[v],_=>have h5:=hc 0 v rfl;refine⟨v,?_,λh3=>absurd h3 h2,λ_=>rfl⟩;rw[run_load,Me];simp only[zkq]at h5;rw[h5]
def RJ(F7:o.op=.load t y){b off:Nat}(he:a.eval y=.pointer (some ⟨b,off,none⟩))(h:(loadVar t ⟨b,off,none⟩).run P w=.ok v w):
 (execOp a.eval o).run P w=.ok (.value v) w:=by
 simp only[execOp,F7];refine CL ?_;simp only[Instr.loadAt,he,Instr.sureAddr,Sem.run_bind,Sem.run_pure,Result.andThen_ok,h]
end
section
variable {E:Env}{h:Heap}{tg:Tag}{cs:List (DV×F4)}{off:Nat}
def tH{k a b:Nat}(B:aQ E h tg k a b cs){n:Nat}(hn:off+n<=cs.length):
 ∃vs:List Value,vs.length=n/\(∀(j:Nat) v,vs[j]?=some v->hc h b (off+j)=some v) /\∀(j:Nat) v r,vs[j]?=some v->cs[off+j]?=some r->M8 r.1=true/\v.oneCell'=true/\Z0 r.2=true/\M4 E h (.sp k a (off+j)) r.1 r.2 v:=by
 obtain⟨c,T,h1,h2,h3,h4⟩:=B;have e:∀(j:Nat) v,((c.toList.drop off).take n)[j]?=some v->c[off+j]?=some v:=by
  intro j v hv;have hj:j<n:=by have:=(z0q.1 hv).1;simp only[zgq,zjq]at this;omega
  rw[z6q hj,z9q]at hv;simpa using hv
 refine⟨(c.toList.drop off).take n,by simp only[zgq,zjq,Array.length_toList];omega,λj v hv=>?_,λj v r hv hr=>h4 (off+j) r v hr (e j v hv)⟩;unfold hc;rw[h1];exact e j v hv
variable {m:F4}
def Bc(h:Z0 m=true):dm m=Xy m/\Z0 (dm m)=true/\dm m ≠ .own:=by cases m<;>simp_all[Z0,dm,Xy]
variable {d:DV}{v:Value}
def M4.Bc{tg':Tag}(hm:Z0 m=true)(R:M4 E h tg d m v):M4 E h tg' d (dm m) v:=by rw[(Su.Bc hm).1];exact R.Xy
def M4.nu{tg':Tag}(R:M4 E h tg d .full v):M4 E h tg' d .own v:=by simp only[M4]at R ⊢;obtain⟨r1,⟨p,n,rfl⟩,sz,ds,r2⟩:=R;refine⟨r1,sz,ds,r2,λx len cap hv P6=>?_⟩;simp only[Value.slice.injEq]at hv;omega
section
variable {X:Type}{C:BQ}{R:O8}{o:Oper}{st:St}{k:St->Option X}{x:X}{E:Env}{a:Act}{w:World}{K:Act->World->Prop}{Q:Exit->Act->World->Prop}
def zM{vs:List Value}(hl:vs.length=cs.length)(H:∀(j:Nat) v r,vs[j]?=some v->cs[j]?=some r->M8 r.1=true/\v.oneCell'=true/\Z0 r.2=true/\∃tg,M4 E w.heap tg r.1 r.2 v)(p q:Nat):
 RR E w.heap p q (XR cs).1 (XR cs).2 (.agg vs.toArray):=by
 simp only[XR,RR];refine⟨_,_,rfl,rfl,by simp,by simp[hl],λi m d v h1 h2 h3=>?_⟩;simp only[zbq,zaq]at h1 h2;obtain⟨r,hr,rfl⟩:=h1;obtain⟨r',AV,rfl⟩:=h2;rw[hr]at AV;simp only[D8]at AV;subst AV;obtain⟨a1,a2,a3,tg,a4⟩:=H i v r (by simpa using h3) hr;exact⟨a1,a2,(Su.Bc a3).2.1,a4.Bc a3⟩
def A8H{r:DV×F4}(h1:M8 r.1=true)(h2:v.oneCell'=true)(h3:Z0 r.2=true)(h4:M4 E w.heap tg r.1 r.2 v):
 M8 (Wx r).1=true/\v.oneCell'=true/\Z0 (Wx r).2=true/\∃tg,M4 E w.heap tg (Wx r).1 (Wx r).2 v:=by
 unfold Wx;split
 ·exact⟨rfl,h2,rfl,tg,by simp only[M4,RV]⟩
 ·exact⟨h1,h2,h3,tg,h4⟩
def YO:F4->Bool
 |.val=>true
 |.full=>true
 |.own=>true
 |.KX=>true
 |.U0 _ _ _=>true
 |_=>false
def aY(h:U6 cs off=some d):∃m,cs[off]?=some (d,m)/\YO m=true:=by unfold U6 at h;split at h<;>simp only[D8,reduceCtorEq]at h<;>subst h<;>exact⟨_,‹_›,rfl⟩
def jF{E:Env}(hm:YO m=true)(R:M4 E h tg d m v):RV E.S h d v:=by
 cases m<;>simp only[YO,zhq]at hm
 ·exact R
 ·exact R.1
 ·exact R.1
 ·obtain⟨rfl,rfl⟩:=(R:_/\_);simp only[RV]
 ·exact R.1
def yz:∀{n off:Nat}{cs:List (DV×F4)}{ds:List DV},Vo off n cs=some ds->ds.length=n/\∀(i:Nat) d,ds[i]?=some d->U6 cs (off+i)=some d
 |0,off,cs,ds,h=>by simp only[Vo,D8]at h;subst h;simp
 |n+1,off,cs,ds,h=>by
   simp only[Vo]at h;obtain⟨d,hd,h⟩:=D6 h;obtain⟨ds',ZH,h⟩:=D6 h;simp only[D8]at h;subst h;obtain⟨l1,l2⟩:=yz ZH;refine⟨by simp[l1],λi d' hi=>?_⟩;cases i with
   |zero=>simp only[z2q,D8]at hi;subst hi;simpa using hd
   |succ i=>simp only[zfq]at hi;have:=l2 i d' hi;rwa [zmq,zLq 1 i]at this
variable {sg:List E5}{i:Nat}
def Zr(h:H5 sg i=some cs):sg[i]?=some (.box cs):=by
 unfold H5 at h;split at h
 ·simp only[D8]at h;subst h;assumption
 ·simp at h
def pK{p:Nat×List DV}(h:RL sg i=some p):sg[i]?=some (.arr p.1 p.2):=by
 unfold RL at h;split at h
 ·simp only[D8]at h;subst h;assumption
 ·simp at h
def pM{sz:Nat}{pre ds:List DV}(h:Lc sg i=some (sz,pre,ds)):sg[i]?=some (.opn sz pre ds):=by
 unfold Lc at h;split at h
 ·rename_i heq;simp only[D8,Prod.mk.injEq]at h;obtain⟨rfl,rfl,rfl⟩:=h;exact heq
 ·simp at h
def Zu{n:Nat}{p:Nat×List DV}(h:V5 sg i n=some p):sg[i]?=some (.P9 n p.1 p.2):=by
 unfold V5 at h;split at h
 ·split at h
  ·rename_i heq hn;simp only[D8]at h;subst h hn;exact heq
  ·cases h
 ·simp at h
def A1V{p:Bool×List (DV×DV)}(h:Q5 sg i=some p):sg[i]?=some (.map p.1 p.2):=by
 unfold Q5 at h;split at h
 ·simp only[D8]at h;subst h;assumption
 ·simp at h
def CE(Rl:L6 E st a w.heap){ob:E5}(h:st.sg[i]?=some ob):i<E.n:=by rw[<- Rl.n];exact(z0q.1 h).1
def Qd{α : Type}{l cs:List α}{o:Nat}(h:o+cs.length<=l.length)(j:Nat):(FC l o cs)[j]?=if o<=j/\j<o+cs.length then cs[j-o]? else l[j]?:=by
 unfold FC;by_cases h1:j<o
 ·rw[A7 (by omega),zNq,zeq (by simp;omega),z6q h1]
 ·by_cases h2:j<o+cs.length
  ·rw[A9 (by omega),zNq,zcq (by simp;omega),zeq (by simp;omega)];congr 1;simp;omega
  ·rw[A7 (by omega),zcq (by simp;omega),z9q];congr 1;simp;omega
def Mw{α : Type}{l cs:List α}{o:Nat}(h:o+cs.length<=l.length):(FC l o cs).length=l.length:=by unfold FC;simp;omega
def L6.B0m(Rl:L6 E st a w.heap){s n:Nat}(hb:st.bx.getD s none=some cs)(hn:off+n<=cs.length){f:Tag->Tag}(hf:∀T,(∀j,off<=j->j<off+n->T ≠ .sp 1 s j)->f T=T):L6 (E.re f) { st with bx:=st.bx.set s (some (FC cs off (((cs.drop off).take n).map λc:DV×F4=>(c.1,dm c.2)))) } a w.heap:=by
 have G_:f .Q8=.Q8:=hf _ (by simp);have QV:f .other=.other:=hf _ (by simp);have P:Pr (λT=>∃j,off<=j/\j<off+n/\T=.sp 1 s j) E w.heap (E.re f) w.heap:=Pr.re λT hT=>hf T λj h1 h2 h3=>hT ⟨j,h1,h2,h3⟩;have J4:AJ E.S w.heap (E.re f).S w.heap:=Lb G_;have hl:(((cs.drop off).take n).map λc:DV×F4=>(c.1,dm c.2)).length=n:=by simp;omega
 refine⟨Rl.size,Rl.AZ,by simp[Rl.CW],Rl.n,λu v hu=>?_,λs' cs' hs=>?_,λi ob hi=>?_,λb o hb=>?_⟩
 ·exact(Rl.Be u v hu).re G_ QV λb=>hf _ (by simp)
 ·have zt:s<st.bx.length:=by
   rcases zvq s st.bx.length with h1 | h1
   ·exact h1
   ·simp[z1q,znq h1]at hb
  by_cases bX:s=s'
  ·subst bX;simp only[z1q,z7q zt,zAq,D8]at hs;subst hs;obtain⟨cv,T,h1,h2,h3,h4⟩:=Rl.j4 s cs hb;refine⟨cv,T,h1,by rw[Mw (by omega)];exact h2,λo=>?_,λj r v hr hv=>?_⟩
   ·rcases h3 o with h5 | h5
    ·left;simp only[Env.re];rw[h5];exact hf _ (by simp)
    ·exact .inr h5
   ·rw[Qd (by omega),hl]at hr;by_cases hj:off<=j/\j<off+n
    ·rw[A9 hj,zbq,z6q (by omega),z9q,zaq]at hr;obtain⟨c,Mm,rfl⟩:=hr;rw[show off+(j-off)=j by omega]at Mm;obtain⟨a1,a2,a3,a4⟩:=h4 j c v Mm hv;have a5:M4 E w.heap .other c.1 (dm c.2) v:=a4.Bc a3;exact⟨a1,a2,(Su.Bc a3).2.1,(a5.re G_ QV:M4 (E.re f) w.heap .other c.1 (dm c.2) v).tag (RD (Su.Bc a3).2.1 (Su.Bc a3).2.2)⟩
    ·rw[A7 hj]at hr;obtain⟨a1,a2,a3,a4⟩:=h4 j r v hr hv;exact⟨a1,a2,a3,a4.re G_ (hf _ λj' q1 q2 he=>by simp only[Tag.sp.injEq,true_and]at he;exact hj (by omega))⟩
  ·simp only[z1q,zdq bX]at hs;have:=Rl.j4 s' cs' (by simpa[z1q]using hs);exact this.mono P J4 (by simp) (by rintro j ⟨j',-,-,h⟩;simp only[Tag.sp.injEq,true_and]at h;exact bX h.1.symm)
 ·exact(Rl.U5 i ob hi).mono P J4 (by rw[<- Rl.n];exact(z0q.1 hi).1) (by simp) (by simp)
 ·simp only[Env.re];rw[Rl.fresh b o hb,QV]
def L6.B13(Rl:L6 E st a w.heap){s:Nat}{c:DV×F4}(hb:st.bx.getD s none=some cs)(Mm:cs[off]?=some c){f:Tag->Tag}(hf:∀T,T ≠ .sp 1 s off->f T=T):L6 (E.re f) { st with bx:=st.bx.set s (some (cs.set off (c.1,dm c.2))) } a w.heap:=by
 have G_:f .Q8=.Q8:=hf _ (by simp);have QV:f .other=.other:=hf _ (by simp);have P:Pr (λT=>T=.sp 1 s off) E w.heap (E.re f) w.heap:=Pr.re λT hT=>hf T hT;have J4:AJ E.S w.heap (E.re f).S w.heap:=Lb G_;refine⟨Rl.size,Rl.AZ,by simp[Rl.CW],Rl.n,λu v hu=>?_,λs' cs' hs=>?_,λi ob hi=>?_,λb o hb=>?_⟩
 ·exact(Rl.Be u v hu).re G_ QV λb=>hf _ (by simp)
 ·have zt:s<st.bx.length:=by
   rcases zvq s st.bx.length with h1 | h1
   ·exact h1
   ·simp[z1q,znq h1]at hb
  by_cases bX:s=s'
  ·subst bX;simp only[z1q,z7q zt,zAq,D8]at hs;subst hs;obtain⟨cv,T,h1,h2,h3,h4⟩:=Rl.j4 s cs hb;refine⟨cv,T,h1,by simpa using h2,λo=>?_,λj r v hr hv=>?_⟩
   ·rcases h3 o with h5 | h5
    ·left;simp only[Env.re];rw[h5];exact hf _ (by simp)
    ·exact .inr h5
   ·by_cases hj:off=j
    ·subst hj;have P6:=(z0q.1 Mm).1;rw[z7q P6]at hr;simp only[D8]at hr;subst hr;obtain⟨a1,a2,a3,a4⟩:=h4 off c v Mm hv;have a5:M4 E w.heap .other c.1 (dm c.2) v:=a4.Bc a3;exact⟨a1,a2,(Su.Bc a3).2.1,(a5.re G_ QV:M4 (E.re f) w.heap .other c.1 (dm c.2) v).tag (RD (Su.Bc a3).2.1 (Su.Bc a3).2.2)⟩
    ·rw[zdq hj]at hr;obtain⟨a1,a2,a3,a4⟩:=h4 j r v hr hv;exact⟨a1,a2,a3,a4.re G_ (hf _ (by simp;exact λh=>hj h.symm))⟩
  ·simp only[z1q,zdq bX]at hs;have:=Rl.j4 s' cs' (by simpa[z1q]using hs);exact this.mono P J4 (by simp) (by simp;intro h;exact absurd h.symm bX)
 ·exact(Rl.U5 i ob hi).mono P J4 (by rw[<- Rl.n];exact(z0q.1 hi).1) (by simp) (by simp)
 ·simp only[Env.re];rw[Rl.fresh b o hb,QV]
def L6.A8N(Rl:L6 E st a w.heap)(hb:st.sg[i]?=some (.box cs))(Mm:cs[off]?=some (d,m))(hm:m=.full\/m=.own){f:Tag->Tag}(hf:∀T,T ≠ .sp 2 i off->f T=T):L6 (E.re f) { st with sg:=st.sg.set i (.box (cs.set off (d,.val))) } a w.heap:=by
 have G_:f .Q8=.Q8:=hf _ (by simp);have QV:f .other=.other:=hf _ (by simp);have P:Pr (λT=>T=.sp 2 i off) E w.heap (E.re f) w.heap:=Pr.re λT hT=>hf T hT;have J4:AJ E.S w.heap (E.re f).S w.heap:=Lb G_;have Ig:=(z0q.1 hb).1;refine⟨Rl.size,Rl.AZ,Rl.CW,by simpa[Env.re]using Rl.n,λu v hu=>?_,λs' cs' hs=>?_,λi' ob hi=>?_,λb o hb=>?_⟩
 ·exact(Rl.Be u v hu).re G_ QV λb=>hf _ (by simp)
 ·exact(Rl.j4 s' cs' hs).mono P J4 (by simp) (by simp)
 ·by_cases Ce:i=i'
  ·subst Ce;simp only[z7q Ig,D8]at hi;subst hi;obtain⟨cv,T,h1,h2,h3,h4⟩:=Rl.U5 i _ hb;refine⟨cv,T,h1,by simpa using h2,λo=>?_,λj r v hr hv=>?_⟩
   ·rcases h3 o with h5 | h5
    ·left;simp only[Env.re];rw[h5];exact hf _ (by simp)
    ·exact .inr h5
   ·by_cases hj:off=j
    ·subst hj;have P6:=(z0q.1 Mm).1;rw[z7q P6]at hr;simp only[D8]at hr;subst hr;obtain⟨a1,a2,a3,a4⟩:=h4 off _ v Mm hv;have a5:RV E.S w.heap d v:=jF (by rcases hm with h | h<;>simp[h,YO]) a4;exact⟨a1,a2,rfl,a5.mono J4⟩
    ·rw[zdq hj]at hr;obtain⟨a1,a2,a3,a4⟩:=h4 j r v hr hv;exact⟨a1,a2,a3,a4.re G_ (hf _ (by simp;exact λh=>hj h.symm))⟩
  ·simp only[zdq Ce]at hi;exact(Rl.U5 i' ob hi).mono P J4 (CE Rl hi) (by simp) (by simp;intro h;exact absurd h.symm Ce)
 ·simp only[Env.re];rw[Rl.fresh b o hb,QV]
def Env.Er(E:Env):Env :={ E with base:=λi=>if i=E.n then 0 else E.base i,top:=λi=>if i=E.n then 0 else E.top i,Q9:=λi=>if i=E.n then 1 else E.Q9 i,n:=E.n+1 }
def L6.Er(Rl:L6 E st a w.heap){sz:Nat}(hb:st.sg[i]?=some (.box cs))(Mm:cs[off]?=some (.list sz [],.full))(hv:M4 E w.heap (.sp 2 i off) (.list sz []) .full v)(hpos:0<sz):
 L6 E.Er { st with sg:=st.sg.set i (.box (cs.set off (.undef,.P9 st.sg.length 1 sz 0)))++[.P9 1 sz []] } a w.heap/\Pr (λ_=>False) E w.heap E.Er w.heap/\∀tg,M4 E.Er w.heap tg .undef (.P9 st.sg.length 1 sz 0) v:=by
 have hn:=Rl.n;have vE:E.Er.Q9 E.n=1:=A9 rfl;have P1:Pr (λ_=>False) E w.heap E.Er w.heap:=by
  refine⟨z5q _,λ_ _=>X4.refl _ _,λ_ _ _ _=>rfl,Nat.le_succ _,λj hj _=>?_,λ_ _=>rfl,λj hj=>?_⟩
  ·have O9:j≠E.n:=Nat.ne_of_lt hj;refine⟨rfl,?_,?_⟩<;>(show(if _ then _ else _)=_;rw[A7 O9])
  ·have:E.Er.Q9 j=E.Q9 j:=A7 (Nat.ne_of_lt hj);rw[this];exact⟨id,z5q _,λ_=>rfl⟩
 have J4:=P1.Q8 (by simp) Rl.fresh;have key:∀tg,M4 E.Er w.heap tg .undef (.P9 st.sg.length 1 sz 0) v:=by
  intro tg;simp only[M4]at hv ⊢;obtain⟨g1,⟨x,m,rfl⟩,-⟩:=hv;obtain⟨b0,len0,cap0,QW,q1,-,q3,-⟩:=Kg g1;simp only[Value.slice.injEq]at QW;obtain⟨rfl,rfl,rfl⟩:=QW;have hm0:m=0:=by simpa using q1
  subst hm0;exact⟨by rw[hn];exact zDq _,by omega,by rw[hn,vE];exact z5q _,x,0,rfl,z5q _,q3,λh=>by omega,λ_ h=>by omega⟩
 have Ig:=(z0q.1 hb).1;refine⟨⟨Rl.size,Rl.AZ,Rl.CW,by simp[Env.Er,hn],λu v hu=>(Rl.Be u v hu).mono P1 J4 (by simp) (by simp),λs' cs' hs=>(Rl.j4 s' cs' hs).mono P1 J4 (by simp) (by simp),λi' ob hi=>?_,Rl.fresh⟩,P1,key⟩;by_cases P6:i'<st.sg.length
 ·rw[zeq (by simpa using P6)]at hi;by_cases Ce:i=i'
  ·subst Ce;simp only[z7q Ig,D8]at hi;subst hi;obtain⟨cv,T,h1,h2,h3,h4⟩:=(Rl.U5 i _ hb:RO E w.heap i (.box cs)).mono P1 J4 (CE Rl hb) (by simp) (by simp);refine⟨cv,T,h1,by simpa using h2,h3,λj r v' hr Pf=>?_⟩;by_cases hj:off=j
   ·subst hj;have B4y:=(z0q.1 Mm).1;rw[z7q B4y]at hr;simp only[D8]at hr;subst hr;obtain⟨cv0,T0,g1,g2,g3,g4⟩:=Rl.U5 i _ hb;have C0l:E.Er.obj i=E.obj i:=rfl;rw[C0l,g1]at h1;simp only[D8,Obj.cells.injEq]at h1;obtain⟨rfl,-⟩:=h1;obtain⟨a1,a2,a3,a4⟩:=g4 off _ v' Mm Pf;refine⟨rfl,a2,rfl,?_⟩;simp only[M4]at a4 ⊢;obtain⟨k1,⟨x,m,rfl⟩,-⟩:=a4;obtain⟨b0,len0,cap0,QW,q1,-,q3,-⟩:=Kg k1;simp only[Value.slice.injEq]at QW;obtain⟨rfl,rfl,rfl⟩:=QW;have hm0:m=0:=by simpa using q1
    subst hm0;exact⟨by rw[hn];exact zDq _,by omega,by rw[hn,vE];exact z5q _,x,0,rfl,z5q _,q3,λh=>by omega,λ_ h=>by omega⟩
   ·rw[zdq hj]at hr;exact h4 j r v' hr Pf
  ·rw[zdq Ce]at hi;exact(Rl.U5 i' ob hi).mono P1 J4 (CE Rl hi) (by simp) (by simp)
 ·have NL:i'=st.sg.length:=by have:=(z0q.1 hi).1;simp at this;omega
  subst NL;rw[zcq (by simp)]at hi;simp only[zUq,zsq,z2q,D8]at hi;subst hi;simp only[RO];rw[hn];refine⟨vE,by omega,hpos,.inl ⟨trivial,?_⟩⟩;show(if _ then _ else _)=(if _ then _ else _);rw[A9 rfl,A9 rfl]
def Qz(T0:Tag)(t:Nat)(T:Tag):Tag:=if T=T0 then .sp 0 t 0 else T
def ny(s off n t:Nat)(T:Tag):Tag :=
 match T with
 |.sp 1 s' j=>if s'=s/\off<=j/\j<off+n then .sp 0 t (j-off+1)else .sp 1 s' j
 |T=>T
theorem iY{s n t:Nat}{T:Tag}(h:∀j,off<=j->j<off+n->T ≠ .sp 1 s j):ny s off n t T=T:=by
 unfold ny;split
 ·split
  ·rename_i hx;obtain⟨rfl,h1,h2⟩:=hx;exact absurd rfl (h _ h1 h2)
  ·rfl
 ·rfl
def JH{T0:Tag}{t:Nat}{T:Tag}(h:T≠T0):Qz T0 t T=T:=by simp[Qz,h]
def B5f{fl:H8}{t:TypeId}{y:Operand}(F7:o.op=.load t y)(H:Cc C fl o t y st k=some x)(Rl:L6 E st a w.heap)(T:Then E w k x K):Gp C.P o a w K:=by
 unfold Cc at H;obtain⟨r,h1,H⟩:=D6 H;obtain⟨z,hz,H⟩:=D6 H;have e1:=Rl.src h1;have Hq:z.2=false->z.1=1:=by obtain⟨i,d,-,-,-,h4⟩:=Ib hz;exact h4
 split at H
 ·-- a private variable
  rename_i s off hm;rw[hm]at e1;simp only[RR,M4]at e1;obtain⟨cs,hb,H⟩:=D6 H;obtain⟨J4,H⟩:=M5 H;have B:=Rl.j4 s cs hb;obtain⟨vs,l1,l2,l3⟩:=tH B J4;obtain⟨v,g1,g2,g3⟩:=HV (w:=w) hz l1 l2;have V4:=RJ F7 e1.2 g1;by_cases h2:z.2=true
  ·rw[A9 h2]at H;simp only at H;by_cases R8:I8 fl.Q4 o.dst=true
   ·rw[A9 R8]at H;cases hd:o.dst with
    |none=>rw[hd]at R8;simp[I8]at R8
    |some t0=>
      rw[hd]at H;refine Au V4 ?_;rw[hd];refine T (E.re (ny s off z.1 t0)) _ _ w H ((Rl.B0m hb J4 λT hT=>iY hT).put λt1 ht=>?_) (Pr.re λT hT=>iY λj _ _ he=>hT (by rw[he];simp[P8]));simp only[D8]at ht;subst ht;rw[g2 h2];simp only[RR];refine⟨_,_,rfl,rfl,by simp,by simp;omega,λi m d v e1 e2 e3=>?_⟩;simp only[zbq,zaq]at e1 e2;obtain⟨r1,q1,rfl⟩:=e1;obtain⟨r2,q2,rfl⟩:=e2;rw[q1]at q2;simp only[D8]at q2;subst q2;have hi:i<z.1:=by have:=(z0q.1 q1).1;simp only[zgq]at this;omega
      rw[z6q hi,z9q]at q1;obtain⟨a1,a2,a3,a4⟩:=l3 i v r1 (by simpa using e3) q1;exact⟨a1,a2,a3,a4.re (iY (by simp)) (by simp[ny,hi])⟩
   rw[A7 R8]at H;refine X3 V4 H Rl (λt0 _=>?_) @T;rw[g2 h2];have C04:((cs.drop off).take z.1).length=z.1:=by simp only[zgq,zjq];omega
   have B0T:∀(j:Nat) v r,vs[j]?=some v->((cs.drop off).take z.1)[j]?=some r->M8 r.1=true/\v.oneCell'=true/\Z0 r.2=true/\∃tg,M4 E w.heap tg r.1 r.2 v:=by
    intro j v r hv hr;have hj:j<z.1:=by have:=(z0q.1 hr).1;omega
    rw[z6q hj,z9q]at hr;obtain⟨a1,a2,a3,a4⟩:=l3 j v r hv hr;exact⟨a1,a2,a3,_,a4⟩
   split
   ·refine zM (by simp only[zTq];omega) (λj v r hv hr=>?_) 0 t0;simp only[zbq,zaq]at hr;obtain⟨r0,VR,rfl⟩:=hr;obtain⟨a1,a2,a3,tg,a4⟩:=B0T j v r0 hv VR;exact A8H a1 a2 a3 a4
   ·exact zM (by omega) B0T 0 t0
  ·rw[A7 h2]at H;have hv:=g3 (by simpa using h2);subst hv;have P6:off<cs.length:=by have:=Hq (by simpa using h2);omega
   have Gz:cs[off]?=some (cs.getD off (.undef,.val)):=by simp[z1q,z3q P6]
   obtain⟨a1,a2,a3,a4⟩:=l3 0 v _ rfl (by simpa using Gz);simp only[zkq]at a4;split at H
   ·cases hd:o.dst with
    |none=>rename_i R8;rw[hd]at R8;simp[I8]at R8
    |some t0=>rw[hd]at H;refine Au V4 ?_;rw[hd];refine T (E.re (Qz (.sp 1 s off) t0)) _ _ w H ((Rl.B13 hb Gz λT hT=>JH hT).put λt1 ht=>?_) (Pr.re λT hT=>JH λhe=>hT (by rw[he];simp[P8]));simp only[D8]at ht;subst ht;exact RR.AL (a4.re (JH (by simp)) (by simp[Qz]))
   ·exact X3 V4 H Rl (λ_ _=>RR.AL (a4.Bc a3)) @T
 ·-- an element
  rename_i ag sz off hm;rw[hm]at e1;simp only[RR,M4]at e1;obtain⟨b,o0,r1,⟨us,u1,u2,u3⟩,r3⟩:=e1;obtain⟨J4,H⟩:=M5 H;have l2:∀(j:Nat) v,((us.drop off).take z.1)[j]?=some v->hc w.heap b (o0+off+j)=some v:=by
   intro j v hv;have hj:j<z.1:=by have:=(z0q.1 hv).1;simp only[zgq,zjq]at this;omega
   rw[z6q hj,z9q]at hv;rw[zmq];exact(u2 _ v hv).1
  obtain⟨v,g1,g2,g3⟩:=HV (w:=w) hz (vs:=(us.drop off).take z.1) (by simp only[zgq,zjq];omega) l2;have V4:=RJ F7 r1 g1;by_cases h2:z.2=true
  ·rw[A9 h2]at H;obtain⟨hag,H⟩:=H6 H;refine Ag V4 H Rl ?_ @T;rw[g2 h2];simp only[RV];exact⟨_,rfl,tJ u3 (by omega)⟩
  ·rw[A7 h2]at H;have hv:=g3 (by simpa using h2);have P6:off<us.length:=by have:=Hq (by simpa using h2);omega
   have kY:us[off]?=some v:=by have:=congrArg (λl:List Value=>l[0]?) hv;simp only[z2q]at this;rw[z6q (by have:=Hq (by simpa using h2);omega),z9q,zkq]at this;exact this
   refine Ag V4 H Rl ?_ @T;split
   ·obtain⟨q1,q2⟩:=Oa u3 kY;exact P_ q1 q2
   ·rename_i hag;have hl:=r3 (by simpa using hag);obtain⟨u,rfl⟩:=MZ hl u3;have Wy:off=0:=by simp at P6;omega
    subst Wy;simp only[z2q,D8]at kY;subst kY;exact P_ hl u3
 ·-- a shared variable
  rename_i i off hm;rw[hm]at e1;simp only[RR,M4]at e1;obtain⟨cs,hb,H⟩:=D6 H;have hb:=Zr hb;have B:=Rl.U5 i _ hb;simp only[RO]at B;have one:∀(n:Nat) c,cs[n]?=some c->n<cs.length:=λn c hc=>(z0q.1 hc).1;by_cases h2:z.2=true
  ·rw[A9 h2]at H;obtain⟨hz0,H⟩:=H6 H;obtain⟨ds,ZH,H⟩:=D6 H;obtain⟨d1,d2⟩:=yz ZH;have C03:z.1≠0:=by simpa using hz0
   have J4:off+z.1<=cs.length:=by have:=d2 (z.1-1) _ (z3q (by omega));obtain⟨m,hm,-⟩:=aY this;have:=one _ _ hm;omega
   obtain⟨vs,l1,l2,l3⟩:=tH B J4;obtain⟨v,g1,g2,g3⟩:=HV (w:=w) hz l1 l2;refine Ag (RJ F7 e1.2 g1) H Rl ?_ @T;rw[g2 h2];simp only[RV];refine⟨_,rfl,CS.2 ⟨by simp only[d1];omega,λj d v hd hv=>?_⟩⟩;obtain⟨m,hcm,hm⟩:=aY (d2 j d hd);obtain⟨a1,a2,a3,a4⟩:=l3 j v _ (by simpa using hv) hcm;exact⟨a1,NW a1 a2 (jF hm a4)⟩
  ·rw[A7 h2]at H;have oF:=Hq (by simpa using h2);have fin:∀c,cs[off]?=some c->∃v,(execOp a.eval o).run C.P w=.ok (.value v) w/\M8 c.1=true/\v.oneCell'=true/\Z0 c.2=true/\M4 E w.heap (.sp 2 i off) c.1 c.2 v:=by
    intro c hc;have J4:off+z.1<=cs.length:=by have:=one _ _ hc;omega
    obtain⟨vs,l1,l2,l3⟩:=tH B J4;obtain⟨v,g1,g2,g3⟩:=HV (w:=w) hz l1 l2;have hv:=g3 (by simpa using h2);subst hv;exact⟨v,RJ F7 e1.2 g1,by simpa using l3 0 v c rfl (by simpa using hc)⟩
   split at H
   ·obtain⟨j,hj,H⟩:=D6 H;unfold Bn at hj;split at hj<;>simp only[D8,reduceCtorEq]at hj;rename_i hc;subst hj;obtain⟨v,f1,f2,f3,f4,f5⟩:=fin _ hc;exact X3 f1 H Rl (λ_ _=>RR.AL (by simp only[M4]at f5 ⊢;exact f5)) @T
   ·obtain⟨j,hj,H⟩:=D6 H;unfold X8 at hj;split at hj<;>simp only[D8,reduceCtorEq]at hj;rename_i hc;subst hj;obtain⟨v,f1,f2,f3,f4,f5⟩:=fin _ hc;exact X3 f1 H Rl (λ_ _=>RR.AL (by simp only[M4]at f5 ⊢;exact f5)) @T
   ·by_cases QU:I8 fl.Oy o.dst=true
    ·rw[A9 QU]at H;obtain⟨e,he,H⟩:=D6 H;obtain⟨ze,OU,H⟩:=D6 H;obtain⟨q,hq,H⟩:=D6 H;unfold Qw at hq;split at hq<;>try cases hq
     rename_i hc;obtain⟨QY,VQ⟩:=M5 hq;subst QY;simp only[D8]at VQ;subst VQ;obtain⟨v,f1,f2,f3,f4,f5⟩:=fin _ hc;exact X3 f1 H Rl (λ_ _=>RR.AL (by simp only[M4]at f5 ⊢;exact f5)) @T
    rw[A7 QU]at H;by_cases hvr:I8 fl.PK o.dst=true
    ·rw[A9 hvr]at H;obtain⟨e,he,H⟩:=D6 H;obtain⟨ze,OU,H⟩:=D6 H;obtain⟨q,hq,H⟩:=D6 H;unfold Ao at hq;split at hq<;>try cases hq
     rename_i hc;obtain⟨QY,VQ⟩:=M5 hq;subst QY;simp only[D8]at VQ;subst VQ;obtain⟨v,f1,f2,f3,f4,f5⟩:=fin _ hc;exact X3 f1 H Rl (λ_ _=>RR.AL (by simp only[M4]at f5 ⊢;exact f5)) @T
    rw[A7 hvr]at H;by_cases Ph:I8 fl.Dn o.dst=true
    ·rw[A9 Ph]at H;obtain⟨e,he,H⟩:=D6 H;obtain⟨ze,OU,H⟩:=D6 H;obtain⟨q,hq,H⟩:=D6 H;unfold B1N at hq;split at hq
     ·rename_i d0 j n sz' len hc;obtain⟨QY,VQ⟩:=M5 hq;subst QY;simp only[D8]at VQ;subst VQ;obtain⟨v,f1,f2,f3,f4,f5⟩:=fin _ hc;exact X3 f1 H Rl (λ_ _=>RR.AL (by simp only[M4]at f5 ⊢;exact f5)) @T
     ·rename_i sz' hc;obtain⟨⟨QY,hpos⟩,VQ⟩:=M5 hq;subst QY;simp only[D8]at VQ;subst VQ;obtain⟨v,f1,f2,f3,f4,f5⟩:=fin _ hc;obtain⟨R1,P1,R2⟩:=Rl.Er hb hc f5 hpos;exact Au f1 (T (E.Er) _ _ w H (R1.put λt1 _=>RR.AL (R2 _)) (P1.j6 (by simp)))
     ·cases hq
    ·rw[A7 Ph]at H;by_cases R8:I8 fl.Q4 o.dst=true
     ·rw[A9 R8]at H;obtain⟨d,hd,H⟩:=D6 H;have hc:∃m,cs[off]?=some (d,m)/\(m=.full\/m=.own):=by
       unfold wQ at hd;split at hd<;>simp only[D8,reduceCtorEq]at hd<;>subst hd
       ·exact⟨_,‹_›,.inl rfl⟩
       ·exact⟨_,‹_›,.inr rfl⟩
      obtain⟨m,hc,hm⟩:=hc;obtain⟨v,f1,f2,f3,f4,f5⟩:=fin _ hc;cases EO:o.dst with
      |none=>rw[EO]at R8;simp[I8]at R8
      |some t0=>
        rw[EO]at H;refine Au f1 ?_;rw[EO];refine T (E.re (Qz (.sp 2 i off) t0)) _ _ w H ((Rl.A8N hb hc hm λT hT=>JH hT).put λt1 ht=>?_) (Pr.re λT hT=>JH λhe=>hT (by rw[he];simp[P8]));simp only[D8]at ht;subst ht;have f6:M4 (E.re (Qz (.sp 2 i off) t0)) w.heap (.sp 0 t0 0) d m v:=f5.re (JH (by simp)) (by simp[Qz]);rcases hm with rfl | rfl
        ·-- a slice that ends where its memory does owns what lies behind: nothing
         exact RR.AL f6.nu
        ·exact RR.AL f6
     ·rw[A7 R8]at H;obtain⟨d,hd,H⟩:=D6 H;obtain⟨m,hc,hm⟩:=aY hd;obtain⟨v,f1,f2,f3,f4,f5⟩:=fin _ hc;exact Ag f1 H Rl (jF hm f5) @T
 ·-- an element of a writable array
  rename_i i sz idx off hm;rw[hm]at e1;simp only[RR,M4]at e1;obtain⟨p,hp,H⟩:=D6 H;obtain⟨d,hd,H⟩:=D6 H;obtain⟨Cz,H⟩:=H6 H;obtain⟨J4,H⟩:=M5 H;have hp:=pK hp;have Cz:p.1=sz:=by simpa using Cz
  rw[Cz]at hp;have B:=Rl.U5 i _ hp;simp only[RO]at B;have hne:p.2≠[]:=by intro h;rw[h]at hd;simp at hd
  obtain⟨c,TT,b1,b2,b3,b4,b5⟩:=B hne;obtain⟨us,u1,u2,u3⟩:=b5 idx d hd;have l2:∀(j:Nat) v,((us.drop off).take z.1)[j]?=some v->hc w.heap (E.obj i) (E.base i+idx * sz+off+j)=some v:=by
   intro j v hv;have hj:j<z.1:=by have:=(z0q.1 hv).1;simp only[zgq,zjq]at this;omega
   rw[z6q hj,z9q]at hv;rw[zmq];unfold hc;rw[b1];exact u2 _ v hv
  obtain⟨v,g1,g2,g3⟩:=HV (w:=w) hz (vs:=(us.drop off).take z.1) (by simp only[zgq,zjq];omega) l2;have V4:=RJ F7 e1.2 g1;by_cases h2:z.2=true
  ·rw[A9 h2]at H;refine Ag V4 H Rl ?_ @T;rw[g2 h2];simp only[RV];exact⟨_,rfl,tJ u3 (by omega)⟩
  ·rw[A7 h2]at H;have hv:=g3 (by simpa using h2);have oF:=Hq (by simpa using h2);have kY:us[off]?=some v:=by have:=congrArg (λl:List Value=>l[0]?) hv;simp only[z2q]at this;rw[z6q (by omega),z9q,zkq]at this;exact this
   split at H
   ·obtain⟨hl,H⟩:=H6 H;refine Ag V4 H Rl ?_ @T;obtain⟨u,rfl⟩:=MZ hl u3;have Wy:off=0:=by have:=(z0q.1 kY).1;simp at this;omega
    subst Wy;simp only[z2q,D8]at kY;subst kY;exact P_ hl u3
   ·refine Ag V4 H Rl ?_ @T;obtain⟨q1,q2⟩:=Oa u3 kY;exact P_ q1 q2
 ·-- an element of a vector
  rename_i i n sz idx off hm;rw[hm]at e1;simp only[RR,M4]at e1;obtain⟨p,hp,H⟩:=D6 H;obtain⟨d,hd,H⟩:=D6 H;obtain⟨Cz,H⟩:=H6 H;obtain⟨J4,H⟩:=M5 H;have hp:=Zu hp;have Cz:p.1=sz:=by simpa using Cz
  rw[Cz]at hp;have B:=Rl.U5 i _ hp;simp only[RO]at B;obtain⟨bv,b0,b3,B⟩:=B;have hne:p.2≠[]:=by intro h;rw[h]at hd;simp at hd
  obtain⟨c,TT,ff,b1,b2,b2',b4,b5⟩:=B.resolve_left λh=>hne h.1;obtain⟨-,-,-,eb,ep,ev,ex⟩:=e1;obtain⟨rfl,rfl⟩:=ex bv;obtain⟨us,u1,u2,u3⟩:=b5 idx d hd;have l2:∀(j:Nat) v,((us.drop off).take z.1)[j]?=some v->hc w.heap (E.obj i) (E.base i+idx * sz+off+j)=some v:=by
   intro j v hv;have hj:j<z.1:=by have:=(z0q.1 hv).1;simp only[zgq,zjq]at this;omega
   rw[z6q hj,z9q]at hv;rw[zmq];unfold hc;rw[b1];exact u2 _ v hv
  obtain⟨v,g1,g2,g3⟩:=HV (w:=w) hz (vs:=(us.drop off).take z.1) (by simp only[zgq,zjq];omega) l2;have V4:=RJ F7 ev g1;by_cases h2:z.2=true
  ·rw[A9 h2]at H;refine Ag V4 H Rl ?_ @T;rw[g2 h2];simp only[RV];exact⟨_,rfl,tJ u3 (by omega)⟩
  ·rw[A7 h2]at H;have hv:=g3 (by simpa using h2);have oF:=Hq (by simpa using h2);have kY:us[off]?=some v:=by have:=congrArg (λl:List Value=>l[0]?) hv;simp only[z2q]at this;rw[z6q (by omega),z9q,zkq]at this;exact this
   split at H
   ·obtain⟨hl,H⟩:=H6 H;refine Ag V4 H Rl ?_ @T;obtain⟨u,rfl⟩:=MZ hl u3;have Wy:off=0:=by have:=(z0q.1 kY).1;simp at this;omega
    subst Wy;simp only[z2q,D8]at kY;subst kY;exact P_ hl u3
   ·refine Ag V4 H Rl ?_ @T;obtain⟨q1,q2⟩:=Oa u3 kY;exact P_ q1 q2
 ·simp at H
end
end
section
variable {h:Heap}{ob:Obj}
def B40{b:Nat}(hb:b<h.size):(h.push ob)[b]?=h[b]?:=by rw[Array.getElem?_push_lt hb,zpq hb]
def Jv:(h.push ob)[h.size]?=some ob:=by simp
variable {E:Env}
def Pr.push{ch:Tag->Prop}{E':Env}(ht:∀b o,b<h.size->¬ch (E.O b o)->E'.O b o=E.O b o)(hn:E.n<=E'.n)(ho:∀i,i<E.n->E'.Q9 i=E.Q9 i->E'.obj i=E.obj i/\E'.base i=E.base i/\E'.top i=E.top i)(hb:∀s,¬ch (.TR s)->E'.blk s=E.blk s)(hv:A45 ch E E'):Pr ch E h E' (h.push ob) :=⟨by simp,λb P6=>by rw[B40 P6];exact X4.refl _ _,ht,hn,ho,hb,hv⟩
def kU{c:Array Value}{T:TypeId}{f:Nat×Nat}(o:Nat):hc (h.push (.cells c T f)) h.size o=c[o]?:=by unfold hc;rw[Jv]
def yg{d:DV}(h:I9 d=true):M8 d=true:=by cases d<;>simp_all[I9,M8]
variable {v:Value}
def A1t{S:AY}{d:DV}(hc:I9 d=true)(H:RV S h d v):v.oneCell'=true:=by
 cases d<;>simp only[I9]at hc<;>try contradiction
 ·rw[CO]at H;subst H;rfl
 ·rw[Ob]at H;subst H;rfl
 ·rw[Xt]at H;subst H;rfl
 ·obtain⟨a,len,cap,rfl,-⟩:=Kg H;rfl
 ·simp only[RV]at H;subst H;rfl
 ·rename_i sz d;exact Jm (d:=.Vi sz d) rfl (by simpa only[RV]using H)
variable (E:Env)(h:Heap)
def EJ(tg:Tag)(r:DV×F4)(v:Value):Prop :=M8 r.1=true/\v.oneCell'=true/\Z0 r.2=true/\M4 E h tg r.1 r.2 v
variable {X:Type}{E:Env}{h:Heap}{x:X}
def Xv{k a:Nat}{r:DV×F4}{K:DV×F4->Option X}(R:RR E h k a r.1 r.2 v)(H:cellOf r K=some x):
 ∃c,K c=some x/\c.2=r.2/\EJ E h (.sp k a 0) c v:=by
 unfold cellOf at H;split at H
 ·rename_i hm;rw[hm]at R;obtain⟨hc,H⟩:=H6 H;exact⟨_,H,hm.symm,yg hc,A1t hc R,rfl,R⟩
 ·rename_i hm;rw[hm]at R;simp only[RR,M4]at R;obtain⟨r1,⟨p,n,rfl⟩,sz,ds,r2⟩:=R;exact⟨_,H,hm.symm,by rw[r2];rfl,rfl,rfl,r1,⟨_,_,rfl⟩,_,_,r2⟩
 ·rename_i hm;rw[hm]at R;simp only[RR,M4]at R;obtain⟨r1,sz,ds,r2,r3⟩:=R;refine⟨_,H,hm.symm,by rw[r2];rfl,?_,rfl,r1,sz,ds,r2,r3⟩;rw[r2]at r1;obtain⟨a,len,cap,rfl,-⟩:=Kg r1;rfl
 ·rename_i hm;rw[hm]at R;obtain⟨-,rfl⟩:=(R:_/\_);exact⟨_,H,hm.symm,rfl,rfl,rfl,rfl,rfl⟩
 ·rename_i i n sz hm;rw[hm]at R;obtain⟨r1,⟨ds,r2⟩,r3⟩:=(R:M4 E h _ r.1 (.U0 i n sz) v);rw[r2]at r1;obtain⟨a,len,cap,hv,-⟩:=Kg r1;refine⟨_,H,hm.symm,by rw[r2];rfl,by rw[hv];rfl,rfl,?_⟩;exact⟨by rw[r2];exact r1,⟨ds,r2⟩,r3⟩
 ·rename_i nz;obtain⟨hm,H⟩:=H6 H;refine⟨_,H,rfl,?_⟩;have n0:∀i n sz,r.2 ≠ .U0 i n sz:=nz;clear nz;have n1:r.2 ≠ .val:=by intro h;simp_all
  have n2:r.2 ≠ .full:=by intro h;simp_all
  have n3:r.2 ≠ .own:=by intro h;simp_all
  have n4:r.2 ≠ .KX:=by intro h;simp_all
  revert R hm n0 n1 n2 n3 n4;generalize r.2=m;intro R hm n0 n1 n2 n3 n4;cases m<;>simp only[Z0]at hm<;>simp only[RR,M4]at R<;>try contradiction
  case ptr i o=>obtain⟨r1,rfl⟩:=R;exact⟨rfl,rfl,rfl,r1,rfl⟩
  case map i=>obtain⟨r1,rfl⟩:=R;exact⟨rfl,rfl,rfl,r1,rfl⟩
  case Rz=>subst R;exact⟨rfl,rfl,rfl,rfl⟩
  case arr i sz off len=>obtain⟨r1,p,cap,rfl,r2⟩:=R;exact⟨rfl,rfl,rfl,r1,_,_,rfl,r2⟩
  case P9 i n sz len=>obtain⟨r1,r2,r3,p,cap,rfl,r4⟩:=R;exact⟨rfl,rfl,rfl,r1,r2,r3,_,_,rfl,r4⟩
  case fn f caps=>obtain⟨rfl,r2⟩:=R;exact⟨rfl,rfl,rfl,rfl,r2⟩
  case U0 i n sz=>exact absurd rfl (n0 i n sz)
def H_(E:Env)(h:Heap)(cs:List (DV×F4))(vs:List Value):Prop :=cs.length=vs.length/\∀(j:Nat) r v,cs[j]?=some r->vs[j]?=some v->EJ E h .other r v/\r.2 ≠ .own
def A8a:∀{ds:List DV}{ms:List F4}{j:Nat}{r:DV×F4},(qG ds ms)[j]?=some r->ds[j]?=some r.1/\ms[j]?=some r.2
 |d::ds,m::ms,0,r,h=>by simp only[qG,z2q,D8]at h;subst h;simp
 |d::ds,m::ms,j+1,r,h=>by simp only[qG,zfq]at h ⊢;exact A8a h
 |[],ms,j,r,h=>by simp[qG]at h
 |d::ds,[],j,r,h=>by simp[qG]at h
theorem i_:∀{ds:List DV}{ms:List F4},ds.length=ms.length->(qG ds ms).length=ds.length
 |d::ds,m::ms,h=>by simp only[qG,zGq];rw[i_ (by simpa using h)]
 |[],[],_=>rfl
def Mf(n o:Nat)(d:DV):(cells n o d).length=n:=by simp[cells]
def A3o{n o j:Nat}{d e:DV}(h:(cells n o d)[j]?=some e):j<n/\e=C8 (o+j) d:=by
 have hj:j<n:=by have:=(z0q.1 h).1;simpa[cells]using this
 simp only[cells,zbq,zJq hj,zoq,D8]at h;exact⟨hj,h.symm⟩
def A0y(E:Env)(h:Heap)(k a:Nat)(cs:List (DV×F4))(vs:List Value):Prop :=cs.length=vs.length/\∀(j:Nat) r v,cs[j]?=some r->vs[j]?=some v->EJ E h (.sp k a (j+1)) r v
def EJ.strip{tg tg':Tag}{r:DV×F4}(H:EJ E h tg r v):EJ E h tg' (r.1,dm r.2) v/\dm r.2 ≠ .own :=⟨⟨H.1,H.2.1,(Su.Bc H.2.2.1).2.1,H.2.2.2.Bc H.2.2.1⟩,(Su.Bc H.2.2.1).2.2⟩
variable {cs:List (DV×F4)}{vs:List Value}
def A0y.strip{k a:Nat}(H:A0y E h k a cs vs):H_ E h (cs.map λc=>(c.1,dm c.2)) vs:=by refine⟨by simpa using H.1,λj r v hr hv=>?_⟩;simp only[zbq,zaq]at hr;obtain⟨c,hc,rfl⟩:=hr;exact(H.2 j c v hc hv).strip
def A3n{z:Nat}{k a:Nat}{r:DV×F4}(R:RR E h k a r.1 r.2 v)(hg:I5 z r.1=true)(IU:jM z r=some cs):
 cs.length=z/\A0y E h k a cs v.cells.toList:=by
 unfold jM at IU;split at IU
 ·rename_i hm;simp only[D8]at IU;subst IU;rw[hm]at R;obtain⟨vs,rfl,Cz,hR⟩:=tK hg R;refine⟨by simp[Mf],by simp[Mf,Value.cells,Cz],λj r' u hr hu=>?_⟩;simp only[zbq,zaq]at hr;obtain⟨d,hd,rfl⟩:=hr;obtain⟨hj,rfl⟩:=A3o hd;obtain⟨q1,q2⟩:=Oa hR (j:=0+j) (v:=u) (by simpa[Value.cells]using hu);exact⟨q1,Jm q1 q2,rfl,P_ q1 q2⟩
 ·rename_i ms hm;obtain⟨hl,IU⟩:=M5 IU;simp only[D8]at IU;subst IU;rw[hm]at R;simp only[RR]at R;obtain⟨ds,vs,hd,rfl,l1,l2,l3⟩:=R;refine⟨by rw[i_ (by rw[Mf,hl])];exact Mf _ _ _,by rw[i_ (by rw[Mf,hl]),Mf];simp[Value.cells];omega,λj r' u hr hu=>?_⟩;obtain⟨hr1,hr2⟩:=A8a hr;obtain⟨hj,hr1⟩:=A3o hr1;have P6:j<ds.length:=by omega
  have hdj:ds[j]?=some r'.1:=by rw[hr1,hd];simp[C8,z1q,z3q P6]
  obtain⟨a1,a2,a4,a5⟩:=l3 j r'.2 r'.1 u hr2 hdj (by simpa[Value.cells]using hu);exact⟨a1,a2,a4,a5⟩
 ·simp at IU
variable {P:Program}{t:TypeId}
def Za{z:Nat×Bool}(hz:tz P t=some z){k a:Nat}{r:DV×F4}{K:List (DV×F4)->Option X}(R:RR E h k a r.1 r.2 v)(H:IQ P t r K=some x):
 ∃cs,K cs=some x/\cs.length=z.1/\H_ E h cs v.cells.toList:=by
 unfold IQ at H;obtain⟨z',QY,H⟩:=D6 H;rw[hz]at QY;simp only[D8]at QY;subst QY;split at H
 ·obtain⟨hg,H⟩:=H6 H;obtain⟨cs,IU,H⟩:=D6 H;obtain⟨l1,l2⟩:=A3n R hg IU;exact⟨_,H,by simpa using l1,l2.strip⟩
 ·rename_i ut;obtain⟨c,H,hm,Ak⟩:=Xv R H;have Hq:z.1=1:=by obtain⟨i,d,-,-,-,h4⟩:=Ib hz;exact h4 (by simpa using ut)
  have hv:v.cells=#[v]:=by have:=Ak.2.1;cases v<;>first | rfl | (simp[Value.oneCell']at this)
  refine⟨_,H,Hq.symm,by simp[hv],λj r' u hr hu=>?_⟩;rw[hv]at hu;cases j with
  |succ j=>simp at hr
  |zero=>simp only[z2q,D8]at hr hu;subst hr hu;exact Ak.strip
def A5z{n:Nat}{r:DV×F4}(h:jM n r=some cs)(hr:∀ms,r.2 ≠ .EZ ms):∀c∈cs,c.2 ≠ .own:=by
 unfold jM at h;split at h
 ·simp only[D8]at h;subst h;intro c hc;obtain⟨d,-,rfl⟩:=List.mem_map.1 hc;simp
 ·rename_i ms hm;exact absurd hm (hr ms)
 ·cases h
def yL{z:Nat×Bool}(hz:tz P t=some z){k a:Nat}{r:DV×F4}{K:List (DV×F4)->Option X}(R:RR E h k a r.1 r.2 v)(H:Jp P t r K=some x):
 ∃cs,K cs=some x/\cs.length=z.1/\A0y E h k a cs v.cells.toList/\((∀ms,r.2 ≠ .EZ ms)->∀c∈cs,c.2 ≠ .own):=by
 unfold Jp at H;obtain⟨z',QY,H⟩:=D6 H;rw[hz]at QY;simp only[D8]at QY;subst QY;split at H
 ·obtain⟨hg,H⟩:=H6 H;obtain⟨cs,IU,H⟩:=D6 H;obtain⟨l1,l2⟩:=A3n R hg IU;exact⟨_,H,l1,l2,A5z IU⟩
 ·rename_i ut;obtain⟨c,H,hm,Ak⟩:=Xv R H;have Hq:z.1=1:=by obtain⟨i,d,-,-,-,h4⟩:=Ib hz;exact h4 (by simpa using ut)
  have hv:v.cells=#[v]:=by have:=Ak.2.1;cases v<;>first | rfl | (simp[Value.oneCell']at this)
  refine⟨_,H,Hq.symm,⟨by simp[hv],λj r' u hr hu=>?_⟩,λ_ c' yX=>by simp only[List.mem_singleton]at yX;subst yX;exact(Su.Bc Ak.2.2.1).2.2⟩;rw[hv]at hu;cases j with
  |succ j=>simp at hr
  |zero=>simp only[z2q,D8]at hr hu;subst hr hu;exact Ak.strip.1
def B7O{r:DV×F4}(H:cst P t v=some r):EJ E h .other r v/\r.2 ≠ .own:=by have R:RR E h 0 0 r.1 r.2 v:=A0Z H 0 0;unfold cst at H;split at H<;>simp only[D8,reduceCtorEq]at H<;>subst H<;>exact⟨⟨rfl,rfl,rfl,R⟩,by simp⟩
def tV{P:Program}{E:Env}{h:Heap}:∀{ts:List TypeId}{vs:List Value}{cs:List (DV×F4)},SL P ts vs=some cs->H_ E h cs vs
 |[],[],cs,H=>by simp only[SL,D8]at H;subst H;exact⟨rfl,by simp⟩
 |[],v::vs,cs,H=>by simp[SL]at H
 |t::ts,[],cs,H=>by simp[SL]at H
 |t::ts,v::vs,cs,H=>by
   simp only[SL]at H;obtain⟨r,hr,H⟩:=D6 H;obtain⟨rs,hrs,H⟩:=D6 H;simp only[D8]at H;subst H;obtain⟨l1,l2⟩:=tV (E:=E) (h:=h) hrs;refine⟨by simp[l1],λj r' u h1 h2=>?_⟩;cases j with
   |zero=>simp only[z2q,D8]at h1 h2;subst h1 h2;exact B7O hr
   |succ j=>simp only[zfq]at h1 h2;exact l2 j r' u h1 h2
def Xb(H:MC P t=some cs):∃i v,P.info? t=some i/\i.zero=some v/\∀E h,H_ E h cs v.cells.toList:=by unfold MC at H;obtain⟨ts,hts,H⟩:=D6 H;obtain⟨i,hi,H⟩:=D6 H;obtain⟨v,hv,H⟩:=D6 H;exact⟨i,v,hi,hv,λE h=>tV H⟩
section
variable {X:Type}{C:BQ}{R:O8}{o:Oper}{st:St}{k:St->Option X}{x:X}{E:Env}{a:Act}{w:World}{K:Act->World->Prop}{Q:Exit->Act->World->Prop}
def Env.Fs(E:Env)(t0 b n:Nat):Env :={ E with blk:=λs=>if s=t0 then b else E.blk s,O:=λb' o=>if b'=b then(if o<n then .TR t0 else .other)else if E.O b' o=.TR t0 then .other else E.O b' o }
def Env.newObj(E:Env)(b n:Nat):Env :={ E with obj:=λi=>if i=E.n then b else E.obj i,base:=λi=>if i=E.n then 0 else E.base i,n:=E.n+1,Q9:=λi=>if i=E.n then 0 else E.Q9 i,O:=λb' o=>if b'=b then(if o<n then .obj E.n else .other)else E.O b' o }
def EJ.mono{ch:Tag->Prop}{E E':Env}{h':Heap}(H:Pr ch E h E' h')(J4:AJ E.S h E'.S h'){r:DV×F4}(hm:r.2 ≠ .own){tg:Tag}(R:EJ E h .other r v):EJ E' h' tg r v:=by obtain⟨a1,a2,a3,a4⟩:=R;exact⟨a1,a2,a3,(a4.mono H J4 (λx=>absurd x (by rw[RD a3 hm];simp)) λs o hl=>by rw[hl]at a3;simp[Z0]at a3).tag (RD a3 hm)⟩
def L6.newObj{T0:TypeId}(hc:H_ E w.heap cs vs)(Rl:L6 E st a w.heap):
 L6 (E.newObj w.heap.size cs.length) { st with sg:=st.sg++[.box cs] } a (w.heap.push (.cells vs.toArray T0))/\Pr (λ_=>False) E w.heap (E.newObj w.heap.size cs.length) (w.heap.push (.cells vs.toArray T0)):=by
 obtain⟨lc,hc⟩:=hc;have P1:Pr (λ_=>False) E w.heap (E.newObj w.heap.size cs.length) (w.heap.push (.cells vs.toArray T0)):=by
  refine Pr.push (λb o hb _=>?_) (by simp[Env.newObj]) (λi hi _=>?_) (λ_ _=>rfl) (XM rfl)
  ·simp only[Env.newObj];rw[A7 (by omega)]
  ·refine⟨?_,?_,rfl⟩<;>simp only[Env.newObj]<;>rw[A7 (by omega)]
 have J4:=P1.Q8 (by simp) Rl.fresh;refine⟨⟨Rl.size,Rl.AZ,Rl.CW,by simp[Env.In,Env.newObj,Rl.n],λt v hv=>(Rl.Be t v hv).mono P1 J4 (by simp) (by simp),λs cs hs=>(Rl.j4 s cs hs).mono P1 J4 (by simp) (by simp),λi ob hi=>?_,λb o hb=>?_⟩,P1⟩
 ·by_cases P6:i<st.sg.length
  ·rw[zeq P6]at hi;exact(Rl.U5 i ob hi).mono P1 J4 (CE Rl hi) (by simp) (by simp)
  ·have NL:i=st.sg.length:=by have:=(z0q.1 hi).1;simp at this;omega
   subst NL;simp only[zcq (z5q _),zsq,z2q,D8]at hi;subst hi;have hn:=Rl.n;refine⟨vs.toArray,T0,?_,by simp[lc],λo=>?_,λj r v hr hv=>?_⟩
   ·simp only[Env.newObj,hn,F6];exact Jv
   ·by_cases ho:o<cs.length
    ·left;simp only[Env.newObj,hn,F6,A9 ho]
    ·right;simp only[zEq];omega
   ·obtain⟨q1,q2⟩:=hc j r v hr (by simpa using hv);exact q1.mono P1 J4 q2
 ·simp only[zxq]at hb;simp only[Env.newObj];rw[A7 (by omega)];exact Rl.fresh b o (by omega)
def L6.Fs{t0:Nat}{T0:TypeId}(lc:cs.length=vs.length)(hc:∀(j:Nat) r v,cs[j]?=some r->vs[j]?=some v->EJ E w.heap (.sp 1 t0 j) r v)(Rl:L6 E st a w.heap):
 L6 (E.Fs t0 w.heap.size cs.length) { st with mt:=st.mt.map (Lj t0),bx:=st.bx.set t0 (some cs) } a (w.heap.push (.cells vs.toArray T0))/\Pr (λT=>T=.TR t0) E w.heap (E.Fs t0 w.heap.size cs.length) (w.heap.push (.cells vs.toArray T0)):=by
 have P1:Pr (λT=>T=.TR t0) E w.heap (E.Fs t0 w.heap.size cs.length) (w.heap.push (.cells vs.toArray T0)):=by
  refine Pr.push (λb o hb hn=>?_) (z5q _) (λi hi _=>⟨rfl,rfl,rfl⟩) (λs hs=>?_) (EA rfl)
  ·simp only[Env.Fs];rw[A7 (by omega),A7 hn]
  ·simp only[Env.Fs];rw[A7 (by simpa using hs)]
 have J4:=P1.Q8 (by simp) Rl.fresh;refine⟨?_,P1⟩
 ·refine⟨Rl.size,by simpa using Rl.AZ,by simpa using Rl.CW,Rl.n,λt v hv=>?_,λs cs' hs=>?_,λi ob hi=>(Rl.U5 i ob hi).mono P1 J4 (CE Rl hi) (by simp) (by simp),λb o hb=>?_⟩
  ·have h0:=Rl.Be t v hv;have hg:(St.get { st with mt:=st.mt.map (Lj t0),bx:=st.bx.set t0 (some cs) } t)=((st.get t).1,Lj t0 (st.get t).2):=by simp only[St.get,z1q,zbq];cases st.mt[t]?<;>rfl
   rw[hg];cases hm:(st.get t).2
   case loc s o=>
    rw[hm]at h0;simp only[RR,M4]at h0;simp only[Lj]
    split
    ·rw[h0.1];simp only[RR,M4,RV]
    ·rename_i hne;refine⟨h0.1,?_⟩;rw[h0.2];simp only[Env.Fs];rw[A7 hne]
   all_goals
    rw[hm]at h0;simp only[Lj];exact h0.mono P1 J4 (by simp) (by simp)
  ·have zt:t0=s->s<st.bx.length:=by
    intro hts;rcases zvq s st.bx.length with h1 | h1
    ·exact h1
    ·simp[z1q,znq (by simpa using h1:(st.bx.set t0 (some cs)).length<=s)]at hs
   by_cases bX:t0=s
   ·subst bX;simp only[z1q,z7q (zt rfl),zAq,D8]at hs;subst hs;refine⟨vs.toArray,T0,?_,by simp[lc],λo=>?_,λj r v hr hv=>?_⟩
    ·simp only[Env.Fs,F6];exact Jv
    ·by_cases ho:o<cs.length
     ·left;simp only[Env.Fs,F6,A9 ho]
     ·right;simp only[zEq];omega
    ·obtain⟨q1,q2,q3,q4⟩:=hc j r v hr (by simpa using hv);exact⟨q1,q2,q3,q4.mono P1 J4 (λ_=>by simp) λs o hl=>by rw[hl]at q3;simp[Z0]at q3⟩
   ·simp only[z1q,zdq bX]at hs;have B:=Rl.j4 s cs' (by simpa[z1q]using hs);have hne:¬s=t0:=λh=>bX h.symm;have:=B.mono P1 J4 (tg:=.TR s) (by simpa using hne) (by simp);simp only[Env.Fs]at this ⊢;rw[A7 hne];exact this
  ·simp only[zxq]at hb;simp only[Env.Fs];rw[A7 (by omega)];have:=Rl.fresh b o (by omega);rw[this];simp
def A1F{sh:Bool}{T0:TypeId}(hc:H_ E w.heap cs vs)(H:k (st.FX sh o.dst cs)=some x)(hr:(execOp a.eval o).run C.P w=.ok (.value (.pointer (some ⟨w.heap.size,0,none⟩))) (w.alloc (.cells vs.toArray T0)))(Rl:L6 E st a w.heap)(T:Then E w k x K):Gp C.P o a w K:=by
 refine Au hr ?_;obtain⟨lc,hc⟩:=hc;cases hd:o.dst with
 |none=>rw[hd]at H;simp only[St.FX]at H;have P1:Pr (λ_=>False) E w.heap E (w.heap.push (.cells vs.toArray T0)):=Pr.push (λ_ _ _ _=>rfl) (z5q _) (λ_ _ _=>⟨rfl,rfl,rfl⟩) (λ_ _=>rfl) (EA rfl);have J4:=P1.Q8 (by simp) Rl.fresh;refine T E st _ (w.alloc (.cells vs.toArray T0)) H ?_ (P1.j6 (by simp));exact⟨Rl.size,Rl.AZ,Rl.CW,Rl.n,λt v hv=>(Rl.Be t v hv).mono P1 J4 (by simp) (by simp),λs cs hs=>(Rl.j4 s cs hs).mono P1 J4 (by simp) (by simp),λi ob hi=>(Rl.U5 i ob hi).mono P1 J4 (CE Rl hi) (by simp) (by simp),λb o hb=>Rl.fresh b o (by simp at hb;omega)⟩
 |some t0=>
   rw[hd]at H;cases sh with
   |true=>
     simp only[St.FX,F6]at H;have P1:Pr (λ_=>False) E w.heap (E.newObj w.heap.size cs.length) (w.heap.push (.cells vs.toArray T0)):=by
      refine Pr.push (λb o hb _=>?_) (by simp[Env.newObj]) (λi hi _=>?_) (λ_ _=>rfl) (XM rfl)
      ·simp only[Env.newObj];rw[A7 (by omega)]
      ·refine⟨?_,?_,rfl⟩<;>simp only[Env.newObj]<;>rw[A7 (by omega)]
     have J4:=P1.Q8 (by simp) Rl.fresh;have R1:L6 (E.newObj w.heap.size cs.length) { st with sg:=st.sg++[.box cs] } a (w.heap.push (.cells vs.toArray T0)):=by
      refine⟨Rl.size,Rl.AZ,Rl.CW,by simp[Env.In,Env.newObj,Rl.n],λt v hv=>(Rl.Be t v hv).mono P1 J4 (by simp) (by simp),λs cs hs=>(Rl.j4 s cs hs).mono P1 J4 (by simp) (by simp),λi ob hi=>?_,λb o hb=>?_⟩
      ·by_cases P6:i<st.sg.length
       ·rw[zeq P6]at hi;exact(Rl.U5 i ob hi).mono P1 J4 (CE Rl hi) (by simp) (by simp)
       ·have NL:i=st.sg.length:=by have:=(z0q.1 hi).1;simp at this;omega
        subst NL;simp only[zcq (z5q _),zsq,z2q,D8]at hi;subst hi;have hn:=Rl.n;refine⟨vs.toArray,T0,?_,by simp[lc],λo=>?_,λj r v hr hv=>?_⟩
        ·simp only[Env.newObj,hn,F6];exact Jv
        ·by_cases ho:o<cs.length
         ·left;simp only[Env.newObj,hn,F6,A9 ho]
         ·right;simp only[zEq];omega
        ·obtain⟨q1,q2⟩:=hc j r v hr (by simpa using hv);exact q1.mono P1 J4 q2
      ·simp only[zxq]at hb;simp only[Env.newObj];rw[A7 (by omega)];exact Rl.fresh b o (by omega)
     refine T (E.newObj w.heap.size cs.length) _ _ (w.alloc (.cells vs.toArray T0)) H (R1.put λt1 _=>?_) (P1.j6 (by simp));refine RR.AL ⟨by simp[Env.In,Env.newObj,Rl.n],?_⟩;simp only[Env.newObj,Rl.n,F6]
   |false=>simp only[St.FX,zhq,G9]at H;obtain⟨R1,P1⟩:=Rl.Fs (t0:=t0) (T0:=T0) lc λj r v hr hv=>⟨(hc j r v hr hv).1.1,(hc j r v hr hv).1.2.1,(hc j r v hr hv).1.2.2.1,(hc j r v hr hv).1.2.2.2.tag (RD (hc j r v hr hv).1.2.2.1 (hc j r v hr hv).2)⟩;refine T (E.Fs t0 w.heap.size cs.length) _ _ (w.alloc (.cells vs.toArray T0)) H (R1.put λt1 ht=>?_) (P1.j6 (by rintro T rfl;simp[P8]));simp only[D8]at ht;subst ht;refine RR.AL ⟨rfl,?_⟩;simp only[Env.Fs,F6]
end
end
section
variable (vs:List Value)(off:Nat)
def pq:∀(cells:Array Value)(n:Nat),off+n+vs.length<=cells.size->∀j,
 ((vs.zipIdx n).foldl (λ(cs:Array Value)(p:Value×Nat)=>cs.setIfInBounds (off+p.2) p.1) cells)[j]?=if off+n<=j/\j<off+n+vs.length then vs[j-(off+n)]? else cells[j]?:=by
 induction vs with
 |nil=>intro cells n _ j;simp only[List.zipIdx_nil,List.foldl_nil,List.length_nil,zkq];rw[A7 (by omega)]
 |cons v vs ih=>
   intro cells n hn j;simp only[zQq,List.foldl_cons,zGq]at hn ⊢;rw[ih _ (n+1) (by simp;omega) j];by_cases h1:j=off+n
   ·subst h1;rw[A7 (by omega),A9 (by omega)];simp only[zsq,z2q];rw[zqq (by omega)]
   ·by_cases h2:off+(n+1)<=j/\j<off+(n+1)+vs.length
    ·rw[A9 h2,A9 (by omega)];rw[show j-(off+n)=(j-(off+(n+1)))+1 from by omega,zfq]
    ·rw[A7 h2,A7 (by omega),ztq (Ne.symm h1)]
def zI:∀(cells:Array Value)(n:Nat),((vs.zipIdx n).foldl (λ(cs:Array Value)(p:Value×Nat)=>cs.setIfInBounds (off+p.2) p.1) cells).size=cells.size:=by
 induction vs with
 |nil=>intro cells n;simp
 |cons v vs ih=>intro cells n;simp[zQq,ih]
variable (cells:Array Value)
def splice(off:Nat)(v:Value):Array Value:=v.cells.zipIdx.foldl (λcs (c,j)=>cs.setIfInBounds (off+j) c) cells
def A4c(off:Nat)(v:Value):splice cells off v=(v.cells.toList.zipIdx 0).foldl (λ(cs:Array Value)(p:Value×Nat)=>cs.setIfInBounds (off+p.2) p.1) cells:=by unfold splice;rw[<- Array.foldl_toList];simp
variable {off:Nat}
theorem A3y(place:Nat->Option (Nat×Nat))(cells:Array Value)(i:Nat)(v:Value)(rest:List (Nat×Value)){size:Nat}(h1:place i=some (off,size))(h2:v.cells.size=size)(h3:off+size<=cells.size):
 Instr.fill place cells ((i,v)::rest)=Instr.fill place (splice cells off v) rest:=by
 simp only[Instr.fill,h1];rw[A7 (by simp only[h2,ne_eq,not_true_eq_false,zhq,false_or,T9,Bool.or_eq_true,I6];omega)];rfl
def A6S{α β : Type}{f : α->Option β}:∀{l:List α}{r:List β},l.mapM f=some r->∀(i:Nat) y,l[i]?=some y->∃z,f y=some z/\r[i]?=some z
 |[],r,h,i,y,hy=>by simp at hy
 |u::us,r,h,i,y,hy=>by
   simp only[List.mapM_cons,Option.bind_eq_bind,Option.pure_def,Option.bind_eq_some_iff]at h;obtain⟨z,hz,zs,WT,hr⟩:=h;simp only[D8]at hr;subst hr;cases i with
   |zero=>simp only[z2q,D8]at hy;subst hy;exact⟨z,hz,rfl⟩
   |succ i=>simp only[zfq]at hy ⊢;exact A6S WT i y hy
section
variable {X:Type}{C:BQ}{R:O8}{o:Oper}{st:St}{k:St->Option X}{x:X}{E:Env}{a:Act}{w:World}{K:Act->World->Prop}{Q:Exit->Act->World->Prop}{h:Heap}{arr:Array Value}{v:Value}
def H_.splice{cs xs:List (DV×F4)}(H:H_ E h cs arr.toList)(G:H_ E h xs v.cells.toList)(J4:off+xs.length<=cs.length):
 H_ E h (FC cs off xs) (Su.splice arr off v).toList:=by
 obtain⟨l1,l2⟩:=H;obtain⟨g1,g2⟩:=G;have l1':cs.length=arr.size:=by simpa using l1
 have g1':xs.length=v.cells.toList.length:=g1;rw[A4c];refine⟨by rw[Mw J4];simp[zI,l1'],λj r u hr hu=>?_⟩;rw[Qd J4]at hr;have Du:=hu;rw[Array.getElem?_toList,pq _ _ _ _ (by omega)]at Du;simp only[zkq]at Du;by_cases hc:off<=j/\j<off+xs.length
 ·rw[A9 hc]at hr;rw[A9 (by omega)]at Du;exact g2 _ r u hr Du
 ·rw[A7 hc]at hr;rw[A7 (by omega)]at Du;exact l2 j r u hr (by simpa using Du)
def qO{t:TypeId}{pl:Nat->Option (Nat×Nat)}(hp:∀i q inf,partAt C.P t i=some q->C.P.info? q.1=some inf->pl i=some (q.2,inf.size))(Rl:L6 E st a w.heap)
 {F:List (DV×F4)->Option X}:∀(ps:List (Nat×Operand))(cs:List (DV×F4))(arr:Array Value),Gw C.P t st ps cs F=some x->H_ E w.heap cs arr.toList->
 ∃cs' arr',F cs'=some x/\Instr.fill pl arr (ps.map λp=>(p.1,a.eval p.2))=some arr'/\H_ E w.heap cs' arr'.toList
 |[],cs,arr,H,G=>⟨cs,arr,H,rfl,G⟩
 | (i,y)::ps,cs,arr,H,G=>by
   simp only[Gw]at H;obtain⟨f,hf,H⟩:=D6 H;obtain⟨r,hr,H⟩:=D6 H;have qm:∃z,tz C.P f.1=some z:=by unfold IQ at H;obtain⟨z,hz,-⟩:=D6 H;exact⟨z,hz⟩
   obtain⟨z,qm⟩:=qm;obtain⟨xs,H,hl,Ak⟩:=Za qm (Rl.src hr) H;obtain⟨J4,H⟩:=M5 H;obtain⟨inf,d',Am,-,h2,-⟩:=Ib qm;have Cz:z.1=inf.size:=by rw[h2]
   have Tx:cs.length=arr.size:=by simpa using G.1
   have QX:(a.eval y).cells.size=inf.size:=by have:=Ak.1;simp at this;omega
   obtain⟨cs',arr',q1,q2,q3⟩:=qO hp Rl ps _ _ H (G.splice Ak J4);refine⟨cs',arr',q1,?_,q3⟩;rw[zWq,A3y _ _ _ _ _ (off:=f.2) (size:=inf.size) (hp i f inf hf Am) QX (by omega)];exact q2
variable {t:TypeId}{ps:Array (Nat×Operand)}
def B1y(F7:o.op=.build t ps)(H:(ob (MC C.P t) λzs=>ob (places C.P t) λ_=>Gw C.P t st ps.toList zs λcs=>k (st.put o.dst (XR cs).1 (XR cs).2))=some x)(Rl:L6 E st a w.heap)(T:Then E w k x K):Gp C.P o a w K:=by
 obtain⟨zs,WT,H⟩:=D6 H;obtain⟨pl,VP,H⟩:=D6 H;obtain⟨inf,zv,Am,Ro,Ak⟩:=Xb WT;have fin:∀(pf:Nat->Option (Nat×Nat)),(∀i q inf,partAt C.P t i=some q->C.P.info? q.1=some inf->pf i=some (q.2,inf.size))->
  (∀l,C.P.built t l=Instr.fill pf zv.cells l)->Gp C.P o a w K:=by
  intro pf hp hbl;obtain⟨cs,arr,H,B0P,IU⟩:=qO hp Rl ps.toList zs zv.cells H (Ak E w.heap);have hb:C.P.built t (ps.map λ(i,y)=>(i,a.eval y)).toList=some arr:=by rw[hbl,<- B0P];simp
  refine X3 (v:=.agg arr) ?_ H Rl (λt0 _=>?_) @T
  ·simp only[execOp,F7]
   exact CL (run_build w t _ arr hb)
  ·have:=zM (E:=E) (w:=w) (cs:=cs) (vs:=arr.toList) IU.1.symm (λj v r hv hr=>let⟨⟨a1,a2,a3,a4⟩,_⟩:=IU.2 j r v hr hv;⟨a1,a2,a3,_,a4⟩) 0 t0;simpa using this
 unfold places at VP;split at VP
 ·rename_i fs hu;refine fin (pl.toArray[·]?) (λi q inf hq Am=>?_) (λl=>by unfold Program.built;simp only[Am,hu,Ro,VP]);simp only[partAt,hu,zaq]at hq;obtain⟨f,hf,rfl⟩:=hq;obtain⟨z,hz,hzi⟩:=A6S VP i f (by simpa using hf);rw[Am]at hz;simp only[zoq,D8]at hz;subst hz;simpa using hzi
 ·rename_i n e hu;simp only[zaq]at VP;obtain⟨ie,hie,-⟩:=VP;refine fin (λi=>some (i * ie.size,ie.size)) (λi q inf hq Am=>?_) (λl=>by unfold Program.built;simp only[Am,hu,Ro,hie]);simp only[partAt,hu,hie,zoq,D8]at hq;subst hq;rw[hie]at Am;simp only[D8]at Am;subst Am;rfl
 ·simp at VP
variable {fl:H8}
def B3l(F7:o.op=.alloc t)(H:(ob (MC C.P t) λcs=>og (Qu (I8 fl.shared o.dst) o.dst st) (k (st.FX (I8 fl.shared o.dst) o.dst cs)))=some x)(Rl:L6 E st a w.heap)(T:Then E w k x K):Gp C.P o a w K:=by obtain⟨zs,WT,H⟩:=D6 H;obtain⟨inf,zv,Am,Ro,Ak⟩:=Xb WT;obtain⟨_,H9⟩:=H6 H;refine A1F (Ak E w.heap) H9 (T0:=t) ?_ Rl @T;simp only[execOp,F7];refine CL ?_;unfold Instr.alloc;simp[zeroValue,typeInfo,Am,Ro,newVar,newRow]
def dz(S:AY)(h:Heap)(sz:Nat)(ds:List DV)(arr:Array Value):Prop :=arr.size=ds.length * sz/\∀(i:Nat) d,ds[i]?=some d->∃vs:List Value,vs.length=sz/\(∀(j:Nat) u,vs[j]?=some u->arr[i * sz+j]?=some u)/\RC S h d vs
variable {sz:Nat}
def seg_lt{i j n:Nat}(hi:i<n)(hj:j<sz):i * sz+j<n * sz:=by
 calc i * sz+j<i * sz+sz:=by omega
  _=(i+1) * sz:=by rw[zrq]
  _<=n * sz:=zlq _ hi
def A1T{i i' j j':Nat}(hj:j<sz)(O9:j'<sz)(h:i * sz+j=i' * sz+j'):i=i':=by
 have hpos:0<sz:=by omega
 have h1:(i * sz+j) / sz=i:=by rw[zOq,zRq hpos,zPq hj,zkq]
 have h2:(i' * sz+j') / sz=i':=by rw[zOq,zRq hpos,zPq O9,zkq]
 rw[<- h1,<- h2,h]
def mR{z:Nat×Bool}(Hq:z.2=false->z.1=1){p q:Nat}{r:DV×F4}{F:DV->Option X}(R:RR E h p q r.1 r.2 v)(H:Oe z r F=some x):
 F r.1=some x/\v.cells.size=z.1/\RC E.S h r.1 v.cells.toList:=by
 unfold Oe at H;obtain⟨hd,H⟩:=H6 H;have R1:=R.data hd;by_cases h2:z.2=true
 ·rw[A9 h2]at H;obtain⟨hg,H⟩:=H6 H;obtain⟨vs,rfl,hs,hR⟩:=tK hg R1;exact⟨H,hs,hR⟩
 ·rw[A7 h2]at H;obtain⟨hc,H⟩:=H6 H;have ho:=A1t hc R1;have hv:v.cells=#[v]:=by cases v<;>first | rfl | (simp[Value.oneCell']at ho)
  refine⟨H,by rw[hv,Hq (by simpa using h2)];rfl,?_⟩;rw[hv];exact NW (yg hc) ho R1
variable {ds:List DV}
def dz.splice{i:Nat}{d:DV}(H:dz E.S h sz ds arr)(hi:i<ds.length)(hs:v.cells.size=sz)(hR:RC E.S h d v.cells.toList):
 dz E.S h sz (ds.set i d) (Su.splice arr (i * sz) v):=by
 obtain⟨l1,l2⟩:=H;have FD:v.cells.toList.length=sz:=by simpa using hs
 have BN:i * sz+0+v.cells.toList.length<=arr.size:=by rw[l1,FD,zkq,<- zrq];exact zlq _ hi
 rw[A4c];refine⟨by rw[zI,l1,zUq],λi' d' Eo=>?_⟩;by_cases Ce:i=i'
 ·subst Ce;rw[z7q hi]at Eo;simp only[D8]at Eo;subst Eo;refine⟨v.cells.toList,FD,λj u hu=>?_,hR⟩;have hj:j<sz:=by have:=(z0q.1 hu).1;omega
  rw[pq _ _ _ _ BN,A9 (by omega)];rw[<- hu];congr 1;omega
 ·rw[zdq Ce]at Eo;obtain⟨us,u1,u2,u3⟩:=l2 i' d' Eo;refine⟨us,u1,λj u hu=>?_,u3⟩;have hj:j<sz:=by have:=(z0q.1 hu).1;omega
  rw[pq _ _ _ _ BN,A7,u2 j u hu];rintro⟨c1,c2⟩;exact Ce (A1T (j:=i' * sz+j-i * sz) (j':=j) (by omega) hj (by omega))
variable {P:Program}
def A3i{E:Env}{ts:List TypeId}{vs:Array Value}{rs:List (DV×F4)}(h2:SL P ts vs.toList=some rs)(hd:(rs.all λc=>K6 c.2)=true):RV E.S h (.agg (rs.map (·.1))) (.agg vs):=by
 have G:=tV (E:=E) (h:=h) h2;simp only[RV];refine⟨vs,rfl,CS.2 ⟨by simpa using G.1,λj d u hj hu=>?_⟩⟩;rw[zbq]at hj;cases hr:rs[j]? with
 |none=>rw[hr]at hj;cases hj
 |some r=>rw[hr,zoq,D8]at hj;subst hj;obtain⟨⟨a1,a2,a3,a4⟩,a5⟩:=G.2 j r u hr (by simpa using hu);have VO:=zFq.1 hd r (zyq hr);exact⟨a1,NW a1 a2 (RR.data (k:=9) (a:=0) VO (RR.AL (a4.tag (RD a3 a5))))⟩
variable {y:Operand}
def L6.iq(Rl:L6 E st a w.heap){r:DV×F4}(H:iq P t st y=some r):RR E w.heap 0 (fo y) r.1 r.2 (a.eval y):=by
 unfold Su.iq at H;split at H
 ·rename_i vs;obtain⟨ts,h1,H⟩:=D6 H;obtain⟨rs,h2,H⟩:=D6 H;obtain⟨hd,H⟩:=H6 H;simp only[D8]at H;subst H;exact A3i h2 hd
 ·exact Rl.src H
def qy{e:TypeId}{z:Nat×Bool}(Hq:z.2=false->z.1=1)(Rl:L6 E st a w.heap){F:List DV->Option X}:∀(ps:List (Nat×Operand))(ds:List DV)(arr:Array Value),JR C.P e z st ps ds F=some x->dz E.S w.heap z.1 ds arr->
 ∃ds' arr',F ds'=some x/\ds'.length=ds.length/\Instr.fill (λi=>some (i * z.1,z.1)) arr (ps.map λp=>(p.1,a.eval p.2))=some arr'/\dz E.S w.heap z.1 ds' arr'
 |[],ds,arr,H,G=>⟨ds,arr,H,rfl,rfl,G⟩
 | (i,y)::ps,ds,arr,H,G=>by
   simp only[JR]at H;obtain⟨r,hr,H⟩:=D6 H;obtain⟨H,hs,hR⟩:=mR Hq (Rl.iq hr) H;obtain⟨hi,H⟩:=M5 H;obtain⟨ds',arr',q1,q2,q3,q4⟩:=qy Hq Rl ps _ _ H (G.splice hi hs hR);refine⟨ds',arr',q1,by simpa using q2,?_,q4⟩;rw[zWq,A3y _ _ _ _ _ (off:=i * z.1) (size:=z.1) rfl hs ?_]
   ·exact q3
   ·rw[G.1,<- zrq];exact zlq _ hi
def Env.RB(E:Env)(b n:Nat):Env:={ E with O:=λb' o=>if b'=b then(if o<n then .Q8 else .other)else E.O b' o }
def oP(E:Env)(h:Heap)(ob:Obj)(n:Nat):Pr (λ_=>False) E h (E.RB h.size n) (h.push ob):=by refine Pr.push (λb o hb _=>?_) (z5q _) (λ_ _ _=>⟨rfl,rfl,rfl⟩) (λ_ _=>rfl) (EA rfl);simp only[Env.RB];rw[A7 (by omega)]
def L6.push{E':Env}{ob:Obj}(Rl:L6 E st a h)(P:Pr (λ_=>False) E h E' (h.push ob))(hn:E'.n=E.n)(hf:∀b o,(h.push ob).size<=b->E'.O b o=.other):L6 E' st a (h.push ob):=by have J4:=P.Q8 (by simp) Rl.fresh;exact⟨Rl.size,Rl.AZ,Rl.CW,by rw[hn];exact Rl.n,λt v hv=>(Rl.Be t v hv).mono P J4 (by simp) (by simp),λs cs hs=>by rw[P.gy s (by simp)];exact(Rl.j4 s cs hs).mono P J4 (by simp) (by simp),λi ob hi=>(Rl.U5 i ob hi).mono P J4 (by rw[<- Rl.n];exact(z0q.1 hi).1) (by simp) (by simp),hf⟩
variable {T0:TypeId}
def A8M(hf:∀b o,h.size<=b->E.O b o=.other)(H:dz E.S h sz ds arr)(hpos:ds≠[]->0<sz):
 RV (E.RB h.size arr.size).S (h.push (.cells arr T0)) (.list sz ds) (.slice (some ⟨h.size,0,none⟩) ds.length ds.length):=by
 have P:=oP E h (.cells arr T0) arr.size;have J4:=P.Q8 (by simp) hf;refine NY rfl (z5q _) (by simp) hpos λy hy=>?_;simp only[D8]at hy;subst hy;refine⟨λ_=>rfl,EW.2 λi d hd=>?_⟩;obtain⟨vs,v1,v2,v3⟩:=H.2 i d hd;refine⟨vs,v1,λj u hu=>?_,v3.mono J4⟩;have hj:j<sz:=by have:=(z0q.1 hu).1;omega
 have hi:i<ds.length:=(z0q.1 hd).1;have P6:=seg_lt hi hj;refine⟨by rw[zwq,kU];exact v2 j u hu,?_⟩;simp only[Env.S,Env.RB,F6];rw[A9 (by rw[H.1];omega)]
def A83{z:Nat×Bool}{cs:List (DV×F4)}{ze:DV}{zv:Value}(H:qF z cs=some ze)(G:H_ E h cs zv.cells.toList)(hd:cs.all (λc=>K6 c.2)=true):RC E.S h ze zv.cells.toList:=by
 have one:∀(j:Nat) r u,cs[j]?=some r->zv.cells.toList[j]?=some u->M8 r.1=true/\RC E.S h r.1 [u]:=by intro j r u hr hu;obtain⟨⟨a1,a2,a3,a4⟩,a5⟩:=G.2 j r u hr hu;have VO:=zFq.1 hd r (zyq hr);refine⟨a1,NW a1 a2 ?_⟩;exact RR.data (k:=9) (a:=0) VO (RR.AL (a4.tag (RD a3 a5)))
 unfold qF at H;split at H
 ·simp only[D8]at H;subst H;simp only[RC];refine CS.2 ⟨by simpa using G.1,λj d u hj hu=>?_⟩;simp only[zbq,zaq]at hj;obtain⟨r,hr,rfl⟩:=hj;exact one j r u hr hu
 ·split at H
  ·rename_i c;simp only[D8]at H;subst H;have FD:zv.cells.toList.length=1:=by simpa using G.1.symm
   match hz:zv.cells.toList,FD with
   |[u],_=>exact(one 0 c u rfl (by rw[hz];rfl)).2
  ·simp at H
def Env.En(E:Env)(b hi:Nat):Env :={ E with obj:=λi=>if i=E.n then b else E.obj i,base:=λi=>if i=E.n then 0 else E.base i,top:=λi=>if i=E.n then hi else E.top i,Q9:=λi=>if i=E.n then 1 else E.Q9 i,n:=E.n+1,O:=λb' o=>if b'=b then(if o<hi then .obj E.n else .other)else E.O b' o }
def L6.En(Rl:L6 E st a h)(G:dz E.S h sz ds arr)(hz:sz≠0):
 Pr (λ_=>False) E h (E.En h.size arr.size) (h.push (.cells arr T0))/\L6 (E.En h.size arr.size) { st with sg:=st.sg++[E5.P9 1 sz ds] } a (h.push (.cells arr T0)) /\
 ∀tg,M4 (E.En h.size arr.size) (h.push (.cells arr T0)) tg .undef (.P9 st.sg.length 1 sz ds.length) (.slice (some ⟨h.size,0,none⟩) ds.length ds.length):=by
 have hn:=Rl.n;have vE:(E.En h.size arr.size).Q9 E.n=1:=A9 rfl;have oE:(E.En h.size arr.size).obj E.n=h.size:=A9 rfl;have bE:(E.En h.size arr.size).base E.n=0:=A9 rfl;have tE:(E.En h.size arr.size).top E.n=arr.size:=A9 rfl;have P1:Pr (λ_=>False) E h (E.En h.size arr.size) (h.push (.cells arr T0)):=by
  refine Pr.push (λb o hb _=>?_) (Nat.le_succ _) (λi hi _=>?_) (λ_ _=>rfl) (λi hi=>?_)
  ·simp only[Env.En];rw[A7 (by omega)]
  ·refine⟨?_,?_,?_⟩<;>simp only[Env.En]<;>rw[A7 (by omega)]
  ·have:(E.En h.size arr.size).Q9 i=E.Q9 i:=A7 (by omega);rw[this];exact⟨id,z5q _,λ_=>rfl⟩
 have J4:=P1.Q8 (by simp) Rl.fresh;refine⟨P1,⟨Rl.size,Rl.AZ,Rl.CW,by simp[Env.En,Rl.n],λt v hv=>(Rl.Be t v hv).mono P1 J4 (by simp) (by simp),λs cs hs=>(Rl.j4 s cs hs).mono P1 J4 (by simp) (by simp),λi ob hi=>?_,λb o hb=>?_⟩,λtg=>⟨by rw[hn];exact zDq _,by omega,by rw[hn,vE];exact z5q _,_,_,rfl,z5q _,by simp,λ_ y hy=>?_,λ_ _=>?_⟩⟩
 ·by_cases P6:i<st.sg.length
  ·simp only[zeq P6]at hi;exact(Rl.U5 i ob hi).mono P1 J4 (by rw[<- hn];exact P6) (by simp) (by simp)
  ·have NL:i=st.sg.length:=by have:=(z0q.1 hi).1;simp at this;omega
   subst NL;simp only[zcq (z5q _),zsq,z2q,D8]at hi;subst hi;rw[hn];refine⟨vE,by omega,by omega,.inr ⟨arr,T0,(0,0),by rw[oE];exact Jv,by rw[bE,tE,G.1];omega,by rw[tE];exact z5q _,λo h3 h4=>?_,λj d hd=>?_⟩⟩
   ·rw[oE];rw[tE]at h4;refine⟨?_,by omega⟩;simp only[Env.En,F6];rw[A9 h4]
   ·obtain⟨vs,v1,v2,v3⟩:=G.2 j d hd;exact⟨vs,v1,λy u hu=>by rw[bE,zwq];exact v2 y u hu,v3.mono J4⟩
 ·have QS:h.size+1<=b:=by simpa using hb
  simp only[Env.En];rw[A7 (by omega)];exact Rl.fresh b o (by omega)
 ·simp only[D8]at hy;rw[<- hy]
 ·rw[hn,oE,bE,tE,G.1];exact⟨rfl,by omega⟩
def A21{n:Nat}(F7:o.op=.buildSlice t n ps)(H:(ob (JB C.P t) λe=>ob (tz C.P e) λz=>ob (MC C.P e) λzs=>ob (qF z zs) λze=>
   if (n * z.1<=2 ^ 24/\z.1≠0)/\zs.length=z.1/\zs.all (λc=>K6 c.2)=true then JR C.P e z st ps.toList (List.replicate n ze) λds=>if I8 fl.Dn o.dst then k ({ st with sg:=st.sg++[E5.P9 1 z.1 ds] }.put o.dst .undef (.P9 st.sg.length 1 z.1 n))else k (st.put o.dst (.list z.1 ds) .full)else none)=some x)(Rl:L6 E st a w.heap)(T:Then E w k x K):Gp C.P o a w K:=by
 obtain⟨e,he,H⟩:=D6 H;obtain⟨z,hz,H⟩:=D6 H;obtain⟨zs,WT,H⟩:=D6 H;obtain⟨ze,OU,H⟩:=D6 H;obtain⟨⟨⟨C0V,hz0⟩,hzl,VO⟩,H⟩:=M5 H;have hu:C.P.underlying t=some (.slice e):=by
  unfold JB at he;split at he
  ·simp only[D8]at he;subst he;assumption
  ·simp at he
 obtain⟨inf,zv,Am,Ro,Ak⟩:=Xb WT;obtain⟨inf',dsc,B0Q,hue,hzz,Hq⟩:=Ib hz;rw[Am]at B0Q;simp only[D8]at B0Q;subst B0Q;have oF:z.1=inf.size:=by rw[hzz]
 have B8h:zv.cells.size=z.1:=by have:=(Ak E w.heap).1;simp at this;omega
 have hRC:=A83 (E:=E) (h:=w.heap) OU (Ak E w.heap) VO;have B0T:dz E.S w.heap z.1 (List.replicate n ze) ((Array.range (n * z.1)).map (zv.cells[· % zv.cells.size]!)):=by
  refine⟨by simp,λi d hd=>?_⟩;have hi:i<n:=by have:=(z0q.1 hd).1;simpa using this
  rw[List.getElem?_replicate,A9 hi]at hd;simp only[D8]at hd;subst hd;refine⟨zv.cells.toList,by simpa using B8h,λj u hu=>?_,hRC⟩;have hj:j<z.1:=by have:=(z0q.1 hu).1;simp at this;omega
  have P6:=seg_lt hi hj;rw[Array.getElem?_map,Array.getElem?_range,A9 P6];simp only[zoq,D8];rw[B8h,zOq,Nat.mul_add_mod,Nat.mod_eq_of_lt hj];rw[getElem!_def,show zv.cells[j]?=some u from by simpa using hu]
 obtain⟨ds,arr,H,hdl,B0P,hsg⟩:=qy Hq Rl ps.toList _ _ H B0T;have hdn:ds.length=n:=by simpa using hdl
 have P1:=oP E w.heap (.cells arr e) arr.size;have V4:(execOp a.eval o).run C.P w=.ok (.value (.slice (some ⟨w.heap.size,0,none⟩) n n)) (w.alloc (.cells arr e)):=by
  simp only[execOp,F7];refine CL ?_;unfold Instr.buildSlice;have A6B:Instr.fill (λi=>some (i * z.1,z.1)) ((Array.range (n * z.1)).map (zv.cells[· % zv.cells.size]!)) (ps.map λ(i,y)=>(i,a.eval y)).toList=some arr:=by rw[<- B0P];simp
  simp only[Sem.run_bind,run_underlying hu,Result.andThen_ok,NQ hz,Sem.run_ite];rw[A7 (by omega)];by_cases hn0:n * z.1=0
  ·have:((Array.range (n * z.1)).map (zv.cells[· % zv.cells.size]!))=((Array.range (n * z.1)).map ((#[]:Array Value)[· % (#[]:Array Value).size]!)):=by rw[hn0];simp
   rw[this]at A6B;simp only[Sem.run_pure,Result.andThen_ok,A9 hn0,A6B];rfl
  ·simp only[A7 hn0,zeroValue,typeInfo,Sem.run_bind,run_program,Result.andThen_ok,Am,Sem.run_pure,Ro,A6B]
   rfl
 by_cases hq:I8 fl.Dn o.dst=true
 ·rw[A9 hq]at H;obtain⟨P2,R2,R3⟩:=Rl.En (T0:=e) hsg hz0;exact Au V4 (T (E.En w.heap.size arr.size) _ _ (w.alloc (.cells arr e)) H (R2.put λt0 _=>by rw[<- hdn];exact RR.AL (R3 _)) (P2.j6 (by simp)))
 rw[A7 hq]at H;refine Au V4 (T (E.RB w.heap.size arr.size) _ _ (w.alloc (.cells arr e)) H ((Rl.push P1 rfl λb o hb=>?_).put λt0 _=>?_) (P1.j6 (by simp)))
 ·simp only[zxq]at hb;simp only[Env.RB];rw[A7 (by omega)];exact Rl.fresh b o (by omega)
 ·refine⟨?_,⟨_,_,rfl⟩,_,_,rfl⟩;have:=A8M (T0:=e) Rl.fresh hsg (λ_=>by omega);rw[hdn]at this;exact this
def SI(y:Operand)(t off:Nat)(T:Tag):Tag :=
 match y,T with
 |.tmp s',.sp 0 s (b+1)=>if s'=s then .sp 1 t (off+b)else .sp 0 s (b+1)
 |_,T=>T
theorem QB{t:Nat}{T:Tag}(h:∀s b,y=.tmp s->T ≠ .sp 0 s b):SI y t off T=T:=by
 unfold SI;split
 ·split
  ·rename_i hx;subst hx;exact absurd rfl (h _ _ rfl)
  ·rfl
 ·rfl
def EJ.box{E:Env}{t j:Nat}{r:DV×F4}(hy:(∀i,y ≠ .tmp i)->r.2 ≠ .own)(H:EJ E h (.sp 0 (fo y) (j+1)) r v):EJ (E.re (SI y t off)) h (.sp 1 t (off+j)) r v:=by
 obtain⟨a1,a2,a3,a4⟩:=H;refine⟨a1,a2,a3,?_⟩;by_cases hx:∃i,y=.tmp i
 ·obtain⟨i,rfl⟩:=hx;exact a4.re (QB (by simp)) (by simp[SI,fo])
 ·have ZJ:=RD a3 (hy λi hi=>hx ⟨i,hi⟩);have a5:M4 (E.re (SI y t off)) h .other r.1 r.2 v:=(a4.tag ZJ:M4 E h .other r.1 r.2 v).re (QB (by simp)) (QB (by simp));exact a5.tag ZJ
def A3R{r:DV×F4}(hs:src P t st y=some r)(hy:∀i,y ≠ .tmp i):∀ms,r.2 ≠ .EZ ms:=by
 cases y with
 |tmp i=>exact absurd rfl (hy i)
 |const v=>exact A3q hs
 |func f=>simp only[src,D8]at hs;subst hs;simp
 |global g=>simp[src]at hs
def B60(F7:o.op=.box t y)(H:(ob (src C.P t st y) λr=>
 if I8 fl.Yo o.dst then ob (tz C.P t) λz=>og (K6 r.2&&I5 z.1 r.1&&z.2) (k (st.put o.dst (.Vi z.1 r.1) .val))
 else if I8 fl.Q4 o.dst then Jp C.P t r λcs=>og (Qu false o.dst st) (k ((st.release y).FX false o.dst cs))
 else IQ C.P t r λcs=>og (Qu (I8 fl.shared o.dst) o.dst st) (k (st.FX (I8 fl.shared o.dst) o.dst cs)))=some x)(Rl:L6 E st a w.heap)(T:Then E w k x K):Gp C.P o a w K:=by
 obtain⟨r,hr,H⟩:=D6 H;have V4:(execOp a.eval o).run C.P w=.ok (.value (.pointer (some ⟨w.heap.size,0,none⟩))) (w.alloc (.cells (a.eval y).cells t)):=by simp only[execOp,F7];refine CL ?_;simp[Instr.box,newVar,newRow]
 have e1:=Rl.src hr;by_cases LP:I8 fl.Yo o.dst=true
 ·-- a variable that is sealed at once
  rw[A9 LP]at H;obtain⟨z,hz,H⟩:=D6 H;obtain⟨hd,H⟩:=H6 H;simp only[z8q]at hd;obtain⟨vs,hv,hs,hR⟩:=tK hd.1.2 (e1.data hd.1.1);have P1:=oP E w.heap (.cells (a.eval y).cells t) z.1;refine Au V4 (T (E.RB w.heap.size z.1) _ _ (w.alloc (.cells (a.eval y).cells t)) H ((Rl.push P1 rfl λb o hb=>?_).put λt0 _=>?_) (P1.j6 (by simp)))
  ·simp only[zxq]at hb;simp only[Env.RB];rw[A7 (by omega)];exact Rl.fresh b o (by omega)
  ·show RV _ _ _ _;have J4:=P1.Q8 (by simp) Rl.fresh;simp only[RV,RC];refine⟨_,_,rfl,vs.toList,by simpa using hs,λj v Pf=>?_,hR.mono J4⟩;have hj:j<z.1:=by have:=(z0q.1 Pf).1;simp at this;omega
   rw[zwq];refine⟨?_,?_⟩
   ·show hc (w.heap.push _) w.heap.size j=_;rw[kU,hv];simpa[Value.cells]using Pf
   ·simp only[Env.S,Env.RB,F6]
    rw[A9 hj]
 rw[A7 LP]at H;by_cases R8:I8 fl.Q4 o.dst=true
 ·rw[A9 R8]at H;have qm:∃z,tz C.P t=some z:=by unfold Jp at H;obtain⟨z,hz,-⟩:=D6 H;exact⟨z,hz⟩
  obtain⟨z,qm⟩:=qm;obtain⟨xs,H,hl,⟨lc,Ak⟩,ZJ⟩:=yL qm e1 H;obtain⟨_,H⟩:=H6 H;cases hd:o.dst with
  |none=>rw[hd]at R8;simp[I8]at R8
  |some t0=>
    rw[hd]at H;refine Au V4 ?_;rw[hd];simp only[St.FX,zhq,G9]at H;have Rl1:=Rl.release (x:=y) (f:=SI y t0 0) λT hT=>QB hT;have P0:Pr P8 E w.heap (E.re (SI y t0 0)) w.heap:=Pr.re λT hT=>QB λs b _ he=>hT (by rw[he];simp[P8]);obtain⟨R1,P1⟩:=Rl1.Fs (t0:=t0) (T0:=t) lc λj r' v AV hv=>by
     have:=(Ak j r' v AV hv).box (t:=t0) (off:=0) λhy=>ZJ (A3R hr hy) r' (zyq AV)
     rwa [zwq]at this
    rw[Array.toArray_toList]at R1 P1;refine T _ _ _ (w.alloc (.cells (a.eval y).cells t)) H (R1.put λt1 ht=>?_) (P0.trans (P1.j6 (by rintro T rfl;simp[P8])));simp only[D8]at ht;subst ht;refine RR.AL ⟨rfl,?_⟩;simp only[Env.Fs,F6]
 rw[A7 R8]at H;have qm:∃z,tz C.P t=some z:=by unfold IQ at H;obtain⟨z,hz,-⟩:=D6 H;exact⟨z,hz⟩
 obtain⟨z,qm⟩:=qm;obtain⟨xs,H,hl,Ak⟩:=Za qm e1 H;obtain⟨_,H9⟩:=H6 H;exact A1F Ak H9 (T0:=t) (by simpa using V4) Rl @T
def Env.Dv(E:Env)(b:Nat):Env :={ E with obj:=λi=>if i=E.n then b else E.obj i,base:=λi=>if i=E.n then 0 else E.base i,n:=E.n+1,Q9:=λi=>if i=E.n then 0 else E.Q9 i,O:=λb' o=>if b'=b then .obj E.n else E.O b' o }
variable {ks:Bool}
def B27{t:Nat}(hm:(st.get t).2=.Hr ks)(Rl:L6 E st a h):
 ∃E',L6 E' ({ st with sg:=st.sg++[E5.map ks []] }.put (some t) .undef (.map st.sg.length)) a h/\Pr P8 E h E' h:=by
 have hn:=Rl.n;have ht:t<st.tm.length:=by
  rcases zvq t st.tm.length with g | g
  ·exact g
  ·rw[YK g Rl.AZ]at hm;cases hm
 have hta:t<a.tmps.size:=by rw[Rl.size];exact ht
 have e0:=Rl.Be t _ (zpq hta);rw[hm]at e0;simp only[RR,M4]at e0;obtain⟨-,b,clk,e1,e2,e3⟩:=e0;have hb:b<h.size:=(z4q.1 e2).1;have P1:Pr (λT=>T=.sp 0 t 0) E h (E.Dv b) h:=by
  refine⟨z5q _,λ_ _=>X4.refl _ _,λb1 o1 _ hT=>?_,by simp[Env.Dv],λi hi _=>?_,λ_ _=>rfl,XM rfl⟩
  ·simp only[Env.Dv]
   rw[A7];intro hh;subst hh;exact hT (e3 o1)
  ·refine⟨?_,?_,rfl⟩<;>simp only[Env.Dv]<;>rw[A7 (by omega)]
 have J4:=P1.Q8 (by simp) Rl.fresh;refine⟨E.Dv b,⟨by rw[Vj];exact Rl.size,by rw[A7i,Vj];exact Rl.AZ,by rw[lM,Vj];exact Rl.CW,by simp[Env.Dv,hn],λu v hv=>?_,λs cs hs=>(Rl.j4 s cs (by rwa [lM]at hs)).mono P1 J4 (by simp) (by simp),λi ob hi=>?_,λb1 o1 LM=>?_⟩,P1.j6 (by rintro T rfl;simp[P8])⟩
 ·by_cases htu:t=u
  ·subst htu;have hp:=Qe (st:={ st with sg:=st.sg++[E5.map ks []] }) (t:=t) (d:=.undef) (m:=.map st.sg.length) ht Rl.AZ;rw[hp];have:v=a.tmps[t]:=by rw[zpq hta]at hv;exact(Option.some.inj hv).symm
   subst this;refine RR.AL ⟨by simp[Env.In,Env.Dv,hn],?_⟩;rw[e1];simp only[Env.Dv,hn,F6]
  ·have hp:=Yn (st:={ st with sg:=st.sg++[E5.map ks []] }) (d:=.undef) (m:=.map st.sg.length) htu;rw[hp];exact(Rl.Be u v hv).mono P1 J4 (by simp;exact λhh=>absurd hh.symm htu) (by simp)
 ·rw[lN]at hi;by_cases P6:i<st.sg.length
  ·simp only[zeq P6]at hi;exact(Rl.U5 i ob hi).mono P1 J4 (by rw[<- hn];exact P6) (by simp) (by simp)
  ·have NL:i=st.sg.length:=by have:=(z0q.1 hi).1;simp at this;omega
   subst NL;simp only[zcq (z5q _),zsq,z2q,D8]at hi;subst hi;refine⟨#[],clk,?_,λo=>?_,⟨rfl,by simp⟩,by simp[gL]⟩
   ·simp only[Env.Dv,hn,F6];exact e2
   ·simp only[Env.Dv,hn,F6]
 ·simp only[Env.Dv]
  rw[A7 (by omega)];exact Rl.fresh b1 o1 LM
def A7g{h:Heap}:∀{ts:List Nat}{st st':St}{E:Env},Qc ts st=some st'->L6 E st a h->∃E',L6 E' st' a h/\Pr P8 E h E' h
 |[],st,st',E,H,Rl=>by simp only[Qc,D8]at H;subst H;exact⟨E,Rl,Pr.refl _ _ _⟩
 |t::ts,st,st',E,H,Rl=>by
   simp only[Qc]at H;split at H
   ·rename_i ks hm;obtain⟨E1,R1,P1⟩:=B27 hm Rl;obtain⟨E2,R2,P2⟩:=A7g H R1;exact⟨E2,R2,P1.trans P2⟩
   ·cases H
def B3m{L:List Nat}(F7:o.op=.build t ps)(H:(ob (Qc L st) λst=>ob (MC C.P t) λzs=>ob (places C.P t) λ_=>Gw C.P t st ps.toList zs λcs=>k (st.put o.dst (XR cs).1 (XR cs).2))=some x)(Rl:L6 E st a w.heap)(T:Then E w k x K):Gp C.P o a w K:=by obtain⟨st1,h1,H⟩:=D6 H;obtain⟨E1,R1,P1⟩:=A7g h1 Rl;exact B1y F7 H R1 λE' st' a' w' g1 g2 g3 g4=>T E' st' a' w' g1 g2 (P1.trans g3) g4
def B1A{t0:Nat}(F7:o.op=.makeMap t none)(hd:o.dst=some t0)(H:k (st.put o.dst .undef (.Hr ks))=some x)(Rl:L6 E st a w.heap)(T:Then E w k x K):Gp C.P o a w K:=by
 have V4:(execOp a.eval o).run C.P w=.ok (.value (.map (some w.heap.size))) (w.alloc (.map #[] 0)):=by simp only[execOp,F7];refine CL ?_;simp[Instr.makeMap]
 let E1:Env:={ E with O:=λb' o=>if b'=w.heap.size then .sp 0 t0 0 else E.O b' o }
 have P1:Pr (λ_=>False) E w.heap E1 (w.heap.push (.map #[] 0)):=by refine Pr.push (λb o hb _=>?_) (z5q _) (λi hi _=>⟨rfl,rfl,rfl⟩) (λ_ _=>rfl) (EA rfl);simp only[E1];rw[A7 (by omega)]
 have J4:=P1.Q8 (by simp) Rl.fresh;have R1:L6 E1 st a (w.heap.push (.map #[] 0)):=by
  refine⟨Rl.size,Rl.AZ,Rl.CW,Rl.n,λt v hv=>(Rl.Be t v hv).mono P1 J4 (by simp) (by simp),λs cs hs=>(Rl.j4 s cs hs).mono P1 J4 (by simp) (by simp),λi ob hi=>(Rl.U5 i ob hi).mono P1 J4 (CE Rl hi) (by simp) (by simp),λb o hb=>?_⟩
  have QS:w.heap.size+1<=b:=by simpa using hb
  simp only[E1];rw[A7 (by omega)];exact Rl.fresh b o (by omega)
 refine Au V4 (T _ _ _ (w.alloc (.map #[] 0)) H (R1.put λt1 ht=>?_) (P1.j6 (by simp)));rw[hd]at ht;simp only[D8]at ht;subst ht;exact RR.AL ⟨rfl,_,0,rfl,Jv,λo=>A9 rfl⟩
def A8P(F7:o.op=.makeMap t none)(H:k ({ st with sg:=st.sg++[E5.map ks []] }.put o.dst .undef (.map st.sg.length))=some x)(Rl:L6 E st a w.heap)(T:Then E w k x K):Gp C.P o a w K:=by
 have V4:(execOp a.eval o).run C.P w=.ok (.value (.map (some w.heap.size))) (w.alloc (.map #[] 0)):=by simp only[execOp,F7];refine CL ?_;simp[Instr.makeMap]
 have P1:Pr (λ_=>False) E w.heap (E.Dv w.heap.size) (w.heap.push (.map #[] 0)):=by
  refine Pr.push (λb o hb _=>?_) (by simp[Env.Dv]) (λi hi _=>?_) (λ_ _=>rfl) (XM rfl)
  ·simp only[Env.Dv];rw[A7 (by omega)]
  ·refine⟨?_,?_,rfl⟩<;>simp only[Env.Dv]<;>rw[A7 (by omega)]
 have J4:=P1.Q8 (by simp) Rl.fresh;have hn:=Rl.n;have R1:L6 (E.Dv w.heap.size) { st with sg:=st.sg++[E5.map ks []] } a (w.heap.push (.map #[] 0)):=by
  refine⟨Rl.size,Rl.AZ,Rl.CW,by simp[Env.In,Env.Dv,Rl.n],λt v hv=>(Rl.Be t v hv).mono P1 J4 (by simp) (by simp),λs cs hs=>(Rl.j4 s cs hs).mono P1 J4 (by simp) (by simp),λi ob hi=>?_,λb o hb=>?_⟩
  ·by_cases P6:i<st.sg.length
   ·simp only[zeq P6]at hi;exact(Rl.U5 i ob hi).mono P1 J4 (CE Rl hi) (by simp) (by simp)
   ·have NL:i=st.sg.length:=by have:=(z0q.1 hi).1;simp at this;omega
    subst NL;simp only[zcq (z5q _),zsq,z2q,D8]at hi;subst hi;refine⟨#[],0,?_,λo=>?_,⟨rfl,by simp⟩,by simp[gL]⟩
    ·simp only[Env.Dv,hn,F6];exact Jv
    ·simp only[Env.Dv,hn,F6]
  ·have QS:w.heap.size+1<=b:=by simpa using hb
   simp only[Env.Dv];rw[A7 (by omega)];exact Rl.fresh b o (by omega)
 refine Au V4 (T _ _ _ (w.alloc (.map #[] 0)) H (R1.put λt0 _=>?_) (P1.j6 (by simp)));refine RR.AL ⟨by simp[Env.In,Env.Dv,hn],?_⟩;simp only[Env.Dv,hn,F6]
def gF{P:Program}:∀{ts:List TypeId}{xs:List Operand}{rs:List (DV×F4)},Ka P st ts xs=some rs->rs.length=xs.length/\∀(i:Nat) y r,xs[i]?=some y->rs[i]?=some r->∃t,src P t st y=some r
 |ts,[],rs,H=>by cases ts<;>simp only[Ka,D8]at H<;>subst H<;>simp
 |t::ts,y::xs,rs,H=>by
   simp only[Ka]at H;obtain⟨r,hr,H⟩:=D6 H;obtain⟨rs',hrs,H⟩:=D6 H;simp only[D8]at H;subst H;obtain⟨l1,l2⟩:=gF hrs;refine⟨by simp[l1],λi z r' hz AV=>?_⟩;cases i with
   |zero=>simp only[z2q,D8]at hz AV;subst hz AV;exact⟨t,hr⟩
   |succ i=>simp only[zfq]at hz AV;exact l2 i z r' hz AV
 |[],y::xs,rs,H=>by
   simp only[Ka]at H;obtain⟨r,hr,H⟩:=D6 H;obtain⟨rs',hrs,H⟩:=D6 H;simp only[D8]at H;subst H;obtain⟨l1,l2⟩:=gF hrs;refine⟨by simp[l1],λi z r' hz AV=>?_⟩;cases i with
   |zero=>simp only[z2q,D8]at hz AV;subst hz AV;exact⟨_,hr⟩
   |succ i=>simp only[zfq]at hz AV;exact l2 i z r' hz AV
def qP:∀{rs:List (DV×F4)}{ms:List (Nat×Nat)},Wj rs=some ms->rs.length=ms.length/\∀(i:Nat) r m,rs[i]?=some r->ms[i]?=some m->r.2=.ptr m.1 m.2
 |[],ms,H=>by simp only[Wj,D8]at H;subst H;simp
 | (d,m)::rs,ms,H=>by
   unfold Wj at H;split at H
   ·rename_i heq;simp at heq
   ·rename_i heq;simp only[List.cons.injEq,Prod.mk.injEq]at heq;obtain⟨⟨-,rfl⟩,rfl⟩:=heq;obtain⟨ms',WS,H⟩:=D6 H;simp only[D8]at H;subst H;obtain⟨l1,l2⟩:=qP WS;refine⟨by simp[l1],λi r m hr hm=>?_⟩;cases i with
    |zero=>simp only[z2q,D8]at hr hm;subst hr hm;rfl
    |succ i=>simp only[zfq]at hr hm;exact l2 i r m hr hm
   ·simp at H
def A7F{f:FuncId}{first caps:Array Operand}(F7:o.op=.makeFunc (.func f) first caps)(H:(if first.isEmpty then ob (Ka C.P st [] caps.toList) λrs=>ob (Wj rs) λms=>k (st.put o.dst .undef (.fn f ms))else none)=some x)(Rl:L6 E st a w.heap)(T:Then E w k x K):Gp C.P o a w K:=by
 obtain⟨hf,H⟩:=M5 H;obtain⟨rs,hrs,H⟩:=D6 H;obtain⟨ms,WS,H⟩:=D6 H;obtain⟨l1,l2⟩:=gF hrs;obtain⟨m1,m2⟩:=qP WS;have key:∀(i:Nat) y,caps.toList[i]?=some y->∃m,ms[i]?=some m/\E.In m.1/\a.eval y=.pointer (some ⟨E.obj m.1,m.2,none⟩):=by intro i y hy;have hi:i<caps.toList.length:=(z0q.1 hy).1;have hr:rs[i]?=some (rs[i]'(by omega)):=z3q (by omega);have hm:ms[i]?=some (ms[i]'(by omega)):=z3q (by omega);obtain⟨t,ht⟩:=l2 i y _ hy hr;have e:=Rl.src ht;rw[m2 i _ _ hr hm]at e;simp only[RR,M4]at e;exact⟨_,hm,e⟩
 refine X3 (v:=.func (.func f) #[] (caps.map a.eval)) ?_ H Rl (λ_ _=>RR.AL ⟨?_,?_⟩) @T
 ·simp only[execOp,F7]
  refine CL ?_;have:first=#[]:=by simpa using hf
  subst this;simp[Instr.makeFunc]
 ·congr 1;apply Array.toList_inj.1;simp only[Array.toList_map];apply List.ext_getElem?;intro i;simp only[zbq];cases hy:caps.toList[i]? with
  |none=>
    have:ms[i]?=none:=by rw[List.getElem?_eq_none_iff]at hy ⊢;omega
    simp[this]
  |some y=>obtain⟨m,hm,-,he⟩:=key i y hy;simp[hm,he]
 ·intro c hc;obtain⟨i,hi,Ce⟩:=List.mem_iff_getElem.1 hc;have hy:caps.toList[i]?=some (caps.toList[i]'(by omega)):=z3q (by omega);obtain⟨m,hm,P6,-⟩:=key i _ hy;rw[z3q hi,Ce]at hm;simp only[D8]at hm;subst hm;exact P6
end
end
end Go.Su
