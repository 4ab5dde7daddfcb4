/-
  Parts of the proof, merged: SuKeys, SuClone, SuMp, SuM6, SuM7, SuM8, SuM9, SuM10, SuM11, SuM12, SuX1, SuX2, SuX3, SuE1, SuE2, SuC1, SuT1, SuT2, SuC2, SuE3, SuE4, SuE5, SuE6, SuE7, SuE8, SuT3, SuT4, SuJ1, SuV1, SuV2, SuV3, SuY1, SuY2, SuY3, SuY4, SuY5, SuY6, SuV4, SuWk, SuWk2, Cfg, It, K0, J0, G1, G2, G3, G4, G5.
-/
import Derived.Handy
import Derived.KernelRfl
import Derived.Lib.SliceRun
import Derived.LoopNIn
import Derived.Maps.RangeRun
import Derived.OwnWalkIn
import Derived.RangeFuncBound
import Derived.RangeFuncKeeps
import Derived.RangeFuncLeaves
import Derived.Shelf.Abstract
import Derived.Shelf.Sort.Plain
import Derived.Sort.KeysCollected
import Derived.Sort.OwnSorted
import Derived.TacticsInMore
import Derived.Test.YtglacjdohajkeaaGreatProg
import Derived.Test.YtglacjdohajkeaaGreatRows
import Derived.WalkKit
import Derived.Test.YtglacjdohajkeaaGreatP3
set_option linter.unusedVariables false
set_option linter.unusedSimpArgs false
/-
 THE DATA MACHINE, part 36: a map's keys, collected by a loop and sorted.
-/
open Array renaming getElem?_toList → zaq, getElem?_eq_some_iff → zcq, getElem?_setIfInBounds_ne → ziq, getElem?_setIfInBounds_self_of_lt → zkq, getD_eq_getD_getElem? → znq, replicate_succ → zyq, replicate_zero → zzq, toList_filter → zOq
open Bool renaming and_eq_true → z1q, false_eq_true → zPq, not_eq_true' → zQq, or_eq_true → zYq
open List renaming getElem?_eq_getElem → z0q, eq_nil_of_length_eq_zero → z2q, getD_eq_getElem?_getD → z3q, mem_cons_of_mem → z4q, mem_append → z5q, length_cons → z6q, mem_cons_self → z7q, all_eq_true → z8q, length_nil → z9q, getElem?_eq_some_iff → zbq, length_append → zdq, getElem?_cons_zero → zeq, mem_iff_getElem → zfq, mem_cons → zgq, mem_singleton → zhq, map_cons → zjq, getElem_mem → zlq, not_mem_nil → zpq, getElem?_replicate → zqq, map_nil → zrq, length_filter_le → zsq, mem_of_getElem? → zuq, nodup_iff_pairwise_ne → zvq, perm_ext_iff_of_nodup → zwq, mem_map_of_mem → zxq, append_toArray → zAq, getElem?_append_left → zBq, map_append → zCq, nil_append → zDq, pairwise_cons → zEq, getElem?_map → zFq, size_toArray → zGq, push_toArray → zHq, mem_map → zIq, map_toArray → zJq, cons_append → zKq, sum_cons → zLq, length_map → zMq, nodup_append → zRq, pairwise_map → zTq, sum_nil → zVq, nodup_cons → zWq, foldl_cons → zXq
open Nat renaming le_refl → zoq, zero_add → ztq, zero_mul → zSq, mul_add → zUq
open Option renaming map_some → zmq, bind_some → zNq
namespace Go.Su
open Go.Sort
def JV:DV->List UInt8
 | .str s=>s.data.toList
 | _=>[]
def B6N (l:List UInt8):DV := .str ⟨l.toArray⟩
def Hf (l:List (List UInt8)):List (List UInt8):=l.mergeSort fun x y=>decide (x<=y)
def Lt (es:List (DV × DV)):DV := .list 1 ((Hf (es.map fun e=>JV e.1)).map B6N)
def blank (n k:Nat):St:={ tm:=List.replicate n .undef,mt:=List.replicate n .val,bx:=List.replicate n none,sg:=List.replicate k (.arr 1 []) }
structure EW where
 type:TypeId
 pos:String
 after:Array Edge
def EW.mk' (r:EW) (dst:Option Nat) (op:Op):Oper:=⟨dst,op,r.type,r.pos,r.after,none⟩
structure KP where
 pre6:List Oper
 mr:EW
 A48:EW
 B2K:EW
 A47:EW
 A79:EW
 B2J:EW
 rMv:EW
 B2L:EW
 rBs:EW
 B2I:EW
 A78:EW
 A9p:EW
 A0K:EW
 i6:Nat
 b0:Nat
 i7:Nat
 b1:Nat
 i8:Nat
 i9:Nat
 i10:Nat
 it:Nat
 mm:Nat
 t21:Nat
 t22:Nat
 t23:Nat
 t24:Nat
 tk:Nat
 t25:Nat
 t26:Nat
 t27:Nat
 t28:Nat
 tl:Nat
 t29:Nat
 t30:Nat
 tm:TypeId
 ts:TypeId
 te:TypeId
 kt:TypeId
 vt:TypeId
 f:FuncId
variable (q:KP) (post:Code)
def KP.code:Code :=
 .seq (.seq (.region q.i6 (q.pre6++[q.mr.mk' (some q.it) (.range q.tm (.tmp q.mm))]).toArray false)
  (.block q.b0 (.loop (.seq (.region q.i7 #[q.A48.mk' (some q.t21) (.next (.tmp q.it) false),q.B2K.mk' (some q.t22) (.extract (.tmp q.t21) 0)] false)
    (.seq (.cond (.tmp q.t22) .skip (.exit q.b0))
      (.block q.b1 (.seq (.region q.i8 #[q.A47.mk' (some q.t23) (.entry (.tmp q.it)),q.A79.mk' (some q.t24) (.extract (.tmp q.t23) 0),q.B2J.mk' (some q.tk) (.assign (.tmp q.t24))] false)
        (.region q.i9 #[q.rMv.mk' (some q.t25) (.move (.tmp q.tl)),q.B2L.mk' (some q.t26) (.move (.tmp q.tk)),q.rBs.mk' (some q.t27) (.buildSlice q.ts 1 #[(0, .tmp q.t26)]),
          q.B2I.mk' (some q.t28) (.call { callee := .builtin .append,args := #[.tmp q.t25, .tmp q.t27],argTypes := #[q.ts,q.ts] }),q.A78.mk' (some q.tl) (.assign (.tmp q.t28))] false))))))))
  (.seq (.region q.i10 #[q.A9p.mk' (some q.t29) (.move (.tmp q.tl)),q.A0K.mk' (some q.t30) (.call { callee := .value (.func q.f),args := #[.tmp q.t29],argTypes := #[q.ts] })] false) post)
variable (P:Program)
def jK:X4:={ P:=P,fl:=fun _=>{},sig:=fun _=>none,Yj:=fun _=>none,clone:=fun _=>false,kU:=fun _=>0 }
def A8v:O4:={ p:=fun _ _=>none,r:=fun _ _ _=>none }
theorem B9L:C_ (jK P) A8v:=⟨fun _ _ _ h=>by simp [A8v] at h,fun _ _ _ _ h=>by simp [A8v] at h,fun _ h=>by simp [jK] at h,fun _ _ h=>by simp [jK] at h,fun _ _ h=>by simp [jK] at h,fun _ _ _ _ h=>by simp [jK] at h⟩
def B1l:DV × Meta->Bool
 | (.list _ [], .full)=>true
 | _=>false
def KP.regs:List Nat:=[q.it,q.t21,q.t22,q.t23,q.t24,q.tk,q.t25,q.t26,q.t27,q.t28,q.tl,q.t29,q.t30]
def B7n:Meta->Option Nat
 | .map i=>some i
 | _=>none
def oJ {X:Type} (C:X4) (R:O4):List Oper->St->(St->Option X)->Option X
 | [],st,k=>k st
 | o::os,st,k =>
   match o.guard with
   | none=>I7 C R {} o st fun st=>oJ C R os st k
   | some _=>none
variable {X:Type}
def KP.A9c (q:KP) (st:St) (k:St->Option X):Option X :=
 oJ (jK P) A8v q.pre6 st fun st1 =>
  ob (B7n (st1.get q.mm).2) fun i=>ob (Av st1.sg i) fun p=>og (p.1 && B1l (st1.get q.tl) && q.regs.all (fun t=>decide (t<st1.tm.length)))
   (if p.2.length<=lim then k ((blank st1.tm.length st1.sg.length).put (some q.tl) (Lt p.2) .val) else none)
def KP.mid (q:KP) (st:St):Option St:=q.A9c P st some
variable {fl:Flags}
theorem B7U {Y:Type} {C:X4} {R:O4} {o:Oper} {st:St} (f:St->Option X) (k:X->Option Y):I7 C R fl o st (fun s=>ob (f s) k)=ob (I7 C R fl o st f) k:=by
 cases h:I7 C R fl o st f with
 | some y =>
   obtain ⟨s,h1,h2⟩:=SE h;rw [h2,h1]
 | none =>
   cases h':I7 C R fl o st (fun s=>ob (f s) k) with
   | none=>rfl
   | some x =>
     obtain ⟨s,h1,h2⟩:=SE h';rw [h2 _ f] at h;rw [h] at h1;exact h1.symm
theorem A8B {X Y:Type} {C:X4} {R:O4} (f:St->Option X) (k:X->Option Y):∀ (os:List Oper) (st:St),oJ C R os st (fun s=>ob (f s) k)=ob (oJ C R os st f) k
 | [],st=>rfl
 | o::os,st=>by
   simp only [oJ];cases o.guard with
   | none =>
     simp only;rw [<- B7U]
     congr 1
     funext s
     exact A8B f k os s
   | some g=>rfl
theorem A6E {X:Type} {C:X4} {R:O4} {ops:List Oper} {k:St->Option X} {x:X}:∀ {os:List Oper} {st:St},oJ C R os st k=some x->Bt C R {} ops os st k=some x
 | [],st,H=>H
 | o::os,st,H=>by
   simp only [oJ] at H;simp only [Bt,Ui];cases hg:o.guard with
   | none =>
     rw [hg] at H;simp only at H ⊢;obtain ⟨s,h1,h2⟩:=SE H;rw [h2];exact A6E h1
   | some g=>rw [hg] at H;cases H
variable (x:Option X)
theorem B7t {Y Z:Type} (f:X->Option Y) (g:Y->Option Z):ob (ob x f) g=ob x fun a=>ob (f a) g:=by cases x <;> rfl
theorem C1U {Y:Type} (b:Bool) (x:Option X) (g:X->Option Y):ob (og b x) g=og b (ob x g):=by cases b <;> rfl
theorem B8g (q:KP) (st:St) (k:St->Option X):q.A9c P st k=ob (q.mid P st) k:=by
 unfold KP.mid KP.A9c;rw [<- A8B]
 congr 1
 funext s
 rw [B7t]
 congr 1
 funext i
 rw [B7t]
 congr 1
 funext p
 rw [C1U]
 congr 1
 split <;> rfl
noncomputable def B6b (C:X4) (R:O4) (fl:Flags) (q:KP) (post:Code) (K:Out->St->Option X):Out->St->Option X
 | .normal,st=>q.A9c C.P st fun st=>R8 C R fl post K (clean fl post st)
 | .exit _,_=>none
 | .ret,st=>K .ret st
theorem B79 {C:X4} {R:O4} {q:KP} {p:Cut} {K:Out->St->Option X} (h:p.mid=q.mid C.P):jE C R fl p K=B6b C R fl q p.post K:=by
 funext o st
 cases o with
 | normal=>simp only [jE,B6b,B8g,h]
 | exit i=>rfl
 | ret=>rfl
structure KP.Ok (P:Program) (q:KP):Prop where
 nodup:q.regs.Nodup
 hm:P.underlying q.tm=some (.map q.kt q.vt)
 hs:P.underlying q.ts=some (.slice q.te)
 info:∃ i z,P.info? q.te=some i/\i.zero=some z/\z.cells.size=1/\i.size=1/\i.bytes=16
 go:isGo P q.f=true
 sort:∀ (blk off cap:Nat) (ss:List (List UInt8)) (w:World),Holds Go.Proofs.encStr w blk off ss.toArray->blk<w.heap.size->ss.length<4611686018427387904 ->
  Calls P q.f #[.slice (some ⟨blk,off,none⟩) ss.length cap] w fun e w'=>e = .returned (.tuple #[])/\∃ n os,w'=grow (putRow Go.Proofs.encStr (Sort.ahead w n) blk off (ss.mergeSort fun x y=>decide (x<=y)).toArray) os
 B7F:∀ (p:Option Addr) (cap:Nat) (w:World),Calls P q.f #[.slice p 0 cap] w fun e w'=>e = .returned (.tuple #[])/\w'=w
variable {a:Act} {t:Nat} {v:Value}
theorem DR (h:t<a.tmps.size):(a.put (some t) v).eval (.tmp t)=v:=by
 simp [Act.put,Act.eval,znq,zkq h]
theorem U4 {u:Nat} (h:t≠u):(a.put (some t) v).eval (.tmp u)=a.eval (.tmp u):=by
 simp [Act.put,Act.eval,znq,ziq h]
section
variable {P:Program} {n:Nat} {ops:Array Oper} {Q:Exit->Act->World->Prop} {a:Act} {w w':World} {o:Oper} {rest:List Oper} {v:Value}
theorem Du (hg:o.guard=none) (hd:∀ c,o.op ≠ .defer c) (hr:(execOp a.eval o).run P w = .ok (.value v) w') (hk:wpListIn (Bo none) n P ops Q rest (a.put o.dst v) w'):wpListIn (Bo none) n P ops Q (o::rest) a w :=
 wpListIn_plain hg fun K hK=>Gp.wpIn hd (AR hr (hK _ _ hk))
variable {r:EW}
theorem Xq {u:Nat} (hk:wpListIn (Bo none) n P ops Q rest (a.put (some t) (a.eval (.tmp u))) w):wpListIn (Bo none) n P ops Q (r.mk' (some t) (.move (.tmp u))::rest) a w :=
 Du rfl (fun c h=>by cases h) (by simp [EW.mk',execOp]) hk
theorem jk {u:Nat} (hk:wpListIn (Bo none) n P ops Q rest (a.put (some t) (a.eval (.tmp u))) w):wpListIn (Bo none) n P ops Q (r.mk' (some t) (.assign (.tmp u))::rest) a w :=
 Du rfl (fun c h=>by cases h) (by simp [EW.mk',execOp]) hk
theorem fI {u:Nat} {vs:Array Value} {x:Value} (hv:a.eval (.tmp u) = .tuple vs) (hx:vs[0]?=some x) (hk:wpListIn (Bo none) n P ops Q rest (a.put (some t) x) w) :
 wpListIn (Bo none) n P ops Q (r.mk' (some t) (.extract (.tmp u) 0)::rest) a w:=by
 refine Du (v:=x) rfl (fun c h=>by cases h) ?_ hk
 simp [EW.mk',execOp,hv,Instr.extract,hx]
variable {i:TypeInfo} {z:Value} {l:List UInt8}
theorem A7V {u:Nat} {ts te:TypeId} (hs:P.underlying ts=some (.slice te)) (hi:P.info? te=some i) (hz:i.zero=some z) (E_:z.cells.size=1) (Kc:i.size=1) (hv:a.eval (.tmp u)=Go.Proofs.encStr l) (hk:wpListIn (Bo none) n P ops Q rest (a.put (some t) (.slice (some ⟨w.heap.size,0,none⟩) 1 1)) (w.alloc (.cells #[Go.Proofs.encStr l] te))) :
 wpListIn (Bo none) n P ops Q (r.mk' (some t) (.buildSlice ts 1 #[(0, .tmp u)])::rest) a w:=by
 refine Du (v := .slice (some ⟨w.heap.size,0,none⟩) 1 1) rfl (fun c h=>by cases h) ?_ hk
 simp only [EW.mk',execOp];refine Ab ?_;obtain ⟨c,hc⟩:∃ c,z.cells = #[c]:=Array.size_eq_one_iff.1 E_;have hf:Instr.fill (fun i=>some (i * 1,1)) ((Array.range (1 * 1)).map (z.cells[· % z.cells.size]!)) [(0,Go.Proofs.encStr l)]=some #[Go.Proofs.encStr l]:=by
  have h1:(Array.range (1 * 1)).map (z.cells[· % z.cells.size]!) = #[c]:=by
   apply Array.ext (by simp)
   intro i h1 h2;have:i=0:=by simp at h2;omega
   subst this;simp [hc]
  rw [h1];rfl
 unfold Instr.buildSlice;have Aa:(sizeOf te).run P w = .ok 1 w:=by simp [sizeOf,typeInfo,hi,Kc]
 simp only [Sem.run_bind,run_underlying hs,Result.andThen_ok,Aa,Sem.run_ite];rw [if_neg (by omega),if_neg (by omega)]
 simp only [zeroValue,typeInfo,Sem.run_bind,run_program,Result.andThen_ok,hi,Sem.run_pure,hz];have:(Array.map (fun x=>(x.1,a.eval x.2)) #[(0,Operand.tmp u)]).toList=[(0,Go.Proofs.encStr l)]:=by simp [hv]
 simp only [this,hf];rfl
def Row (w:World) (base:Nat) (te:TypeId) (v:Value) (ss:List (List UInt8)):Prop :=
 (ss=[]/\∃ p,v = .slice p 0 0)\/w.ownsRow base te 1 v ss.length (ss.map Go.Proofs.encStr)
theorem append_nil {ts te ty:TypeId} (hs:P.underlying ts=some (.slice te)) (hi:P.info? te=some i) (Kc:i.size=1) (hb:i.bytes=16) (p:Option Addr) (y:Addr) (w:World) :
 (Builtin.append_ #[ts,ts] ty #[.slice p 0 0, .slice (some y) 1 1]).run P w=(Builtin.append_ #[ts,ts] ty #[.slice none 0 0, .slice (some y) 1 1]).run P w:=by
 have zC:¬ (281474976710656<Builtin.nextslicecap 1 0 * 16):=by decide
 cases p with
 | none=>rfl
 | some q =>
   have hl:∀ w',(loadCells q 0).run P w' = .ok #[] w':=fun w'=>rfl
   unfold Builtin.append_;simp [run_underlying hs,sizeOf,typeInfo,hi,Kc,hb,Builtin.lenOf,Builtin.firstCells,zC,hl]
variable {base:Nat} {ss:List (List UInt8)}
theorem B07 {s x:Nat} {ts te:TypeId} {g:Nat} (hs:P.underlying ts=some (.slice te)) (hi:P.info? te=some i) (hz:i.zero=some z) (E_:z.cells.size=1) (Kc:i.size=1) (hb:i.bytes=16) (oz:Row w base te (a.eval (.tmp s)) ss) (hx:a.eval (.tmp x) = .slice (some ⟨g,0,none⟩) 1 1) (hg:w.heap[g]?=some (.cells #[Go.Proofs.encStr l] te (0,0))) (hl:ss.length+1<=lim) (ol:base<=w.heap.size) (hk:∀ v' w',Row w' base te v' (ss++[l])->(∃ row,w.grownBy w' row/\∀ k,row=some k->base<=k/\∃ c T f,w.heap[k]?=some (.cells c T f))->wpListIn (Bo none) n P ops Q rest (a.put (some t) v') w') :
 wpListIn (Bo none) n P ops Q (r.mk' (some t) (.call { callee := .builtin .append,args := #[.tmp s, .tmp x],argTypes := #[ts,ts] })::rest) a w:=by
 have hl':ss.length+1<=4294967296:=hl;have Fq:∀ (j:Nat) u,[Go.Proofs.encStr l][j]?=some u->w.cell? ((⟨g,0,none⟩:Addr).add j)=some u:=by
  intro j u hu;cases j with
  | zero =>
    simp only [zeq,Option.some.injEq] at hu;subst hu;simp [World.cell?,Addr.add,hg]
  | succ j=>simp at hu
 have fin:∀ (v0:Value),w.ownsRow base te 1 v0 ss.length (ss.map Go.Proofs.encStr)->(Builtin.append_ #[ts,ts] r.type #[a.eval (.tmp s), .slice (some ⟨g,0,none⟩) 1 1]).run P w=(Builtin.append_ #[ts,ts] r.type #[v0, .slice (some ⟨g,0,none⟩) 1 1]).run P w ->
  wpListIn (Bo none) n P ops Q (r.mk' (some t) (.call { callee := .builtin .append,args := #[.tmp s, .tmp x],argTypes := #[ts,ts] })::rest) a w:=by
  intro v0 oz he;obtain ⟨v',w',h1,h2,h3,-⟩:=run_append_own (P:=P) w base ts r.type te i z 1 16 hs hi hz Kc hb E_ (by omega) v0 _ _ oz ⟨g,0,none⟩ 1 1 [Go.Proofs.encStr l] rfl Fq (by simp [Value.oneCell']) (by unfold maxLen;omega) (by omega) ol
  refine Du (v:=v') (w':=w') rfl (fun c h=>by cases h) ?_ (hk v' w' (.inr (by simpa using h2)) ⟨_,h3,fun k hk => ?_⟩)
  ·refine Ea (C:=jK P) (b := .append) rfl rfl ?_
   simp only [zJq,zjq,zrq,hx];exact Ab (he.trans h1)
  ·rcases oz.2 with ⟨rfl,_⟩ | ⟨g',cap,cur,rfl,e1,e2,-⟩
   ·simp [Value.ownBlock] at hk
   ·simp only [Value.ownBlock,Option.some.injEq] at hk
    subst hk;exact ⟨e1,_,_,_,e2⟩
 rcases oz with ⟨Xg,p,hv⟩ | oz
 ·subst Xg
  exact fin (.slice none 0 0) ⟨rfl, .inl ⟨rfl,rfl⟩⟩ (by rw [hv];exact append_nil hs hi Kc hb _ _ _)
 ·exact fin _ oz rfl
end
def CL (e:MapEntry):List UInt8 :=
 match e.key with
 | .string s=>s.data.toList
 | _=>[]
structure Und (q:KP) (a1:Act) (w1:World) (ens:Array MapEntry) (clk bm:Nat) (m:Nat) (got:List MapEntry) (a:Act) (w:World):Prop where
 size:a.tmps.size=a1.tmps.size
 defers:a.defers=a1.defers
 it:a.eval (.tmp q.it) = .pointer (some ⟨w1.heap.size,0,none⟩)
 row:Row w w1.heap.size q.te (a.eval (.tmp q.tl)) (got.map CL)
 iter:w.heap[w1.heap.size]?=some (.mapIter (some bm) clk (got.map (·.born)).toArray clk)
 mem:∀ e∈got,e∈ens.toList
 nodup:(got.map (·.born)).Nodup
 len:(leftOf ens (got.map (·.born)).toArray).size<=m
 grown:w1.grownBy w none
variable {w:World}
theorem h_ {w0 w':World} {row:Option Nat} (h:w0.grownBy w none) (g:w.grownBy w' row) (hb:∀ k,row=some k->w0.heap.size<=k):w0.grownBy w' none:=by
 refine ⟨g.os.trans h.os,g.tape.trans h.tape,g.output.trans h.output,Nat.le_trans h.size g.size,fun k hk _ => ?_⟩
 have h1:=h.block k hk (by simp)
 rw [<- h1];refine g.block k (Nat.lt_of_lt_of_le hk h.size) fun he => ?_
 have:=hb k he.symm;omega
theorem B2g {w':World} (h:w'.heap=w.heap) (o:Q3 w w'):w.grownBy w' none:=⟨o.os,o.tape,o.output,by rw [h];exact zoq _,fun k _ _=>by rw [h]⟩
theorem B4c {b:Nat} {o:Obj} {w0:World} (h:w0.grownBy w none) (hb:w0.heap.size<=b):w0.grownBy (Go.ChangeMaps.setBlock w b o) none :=
 ⟨h.os,h.tape,h.output,by simpa [Go.ChangeMaps.setBlock] using h.size,fun k hk _=>by
   simp only [Go.ChangeMaps.setBlock];rw [ziq (by omega)]
   exact h.block k hk (by simp)⟩
theorem Row.kept {w':World} {base:Nat} {te:TypeId} {ss:List (List UInt8)} (h:Row w base te v ss) (hk:∀ (b:Nat) c T f,w.heap[b]?=some (Obj.cells c T f)->w'.heap[b]?=some (Obj.cells c T f)):Row w' base te v ss:=by
 rcases h with h | ⟨h1,h2⟩
 ·exact .inl h
 ·refine .inr ⟨h1, ?_⟩
  rcases h2 with h2 | ⟨g,cap,cur,e1,e2,e3,e4⟩
  ·exact .inl h2
  ·exact .inr ⟨g,cap,cur,e1,e2,hk _ _ _ _ e3,e4⟩
theorem zU {α β : Type} (f : α -> β) {l:List α} (h:(l.map f).Nodup):l.Nodup:=List.Pairwise.of_map f (fun a b hn he=>hn (by rw [he])) h
theorem uW {α : Type} [DecidableEq α]:∀ {l m:List α},l.Nodup->(∀ x∈l,x∈m)->l.length<=m.length
 | [],m,_,_=>Nat.zero_le _
 | a::l,m,hn,hs=>by
   obtain ⟨h1,h2⟩:=zWq.1 hn;have h3:=uW (m:=m.erase a) h2 fun x hx=>(List.mem_erase_of_ne (fun h:x=a=>h1 (by rw [<- h];exact hx))).2 (hs x (z4q _ hx))
   have h4:=hs a (z7q ..);have h5:=List.length_pos_of_mem h4;rw [List.length_erase_of_mem h4] at h3;simp only [z6q];omega
theorem B4p {es:Array MapEntry} {l:List Nat} {e:MapEntry} (he:e∈(leftOf es l.toArray).toList):(leftOf es (l++[e.born]).toArray).size<(leftOf es l.toArray).size:=by
 unfold leftOf at he ⊢;rw [zOq] at he;have Aa:∀ p:MapEntry->Bool,(es.filter p).size=(es.toList.filter p).length:=fun p=>by rw [<- zOq,Array.length_toList]
 rw [Aa,Aa];have h1:es.toList.filter (fun x => !(l++[e.born]).toArray.contains x.born)=(es.toList.filter fun x => !l.toArray.contains x.born).filter fun x=>x.born != e.born:=by
  rw [List.filter_filter];refine List.filter_congr fun x _ => ?_
  simp only [List.contains_toArray,List.contains_append,Bool.not_or];rw [Bool.and_comm]
  congr 1
  by_cases h:x.born=e.born <;> simp [h]
 rw [h1];refine Nat.lt_of_not_le fun J3 => ?_
 have h2:=zsq (fun x:MapEntry=>x.born != e.born) (es.toList.filter fun x => !l.toArray.contains x.born)
 have h3:=List.length_filter_eq_length_iff.1 (Nat.le_antisymm h2 J3) e he;simp at h3
set_option maxHeartbeats 2000000 in
theorem B8a {P:Program} {q:KP} (ok:q.Ok P) {post:Code} {n:Nat} {E:Env} {st st2:St} {Q:Exit->Act->World->Prop} (Rl:J6 E st a w.heap) (H:q.mid P st=some st2) (K:∀ E' a' w',a'.defers=a.defers->J6 E' st2 a' w'.heap->Pr L8 E w.heap E' w'.heap->Q3 w w'->post.wpIn (Bo none) n P Q a' w'):(q.code post).wpIn (Bo none) n P Q a w:=by
 unfold KP.mid KP.A9c at H;refine wpIn_seq (wpIn_seq (wpIn_region ?_));have hr:List.range (q.pre6++[q.mr.mk' (some q.it) (.range q.tm (.tmp q.mm))]).toArray.size=List.range' 0 q.pre6.length++[q.pre6.length]:=by
  simp [List.range_succ,List.range_eq_range']
 rw [hr];refine A50 (C:=jK P) (R:=A8v) (ops:=q.pre6++[q.mr.mk' (some q.it) (.range q.tm (.tmp q.mm))]) (B9L P) (fun j o ho => ?_) (A6E H) Rl fun E1 st1 a1 w1 h1 d1 R1 P1 O1 => ?_
 ·rw [ztq,zBq (zbq.1 ho).1]
  exact ho
 obtain ⟨i,hi,h1⟩:=A9 h1;obtain ⟨p,hp,h1⟩:=A9 h1;obtain ⟨hc,h1⟩:=F4 h1;obtain ⟨dW,h1⟩:=L6 h1;simp only [Option.some.injEq] at h1;subst h1;simp only [z1q] at hc;obtain ⟨⟨zG,SL⟩,C1I⟩:=hc;have Yf:∀ t∈q.regs,t<a1.tmps.size:=fun t ht=>by
  have:=z8q.1 C1I t ht;rw [R1.size];simpa using this
 have em:=R1.src (P:=P) (t:=0) (x := .tmp q.mm) rfl;have hmm:(st1.get q.mm).2 = .map i:=by
  revert hi
  cases (st1.get q.mm).2 <;> simp [B7n]
 rw [hmm] at em;simp only [RR,J8] at em;obtain ⟨iE,em⟩:=em;have hsg:st1.sg[i]?=some (.map p.1 p.2):=by
  unfold Av at hp
  split at hp
  ·rename_i h;simp only [Option.some.injEq] at hp;subst hp;exact h
  ·cases hp
 have hRO:=R1.Q0 i _ hsg;simp only [RO] at hRO;obtain ⟨ens,clk,b1,b2,⟨b3,b4⟩,b5,b6⟩:=hRO;have el:=R1.src (P:=P) (t:=0) (x := .tmp q.tl) rfl;have iF:∃ p,a1.eval (.tmp q.tl) = .slice p 0 0:=by
  revert el SL
  cases (st1.get q.tl) with
  | mk d m =>
    intro SL el;unfold B1l at SL
    split at SL
    ·rename_i sz heq
     simp only [Prod.mk.injEq] at heq;obtain ⟨rfl,rfl⟩:=heq;simp only [RR,J8,RV,RC] at el;obtain ⟨⟨a0,len,cap,h1,h2,-⟩,⟨a1',n1,h3⟩,-⟩:=el;simp only [List.cons.injEq,and_true] at h1;rw [h1] at h3;simp only [Value.slice.injEq] at h3;obtain ⟨-,rfl,rfl⟩:=h3;simp only [z9q] at h2;subst h2;exact ⟨a0,h1⟩
    ·cases SL
 obtain ⟨inf,z,t1,t2,t3,t4,t5⟩:=ok.info;have Um:∀ (j:Nat) e,ens[j]?=some e->∃ d,p.2[j]?=some d/\e.key=Go.Proofs.encStr (CL e)/\CL e=JV d.1:=by
  intro j e he;have hj:j<p.2.length:=by rw [b3];exact (zcq.1 he).1
  obtain ⟨c1,c2,-⟩:=b4 j p.2[j] e (z0q hj) he;refine ⟨_,z0q hj, ?_⟩;rw [zG] at c1
  revert c1 c2
  cases p.2[j].1 <;> simp only [isKey,RV,Bool.not_true,Bool.false_and,zPq,false_implies,imp_false] <;> try (intro h;cases h)
  rename_i s
  all_goals (intro hk;simp [CL,JV,hk,Go.Proofs.encStr])
 have C1C:∀ e∈ens.toList,e.key=Go.Proofs.encStr (CL e):=fun e he=>by
  obtain ⟨j,hj,hje⟩:=zfq.1 he;obtain ⟨_,_,h,_⟩:=Um j e (by rw [Array.getElem?_eq_getElem (by simpa using hj)];simpa using hje)
  exact h
 have C1D:ens.toList.map CL=p.2.map fun e=>JV e.1:=by
  apply List.ext_getElem?;intro j;simp only [zFq,zaq];cases he:ens[j]? with
  | none =>
    have:p.2[j]?=none:=by
     rw [List.getElem?_eq_none_iff,b3];exact Array.getElem?_eq_none_iff.1 he
    rw [this];rfl
  | some e =>
    obtain ⟨d,h1,-,h2⟩:=Um j e he;rw [h1];simp [h2]
 have B7h:(ens.toList.map (·.born)).Nodup:=by
  rw [zvq,List.pairwise_iff_getElem];intro i j hi hj MN he;simp only [zMq] at hi hj;simp only [List.getElem_map] at he;have:=b6 i j _ _ (by rw [<- zaq];exact z0q hi) (by rw [<- zaq];exact z0q hj) he
  omega
 have B53:∀ x∈ens.toList,∀ y∈ens.toList,x.born=y.born->x=y:=by
  intro x hx y hy he;obtain ⟨i,hi,rfl⟩:=zfq.1 hx;obtain ⟨j,hj,rfl⟩:=zfq.1 hy;have:=b6 i j _ _ (by rw [<- zaq];exact z0q hi) (by rw [<- zaq];exact z0q hj) he
  subst this;rfl
 have hbm:E1.obj i<w1.heap.size:=(zcq.1 b1).1;have C3R:ens.size<=lim:=by rw [<- b3];exact dW
 rw [wpOpsIn_cons];unfold wpOpIn;have ho:(q.pre6++[q.mr.mk' (some q.it) (.range q.tm (.tmp q.mm))]).toArray[q.pre6.length]?=some (q.mr.mk' (some q.it) (.range q.tm (.tmp q.mm))):=by simp
 simp only [ho];rw [if_pos (by simp [Region.wanted,EW.mk'])]
 refine Gp.wpIn (fun c h=>by cases h) (AR (v := .pointer (some ⟨w1.heap.size,0,none⟩)) (w':=w1.alloc (.mapIter (some (E1.obj i)) clk #[] clk)) ?_ ?_)
 ·simp only [EW.mk',execOp]
  refine Ab ?_;rw [em];exact run_range_map w1 _ _ _ _ _ _ ok.hm b1
 show Code.wpIn _ _ _ _ _ _ _
 have hn:=ok.nodup;simp only [KP.regs,zWq,zgq,zpq,or_false,not_or,List.nodup_nil,and_true] at hn;obtain ⟨⟨n1,n2,n3,n4,n5,n6,n7,n8,n9,n10,n11,n12⟩,⟨-,m2,m3,m4,m5,m6,m7,m8,m9,m10,m11⟩,⟨l1,l2,l3,l4,l5,l6,l7,l8,l9,l10⟩,⟨k1,k2,k3,k4,k5,k6,k7,k8,k9⟩,⟨-,j2,j3,j4,j5,j6,j7,j8⟩,⟨i1,i2,i3,i4,i5,i6,i7⟩,⟨g1,g2,g3,g4,g5,g6⟩,⟨-,f2,f3,f4,f5⟩,⟨-,e2,e3,e4⟩,⟨d1',d2,d3⟩,⟨c1,c2⟩,_⟩:=hn;have B1y:=Yf q.tl (by simp [KP.regs])
 have B8H:=Yf q.it (by simp [KP.regs])
 have B1w:=Yf q.t21 (by simp [KP.regs])
 have B1x:=Yf q.t22 (by simp [KP.regs])
 have B8A:=Yf q.t23 (by simp [KP.regs])
 have B8B:=Yf q.t24 (by simp [KP.regs])
 have C0N:=Yf q.tk (by simp [KP.regs])
 have B8C:=Yf q.t25 (by simp [KP.regs])
 have B8D:=Yf q.t26 (by simp [KP.regs])
 have B8E:=Yf q.t27 (by simp [KP.regs])
 have B8F:=Yf q.t28 (by simp [KP.regs])
 have B8G:=Yf q.t29 (by simp [KP.regs])
 have C0F:q.t21≠q.it:=fun h=>n1 h.symm
 have C0G:q.t22≠q.it:=fun h=>n2 h.symm
 have C3g:q.t23≠q.it:=fun h=>n3 h.symm
 have C3h:q.t24≠q.it:=fun h=>n4 h.symm
 have rki:q.tk≠q.it:=fun h=>n5 h.symm
 have C3i:q.t25≠q.it:=fun h=>n6 h.symm
 have C3k:q.t26≠q.it:=fun h=>n7 h.symm
 have C3l:q.t27≠q.it:=fun h=>n8 h.symm
 have C3m:q.t28≠q.it:=fun h=>n9 h.symm
 have Qp:q.tl≠q.it:=fun h=>n10 h.symm
 have C3j:q.t25≠q.tk:=fun h=>i1 h.symm
 have C13:q.t26≠q.t25:=fun h=>g1 h.symm
 have C14:q.t27≠q.t25:=fun h=>g2 h.symm
 have C3n:q.t29≠q.tl:=fun h=>c1 h.symm
 have C3o:q.t30≠q.tl:=fun h=>c2 h.symm
 have done:∀ (O':Nat->Nat->Tag) (a3:Act) (w3:World) (v:Value),a3.tmps.size=a1.tmps.size->a3.defers=a1.defers->a3.eval (.tmp q.tl)=v->w1.grownBy w3 none->(∀ b o,b<w1.heap.size->O' b o=E1.O b o) ->
  (∀ b o,w3.heap.size<=b->O' b o = .other)->RV (Env.S { E1 with O:=O' }) w3.heap (Lt p.2) v->post.wpIn (Bo none) n P Q a3 w3:=by
  intro O' a3 w3 v s1 s2 s3 s4 s5 s6 s7;have hblk:∀ b,b<w1.heap.size->w3.heap[b]?=w1.heap[b]?:=fun b hb=>s4.block b hb (by simp)
  refine K { E1 with O:=O' } a3 w3 (s2.trans d1) ⟨?_, ?_, ?_, ?_,fun t u hu => ?_,fun s cs hs => ?_,fun j ob hj => ?_,s6⟩ (P1.trans ⟨s4.size,fun b hb=>by rw [hblk b hb];exact U6.refl _ _,fun b o hb _=>s5 b o hb,zoq _,fun _ _ _=>⟨rfl,rfl,rfl⟩,fun _ _=>rfl,DK rfl⟩) (O1.trans ⟨s4.os,s4.tape,s4.output⟩)
  ·rw [Uy];simp [blank,s1,R1.size]
  ·rw [A9o,Uy];simp [blank]
  ·rw [mq,Uy];simp [blank]
  ·rw [eX];simp only [blank,List.length_replicate];exact R1.n
  ·have om:∀ u,(blank st1.tm.length st1.sg.length).get u=(.undef, .val):=fun u=>by
    simp only [St.get,blank,z3q,zqq]
    split <;> rfl
   by_cases ht:q.tl=t
   ·subst ht
    rw [OW (by simp [blank];rw [<- R1.size];exact B1y) (by simp [blank])]
    have:u=v:=by
     rw [<- s3];simp [Act.eval,znq,hu]
    rw [this];exact s7
   ·rw [Yk ht,om]
    simp only [RR,J8,RV]
  ·simp only [mq,blank,z3q,zqq] at hs
   split at hs <;> simp at hs
  ·simp only [eX,blank,zqq] at hj
   split at hj <;> simp at hj
   subst hj;simp [RO]
 have fin:∀ m got a2 w2,Und q a1 w1 ens clk (E1.obj i) m got a2 w2->(∀ e∈ens.toList,e∈got)->(Code.seq (.region q.i10 #[q.A9p.mk' (some q.t29) (.move (.tmp q.tl)),q.A0K.mk' (some q.t30) (.call { callee := .value (.func q.f),args := #[.tmp q.t29],argTypes := #[q.ts] })] false) post).wpIn (Bo none) n P Q a2 w2:=by
  intro m got a2 w2 U WE;have C1G:got.Perm ens.toList:=(zwq (zU _ U.nodup) (zU _ B7h)).2 fun e=>⟨U.mem e,WE e⟩
  have B4g:(got.map CL).Perm (p.2.map fun e=>JV e.1):=by rw [<- C1D];exact C1G.map _
  have Dh:(got.map CL).length<=lim:=by rw [B4g.length_eq,zMq];exact dW
  have B7k:(got.map CL).length<=4294967296:=Dh;have B7m:Lt p.2 = .list 1 ((Hf (got.map CL)).map B6N):=by
   unfold Lt;rw [show Hf (p.2.map fun e=>JV e.1)=Hf (got.map CL) from mergeSort_of_perm B4g.symm]
  refine wpIn_seq (wpIn_region_list (show wpListIn _ _ _ _ _ [_,_] _ _ from Xq (wpListIn_plain rfl fun K' hK'=>Gp.wpIn (fun c h=>by cases h) ?_)))
  have XB:=U.size;have O8:(execOp (a2.put (some q.t29) (a2.eval (.tmp q.tl))).eval (q.A0K.mk' (some q.t30) (.call { callee := .value (.func q.f),args := #[.tmp q.t29],argTypes := #[q.ts] }))).run P w2 = .ok (.enter q.f #[a2.eval (.tmp q.tl)]) w2:=by
   have h29:(a2.put (some q.t29) (a2.eval (.tmp q.tl))).eval (.tmp q.t29)=a2.eval (.tmp q.tl):=DR (by rw [XB];exact B8G)
   have hf:∀ a:Act,a.eval (.func q.f) = .func (.func q.f) #[] #[]:=fun a=>rfl
   simp only [EW.mk',execOp,resolve,hf,h29,Deferred.ofValue,Sem.run_bind,Sem.run_pure,Result.andThen_ok,invoke,zJq,zjq,zrq];rw [U_ ok.go];rfl
  have e3:∀ u,(((a2.put (some q.t29) (a2.eval (.tmp q.tl))).put (some q.t30) u).eval (.tmp q.tl))=a2.eval (.tmp q.tl):=fun u=>by
   rw [U4 C3o,U4 C3n]
  refine fM (C:=jK P) O8 ?_;have row:=U.row;have nil:∀ p0,got.map CL=[]->a2.eval (.tmp q.tl) = .slice p0 0 0->Calls P q.f #[a2.eval (.tmp q.tl)] w2 fun e w'=>∃ v,e = .returned v/\K' (((a2.put (some q.t29) (a2.eval (.tmp q.tl)))).put (some q.t30) v) w':=by
   intro p0 h0 hv;rw [hv];refine (ok.B7F p0 0 w2).mono ?_;rintro e w' ⟨rfl,rfl⟩;refine ⟨_,rfl,hK' _ _ ?_⟩;rw [<- hv];refine done (fun b o=>if b<w1.heap.size then E1.O b o else .other) _ _ _ (by rw [P5,P5,XB]) U.defers (e3 _) U.grown (fun b o hb=>if_pos hb) (fun b o hb=>if_neg (by have:=U.grown.size;omega)) ?_
   rw [B7m,h0,hv,show Hf []=[] by simp [Hf]]
   exact LY rfl (zoq _) (fun _=>rfl) (fun h=>absurd rfl h) fun x hx=>⟨fun h=>absurd h (Nat.lt_irrefl _),by simp only [zrq,Dc]⟩
  rcases row with ⟨h0,p0,hv⟩ | ⟨-,⟨hv,h0⟩ | ⟨g,cap,cur,hv,ol,hb,hc1,hc2,hc3,hc4⟩⟩
  ·exact nil p0 h0 hv
  ·exact nil none (z2q h0) hv
  ·have hH:Holds Go.Proofs.encStr w2 g 0 (got.map CL).toArray:=Go.holds_of_block hb (by simpa using hc4)
   have hgl:g<w2.heap.size:=(zcq.1 hb).1
   show Calls P q.f #[a2.eval (.tmp q.tl)] w2 _
   rw [hv];refine (ok.sort g 0 cap (got.map CL) w2 hH hgl (by omega)).mono ?_
   rintro e w' ⟨rfl,nn,os,rfl⟩;refine ⟨_,rfl,hK' _ _ ?_⟩;rw [<- hv];have hs:=Go.heap_sorted (n:=nn) (os:=os) ((got.map CL).mergeSort fun x y=>decide (x<=y)).toArray hb
   have hg:=Go.grownBy_sorted (w:=w2) (g:=g) (n:=nn) (os:=os) ((got.map CL).mergeSort fun x y=>decide (x<=y)).toArray
   refine done (fun b o=>if b<w1.heap.size then E1.O b o else if b=g/\o<(got.map CL).length then .shut else .other) _ _ _ (by rw [P5,P5,XB]) U.defers (e3 _) (h_ U.grown hg fun k hk=>by cases hk;exact ol) (fun b o hb=>if_pos hb) (fun b o hb => ?_) ?_
   ·have h1:=U.grown.size
    have h2:=hg.size;rw [if_neg (by omega),if_neg (by omega)]
   ·rw [B7m,hv]
    have hl:(Hf (got.map CL)).length=(got.map CL).length:=(List.mergeSort_perm _ _).length_eq;refine LY ((show ((Hf (got.map CL)).map B6N).length=(Hf (got.map CL)).length by simp).trans hl).symm hc1 (fun h=>by cases h) (fun _=>Nat.one_pos) fun x hx => ?_
    simp only [Option.some.injEq] at hx;subst hx;refine ⟨fun _=>rfl,Dp.2 fun j d hd => ?_⟩
    simp only [zFq,Option.map_eq_some_iff] at hd;obtain ⟨l,hl1,rfl⟩:=hd;refine ⟨[.string ⟨l.toArray⟩],rfl,fun x u hu => ?_,rfl⟩
    have hj:j<(got.map CL).length:=by rw [<- hl];exact (zbq.1 hl1).1
    cases x with
    | succ x=>simp at hu
    | zero =>
      simp only [zeq,Option.some.injEq] at hu;subst hu;constructor
      ·have Fe:(got.map CL).length<=cur.size:=by rw [hc3];omega
       have ht:=Go.take_putCells cur (Hf (got.map CL)) (by rw [hl];exact Fe)
       have h1:((putCells Go.Proofs.encStr 0 (Hf (got.map CL)).toArray cur).toList.take (Hf (got.map CL)).length)[j]?=((Hf (got.map CL)).map Go.Proofs.encStr)[j]?:=by rw [ht]
       rw [List.getElem?_take_of_lt (by rw [hl];exact hj),zFq,hl1] at h1
       have h2:(putCells Go.Proofs.encStr 0 (Hf (got.map CL)).toArray cur)[j]?=some (Go.Proofs.encStr l):=by simpa using h1
       unfold hc;rw [hs]
       show (putCells Go.Proofs.encStr 0 (Hf (got.map CL)).toArray cur)[0+j * 1+0]?=_
       rw [show 0+j * 1+0=j by omega]
       exact h2
      ·simp only [Env.S]
       rw [if_neg (by omega),if_pos (by simp;exact by simpa using hj)]
 refine wpIn_block (wpIn_loop_rounds (ens.size+1) ?_);have round:∀ (Kn:Act->World->Prop) m got a2 w2,Und q a1 w1 ens clk (E1.obj i) m got a2 w2->(∀ got' a3 w3,0<m->Und q a1 w1 ens clk (E1.obj i) (m-1) got' a3 w3->Kn a3 w3)->Code.wpIn (Bo none) n P
  (.seq (.region q.i7 #[q.A48.mk' (some q.t21) (.next (.tmp q.it) false),q.B2K.mk' (some q.t22) (.extract (.tmp q.t21) 0)] false)
    (.seq (.cond (.tmp q.t22) .skip (.exit q.b0))
      (.block q.b1 (.seq (.region q.i8 #[q.A47.mk' (some q.t23) (.entry (.tmp q.it)),q.A79.mk' (some q.t24) (.extract (.tmp q.t23) 0),q.B2J.mk' (some q.tk) (.assign (.tmp q.t24))] false)
        (.region q.i9 #[q.rMv.mk' (some q.t25) (.move (.tmp q.tl)),q.B2L.mk' (some q.t26) (.move (.tmp q.tk)),q.rBs.mk' (some q.t27) (.buildSlice q.ts 1 #[(0, .tmp q.t26)]),
          q.B2I.mk' (some q.t28) (.call { callee := .builtin .append,args := #[.tmp q.t25, .tmp q.t27],argTypes := #[q.ts,q.ts] }),q.A78.mk' (some q.tl) (.assign (.tmp q.t28))] false)))))
  (Exit.then Kn (Exit.inBlock q.b0 (Exit.then ((Code.seq (.region q.i10 #[q.A9p.mk' (some q.t29) (.move (.tmp q.tl)),q.A0K.mk' (some q.t30) (.call { callee := .value (.func q.f),args := #[.tmp q.t29],argTypes := #[q.ts] })] false) post).wpIn (Bo none) n P Q) Q))) a2 w2:=by
  intro Kn m got a2 w2 U hK;have XB:=U.size;have VK:w2.heap[E1.obj i]?=some (.map ens clk):=by rw [U.grown.block _ hbm (by simp)];exact b1
  have hold:∀ x∈ens.toList,x.born<clk:=fun x hx=>by
   obtain ⟨j,hj,rfl⟩:=zfq.1 hx;exact b5 j _ (by rw [<- zaq];exact z0q hj)
  refine wpIn_seq (wpIn_region_list (show wpListIn _ _ _ _ _ [_,_] _ _ from ?_))
  rcases run_next_at (P:=P) w2 q.A48.type _ _ clk clk _ ens clk U.iter VK hold (zoq _) with ⟨h0,O8⟩ | ⟨e,he,w3,hw3,O8⟩
  ·-- nothing is left
   refine Du (v := .tuple #[.bool false]) rfl (fun c h=>by cases h) (by simp only [EW.mk',execOp,U.it];exact Ab O8) ?_
   refine fI (DR (by rw [XB];exact B1w)) (x := .bool false) rfl ?_
   show Code.wpIn _ _ _ _ _ _ _
   refine wpIn_seq (wpIn_cond_false (DR (by rw [P5,XB];exact B1x)) (wpIn_exit ?_))
   show Exit.inBlock q.b0 _ (.exit q.b0) _ _
   simp only [Exit.inBlock,if_true];refine fin m got _ _ ⟨by rw [P5,P5,XB],U.defers,by rw [U4 C0G];exact (U4 C0F).trans U.it, ?_,U.iter,U.mem,U.nodup,U.len,U.grown⟩ fun x hx => ?_
   ·have:((a2.put (some q.t21) (.tuple #[.bool false])).put (some q.t22) (.bool false)).eval (.tmp q.tl)=a2.eval (.tmp q.tl):=by rw [U4 l8,U4 m9]
    show Row w2 _ _ (((a2.put (some q.t21) (.tuple #[.bool false])).put (some q.t22) (.bool false)).eval (.tmp q.tl)) _
    rw [this];exact U.row
   ·have h1:leftOf ens (got.map (·.born)).toArray = #[]:=Array.eq_empty_of_size_eq_zero h0
    unfold leftOf at h1;rw [Array.filter_eq_empty_iff] at h1;have h2:=h1 x (by simpa using hx)
    simp only [zQq,Bool.not_eq_false] at h2;have h3:x.born∈got.map (·.born):=by simpa using h2
    obtain ⟨y,hy,hyx⟩:=zIq.1 h3
    rwa [B53 y (U.mem y hy) x hx hyx] at hy
  ·-- an entry has come
   have hex:e∈ens.toList/\e.born∉got.map (·.born):=by
    unfold leftOf at he;simpa using he
   obtain ⟨hee,heb⟩:=hex;have A8Z:w3.heap=w2.heap:=by rcases hw3 with rfl | rfl <;> rfl
   have C27:Q3 w2 w3:=by rcases hw3 with rfl | rfl <;> exact ⟨rfl,rfl,rfl⟩
   obtain ⟨w4,hw4⟩:∃ w4,Go.ChangeMaps.setBlock w3 w1.heap.size (.mapIter (some (E1.obj i)) clk ((got.map (·.born)).toArray.push e.born) clk)=w4:=⟨_,rfl⟩;rw [hw4] at O8;have C0b:w1.heap.size<w3.heap.size:=by rw [A8Z];exact (zcq.1 U.iter).1
   have B51:w4.heap[w1.heap.size]?=some (.mapIter (some (E1.obj i)) clk ((got.map (·.born)).toArray.push e.born) clk):=by
    rw [<- hw4];exact zkq C0b
   have B4f:∀ b,b≠w1.heap.size->w4.heap[b]?=w2.heap[b]?:=fun b hb=>by
    rw [<- hw4,<- A8Z];exact ziq (fun h=>hb h.symm)
   have C25:w4.heap.size=w2.heap.size:=by rw [<- hw4,<- A8Z];simp [Go.ChangeMaps.setBlock]
   have B93:w1.grownBy w4 none:=by
    rw [<- hw4];exact B4c (h_ U.grown (B2g A8Z C27) (by simp)) (zoq _)
   have hb4:w4.heap[E1.obj i]?=some (.map ens clk):=by rw [B4f _ (by omega)];exact VK
   have C1J:Row w4 w1.heap.size q.te (a2.eval (.tmp q.tl)) (got.map CL):=U.row.kept fun b c T f hb=>by
    rw [B4f b]
    ·exact hb
    ·rintro rfl
     rw [U.iter] at hb;cases hb
   refine Du (v := .tuple #[.bool true,e.key,e.val]) (w':=w4) rfl (fun c h=>by cases h) (by simp only [EW.mk',execOp,U.it];exact Ab O8) ?_
   refine fI (DR (by rw [XB];exact B1w)) (x := .bool true) rfl ?_
   show Code.wpIn _ _ _ _ _ _ _
   refine wpIn_seq (wpIn_cond_true (DR (by rw [P5,XB];exact B1x)) (wpIn_skip ?_))
   show Code.wpIn _ _ _ _ _ _ _
   obtain ⟨a3,ha3⟩:∃ a3,((a2.put (some q.t21) (.tuple #[.bool true,e.key,e.val])).put (some q.t22) (.bool true))=a3:=⟨_,rfl⟩;have s3:a3.tmps.size=a1.tmps.size:=by rw [<- ha3,P5,P5,XB]
   have it3:a3.eval (.tmp q.it) = .pointer (some ⟨w1.heap.size,0,none⟩):=by rw [<- ha3,U4 C0G,U4 C0F];exact U.it
   have tl3:a3.eval (.tmp q.tl)=a2.eval (.tmp q.tl):=by rw [<- ha3,U4 l8,U4 m9]
   have df3:a3.defers=a1.defers:=by rw [<- ha3];exact U.defers
   show Code.wpIn _ _ _ _ _ ((a2.put (some q.t21) (.tuple #[.bool true,e.key,e.val])).put (some q.t22) (.bool true)) _
   rw [ha3];clear O8;refine wpIn_block (wpIn_seq (wpIn_region_list (show wpListIn _ _ _ _ _ [_,_,_] _ _ from ?_)))
   refine Du (v := .tuple #[e.key,e.val]) (w':=w4) rfl (fun c h=>by cases h) (by simp only [EW.mk',execOp,it3];exact Ab (run_entry_at w4 _ _ clk _ ens clk e B51 hb4 hee B7h)) ?_
   refine fI (DR (by rw [s3];exact B8A)) (x:=e.key) rfl (jk ?_)
   show Code.wpIn _ _ _ _ _ _ _
   have C2S:(((a3.put (some q.t23) (.tuple #[e.key,e.val])).put (some q.t24) e.key).eval (.tmp q.t24))=e.key:=DR (by rw [P5,s3];exact B8B)
   obtain ⟨a4,ha4⟩:∃ a4,(((a3.put (some q.t23) (.tuple #[e.key,e.val])).put (some q.t24) e.key).put (some q.tk) e.key)=a4:=⟨_,rfl⟩;have s4:a4.tmps.size=a1.tmps.size:=by rw [<- ha4,P5,P5,P5,s3]
   have it4:a4.eval (.tmp q.it) = .pointer (some ⟨w1.heap.size,0,none⟩):=by rw [<- ha4,U4 rki,U4 C3h,U4 C3g];exact it3
   have tl4:a4.eval (.tmp q.tl)=a2.eval (.tmp q.tl):=by rw [<- ha4,U4 i5,U4 j6,U4 k7];exact tl3
   have tk4:a4.eval (.tmp q.tk)=Go.Proofs.encStr (CL e):=by rw [<- ha4,DR (by rw [P5,P5,s3];exact C0N)];exact C1C e hee
   have df4:a4.defers=a1.defers:=by rw [<- ha4];exact df3
   show Code.wpIn _ _ _ _ _ (((a3.put (some q.t23) (.tuple #[e.key,e.val])).put (some q.t24) e.key).put (some q.tk) (((a3.put (some q.t23) (.tuple #[e.key,e.val])).put (some q.t24) e.key).eval (.tmp q.t24))) _
   rw [C2S,ha4];refine wpIn_region_list (show wpListIn _ _ _ _ _ [_,_,_,_,_] _ _ from Xq (Xq ?_))
   rw [tl4,U4 C3j,tk4];refine A7V ok.hs t1 t2 t3 t4 (l:=CL e) (DR (by rw [P5,s4];exact B8D)) ?_
   have B98:(got.map (·.born)++[e].map (·.born)).Nodup:=zRq.2 ⟨U.nodup,by simp,fun x hx y hy=>by simp at hy;subst hy;rintro rfl;exact heb hx⟩
   have C3N:=B4p (es:=ens) (l:=got.map (·.born)) (e:=e) he;have C3U:w1.heap.size<w4.heap.size:=by rw [C25,<- A8Z];exact C0b
   have B74:(got.map CL).length+1<=lim:=by
    have h1:((got++[e]).map (·.born)).length<=(ens.toList.map (·.born)).length:=by
     refine uW (by rw [zCq];exact B98) fun x hx => ?_
     obtain ⟨y,hy,rfl⟩:=zIq.1 hx;rcases z5q.1 hy with hy | hy
     ·exact zxq (U.mem y hy)
     ·rw [zhq.1 hy];exact zxq hee
    simp at h1;simp;omega
   refine B07 (base:=w1.heap.size) (g:=w4.heap.size) (l:=CL e) ok.hs t1 t2 t3 t4 t5 (ss:=got.map CL) ?_ (DR (by rw [P5,P5,s4];exact B8E)) (World.alloc_heap_new _ _) B74 (by have:=B93.size;simp;omega) ?_
   ·have:(((a4.put (some q.t25) (a2.eval (.tmp q.tl))).put (some q.t26) (Go.Proofs.encStr (CL e))).put (some q.t27) (.slice (some ⟨w4.heap.size,0,none⟩) 1 1)).eval (.tmp q.t25)=a2.eval (.tmp q.tl):=by
     rw [U4 C14,U4 C13,DR (by rw [s4];exact B8C)]
    rw [this];exact C1J.kept fun b c T f hb=>(Go.RowKit.Below.heap_alloc _ _ _ (zcq.1 hb).1).trans hb
   ·rintro v' w6 C1K ⟨row,hg6,oz⟩
    refine jk ?_;have hr6:some w1.heap.size≠row:=fun h=>by
     obtain ⟨-,c,T,f,h1⟩:=oz _ h.symm;rw [Go.RowKit.Below.heap_alloc _ _ _ (by omega),B51] at h1
     cases h1
    show Kn _ _
    refine hK (got++[e]) _ _ ?_ ?_
    ·have:=U.len
     omega
    ·refine ⟨by simp only [P5];exact s4,by simp only [Va];exact df4, ?_, ?_, ?_, ?_, ?_, ?_, ?_⟩
     ·rw [U4 Qp,U4 C3m,U4 C3l,U4 C3k,U4 C3i];exact it4
     ·rw [DR (by simp only [P5];rw [s4];exact B1y),DR (by simp only [P5];rw [s4];exact B8F),zCq]
      exact C1K
     ·rw [hg6.block _ (by simp;omega) hr6,Go.RowKit.Below.heap_alloc _ _ _ (by omega),B51]
      simp
     ·intro x hx
      rcases z5q.1 hx with hx | hx
      ·exact U.mem x hx
      ·rw [zhq.1 hx];exact hee
     ·rw [zCq]
      exact B98
     ·have:=U.len
      rw [zCq]
      show (leftOf ens (got.map (·.born)++[e.born]).toArray).size<=_
      omega
     ·refine h_ (row:=row) (h_ (w':=w4.alloc (.cells #[Go.Proofs.encStr (CL e)] q.te)) (row:=none) B93 ⟨rfl,rfl,rfl,by simp,fun k hk _=>Go.RowKit.Below.heap_alloc _ _ _ hk⟩ (by simp)) hg6 fun k hk=>(oz k hk).1
 have rounds:∀ m got a2 w2,Und q a1 w1 ens clk (E1.obj i) m got a2 w2->Code.roundsIn (Bo none) n P
  (.seq (.region q.i7 #[q.A48.mk' (some q.t21) (.next (.tmp q.it) false),q.B2K.mk' (some q.t22) (.extract (.tmp q.t21) 0)] false)
    (.seq (.cond (.tmp q.t22) .skip (.exit q.b0))
      (.block q.b1 (.seq (.region q.i8 #[q.A47.mk' (some q.t23) (.entry (.tmp q.it)),q.A79.mk' (some q.t24) (.extract (.tmp q.t23) 0),q.B2J.mk' (some q.tk) (.assign (.tmp q.t24))] false)
        (.region q.i9 #[q.rMv.mk' (some q.t25) (.move (.tmp q.tl)),q.B2L.mk' (some q.t26) (.move (.tmp q.tk)),q.rBs.mk' (some q.t27) (.buildSlice q.ts 1 #[(0, .tmp q.t26)]),
          q.B2I.mk' (some q.t28) (.call { callee := .builtin .append,args := #[.tmp q.t25, .tmp q.t27],argTypes := #[q.ts,q.ts] }),q.A78.mk' (some q.tl) (.assign (.tmp q.t28))] false)))))
  (Exit.inBlock q.b0 (Exit.then ((Code.seq (.region q.i10 #[q.A9p.mk' (some q.t29) (.move (.tmp q.tl)),q.A0K.mk' (some q.t30) (.call { callee := .value (.func q.f),args := #[.tmp q.t29],argTypes := #[q.ts] })] false) post).wpIn (Bo none) n P Q) Q)) (m+1) a2 w2:=by
  intro m
  induction m with
  | zero=>exact fun got a2 w2 U=>round _ 0 got a2 w2 U fun _ _ _ h=>absurd h (Nat.lt_irrefl _)
  | succ m ih=>exact fun got a2 w2 U=>round _ (m+1) got a2 w2 U fun got' a3 w3 _ U'=>ih got' a3 w3 U'
 refine rounds ens.size [] _ _ ⟨by rw [P5],rfl,DR B8H, ?_, ?_,by simp,by simp, ?_, ?_⟩
 ·obtain ⟨p0,hp0⟩:=iF
  have:(a1.put (some q.it) (.pointer (some ⟨w1.heap.size,0,none⟩))).eval (.tmp q.tl)=a1.eval (.tmp q.tl):=U4 n10;exact .inl ⟨rfl,_,this.trans hp0⟩
 ·rw [World.alloc_heap_new];rfl
 ·unfold leftOf;exact Array.size_filter_le
 ·exact ⟨rfl,rfl,rfl,by simp,fun k hk _=>Go.RowKit.Below.heap_alloc _ _ _ hk⟩
end Go.Su

/-
 THE DATA MACHINE, part 37: the library's copy of a slice.
-/
namespace Go.Su
variable (c:Code) (p:List Bool)
def B6w:List Oper :=
 match (sub p c []).1 with
 | .region _ ops _=>ops.toList
 | _=>[]
def FM (j:Nat):EW :=
 match (B6w c p)[j]? with
 | some o=>⟨o.type,o.pos,o.after⟩
 | none=>⟨0, "",#[]⟩
def B62 (j:Nat):TypeId :=
 match (B6w c p)[j]? with
 | some o =>
   match o.op with
   | .binOp _ _ _ _ t=>t
   | _=>0
 | none=>0
def B1F:Nat->Code->List Code
 | n+1, .seq a b=>a::B1F n b
 | _,_=>[]
def B1g:Nat->Code->Code
 | n+1, .seq _ b=>B1g n b
 | _,c=>c
structure ClP where
 i0:Nat
 i1:Nat
 i2:Nat
 i3:Nat
 r0:EW
 r1:EW
 r2:EW
 r3:EW
 r4:EW
 r5:EW
 r6:EW
 r7:EW
 ts:TypeId
 ty:TypeId
def ClP.code (q:ClP):Code :=
 .seq (.region q.i0 #[q.r0.mk' (some 2) (.assign (.const (.slice none 0 0)))] false)
  (.seq (.seq (.region q.i1 #[q.r1.mk' (some 3) (.move (.tmp 0)),q.r2.mk' (some 4) (.binOp .eql q.ts (.tmp 3) (.const (.slice none 0 0)) q.ty)] false)
    (.cond (.tmp 4) (.seq (.region q.i2 #[q.r3.mk' (some 2) (.assign (.const (.slice none 0 0)))] false) .ret) .skip))
    (.seq (.region q.i3 #[q.r4.mk' (some 5) (.buildSlice q.ts 0 #[]),q.r5.mk' (some 6) (.move (.tmp 0)),
      q.r6.mk' (some 7) (.call { callee := .builtin .append,args := #[.tmp 5, .tmp 6],argTypes := #[q.ts,q.ts] }),q.r7.mk' (some 2) (.assign (.tmp 7))] false) .ret))
section
variable {P:Program} {n:Nat} {ops:Array Oper} {Q:Exit->Act->World->Prop} {a:Act} {w:World} {rest:List Oper} {r:EW} {t:Nat}
theorem A0c {v:Value} (hk:wpListIn (Bo none) n P ops Q rest (a.put (some t) v) w):wpListIn (Bo none) n P ops Q (r.mk' (some t) (.assign (.const v))::rest) a w :=
 Du rfl (fun c h=>by cases h) (by simp [EW.mk',execOp,Act.eval]) hk
theorem B08 {u:Nat} {ts te ty:TypeId} {b:Option Addr} {l c:Nat} (hs:P.underlying ts=some (.slice te)) (hv:a.eval (.tmp u) = .slice b l c) (hk:wpListIn (Bo none) n P ops Q rest (a.put (some t) (.bool b.isNone)) w):wpListIn (Bo none) n P ops Q (r.mk' (some t) (.binOp .eql ts (.tmp u) (.const (.slice none 0 0)) ty)::rest) a w:=by
 refine Du (v := .bool b.isNone) rfl (fun c h=>by cases h) ?_ hk
 simp only [EW.mk',execOp,hv];exact Ab (Go.Lib.run_eql_slice_nil w ts te b l c 0 0 hs)
theorem A6a {ts te:TypeId} {i:TypeInfo} (hs:P.underlying ts=some (.slice te)) (hi:P.info? te=some i) (hk:wpListIn (Bo none) n P ops Q rest (a.put (some t) (.slice (some ⟨w.heap.size,0,none⟩) 0 0)) (w.alloc (.cells #[] te))) :
 wpListIn (Bo none) n P ops Q (r.mk' (some t) (.buildSlice ts 0 #[])::rest) a w:=by
 refine Du (v := .slice (some ⟨w.heap.size,0,none⟩) 0 0) rfl (fun c h=>by cases h) ?_ hk
 simp only [EW.mk',execOp];refine Ab ?_;unfold Instr.buildSlice;have Aa:(sizeOf te).run P w = .ok i.size w:=by simp [sizeOf,typeInfo,hi]
 simp only [Sem.run_bind,run_underlying hs,Result.andThen_ok,Aa,Sem.run_ite];rw [if_neg (by simp),if_pos (by simp)]
 simp only [Sem.run_pure,Result.andThen_ok];have:Instr.fill (fun j=>some (j * i.size,i.size)) ((Array.range (0 * i.size)).map ((#[]:Array Value)[· % (#[]:Array Value).size]!)) (Array.map (fun x:Nat × Operand=>(x.1,a.eval x.2)) #[]).toList=some #[]:=by
  rw [zSq];simp [Instr.fill]
 simp only [this];rfl
end
theorem A2S {P:Program} {f:FuncId} {fn:Func} {q:ClP} {sz:Nat} (Aa:A32 P q.ts q.ts=some sz) (hf:P.funcs[f]?=some fn) (hb:fn.body=some q.code) (B56:fn.results = #[.tmp 2]) (hnt:fn.ntmps=8):aC P f sz:=by
 intro S w v ds hl hS hv;obtain ⟨e,e',z,inf,zv,hu,Ia,hz,E_,hpos,AY,dV,Pv,VO⟩:=Zb Aa;rw [hu] at Ia;simp only [Option.some.injEq,TypeDesc.slice.injEq] at Ia;subst Ia;have Eg:inf.size=sz:=by
  obtain ⟨i',d',q1,-,q2,-⟩:=GV hz;rw [AY] at q1;simp only [Option.some.injEq] at q1;rw [<- E_,q2,q1]
 obtain ⟨b,len,cap,all,rfl,f1,f2,f3,f4,f5,f6,f7⟩:=PI (P:=P) hv;have fin:∀ (a:Act) (v:Value) (w1:World),a.defers=[]->a.tmps.getD 2 undef=v->∀ R:Ending->World->Prop,R (.returned v) w1->bodyPost P fn R .ret a w1:=by
  intro a v w1 h1 h2 R h3;refine ⟨h1,v, ?_,h3⟩;rw [pR,B56,<- h2];simp [Ko]
 refine (callsIn_wide (n:=0)).1 (callsIn_of_wp hf hb trivial ?_);rw [hnt]
 show Code.wpIn (Bo none) 0 P _ _ _ _
 have C2V:(#[Value.slice b len cap]++Array.replicate (8 - #[Value.slice b len cap].size) undef:Array Value) = #[.slice b len cap,undef,undef,undef,undef,undef,undef,undef]:=by rfl
 rw [C2V];refine wpIn_seq (wpIn_region_list (show wpListIn _ _ _ _ _ [_] _ _ from A0c ?_))
 refine wpIn_seq (wpIn_seq (wpIn_region_list (show wpListIn _ _ _ _ _ [_,_] _ _ from Xq (B08 (b:=b) (l:=len) (c:=cap) hu rfl ?_))))
 cases b with
 | none =>
   have h0:=f3 rfl;have iC:ds=[]:=z2q (by omega)
   subst iC;refine wpIn_cond_true rfl (wpIn_seq (wpIn_region_list (show wpListIn _ _ _ _ _ [_] _ _ from A0c ?_)))
   show Code.wpIn _ _ _ Code.ret _ _ _
   refine wpIn_ret ?_;dsimp only [Exit.then];exact fin _ _ _ rfl rfl _ ⟨none,0,0,0,rfl,by simp,by simp,by simp,by simp,zoq _,Q3.refl _,fun _ _=>rfl,by simp⟩
 | some p =>
   refine wpIn_cond_false rfl (wpIn_skip ?_);refine wpIn_seq (wpIn_region_list (show wpListIn _ _ _ _ _ [_,_,_,_] _ _ from A6a hu AY (Xq ?_)))
   have hw1:∀ w':World,w'.heap=(w.alloc (.cells #[] e)).heap->(Builtin.firstCells sz len (Value.slice (some p) len cap)).run P w' = .ok all.toArray w':=by
    intro w' hw'
    show (loadCells p (len * sz)).run P w'=_
    obtain ⟨hp,hc⟩:=f5 p rfl;have hl2:len * sz=all.length:=by rw [f4.1,f1]
    by_cases h0:0<cap
    ·rw [hl2,hp h0]
     refine WH fun j u hu => ?_
     rw [hw'];have h3:=(hc j u hu).1;have h4:w.heap[p.block]?≠none:=fun h=>by simp [Su.hc,h] at h3
     have h5:p.block<w.heap.size:=by
      rcases Nat.lt_or_ge p.block w.heap.size with h | h
      ·exact h
      ·exact absurd (Array.getElem?_eq_none h) h4
     unfold Su.hc at h3 ⊢;rw [show (w.alloc (.cells #[] e)).heap[p.block]?=w.heap[p.block]? from Go.RowKit.Below.heap_alloc _ _ _ h5]
     exact h3
    ·have h0:len=0:=by omega
     have h9:all=[]:=z2q (by rw [<- hl2,h0];simp)
     rw [h9,h0,zSq];rfl
   have go:∀ (v':Value) (w':World),(Builtin.append_ #[q.ts,q.ts] q.r6.type #[.slice (some ⟨w.heap.size,0,none⟩) 0 0, .slice (some p) len cap]).run P (w.alloc (.cells #[] e)) = .ok v' w'->∀ R:Ending->World->Prop,R (.returned v') w' ->
    wpListIn (Bo none) 0 P #[q.r4.mk' (some 5) (.buildSlice q.ts 0 #[]),q.r5.mk' (some 6) (.move (.tmp 0)),q.r6.mk' (some 7) (.call { callee := .builtin .append,args := #[.tmp 5, .tmp 6],argTypes := #[q.ts,q.ts] }),q.r7.mk' (some 2) (.assign (.tmp 7))]
     (Exit.then (Code.ret.wpIn (Bo none) 0 P (bodyPost P fn R)) (bodyPost P fn R)) [q.r6.mk' (some 7) (.call { callee := .builtin .append,args := #[.tmp 5, .tmp 6],argTypes := #[q.ts,q.ts] }),q.r7.mk' (some 2) (.assign (.tmp 7))]
     { tmps := #[.slice (some p) len cap,undef, .slice none 0 0, .slice (some p) len cap, .bool false, .slice (some ⟨w.heap.size,0,none⟩) 0 0, .slice (some p) len cap,undef],defers:=[] } (w.alloc (.cells #[] e)):=by
    intro v' w' hr R hR;refine Du (v:=v') (w':=w') rfl (fun c h=>by cases h) ?_ (jk ?_)
    ·refine Ea (C:=jK P) (b := .append) rfl rfl ?_
     simp only [zJq,zjq,zrq];exact Ab hr
    ·show Code.wpIn _ _ _ Code.ret _ _ _
     refine wpIn_ret ?_
     show bodyPost P fn R .ret _ _
     exact fin _ _ _ rfl rfl _ hR
   by_cases iC:ds=[]
   ·subst iC
    have h0:len=0:=f1;have h9:all=[]:=z2q (by rw [f4.1];simp)
    refine go _ (w.alloc (.cells #[] e)) (JY (n:=len) hu hu AY (A2x _ _ _) (by rw [Eg];exact hw1 _ rfl) (by omega) (by rw [h9];simp [storeCells])) _ ⟨some ⟨w.heap.size,0,none⟩,0,0,0, ?_,by simp,by simp,by simp,by simp,by simp,⟨rfl,rfl,rfl⟩,fun b' Ef=>Go.RowKit.Below.heap_alloc _ _ _ Ef,by simp⟩
    simp [h0]
   ·have Dh:0<len:=by rw [f1];exact List.length_pos_iff.2 iC
    obtain ⟨nc,hnc,hr⟩:=run_append_grow (P:=P) (t:=q.ts) (u:=q.ts) (ty:=q.r6.type) (b:=some ⟨w.heap.size,0,none⟩) (len:=0) (cap:=0) (n:=len) (all:=[]) (all':=all) (v := .slice (some p) len cap) (w:=w.alloc (.cells #[] e)) hu hu AY (A2x _ _ _) (by rw [Eg];exact hw1) (fun w' _=>by show (loadCells _ (0 * inf.size)).run P w'=_;rw [zSq];rfl) Pv (by omega) (by unfold lim at hl;omega) dV
    simp only [ztq,zDq] at hr;have B57:(w.alloc (.cells #[] e)).heap.size=w.heap.size+1:=by simp
    refine go _ _ hr _ ⟨_,w.heap.size+1,0,nc,by rw [f1,B57],fun _=>rfl,by omega,by simp,fun x hx => ?_, ?_,⟨rfl,rfl,rfl⟩,fun b' Ef => ?_,fun _=>⟨by omega,(all++(Builtin.zeroCells zv.cells (nc-len)).toList).toArray,e, ?_, ?_,hpos,fun j d hj => ?_⟩⟩
    ·simp only [Option.some.injEq] at hx
     subst hx;rfl
    ·simp;omega
    ·refine (Go.RowKit.Below.heap_alloc _ _ _ (by show b'<(w.alloc (.cells #[] e)).heap.size;omega)).trans ?_
     exact Go.RowKit.Below.heap_alloc _ _ _ Ef
    ·rw [<- B57]
     exact World.alloc_heap_new _ _
    ·simp [f4.1]
    ·obtain ⟨vs,v1,v2,v3⟩:=f4.2 j d hj
     refine ⟨vs,v1,fun x u hx => ?_,v3.mono ⟨fun _ _ h=>h,fun b o v hs hv => ?_⟩⟩
     ·have h1:=v2 x u hx
      have h2:=(zbq.1 h1).1;rw [ztq,List.getElem?_toArray,zBq h2];exact h1
     ·have hb:b<w.heap.size:=by
       rcases Nat.lt_or_ge b w.heap.size with h | h
       ·exact h
       ·exact absurd hs (hS b o h)
      unfold Su.hc at hv ⊢;have e1:((w.alloc (.cells #[] e)).drew.alloc (.cells (all++(Builtin.zeroCells zv.cells (nc-len)).toList).toArray e)).heap[b]?=w.heap[b]? :=
       (Go.RowKit.Below.heap_alloc _ _ _ (by show b<(w.alloc (.cells #[] e)).heap.size;omega)).trans (Go.RowKit.Below.heap_alloc _ _ _ hb)
      rw [e1];exact hv
end Go.Su

/-
 MAPS of numbers and texts in the shared part, cells of the shared part.
-/
namespace Go.Su
variable {sg:List D8} {i:Nat}
theorem WR {x:List (DV × Meta)} (h:M5 sg i=some x):i<sg.length:=by
 unfold M5 at h;cases hi:sg[i]? with
 | none=>rw [hi] at h;cases h
 | some o=>exact (zbq.1 hi).1
theorem TD (h:i<sg.length) (cs:List (DV × Meta)):M5 (sg.set i (.box cs)) i=some cs:=by
 unfold M5;rw [List.getElem?_set_self h]
theorem VB {j:Nat} (h:i≠j) (o:D8):M5 (sg.set i o) j=M5 sg j:=by
 unfold M5;rw [List.getElem?_set_ne h]
@[simp] theorem BI (a:DV) (l:List DV):I9 0 (.F3 (a::l))=some a:=rfl
@[simp] theorem BJ (a b:DV) (l:List DV):I9 1 (.F3 (a::b::l))=some b:=rfl
@[simp] theorem A0t (a b c:DV) (l:List DV):I9 2 (.F3 (a::b::c::l))=some c:=rfl
@[simp] theorem C3K (a b c d:DV) (l:List DV):I9 3 (.F3 (a::b::c::d::l))=some d:=rfl
theorem GZ {α : Type} {e : α -> DV} {sz:Nat} {l:List α} {x : α} (h:l.length<lim):Be sz (.list sz (l.map e)) (.list sz [e x])=some (.list sz ((l++[x]).map e)):=by
 rw [Sn (by simp;omega)]
 simp
end Go.Su

/-
 PATTERNS and types: what is bound.
-/
namespace Go.Su
@[simp] theorem B9K (l:List (Int × Ty)):dLen (M6 l)=some (.int .i64 l.length):=by simp [M6]
end Go.Su

/-
 The CHECKER of terms, kind by kind.
-/
namespace Go.Su
theorem Tm.BU {t k:Tm} (h:t.right=true) (hk:k∈t.kids):k.right=true:=by
 rw [Tm.right_eq] at h;simp only [z1q,z8q] at h;exact h.2 k hk
end Go.Su

/-
 The CHECKER: which errors there are; how many names stand at once; scopes as maps of counters.
-/
namespace Go.Su
def B7a (e:Int):Prop:=e=4\/e=6\/e=8
end Go.Su

/-
 The CHECKER: a term's type has no variables but those in scope.
-/
namespace Go.Su
end Go.Su

/-
 NAMES THAT ARE FREE: rows that rise, what a term binds, which names are free in it.
-/
namespace Go.Su
theorem B0k (x y:List UInt8):GN x y=decide (x<y):=by
 induction x generalizing y with
 | nil=>cases y <;> simp [GN]
 | cons a x ih =>
   cases y with
   | nil=>simp [GN]
   | cons b y =>
     simp only [GN,ih,List.cons_lt_cons_iff]
     by_cases h:a<b <;> by_cases h':a=b <;> simp [h,h']
variable (s:ByteArray)
def F_:List UInt8:=s.data.toList
theorem A21 {a b:ByteArray} (h:F_ a=F_ b):a=b:=wM (by rw [KV,KV];exact h)
theorem B78 {a b:ByteArray} (h:a≠b):F_ a≠F_ b:=fun h'=>h (A21 h')
def qG (a b:ByteArray):Bool:=decide (F_ a<F_ b)
@[simp] theorem B3K (a b:ByteArray):A8 .lss (.str a) (.str b)=some (.bool (qG a b)):=by
  show some (DV.bool (GN a.toList b.toList))=_
  rw [B0k,KV,KV];rfl
theorem B4q {a b c:List UInt8} (h:a<b) (h':b<c):a<c:=List.lt_trans h h'
theorem B2y (a:List UInt8):¬ a<a:=List.lt_irrefl a
theorem B8f (a b:List UInt8):a<b\/a=b\/b<a:=by
 by_cases h:a<b
 ·exact .inl h
 ·by_cases h':b<a
  ·exact .inr (.inr h')
  ·exact .inr (.inl (List.le_antisymm (List.not_lt.1 h') (List.not_lt.1 h)))
def rise:List ByteArray->ByteArray->List ByteArray
 | [],s=>[s]
 | x::l,s=>if qG x s=true then x::rise l s else if x=s then x::l else s::x::l
variable (l:List ByteArray)
theorem A9t (s:ByteArray):(rise l s).length<=l.length+1:=by
 induction l with
 | nil=>simp [rise]
 | cons x l ih =>
   unfold rise
   split
   ·simp only [z6q];omega
   ·split <;> simp
variable {l:List ByteArray}
theorem A9b {s x:ByteArray}:x∈rise l s ↔ x=s\/x∈l:=by
 induction l with
 | nil=>simp [rise]
 | cons y l ih =>
   unfold rise
   split
   ·simp only [zgq,ih]
    constructor
    ·rintro (h | h | h)
     ·exact .inr (.inl h)
     ·exact .inl h
     ·exact .inr (.inr h)
    ·rintro (h | h | h)
     ·exact .inr (.inl h)
     ·exact .inl h
     ·exact .inr (.inr h)
   ·split
    ·rename_i h
     subst h;simp
    ·simp
def Wn (l:List ByteArray):Prop:=l.Pairwise fun a b=>F_ a<F_ b
theorem B2U {s:ByteArray} (h:Wn l):Wn (rise l s):=by
 induction l with
 | nil=>simp [rise,Wn]
 | cons y l ih =>
   obtain ⟨h1,h2⟩:=zEq.1 h;unfold rise
   by_cases c:qG y s=true
   ·rw [if_pos c]
    refine zEq.2 ⟨fun x hx => ?_,ih h2⟩
    rcases A9b.1 hx with rfl | hx
    ·simpa [qG] using c
    ·exact h1 x hx
   ·rw [if_neg c]
    by_cases e:y=s
    ·rw [if_pos e];exact h
    ·rw [if_neg e]
     have M4:F_ s<F_ y:=by
      rcases B8f (F_ y) (F_ s) with h | h | h
      ·exact absurd (by simpa [qG] using h) c
      ·exact absurd (A21 h) e
      ·exact h
     refine zEq.2 ⟨fun x hx => ?_,h⟩
     rcases zgq.1 hx with rfl | hx
     ·exact M4
     ·exact B4q M4 (h1 x hx)
theorem B4v {m:List ByteArray} {x:ByteArray}:x∈m.foldl rise l ↔ x∈l\/x∈m:=by
 induction m generalizing l with
 | nil=>simp
 | cons s m ih =>
   rw [zXq,ih,A9b];simp only [zgq];constructor
   ·rintro ((h | h) | h)
    ·exact .inr (.inl h)
    ·exact .inl h
    ·exact .inr (.inr h)
   ·rintro (h | h | h)
    ·exact .inl (.inr h)
    ·exact .inl (.inl h)
    ·exact .inr h
theorem B0I {m:List ByteArray} (h:Wn l):Wn (m.foldl rise l):=by
 induction m generalizing l with
 | nil=>exact h
 | cons s m ih=>exact ih (B2U h)
theorem A65 (l m:List ByteArray):(m.foldl rise l).length<=l.length+m.length:=by
 induction m generalizing l with
 | nil=>simp
 | cons s m ih =>
   have:=ih (rise l s);have:=A9t l s;simp only [zXq,z6q];omega
theorem Wn.nodup (h:Wn l):(l.map F_).Nodup:=by
 rw [zvq,zTq];exact List.Pairwise.imp (fun {a b} (Cy:F_ a<F_ b) (he:F_ a=F_ b)=>B2y (F_ b) (by rw [he] at Cy;exact Cy)) h
structure CY (es:List (DV × DV)) (P:ByteArray->Prop):Prop where
 str:∀ e∈es,∃ s n,e=(.str s, .int .i64 n)
 nodup:(es.map fun e=>JV e.1).Nodup
 mem:∀ s,F_ s∈es.map (fun e=>JV e.1) ↔ P s
theorem CY.nil:CY [] fun _=>False:=⟨by simp,by simp,by simp⟩
theorem zT:JV (.str s)=F_ s:=rfl
variable {es:List (DV × DV)}
theorem CY.get {P:ByteArray->Prop} (h:CY es P) (s:ByteArray):∃ n,(AO es (.str s)).getD (.int .i64 0) = .int .i64 n:=by
 unfold AO;cases hf:es.find? fun e=>Bu (.str s) e.1 with
 | none=>exact ⟨0,rfl⟩
 | some e =>
   obtain ⟨s',n,rfl⟩:=h.str e (List.mem_of_find?_eq_some hf);exact ⟨n,rfl⟩
variable (es:List (DV × DV))
theorem A6P (s:ByteArray) (v:DV) (h:∀ e∈es,∃ s n,e=(DV.str s,DV.int .i64 n)) :
 (BC es (.str s) v).map (fun e=>JV e.1)=if F_ s∈es.map (fun e=>JV e.1) then es.map (fun e=>JV e.1) else es.map (fun e=>JV e.1)++[F_ s]:=by
 induction es with
 | nil=>simp [BC,zT]
 | cons e es ih =>
   obtain ⟨s',n,rfl⟩:=h e (z7q ..);have ih:=ih fun e he=>h e (z4q _ he)
   unfold BC;rw [zM]
   by_cases hs:s=s'
   ·subst hs
    simp [zT]
   ·have hk:=B78 hs
    simp only [hs,decide_false,zPq,if_false,zjq,ih,zT,zgq]
    by_cases hm:F_ s∈es.map fun e=>JV e.1
    ·simp [hm]
    ·simp [hm,hk]
theorem B6g (s:ByteArray) (n:Int) (h:∀ e∈es,∃ s n,e=(DV.str s,DV.int .i64 n)):∀ e∈BC es (.str s) (.int .i64 n),∃ s n,e=(DV.str s,DV.int .i64 n):=by
 induction es with
 | nil=>intro e he;simp only [BC,zhq] at he;exact ⟨s,n,he⟩
 | cons x es ih =>
   obtain ⟨s',n',rfl⟩:=h x (z7q ..);have ih:=ih fun e he=>h e (z4q _ he)
   unfold BC;intro e he
   split at he
   ·rcases zgq.1 he with rfl | he
    ·exact ⟨s',n,rfl⟩
    ·exact h e (z4q _ he)
   ·rcases zgq.1 he with rfl | he
    ·exact ⟨s',n',rfl⟩
    ·exact ih e he
variable {es:List (DV × DV)}
theorem CY.set {P:ByteArray->Prop} (h:CY es P) (s:ByteArray) (n:Int):CY (BC es (.str s) (.int .i64 n)) fun x=>x=s\/P x:=by
 refine ⟨B6g es s n h.str, ?_,fun x => ?_⟩
 ·rw [A6P es s _ h.str]
  split
  ·exact h.nodup
  ·rename_i hs
   refine zRq.2 ⟨h.nodup,by simp,fun a ha b hb => ?_⟩
   rw [zhq.1 hb];rintro rfl;exact hs ha
 ·rw [A6P es s _ h.str]
  split
  ·rename_i hs
   rw [h.mem x];constructor
   ·exact fun hp => .inr hp
   ·rintro (rfl | hp)
    ·exact (h.mem _).1 hs
    ·exact hp
  ·rw [z5q,h.mem x,zhq]
   constructor
   ·rintro (hp | hp)
    ·exact .inr hp
    ·exact .inl (A21 hp)
   ·rintro (rfl | hp)
    ·exact .inr rfl
    ·exact .inl hp
theorem CY.congr {P Q:ByteArray->Prop} (h:CY es P) (hq:∀ s,P s ↔ Q s):CY es Q:=⟨h.str,h.nodup,fun s=>(h.mem s).trans (hq s)⟩
theorem A51 {L:List ByteArray} (h:CY es fun s=>s∈L) (hL:Wn L):Lt es=J7 L/\es.length=L.length:=by
 have hK:(es.map fun e=>JV e.1).Perm (L.map F_):=by
  refine (zwq h.nodup hL.nodup).2 fun k => ?_
  constructor
  ·intro hk
   obtain ⟨e,he,rfl⟩:=zIq.1 hk;obtain ⟨s,n,rfl⟩:=h.str e he;exact zxq ((h.mem s).1 hk)
  ·intro hk
   obtain ⟨s,hs,rfl⟩:=zIq.1 hk;exact (h.mem s).2 hs
 have hs:Hf (es.map fun e=>JV e.1)=L.map F_:=by
  have h1:Hf (es.map fun e=>JV e.1)=Hf (L.map F_):=Go.mergeSort_of_perm hK
  rw [h1];refine List.mergeSort_of_pairwise (le:=fun x y=>decide (x<=y)) ?_
  rw [zTq];refine List.Pairwise.imp ?_ hL;intro a b Cy;simp only [decide_eq_true_eq];exact List.le_of_lt Cy
 refine ⟨?_,by have:=hK.length_eq;simpa using this⟩
 unfold Lt;rw [hs];simp only [J7,List.map_map]
 congr 1
def LB (es:List (DV × DV)) (c:ByteArray->Int):Prop:=∀ v,(AO es (.str v)).getD (.int .i64 0) = .int .i64 (c v)
theorem LB.set {c:ByteArray->Int} (h:LB es c) (a:ByteArray) (n:Int):LB (BC es (.str a) (.int .i64 n)) fun v=>if a=v then n else c v:=by
 intro v;rw [A85]
 by_cases e:a=v
 ·simp [e]
 ·simp [e,h v]
variable (t:Tm) (i:Nat)
def Tm.binds:List ByteArray :=
 if t.kind=9\/(t.kind=11/\i=1)\/(t.kind=12/\i=1) then [t.name]
 else if t.kind=12 then [t.name,t.arg]
 else if t.kind=14/\0<i then match t.H6[i-1]? with
  | some p=>p.names
  | none=>[]
 else []
mutual
def Tm.fr:Tm->List ByteArray->List ByteArray
 | .mk k lo hi nm ar n s op lb ng vs a b ys ps ks,B=>(if k=1/\(B.any fun x=>decide (x=nm))=false then [nm] else [])++Tm.gy (Tm.binds (.mk k lo hi nm ar n s op lb ng vs a b ys ps ks)) 0 ks B
def Tm.gy:(Nat->List ByteArray)->Nat->List Tm->List ByteArray->List ByteArray
 | _,_,[],_=>[]
 | b,i,k::ks,B=>Tm.fr k (B++b i)++Tm.gy b (i+1) ks B
end
variable (t:Tm) (B:List ByteArray)
theorem Tm.A4H:t.fr B=(if t.kind=1/\(B.any fun x=>decide (x=t.name))=false then [t.name] else [])++Tm.gy t.binds 0 t.kids B:=by
 cases t;rw [Tm.fr];rfl
theorem Tm.A0A (b:Nat->List ByteArray) (i:Nat) (B:List ByteArray):Tm.gy b i [] B=[]:=by rw [Tm.gy]
theorem Tm.oW (b:Nat->List ByteArray) (i:Nat) (k:Tm) (ks:List Tm) (B:List ByteArray):Tm.gy b i (k::ks) B=k.fr (B++b i)++Tm.gy b (i+1) ks B:=by rw [Tm.gy]
theorem Tm.A4I:∀ B,(t.fr B).length<=t.size:=by
 induction t using Tm.ind with
 | h t ih =>
   intro B;rw [Tm.A4H,Tm.size_eq];have key:∀ (ks:List Tm) (i:Nat),(∀ k∈ks,∀ B,(k.fr B).length<=k.size)->(Tm.gy t.binds i ks B).length<=(ks.map Tm.size).sum:=by
    intro ks
    induction ks with
    | nil=>intro i _;simp [Tm.A0A]
    | cons k ks ihk =>
      intro i h;rw [Tm.oW];have h1:=h k (z7q ..) (B++t.binds i);have h2:=ihk (i+1) fun k' Ik=>h k' (z4q _ Ik)
      simp only [zdq,zjq,zLq];omega
   have:=key t.kids 0 ih;simp only [zdq]
   split <;> simp <;> omega
def Tm.free:List ByteArray:=(t.fr []).foldl rise []
theorem Tm.B2d:Wn t.free:=B0I (by simp [Wn])
theorem Tm.pG {t:Tm} {s:ByteArray}:s∈t.free ↔ s∈t.fr []:=by
 unfold Tm.free;rw [B4v];simp
theorem Tm.B5X:t.free.length<=t.size:=by
 have h1:=A65 [] (t.fr []);have h2:=t.A4I [];unfold Tm.free;simp only [z9q] at h1;omega
theorem Tm.TE:t.size<=t.N8:=by
 induction t using Tm.ind with
 | h t ih =>
   rw [Tm.size_eq,Tm.Ak];have key:∀ ks:List Tm,(∀ k∈ks,k.size<=k.N8)->(ks.map Tm.size).sum<=(ks.map Tm.N8).sum:=by
    intro ks
    induction ks with
    | nil=>simp
    | cons k ks ihk =>
      intro h;simp only [zjq,zLq];have:=h k (z7q ..);have:=ihk fun k' Ik=>h k' (z4q _ Ik)
      omega
   have:=key t.kids ih;omega
theorem Tm.A6p (i:Nat):(t.binds i).length+2 * (t.kids.map Tm.N8).sum<=2 * t.N8:=by
 have hm:=t.Ak;have h2:(t.binds i).length<=2+(t.H6.map D5.N8).sum:=by
  unfold Tm.binds
  split
  ·simp;omega
  ·split
   ·simp
   ·split
    ·split
     ·rename_i p hp
      have h1:=Ki (f:=D5.N8) (zuq hp);have h3:=p.Ql [];have h4:=p.TE;have h5:p.names=p.Cc []:=rfl;rw [h5];simp only [z9q] at h3;omega
     ·simp
    ·simp
 omega
theorem Tm.AV {t:Tm} (h:t.right=true):t.one=true:=by rw [Tm.right_eq,z1q] at h;exact h.1
theorem Tm.zO {t:Tm} (h:t.right=true) (hk:t.kind=14):t.kids.length=t.H6.length+1:=by
 have h1:=Tm.AV h;unfold Tm.one at h1;simp only [z1q,decide_eq_true_eq] at h1;have h2:=h1.1.1.1.1.1.2;rw [hk] at h2;simp [O5] at h2;omega
end Go.Su

/-
 A closed term put for a name that has no variables.
-/
namespace Go.Su
variable (t:Tm) (ks:List Tm)
def Tm.V4:Tm := .mk t.kind t.lo t.hi t.name t.arg t.n t.s t.op t.label t.neg t.vars t.a t.b t.args t.H6 ks
theorem Tm.uu:t.V4 t.kids=t:=by cases t;rfl
@[simp] theorem Tm.B9p:(t.V4 ks).kind=t.kind:=rfl
@[simp] theorem Tm.Rk:(t.V4 ks).kids=ks:=rfl
@[simp] theorem Tm.B9q:(t.V4 ks).name=t.name:=rfl
@[simp] theorem Tm.B9o:(t.V4 ks).args=t.args:=rfl
@[simp] theorem Tm.B9r:(t.V4 ks).H6=t.H6:=rfl
@[simp] theorem Tm.nM:(t.V4 ks).binds=t.binds:=rfl
@[simp] theorem Tm.B9s (ks':List Tm):(t.V4 ks).V4 ks'=t.V4 ks':=rfl
end Go.Su

/-
 A closed term put for a name: what it makes of free names, in which order two are put.
-/
namespace Go.Su
variable {L:List ByteArray} {s:ByteArray}
theorem A5z:(L.any fun x=>decide (x=s))=true ↔ s∈L:=by simp
theorem A5A:(L.any fun x=>decide (x=s))=false ↔ s∉L:=by
 rw [<- A5z (L:=L),Bool.not_eq_true]
theorem Tm.B1r {b:Nat->List ByteArray} {x:ByteArray} {L:List ByteArray}:∀ {ks:List Tm} {i:Nat},x∈Tm.gy b i ks L ↔ ∃ (j:Nat) (k:Tm),ks[j]?=some k/\x∈k.fr (L++b (i+j))
 | [],i=>by simp [Tm.A0A]
 | k::ks,i=>by
   rw [Tm.oW,z5q,Tm.B1r (ks:=ks)];constructor
   ·rintro (h | ⟨j,k',h1,h2⟩)
    ·exact ⟨0,k,rfl,h⟩
    ·exact ⟨j+1,k',by simpa using h1,by rwa [show i+(j+1)=i+1+j by omega]⟩
   ·rintro ⟨j,k',h1,h2⟩
    cases j with
    | zero =>
      simp only [zeq,Option.some.injEq] at h1;subst h1;exact .inl h2
    | succ j=>exact .inr ⟨j,k',by simpa using h1,by rwa [show i+1+j=i+(j+1) by omega]⟩
variable {t:Tm}
theorem Tm.DI {x:ByteArray}:x∈t.fr L ↔ (t.kind=1/\x=t.name/\t.name∉L)\/∃ (j:Nat) (k:Tm),t.kids[j]?=some k/\x∈k.fr (L++t.binds j):=by
 rw [Tm.A4H,z5q,Tm.B1r];simp only [ztq,A5A];refine or_congr ?_ Iff.rfl
 split
 ·rename_i h
  simp only [zhq];exact ⟨fun e=>⟨h.1,e,A5A.1 h.2⟩,fun e=>e.2.1⟩
 ·rename_i h
  simp only [zpq,false_iff];rintro ⟨h1,-,h3⟩;exact h ⟨h1,A5A.2 h3⟩
theorem Tm.aG {k:Tm} {j:Nat} (h:t.kids[j]?=some k):k∈t.kids:=zuq h
theorem Tm.A4J (t:Tm):∀ (L:List ByteArray) (x:ByteArray),x∈t.fr L->x∉L:=by
 induction t using Tm.ind with
 | h t ih =>
   intro L x h;rcases Tm.DI.1 h with ⟨-,rfl,h3⟩ | ⟨j,k,h1,h2⟩
   ·exact h3
   ·exact fun hx=>ih k (Tm.aG h1) _ x h2 (z5q.2 (.inl hx))
theorem Tm.A5L (t:Tm):∀ (L M:List ByteArray) (x:ByteArray),(∀ y,y∈M->y∈L)->(x∈t.fr L ↔ x∈t.fr M/\x∉L):=by
 induction t using Tm.ind with
 | h t ih =>
   intro L M x hs;constructor
   ·intro h
    refine ⟨?_,Tm.A4J t L x h⟩;rcases Tm.DI.1 h with ⟨h1,h2,h3⟩ | ⟨j,k,h1,h2⟩
    ·exact Tm.DI.2 (.inl ⟨h1,h2,fun hm=>h3 (hs _ hm)⟩)
    ·refine Tm.DI.2 (.inr ⟨j,k,h1,((ih k (Tm.aG h1) (L++t.binds j) (M++t.binds j) x fun y hy => ?_).1 h2).1⟩)
     rcases z5q.1 hy with hy | hy
     ·exact z5q.2 (.inl (hs y hy))
     ·exact z5q.2 (.inr hy)
   ·rintro ⟨h,hx⟩
    rcases Tm.DI.1 h with ⟨h1,h2,h3⟩ | ⟨j,k,h1,h2⟩
    ·exact Tm.DI.2 (.inl ⟨h1,h2,by rw [<- h2];exact hx⟩)
    ·refine Tm.DI.2 (.inr ⟨j,k,h1,(ih k (Tm.aG h1) (L++t.binds j) (M++t.binds j) x fun y hy => ?_).2 ⟨h2,fun VN => ?_⟩⟩)
     ·rcases z5q.1 hy with hy | hy
      ·exact z5q.2 (.inl (hs y hy))
      ·exact z5q.2 (.inr hy)
     ·rcases z5q.1 VN with VN | VN
      ·exact hx VN
      ·exact Tm.A4J k _ x h2 (z5q.2 (.inr VN))
theorem Tm.XP {v:Tm} (h:v.free=[]) (L:List ByteArray) (x:ByteArray):x∉v.fr L:=by
 intro hx;have h1:=((Tm.A5L v L [] x (by simp)).1 hx).1
 rw [<- Tm.pG,h] at h1;cases h1
theorem Tm.C0i (h:t.right=true) (hk:t.kind=1):t.kids=[]:=by
 have h1:=Tm.AV h;unfold Tm.one at h1;simp only [z1q,decide_eq_true_eq] at h1;have h2:=h1.1.1.1.1.1.2;rw [hk] at h2;simp [O5] at h2;exact h2
theorem Tm.A9h {ks:List Tm} (h:ks.length=t.kids.length):(t.V4 ks).one=t.one:=by
 unfold Tm.one Tm.V4;simp only [Tm.Ca,Tm.Et,Tm.Q6,Tm.Cb,Tm.Gr,Tm.av,Tm.a_,h];rfl
end Go.Su

/-
 EXPRESSIONS: what is right, what is free, what is put for a name.
-/
namespace Go.Su
def eA (k:Int):Bool:=decide (k=9\/k=11\/k=12\/k=15)
end Go.Su

/-
 EXPRESSIONS: how deep, how great, without places, their annotations.
-/
namespace Go.Su
def most {α : Type} (f : α -> Nat) (l:List α) (n:Nat):Nat:=l.foldl (fun a k=>max a (f k)) n
end Go.Su

/-
 EXPRESSIONS: other annotations in the places of its own.
-/
namespace Go.Su
def part {α : Type} (g : α -> α) (l:List α) (j:Nat):List α := (l.take j).map g++l.drop j
end Go.Su

/-
 EXPRESSIONS WITHOUT TYPES: what a step comes to.
-/
namespace Go.Su
structure R3 where
 kind:Int
 lo:Int
 hi:Int
end Go.Su

/-
 EXPRESSIONS WITHOUT TYPES: a step leaves closed what is closed.
-/
namespace Go.Su
end Go.Su

/-
 THE CHECKER: what a type C3L on; a closed term put for a name.
-/
namespace Go.Su
section
variable {t:Tm} {ks:List Tm} {fs gs:List Chk} {L M:List Nm} {S Q:List Int}
end
theorem Tm.pV {t:Tm} (h:t.right=true):∀ p∈t.H6,p.pat=true:=by
 intro p hp;have h1:=Tm.AV h;unfold Tm.one Tm.Kj Tm.Lm Tm.Lp Tm.Mt Tm.OQ Tm.lists at h1;simp only [z1q,z8q] at h1;have:=h1.2.2.2.2.2.2.2 p hp;unfold D5.right at this;rw [z1q] at this;exact this.1
end Go.Su

/-
 TERMS: types put for variables.
-/
namespace Go.Su
abbrev DX:=List (Int × Ty)
variable (l:DX) (vs:List Int)
def U3:DX:=l.filter fun b => !decide (b.1∈vs)
theorem B5v:U3 l []=l:=by simp [U3]
theorem A2R:(U3 l vs).length<=l.length:=zsq ..
theorem B5u {l:DX} {vs:List Int} {b:Int × Ty} (h:b∈U3 l vs):b∈l:=(List.mem_filter.1 h).1
def Ty.Z9 (t:Ty):Ty:=if t.kind=0 then t else t.put l
mutual
def Tm.EA:Tm->DX->Tm
 | .mk k lo hi nm ar n s op lb ng vs a b ys ps ks,l =>
   .mk k lo hi nm ar n s op lb ng vs (a.Z9 (if k=12 then U3 l vs else l)) (b.Z9 (if k=12 then U3 l vs else l)) (ys.map (Ty.Z9 l)) ps (Tm.Ii ks (U3 l vs) l)
def Tm.Ii:List Tm->DX->DX->List Tm
 | [],_,_=>[]
 | k::ks,i,l=>k.EA i::Tm.Ii ks l l
end
theorem Tm.TG (t:Tm) (l:DX):t.EA l = .mk t.kind t.lo t.hi t.name t.arg t.n t.s t.op t.label t.neg t.vars (t.a.Z9 (if t.kind=12 then U3 l t.vars else l)) (t.b.Z9 (if t.kind=12 then U3 l t.vars else l)) (t.args.map (Ty.Z9 l)) t.H6 (Tm.Ii t.kids (U3 l t.vars) l):=by
 cases t;rw [Tm.EA];rfl
theorem Tm.A0h (i l:DX):Tm.Ii [] i l=[]:=by rw [Tm.Ii]
theorem Tm.qJ (k:Tm) (ks:List Tm) (i l:DX):Tm.Ii (k::ks) i l=k.EA i::Tm.Ii ks l l:=by rw [Tm.Ii]
theorem Tm.aA (l:DX):∀ ks:List Tm,Tm.Ii ks l l=ks.map fun k=>k.EA l
 | []=>Tm.A0h ..
 | k::ks=>by rw [Tm.qJ,Tm.aA l ks,zjq]
theorem Tm.TF (i l:DX):∀ ks:List Tm,(Tm.Ii ks i l).length=ks.length
 | []=>by rw [Tm.A0h]
 | k::ks=>by rw [Tm.qJ,z6q,z6q,Tm.aA,zMq]
def Jd (j:Nat) (i l:DX):DX:=if j=0 then i else l
theorem Tm.Xt (i l:DX) (ks:List Tm) (j:Nat):(Tm.Ii ks i l)[j]?=(ks[j]?).map fun k=>k.EA (Jd j i l):=by
 cases ks with
 | nil=>rw [Tm.A0h];simp
 | cons k ks =>
   rw [Tm.qJ];cases j with
   | zero=>simp [Jd]
   | succ j=>simp [Jd,Tm.aA]
theorem Ty.A60 (l:DX) {t:Ty} (h:t.none=true):t.Z9 l=t:=by
 unfold Ty.Z9;rw [if_pos];unfold Ty.none at h;simp only [z1q,decide_eq_true_eq] at h;exact h.1.1
theorem PY {l:DX} (h:Z0 l=true) (vs:List Int):Z0 (U3 l vs)=true:=by
 unfold Z0 at h ⊢;rw [z8q] at h ⊢;exact fun b hb=>h b (B5u hb)
end Go.Su

/-
 TERMS: types put for variables leave a right term right.
-/
namespace Go.Su
theorem Ty.A27 (t:Ty):t.Z9 []=t:=by
 unfold Ty.Z9;rw [Ty.B8s,ite_self]
theorem A87 {α : Type} {f : α -> α} {l:List α} (h:∀ x∈l,f x=x):l.map f=l:=by
 conv=>rhs;rw [<- List.map_id l]
 exact List.map_congr_left h
theorem B3t (vs:List Int):U3 [] vs=[]:=rfl
theorem Tm.B0c (t:Tm):t.EA []=t:=by
 induction t using Tm.ind with
 | h t ih =>
   rw [Tm.TG,B3t,ite_self,Ty.A27,Ty.A27,Tm.aA,A87 ih,A87 fun y _=>Ty.A27 y]
   cases t;rfl
theorem Tm.B8k {t:Tm} (h:t.one=true) {a b:Ty} {ys:List Ty} {ks:List Tm} (ha:X7 (kA t.kind) a=true) (hb:X7 (kB t.kind) b=true) (hy:ys.all Ty.right=true) (hyl:ys.length=t.args.length) (hk:ks.length=t.kids.length) :
 (Tm.mk t.kind t.lo t.hi t.name t.arg t.n t.s t.op t.label t.neg t.vars a b ys t.H6 ks).one=true:=by
 unfold Tm.one Tm.Kj Tm.Lm Tm.Lp Tm.Mt Tm.OQ Tm.lists at h ⊢;simp only [Tm.Ca,Tm.Wy,Tm.Ww,Tm.Cb,Tm.Gr,Tm.SV,Tm.Ls,Tm.pJ,Tm.SN,Tm.eG,Tm.GX,Tm.av,Tm.a_,Tm.O_,Tm.Et,Tm.Q6,hyl,hk];rw [z1q] at h ⊢;obtain ⟨h1,h2⟩:=h;rw [z1q,z1q] at h1 ⊢;refine ⟨⟨⟨h1.1.1,ha⟩,hb⟩, ?_⟩;rw [z1q] at h2 ⊢;refine ⟨h2.1, ?_⟩;have h3:=h2.2;rw [z1q] at h3 ⊢;refine ⟨h3.1, ?_⟩;have h4:=h3.2;rw [z1q] at h4 ⊢;refine ⟨h4.1, ?_⟩;have h5:=h4.2;rw [z1q] at h5 ⊢;refine ⟨h5.1, ?_⟩;have h6:=h5.2;rw [z1q] at h6 ⊢;refine ⟨h6.1, ?_⟩;have h7:=h6.2;rw [z1q,z1q] at h7 ⊢;exact ⟨⟨h7.1.1,hy⟩,h7.2⟩
variable {t:Ty}
theorem Ty.A4N (h:t.right=true):t.kind≠0:=fun h0=>by
 have:=(Ty.GD.1 h).1;rw [h0] at this;simp [arity] at this
theorem Ty.A44 {l:DX} (hl:Z0 l=true) (h:t.right=true):(t.Z9 l).right=true:=by
 unfold Ty.Z9;rw [if_neg (Ty.A4N h)];exact Ty.B4H (fun e he=>(WO.1 hl e he).2.2) t h
theorem A2L {l:DX} (hl:Z0 l=true) {k:Bool} (h:X7 k t=true):X7 k (t.Z9 l)=true:=by
 unfold X7 at h ⊢
 split
 ·next hk=>rw [if_pos hk] at h;exact Ty.A44 hl h
 ·next hk=>rw [if_neg hk] at h;rw [Ty.A60 l h];exact h
theorem Tm.B3f (t:Tm):t.right=true->∀ l:DX,Z0 l=true->(t.EA l).right=true:=by
 induction t using Tm.ind with
 | h t ih =>
   intro rt l hl;have o:=Tm.AV rt;have o':=o;unfold Tm.one Tm.Kj Tm.Lm Tm.Lp Tm.Mt Tm.OQ Tm.lists at o';simp only [z1q] at o';have OI:Z0 (if t.kind=12 then U3 l t.vars else l)=true:=by
    split
    ·exact PY hl _
    ·exact hl
   rw [Tm.TG,Tm.right_eq,z1q];refine ⟨Tm.B8k o (A2L OI o'.1.1.2) (A2L OI o'.1.2) ?_ (by simp) (Tm.TF ..), ?_⟩
   ·have:=o'.2.2.2.2.2.2.1.2
    rw [z8q] at this ⊢;intro y hy;obtain ⟨z,hz,rfl⟩:=zIq.1 hy;exact Ty.A44 hl (this z hz)
   ·rw [z8q]
    intro k hk;rw [Tm.Q6] at hk;obtain ⟨j,hj,rfl⟩:=zfq.1 hk;have g:=Tm.Xt (U3 l t.vars) l t.kids j;rw [z0q hj] at g;have Bg:j<t.kids.length:=by rw [Tm.TF] at hj;exact hj
    rw [z0q Bg,zmq,Option.some.injEq] at g;rw [g];refine ih _ (zlq Bg) (Tm.BU rt (zlq Bg)) _ ?_;unfold Jd
    split
    ·exact PY hl _
    ·exact hl
end Go.Su

/-
 THE CHECKER OF TERMS: what has a type is turned by no types put for variables that it neither binds nor has in scope.
-/
namespace Go.Su
end Go.Su

/-
 EXPRESSIONS WITHOUT TYPES: a step leaves closed what is closed.
-/
namespace Go.Su
end Go.Su

/-
 EXPRESSIONS WITHOUT TYPES: a step leaves closed what is closed.
-/
namespace Go.Su
end Go.Su

/-
 EXPRESSIONS WITHOUT TYPES: how great what stands at one place may become.
-/
namespace Go.Su
end Go.Su

/-
 EXPRESSIONS WITHOUT TYPES: a run, and what it tells.
-/
namespace Go.Su
def Dj:X3 := .mk 0 0 0 false []
def Uu:Val := .mk 0 0 O0 Dj []
structure AC where
 kind:Int
 val:Val
 label:Int
 neg:Bool
 lo:Int
 hi:Int
 steps:Int
def AC.enc (r:AC):DV := .agg [.int .i64 r.kind, .int .i64 r.val.kind, .int .i64 r.val.n, .str r.val.s, .int .i64 r.val.c.kind, .int .i64 r.val.c.head, .int .i64 r.val.c.label, .bool r.val.c.neg, .list 5 (r.val.c.kids.map X3.enc), .list 9 (r.val.kids.map Val.enc), .int .i64 r.label, .bool r.neg, .int .i64 r.lo, .int .i64 r.hi, .int .i64 r.steps]
@[simp] theorem AC.ag (r:AC):U8 r.enc=r.enc:=rfl
@[simp] theorem K9 (r:AC):C9 15 r.enc=true:=rfl
end Go.Su

/-
 EXPRESSIONS WITHOUT TYPES: a run is its steps, and then reading.
-/
namespace Go.Su
end Go.Su

/-
 EXPRESSIONS WITHOUT TYPES: annotations turn nothing of a run.
-/
namespace Go.Su
end Go.Su

/-
 TERMS: a term put for a name, its variables for the name's types.
-/
namespace Go.Su
mutual
def Tm.Ct:Tm->ByteArray->List Int->Tm->Option Tm
 | .mk k lo hi nm ar n ss op lb ng vs a b ys ps ks,s,xs,v =>
   if k=1 then (if nm=s then (if ys.length=xs.length then some (v.EA (xs.zip ys)) else none) else some (.mk k lo hi nm ar n ss op lb ng vs a b ys ps ks))
   else match Tm.Dr (Tm.binds (.mk k lo hi nm ar n ss op lb ng vs a b ys ps ks)) 0 ks s xs v with
    | some ks'=>some (.mk k lo hi nm ar n ss op lb ng vs a b ys ps ks')
    | none=>none
def Tm.Dr:(Nat->List ByteArray)->Nat->List Tm->ByteArray->List Int->Tm->Option (List Tm)
 | _,_,[],_,_,_=>some []
 | b,i,k::ks,s,xs,v =>
   match (if ((b i).any fun x=>decide (x=s))=true then some k else Tm.Ct k s xs v) with
   | some k'=>match Tm.Dr b (i+1) ks s xs v with
     | some ks'=>some (k'::ks')
     | none=>none
   | none=>none
end
variable (s:ByteArray) (xs:List Int)
theorem Tm.Mk (v t:Tm):t.Ct s xs v=if t.kind=1 then (if t.name=s then (if t.args.length=xs.length then some (v.EA (xs.zip t.args)) else none) else some t)
 else (Tm.Dr t.binds 0 t.kids s xs v).map t.V4:=by
 cases t;rw [Tm.Ct];simp only [Tm.Ca,Tm.Cb,Tm.O_,Tm.Q6];generalize Tm.Dr _ _ _ _ _ _=y;cases y <;> rfl
theorem Tm.K_ (b:Nat->List ByteArray) (s:ByteArray) (xs:List Int) (v:Tm) (i:Nat):Tm.Dr b i [] s xs v=some []:=by rw [Tm.Dr]
theorem Tm.PW (b:Nat->List ByteArray) (s:ByteArray) (xs:List Int) (v:Tm) (i:Nat) (k:Tm) (ks:List Tm) :
 Tm.Dr b i (k::ks) s xs v=(if ((b i).any fun x=>decide (x=s))=true then some k else k.Ct s xs v).bind fun k'=>(Tm.Dr b (i+1) ks s xs v).map (k' :: ·):=by
 rw [Tm.Dr];generalize (if ((b i).any fun x=>decide (x=s))=true then some k else k.Ct s xs v)=x
 cases x with
 | none=>rfl
 | some k' =>
   generalize Tm.Dr b (i+1) ks s xs v=y;cases y <;> rfl
def Cu:Bool:=xs.all fun x=>decide (0<=x) && decide (x<=1048576)
theorem nA {xs:List Int} {ys:List Ty} (hx:Cu xs=true) (hy:∀ y∈ys,y.right=true):Z0 (xs.zip ys)=true:=by
 unfold Cu at hx;rw [WO];intro e he;rw [z8q] at hx;have h1:=List.of_mem_zip he;have h2:=hx _ h1.1;simp only [z1q,decide_eq_true_eq] at h2;exact ⟨h2.1,h2.2,hy _ h1.2⟩
end Go.Su

/-
 TERMS: what a substitution with variables leaves is within bounds.
-/
namespace Go.Su
inductive Tm.qA:Tm->Prop where
 | mk (t:Tm):(t.a.size<=60/\t.b.size<=60/\∀ y∈t.args,y.size<=60)->(∀ k∈t.kids,k.qA)->t.qA
theorem Tm.B0b {t:Tm} (h:t.right=true):(t.a.right=true\/t.a.none=true)/\(t.b.right=true\/t.b.none=true)/\∀ y∈t.args,y.right=true:=by
 have o:=Tm.AV h;unfold Tm.one Tm.Kj Tm.Lm Tm.Lp Tm.Mt Tm.OQ Tm.lists X7 at o;simp only [z1q,z8q] at o;refine ⟨?_, ?_, ?_⟩
 ·have:=o.1.1.2
  split at this
  ·exact .inl this
  ·exact .inr this
 ·have:=o.1.2
  split at this
  ·exact .inl this
  ·exact .inr this
 ·exact o.2.2.2.2.2.2.1.2
theorem Tm.zZ {b:Nat->List ByteArray} {s:ByteArray} {xs:List Int} {v:Tm}:∀ {ks ks':List Tm} {i:Nat},Tm.Dr b i ks s xs v=some ks'->ks'.length=ks.length
 | [],ks',i,h=>by rw [Tm.K_] at h;simp only [Option.some.injEq] at h;rw [<- h]
 | k::ks,ks',i,h=>by
   rw [Tm.PW] at h;cases h1:(if ((b i).any fun x=>decide (x=s))=true then some k else k.Ct s xs v) with
   | none=>rw [h1] at h;cases h
   | some k' =>
     rw [h1,zNq] at h;cases h2:Tm.Dr b (i+1) ks s xs v with
     | none=>rw [h2] at h;cases h
     | some m =>
       rw [h2] at h;simp only [zmq,Option.some.injEq] at h;subst h;simp [Tm.zZ h2]
theorem Tm.A62 {b:Nat->List ByteArray} {s:ByteArray} {xs:List Int} {v:Tm}:∀ {ks ks':List Tm} {i:Nat},Tm.Dr b i ks s xs v=some ks'->∀ k'∈ks',k'∈ks\/∃ k∈ks,k.Ct s xs v=some k'
 | [],ks',i,h=>by rw [Tm.K_] at h;simp only [Option.some.injEq] at h;subst h;simp
 | k::ks,ks',i,h=>by
   rw [Tm.PW] at h;cases h1:(if ((b i).any fun x=>decide (x=s))=true then some k else k.Ct s xs v) with
   | none=>rw [h1] at h;cases h
   | some k' =>
     rw [h1,zNq] at h;cases h2:Tm.Dr b (i+1) ks s xs v with
     | none=>rw [h2] at h;cases h
     | some m =>
       rw [h2] at h;simp only [zmq,Option.some.injEq] at h;subst h;intro x hx;rcases zgq.1 hx with rfl | hx
       ·split at h1
        ·simp only [Option.some.injEq] at h1
         subst h1;exact .inl (z7q ..)
        ·exact .inr ⟨k,z7q ..,h1⟩
       ·rcases Tm.A62 h2 x hx with h | ⟨y,hy,h⟩
        ·exact .inl (z4q _ h)
        ·exact .inr ⟨y,z4q _ hy,h⟩
end Go.Su

/-
 Judging an expression by a derivation: its types, its term, its casts. Mathematics alone.
-/
namespace Go.Su
def YL:Ty := .mk 5 0 []
end Go.Su

/-
 COERCIONS: right ones, joined, of casts.
-/
namespace Go.Su
variable (k:Int)
def C3G:Int:=if k=2 then 9 else if k=3 then 7 else if k=4 then 8 else 0
def K8:Ty := .mk k 0 (List.replicate (arity k).toNat YL)
def Ty.kd (t:Ty) (i:Nat):Ty:=t.kids.getD i BA
variable {t:Ty}
theorem Ty.R9 {i:Nat} (h:i<t.kids.length):t.kd i∈t.kids:=by
 unfold Ty.kd;rw [z3q,z0q h];exact zlq h
theorem Ty.Xk {i:Nat} (h:i<t.kids.length):t.kids[i]=t.kd i:=by
 unfold Ty.kd;rw [z3q,z0q h];rfl
theorem B13:YL.right=true:=by rw [Ty.GD];simp [YL,arity]
theorem Ty.kg (h:t.right=true) (hk:t.kind=5):t=YL:=by
 obtain ⟨h1,h2,h3,h4,h5⟩:=Ty.GD.1 h;cases t with
 | mk k n ks =>
   simp only [Ty.Ca] at hk;subst hk;simp [arity] at h1 h4;have:ks=[]:=z2q (by omega)
   simp [YL,this,h4]
theorem uP {k:Int} (h:0<=arity k):(K8 k).right=true:=by
 rw [Ty.GD];refine ⟨by simp [K8];omega,by simp [K8],by simp [K8],by simp [K8],fun t ht => ?_⟩
 simp only [K8,Ty.Q6,List.mem_replicate] at ht;rw [ht.2];exact B13
theorem Ty.Cm (h:t.right=true):(t.kids.length:Int)=arity t.kind:=(Ty.GD.1 h).1.symm
theorem yx:(K8 k).kids=List.replicate (arity k).toNat YL:=rfl
end Go.Su

/-
 VALUES: right ones, wrapped, taken apart, held against patterns.
-/
namespace Go.Su
def D5.kd (p:D5) (i:Nat):D5:=p.kids.getD i (.mk 0 0 0 O0 0 O0 [])
theorem D5.Xk {p:D5} {i:Nat} (h:i<p.kids.length):p.kids[i]=p.kd i:=by
 unfold D5.kd;rw [z3q,z0q h];rfl
end Go.Su

/-
 THE MACHINE, as the document has it: states, steps.
-/
namespace Go.Su
abbrev Cell:=ByteArray × Val
def FX:Tm := .mk 0 0 0 O0 O0 0 O0 0 0 false [] BA BA [] [] []
def Tm.kd (t:Tm) (i:Nat):Tm:=t.kids.getD i FX
theorem Tm.R9 {t:Tm} {i:Nat} (h:i<t.kids.length):t.kd i∈t.kids:=by
 unfold Tm.kd;rw [z3q,z0q h];exact zlq h
theorem Tm.Xk {t:Tm} {i:Nat} (h:i<t.kids.length):t.kids[i]=t.kd i:=by
 unfold Tm.kd;rw [z3q,z0q h];rfl
def Y6 (k:Int):AC:=⟨k,Uu,0,false,0,0,0⟩
def A_:AC:=Y6 6
def A8j (l:Int) (n:Bool):AC:=⟨2,Uu,l,n,0,0,0⟩
def atR (k lo hi:Int):AC:=⟨k,Uu,0,false,lo,hi,0⟩
def A0G (op a b:Int):Option Int :=
 if op=1 then some (IntKind.i64.wrap (a+b)) else if op=2 then some (IntKind.i64.wrap (a-b)) else if op=3 then some (IntKind.i64.wrap (a * b))
 else if op=4 then (if b=0 then none else some (IntKind.i64.wrap (a.tdiv b))) else if op=5 then some (if a<b then 1 else 0) else some (if a=b then 1 else 0)
def Val.ar (v:Val):Nat:=if v.kind=5\/v.kind=7 then 2 else 0
def FI:Nat->List Val->Val × List Val
 | 0,l=>(Uu,l)
 | _,[]=>(Uu,[])
 | n+1,v::l=>if v.kind=5\/v.kind=7 then (.mk v.kind v.n v.s v.c [(FI n l).1,(FI n (FI n l).2).1],(FI n (FI n l).2).2) else (v,l)
end Go.Su

/-
 THE CALCULUS, as the document has it: values, casts, steps.
-/
namespace Go.Su
noncomputable section
def Ty.isG (t:Ty):Bool:=decide (t.kind≠5/\t.kind≠6/\t=K8 t.kind)
def Ep (a b:Ty):Bool:=if b.kind=5 then a.isG else decide (a.kind=b.kind) && decide (a.kind=7\/a.kind=8\/a.kind=9)
def Tm.J2:Tm->Bool
 | .mk k _ _ _ _ _ _ _ _ _ _ a b _ _ ks =>
   if k=2\/k=3\/k=4\/k=5\/k=7\/k=9 then true
   else if k=6\/k=8 then (ks.map Tm.J2).all id
   else if k=16 then Ep a b && (ks.map Tm.J2).all id
   else false
variable (t:Tm)
theorem Tm.Jj:t.J2 =
 if t.kind=2\/t.kind=3\/t.kind=4\/t.kind=5\/t.kind=7\/t.kind=9 then true
 else if t.kind=6\/t.kind=8 then t.kids.all Tm.J2
 else if t.kind=16 then Ep t.a t.b && t.kids.all Tm.J2
 else false:=by
 cases t;rw [Tm.J2];simp only [Tm.Ca,Tm.Q6,Tm.av,Tm.a_,List.all_map];rfl
inductive SR where
 | ok (t:Tm)
 | fin (r:AC)
def SR.bind (x:SR) (f:Tm->SR):SR :=
 match x with
 | .ok t=>f t
 | .fin r => .fin r
def I4 (c:Tm) (neg:Bool) (a b:Ty) (t:Tm):Tm := .mk 16 0 0 O0 O0 0 O0 0 c.label neg [] a b [] [] [t]
variable (v:Tm)
def V7:SR :=
 if t.a.kids=[]/\t.a=t.b then .ok v
 else if t.a.kind=5 then
  if t.b.kind=5\/t.b.kind=6 then .fin A_
  else if t.b≠K8 t.b.kind then .ok (I4 t t.neg (K8 t.b.kind) t.b (I4 t t.neg t.a (K8 t.b.kind) v))
  else if v.kind≠16\/v.b.kind≠5 then .fin A_
  else if v.a=K8 t.b.kind then .ok (v.kd 0)
  else .fin (A8j t.label t.neg)
 else if t.b.kind=5 then
  if t.a.kind=6 then .fin A_ else .ok (I4 t t.neg (K8 t.a.kind) t.b (I4 t t.neg t.a (K8 t.a.kind) v))
 else .fin A_
def Tm.Y7 (i:Nat) (x:Tm):Tm := .mk t.kind t.lo t.hi t.name t.arg t.n t.s t.op t.label t.neg t.vars t.a t.b t.args t.H6 (t.kids.set i x)
def Tm.DF:Tm->SR
 | .mk k lo hi nm ar n s op l q vs a b gs ps ks =>
   if ks.all Tm.J2=true then V7 (.mk k lo hi nm ar n s op l q vs a b gs ps ks) ((Tm.mk k lo hi nm ar n s op l q vs a b gs ps ks).kd 0)
   else ((ks.map Tm.DF).getD 0 (.fin A_)).bind fun x => .ok ((Tm.mk k lo hi nm ar n s op l q vs a b gs ps ks).Y7 0 x)
theorem Tm.Gf:t.DF=if t.kids.all Tm.J2=true then V7 t (t.kd 0) else ((t.kids.map Tm.DF).getD 0 (.fin A_)).bind fun x => .ok (t.Y7 0 x):=by
 cases t;rw [Tm.DF];rfl
def Z4:Nat->Tm->SR
 | 0,_ => .fin A_
 | n+1,t=>if t.J2=true then .ok t else t.DF.bind (Z4 n)
def Tm.chain:Tm->List Tm
 | .mk k lo hi nm ar n s op l q vs a b gs ps ks =>
   if k=16 then (ks.map Tm.chain).getD 0 []++[.mk k lo hi nm ar n s op l q vs a b gs ps ks] else []
theorem Tm.bC:t.chain=if t.kind=16 then (t.kids.map Tm.chain).getD 0 []++[t] else []:=by cases t;rw [Tm.chain];rfl
def Tm.inner:Tm->Tm
 | .mk k lo hi nm ar n s op l q vs a b gs ps ks =>
   if k=16 then (ks.map Tm.inner).getD 0 FX else .mk k lo hi nm ar n s op l q vs a b gs ps ks
theorem Tm.dh:t.inner=if t.kind=16 then (t.kids.map Tm.inner).getD 0 FX else t:=by cases t;rw [Tm.inner];rfl
def partT (t:Ty) (i:Nat):Ty:=if t.kind=8/\i=1 then t else t.kd i
def BL (kind:Int) (i:Nat):List Tm->Tm->SR
 | [],w => .ok w
 | c::l,w =>
   if c.b.kind=5 then BL kind i l w
   else if c.a.kind≠kind\/c.b.kind≠kind then .fin A_
   else (Z4 4 (I4 c c.neg (partT c.a i) (partT c.b i) w)).bind (BL kind i l)
inductive PR where
 | fin (r:AC)
 | ok (a b:Tm)
def AA (l:List Tm) (x:Tm):PR :=
 match BL (if x.kind=8 then 8 else 7) 0 l (x.kd 0) with
 | .fin r => .fin r
 | .ok a=>match BL (if x.kind=8 then 8 else 7) 1 l (x.kd 1) with
   | .fin r => .fin r
   | .ok b => .ok a b
abbrev EY:=ByteArray × Tm
inductive FR where
 | no
 | fin (r:AC)
 | ok (l:List EY)
def FR.also (a:FR) (b:List EY->FR):FR :=
 match a with
 | .ok l=>b l
 | r=>r
def FR.pre (l:List EY):FR->FR
 | .ok m => .ok (l++m)
 | r=>r
def D5.meets:D5->Tm->FR
 | .mk k _ _ nm n s ks,v =>
   if k=1 then .ok []
   else if k=2 then .ok [(nm,v)]
   else if v.kind=16/\v.b.kind=5\/v.inner.kind≠k-1 then .no
   else if k=7\/k=9 then
    match AA v.chain v.inner,ks.map D5.meets with
    | .fin r,_ => .fin r
    | .ok a b,[f,g]=>(f a).also fun l=>(g b).pre l
    | .ok _ _,_ => .no
   else if (k=3\/k=4)/\v.inner.n≠n\/k=5/\v.inner.s≠s then .no else .ok []
theorem D5.B6j (k lo hi:Int) (nm:ByteArray) (n:Int) (s:ByteArray) (ks:List D5) (v:Tm) (h2:k=7\/k=9->ks.length=2):(D5.mk k lo hi nm n s ks).meets v =
 if k=1 then .ok [] else if k=2 then .ok [(nm,v)] else if v.kind=16/\v.b.kind=5\/v.inner.kind≠k-1 then .no
 else if k=7\/k=9 then
  match AA v.chain v.inner with
  | .fin r => .fin r
  | .ok a b=>(((D5.mk k lo hi nm n s ks).kd 0).meets a).also fun l=>(((D5.mk k lo hi nm n s ks).kd 1).meets b).pre l
 else if (k=3\/k=4)/\v.inner.n≠n\/k=5/\v.inner.s≠s then .no else .ok []:=by
 rw [D5.meets]
 by_cases k4:k=7\/k=9
 ·rw [if_pos k4,if_pos k4]
  match ks,h2 k4 with
  | [a,b],_=>cases AA v.chain v.inner <;> simp [D5.kd]
 ·rw [if_neg k4,if_neg k4]
theorem D5.WJ (p:D5) (v:Tm) (h2:p.kind=7\/p.kind=9->p.kids.length=2):p.meets v =
 if p.kind=1 then .ok [] else if p.kind=2 then .ok [(p.name,v)] else if v.kind=16/\v.b.kind=5\/v.inner.kind≠p.kind-1 then .no
 else if p.kind=7\/p.kind=9 then
  match AA v.chain v.inner with
  | .fin r => .fin r
  | .ok a b=>((p.kd 0).meets a).also fun l=>((p.kd 1).meets b).pre l
 else if (p.kind=3\/p.kind=4)/\v.inner.n≠p.n\/p.kind=5/\v.inner.s≠p.s then .no else .ok []:=by
 cases p with
 | mk k lo hi nm n s ks=>exact D5.B6j k lo hi nm n s ks v h2
def Gc (s:ByteArray) (xs:List Int) (v:Tm):SR :=
 match t.Ct s xs v with
 | some u => .ok u
 | none => .fin A_
def wJ (f v:Tm):SR :=
 if f.kind=9 then Gc (f.kd 0) f.name [] v
 else if f.kind≠16\/f.a.kind≠9\/f.b.kind≠9 then .fin A_
 else .ok (I4 f f.neg (f.a.kd 1) (f.b.kd 1) (.mk 10 0 0 O0 O0 0 O0 0 0 false [] BA BA [] [] [f.kd 0,I4 f (!f.neg) (f.b.kd 0) (f.a.kd 0) v]))
def FZ:Tm:=if t.name=t.arg then t.kd 0 else .mk 12 0 0 t.name t.arg 0 O0 0 0 false [] t.a t.b [] [] [t.kd 0,t.kd 0]
def DJ:Tm := .mk 9 0 0 t.arg O0 0 O0 0 0 false [] t.a BA [] [] [FZ t]
def jZ (k n:Int):Tm := .mk k 0 0 O0 O0 n O0 0 0 false [] BA BA [] [] []
def opF (a b:Tm):SR :=
 if a.kind≠(if t.op=7 then 4 else 2)\/b.kind≠(if t.op=7 then 4 else 2) then .fin A_
 else if t.op=7 then .ok (jZ 3 (if a.s=b.s then 1 else 0))
 else match A0G t.op a.n b.n with
  | some n => .ok (jZ (if 5<=t.op then 3 else 2) n)
  | none => .fin (atR 3 t.lo t.hi)
def PX:List EY->Tm->SR
 | [],x => .ok x
 | (s,v)::l,x=>(Gc x s [] v).bind (PX l)
def EZ (t:Tm) (v:Tm):Nat->List D5->SR
 | _,[] => .fin (atR 4 t.lo t.hi)
 | i,p::ps =>
   match p.meets v with
   | .fin r => .fin r
   | .no=>EZ t v (i+1) ps
   | .ok l=>PX l (t.kd (i+1))
def Re:SR :=
 if t.kind=10 then wJ (t.kd 0) (t.kd 1)
 else if t.kind=11 then Gc (t.kd 1) t.name t.vars (t.kd 0)
 else if t.kind=12 then Gc (t.kd 1) t.name t.vars (DJ t)
 else if t.kind=13 then (if (t.kd 0).kind≠3 then .fin A_ else .ok (if (t.kd 0).n=1 then t.kd 1 else t.kd 2))
 else if t.kind=15 then opF t (t.kd 0) (t.kd 1)
 else if t.kind=14 then EZ t (t.kd 0) 0 t.H6
 else if t.kind=16 then V7 t (t.kd 0)
 else .fin A_
def Y8 (k:Int):Nat:=if k=6\/k=8\/k=10\/k=15 then 2 else if k=11\/k=13\/k=14\/k=16 then 1 else 0
def Lc (n:Nat) (ks:List Tm):Option Nat:=(List.range n).find? fun i => !(ks.getD i FX).J2
def Tm.Bv:Tm->SR
 | .mk k lo hi nm ar n s op l q vs a b gs ps ks =>
   match Lc (Y8 k) ks with
   | some i=>((ks.map Tm.Bv).getD i (.fin A_)).bind fun x => .ok ((Tm.mk k lo hi nm ar n s op l q vs a b gs ps ks).Y7 i x)
   | none=>Re (.mk k lo hi nm ar n s op l q vs a b gs ps ks)
theorem Tm.fH:t.Bv=match Lc (Y8 t.kind) t.kids with
 | some i=>((t.kids.map Tm.Bv).getD i (.fin A_)).bind fun x => .ok (t.Y7 i x)
 | none=>Re t:=by
 cases t;rw [Tm.Bv];rfl
end
end Go.Su

/-
 THE CALCULUS: right terms' kids and types; what casts leave is right, closed, within bounds.
-/
namespace Go.Su
variable {t:Tm}
theorem Tm.je (h:t.right=true):1<=t.kind/\t.kind<=16:=by
 have:=Tm.AV h;simp only [Tm.one,Bn,z1q,decide_eq_true_eq] at this;omega
theorem Tm.Uz (h:t.right=true):(t.kids.length:Int)=O5 t.kind t.H6.length:=by
 have:=Tm.AV h;simp only [Tm.one,z1q,decide_eq_true_eq] at this;exact this.1.1.1.1.1.2
theorem Tm.Eh (h:t.right=true) (k:t.kind=6\/t.kind=8\/t.kind=10\/t.kind=11\/t.kind=12\/t.kind=15):t.kids.length=2:=by
 have:=Tm.Uz h;unfold O5 at this;rw [if_pos k] at this;omega
theorem Tm.Cr (h:t.right=true) (k:t.kind=9\/t.kind=16):t.kids.length=1:=by
 have:=Tm.Uz h;unfold O5 at this;rw [if_neg (by omega),if_pos k] at this
 omega
theorem Tm.A84 (h:t.right=true) (k:t.kind=13):t.kids.length=3:=by
 have:=Tm.Uz h;unfold O5 at this;rw [if_neg (by omega),if_neg (by omega),if_pos k] at this
 omega
theorem Tm.B2w (h:t.right=true) (k:t.kind=14):t.kids.length=t.H6.length+1:=by
 have:=Tm.Uz h;unfold O5 at this;rw [if_neg (by omega),if_neg (by omega),if_neg (by omega),if_pos k] at this
 omega
theorem Tm.NW (h:t.kids.length=1):t.kids=[t.kd 0]:=by
 match hk:t.kids,h with
 | [a],_=>simp [Tm.kd,hk]
theorem Tm.C1R (h:t.kids.length=2):t.kids=[t.kd 0,t.kd 1]:=by
 match hk:t.kids,h with
 | [a,b],_=>simp [Tm.kd,hk]
theorem Tm.Bd (h:t.right=true) (hk:t.kind=16):t.a.right=true/\t.b.right=true/\0<=t.label/\t.label<=1048576:=by
 have o:=Tm.AV h;unfold Tm.one Tm.Kj Tm.Lm Tm.Lp Tm.Mt X7 at o;simp [hk,kA,kB,M9] at o;exact ⟨o.1.1.2,o.1.2,by omega,by omega⟩
theorem Tm.AL (h:t.right=true) {i:Nat} (hi:i<t.kids.length):(t.kd i).right=true:=Tm.BU h (Tm.R9 hi)
theorem Ty.A3b {t:Ty} (h:t.right=true) {i:Nat} (hi:i<t.kids.length):(t.kd i).right=true:=Ty.BU h (Ty.R9 hi)
end Go.Su

/-
 THE CALCULUS: a cast of a value comes to a value, or to an end, in so many steps.
-/
namespace Go.Su
def SR.good (x:SR):Prop:=match x with | .ok _=>True | .fin r=>r.kind≠0
def Stp (t:Tm):Prop:=(t.kd 0).J2=true\/((t.kd 0).J2=false/\(t.kd 0).kind=16/\(t.kd 0).right=true/\((t.kd 0).kd 0).J2=true)
def VZ:Nat->Tm->Prop
 | 0,_=>False
 | n+1,t=>t.right=true/\(t.J2=true\/(t.J2=false/\t.kind=16/\Stp t/\∀ y,t.DF = .ok y->VZ n y))
structure CQ (Tq:Ty->Prop) (Q:Tm->Prop):Prop where
 g:∀ k,0<=arity k->Tq (K8 k)
 ty:∀ y,Tq y->y.right=true
 r:∀ t,Q t->t.right=true
 kid:∀ t,Q t->t.kind=16->Q (t.kd 0)
 cast:∀ (c:Tm) q A B w,0<=c.label->c.label<=1048576->Tq A->Tq B->Q w->Q (I4 c q A B w)
variable (c:Tm) (q:Bool)
theorem Si (A B:Ty) (w:Tm):(I4 c q A B w).J2=(Ep A B && w.J2):=by
 rw [Tm.Jj];simp [I4]
theorem A6r (A B:Ty) (w:Tm):(I4 c q A B w).kids.all Tm.J2=w.J2:=by simp [I4]
variable {w:Tm}
theorem A7e (A B:Ty) (h:w.J2=true):(I4 c q A B w).DF=V7 (I4 c q A B w) w:=by
 rw [Tm.Gf,A6r,if_pos h];rfl
theorem B6M (A B:Ty) (h:w.J2=false):(I4 c q A B w).DF=w.DF.bind fun y => .ok (I4 c q A B y):=by
 rw [Tm.Gf,A6r,if_neg (by rw [h];simp)]
 rfl
theorem dO (k:Int):(K8 k).kind=k:=rfl
theorem B2r {k:Int} (h5:k≠5) (h6:k≠6):(K8 k).isG=true:=by
 unfold Ty.isG;simp only [dO,decide_eq_true_eq];exact ⟨h5,h6,trivial⟩
theorem Ty.C0u {t:Ty} (h:t.right=true) (h5:t.kind≠5) (h6:t.kind≠6) (hg:t≠K8 t.kind):t.kind=7\/t.kind=8\/t.kind=9:=by
 obtain ⟨h1,h2,h3,h4,-⟩:=Ty.GD.1 h;have hn:t.n=0:=h4.resolve_left h6;apply Classical.byContradiction;intro hk;apply hg;have hl:t.kids.length=0:=by
  unfold arity at h1
  repeat' split at h1
  all_goals omega
 refine Ty.FU.2 ⟨rfl,hn, ?_⟩;rw [yx,z2q hl];have:arity t.kind=0:=by rw [h1,hl];rfl
 rw [this];rfl
theorem B1H (h:w.J2=true) (k:w.kind=16) (l:w.kids.length=1):(w.kd 0).J2=true:=by
 rw [Tm.Jj,if_neg (by omega),if_neg (by omega),if_pos k,z1q,Tm.NW l] at h
 simpa using h.2
theorem VZ.val {n:Nat} {t:Tm} (r:t.right=true) (h:t.J2=true):VZ (n+1) t:=⟨r, .inl h⟩
theorem Pe {n:Nat} {t:Tm} (h:t.J2=true):Z4 (n+1) t = .ok t:=by rw [Z4,if_pos h]
theorem Ml {n:Nat} {t:Tm} (h:t.J2=false):Z4 (n+1) t=t.DF.bind (Z4 n):=by rw [Z4,if_neg (by rw [h];simp)]
section
variable {Tq:Ty->Prop} {Q:Tm->Prop} (C:CQ Tq Q)
include C
def Done (Q:Tm->Prop) (x:SR):Prop:=match x with | .ok y=>y.J2=true/\Q y | .fin r=>r.kind≠0
variable {c:Tm} {q:Bool}
theorem A68 {A B:Ty} (h0:0<=c.label) (h1:c.label<=1048576) (hA:Tq A) (hB:Tq B) (hw:Q w) (vw:w.J2=true) (a5:A.kind=5) (b5:B.kind≠5) (b6:B.kind≠6) (bg:B=K8 B.kind) :
 Done (fun y=>Q y/\w.kind=16/\y=w.kd 0) (V7 (I4 c q A B w) w)/\Ep A B=false:=by
 have ra:=C.ty _ hA;have rw':=C.r _ hw;refine ⟨?_, ?_⟩
 ·unfold V7
  rw [if_neg (show ¬ ((I4 c q A B w).a.kids=[]/\(I4 c q A B w).a=(I4 c q A B w).b) from fun h=>b5 (by rw [<- show A=B from h.2];exact a5)),if_pos (show (I4 c q A B w).a.kind=5 from a5),if_neg (show ¬ ((I4 c q A B w).b.kind=5\/(I4 c q A B w).b.kind=6) from fun h=>h.elim b5 b6),if_neg (show ¬ (I4 c q A B w).b≠K8 (I4 c q A B w).b.kind from fun h=>h bg)]
  split
  ·show (6:Int)≠0;omega
  ·rename_i hn
   have k16:w.kind=16:=Classical.byContradiction fun h=>hn (.inl h)
   split
   ·exact ⟨B1H vw k16 (Tm.Cr rw' (.inr k16)),C.kid _ hw k16,k16,rfl⟩
   ·show (2:Int)≠0;omega
 ·unfold Ep
  rw [if_neg b5];simp [a5,Ne.symm b5]
theorem A5h {A B:Ty} {S:Tm->Prop} (S0:S w) (S1:w.kind=16->S (w.kd 0)) (S2:S (I4 c q A B w)) (S3:w.kind=16->∀ G,S (I4 c q G B (w.kd 0))) (S4:B.kind=5->∀ G,S (I4 c q G B (I4 c q A G w))) (h0:0<=c.label) (h1:c.label<=1048576) (hA:Tq A) (hB:Tq B) (hw:Q w) (vw:w.J2=true) :
 VZ 4 (I4 c q A B w)/\Done (fun y=>Q y/\S y) (Z4 4 (I4 c q A B w)):=by
 have ra:=C.ty _ hA;have rb:=C.ty _ hB;have qx:=C.cast c q A B w h0 h1 hA hB hw;have rx:=C.r _ qx
 by_cases hv:(I4 c q A B w).J2=true
 ·exact ⟨.val rx hv,by rw [Pe hv];exact ⟨hv,qx,S2⟩⟩
 have MO:(I4 c q A B w).J2=false:=by simpa using hv
 have st:=A7e c q A B vw;rw [Si,vw,Bool.and_true] at hv;have stp:Stp (I4 c q A B w) := .inl vw;have once:Done (fun y=>Q y/\S y) (V7 (I4 c q A B w) w)->VZ 4 (I4 c q A B w)/\Done (fun y=>Q y/\S y) (Z4 4 (I4 c q A B w)):=by
  intro hd;rw [Ml MO,st];refine ⟨⟨rx, .inr ⟨MO,rfl,stp,fun y hy => ?_⟩⟩, ?_⟩
  ·rw [st] at hy
   rw [hy] at hd;exact .val (C.r _ hd.2.1) hd.1
  ·cases hc:V7 (I4 c q A B w) w with
   | fin r=>rw [hc] at hd;exact hd
   | ok y =>
     rw [hc] at hd
     show Done (fun y=>Q y/\S y) (Z4 3 y)
     rw [Pe hd.1];exact hd
 by_cases e0:A.kids=[]/\A=B
 ·refine once ?_
  unfold V7;rw [if_pos (show (I4 c q A B w).a.kids=[]/\(I4 c q A B w).a=(I4 c q A B w).b from e0)]
  exact ⟨vw,hw,S0⟩
 by_cases a5:A.kind=5
 ·by_cases b5:B.kind=5
  ·exact absurd ⟨by rw [Ty.kg ra a5];rfl,by rw [Ty.kg ra a5,Ty.kg rb b5]⟩ e0
  by_cases b6:B.kind=6
  ·refine once ?_
   unfold V7;rw [if_neg (show ¬ ((I4 c q A B w).a.kids=[]/\(I4 c q A B w).a=(I4 c q A B w).b) from e0),if_pos (show (I4 c q A B w).a.kind=5 from a5),if_pos (show ((I4 c q A B w).b.kind=5\/(I4 c q A B w).b.kind=6) from .inr b6)]
   show (6:Int)≠0
   omega
  by_cases bg:B=K8 B.kind
  ·refine once ?_
   have d:=(A68 C (c:=c) (q:=q) h0 h1 hA hB hw vw a5 b5 b6 bg).1;cases hc:V7 (I4 c q A B w) w with
   | fin r=>rw [hc] at d;exact d
   | ok y =>
     rw [hc] at d;obtain ⟨d1,d2,d3,d4⟩:=d;exact ⟨d1,d2,d4 ▸ S1 d3⟩
  have hk:=Ty.C0u rb b5 b6 bg;have hG:Tq (K8 B.kind):=C.g _ (by have:=Ty.Cm rb;omega)
  have cF:V7 (I4 c q A B w) w = .ok (I4 c q (K8 B.kind) B (I4 c q A (K8 B.kind) w)):=by
   unfold V7;rw [if_neg (show ¬ ((I4 c q A B w).a.kids=[]/\(I4 c q A B w).a=(I4 c q A B w).b) from e0),if_pos (show (I4 c q A B w).a.kind=5 from a5),if_neg (show ¬ ((I4 c q A B w).b.kind=5\/(I4 c q A B w).b.kind=6) from fun h=>h.elim b5 b6),if_pos (show (I4 c q A B w).b≠K8 (I4 c q A B w).b.kind from bg)]
   rfl
  have qi:=C.cast c q A (K8 B.kind) w h0 h1 hA hG hw;have qy:=C.cast c q (K8 B.kind) B _ h0 h1 hG hB qi;obtain ⟨dI,aI⟩:=A68 C (c:=c) (q:=q) h0 h1 hA hG hw vw a5 b5 b6 rfl;have vi:(I4 c q A (K8 B.kind) w).J2=false:=by rw [Si,aI];rfl
  have vy:(I4 c q (K8 B.kind) B (I4 c q A (K8 B.kind) w)).J2=false:=by rw [Si,vi,Bool.and_false]
  have aY:Ep (K8 B.kind) B=true:=by
   unfold Ep;rw [if_neg b5];simp [dO,hk]
  have sI:=A7e c q A (K8 B.kind) vw;have sY:(I4 c q (K8 B.kind) B (I4 c q A (K8 B.kind) w)).DF=(V7 (I4 c q A (K8 B.kind) w) w).bind fun y => .ok (I4 c q (K8 B.kind) B y):=by rw [B6M c q _ B vi,sI]
  rw [Ml MO,st,cF]
  show VZ 4 _/\Done (fun y=>Q y/\S y) (Z4 3 _)
  rw [Ml vy,sY];have vz:∀ z,z.J2=true->(Q z/\w.kind=16/\z=w.kd 0)->(I4 c q (K8 B.kind) B z).J2=true/\Q (I4 c q (K8 B.kind) B z)/\S (I4 c q (K8 B.kind) B z):=fun z h hz=>⟨by rw [Si,aY,h];rfl,C.cast c q _ B z h0 h1 hG hB hz.1,hz.2.2 ▸ S3 hz.2.1 _⟩
  refine ⟨⟨rx, .inr ⟨MO,rfl,stp,fun y hy => ?_⟩⟩, ?_⟩
  ·rw [st,cF] at hy
   cases hy;refine ⟨C.r _ qy, .inr ⟨vy,rfl, .inr ⟨vi,rfl,C.r _ qi,vw⟩,fun y hy => ?_⟩⟩
   rw [sY] at hy;cases hc:V7 (I4 c q A (K8 B.kind) w) w with
   | fin r=>rw [hc] at hy;cases hy
   | ok z =>
     rw [hc] at hy dI;cases hy;obtain ⟨v1,v2⟩:=vz z dI.1 dI.2;exact .val (C.r _ v2.1) v1
  ·cases hc:V7 (I4 c q A (K8 B.kind) w) w with
   | fin r=>rw [hc] at dI;exact dI
   | ok z =>
     rw [hc] at dI;obtain ⟨v1,v2⟩:=vz z dI.1 dI.2
     show Done (fun y=>Q y/\S y) (Z4 2 (I4 c q (K8 B.kind) B z))
     rw [Pe v1];exact ⟨v1,v2⟩
 ·by_cases b5:B.kind=5
  ·by_cases a6:A.kind=6
   ·refine once ?_
    unfold V7;rw [if_neg (show ¬ ((I4 c q A B w).a.kids=[]/\(I4 c q A B w).a=(I4 c q A B w).b) from e0),if_neg (show ¬ (I4 c q A B w).a.kind=5 from a5),if_pos (show (I4 c q A B w).b.kind=5 from b5),if_pos (show (I4 c q A B w).a.kind=6 from a6)]
    show (6:Int)≠0
    omega
   ·have ag:A≠K8 A.kind:=by
     intro h;apply hv;unfold Ep;rw [if_pos b5];unfold Ty.isG;simp only [decide_eq_true_eq];exact ⟨a5,a6,h⟩
    have hk:=Ty.C0u ra a5 a6 ag;have hG:Tq (K8 A.kind):=C.g _ (by have:=Ty.Cm ra;omega)
    have qi:=C.cast c q A (K8 A.kind) w h0 h1 hA hG hw;have qy:=C.cast c q (K8 A.kind) B _ h0 h1 hG hB qi;refine once ?_;unfold V7;rw [if_neg (show ¬ ((I4 c q A B w).a.kids=[]/\(I4 c q A B w).a=(I4 c q A B w).b) from e0),if_neg (show ¬ (I4 c q A B w).a.kind=5 from a5),if_pos (show (I4 c q A B w).b.kind=5 from b5),if_neg (show ¬ (I4 c q A B w).a.kind=6 from a6)]
    refine ⟨?_,qy,S4 b5 _⟩
    show (I4 c q (K8 A.kind) B (I4 c q A (K8 A.kind) w)).J2=true
    have x1:Ep (K8 A.kind) B=true:=by
     unfold Ep;rw [if_pos b5];exact B2r a5 a6
    have x2:Ep A (K8 A.kind)=true:=by
     unfold Ep;rw [if_neg (show ¬ (K8 A.kind).kind=5 from a5)]
     simp [dO,hk]
    rw [Si,Si,x1,x2,vw];rfl
  ·refine once ?_
   unfold V7;rw [if_neg (show ¬ ((I4 c q A B w).a.kids=[]/\(I4 c q A B w).a=(I4 c q A B w).b) from e0),if_neg (show ¬ (I4 c q A B w).a.kind=5 from a5),if_neg (show ¬ (I4 c q A B w).b.kind=5 from b5)]
   show (6:Int)≠0
   omega
theorem iR {A B:Ty} (h0:0<=c.label) (h1:c.label<=1048576) (hA:Tq A) (hB:Tq B) (hw:Q w) (vw:w.J2=true) :
 VZ 4 (I4 c q A B w)/\Done Q (Z4 4 (I4 c q A B w)):=by
 obtain ⟨a,b⟩:=A5h C (c:=c) (q:=q) (S:=fun _=>True) trivial (fun _=>trivial) trivial (fun _ _=>trivial) (fun _ _=>trivial) h0 h1 hA hB hw vw
 refine ⟨a, ?_⟩;cases hs:Z4 4 (I4 c q A B w) with
 | fin r=>rw [hs] at b;exact b
 | ok y=>rw [hs] at b;exact ⟨b.1,b.2.1⟩
end
end Go.Su

/-
 THE CALCULUS: how many casts stand around parts of values.
-/
namespace Go.Su
variable (c:Tm)
theorem QX (q:Bool) (A B:Ty) (w:Tm):(I4 c q A B w).chain=w.chain++[I4 c q A B w]/\(I4 c q A B w).inner=w.inner:=by
 rw [Tm.bC,Tm.dh];exact ⟨rfl,rfl⟩
theorem Zd {t:Tm} (k:t.kind=16) (l1:t.kids.length=1):t.chain=(t.kd 0).chain++[t]/\t.inner=(t.kd 0).inner:=by
 rw [Tm.bC,Tm.dh,if_pos k,if_pos k,Tm.NW l1];exact ⟨rfl,rfl⟩
theorem Mj {t:Tm} (k:t.kind≠16):t.chain=[]/\t.inner=t:=by
 rw [Tm.bC,Tm.dh,if_neg k,if_neg k];exact ⟨rfl,rfl⟩
variable (l:List Tm)
noncomputable def nd:Nat:=(l.filter fun c=>decide (c.b.kind≠5)).length
theorem A9d (m:List Tm):nd (l++m)=nd l+nd m:=by simp [nd]
theorem B4w:nd [c]=if c.b.kind=5 then 0 else 1:=by
 unfold nd
 by_cases h:c.b.kind=5 <;> simp [h]
theorem B8i:nd (c::l)=nd [c]+nd l:=A9d [c] l
theorem B7q:nd l<=l.length:=zsq _ _
theorem A4a (t:Tm):t.right=true->t.chain.length+t.inner.size<=t.size/\t.inner.right=true/\t.inner.kind≠16:=by
 induction t using Tm.ind with
 | h t ih =>
   intro rt
   by_cases k:t.kind=16
   ·have l1:=Tm.Cr rt (.inr k)
    obtain ⟨c1,c2⟩:=Zd k l1;have h0:0<t.kids.length:=by omega
    obtain ⟨i1,i2⟩:=ih _ (Tm.R9 h0) (Tm.AL rt h0);have:=Tm.Dy (Tm.R9 h0);rw [c1,c2,zdq];simp only [z6q,z9q];exact ⟨by omega,i2⟩
   ·rw [(Mj k).1,(Mj k).2]
    exact ⟨by simp,rt,k⟩
structure B1K (w y:Tm) (n:Nat):Prop where
 i:y.inner=w.inner
 e:nd y.chain<=nd w.chain+n
 l:y.chain.length<=w.chain.length+2 * n
section
variable {Tq:Ty->Prop} {Q:Tm->Prop} (C:CQ Tq Q)
include C
theorem B0L {c:Tm} {q:Bool} {A B:Ty} {w:Tm} (h0:0<=c.label) (h1:c.label<=1048576) (hA:Tq A) (hB:Tq B) (hw:Q w) (vw:w.J2=true) :
 VZ 4 (I4 c q A B w)/\Done (fun y=>Q y/\B1K w y 1) (Z4 4 (I4 c q A B w)):=by
 have rw':=C.r _ hw;have one:∀ (q:Bool) (A B:Ty) (w:Tm),nd (I4 c q A B w).chain=nd w.chain+(if B.kind=5 then 0 else 1)/\(I4 c q A B w).chain.length=w.chain.length+1:=by
  intro q A B w;rw [(QX c q A B w).1,A9d,B4w,zdq];exact ⟨rfl,rfl⟩
 have ki:w.kind=16->nd (w.kd 0).chain<=nd w.chain/\(w.kd 0).chain.length<=w.chain.length/\(w.kd 0).inner=w.inner:=by
  intro k;obtain ⟨c1,c2⟩:=Zd k (Tm.Cr rw' (.inr k));rw [c1,c2,A9d,zdq];exact ⟨by omega,by omega,rfl⟩
 refine A5h C (S:=fun y=>B1K w y 1) ⟨rfl,by omega,by omega⟩ (fun k => ?_) ?_ (fun k G => ?_) (fun b5 G => ?_) h0 h1 hA hB hw vw
 ·obtain ⟨a,b,d⟩:=ki k
  exact ⟨d,by omega,by omega⟩
 ·obtain ⟨a,b⟩:=one q A B w
  exact ⟨(QX c q A B w).2,by rw [a];split <;> omega,by omega⟩
 ·obtain ⟨a,b⟩:=one q G B (w.kd 0)
  obtain ⟨x,y,z⟩:=ki k;exact ⟨(QX c q G B _).2.trans z,by rw [a];split <;> omega,by omega⟩
 ·obtain ⟨a,b⟩:=one q G B (I4 c q A G w)
  obtain ⟨x,y⟩:=one q A G w;refine ⟨(QX c q G B _).2.trans (QX c q A G w).2, ?_,by omega⟩
  rw [a,x,if_pos b5]
  split <;> omega
theorem JW {i:Nat} (hp:∀ y,Tq y->(y.kind=8/\i=1\/i<y.kids.length)->Tq (partT y i)) {kind:Int} (la:∀ y:Ty,y.right=true->y.kind=kind->i=1/\y.kind=8\/i<y.kids.length):∀ (L:List Tm),(∀ c∈L,c.right=true/\c.kind=16/\Tq c.a/\Tq c.b)->∀ w,Q w->w.J2=true->Done (fun y=>Q y/\B1K w y (nd L)) (BL kind i L w)
 | [],_,w,hq,hv=>⟨hv,hq,rfl,by omega,by omega⟩
 | c::L,hc,w,hq,hv=>by
   obtain ⟨rc,kc,ta,tb⟩:=hc c (z7q ..);obtain ⟨ra,rb,l0,l1⟩:=Tm.Bd rc kc;have ht:∀ c∈L,c.right=true/\c.kind=16/\Tq c.a/\Tq c.b:=fun d hd=>hc d (z4q _ hd)
   have hn1:=B8i c L;rw [B4w] at hn1;rw [BL]
   by_cases b5:c.b.kind=5
   ·rw [if_pos b5]
    rw [if_pos b5] at hn1;have d:=JW hp la L ht w hq hv;rw [show nd (c::L)=nd L by omega]
    exact d
   rw [if_neg b5];rw [if_neg b5] at hn1
   by_cases hn:c.a.kind≠kind\/c.b.kind≠kind
   ·rw [if_pos hn];show (6:Int)≠0;omega
   rw [if_neg hn];have ka:c.a.kind=kind:=Classical.byContradiction fun h=>hn (.inl h)
   have kb:c.b.kind=kind:=Classical.byContradiction fun h=>hn (.inr h)
   have la':=la _ ra ka;have lb':=la _ rb kb;obtain ⟨st,dn⟩:=B0L C (c:=c) (q:=c.neg) l0 l1 (hp _ ta (la'.imp (fun h=>⟨h.2,h.1⟩) id)) (hp _ tb (lb'.imp (fun h=>⟨h.2,h.1⟩) id)) hq hv
   cases hs:Z4 4 (I4 c c.neg (partT c.a i) (partT c.b i) w) with
   | fin r=>rw [hs] at dn;exact dn
   | ok y =>
     rw [hs] at dn;obtain ⟨d1,d2,d3⟩:=dn;have d:=JW hp la L ht y d2 d1
     show Done _ (BL kind i L y)
     cases hf:BL kind i L y with
     | fin r=>rw [hf] at d;exact d
     | ok z =>
       rw [hf] at d;obtain ⟨e1,e2,e3⟩:=d;exact ⟨e1,e2,e3.i.trans d3.i,by have:=e3.e;have:=d3.e;omega,by have:=e3.l;have:=d3.l;omega⟩
end
structure Mx (B:Nat) (v:Tm):Prop where
 e:nd v.chain+v.inner.size<=B
 l:v.chain.length<=3 * B
theorem Mx.of {B:Nat} {v:Tm} (r:v.right=true) (h:v.size<=B):Mx B v:=by
 obtain ⟨a,-⟩:=A4a v r;have:=B7q v.chain;exact ⟨by omega,by omega⟩
theorem Mx.part {B:Nat} {v k y:Tm} (h:Mx B v) (hk:k∈v.inner.kids) (rk:k.right=true) (g:B1K k y (nd v.chain)):Mx B y:=by
 obtain ⟨a,-⟩:=A4a k rk;have hs:=Tm.Dy hk;have:=B7q k.chain;have e:=h.e;have g1:=g.e;have g2:=g.l;refine ⟨?_,by omega⟩
 rw [g.i];omega
end Go.Su

/-
 TERMS: what a value put for a name, with variables, keeps: a property of every node, rightness, what is free.
-/
namespace Go.Su
inductive Tm.each (P:Tm->Prop):Tm->Prop where
 | mk (t:Tm):P t->(∀ k∈t.kids,Tm.each P k)->Tm.each P t
theorem Tm.each.one {P:Tm->Prop} {t:Tm} (h:t.each P):P t:=by cases h;assumption
theorem Tm.each.kid {P:Tm->Prop} {t k:Tm} (h:t.each P) (hk:k∈t.kids):k.each P:=by cases h with | mk _ _ g=>exact g k hk
theorem Tm.each.imp {P R:Tm->Prop} (hPR:∀ t,P t->R t) (t:Tm):t.each P->t.each R:=by
 induction t using Tm.ind with
 | h t ih=>intro h;exact .mk t (hPR t h.one) fun k hk=>ih k hk (h.kid hk)
variable (t:Tm)
theorem Tm.each.and {P R:Tm->Prop}:t.each P->t.each R->t.each fun t=>P t/\R t:=by
 induction t using Tm.ind with
 | h t ih=>intro h g;exact .mk t ⟨h.one,g.one⟩ fun k hk=>ih k hk (h.kid hk) (g.kid hk)
theorem Tm.A61 {b:Nat->List ByteArray} {s:ByteArray} {xs:List Int} {v:Tm}:∀ {ks ks':List Tm} {i:Nat},Tm.Dr b i ks s xs v=some ks'->∀ (j:Nat) k,ks[j]?=some k->∃ k',ks'[j]?=some k'/\(if ((b (i+j)).any fun x=>decide (x=s))=true then some k else k.Ct s xs v)=some k'
 | [],ks',i,h,j,k,hk=>by simp at hk
 | k0::ks,ks',i,h,j,k,hk=>by
   rw [Tm.PW] at h;cases h1:(if ((b i).any fun x=>decide (x=s))=true then some k0 else k0.Ct s xs v) with
   | none=>rw [h1] at h;cases h
   | some k1 =>
     rw [h1] at h;cases h2:Tm.Dr b (i+1) ks s xs v with
     | none=>rw [h2] at h;cases h
     | some ks2 =>
       rw [h2] at h;simp only [zNq,zmq,Option.some.injEq] at h;subst h;cases j with
       | zero =>
         simp only [zeq,Option.some.injEq] at hk;subst hk;exact ⟨k1,rfl,h1⟩
       | succ j =>
         obtain ⟨k',g1,g2⟩:=Tm.A61 h2 j k (by simpa using hk)
         exact ⟨k',by simpa using g1,by rwa [show i+(j+1)=i+1+j by omega]⟩
variable (s:ByteArray) (xs:List Int) (v:Tm)
theorem Tm.za {G:Tm->Prop} (node:∀ t,G t->∀ ks,ks.length=t.kids.length->(∀ k∈ks,G k)->G (t.V4 ks)) (kid:∀ t,G t->∀ k∈t.kids,G k) (val:∀ t,G t->t.kind=1->t.args.length=xs.length->G (v.EA (xs.zip t.args))) (t:Tm):G t->∀ u,t.Ct s xs v=some u->G u:=by
 induction t using Tm.ind with
 | h t ih =>
   intro gt u h;rw [Tm.Mk] at h
   by_cases h1:t.kind=1
   ·rw [if_pos h1] at h
    split at h
    ·split at h
     ·simp only [Option.some.injEq] at h;rw [<- h];exact val t gt h1 (by assumption)
     ·cases h
    ·simp only [Option.some.injEq] at h;rw [<- h];exact gt
   ·rw [if_neg h1] at h
    cases hp:Tm.Dr t.binds 0 t.kids s xs v with
    | none=>rw [hp] at h;cases h
    | some ks =>
      rw [hp] at h;simp only [zmq,Option.some.injEq] at h;subst h;refine node t gt ks (Tm.zZ hp) fun k' Ik => ?_
      rcases Tm.A62 hp k' Ik with hk | ⟨k,hk,hk2⟩
      ·exact kid t gt k' hk
      ·exact ih k hk (kid t gt k hk) k' hk2
theorem Tm.B2T {t:Tm} (h:t.right=true):∀ y∈t.args,y.right=true:=(Tm.B0b h).2.2
theorem Tm.PZ {t:Tm} (h:t.right=true):Cu t.vars=true:=by
 have o:=Tm.AV h;unfold Tm.one Tm.Kj Tm.Lm Tm.Lp Tm.Mt Tm.OQ Tm.lists at o;simp only [z1q] at o;exact o.2.2.2.2.2.2.1.1
theorem Tm.A45 (hx:Cu xs=true) (hv:v.right=true):t.right=true->∀ u,t.Ct s xs v=some u->u.right=true:=by
 refine Tm.za (G:=fun t=>t.right=true) s xs v (fun t rt ks hl hk => ?_) (fun t rt k hk=>Tm.BU rt hk) (fun t rt k1 hl => ?_) t
 ·rw [Tm.right_eq,Tm.A9h hl,Tm.AV rt,Bool.true_and,Tm.Rk,z8q]
  exact hk
 ·exact Tm.B3f v hv _ (nA hx (Tm.B2T rt))
theorem Tm.B31 {P:Tm->Prop} (hP:∀ t l ks,P t->ks.length=t.kids.length->P (.mk t.kind t.lo t.hi t.name t.arg t.n t.s t.op t.label t.neg t.vars (t.a.Z9 (if t.kind=12 then U3 l t.vars else l)) (t.b.Z9 (if t.kind=12 then U3 l t.vars else l)) (t.args.map (Ty.Z9 l)) t.H6 ks)) (t:Tm):∀ l,t.each P->(t.EA l).each P:=by
 induction t using Tm.ind with
 | h t ih =>
   intro l h;rw [Tm.TG];refine .mk _ (hP t l _ h.one (Tm.TF ..)) fun k hk => ?_
   rw [Tm.Q6] at hk;obtain ⟨j,hj,rfl⟩:=zfq.1 hk;have g:=Tm.Xt (U3 l t.vars) l t.kids j;rw [z0q hj] at g;have Bg:j<t.kids.length:=by rw [Tm.TF] at hj;exact hj
   rw [z0q Bg,zmq,Option.some.injEq] at g;rw [g];exact ih _ (zlq Bg) _ (h.kid (zlq Bg))
theorem Tm.B4E {P:Tm->Prop} (node:∀ t,P t->∀ ks,ks.length=t.kids.length->P (t.V4 ks)) (s:ByteArray) (xs:List Int) (v:Tm) (val:∀ l,(v.EA l).each P) (t:Tm):t.each P->∀ u,t.Ct s xs v=some u->u.each P :=
 Tm.za (G:=fun t=>t.each P) s xs v (fun t ht ks hl hk => .mk _ (node t ht.one ks hl) hk) (fun t ht k hk=>ht.kid hk) (fun t ht k1 hl=>val _) t
theorem Tm.B2H {P:Tm->Prop} (node:∀ t,P t->∀ ks,ks.length=t.kids.length->P (t.V4 ks)) (s:ByteArray) (v:Tm) (val:v.each P) (t:Tm):t.each P->∀ u,t.Ct s [] v=some u->u.each P :=
 Tm.za (G:=fun t=>t.each P) s [] v (fun t ht ks hl hk => .mk _ (node t ht.one ks hl) hk) (fun t ht k hk=>ht.kid hk) (fun t ht k1 hl=>by rw [List.zip_nil_left,Tm.B0c];exact val) t
variable {t:Tm}
theorem Tm.Ga:t.free=[] ↔ ∀ x,x∉t.fr []:=by
 constructor
 ·intro h x hx
  rw [<- Tm.pG,h] at hx;cases hx
 ·intro h
  cases hf:t.free with
  | nil=>rfl
  | cons x l=>exact absurd (Tm.pG.1 (show x∈t.free by rw [hf];exact z7q ..)) (h x)
theorem Tm.B8Y (t:Tm):∀ (l:DX) (L:List ByteArray) (x:ByteArray),x∈(t.EA l).fr L->x∈t.fr L:=by
 induction t using Tm.ind with
 | h t ih =>
   intro l L x hx;rcases Tm.DI.1 hx with ⟨h1,h2,h3⟩ | ⟨j,k,h1,h2⟩
   ·rw [Tm.TG] at h1 h2 h3
    exact Tm.DI.2 (.inl ⟨h1,h2,h3⟩)
   ·have hb:(t.EA l).binds=t.binds:=by rw [Tm.TG];rfl
    rw [hb] at h2;rw [Tm.TG,Tm.Q6,Tm.Xt] at h1;cases hk:t.kids[j]? with
    | none=>rw [hk] at h1;cases h1
    | some k0 =>
      rw [hk,zmq,Option.some.injEq] at h1;subst h1;exact Tm.DI.2 (.inr ⟨j,k0,hk,ih k0 (Tm.aG hk) _ _ x h2⟩)
theorem Tm.B43 (h:t.free=[]) (l:DX):(t.EA l).free=[] :=
 Tm.Ga.2 fun x hx=>Tm.Ga.1 h x (Tm.B8Y t l [] x hx)
theorem Tm.B1t (t:Tm) (s:ByteArray) (xs:List Int) (v:Tm) (hv:v.free=[]):t.right=true->∀ (u:Tm) (L:List ByteArray),s∉L->t.Ct s xs v=some u->∀ x,x∈u.fr L->x∈t.fr L/\x≠s:=by
 induction t using Tm.ind with
 | h t ih =>
   intro rt u L hL h x hx;rw [Tm.Mk] at h
   by_cases h1:t.kind=1
   ·rw [if_pos h1] at h
    by_cases h2:t.name=s
    ·rw [if_pos h2] at h
     split at h
     ·simp only [Option.some.injEq] at h
      subst h;exact absurd hx (Tm.XP (Tm.B43 hv _) L x)
     ·cases h
    ·rw [if_neg h2] at h
     simp only [Option.some.injEq] at h;subst h;refine ⟨hx, ?_⟩;rcases Tm.DI.1 hx with ⟨-,h5,-⟩ | ⟨j,k,h5,h6⟩
     ·rw [h5];exact h2
     ·rw [Tm.C0i rt h1] at h5;simp at h5
   ·rw [if_neg h1] at h
    cases hp:Tm.Dr t.binds 0 t.kids s xs v with
    | none=>rw [hp] at h;cases h
    | some ks =>
      rw [hp] at h;simp only [zmq,Option.some.injEq] at h;subst h;have Dh:=Tm.zZ hp;rcases Tm.DI.1 hx with ⟨h5,-,-⟩ | ⟨j,k',Ik,VN⟩
      ·exact absurd h5 h1
      ·rw [Tm.Rk] at Ik
       rw [Tm.nM] at VN;have hj:j<t.kids.length:=by rw [<- Dh];exact (zbq.1 Ik).1
       have hk:t.kids[j]?=some t.kids[j]:=z0q hj;obtain ⟨k2,g1,g2⟩:=Tm.A61 hp j _ hk;rw [Ik] at g1;simp only [Option.some.injEq] at g1;subst g1;rw [ztq] at g2
       by_cases hb:((t.binds j).any fun x=>decide (x=s))=true
       ·rw [if_pos hb] at g2
        simp only [Option.some.injEq] at g2;subst g2;refine ⟨Tm.DI.2 (.inr ⟨j,_,hk,VN⟩), ?_⟩;rintro rfl;exact Tm.A4J _ _ _ VN (z5q.2 (.inr (A5z.1 hb)))
       ·rw [if_neg hb] at g2
        obtain ⟨a,b⟩:=ih _ (Tm.aG hk) (Tm.BU rt (Tm.aG hk)) k' (L++t.binds j) (fun hy=>(z5q.1 hy).elim hL fun hy=>hb (A5z.2 hy)) g2 x VN
        exact ⟨Tm.DI.2 (.inr ⟨j,_,hk,a⟩),b⟩
variable {j:Nat}
theorem Tm.zN {k:Tm} (hk:t.kids[j]?=some k) (h:t.free=[]):∀ x,x∈k.fr []->x∈t.binds j:=by
 intro x hx;apply Classical.byContradiction;intro hb;exact Tm.Ga.1 h x (Tm.DI.2 (.inr ⟨j,k,hk,(Tm.A5L k ([]++t.binds j) [] x (by simp)).2 ⟨hx,by simpa using hb⟩⟩))
theorem Tm.B2u {k:Tm} (hk:t.kids[j]?=some k) (h:t.free=[]) (hb:t.binds j=[]):k.free=[] :=
 Tm.Ga.2 fun x hx=>by have:=Tm.zN hk h x hx;rw [hb] at this;cases this
theorem Tm.TA (h:j<t.kids.length):t.kids[j]?=some (t.kd j):=by rw [z0q h,Tm.Xk h]
end Go.Su

/-
 THE CALCULUS: what terms that are run keep: right, closed, within bounds in every node; a step keeps it; how it ends.
-/
namespace Go.Su
variable (t:Tm)
def Own:Prop:=t.name.size+t.arg.size+t.s.size+t.vars.length+(t.H6.map D5.N8).sum+t.kids.length<=1048576
def Tyb:Prop:=t.a.size<=20000/\t.b.size<=20000/\(t.args.map Ty.size).sum<=20000
def OT:Prop:=Own t/\Tyb t
structure QB (t:Tm):Prop where
 r:t.right=true
 e:t.each OT
structure QO (t:Tm):Prop where
 r:t.right=true
 e:t.each Own
 f:t.free=[]
structure QT (t:Tm):Prop extends QB t where
 f:t.free=[]
structure TQ (y:Ty):Prop where
 r:y.right=true
 z:y.size<=20000
noncomputable def Tm.VQ:Tm->Nat
 | .mk _ _ _ _ _ _ _ _ _ _ _ a b ys _ ks=>a.size+b.size+(ys.map Ty.size).sum+(ks.map Tm.VQ).sum
theorem Tm.B0d:t.VQ=t.a.size+t.b.size+(t.args.map Ty.size).sum+(t.kids.map Tm.VQ).sum:=by cases t;rw [Tm.VQ];rfl
theorem Own.N8:t.N8<=1048576->t.each Own:=by
 induction t using Tm.ind with
 | h t ih =>
   intro h;have e:=t.Ak;have l:=ma (l:=t.kids) Tm.WI;exact .mk t (by unfold Own;omega) fun k hk=>ih k hk (by have:=Tm.eD hk;omega)
theorem Tyb.VQ:t.VQ<=20000->t.each Tyb:=by
 induction t using Tm.ind with
 | h t ih =>
   intro h;have e:=t.B0d;exact .mk t (by unfold Tyb;omega) fun k hk=>ih k hk (by have:=Ki (f:=Tm.VQ) hk;omega)
variable {t:Tm}
theorem QO.qt (h:QO t) (hz:t.VQ<=20000):QT t:=⟨⟨h.r,Tm.each.and t h.e (Tyb.VQ t hz)⟩,h.f⟩
theorem QT.qo (h:QT t):QO t:=⟨h.r,Tm.each.imp (fun _ h=>h.1) t h.e,h.f⟩
theorem QB.kid {k:Tm} (h:QB t) (hk:k∈t.kids):QB k:=⟨Tm.BU h.r hk,h.e.kid hk⟩
variable {i:Nat}
theorem QT.kid (h:QT t) (hi:i<t.kids.length) (hb:t.binds i=[]):QT (t.kd i) :=
 ⟨h.toQB.kid (Tm.R9 hi),Tm.B2u (Tm.TA hi) h.f hb⟩
variable (t:Tm)
theorem QB.fit:QB t->t.fit:=by
 induction t using Tm.ind with
 | h t ih =>
   intro h;obtain ⟨ho,ha,hb,hy⟩:=h.e.one;unfold Own at ho;have hv:∀ y:Ty,y.size<=20000->y.thin=true/\y.Kr<=lim:=fun y hz =>
    ⟨Ty.Dk (by unfold lim;omega),Nat.le_trans (Ty.XH _) (by unfold lim;omega)⟩
   have ys:∀ y∈t.args,y.size<=20000:=fun y hm=>by have:=Ki (f:=Ty.size) hm;omega
   have yl:=ma (l:=t.args) Ty.Dz;have pl:=ma (l:=t.H6) D5.WI;refine .mk t ⟨by omega,by omega,by omega,by unfold lim;omega,(hv _ ha).1,(hv _ hb).1,(hv _ ha).2,(hv _ hb).2,by unfold lim;omega,fun y hm=>(hv y (ys y hm)).1,fun y hm=>(hv y (ys y hm)).2,by unfold lim;omega,fun p hp=>D5.bW ?_,by unfold lim;omega⟩ fun k hk=>ih k hk (h.kid hk)
   have:=Ki (f:=D5.N8) hp;omega
variable {s:ByteArray}
theorem A6S (h:DW s=true):s.size<=32:=by
 unfold DW at h;simp only [z1q,decide_eq_true_eq] at h;exact h.1.1.1.2
theorem A4V {b:Bool} (h:z8 b s=true):s.size<=32:=by
 unfold z8 at h
 split at h
 ·exact A6S h
 ·rw [decide_eq_true_eq] at h;rw [h];decide
variable {t:Tm}
theorem Tm.A2D (h:t.right=true):t.name.size<=32/\t.arg.size<=32/\t.s.size<=200/\(t.kids.length<2->t.vars.length=0/\t.H6.length=0):=by
 have o:=Tm.AV h;have l:=Tm.Uz h;have k:=Tm.je h;unfold Tm.one Tm.Kj Tm.Lm Tm.Lp Tm.Mt Tm.OQ at o;simp only [z1q,zYq,decide_eq_true_eq] at o;refine ⟨A4V o.1.1.1.1.2,A4V o.1.1.1.2,o.2.2.1.1.2,fun hl => ?_⟩
 obtain ⟨⟨⟨h1,h2⟩,h3⟩,h4⟩:=o.2.2.2.2.2;unfold Q5 Q4 at *;unfold O5 at l;simp only [decide_eq_true_eq] at h1 h2 h3;have ko:=o.1.1.1.1.1.1;unfold Bn at ko;simp only [z1q,zYq,zQq,decide_eq_true_eq,decide_eq_false_iff_not] at ko;refine ⟨h1.resolve_left fun hk => ?_,h3.resolve_left fun hk => ?_⟩
 ·rw [if_pos (by omega)] at l;omega
 ·rw [if_neg (by omega),if_neg (by omega),if_neg (by omega),if_pos hk] at l
  have:=ko.2;omega
theorem C3a (m a z b n H C:Nat) (h1:2*m+H<=C*z) (h2:2*a+H*n<=C*b):2*(m+a)+H*(n+1)<=C*(z+b):=by
 rw [zUq,zUq,zUq,Nat.mul_one];omega
theorem QB.B7o (t:Tm):QB t->2 * t.N8+1048576<=1169116 * t.size:=by
 induction t using Tm.ind with
 | h t ih =>
   intro h;obtain ⟨ho,ha,hb,hy⟩:=h.e.one;unfold Own at ho;obtain ⟨h1,h2,h3,h4⟩:=Tm.A2D h.r;have e:=t.Ak;have z:=t.size_eq;have key:∀ ks:List Tm,(∀ k∈ks,2 * k.N8+1048576<=1169116 * k.size)->2 * (ks.map Tm.N8).sum+1048576 * ks.length<=1169116 * (ks.map Tm.size).sum:=by
    intro ks
    induction ks with
    | nil=>intro _;simp
    | cons k ks ihk =>
      intro hk;have h1:=hk k (z7q ..);have h2:=ihk fun x hx=>hk x (z4q _ hx)
      simp only [zjq,zLq,z6q];exact C3a _ _ _ _ _ _ _ h1 h2
   have hk:=key t.kids fun k hk=>ih k hk (h.kid hk)
   by_cases hl:t.kids.length<2
   ·obtain ⟨v0,p0⟩:=h4 hl
    have hp:t.H6=[]:=z2q p0;rw [hp] at e;simp only [zrq,zVq] at e;omega
   ·omega
theorem QB.N8 (h:QB t) (hz:t.size<=1200):2 * t.N8<=1402939200:=by
 have:=QB.B7o t h;omega
theorem Tm.B3B (h:t.right=true) (k:t.kind=16):t.N8=1+t.a.size+t.b.size+(t.kd 0).N8:=by
 have o:=Tm.AV h;unfold Tm.one Tm.Kj Tm.Lm Tm.Lp Tm.Mt Tm.OQ z8 at o;simp [k,P9,V3,kS,Q5,Q8,Q4] at o;have e:=t.Ak;rw [Tm.NW (Tm.Cr h (.inr k))] at e;have n0:O0.size=0:=rfl;have hn:t.name=O0:=o.1.1.1.1.2;have ha:t.arg=O0:=o.1.1.1.2;have hs:t.s=O0:=o.2.2.1.1.1;have hv:t.vars=[]:=by have:=o.2.2.2.2.2.1.1.1;exact this
 have hy:t.args=[]:=by have:=o.2.2.2.2.2.1.1.2;exact this
 have hp:t.H6=[]:=by have:=o.2.2.2.2.2.1.2;exact this
 rw [hn,ha,hs,n0,hv,hy,hp] at e;simp only [z9q,zrq,zVq,zjq,zLq] at e;omega
theorem QB.B1U (t:Tm):QB t->2 * t.N8<=80002 * t.chain.length+1169116 * t.inner.size:=by
 induction t using Tm.ind with
 | h t ih =>
   intro h
   by_cases k:t.kind=16
   ·have l1:=Tm.Cr h.r (.inr k)
    obtain ⟨c1,c2⟩:=Zd k l1;have m:=Tm.R9 (show 0<t.kids.length by omega)
    have:=ih _ m (h.kid m);obtain ⟨ho,ha,hb,hy⟩:=h.e.one;rw [Tm.B3B h.r k,c1,c2,zdq,z6q,z9q];omega
   ·have:=QB.B7o t h
    rw [(Mj k).1,(Mj k).2];simp only [z9q];omega
theorem QB.A8k (h:QB t) (hb:Mx 1200 t):2 * t.N8<=1700000000:=by
 have:=QB.B1U t h;have:=hb.e;have:=hb.l;omega
variable {c:Tm} {q:Bool} {w:Tm}
theorem A1r {A B:Ty} (h0:0<=c.label) (h1:c.label<=1048576) (hA:A.right=true) (hB:B.right=true) (hw:w.right=true):(I4 c q A B w).right=true:=by
 rw [Tm.right_eq,z1q];refine ⟨?_,by simp [I4,hw]⟩
 unfold Tm.one Tm.Kj Tm.Lm Tm.Lp Tm.Mt Tm.OQ Tm.lists z8 X7 I4;simp [Bn,O5,P9,V3,kA,kB,kN,kS,Ag,Ah,M9,Q5,Q8,Q4,hA,hB,h0,h1,O0];rfl
theorem A6x {P:Tm->Prop} {A B:Ty} (h:P (I4 c q A B w)) (hw:w.each P):(I4 c q A B w).each P := .mk _ h fun k hk=>by
 have:k=w:=by simpa [I4] using hk
 rw [this];exact hw
theorem A9i (c:Tm) (q:Bool) (A B:Ty) (w:Tm):Own (I4 c q A B w):=by
 unfold Own I4;simp only [Tm.Cb,Tm.Gr,Tm.Ls,Tm.GX,Tm.Et,Tm.Q6,z9q,zrq,zVq,z6q]
 decide
theorem wN {A B:Ty} (h:w.free=[]):(I4 c q A B w).free=[]:=Tm.Ga.2 fun x hx=>by
 rcases Tm.DI.1 hx with ⟨h1,-,-⟩ | ⟨j,k,h1,h2⟩
 ·cases h1
 ·cases j with
  | zero =>
    simp only [I4,Tm.Q6,zeq,Option.some.injEq] at h1;subst h1;exact Tm.XP h _ x h2
  | succ j=>simp [I4] at h1
theorem QT.cast {A B:Ty} (h0:0<=c.label) (h1:c.label<=1048576) (hA:TQ A) (hB:TQ B) (hw:QT w):QT (I4 c q A B w) :=
 ⟨⟨A1r h0 h1 hA.r hB.r hw.r,A6x ⟨A9i ..,hA.z,hB.z,by simp [I4]⟩ hw.e⟩,wN hw.f⟩
theorem TQ.ground {k:Int} (h:0<=arity k):TQ (K8 k):=⟨uP h,by
 rw [Ty.size_eq,yx];have:(arity k).toNat<=2:=by unfold arity;repeat' split;all_goals omega
 have d:YL.size=1:=by rw [Ty.size_eq];rfl
 rw [List.map_replicate,List.sum_replicate_nat,d];omega⟩
theorem TQ.part {y:Ty} (h:TQ y) (hl:y.kind=8/\i=1\/i<y.kids.length):TQ (partT y i):=by
 unfold partT
 split
 ·exact h
 ·rename_i hn
  have hi:i<y.kids.length:=hl.resolve_left hn;exact ⟨Ty.A3b h.r hi,by have:=Ty.Dy (Ty.R9 hi);have:=h.z;omega⟩
theorem Tm.Nr (h:t.kind≠9) (h1:¬ (t.kind=11/\i=1)) (h2:t.kind≠12) (h3:¬ (t.kind=14/\0<i)):t.binds i=[]:=by
 unfold Tm.binds;rw [if_neg (by omega),if_neg h2,if_neg h3]
theorem QT.types (h:QT t) (k:t.kind=16):TQ t.a/\TQ t.b:=by
 obtain ⟨ra,rb,-⟩:=Tm.Bd h.r k;exact ⟨⟨ra,h.e.one.2.1⟩,⟨rb,h.e.one.2.2.1⟩⟩
end Go.Su

/-
 THE MACHINE: what holds in each state.
-/
namespace Go.Su
def listing:Nat->List Val->Prop
 | 0,l=>l=[]
 | _+1,[]=>False
 | k+1,v::l=>listing (k+v.ar) l
theorem B6T:∀ (n:Nat) (l:List Val) (k:Nat),l.length<=n->listing (k+1) l->listing k (FI n l).2/\(FI n l).2.length<l.length:=by
 intro n
 induction n with
 | zero =>
   intro l k hl h;have:l=[]:=z2q (by omega)
   subst this;cases h
 | succ n ih =>
   intro l k hl h;cases l with
   | nil=>cases h
   | cons v l =>
     simp only [z6q] at hl;rw [listing] at h;rw [FI]
     split
     ·rename_i hk
      rw [Val.ar,if_pos hk] at h;obtain ⟨a1,a2⟩:=ih l (k+1) (by omega) h
      obtain ⟨b1,b2⟩:=ih _ k (by omega) a1
      exact ⟨b1,by simp only [z6q];omega⟩
     ·rename_i hk
      rw [Val.ar,if_neg hk] at h;exact ⟨h,by simp⟩
end Go.Su

/-
 RUNS ON CLOSED DATA, by rewriting: what the data's operations make of data that are written out.
-/
namespace Go.Su
theorem C0h {α : Type} {c c':Prop} [d:Decidable c] (h:c=c') (x y : α):(if c then x else y)=@ite α c' (h ▸ d) x y:=by subst h;rfl
theorem B6s (j:Nat) (cs:List DV):A7 j (.agg cs)=cs.getD j .undef:=rfl
theorem B2q (n:Nat) (cs:List DV):C9 n (.agg cs)=(cs.length == n):=rfl
theorem B7L (a:Array UInt8):(ByteArray.mk a).size=a.size:=rfl
theorem B64 (a b:Array UInt8):((ByteArray.mk a)=ByteArray.mk b)=(a.toList=b.toList):=by
 apply propext;constructor
 ·intro h;cases h;rfl
 ·intro h;rw [Array.ext' h]
theorem B4k (a b:Array UInt8):Bu (.str ⟨a⟩) (.str ⟨b⟩)=decide (a.toList=b.toList):=by
 simp only [Bu];rw [f_];congr 1;exact B64 a b
variable (k:IntKind)
theorem B4l (k':IntKind) (a b:Int):Bu (.int k a) (.int k' b)=decide (a=b):=by simp only [Bu];rfl
variable (sz:Nat) (ds:List DV)
theorem B9H (es:List DV):Be sz (.list sz ds) (.list sz es)=if ds.length+es.length<=4294967296 then some (.list sz (ds++es)) else none:=by
 simp [Be,lim]
theorem B9J (i:Nat) (cs:List DV):I9 i (.F3 cs)=cs[i]?:=rfl
theorem C1l (m:Nat):bnd m none=some m:=rfl
theorem C1m (m:Nat) (k:IntKind) (n:Int):bnd m (some (.int k n))=if 0<=n then some n.toNat else none:=rfl
theorem B5E (lo hi:Option DV):CP sz (.list sz ds) lo hi=ob (bnd ds.length hi) fun h=>ob (bnd 0 lo) fun l=>if l<=h/\h<=ds.length then some (.list sz ((ds.take h).drop l)) else none:=by
 simp [CP]
variable (d:DV)
theorem B3Y (lo:Option DV) (k k':IntKind) (h m:Int):A0u sz d lo (.int k h) (.int k' m)=if h=m then CP sz d lo (some (.int k h)) else none:=rfl
variable (ks:List LK)
theorem B3L (xs ys:List DV):Vd ks (.agg xs) (.agg ys)=DN ks xs ys:=rfl
theorem B3R:DN [] [] []=some true:=rfl
theorem B3Q (k:LK) (ks:List LK) (x y:DV) (xs ys:List DV):DN (k::ks) (x::xs) (y::ys)=ob (wR k x y) fun b=>bif b then DN ks xs ys else some false:=by
 simp only [DN]
 congr 1;funext b;cases b <;> rfl
theorem B3P (a b:Int):wR .int (.int k a) (.int k b)=some (decide (a=b)):=by simp only [wR,if_true];rfl
theorem B9I (a b:Bool):wR .bool (.bool a) (.bool b)=some (a == b):=rfl
theorem B7P (n:Int):O6 .neg (.int k n)=some (.int k (k.wrap (0-n))):=rfl
variable (k:DV)
theorem C0n:AO [] k=none:=rfl
theorem C0m (e:DV × DV) (es:List (DV × DV)) (k:DV):AO (e::es) k=bif Bu k e.1 then some e.2 else AO es k:=by
 simp only [AO,List.find?_cons];cases Bu k e.1 <;> rfl
theorem C0p (v:DV):BC [] k v=[(k,v)]:=rfl
theorem C0o (e:DV × DV) (es:List (DV × DV)) (k v:DV):BC (e::es) k v=bif Bu k e.1 then (e.1,v)::es else e::BC es k v:=by
 simp only [BC];cases Bu k e.1 <;> rfl
variable (sg:List D8)
theorem B4z (c:DV × Meta):oneCell sg [c]=Q7 sg c:=rfl
theorem C0X (d:DV):Q7 sg (d, .val)=some d:=rfl
theorem C0V (d:DV):Q7 sg (d, .full)=some d:=rfl
theorem C0W (d:DV):Q7 sg (d, .own)=some d:=rfl
theorem C0U (d:DV) (i sz off len:Nat):Q7 sg (d, .arr i sz off len)=ob (BN sg i) fun a=>og (a.1 == sz) (if off+len<=a.2.length then some (.list sz ((a.2.drop off).take len)) else none):=rfl
theorem B2S:B6x (some d)=some d:=rfl
variable (k:IntKind)
theorem C2k:F5 sz (.list sz ds) (.int k 0)=ds[0]?:=by simp [F5]
theorem C2l:F5 sz (.list sz ds) (.int k 1)=ds[1]?:=by simp [F5]
theorem C2m:F5 sz (.list sz ds) (.int k 2)=ds[2]?:=by simp [F5]
theorem C2n:F5 sz (.list sz ds) (.int k 3)=ds[3]?:=by simp [F5]
theorem C2o:F5 sz (.list sz ds) (.int k 4)=ds[4]?:=by simp [F5]
theorem C2p:F5 sz (.list sz ds) (.int k 5)=ds[5]?:=by simp [F5]
theorem C2q:F5 sz (.list sz ds) (.int k 6)=ds[6]?:=by simp [F5]
theorem C2r:F5 sz (.list sz ds) (.int k 7)=ds[7]?:=by simp [F5]
theorem C2s:F5 sz (.list sz ds) (.int k 8)=ds[8]?:=by simp [F5]
theorem C2t:F5 sz (.list sz ds) (.int k 9)=ds[9]?:=by simp [F5]
theorem C1o:F5 sz (.list sz ds) (.int k 10)=ds[10]?:=by simp [F5]
theorem C1p:F5 sz (.list sz ds) (.int k 11)=ds[11]?:=by simp [F5]
theorem C1q:F5 sz (.list sz ds) (.int k 12)=ds[12]?:=by simp [F5]
theorem C1r:F5 sz (.list sz ds) (.int k 13)=ds[13]?:=by simp [F5]
theorem C1s:F5 sz (.list sz ds) (.int k 14)=ds[14]?:=by simp [F5]
theorem C1t:F5 sz (.list sz ds) (.int k 15)=ds[15]?:=by simp [F5]
variable (a:Array UInt8)
theorem C2u (k:IntKind):Y4 (.str ⟨a⟩) (.int k 0)=(a.toList[0]?).map fun b => .int .u8 b.toNat:=by simp [Y4]
theorem C2v (k:IntKind):Y4 (.str ⟨a⟩) (.int k 1)=(a.toList[1]?).map fun b => .int .u8 b.toNat:=by simp [Y4]
theorem C2w (k:IntKind):Y4 (.str ⟨a⟩) (.int k 2)=(a.toList[2]?).map fun b => .int .u8 b.toNat:=by simp [Y4]
theorem C2x (k:IntKind):Y4 (.str ⟨a⟩) (.int k 3)=(a.toList[3]?).map fun b => .int .u8 b.toNat:=by simp [Y4]
theorem C2y (k:IntKind):Y4 (.str ⟨a⟩) (.int k 4)=(a.toList[4]?).map fun b => .int .u8 b.toNat:=by simp [Y4]
theorem C2z (k:IntKind):Y4 (.str ⟨a⟩) (.int k 5)=(a.toList[5]?).map fun b => .int .u8 b.toNat:=by simp [Y4]
theorem C2A (k:IntKind):Y4 (.str ⟨a⟩) (.int k 6)=(a.toList[6]?).map fun b => .int .u8 b.toNat:=by simp [Y4]
theorem C2B (k:IntKind):Y4 (.str ⟨a⟩) (.int k 7)=(a.toList[7]?).map fun b => .int .u8 b.toNat:=by simp [Y4]
end Go.Su

/-
 More rewriting rules for closed calls: none of them is by `rfl` alone (else the congruence rules fail and the lambdas are entered).
-/
namespace Go.Su
theorem B6U (off len:Nat) (k:IntKind) (n:Int):Am off len (.int k n)=if 0<=n/\n<len then some (off+n.toNat) else none:=by first | (simp only [Am];done) | (simp only [Am];rfl)
variable (sg:List D8) (i:Nat)
theorem B9g:M5 sg i=(match sg[i]? with | some (.box cs)=>some cs | _=>none):=by first | (simp only [M5];done) | (simp only [M5];rfl)
theorem B9f:BN sg i=(match sg[i]? with | some (.arr sz ds)=>some (sz,ds) | _=>none):=by first | (simp only [BN];done) | (simp only [BN];rfl)
theorem B9h:Av sg i=(match sg[i]? with | some (.map ks es)=>some (ks,es) | _=>none):=by first | (simp only [Av];done) | (simp only [Av];rfl)
theorem B9i:GU sg i=(match sg[i]? with | some (.opn sz pre ds)=>some (sz,pre,ds) | _=>none):=by first | (simp only [GU];done) | (simp only [GU];rfl)
theorem B9j (n:Nat):Dt sg i n=(match sg[i]? with | some (.U1 n' sz ds)=>if n'=n then some (sz,ds) else none | _=>none):=by first | (simp only [Dt];done) | (simp only [Dt];rfl)
variable (cs:List (DV × Meta)) (o:Nat)
theorem B49:X5 cs o=(match cs[o]? with | some (d, .val)=>some d | some (d, .full)=>some d | some (d, .own)=>some d | some (d, .Di)=>some d | _=>none):=by first | (simp only [X5];done) | (simp only [X5];rfl)
theorem B5b:FP cs o=(match cs[o]? with | some (d, .full)=>some d | some (d, .own)=>some d | _=>none):=by first | (simp only [FP];done) | (simp only [FP];rfl)
theorem B5a:Sk cs o=(match cs[o]? with | some (_, .map i)=>some i | _=>none):=by first | (simp only [Sk];done) | (simp only [Sk];rfl)
theorem B5c:kQ cs o=(match cs[o]? with | some (_, .ptr i 0)=>some i | _=>none):=by first | (simp only [kQ];done) | (simp only [kQ];rfl)
variable (sz:Nat)
theorem B5d:kR cs o sz=(match cs[o]? with | some (_, .U1 i n sz' len)=>if sz'=sz then some (i,n,len) else none | _=>none):=by first | (simp only [kR];done) | (simp only [kR];rfl)
theorem B9m (off:Nat) (cs:List (DV × Meta)) (sz:Nat):Rh sg i off cs sz=(match cs[off]? with
 | some (_, .U1 j n sz' len)=>if sz'=sz then some (sg,j,n,len) else none
 | some (.list sz' [], .full)=>if sz'=sz/\0<sz then some (sg.set i (.box (cs.set off (.undef, .U1 sg.length 1 sz 0)))++[.U1 1 sz []],sg.length,1,0) else none
 | _=>none):=by first | (simp only [Rh];done) | (simp only [Rh];rfl)
theorem C1e (n:Nat):A3n n=some (.int .i64 n):=by cases n <;> simp only [A3n] <;> rfl
theorem B5f (cs:List (DV × Meta)):CV o 0 cs=some []:=by first | (simp only [CV];done) | (simp only [CV];rfl)
theorem B5g (n:Nat) (cs:List (DV × Meta)):CV o (n+1) cs=ob (X5 cs o) fun d=>ob (CV (o+1) n cs) fun ds=>some (d::ds):=by first | (simp only [CV];done) | (simp only [CV];rfl)
theorem B0f:U0 sg []=some []:=by first | (simp only [U0];done) | (simp only [U0];rfl)
theorem B0g (c:DV × Meta) (cs:List (DV × Meta)):U0 sg (c::cs)=ob (Q7 sg c) fun d=>ob (U0 sg cs) fun ds=>some (d::ds):=by first | (simp only [U0];done) | (simp only [U0];rfl)
theorem B44:BQ []=some []:=by first | (simp only [BQ];done) | (simp only [BQ];rfl)
variable (d:DV)
theorem B47 (cs:List (DV × Meta)):BQ ((d, .val)::cs)=ob (BQ cs) fun ds=>some (d::ds):=by first | (simp only [BQ];done) | (simp only [BQ];rfl)
theorem B45 (cs:List (DV × Meta)):BQ ((d, .full)::cs)=ob (BQ cs) fun ds=>some (d::ds):=by first | (simp only [BQ];done) | (simp only [BQ];rfl)
theorem B46 (cs:List (DV × Meta)):BQ ((d, .own)::cs)=ob (BQ cs) fun ds=>some (d::ds):=by first | (simp only [BQ];done) | (simp only [BQ];rfl)
theorem C1d (sz':Nat) (d:DV):A2U sz (.Mv sz' d)=if sz'=sz then some d else none:=by first | (simp only [A2U];done) | (simp only [A2U];rfl)
variable (k:IntKind) (n:Int)
theorem C1c:A5C (.int k n)=some n.toNat:=by first | (simp only [A5C];done) | (simp only [A5C];rfl)
theorem C1a (k':IntKind) (a b:Int):jG (.int k a) (.int k' b)=if k=k' then some (.int k (if b>a then b else a)) else none:=by first | (simp only [jG];done) | (simp only [jG];rfl)
theorem C1b (k':IntKind) (a b:Int):jH (.int k a) (.int k' b)=if k=k' then some (.int k (if b<a then b else a)) else none:=by first | (simp only [jH];done) | (simp only [jH];rfl)
variable (s:ByteArray)
theorem B88:DC (.str s)=some (.int .i64 s.size):=by first | (simp only [DC];done) | (simp only [DC];rfl)
theorem B87 (k':IntKind) (n:Int):T_ k (.int k' n)=some (.int k (k.wrap n)):=by first | (simp only [T_];done) | (simp only [T_];rfl)
variable (a:Nat)
theorem B5e (b c:List DV) (idx:Nat) (e:DV):Iz (a,b,c) idx e=if b.length<=idx/\idx-b.length<c.length then some (.opn a b (c.set (idx-b.length) e)) else none:=by first | (simp only [Iz];done) | (simp only [Iz];rfl)
theorem B5h (off:Nat) (cs:List DV) (xs:List (DV × Meta)):IC sz off (.agg cs) xs=if xs.all (fun c=>J5 c.2 && K6 c.1)=true/\cs.length=sz/\off+xs.length<=sz then some (.agg (putAt cs off (xs.map (·.1)))) else none:=by first | (simp only [IC];done) | (simp only [IC];rfl)
theorem B81:I6 (.int k n)=true:=by first | (simp only [I6];done) | (simp only [I6];rfl)
variable (b:Bool)
theorem B80:I6 (.bool b)=true:=by first | (simp only [I6];done) | (simp only [I6];rfl)
theorem B85:I6 (.str s)=true:=by first | (simp only [I6];done) | (simp only [I6];rfl)
variable (n:Nat) (l:List DV)
theorem B82:I6 (.list n l)=true:=by first | (simp only [I6];done) | (simp only [I6];rfl)
theorem B83:I6 .Io=true:=by first | (simp only [I6];done) | (simp only [I6];rfl)
theorem B84 (d:DV):I6 (.Mv n d)=true:=by first | (simp only [I6];done) | (simp only [I6];rfl)
theorem B9a (n:Int):K6 (.int k n)=true:=by first | (simp only [K6];done) | (simp only [K6];rfl)
theorem B89:K6 (.bool b)=true:=by first | (simp only [K6];done) | (simp only [K6];rfl)
theorem B9e:K6 (.str s)=true:=by first | (simp only [K6];done) | (simp only [K6];rfl)
theorem B9b:K6 (.list n l)=true:=by first | (simp only [K6];done) | (simp only [K6];rfl)
theorem B9c:K6 .Io=true:=by first | (simp only [K6];done) | (simp only [K6];rfl)
theorem B9d (d:DV):K6 (.Mv n d)=true:=by first | (simp only [K6];done) | (simp only [K6];rfl)
theorem B86 (b:Nat) (ds es:List DV):Jz sz (.list a ds) (.list b es)=if (a=sz/\b=sz)/\ds.length+es.length<=lim/\0<es.length then some (ds,es) else none:=by first | (simp only [Jz];done) | (simp only [Jz];rfl)
theorem C09 (a b:Bool):jF (.bool a) (.bool b)=some (a == b):=by first | (simp only [jF];done) | (simp only [jF];rfl)
theorem B3g (b c:List DV) (sz len:Nat):FQ (a,b,c) sz len=if a=sz/\b.length+c.length=len/\0<len then some (.list sz (b++c)) else none:=by first | (simp only [FQ];done) | (simp only [FQ];rfl)
theorem B48:Sj cs o=(match cs[o]? with | some (_, .arr i sz 0 len)=>some (i,sz,len) | _=>none):=by first | (simp only [Sj];done) | (simp only [Sj];rfl)
theorem B6V:UA (d, .Di) (d, .Di)=some true:=by simp only [UA,Xo]
theorem B6W:UA (.Io, .val) (.Io, .Di)=some true:=by simp only [UA,Xo]
theorem B6X (d:DV):UA (.Mv n d, .val) (.Io, .Di)=some false:=by simp only [UA,Xo]
theorem B6Y (e:DV) (i:Nat):UA (e, .ptr i 0) (.Io, .Di)=some false:=by simp only [UA,Xo]
theorem B9l {α : Type} (l:List α):l.take 0=[]:=by simp
end Go.Su

/-
 The settings of the data machine for this seat: by program.
-/
namespace Go.Su
noncomputable section
open Go.Proofs
def spread {α : Type} (d : α):Nat->Nat->List (Nat × α)->List α
 | 0,_,_=>[]
 | n+1,i,[]=>d::spread d n (i+1) []
 | n+1,i,(j,x)::l=>match Nat.beq i j with
   | true=>x::spread d n (i+1) l
   | false=>d::spread d n (i+1) ((j,x)::l)
def bxs (d:DV):Nat->Nat->List (DV × Meta)
 | _,0=>[]
 | i,n+1=>(A7 i d, .val)::bxs d (i+1) n
def mst (n:Nat) (a:List (Nat × DV)) (b:List (Nat × Meta)) (c:List (Nat × Option (List (DV × Meta)))) (g:List D8):St:=⟨spread .undef n 0 a,spread .val n 0 b,spread none n 0 c,g⟩
abbrev sF:Option DV:=some (.bool false)
abbrev sT:Option DV:=some (.bool true)
abbrev Cw (l:List DV):List DV:=(.int .i64 0)::(.int .i64 0)::(.str ⟨#[]⟩)::(.str ⟨#[]⟩)::(.int .i64 0)::(.str ⟨#[]⟩)::(.int .i64 0)::(.int .i64 0)::(.bool false)::(.list 1 [])::(.int .i64 0)::(.int .i64 0)::(.list 3 [])::(.int .i64 0)::(.int .i64 0)::(.list 3 [])::(.list 3 [])::(.list 7 [])::(.list 20 [])::l
abbrev Bh (l:List DV):List DV:=(.int .i64 0)::(.int .i64 0)::(.str ⟨#[]⟩)::(.int .i64 0)::(.int .i64 0)::(.int .i64 0)::(.bool false)::(.list 5 [])::(.list 9 [])::(.int .i64 0)::(.bool false)::(.int .i64 0)::(.int .i64 0)::l
abbrev Qs (l:List DV):List DV:=(.int .i64 0)::(.bool false)::(.list 1 [])::(.int .i64 0)::(.int .i64 0)::(.list 3 [])::(.int .i64 0)::(.int .i64 0)::(.list 3 [])::(.list 3 [])::(.list 7 [])::l
abbrev FC (l:List DV):List DV:=(.bool false)::(.bool false)::(.bool false)::(.bool false)::l
abbrev zz4 (l:List (DV × Meta)):List (DV × Meta):=(.int .i64 0, .val)::(.int .i64 0, .val)::(.int .i64 0, .val)::(.str ⟨#[]⟩, .val)::(.int .i64 0, .val)::(.int .i64 0, .val)::(.int .i64 0, .val)::(.bool false, .val)::(.list 5 [], .full)::(.list 9 [], .full)::(.int .i64 0, .val)::(.bool false, .val)::(.int .i64 0, .val)::(.int .i64 0, .val)::(.int .i64 0, .val)::l
abbrev uw (l:List DV):List DV:=(.int .i64 0)::(.int .i64 0)::(.str ⟨#[]⟩)::(.int .i64 0)::(.int .i64 0)::(.int .i64 0)::(.bool false)::(.list 5 [])::(.list 9 [])::l
abbrev Nb (l:List DV):List DV:=(.int .i64 0)::(.int .i64 0)::(.str ⟨#[]⟩)::(.str ⟨#[]⟩)::l
abbrev Kt (l:List DV):List DV:=(.int .i64 0)::(.int .i64 0)::(.list 3 [])::l
abbrev Xu (l:List DV):List DV:=(.int .i64 0)::(.str ⟨#[]⟩)::(.int .i64 0)::l
abbrev zz9 (l:List DV):List DV:=(.int .i64 0)::(.int .i64 0)::(.int .i64 0)::(.bool false)::(.list 5 [])::(.list 9 [])::l
abbrev A0m (l:List DV):List DV:=(.int .i64 0)::(.bool false)::(.list 1 [])::l
abbrev B0i (l:List DV):List DV:=(.list 3 [])::(.list 7 [])::(.list 20 [])::l
abbrev jr:FuncId:=3
abbrev ig:FuncId:=5
abbrev Jb:FuncId:=6
abbrev TM:FuncId:=7
abbrev ZP:FuncId:=8
abbrev VT:FuncId:=9
abbrev LC:FuncId:=10
abbrev QP:FuncId:=11
abbrev Nf:FuncId:=12
abbrev QM:FuncId:=13
abbrev IG:FuncId:=14
abbrev MV:FuncId:=21
abbrev vI:FuncId:=22
abbrev ZX:FuncId:=23
abbrev We:FuncId:=24
abbrev Dm:FuncId:=25
abbrev EU:FuncId:=26
abbrev Ip:FuncId:=27
abbrev Cf:FuncId:=28
abbrev Bz:FuncId:=29
abbrev Ig:FuncId:=30
abbrev QN:FuncId:=31
abbrev TJ:FuncId:=32
abbrev XI:FuncId:=33
abbrev ZZ:FuncId:=34
abbrev aU:FuncId:=36
abbrev ZW:FuncId:=38
abbrev MU:FuncId:=39
abbrev Og:FuncId:=40
abbrev nV:FuncId:=41
abbrev ET:FuncId:=42
abbrev VS:FuncId:=43
abbrev Gv:FuncId:=44
abbrev Sb:FuncId:=45
abbrev nU:FuncId:=46
abbrev QR:FuncId:=47
abbrev JB:FuncId:=48
abbrev II:FuncId:=49
abbrev aR:FuncId:=50
abbrev vJ:FuncId:=51
abbrev iy:FuncId:=52
abbrev Sc:FuncId:=53
abbrev Xy:FuncId:=54
abbrev aQ:FuncId:=55
abbrev aS:FuncId:=56
abbrev Y9:FuncId:=57
abbrev Wh:FuncId:=58
abbrev Xv:FuncId:=59
abbrev iY:FuncId:=60
abbrev nO:FuncId:=62
abbrev Oe:FuncId:=63
abbrev nP:FuncId:=64
abbrev Au:FuncId:=65
abbrev VR:FuncId:=66
abbrev aN:FuncId:=67
abbrev aM:FuncId:=68
abbrev Ng:FuncId:=69
abbrev Nh:FuncId:=70
abbrev TK:FuncId:=71
abbrev ZY:FuncId:=72
abbrev ZR:FuncId:=75
abbrev WX:FuncId:=76
abbrev Ni:FuncId:=78
abbrev Xw:FuncId:=88
abbrev Dl:FuncId:=89
abbrev TL:FuncId:=90
abbrev ib:FuncId:=91
abbrev ZQ:FuncId:=92
abbrev fO:FuncId:=93
abbrev QQ:FuncId:=94
abbrev nQ:FuncId:=95
abbrev vG:FuncId:=96
abbrev DL:FuncId:=97
abbrev aO:FuncId:=98
abbrev Gw:FuncId:=99
abbrev vH:FuncId:=100
abbrev A2M:FuncId:=101
abbrev MW:FuncId:=102
abbrev JC:FuncId:=103
abbrev aP:FuncId:=104
abbrev MX:FuncId:=105
abbrev TI:FuncId:=107
abbrev Da:FuncId:=108
abbrev nW:FuncId:=109
abbrev KG:FuncId:=110
abbrev BD:FuncId:=111
abbrev LD:FuncId:=112
abbrev Lx:FuncId:=113
abbrev Hl:FuncId:=114
abbrev WY:FuncId:=115
abbrev nX:FuncId:=116
abbrev VU:FuncId:=117
abbrev ZU:FuncId:=123
abbrev WZ:FuncId:=124
abbrev iZ:FuncId:=125
abbrev ZV:FuncId:=126
abbrev nT:FuncId:=127
abbrev iq:FuncId:=128
abbrev TN:FuncId:=129
abbrev Oh:FuncId:=130
abbrev TP:FuncId:=131
abbrev Wd:FuncId:=132
abbrev TS:FuncId:=133
abbrev Gh:FuncId:=136
abbrev Jc:FuncId:=137
abbrev Oi:FuncId:=138
abbrev TU:FuncId:=139
abbrev TW:FuncId:=140
abbrev Db:FuncId:=141
abbrev TR:FuncId:=142
abbrev GY:FuncId:=144
abbrev TY:FuncId:=145
abbrev Qu:FuncId:=148
abbrev WW:FuncId:=149
abbrev ZT:FuncId:=150
abbrev QS:FuncId:=151
abbrev iw:FuncId:=152
abbrev aT:FuncId:=153
abbrev Za:FuncId:=154
abbrev M_:FuncId:=155
abbrev Nj:FuncId:=167
abbrev Dv:FuncId:=168
abbrev Wi:FuncId:=169
abbrev Wj:FuncId:=170
abbrev i_:FuncId:=171
abbrev Im:FuncId:=172
abbrev Xz:FuncId:=174
abbrev nR:FuncId:=177
abbrev Xx:FuncId:=178
abbrev XJ:FuncId:=179
abbrev TV:FuncId:=187
abbrev KH:FuncId:=188
abbrev FD:FuncId:=189
abbrev jA:FuncId:=190
abbrev nY:FuncId:=191
abbrev aV:FuncId:=192
abbrev nS:FuncId:=196
abbrev fP:FuncId:=197
abbrev Ae:FuncId:=199
abbrev Cg:FuncId:=201
abbrev U5:FuncId:=202
def JP:Flags:={ keep:=[(13,[1,2,5,6,7],[2,5,6],[],[1,2,5,6,7]),(19,[1,2,5,6,7],[2,5,6],[],[1,2,5,6,7]),(22,[5,7,10,11,12],[5,10,11,12],[],[5,7,10,11,12])] }
def A2V:Flags:={ keep:=[(8,[1,2,5,7],[2,5],[],[1,2,5,7])] }
def dC:Flags:={ keep:=[(3,[0,3,4],[],[],[0,3,4])] }
def dK:Flags:={ keep:=[(4,[1,3],[1],[],[1,3])] }
def A2m:Flags:={}
def A2f:Flags:={}
def Ud:Flags:={ keep:=[(6,[1,2,5],[2],[],[1,2,5])] }
def Mg:Flags:={ shared:=[51],FF:=[49,55],keep:=[(3,[1,2,4,5,6],[2,4],[],[1,2,4,5,6]),(5,[1,2,4,5,6],[2,4],[],[1,2,4,5,6]),(10,[1,2,4,5,6,7,8],[2,4,7,8],[],[1,2,4,5,6,7,8]),(15,[1,4,6,9],[4],[],[1,4,6,9])] }
def dD:Flags:={ keep:=[(5,[1,2,3,5,6],[1,2,3,5,6],[],[1,2,3,5,6])] }
def uD:Flags:={}
def yO:Flags:={}
def ZI:Flags:={}
def B0p:Flags:={ keep:=[(4,[1,3],[1],[],[1,3])] }
def A4A:Flags:={ shared:=[8] }
def A7q:Flags:={}
def B0q:Flags:={ keep:=[(4,[2,3,5],[2,3],[],[2,3,5])] }
def A8G:Flags:={ keep:=[(4,[2,3,5],[2,3],[],[2,3,5])] }
def B0r:Flags:={ keep:=[(3,[1,3,4],[1],[],[1,3,4])] }
def OE:Flags:={ keep:=[(5,[1,2,5],[2],[],[1,2,5]),(11,[1,2,6],[2],[],[1,2,6]),(15,[1,2,7],[2],[],[1,2,7])] }
def Uc:Flags:={ keep:=[(5,[1,5],[1],[],[1,5]),(10,[1,6],[1],[],[1,6]),(15,[1,7],[1],[],[1,7])] }
def Wu:Flags:={ keep:=[(3,[1,2,3],[3],[],[1,2,3]),(4,[1,2,3,7],[3],[],[1,2,3,7])] }
def yh:Flags:={}
def PL:Flags:={ keep:=[(11,[1],[1],[],[1]),(14,[1,3],[1],[],[1,3])] }
def Wv:Flags:={ M7:=[35],opn:=[30,34],B2X:=[(7,7)],keep:=[(15,[1,2,3,40],[1,2,3],[],[1,2,3,40]),(19,[1,2,3,8],[1,2,3,8],[],[1,2,3,8])] }
def mV:Flags:={}
def YX:Flags:={ keep:=[(11,[1],[1],[],[1])] }
def cO:Flags:={ keep:=[(2,[1,2,3,10,11],[1,2,3],[],[1,2,3,10,11])] }
def Ec:Flags:={ M7:=[4,15,24,48,92],opn:=[96,97],FF:=[12,19,30,60,67],B2X:=[(22,99)],keep:=[(9,[0,2,4,5,6],[2,5,6],[],[0,2,4,5,6]),(17,[0,2,5,6],[2,5,6],[],[0,2,5,6]),(22,[0,2,6],[2,6],[],[0,2,6])] }
def Ce:CZ:={ params:=[.val],results:=[.val] }
def cZ:Flags:={ keep:=[(4,[0,2,4],[2,4],[],[0,2,4])] }
def A2g:Flags:={}
def A4z:Flags:={}
def jT:Flags:={ keep:=[(4,[2,3,5],[2,3],[],[2,3,5])] }
def B0s:Flags:={ M7:=[7,120],keep:=[(5,[0,2,4,7,8],[4],[7],[0,2,4,8]),(12,[0,2,4,7,8,9],[4],[7],[0,2,4,8,9]),(19,[0,2,4,7,8,9,10,11],[4],[7],[0,2,4,8,9,10,11]),(22,[0,2,4,7,8,9],[4],[7],[0,2,4,8,9]),(25,[0,2,4,7,12,13],[4],[],[0,2,4,7,12,13])] }
def A9C:CZ:={ params:=[.val, .val, .val],results:=[.val] }
def uK:Flags:={}
def u_:Flags:={ keep:=[(8,[4,6],[4,6],[],[4,6])] }
def pz:CZ:={ params:=[.val, .val, .val],results:=[.val, .val] }
def Qe:Flags:={ keep:=[(3,[2,3],[2,3],[],[2,3]),(6,[2,3,5],[2,3],[],[2,3,5]),(11,[2,3,6],[2,3],[],[2,3,6])] }
def yV:Flags:={}
def Ua:Flags:={ keep:=[(5,[1,2,5],[2],[],[1,2,5])] }
def jR:Flags:={ keep:=[(25,[1,2,4,9],[1,2,4],[],[1,2,4,9])] }
def dE:Flags:={ keep:=[(4,[1,3],[1],[],[1,3])] }
def Ub:Flags:={ keep:=[(5,[3,4],[],[],[3,4])] }
def jN:Flags:={ keep:=[(4,[0,3],[],[],[0,3])] }
def oP:Flags:={ keep:=[(2,[0,1,5],[],[],[0,1,5])] }
def Qc:Flags:={ M7:=[4,6,39],keep:=[(2,[0,1,5],[],[],[0,1,5]),(4,[0,1,5],[],[],[0,1,5]),(6,[0,1,5],[],[],[0,1,5])] }
def dJ:Flags:={ keep:=[(5,[1,2],[2],[],[1,2])] }
def SG:Flags:={ keep:=[(3,[1,2,5],[2],[],[1,2,5])] }
def J_:Flags:={ keep:=[(3,[1,2,5],[2],[],[1,2,5]),(7,[1,2,6],[2],[],[1,2,6])] }
def uI:Flags:={}
def oU:Flags:={ keep:=[(14,[1,3,4],[1],[],[1,3,4])] }
def yg:Flags:={}
def A4C:Flags:={}
def PM:Flags:={ keep:=[(4,[3,4,5,6,7,8],[3,4,5,6,7],[],[3,4,5,6,7,8]),(9,[3,4,5,6,7,9],[3,4,5,6,7,9],[],[3,4,5,6,7,9])] }
def MI:Flags:={ M7:=[5,19,30],keep:=[(2,[1,2,3,4],[1,2,3],[],[1,2,3,4]),(10,[2,3,5,8,9],[2,3,8],[],[2,3,5,8,9])] }
def Ra:Flags:={ keep:=[(4,[2,3,4,5,6,7],[2,3,4,5,6,7],[],[2,3,4,5,6,7]),(13,[2,3,4,5,6,7],[2,3,4,5,6,7],[],[2,3,4,5,6,7])] }
def A2p:Flags:={}
def Ug:Flags:={}
def mU:Flags:={}
def yQ:Flags:={}
def jL:Flags:={ keep:=[(4,[4,5],[4,5],[],[4,5])] }
def A2e:Flags:={}
def jM:Flags:={ keep:=[(4,[1,2,3,4],[1,2,3,4],[],[1,2,3,4])] }
def uF:Flags:={}
def UZ:Flags:={ keep:=[(4,[3,4,5,6,7,8],[3,4,5,6,7],[],[3,4,5,6,7,8])] }
def MH:Flags:={ shared:=[22],keep:=[(2,[1,2,3,14,15,16],[1,2,3],[],[1,2,3,14,15,16]),(11,[2,3,8,52,53,54],[2,3,8],[],[2,3,8,52,53,54])] }
def YW:Flags:={ keep:=[(4,[2,3,4,5,6,7],[2,3,4,5,6,7],[],[2,3,4,5,6,7])] }
def uE:Flags:={ M7:=[2,4,10,16,18] }
def WS:CZ:={ params:=[.val],results:=[.own, .val] }
def Dq:Flags:={ keep:=[(6,[0,4,5,6,7,26],[4,5,6],[],[0,4,5,6,7,26]),(9,[0,4,5,6,7,8,26,29,30,31],[4,5,6],[],[0,4,5,6,7,8,26,29,30,31]),(15,[0,4,5,6,7,8,11,26,29,30,31],[4,5,6,11],[],[0,4,5,6,7,8,11,26,29,30,31])] }
def A2j:Flags:={}
def jS:Flags:={ keep:=[(4,[2,3,5],[2,3],[],[2,3,5])] }
def B0t:Flags:={ M7:=[6] }
def A5I:Flags:={}
def A5j:CZ:={ params:=[.val, .val],results:=[.val] }
def jP:Flags:={ keep:=[(3,[1,3,4],[1],[],[1,3,4])] }
def yc:Flags:={ M7:=[2] }
def A0R:Flags:={ keep:=[(3,[0,1,2,3,9,10],[],[],[0,1,2,3,9,10]),(7,[0,1,2,9,11],[],[],[0,1,2,9,11])] }
def zm:CZ:={ params:=[.val, .val, .val, .val],results:=[.val] }
def Yc:Flags:={ keep:=[(4,[9,10,11],[],[],[9,10,11])] }
def uz:Flags:={ M7:=[10,61,74],keep:=[(2,[0,2,4,6,8],[4,6],[],[0,2,4,6,8]),(14,[4,6,9,10,54,55,56],[4,6,9],[10],[4,6,9,54,55,56])] }
def pu:CZ:={ params:=[.val, .val, .val],results:=[.val, .val] }
def yS:Flags:={ keep:=[(2,[0,9,10,11],[],[],[0,9,10,11]),(5,[0,9,10,11,16,17,18],[],[],[0,9,10,11,16,17,18])] }
def vB:CZ:={ params:=[.val, .val],results:=[.val] }
def A7r:Flags:={ M7:=[4] }
def A5X:CZ:={ params:=[.val, .val],results:=[.own] }
def A8F:Flags:={}
def yT:Flags:={}
def vC:CZ:={ params:=[.val, .val, .val],results:=[.val, .val] }
def yU:Flags:={ keep:=[(10,[0,2,4,6,9,10,11],[4,6,9,10],[],[0,2,4,6,9,10,11])] }
def vD:CZ:={ params:=[.val, .val, .val],results:=[.val, .val] }
def oN:Flags:={ M7:=[15,59,76],keep:=[(6,[0,2,4,6,8,10,34,35,36],[4,6,8,10],[],[0,2,4,6,8,10,34,35,36]),(13,[0,2,4,6,8,10,11,15,34,35,36,53,54,55],[4,6,8,10],[15],[0,2,4,6,8,10,11,34,35,36,53,54,55])] }
def nH:CZ:={ params:=[.val, .val, .val],results:=[.val, .val] }
def uy:Flags:={ M7:=[6,8,30,35],keep:=[(3,[0,2,8,14,15,16],[],[8],[0,2,14,15,16])] }
def pm:CZ:={ params:=[.val, .val, .val],results:=[.val, .val] }
def A0Q:Flags:={ keep:=[(13,[0,2,4,6,11],[4,6],[],[0,2,4,6,11]),(21,[2,6,8,9],[6],[],[2,6,8,9])] }
def zl:CZ:={ params:=[.val, .val, .val],results:=[.val, .val] }
def Vz:Flags:={ keep:=[(4,[0,1,5],[],[],[0,1,5])] }
def jO:Flags:={ keep:=[(4,[2,3,5],[2,3],[],[2,3,5])] }
def RZ:Flags:={ keep:=[(4,[2,3,5],[2,3],[],[2,3,5]),(9,[2,3,6],[2,3],[],[2,3,6])] }
def dB:Flags:={ keep:=[(2,[0,3],[],[],[0,3])] }
def A2i:Flags:={}
def Zi:Flags:={ keep:=[(25,[1,3,4],[1,4],[],[1,3,4]),(28,[1,3,5],[1],[],[1,3,5])] }
def yY:Flags:={}
def A2h:Flags:={}
def Zh:Flags:={ keep:=[(2,[0,3],[],[],[0,3]),(8,[0,4,5],[],[],[0,4,5])] }
def SH:Flags:={ keep:=[(3,[1,2,5],[2],[],[1,2,5])] }
def uH:Flags:={}
def A2n:Flags:={}
def oQ:Flags:={ keep:=[(4,[1,2,4,7,8,10],[4,7,8],[],[1,2,4,7,8,10])] }
def A6G:Flags:={}
def ym:Flags:={}
def Cx:Flags:={ M7:=[6,11,14,20,25,33,37,70,86,110,131,139,147,149,162,164],keep:=[(9,[2,3,8,9,10,11],[3,8,9,10],[2],[3,8,9,10,11]),(10,[2,3,8,9,10,11],[3,8,9,10],[2],[3,8,9,10,11]),(11,[2,3,8,9,10],[3,8,9,10],[2],[3,8,9,10]),(12,[2,3,8,9,10,11],[3,8,9,10],[2],[3,8,9,10,11]),(14,[2,3,8,9,10,11],[3,8,9,10],[2],[3,8,9,10,11]),(15,[2,3,8,9,10,11],[3,8,9,10],[2],[3,8,9,10,11]),(16,[2,8,9],[8,9],[2],[8,9]),(17,[2,3,8,9,10,11],[3,8,9,10],[2],[3,8,9,10,11]),(18,[2,3,8,9,10,11],[3,8,9,10],[2],[3,8,9,10,11]),(19,[2,3,8,10,11],[3,8,10],[2],[3,8,10,11])] }
def BH:CZ:={ params:=[.val, .val, .own],results:=[.own, .val, .val] }
def yf:Flags:={ M7:=[14],keep:=[(3,[0,2,3,4],[2,3],[3],[0,2,4])] }
def Ka:Flags:={ keep:=[(3,[1,2,3],[3],[],[1,2,3]),(4,[1,2,3,29,30,31],[3],[],[1,2,3,29,30,31]),(8,[1,2,3,7,8,29,30,31,39,40,41],[3,7],[],[1,2,3,7,8,29,30,31,39,40,41]),(14,[1,2,3,29,30,31,54,55,56],[3],[],[1,2,3,29,30,31,54,55,56])] }
def Gd:CZ:={ params:=[.val, .val, .val],results:=[] }
def cK:Flags:={}
def yP:Flags:={}
def A2q:Flags:={ shared:=[17] }
def uG:Flags:={}
def HV:Flags:={ M7:=[7,21,30,33,111],keep:=[(10,[0,4,7,8],[4,8],[],[0,4,7,8]),(23,[0,4,7,8],[4,8],[],[0,4,7,8])] }
def EP:CZ:={ params:=[.val, .val, .val],results:=[.val] }
def jU:Flags:={ keep:=[(4,[3,29,30,31],[3],[],[3,29,30,31])] }
def PK:Flags:={ M7:=[28],keep:=[(12,[1,2,4],[1,2,4],[4],[1,2]),(13,[2,4,24,25],[2,4],[4],[2,24,25])] }
def yR:Flags:={}
def dF:Flags:={ M7:=[1,4,9,26,28],keep:=[(4,[1,2,5],[2],[1],[2,5])] }
def Rf:CZ:={ params:=[.val, .own],results:=[.own] }
def Jh:Flags:={ keep:=[(4,[1,3],[1,3],[],[1,3]),(6,[1,3],[1,3],[],[1,3]),(8,[1,3],[1,3],[],[1,3]),(10,[1,3],[1,3],[],[1,3]),(12,[1,3],[1,3],[],[1,3])] }
def Uf:Flags:={ keep:=[(5,[1,2,4,6,16,17,18],[2,4],[],[1,2,4,6,16,17,18])] }
def B0u:Flags:={ M7:=[2] }
def oO:Flags:={ keep:=[(2,[0,1,7,8,9],[],[],[0,1,7,8,9])] }
def nI:CZ:={ params:=[.val, .val],results:=[.val] }
def oM:Flags:={ keep:=[(1,[0,2,8,9,10],[],[],[0,2,8,9,10])] }
def nG:CZ:={ params:=[.val, .val, .val],results:=[] }
def A8H:Flags:={ M7:=[4,6,16,20,24] }
def A5H:Flags:={}
def Qd:Flags:={ keep:=[(3,[2,3],[2,3],[],[2,3]),(6,[2,3,5],[2,3],[],[2,3,5]),(11,[2,3,6],[2,3],[],[2,3,6])] }
def dG:Flags:={ keep:=[(4,[2,3,5],[2,3],[],[2,3,5])] }
def cu:Flags:={ keep:=[(3,[0,3,4],[],[],[0,3,4])] }
def jQ:Flags:={ keep:=[(4,[1,2,5],[2],[],[1,2,5])] }
def A2l:Flags:={ M7:=[2] }
def yX:Flags:={}
def YY:Flags:={ keep:=[(4,[1,2,3,7],[3],[],[1,2,3,7])] }
def NT:Flags:={ M7:=[9,38,46,58],keep:=[(3,[1,2,4,7,8],[4,7,8],[],[1,2,4,7,8]),(5,[1,2,4,7,8,9,10],[4,7,8],[9],[1,2,4,7,8,10])] }
def uJ:Flags:={ M7:=[3,5,10,17,19] }
def WT:CZ:={ params:=[.val],results:=[.val, .own] }
def Ue:Flags:={ M7:=[4,6,86,90],keep:=[(6,[1,2,5,6,7,8],[2,5],[6],[1,2,5,7,8]),(10,[1,2,5,6,7,8,9,10],[2,5,9],[6],[1,2,5,7,8,9,10])] }
def Yb:Flags:={ M7:=[4],keep:=[(5,[1,2],[2],[],[1,2])] }
def JQ:Flags:={ M7:=[6,58,73],keep:=[(10,[0,3,4,6,51,52,53],[3,4],[6],[0,3,4,51,52,53]),(19,[0,3,4,9,83,84,85],[3,4],[],[0,3,4,9,83,84,85])] }
def FO:CZ:={ params:=[.val, .val],results:=[.val, .val],lock:=true }
def yo:Flags:={}
def gu:Flags:={}
def uL:Flags:={}
def uM:Flags:={}
def MJ:Flags:={ keep:=[(2,[1,10,11,12],[1],[],[1,10,11,12]),(8,[1,24,25,26],[1],[],[1,24,25,26]),(14,[35,36,37],[],[],[35,36,37])] }
def Ya:Flags:={ M7:=[45],keep:=[(10,[1,2,6,9,38,39,40],[6,9],[9],[1,2,6,38,39,40])] }
def Pf:CZ:={ params:=[.val, .val, .val],results:=[.val] }
def B0v:Flags:={ M7:=[2,6,17,36,39],keep:=[(5,[1,2,3],[3],[2],[1,3]),(6,[1,2,28,29,30],[],[2],[1,28,29,30])] }
def A9D:CZ:={ params:=[.val, .val, .own],results:=[.own] }
def Ky:Flags:={}
def FV:Flags:={ shared:=[1,2,3],keep:=[(3,[2,3,8],[],[],[2,3,8]),(6,[3,4],[4],[],[3,4])] }
def A8I:Flags:={ M7:=[2,6,14,23,26,59,65,67,72],keep:=[(16,[2,3,8],[3],[2],[3,8]),(17,[2,8,52,53,54],[],[2],[8,52,53,54])] }
def A7u:CZ:={ params:=[.val, .val, .own],results:=[.own, .val] }
def A4y:Flags:={ keep:=[(8,[3,33,34,35],[3],[],[3,33,34,35])] }
def V_:Flags:={ keep:=[(4,[2,3,5],[2,3],[],[2,3,5])] }
def dA:Flags:={ keep:=[(3,[1,2,5],[2],[],[1,2,5])] }
def Wt:Flags:={ M7:=[1,4,16,33,35],keep:=[(3,[1,2],[2],[1],[2]),(4,[1,2,5],[2],[1],[2,5])] }
def OY:CZ:={ params:=[.val, .own],results:=[.own] }
def OG:Flags:={ M7:=[7,9,37,56,66,77],keep:=[(4,[1,2,4,5,6],[2,4],[],[1,2,4,5,6]),(7,[1,2,4,5,7,8],[2,4],[7],[1,2,4,5,8]),(12,[1,2,4,5,7,9,10],[2,4],[9],[1,2,4,5,7,10])] }
def dH:Flags:={ M7:=[4,5,13,25],keep:=[(3,[0,1,5,6],[],[5],[0,1,6])] }
def YZ:Flags:={ keep:=[(1,[1,2,3],[1,2,3],[],[1,2,3])] }
def A2o:Flags:={}
def SI:Flags:={ M7:=[1,4,10,23,26],keep:=[(4,[1,16,17,18],[],[1],[16,17,18])] }
def KF:CZ:={ params:=[.val, .own],results:=[.own] }
def ML:Flags:={ hide:=[45,55],keep:=[(3,[1,2,4,18,19,20],[2,4],[],[1,2,4,18,19,20]),(8,[1,2,4,34,35,36],[2,4],[],[1,2,4,34,35,36]),(14,[1,2,4],[2,4],[],[1,2,4])] }
def Hq:Flags:={}
def dL:Flags:={ keep:=[(9,[33,34,35],[],[],[33,34,35])] }
def dM:Flags:={ keep:=[(4,[0,3],[],[],[0,3])] }
def yn:Flags:={}
def IY:Flags:={ keep:=[(2,[0,1,7,8],[],[],[0,1,7,8])] }
def WB:Flags:={ keep:=[(24,[1,3,4],[1,3],[],[1,3,4])] }
def A8J:Flags:={}
def A7s:Flags:={}
def yZ:Flags:={ keep:=[(2,[0,1,5],[],[],[0,1,5])] }
def WA:Flags:={ M7:=[4,5,21,28],keep:=[(3,[0,1,5,6],[],[5],[0,1,6])] }
def A4B:Flags:={}
def A2r:Flags:={}
def gq:Flags:={ shared:=[3] }
def Ed:Flags:={ keep:=[(2,[0,1,7,8],[],[],[0,1,7,8])] }
def yu:Flags:={}
def A2s:Flags:={}
def uN:Flags:={}
def A5J:Flags:={ keep:=[(4,[1,12,13,14],[],[],[1,12,13,14])] }
def A2k:Flags:={}
def Zj:Flags:={ M7:=[42],keep:=[(3,[1,2,4,5],[2,4],[],[1,2,4,5]),(10,[1,2,4,6,7],[2,4,6],[6],[1,2,4,7])] }
def Bl:Flags:={ keep:=[(5,[0,1,5,6],[],[],[0,1,5,6])] }
def AQ:CZ:={ params:=[.val, .val],results:=[.val],lock:=true }
def ZJ:Flags:={}
def OZ:CZ:={ params:=[.val, .val],results:=[.val] }
def CK:Flags:={ keep:=[(2,[0,1,7,8],[],[],[0,1,7,8])] }
def Ac:CZ:={ params:=[.val, .val],results:=[.val] }
def flL:List Flags:=[{},{},{},JP,A2V,dC,dK,A2m,A2f,Ud,Mg,dD,uD,yO,ZI,B0p,A4A,A7q,B0q,A8G,B0r,OE,Uc,Wu,yh,PL,Wv,mV,YX,cO,Ec,cZ,A2g,A4z,jT,B0s,uK,u_,Qe,yV,Ua,jR,dE,Ub,jN,oP,Qc,dJ,SG,J_,uI,oU,yg,A4C,PM,MI,Ra,A2p,Ug,mU,yQ,{},jL,A2e,jM,uF,UZ,MH,YW,uE,Dq,A2j,jS,B0t,A5I,jP,yc,A0R,Yc,uz,yS,A7r,A8F,yT,yU,oN,uy,A0Q,Vz,jO,RZ,dB,A2i,Zi,yY,A2h,Zh,SH,uH,A2n,oQ,A6G,ym,Cx,yf,Ka,{},cK,yP,A2q,uG,HV,jU,PK,yR,dF,Jh,Uf,B0u,oO,oM,A8H,A5H,Qd,dG,cu,jQ,A2l,yX,YY,NT,uJ,Ue,Yb,{},{},JQ,yo,gu,uL,uM,MJ,Ya,B0v,Ky,FV,A8I,A4y,V_,dA,Wt,OG,dH,YZ,A2o,SI,{},{},{},{},{},{},{},{},{},{},{},ML,Hq,dL,dM,yn,IY,{},WB,A8J,A7s,yZ,WA,A4B,{},{},{},{},{},{},{},A2r,gq,Ed,yu,A2s,uN,{},{},A5J,A2k,Zj,{},Bl,{},ZJ,CK,{},{},{},{},{},{},{},{},{},{},{},{},{},{},{},{},{}]
def C3s:List (Option CZ):=List.replicate 30 (none:Option CZ)++[some Ce,none,none,none,none,some A9C,none,some pz]++List.replicate 31 (none:Option CZ)++[some WS,none,none,none,none,some A5j,none,none,some zm,none,some pu,some vB,some A5X,none,some vC,some vD,some nH,some pm,some zl]++List.replicate 15 (none:Option CZ)++[some BH,none,some Gd,none,none,none,none,none,some EP,none,none,none,some Rf,none,none,none,some nI,some nG]++List.replicate 10 (none:Option CZ)++[some WT,none,none,none,none,some FO,none,none,none,none,none,some Pf,some A9D,none,none,some A7u,none,none,none,some OY,none,none,none,none,some KF]++List.replicate 43 (none:Option CZ)++[some AQ,none,some OZ,some Ac]++List.replicate 16 (none:Option CZ)++[none]
def clL:List FuncId:=[61,186,200]
def csL:List (FuncId × Nat):=[(61,20),(186,3),(200,4),(173,7)]
def mkL:List (FuncId × FuncId):=[(173,193)]
def itF (f:FuncId):Option (List DV->Option (List DV)):=if f=193 then some (Rb 7 6) else none
def V8:Code:=Tryz.f58.body.getD .skip
def OL:KP where
 pre6:=(B6w V8 [true,true,true,true,true,false,false]).take 1
 mr:=FM V8 [true,true,true,true,true,false,false] 1
 A48:=FM V8 [true,true,true,true,true,false,true,false,false,false] 0
 B2K:=FM V8 [true,true,true,true,true,false,true,false,false,false] 1
 A47:=FM V8 [true,true,true,true,true,false,true,false,false,true,true,false,false] 0
 A79:=FM V8 [true,true,true,true,true,false,true,false,false,true,true,false,false] 1
 B2J:=FM V8 [true,true,true,true,true,false,true,false,false,true,true,false,false] 2
 rMv:=FM V8 [true,true,true,true,true,false,true,false,false,true,true,false,true] 0
 B2L:=FM V8 [true,true,true,true,true,false,true,false,false,true,true,false,true] 1
 rBs:=FM V8 [true,true,true,true,true,false,true,false,false,true,true,false,true] 2
 B2I:=FM V8 [true,true,true,true,true,false,true,false,false,true,true,false,true] 3
 A78:=FM V8 [true,true,true,true,true,false,true,false,false,true,true,false,true] 4
 A9p:=FM V8 [true,true,true,true,true,true,false] 0
 A0K:=FM V8 [true,true,true,true,true,true,false] 1
 i6:=6
 b0:=0
 i7:=7
 b1:=1
 i8:=8
 i9:=9
 i10:=10
 it:=15
 mm:=14
 t21:=16
 t22:=17
 t23:=18
 t24:=19
 tk:=5
 t25:=20
 t26:=21
 t27:=22
 t28:=23
 tl:=4
 t29:=24
 t30:=25
 tm:=135
 ts:=34
 te:=9
 kt:=9
 vt:=3
 f:=106
def Eu:Cut where
 pre:=B1F 5 V8
 mid:=OL.mid Tryz.prog
 post:=B1g 7 V8
def dcL:List (FuncId × A5x):=[]
def dfL:List FuncId:=[]
def C3p:List TypeId:=[]
def B2G:List (FuncId × Cut):=[(58,Eu)]
def cfg:X4 where
 P:=Tryz.prog
 fl f:=flL.getD f {}
 sig f:=C3s.getD f none
 Yj f:=B2G.lookup f
 clone f:=clL.contains f
 kU f:=(csL.lookup f).getD 0
 iL f:=mkL.lookup f
 iter f:=itF f
 ref t:=C3p.contains t
 jI f:=dcL.lookup f
 dfn f:=dfL.contains f
def BV:List (DV × Meta):=[((.int .i64 0), .val),((.int .i64 0), .val),((.int .i64 0), .val),((.str ⟨#[]⟩), .val),((.int .i64 0), .val),((.int .i64 0), .val),((.int .i64 0), .val),((.bool false), .val),((.list 5 []), .val),((.list 9 []), .val),((.int .i64 0), .val),((.bool false), .val),((.int .i64 0), .val),((.int .i64 0), .val),((.int .i64 0), .val)]
def zb1:List (DV × Meta):=[((.int .i64 0), .val),((.int .i64 0), .val),((.int .i64 0), .val),((.str ⟨#[]⟩), .val),((.str ⟨#[]⟩), .val),((.int .i64 0), .val),((.str ⟨#[]⟩), .val),((.int .i64 0), .val),((.int .i64 0), .val),((.bool false), .val),((.list 1 []), .val),((.int .i64 0), .val),((.int .i64 0), .val),((.list 3 []), .val),((.int .i64 0), .val),((.int .i64 0), .val),((.list 3 []), .val),((.list 3 []), .val),((.list 7 []), .val),((.list 20 []), .val),((.int .i64 0), .val),((.int .i64 0), .val),((.int .i64 0), .val),((.str ⟨#[]⟩), .val),((.str ⟨#[]⟩), .val),((.int .i64 0), .val),((.str ⟨#[]⟩), .val),((.int .i64 0), .val),((.int .i64 0), .val),((.bool false), .val),((.list 1 []), .val),((.int .i64 0), .val),((.int .i64 0), .val),((.list 3 []), .val),((.int .i64 0), .val),((.int .i64 0), .val),((.list 3 []), .val),((.list 3 []), .val),((.list 7 []), .val),((.list 20 []), .val)]
def Ja:List (DV × Meta):=[((.int .i64 0), .val),((.int .i64 0), .val),((.int .i64 0), .val),((.str ⟨#[]⟩), .val),((.str ⟨#[]⟩), .val),((.int .i64 0), .val),((.str ⟨#[]⟩), .val),((.int .i64 0), .val),((.int .i64 0), .val),((.bool false), .val),((.list 1 []), .val),((.int .i64 0), .val),((.int .i64 0), .val),((.list 3 []), .val),((.int .i64 0), .val),((.int .i64 0), .val),((.list 3 []), .val),((.list 3 []), .val),((.list 7 []), .val),((.list 20 []), .val)]
def zb3:List (DV × Meta):=[((.int .i64 0), .val),((.int .i64 0), .val),((.list 3 []), .val)]
def hP (fn:Func) (fl:Flags) (R:O4) (l:List Bool) (s:St):=A74 cfg R fl (SY cfg.P fn) l (fn.body.getD .skip) s
def eP (fn:Func) (fl:Flags) (R:O4) (l:List Bool) (s:St):=Qb cfg R fl (SY cfg.P fn) l (fn.body.getD .skip) s
theorem C3J {f:FuncId} {fn:Func} {ds:List DV} {X:Option DV} {d:DV} (hf:cfg.P.funcs[f]?=some fn) (hp:cfg.Yj f=none) (hb:fn.body=some (fn.body.getD .skip)) (hX:Qb cfg (run cfg) (cfg.fl f) (SY cfg.P fn) [] (fn.body.getD .skip) (F7 fn (ds.map fun d=>(d, .val)) [])=X) (h:X=some d):(run cfg).p f ds=some d:=(A8E hp hf hb).trans (hX.trans h)
def pbA:Nat->Nat->List Bool->List Bool
  | 0,_,a=>a
  | k+1,n,a=>match Nat.ble n 1 with
    | true=>a
    | false=>pbA k (n / 2) (Nat.beq (n % 2) 1::a)
def pb (n:Nat):List Bool:=pbA 300 n []
def mrg:Nat->List (Nat × Meta)->List Nat->List (Nat × Meta)
  | 0,_,_=>[]
  | _+1,l,[]=>l
  | k+1,[],j::b=>(j, .loc j 0)::mrg k [] b
  | k+1,(i,m)::l,j::b=>match Nat.ble i j with
    | true=>(i,m)::mrg k l (j::b)
    | false=>(j, .loc j 0)::mrg k ((i,m)::l) b
def ms (n:Nat) (a:List (Nat × DV)) (b:List (Nat × Meta)) (c:List (Nat × Option (List (DV × Meta)))) (g:List D8):St:=mst n a (mrg 300 b (c.map Prod.fst)) c g
def bx (d:DV) (n:Nat):=some (bxs d 0 n)
def bv (l:List DV):Option (List (DV × Meta)):=some (l.map fun d=>(d, .val))
def hR (fn:Func) (g:CZ) (fl:Flags) (R:O4) (l:List Bool) (s:St):=A74 cfg R fl (Jm cfg.P fn g) l (fn.body.getD .skip) s
def eR (fn:Func) (g:CZ) (fl:Flags) (R:O4) (l:List Bool) (s:St):=Qb cfg R fl (Jm cfg.P fn g) l (fn.body.getD .skip) s
theorem gz {f:FuncId} {fn:Func} {s:CZ} {rs:List (DV × Meta)} {sg:List D8} {q:Option (List DV × List D8)} (hf:cfg.P.funcs[f]?=some fn) (hs:cfg.sig f=some s:=by kernel_rfl) (hb:fn.body=some (fn.body.getD .skip):=by kernel_rfl) (hp:cfg.jI f=none:=by kernel_rfl) (h:Qb cfg (run cfg) (cfg.fl f) (Jm cfg.P fn s) [] (fn.body.getD .skip) (F7 fn rs sg)=q:=by kernel_rfl):(run cfg).r f rs sg=q:=(B7W hs hf hb hp).trans h
theorem N7 {f:FuncId} {fn:Func} {ds:List DV} {q:Option DV} (hf:cfg.P.funcs[f]?=some fn) (hp:cfg.Yj f=none:=by kernel_rfl) (hb:fn.body=some (fn.body.getD .skip):=by kernel_rfl) (h:Qb cfg (run cfg) (cfg.fl f) (SY cfg.P fn) [] (fn.body.getD .skip) (F7 fn (ds.map fun d=>(d, .val)) [])=q:=by kernel_rfl):(run cfg).p f ds=q:=(A8E hp hf hb).trans h
end
end Go.Su

/-
 The program's iterators keep their word: by program.
-/
namespace Go.Su
noncomputable section
open Go.Proofs Go.RowKit Go.Shelf
attribute [local go_sem] Oper.semAt_some
variable {F:Fence}
theorem B4I (hd:F.depth=none) (k:Nat):F.room k:=fun d h=>by rw [hd] at h;cases h
theorem RoundIn.C2g (hd:F.depth=none) {m m':Nat} {P:Program} {l:Nat} {f:FuncId} {tmps:Array Value} {assign body:Code} {w:World} {R:Ending->World->Prop} (h:RoundIn F m P l f tmps assign body w R):RoundIn F m' P l f tmps assign body w R:=⟨h.1,fun c cs _=>h.2 c cs (B4I hd _)⟩
set_option maxHeartbeats 1000000 in
theorem B8h:B5n Tryz.prog 173 193 7:=by
 intro w vs hs;obtain ⟨l⟩:=vs
 match l,hs with
 | [v0,v1,v2,v3,v4,v5,v6],_ =>
 refine (callsIn_wide (n:=1)).1 (callsIn_of_wp Tryz.func173 rfl trivial ?_);simp only [Tryz.ntmps173,zGq,z6q,z9q,Nat.reduceAdd,Nat.reduceSub,zyq,zzq,zHq,zAq,zDq,zKq]
 gi_wp2
 go_ret
 exact ⟨rfl,_,rfl⟩
set_option maxRecDepth 10000 in
set_option maxHeartbeats 4000000 in
theorem B73 (l n0:Nat) (ds:List DV) (J:Nat->Env->World->Prop) (Jx:World->Prop) (n:Nat) (hf:∀ k E' W',J k E' W'->∀ b o,W'.heap.size<=b->E'.O b o = .other) (hI:∀ k E' W1 W2,J k E' W1->TZ n0 E' W1 W2->J k E' W2) (hY:∀ k E' W1 d v,J k E' W1->ds[k]?=some d->RV E'.S W1.heap d v->YieldAt Fence.wide n Tryz.prog l #[v] W1 fun e W2 =>
   (e = .returned (.bool true)/\∃ E2,J (k+1) E2 W2/\Pr L8 E' W1.heap E2 W2.heap)\/(e = .returned (.bool false)/\Jx W2)) :
 ∀ (m:Nat) (d:DV) (sub:List DV),BK 7 6 m d=some sub->∀ (k:Nat) (E:Env) (W:World) (v:Value),J k E W->RV E.S W.heap d v->(∀ j x,sub[j]?=some x->ds[k+j]?=some x)->n0<=W.heap.size ->
   CallsIn Fence.wide n Tryz.prog 194 #[v, .func (.yield l) #[] #[]] W fun e W'=>(e = .returned (.bool true)/\∃ E',J (k+sub.length) E' W'/\XK E W E' W')\/(e = .returned (.bool false)/\Jx W'):=by
 intro m
 induction m with
 | zero=>intro d sub h;simp [BK] at h
 | succ m ih =>
   intro d sub OJ k E W v hJ hv iE hn0;cases d with
   | agg cs =>
     rw [BK] at OJ;obtain ⟨h1,OJ⟩:=F4 OJ;cases hk:cs.getD 6 .undef with
     | list s kds =>
       rw [hk] at OJ;simp only at OJ;obtain ⟨h2,OJ⟩:=F4 OJ;obtain ⟨ks,h3,OJ⟩:=A9 OJ;simp only [Option.some.injEq] at OJ;subst OJ;simp only [beq_iff_eq,z1q,decide_eq_true_eq] at h1 h2;obtain ⟨h2,dW⟩:=h2;subst h2;have iF:=hv;simp only [RV] at iF;obtain ⟨vs,rfl,VM⟩:=iF;obtain ⟨hl,VM⟩:=Eo.1 VM;obtain ⟨l',rfl⟩:∃ l':List Value,vs=l'.toArray:=⟨vs.toList,by simp⟩
       simp only at hl VM
       match l',hl.symm.trans h1 with
       | [v0,v1,v2,v3,v4,v5,v6],_ =>
       have hk5:cs[6]?=some (.list 7 kds):=by
        have:6<cs.length:=by omega
        rw [z3q,z0q this] at hk;rw [z0q this];exact congrArg some hk
       have hkc:=(VM 6 _ v6 hk5 rfl).2;simp only [RC] at hkc;obtain ⟨ka,len,cap,h4,h5,h6,h7,h8,h9⟩:=hkc;simp only [List.cons.injEq,and_true] at h4;subst h4 h5;have Qh:∀ k:Nat,(Fence.wide.depth.isSome=true->1<=k):=fun k h=>by cases h
       have ho:∀ o,E.O W.heap.size o = .other:=fun o=>hf k E W hJ _ o (zoq _)
       have key:∀ T,∃ fy ty ay by_,(Instr.yield l #[.agg #[v0,v1,v2,v3,v4,v5, .slice ka kds.length cap]]).run Tryz.prog (W.alloc (.cells #[v0,v1,v2,v3,v4,v5, .slice ka kds.length cap] T)) = .ok (.round l fy ty ay by_) (W.alloc (.cells #[v0,v1,v2,v3,v4,v5, .slice ka kds.length cap] T)) /\
        RoundIn Fence.wide (n-1) Tryz.prog l fy ty ay by_ (W.alloc (.cells #[v0,v1,v2,v3,v4,v5, .slice ka kds.length cap] T)) fun e W2 =>
         (e = .returned (.bool true)/\∃ E2,J (k+1) E2 W2/\XK E W E2 W2/\(W2.heap[W.heap.size]?=some (.cells #[v0,v1,v2,v3,v4,v5, .slice ka kds.length cap] T (0,0))/\(∀ o,E2.O W.heap.size o = .other))/\W2.cell? ⟨W.heap.size,6,none⟩=some (.slice ka kds.length cap))\/(e = .returned (.bool false)/\Jx W2):=by
        intro T;have hJ1:J k E (W.alloc (.cells #[v0,v1,v2,v3,v4,v5, .slice ka kds.length cap] T)):=hI _ _ _ _ hJ (TZ.alloc _);have K1:=XK.alloc (E:=E) (W:=W) (.cells #[v0,v1,v2,v3,v4,v5, .slice ka kds.length cap] T) (hf k E W hJ);obtain ⟨fy,ty,ay,by_,hy,hR⟩:=hY k E _ (.agg cs) _ hJ1 (iE 0 _ rfl) (RV.mono K1.sh _ hv);refine ⟨fy,ty,ay,by_,hy,RoundIn.C2g rfl (RoundIn.mono hR ?_)⟩;rintro e W2 (⟨rfl,E2,hJ2,hP2⟩ | ⟨rfl,hx⟩)
        ·have K2:=XK.C1X hP2 (hf _ _ _ hJ1)
         have hb:=K2.blk W.heap.size (by simp) ho
         rw [World.alloc_heap_new] at hb;refine .inl ⟨rfl,E2,hJ2,K1.trans K2,hb, ?_⟩;simp [World.cell?,hb.1]
        ·exact .inr ⟨rfl,hx⟩
       obtain ⟨fy,ty,ay,by_,hy,hR⟩:=key 80;refine callsIn_of_wp Tryz.func194 rfl trivial ?_;simp only [Tryz.ntmps194,zGq,z6q,z9q,Nat.reduceAdd,Nat.reduceSub,zyq,zzq,zHq,zAq,zDq,zKq]
       gi_wp2_with ((try refine ⟨Qh _, ?_⟩);refine hR.mono ?_;clear hR;rintro e W2 (⟨rfl,E2,hJ2,hK2,VK,hc2⟩ | ⟨rfl,hx2⟩))
       ·-- the kids, one by one
        refine wpIn_loop_rounds (kds.length+1) ?_;refine (?loop:∀ (r i:Nat) (pre rs:List DV) (E3:Env) (w:World) (x6 x15 x16 x17 x18 x19 x20 x21 x22:Value),i+r=kds.length->KA (BK 7 6 m) (kds.drop i)=some rs->ks=pre++rs->J (k+1+pre.length) E3 w->XK E W E3 w ->
         Code.roundsIn Fence.wide n Tryz.prog _ _ (r+1) { tmps := #[.agg #[v0,v1,v2,v3,v4,v5, .slice ka kds.length cap], .func (.yield l) #[] #[], .pointer (some { block:=W.heap.size,off:=0 }),undef, .bool false,undef,x6,
          .func (.yield l) #[] #[], .agg #[v0,v1,v2,v3,v4,v5, .slice ka kds.length cap], .bool true, .bool false, .pointer (some { block:=W.heap.size,off:=6 }), .slice ka kds.length cap, .int .i64 (kds.length:Int), .int .i64 (i:Int),x15,x16,x17,x18,x19,x20,x21,x22],defers:=[] } w)
         kds.length 0 [] ks E2 W2 undef undef undef undef undef undef undef undef undef (by simp) h3 rfl hJ2 hK2
        clear hJ2 hK2 VK hc2 hy key hJ;intro r
        induction r with
        | zero =>
          intro i pre rs E3 w x6 x15 x16 x17 x18 x19 x20 x21 x22 hi hrs zG hJ3 hK3;have hi':i=kds.length:=by omega
          have C2R:(i:Int)=(kds.length:Int):=by omega
          rw [roundsIn_succ];rw [C2R];have M4:¬ ((kds.length:Int)<(kds.length:Int)):=by omega
          gi_wp2
          go_ret
          rw [hi',List.drop_length,KA] at hrs;simp only [Option.some.injEq] at hrs;subst hrs;refine .inl ⟨rfl,E3, ?_,hK3⟩;rw [show k+(pre.length+([]:List DV).length+1)=k+1+pre.length by simp;omega]
          exact hJ3
        | succ r ihr =>
          intro i pre rs E3 w x6 x15 x16 x17 x18 x19 x20 x21 x22 hi hrs zG hJ3 hK3;rw [roundsIn_succ];have M4:((i:Int)<(kds.length:Int)):=by omega
          have hil:i<kds.length:=by omega
          obtain ⟨xa,rfl⟩:∃ xa,ka=some xa:=by
           cases ka with
           | none=>have:=h7 rfl;omega
           | some xa=>exact ⟨xa,rfl⟩
          obtain ⟨Uk,Qf⟩:=h9 xa rfl;obtain ⟨xb,xo,xs⟩:=xa;have Uk:=Uk (by omega)
          simp only at Uk Qf;subst Uk;obtain ⟨us,hu1,hu2,hu3⟩:=Dp.1 Qf i _ (z0q hil);have hu4:=hu2.mono hK3.sh
          match us,hu1 with
          | [u0,u1,u2,u3,u4,u5,u6],_ =>
          have cc:∀ (j:Nat) (u:Value),[u0,u1,u2,u3,u4,u5,u6][j]?=some u->w.cell? ⟨xb,xo+i * 7+j,none⟩=some u:=fun j u hj=>by rw [Sl];exact (hu4 j u hj).1
          have c0:w.cell? ⟨xb,xo+i * 7,none⟩=some u0:=cc 0 u0 rfl;have c1:=cc 1 u1 rfl;have c2:=cc 2 u2 rfl;have c3:=cc 3 u3 rfl;have c4:=cc 4 u4 rfl;have c5:=cc 5 u5 rfl;have c6:=cc 6 u6 rfl;have ou:∀ (j:Nat) (u:Value),[u0,u1,u2,u3,u4,u5,u6][j]?=some u->u.oneCell'=true:=fun j u hj=>(MZ hu3 hj).elim fun h1 h2=>JH h1 h2
          have e0:u0.oneCell'=true:=ou 0 u0 rfl;have e1:u1.oneCell'=true:=ou 1 u1 rfl;have e2:u2.oneCell'=true:=ou 2 u2 rfl;have e3:u3.oneCell'=true:=ou 3 u3 rfl;have e4:u4.oneCell'=true:=ou 4 u4 rfl;have e5:u5.oneCell'=true:=ou 5 u5 rfl;have e6:u6.oneCell'=true:=ou 6 u6 rfl;obtain ⟨w1,s0,b0,r0,z0,o0⟩:=Oa (P:=Tryz.prog) (j:=0) (World.alloc_heap_new w (.cells #[.int .i64 0, .int .i64 0, .int .i64 0, .string ⟨#[]⟩, .int .i64 0, .string ⟨#[]⟩, .slice none 0 0] 80)) (by simp) e0
          obtain ⟨w2,s1,b1,r1,z1,o1⟩:=Oa (P:=Tryz.prog) (j:=1) b0 (by simp) e1
          obtain ⟨w3,s2,b2,r2,z2,o2⟩:=Oa (P:=Tryz.prog) (j:=2) b1 (by simp) e2
          obtain ⟨w4,s3,b3,r3,z3,o3⟩:=Oa (P:=Tryz.prog) (j:=3) b2 (by simp) e3
          obtain ⟨w5,s4,b4,r4,z4,o4⟩:=Oa (P:=Tryz.prog) (j:=4) b3 (by simp) e4
          obtain ⟨w6,s5,b5,r5,z5,o5⟩:=Oa (P:=Tryz.prog) (j:=5) b4 (by simp) e5
          obtain ⟨w7,s6,b6,r6,z6,o6⟩:=Oa (P:=Tryz.prog) (j:=6) b5 (by simp) e6
          simp only [List.setIfInBounds_toArray,List.set_cons_zero,List.set_cons_succ] at b0 b1 b2 b3 b4 b5 b6;have dd:∀ (j:Nat) (u:Value),[u0,u1,u2,u3,u4,u5,u6][j]?=some u->w7.cell? ⟨w.heap.size,j,none⟩=some u:=fun j u hj=>by rw [Sl];simp only [hc,b6];simpa using hj
          have d0:=dd 0 u0 rfl;have d1:=dd 1 u1 rfl;have d2:=dd 2 u2 rfl;have d3:=dd 3 u3 rfl;have d4:=dd 4 u4 rfl;have d5:=dd 5 u5 rfl;have d6:=dd 6 u6 rfl;have low:∀ b,b<w.heap.size->w7.heap[b]?=w.heap[b]?:=fun b hb=>by
           rw [r6 b (by omega),r5 b (by omega),r4 b (by omega),r3 b (by omega),r2 b (by omega),r1 b (by omega),r0 b (by omega)]
           exact Below.heap_alloc _ _ _ hb
          have hz:w.heap.size<=w7.heap.size:=by rw [z6,z5,z4,z3,z2,z1,z0];simp
          have WG:Q3 w w7:=Q3.trans (b:=w1) (Q3.trans (b:=w.alloc (.cells #[.int .i64 0, .int .i64 0, .int .i64 0, .string ⟨#[]⟩, .int .i64 0, .string ⟨#[]⟩, .slice none 0 0] 80)) ⟨rfl,rfl,rfl⟩ o0) ((((((o1).trans o2).trans o3).trans o4).trans o5).trans o6);have zD:=hf _ _ _ hJ3;have K7:XK E3 w E3 w7:=XK.same hz low zD;have hJ7:=hI _ _ _ _ hJ3 (TZ.same hz low WG);rw [List.drop_eq_getElem_cons hil,KA] at hrs;obtain ⟨sa,hsa,hrs⟩:=A9 hrs;obtain ⟨sb,hsb,hrs⟩:=A9 hrs;simp only [Option.some.injEq] at hrs;subst hrs;have C2L:Fence.wide.fn 194:=trivial;have B7i:CallsIn Fence.wide (n-1) Tryz.prog 194 _ w7 _:=callsIn_wide.2 (callsIn_wide.1 (ih _ sa hsa (k+1+pre.length) E3 w7 (.agg #[u0,u1,u2,u3,u4,u5,u6]) hJ7 (RV.mono (hK3.trans K7).sh _ (flat_agg hsa hu3)) (B7X iE zG) (by have:=hK3.size;omega)))
          clear ih
          gi_wp2_with ((try refine ⟨Qh _, ?_⟩);gi_at_call 194;refine B7i.mono ?_;clear B7i;rintro e wz (⟨rfl,E4,hJ4,hK4⟩ | ⟨rfl,hx⟩))
          ·rw [show wrap64 ((i:Int)+1)=((i+1:Nat):Int) by unfold lim at dW;rw [wrap64];omega]
           exact ihr (i+1) (pre++sa) sb E4 wz _ _ _ _ _ _ _ _ _ (by omega) hsb (by rw [zG,List.append_assoc]) (by rw [zdq,<- Nat.add_assoc];exact hJ4) ((hK3.trans K7).trans hK4)
          ·go_ret
           exact .inr ⟨rfl,hx⟩
       ·go_ret
        exact .inr ⟨rfl,hx2⟩
     | _=>rw [hk] at OJ;simp at OJ
   | _=>simp [BK] at OJ
set_option maxHeartbeats 1000000 in
theorem B77:A8c Tryz.prog 193 (Rb 7 6):=by
 intro cs ds iC n l b c T0 J Jx E W hb ho hR hf hI hY h0;obtain ⟨m,hm⟩:=oV iC;have Dh:cs.length=7:=by
  cases m with
  | zero=>simp [BK] at hm
  | succ m =>
    rw [BK] at hm;obtain ⟨h1,-⟩:=F4 hm;simpa using h1
 have hlc:=(Eo.1 hR).1;obtain ⟨l',rfl⟩:∃ l':List Value,c=l'.toArray:=⟨c.toList,by simp⟩
 simp only at hR hlc
 match l',hlc.symm.trans Dh with
 | [v0,v1,v2,v3,v4,v5,v6],_ =>
 have cc:∀ (j:Nat) (u:Value),[v0,v1,v2,v3,v4,v5,v6][j]?=some u->W.cell? ⟨b,j,none⟩=some u:=fun j u hj=>by rw [Sl];simp only [hc,hb];simpa using hj
 have c0:=cc 0 v0 rfl;have c1:=cc 1 v1 rfl;have c2:=cc 2 v2 rfl;have c3:=cc 3 v3 rfl;have c4:=cc 4 v4 rfl;have c5:=cc 5 v5 rfl;have c6:=cc 6 v6 rfl;have hgo:CallsIn Fence.wide (n-1) Tryz.prog 194 _ W _:=callsIn_wide.2 (callsIn_wide.1 (B73 l W.heap.size ds J Jx n hf hI hY m (.agg cs) ds hm 0 E W (.agg #[v0,v1,v2,v3,v4,v5,v6]) h0 (by simp only [RV];exact ⟨_,rfl,hR⟩) (fun j x h=>by rw [ztq];exact h) (zoq _)))
 have C2L:Fence.wide.fn 194:=trivial;have Qh:∀ k:Nat,(Fence.wide.depth.isSome=true->1<=k):=fun k h=>by cases h
 refine callsIn_of_wp Tryz.func193 rfl trivial ?_;simp only [Tryz.ntmps193,zGq,z6q,z9q,Nat.reduceAdd,Nat.reduceSub,zyq,zzq,zHq,zAq,zDq,zKq]
 gi_wp2_with ((try refine ⟨Qh _, ?_⟩);gi_at_call 194;refine hgo.mono ?_;clear hgo;rintro e w2 (⟨rfl,E4,hJ4,-⟩ | ⟨rfl,hx⟩))
 ·go_end0
  exact ⟨⟨_,rfl⟩, .inl ⟨E4,by simpa using hJ4⟩⟩
 ·go_end0
  exact ⟨⟨_,rfl⟩, .inr hx⟩
def C1n:ClP where
 i0:=0
 i1:=1
 i2:=2
 i3:=3
 r0:=(FM (Tryz.f61.body.getD .skip) [false] 0)
 r1:=(FM (Tryz.f61.body.getD .skip) [true,false,false] 0)
 r2:=(FM (Tryz.f61.body.getD .skip) [true,false,false] 1)
 r3:=(FM (Tryz.f61.body.getD .skip) [true,false,true,false,false] 0)
 r4:=(FM (Tryz.f61.body.getD .skip) [true,true,false] 0)
 r5:=(FM (Tryz.f61.body.getD .skip) [true,true,false] 1)
 r6:=(FM (Tryz.f61.body.getD .skip) [true,true,false] 2)
 r7:=(FM (Tryz.f61.body.getD .skip) [true,true,false] 3)
 ts:=29
 ty:=B62 (Tryz.f61.body.getD .skip) [true,false,false] 1
theorem B5B:aC Tryz.prog 61 20:=A2S (q:=C1n) (by kernel_rfl) Tryz.func61 (by kernel_rfl) (by kernel_rfl) (by kernel_rfl)
def B9C:ClP where
 i0:=0
 i1:=1
 i2:=2
 i3:=3
 r0:=(FM (Tryz.f186.body.getD .skip) [false] 0)
 r1:=(FM (Tryz.f186.body.getD .skip) [true,false,false] 0)
 r2:=(FM (Tryz.f186.body.getD .skip) [true,false,false] 1)
 r3:=(FM (Tryz.f186.body.getD .skip) [true,false,true,false,false] 0)
 r4:=(FM (Tryz.f186.body.getD .skip) [true,true,false] 0)
 r5:=(FM (Tryz.f186.body.getD .skip) [true,true,false] 1)
 r6:=(FM (Tryz.f186.body.getD .skip) [true,true,false] 2)
 r7:=(FM (Tryz.f186.body.getD .skip) [true,true,false] 3)
 ts:=25
 ty:=B62 (Tryz.f186.body.getD .skip) [true,false,false] 1
theorem B3E:aC Tryz.prog 186 3:=A2S (q:=B9C) (by kernel_rfl) Tryz.func186 (by kernel_rfl) (by kernel_rfl) (by kernel_rfl)
def B9D:ClP where
 i0:=0
 i1:=1
 i2:=2
 i3:=3
 r0:=(FM (Tryz.f200.body.getD .skip) [false] 0)
 r1:=(FM (Tryz.f200.body.getD .skip) [true,false,false] 0)
 r2:=(FM (Tryz.f200.body.getD .skip) [true,false,false] 1)
 r3:=(FM (Tryz.f200.body.getD .skip) [true,false,true,false,false] 0)
 r4:=(FM (Tryz.f200.body.getD .skip) [true,true,false] 0)
 r5:=(FM (Tryz.f200.body.getD .skip) [true,true,false] 1)
 r6:=(FM (Tryz.f200.body.getD .skip) [true,true,false] 2)
 r7:=(FM (Tryz.f200.body.getD .skip) [true,true,false] 3)
 ts:=151
 ty:=B62 (Tryz.f200.body.getD .skip) [true,false,false] 1
theorem B3F:aC Tryz.prog 200 4:=A2S (q:=B9D) (by kernel_rfl) Tryz.func200 (by kernel_rfl) (by kernel_rfl) (by kernel_rfl)
end
end Go.Su

/-
 A map's keys, collected and sorted: the program's code and the library's sort keep their word.
-/
namespace Go.Su
open Go.Proofs Go.RowKit Go.Shelf
def B8U:Ren where
 f x:=match x with
   | 190=>106
   | 125=>135
   | 258=>134
   | 128=>165
   | 129=>166
   | 302=>156
   | 303=>157
   | 304=>158
   | 305=>159
   | 306=>160
   | 307=>161
   | 308=>162
   | 309=>163
   | 310=>164
   | 333=>180
   | 329=>181
   | 330=>182
   | 334=>183
   | 335=>184
   | 336=>185
   | 344=>198
   | n=>n
 t x:=match x with
   | 31=>34
   | 9=>9
   | 3=>3
   | 46=>59
   | 0=>0
   | 51=>204
   | 53=>206
   | 4=>4
   | 183=>197
   | 182=>196
   | 131=>185
   | 5=>5
   | 218=>213
   | 222=>217
   | 228=>223
   | 229=>224
   | n=>n
 g x:=x
theorem B6L:Lays.n190 Tryz.prog B8U where
 mixed:=by kernel_rfl
 f125:=Tryz.func135.trans (by kernel_rfl)
 f128:=Tryz.func165.trans (by kernel_rfl)
 f129:=Tryz.func166.trans (by kernel_rfl)
 f190:=Tryz.func106.trans (by kernel_rfl)
 f258:=Tryz.func134.trans (by kernel_rfl)
 f302:=Tryz.func156.trans (by kernel_rfl)
 f303:=Tryz.func157.trans (by kernel_rfl)
 f304:=Tryz.func158.trans (by kernel_rfl)
 f305:=Tryz.func159.trans (by kernel_rfl)
 f306:=Tryz.func160.trans (by kernel_rfl)
 f307:=Tryz.func161.trans (by kernel_rfl)
 f308:=Tryz.func162.trans (by kernel_rfl)
 f309:=Tryz.func163.trans (by kernel_rfl)
 f310:=Tryz.func164.trans (by kernel_rfl)
 f329:=Tryz.func181.trans (by kernel_rfl)
 f330:=Tryz.func182.trans (by kernel_rfl)
 f333:=Tryz.func180.trans (by kernel_rfl)
 f334:=Tryz.func183.trans (by kernel_rfl)
 f335:=Tryz.func184.trans (by kernel_rfl)
 f336:=Tryz.func185.trans (by kernel_rfl)
 f344:=Tryz.func198.trans (by kernel_rfl)
 t0:=Tryz.underlying0
 a0:=Tryz.isAgg0
 z0:=Tryz.sizeOf0
 v0:=Tryz.zeroValue0
 t3:=Tryz.underlying3
 a3:=Tryz.isAgg3
 z3:=Tryz.sizeOf3
 v3:=Tryz.zeroValue3
 t4:=Tryz.underlying4
 a4:=Tryz.isAgg4
 z4:=Tryz.sizeOf4
 v4:=Tryz.zeroValue4
 t5:=Tryz.underlying5
 a5:=Tryz.isAgg5
 z5:=Tryz.sizeOf5
 v5:=Tryz.zeroValue5
 t9:=Tryz.underlying9
 a9:=Tryz.isAgg9
 z9:=Tryz.sizeOf9
 v9:=Tryz.zeroValue9
 t31:=Tryz.underlying34
 a31:=Tryz.isAgg34
 z31:=Tryz.sizeOf34
 v31:=Tryz.zeroValue34
 t46:=Tryz.underlying59
 a46:=Tryz.isAgg59
 z46:=Tryz.sizeOf59
 v46:=Tryz.zeroValue59
 t51:=Tryz.underlying204
 a51:=Tryz.isAgg204
 z51:=Tryz.sizeOf204
 v51:=Tryz.zeroValue204
 t53:=Tryz.underlying206
 a53:=Tryz.isAgg206
 z53:=Tryz.sizeOf206
 v53:=Tryz.zeroValue206
 t131:=Tryz.underlying185
 a131:=Tryz.isAgg185
 z131:=Tryz.sizeOf185
 v131:=Tryz.zeroValue185
 t182:=Tryz.underlying196
 a182:=Tryz.isAgg196
 z182:=Tryz.sizeOf196
 v182:=Tryz.zeroValue196
 t183:=Tryz.underlying197
 a183:=Tryz.isAgg197
 z183:=Tryz.sizeOf197
 v183:=Tryz.zeroValue197
 t218:=Tryz.underlying213
 a218:=Tryz.isAgg213
 z218:=Tryz.sizeOf213
 v218:=Tryz.zeroValue213
 t222:=Tryz.underlying217
 a222:=Tryz.isAgg217
 z222:=Tryz.sizeOf217
 v222:=Tryz.zeroValue217
 t228:=Tryz.underlying223
 a228:=Tryz.isAgg223
 z228:=Tryz.sizeOf223
 v228:=Tryz.zeroValue223
 t229:=Tryz.underlying224
 a229:=Tryz.isAgg224
 z229:=Tryz.sizeOf224
 v229:=Tryz.zeroValue224
theorem C0k:Lib.len8 0=0:=by kernel_rfl
variable (w:World)
theorem B8e:Calls Tryz.prog 166 #[.int .u64 0] w fun e w'=>e = .returned (.int .i64 0)/\w'=w:=by
 go_enter Tryz.func166,Tryz.ntmps166
 go_wp2
 go_ret
 exact ⟨congrArg Ending.returned (show Value.int .i64 (wrap64 (wrap64 (Lib.len8 0))) = .int .i64 0 by rw [C0k];simp [wrap64]),rfl⟩
theorem C1S:Calls Tryz.prog 135 #[.int .u64 0] w fun e w'=>e = .returned (.int .i64 0)/\w'=w:=by
 go_enter Tryz.func135,Tryz.ntmps135
 go_wp2_with (go_at_call 166;refine (B8e _).mono ?_;rintro e w1 ⟨rfl,rfl⟩)
 go_ret
 exact ⟨rfl,rfl⟩
variable (p:Option Addr) (cap:Nat)
theorem C1N (w:World):Calls Tryz.prog 156 #[.slice p 0 cap, .int .i64 0, .int .i64 0] w fun e w'=>e = .returned (.tuple #[])/\w'=w:=by
 go_enter Tryz.func156,Tryz.ntmps156
 go_wp2
 refine wp_loop (fun a' w'=>a'=_/\w'=_) (fun _ _=>0) ⟨rfl,rfl⟩ ?_
 rintro _ _ ⟨rfl,rfl⟩
 go_wp2
 go_returns
 exact ⟨rfl,rfl⟩
theorem C12 (w:World):Calls Tryz.prog 134 #[.slice p 0 cap, .int .i64 0, .int .i64 0, .int .i64 0] w fun e w'=>e = .returned (.tuple #[])/\w'=w:=by
 go_enter Tryz.func134,Tryz.ntmps134
 go_wp2
 refine wp_loop (fun a' w'=>a'=_/\w'=_) (fun _ _=>0) ⟨rfl,rfl⟩ ?_
 rintro _ _ ⟨rfl,rfl⟩
 go_wp2_with (go_at_call 156;refine (C1N _ _ _).mono ?_;rintro e w1 ⟨rfl,rfl⟩)
 go_returns
 exact ⟨rfl,rfl⟩
theorem C02 (w:World):Calls Tryz.prog 106 #[.slice p 0 cap] w fun e w'=>e = .returned (.tuple #[])/\w'=w:=by
 go_enter Tryz.func106,Tryz.ntmps106
 go_wp2_with (first | (go_at_call 135;refine (C1S _).mono ?_;rintro e w1 ⟨rfl,rfl⟩) | (go_at_call 134;refine (C12 _ _ _).mono ?_;rintro e w1 ⟨rfl,rfl⟩))
 go_returns
 exact ⟨rfl,rfl⟩
theorem A4O:KP.Ok Tryz.prog OL where
 nodup:=by decide
 hm:=by kernel_rfl
 hs:=by kernel_rfl
 info:=⟨Tryz.t9, .string ⟨#[]⟩,by kernel_rfl,by kernel_rfl,by kernel_rfl,by kernel_rfl,by kernel_rfl⟩
 go:=by kernel_rfl
 sort blk off cap ss w h1 h2 h3:=Any.slices_Sort_string B6L blk off cap ss w h1 h2 h3
 B7F p cap w:=C02 p cap w
theorem A2T:A3r Tryz.prog V8 Eu :=
 ⟨OL.code Eu.post,by kernel_rfl,fun _=>by kernel_rfl,fun R H K=>B8a A4O R H K⟩
end Go.Su

/-
 The settings are right.
-/
namespace Go.Su
open Go.Proofs
theorem B6k:Tryz.prog.funcs.toList.all (fun fn=>fn.name != "runtime.NumGoroutine")=true:=by kernel_rfl
theorem A4R {β : Type} {l:List (FuncId × β)} {f:FuncId} {g : β} (h:l.lookup f=some g):(f,g)∈l:=by
 induction l with
 | nil=>cases h
 | cons x l ih =>
   obtain ⟨a,b⟩:=x;simp only [List.lookup_cons] at h
   by_cases e:f == a
   ·rw [e] at h;simp only [Option.some.injEq] at h;rw [h];rw [eq_of_beq e];exact z7q ..
   ·simp only [e] at h;exact z4q _ (ih h)
theorem B9B:A3q cfg where
 mixed:=by kernel_rfl
 go f fn h:=by
  have h1:fn∈Tryz.prog.funcs.toList:=by
   have:Tryz.prog.funcs[f]?=some fn:=h;rw [<- zaq] at this;exact zuq this
  have:=z8q.1 B6k fn h1;simpa using this
 Yj f g h fn c hf hb:=by
  have h1:(f,g)∈B2G:=A4R h;simp only [B2G,zgq,zpq,or_false,Prod.mk.injEq] at h1;obtain ⟨rfl,rfl⟩:=h1
  ·have e1:Tryz.prog.funcs[(58:Nat)]?=some fn:=hf
   rw [Tryz.func58] at e1;simp only [Option.some.injEq] at e1;subst e1;have e2:Tryz.f58.body=some V8:=by kernel_rfl
   rw [e2] at hb;simp only [Option.some.injEq] at hb;subst hb;exact A2T
 clone f h:=by
  have h0:clL.contains f=true:=h;have h1:f∈clL:=by simpa using h0
  simp only [clL,zgq,zpq,or_false] at h1;rcases h1 with rfl | rfl | rfl
  ·exact ⟨by kernel_rfl,B5B⟩
  ·exact ⟨by kernel_rfl,B3E⟩
  ·exact ⟨by kernel_rfl,B3F⟩
 iL f g h:=by
  have h1:(f,g)∈mkL:=A4R h;simp only [mkL,zgq,zpq,or_false,Prod.mk.injEq] at h1;rcases h1 with ⟨rfl,rfl⟩
  ·exact ⟨by kernel_rfl,B8h⟩
 iter g it h:=by
  have h1:itF g=some it:=h;unfold itF at h1
  split at h1
  ·rename_i e
   subst e;cases h1;exact ⟨by kernel_rfl,B77⟩
  ·cases h1
end Go.Su

/-
 Equations of the program's functions: by program.
-/
namespace Go.Su
set_option maxRecDepth 100000
noncomputable section
open Go.Proofs
variable (R:O4) (i j k l m n:Nat) (a b c d e f g h o p q r t u v w x y z A B C D E F G H I J K L M N O P Q S T U V W X Y Z a1 a2 a3 a4 a5 a6 a7 a8 a9 a10 a11 a12 a13 a14 a15 a16 a17 a18 a19 a20 a21 a22 a23 a24 a25 a26 a27 a28 a29 a30 a31 a32 a33 a34 a35 a36 a37 a38 a39 a40 a41 a42 a43 a44 a45 a46 a47 a48 a49 a50 a51 a52 a53 a54 a55 a56 a57 a58 a59:DV) (s:List D8)
def j_:=eP Tryz.f3 JP R [] (F7 Tryz.f3 [(a, .val),(b, .val)] [])
def JE:=hP Tryz.f3 JP R (pb 4092) (ms 141 [(1,a),(7,b)] [] [(2,bx c 20),(5,bx d 15),(6,bx e 20)] [])
def Ju:=eP Tryz.f3 JP R (pb 2047) (ms 141 [(1,a),(7,b)] [] [(2,bx c 20),(5,bx d 15),(6,bx e 20)] [])
def Yp:=eP Tryz.f3 JP R (pb 16383) (ms 141 [(7,a)] [] [(5,bx b 15),(10,bx c 15),(11,bx d 15),(12,bx e 15)] [])
theorem gH:j_ R a b =
 (og (C9 20 a) <| ob (R.p ig [(.list 20 [(F6 a)])]) fun d1=>I1 d1 sT (ob (R.p Jb [(F6 a)]) fun d2=>ob (O6 .not d2) fun d3=>I1 d3 sT (ob (R.p TM [(F6 a)]) fun d4=>ob (dLen d4) fun d5=>ob (A8 .gtr d5 (iI 0)) fun d6=>D7 d6 sT (ob (R.p ZP [b,(iI 50)]) fun d7=>ob (A8 .add d7 (iI 7)) fun d8=>ob (R.p VT [(F6 a),d8]) fun d9=>ob (O6 .not d9) fun d10=>D7 d10 sT (ob (R.p LC [(F6 a),d7]) fun d11=>og (C9 15 d11) <| ob (A8 .eql (A7 0 d11) (iI 5)) fun d12=>D7 d12 (ob (A8 .eql (A7 14 d11) d7) fun d13=>I1 d13 (ob (R.p QP []) fun d14=>some d14) sF none) (ob (A8 .lss (A7 14 d11) (iI 1)) fun d15=>I1 d15 sF (ob (A8 .gtr (A7 14 d11) d7) fun d16=>D7 d16 sF (JE R d7 (iI 0) a d11 a)) none)))) none) none):=E8 [19,22]
theorem VI:JE R a b c d e =
 (ob (A8 .lss b a) fun d1=>I1 d1 (ob (R.p Nf [(F6 e)]) fun d2=>ob (O6 .not d2) fun d3=>D7 d3 (ob (R.p QM [(F6 e)]) fun d4=>ob (I9 0 d4) fun d5=>ob (I9 1 d4) fun d6=>og (C9 20 d5) <| og (C9 15 d6) <| ob (A8 .neq (A7 0 d6) (iI 0)) fun d7=>D7 d7 (ob (R.p IG [(U8 d6),(U8 d)]) fun d8=>I1 d8 (ob (A8 .add b (iI 1)) fun d9=>ob (A8 .eql (A7 14 d) d9) fun d10=>I1 d10 (ob (R.p QP []) fun d11=>some d11) sF none) sF none) (ob (A8 .add b (iI 1)) fun d12=>JE R a d12 c d d5)) (Ju R a b c d e)) (Ju R a b c d e) none):=I5 [19,22]
theorem XX:Ju R a b c d e =
 (ob (R.p LC [(F6 e),a]) fun d1=>og (C9 15 d1) <| ob (A8 .sub (A7 14 d) (iI 1)) fun d2=>ob (R.p LC [(F6 c),d2]) fun d3=>og (C9 15 d3) <| ob (A8 .add a (iI 7)) fun d4=>ob (R.p LC [(F6 c),d4]) fun d5=>og (C9 15 d5) <| Yp R b d d1 d3 d5):=E8 [19,22]
theorem XY:Yp R a b c d e =
 (ob (R.p IG [(U8 c),(U8 b)]) fun d1=>I1 d1 (ob (A8 .add (A7 14 c) a) fun d2=>ob (A8 .eql d2 (A7 14 b)) fun d3=>I1 d3 (ob (A8 .eql (A7 0 d) (iI 5)) fun d4=>I1 d4 (ob (A8 .sub (A7 14 b) (iI 1)) fun d5=>ob (A8 .eql (A7 14 d) d5) fun d6=>I1 d6 (ob (R.p IG [(U8 e),(U8 b)]) fun d7=>I1 d7 (ob (A8 .eql (A7 14 e) (A7 14 b)) fun d8=>I1 d8 (ob (R.p QP []) fun d9=>some d9) sF none) sF none) sF none) sF none) sF none) sF none):=E8 [19,22]
theorem bY:(run cfg).p jr [a,b]=j_ (run cfg) a b:=N7 Tryz.func3
def A01:=eP Tryz.f5 dC R [] (F7 Tryz.f5 [(a, .val)] [])
def Oo:=hP Tryz.f5 dC R (pb 58) (ms 19 [(0,a),(3,b),(4,c)] [] [] [])
theorem wu:A01 R a =
 (Oo R a (iI 0) (iI 0)):=E8 []
theorem UH:Oo R a b c =
 (ob (dLen a) fun d1=>ob (A8 .lss c d1) fun d2=>D7 d2 (ob (F5 20 a c) fun d3=>ob (R.p MV [(F6 d3),b]) fun d4=>ob (A8 .add c (iI 1)) fun d5=>Oo R a d4 d5) (ob (A8 .gtr b (iI 500)) fun d6=>some d6)):=I5 []
theorem sw:(run cfg).p ig [a]=A01 (run cfg) a:=N7 Tryz.func5
def A1d:=eP Tryz.f6 dK R [] (F7 Tryz.f6 [(a, .val)] [])
def Ov:=hP Tryz.f6 dK R (pb 58) (ms 21 [(3,a)] [] [(1,bx b 20)] [])
theorem xF:A1d R a =
 (og (C9 20 a) <| ob (R.p vI [(F6 a)]) fun d1=>ob (O6 .not d1) fun d2=>D7 d2 sF (Ov R (iI 0) a)):=E8 []
theorem UN:Ov R a b =
 (ob (dLen (A7 19 b)) fun d1=>ob (A8 .lss a d1) fun d2=>D7 d2 (ob (F5 20 (A7 19 b) a) fun d3=>ob (R.p Jb [(F6 d3)]) fun d4=>ob (O6 .not d4) fun d5=>D7 d5 sF (ob (A8 .add a (iI 1)) fun d6=>Ov R d6 b)) sT):=I5 []
theorem tQ:(run cfg).p Jb [a]=A1d (run cfg) a:=N7 Tryz.func6
def A3K:=eP Tryz.f7 A2m R [] (F7 Tryz.f7 [(a, .val)] [])
theorem A1O:A3K R a =
 (og (C9 20 a) <| ob (R.p ZX [(F6 a),(.list 1 []),(.list 1 [])]) fun d1=>some d1):=E8 []
theorem xz:(run cfg).p TM [a]=A3K (run cfg) a:=N7 Tryz.func7
def A3w:=eP Tryz.f8 A2f R [] (F7 Tryz.f8 [(a, .val),(b, .val)] [])
theorem A1B:A3w R a b =
 (ob (A8 .lss b (iI 1)) fun d1=>D7 d1 (some (iI 0)) (ob (T_ .u64 a) fun d2=>ob (T_ .u64 b) fun d3=>ob (A8 .rem d2 d3) fun d4=>ob (T_ .i64 d4) fun d5=>some d5)):=E8 []
theorem xc:(run cfg).p ZP [a,b]=A3w (run cfg) a b:=N7 Tryz.func8
def kE:=eP Tryz.f9 Ud R [] (F7 Tryz.f9 [(a, .val),(b, .val)] [])
def Jy:=hP Tryz.f9 Ud R (pb 122) (ms 42 [(1,a),(5,b)] [] [(2,bx c 20)] [])
theorem UR:kE R a b =
 (og (C9 20 a) <| ob (R.p We [(F6 a)]) fun d1=>ob (O6 .not d1) fun d2=>D7 d2 sF (ob (R.p Jb [(F6 a)]) fun d3=>ob (O6 .not d3) fun d4=>I1 d4 sT (ob (R.p TM [(F6 a)]) fun d5=>ob (dLen d5) fun d6=>ob (A8 .gtr d6 (iI 0)) fun d7=>D7 d7 sT (Jy R b (iI 0) a)) none)):=E8 []
theorem OA:Jy R a b c =
 (ob (A8 .lss b a) fun d1=>I1 d1 (ob (R.p Dm [(F6 c)]) fun d2=>ob (O6 .not d2) fun d3=>D7 d3 (ob (R.p EU [(F6 c)]) fun d4=>ob (I9 0 d4) fun d5=>ob (I9 1 d4) fun d6=>og (C9 20 d5) <| og (C9 15 d6) <| ob (A8 .neq (A7 0 d6) (iI 0)) fun d7=>D7 d7 sT (ob (R.p We [(F6 d5)]) fun d8=>ob (O6 .not d8) fun d9=>D7 d9 sF (ob (A8 .add b (iI 1)) fun d10=>Jy R a d10 d5))) sT) sT none):=I5 []
theorem SF:(run cfg).p VT [a,b]=kE (run cfg) a b:=N7 Tryz.func9
def A3s:=eP Tryz.f10 Mg R [] (F7 Tryz.f10 [(a, .val),(b, .val)] [])
def Qv:=hP Tryz.f10 Mg R (pb 60) (ms 85 [(1,a),(5,b),(6,c)] [] [(2,bv [d,e,f,g,h,o,p,q,r,t,u,v,w,x,y,z,A,B,C,D]),(4,some BV)] [])
def aX:=eP Tryz.f10 Mg R (pb 241) (ms 85 [(1,a),(5,b),(6,c)] [] [(2,bv [d,e,f,g,h,o,p,q,r,t,u,v,w,x,y,z,A,B,C,D]),(4,some BV)] [])
def KI:=hP Tryz.f10 Mg R (pb 252) (ms 85 [(1,a),(6,b)] [(9,(.ptr 1 0))] [(4,some BV)] s)
def X_:=eP Tryz.f10 Mg R (pb 7719) (ms 85 [(1,a),(5,b),(6,c)] [] [(2,bv [d,e,f,g,h,o,p,q,r,t,u,v,w,x,y,z,A,B,C,D]),(4,some BV),(7,bv [E,F,G,H,I,J,K,L,M,N,O,P,Q,S,T,U,V,W,X,Y]),(8,bv [Z,a1,a2,a3,a4,a5,a6,a7,a8,a9,a10,a11,a12,a13,a14])] [])
theorem A1x:A3s R a b =
 (og (C9 20 a) <| ob (jG b (iI 0)) fun d1=>ob (jH d1 (iI 65536)) fun d2=>ob (R.p Ip [(F6 a)]) fun d3=>Qv R d2 d3 (iI 0) (A7 0 a) (A7 1 a) (A7 2 a) (A7 3 a) (A7 4 a) (A7 5 a) (A7 6 a) (A7 7 a) (A7 8 a) (A7 9 a) (A7 10 a) (A7 11 a) (A7 12 a) (A7 13 a) (A7 14 a) (A7 15 a) (A7 16 a) (A7 17 a) (A7 18 a) (A7 19 a)):=E8 [5,10]
theorem PE:Qv R a b c d e f g h o p q r t u v w x y z A B C D =
 (ob (O6 .not b) fun d1=>I1 d1 (aX R a b c d e f g h o p q r t u v w x y z A B C D) (ob (R.p Cf [(.agg [d,e,f,g,h,o,p,q,r,t,u,v,w,x,y,z,A,B,C,D])]) fun d2=>ob (O6 .not d2) fun d3=>D7 d3 (aX R a b c d e f g h o p q r t u v w x y z A B C D) (KI R a c [D8.U1 1 20 [(.agg [d,e,f,g,h,o,p,q,r,t,u,v,w,x,y,z,A,B,C,D])],D8.box [(.undef,(.U1 0 1 20 1)),((.list 9 []), .full)]])) none):=I5 [5,10]
theorem YM:aX R a b c d e f g h o p q r t u v w x y z A B C D =
 (ob (A8 .eql c a) fun d1=>D7 d1 (og (I6 c) <| some (.agg ((iI 5)::(Bh [c])))) (D7 b (ob (R.p Bz [(.agg [d,e,f,g,h,o,p,q,r,t,u,v,w,x,y,z,A,B,C,D])]) fun d2=>ob (I9 0 d2) fun d3=>ob (I9 1 d2) fun d4=>og (C9 20 d3) <| og (C9 15 d4) <| X_ R a b c d e f g h o p q r t u v w x y z A B C D (A7 0 d3) (A7 1 d3) (A7 2 d3) (A7 3 d3) (A7 4 d3) (A7 5 d3) (A7 6 d3) (A7 7 d3) (A7 8 d3) (A7 9 d3) (A7 10 d3) (A7 11 d3) (A7 12 d3) (A7 13 d3) (A7 14 d3) (A7 15 d3) (A7 16 d3) (A7 17 d3) (A7 18 d3) (A7 19 d3) (A7 0 d4) (A7 1 d4) (A7 2 d4) (A7 3 d4) (A7 4 d4) (A7 5 d4) (A7 6 d4) (A7 7 d4) (A7 8 d4) (A7 9 d4) (A7 10 d4) (A7 11 d4) (A7 12 d4) (A7 13 d4) (A7 14 d4)) (X_ R a b c d e f g h o p q r t u v w x y z A B C D (iI 0) (iI 0) (iI 0) (.str ⟨#[]⟩) (.str ⟨#[]⟩) (iI 0) (.str ⟨#[]⟩) (iI 0) (iI 0) (.bool false) (.list 1 []) (iI 0) (iI 0) (.list 3 []) (iI 0) (iI 0) (.list 3 []) (.list 3 []) (.list 7 []) (.list 20 []) (iI 6) (iI 0) (iI 0) (.str ⟨#[]⟩) (iI 0) (iI 0) (iI 0) (.bool false) (.list 5 []) (.list 9 []) (iI 0) (.bool false) (iI 0) (iI 0) (iI 0)))):=E8 [5,10]
theorem NN:KI R a b s =
 (ob (M5 s 1) fun c1=>ob (Rh s 1 0 c1 20) fun v2=>ob (A3n v2.2.2.2) fun d3=>ob (A8 .gtr d3 (iI 0)) fun d4=>D7 d4 (ob (A8 .eql b a) fun d5=>D7 d5 (og (I6 b) <| some (.agg ((iI 5)::(Bh [b])))) (oc (R.r Ig [(pt 1)] v2.1) fun q6 s6=>og (C9 15 q6) <| ob (A8 .neq (A7 0 q6) (iI 0)) fun d7=>D7 d7 (ob (A8 .add b (iI 1)) fun d8=>og (I6 d8) <| some (.agg [(A7 0 q6),(A7 1 q6),(A7 2 q6),(A7 3 q6),(A7 4 q6),(A7 5 q6),(A7 6 q6),(A7 7 q6),(A7 8 q6),(A7 9 q6),(A7 10 q6),(A7 11 q6),(A7 12 q6),(A7 13 q6),d8])) (ob (A8 .add b (iI 1)) fun d9=>KI R a d9 s6))) (ob (M5 v2.1 1) fun c10 =>
 ob (X5 c10 1) fun d11=>ob (R.p QN [d11]) fun d12=>ob (I9 0 d12) fun d13=>ob (I9 1 d12) fun d14=>og (C9 9 d13) <| og (I6 b) <| some (.agg [(iI 1),(A7 0 d13),(A7 1 d13),(A7 2 d13),(A7 3 d13),(A7 4 d13),(A7 5 d13),(A7 6 d13),(A7 7 d13),(A7 8 d13),(iI 0),(.bool false),(iI 0),(iI 0),b]))):=I5 [5,10]
theorem Vg:X_ R a b c d e f g h o p q r t u v w x y z A B C D E F G H I J K L M N O P Q S T U V W X Y Z a1 a2 a3 a4 a5 a6 a7 a8 a9 a10 a11 a12 a13 a14 =
 (ob (A8 .neq Z (iI 0)) fun d1=>D7 d1 (ob (A8 .add c (iI 1)) fun d2=>og (I6 d2) <| some (.agg [Z,a1,a2,a3,a4,a5,a6,a7,a8,a9,a10,a11,a12,a13,d2])) (ob (A8 .add c (iI 1)) fun d3=>Qv R a b d3 E F G H I J K L M N O P Q S T U V W X Y)):=E8 [5,10]
theorem xW:(run cfg).p LC [a,b]=A3s (run cfg) a b:=N7 Tryz.func10
def A04:=eP Tryz.f11 dD R [] (F7 Tryz.f11 [] [])
def qR:=eP Tryz.f11 dD R (pb 63) (ms 75 [] [] [(1,bx a 20),(2,bx b 20),(3,bx c 15),(5,bx d 15),(6,bx e 15)] [])
theorem A8x:A04 R =
 (ob (R.p XI [(iI 5)]) fun d1=>ob (R.p TJ [(iI 1),(iI 5),(iI 1),d1]) fun d2=>og (C9 20 d2) <| ob (R.p TJ [(iI 5),(iI 1),(iI 2),(F6 d2)]) fun d3=>ob (R.p QM [d3]) fun d4=>ob (I9 0 d4) fun d5=>ob (I9 1 d4) fun d6=>og (C9 20 d5) <| og (C9 15 d6) <| ob (R.p TJ [(iI 5),(iI 2),(iI 3),(F6 d2)]) fun d7=>ob (R.p QM [d7]) fun d8=>ob (I9 0 d8) fun d9=>ob (I9 1 d8) fun d10=>og (C9 20 d9) <| og (C9 15 d10) <| ob (R.p XI [(iI 5)]) fun d11=>ob (R.p XI [(iI 7)]) fun d12=>og (C9 20 d11) <| og (C9 20 d12) <| ob (R.p LC [(.agg ((iI 15)::(Nb ((iI 0)::(.str ⟨#[]⟩)::(iI 2)::(Qs [(.list 20 [d11,d12])]))))),(iI 10)]) fun d13=>og (C9 15 d13) <| qR R d2 d5 d6 d10 d13):=E8 [5]
theorem A5F:qR R a b c d e =
 (ob (R.p Nf [(F6 a)]) fun d1=>I1 d1 (ob (R.p XI [(iI 5)]) fun d2=>ob (R.p TJ [(iI 1),(iI 1),(iI 1),d2]) fun d3=>ob (R.p Nf [d3]) fun d4=>ob (O6 .not d4) fun d5=>I1 d5 (ob (A8 .eql (A7 0 b) (iI 2)) fun d6=>I1 d6 (ob (A8 .eql (A7 5 b) (iI 5)) fun d7=>I1 d7 (ob (A8 .eql (A7 0 c) (iI 0)) fun d8=>I1 d8 (ob (A8 .eql (A7 0 d) (iI 2)) fun d9=>I1 d9 (ob (A8 .eql (A7 10 d) (iI 3)) fun d10=>I1 d10 (ob (A8 .eql (A7 0 e) (iI 1)) fun d11=>I1 d11 (ob (A8 .eql (A7 2 e) (.int .i64 (-2))) fun d12=>I1 d12 (ob (A8 .eql (A7 14 e) (iI 2)) fun d13=>some d13) sF none) sF none) sF none) sF none) sF none) sF none) sF none) sF none) sF none):=E8 [5]
theorem A7p:(run cfg).p QP []=A04 (run cfg):=N7 Tryz.func11
def vK:=eP Tryz.f12 uD R [] (F7 Tryz.f12 [(a, .val)] [])
theorem qw:vK R a =
 (og (C9 20 a) <| ob (R.p Ip [(F6 a)]) fun d1=>I1 d1 (ob (R.p Cf [(F6 a)]) fun d2=>some d2) sF none):=E8 []
theorem lU:(run cfg).p Nf [a]=vK (run cfg) a:=N7 Tryz.func12
def A0S:=eP Tryz.f13 yO R [] (F7 Tryz.f13 [(a, .val)] [])
theorem wW:A0S R a =
 (og (C9 20 a) <| ob (R.p Ip [(F6 a)]) fun d1=>ob (O6 .not d1) fun d2=>D7 d2 (some (.F3 [(.agg ((iI 0)::(Cw []))),(.agg ((iI 6)::(Bh [(iI 0)])))])) (ob (R.p Cf [(F6 a)]) fun d3=>D7 d3 (some (.F3 [(F6 a),(.agg ((iI 1)::(Bh [(iI 0)])))])) (ob (R.p Bz [(F6 a)]) fun d4=>ob (I9 0 d4) fun d5=>ob (I9 1 d4) fun d6=>og (C9 20 d5) <| og (C9 15 d6) <| some (.F3 [(F6 d5),(U8 d6)])))):=E8 []
theorem sQ:(run cfg).p QM [a]=A0S (run cfg) a:=N7 Tryz.func13
end
end Go.Su

/-
 Equations of the program's functions: by program.
-/
namespace Go.Su
set_option maxRecDepth 100000
noncomputable section
open Go.Proofs
variable (R:O4) (i j k l m n:Nat) (a b c d e f g h o p q r t u v w x y z A B C D E F G H I J K L M N O P Q S T U V W X Y Z a1 a2 a3 a4 a5 a6 a7 a8 a9 a10 a11 a12 a13 a14 a15 a16 a17 a18 a19 a20 a21 a22 a23 a24 a25 a26 a27 a28 a29 a30 a31 a32 a33 a34 a35 a36 a37 a38 a39 a40 a41 a42 a43 a44 a45 a46 a47 a48 a49 a50 a51 a52 a53 a54 a55 a56 a57 a58 a59:DV) (s:List D8)
def af:=eP Tryz.f14 ZI R [] (F7 Tryz.f14 [(a, .val),(b, .val)] [])
theorem Y_:af R a b =
 (og (C9 15 a) <| og (C9 15 b) <| ob (A8 .eql (A7 0 a) (A7 0 b)) fun d1=>I1 d1 (ob (R.p ZZ [(.agg [(A7 1 a),(A7 2 a),(A7 3 a),(A7 4 a),(A7 5 a),(A7 6 a),(A7 7 a),(A7 8 a),(A7 9 a)]),(.agg [(A7 1 b),(A7 2 b),(A7 3 b),(A7 4 b),(A7 5 b),(A7 6 b),(A7 7 b),(A7 8 b),(A7 9 b)])]) fun d2=>I1 d2 (ob (A8 .eql (A7 10 a) (A7 10 b)) fun d3=>I1 d3 (ob (jF (A7 11 a) (A7 11 b)) fun b4=>I1 (.bool b4) (ob (Vd [.int, .int] (.agg [(A7 12 a),(A7 13 a)]) (.agg [(A7 12 b),(A7 13 b)])) fun b5=>some (.bool b5)) sF none) sF none) sF none) sF none):=E8 []
theorem Xa:(run cfg).p IG [a,b]=af (run cfg) a b:=N7 Tryz.func14
def A03:=eP Tryz.f21 OE R [] (F7 Tryz.f21 [(a, .val),(b, .val)] [])
def KL:=hP Tryz.f21 OE R (pb 122) (ms 99 [(1,a),(5,b)] [] [(2,bx c 20)] [])
def GJ:=hP Tryz.f21 OE R (pb 250) (ms 99 [(1,a),(6,b)] [] [(2,bx c 20)] [])
def GK:=hP Tryz.f21 OE R (pb 506) (ms 99 [(1,a),(7,b)] [] [(2,bx c 20)] [])
theorem BF:A03 R a b =
 (og (C9 20 a) <| ob (A8 .add b (iI 1)) fun d1=>ob (dLen (A7 10 a)) fun d2=>ob (A8 .add d1 d2) fun d3=>ob (DC (A7 6 a)) fun d4=>ob (A8 .gtr d4 (iI 300)) fun d5=>I1 d5 (some (iI 501)) (ob (DC (A7 3 a)) fun d6=>ob (A8 .gtr d6 (iI 300)) fun d7=>I1 d7 (some (iI 501)) (ob (DC (A7 4 a)) fun d8=>ob (A8 .gtr d8 (iI 300)) fun d9=>I1 d9 (some (iI 501)) (ob (R.p MU [(.agg [(A7 11 a),(A7 12 a),(A7 13 a)])]) fun d10=>ob (O6 .not d10) fun d11=>I1 d11 (some (iI 501)) (ob (R.p MU [(.agg [(A7 14 a),(A7 15 a),(A7 16 a)])]) fun d12=>ob (O6 .not d12) fun d13=>D7 d13 (some (iI 501)) (KL R d3 (iI 0) a)) none) none) none) none):=E8 []
theorem NQ:KL R a b c =
 (ob (dLen (A7 17 c)) fun d1=>ob (A8 .lss b d1) fun d2=>I1 d2 (ob (A8 .leq a (iI 500)) fun d3=>D7 d3 (ob (A8 .add a (iI 1)) fun d4=>ob (F5 3 (A7 17 c) b) fun d5=>ob (R.p MU [(V9 d5)]) fun d6=>ob (O6 .not d6) fun d7=>D7 d7 (some (iI 501)) (ob (A8 .add b (iI 1)) fun d8=>KL R d4 d8 c)) (GJ R a (iI 0) c)) (GJ R a (iI 0) c) none):=I5 []
theorem Ld:GJ R a b c =
 (ob (dLen (A7 18 c)) fun d1=>ob (A8 .lss b d1) fun d2=>I1 d2 (ob (A8 .leq a (iI 500)) fun d3=>D7 d3 (ob (F5 7 (A7 18 c) b) fun d4=>ob (R.p Og [(IQ d4),a]) fun d5=>ob (A8 .add b (iI 1)) fun d6=>GJ R d5 d6 c) (GK R a (iI 0) c)) (GK R a (iI 0) c) none):=I5 []
theorem Le:GK R a b c =
 (ob (dLen (A7 19 c)) fun d1=>ob (A8 .lss b d1) fun d2=>I1 d2 (ob (A8 .leq a (iI 500)) fun d3=>D7 d3 (ob (F5 20 (A7 19 c) b) fun d4=>ob (R.p MV [(F6 d4),a]) fun d5=>ob (A8 .add b (iI 1)) fun d6=>GK R d5 d6 c) (some a)) (some a) none):=I5 []
theorem Ar:(run cfg).p MV [a,b]=A03 (run cfg) a b:=N7 Tryz.func21
def A6i:=eP Tryz.f22 Uc R [] (F7 Tryz.f22 [(a, .val)] [])
def Tu:=hP Tryz.f22 Uc R (pb 122) (ms 168 [(5,a)] [] [(1,bx b 20)] [])
def RI:=hP Tryz.f22 Uc R (pb 250) (ms 168 [(6,a)] [] [(1,bx b 20)] [])
def RJ:=hP Tryz.f22 Uc R (pb 506) (ms 168 [(7,a)] [] [(1,bx b 20)] [])
theorem A4o:A6i R a =
 (og (C9 20 a) <| ob (R.p nV [(F6 a)]) fun d1=>ob (I9 0 d1) fun d2=>ob (I9 1 d1) fun d3=>og (C9 20 d2) <| ob (dLen (A7 19 a)) fun d4=>ob (A8 .neq d3 d4) fun d5=>I1 d5 sF (ob (R.p ZW [(F6 d2),(F6 a)]) fun d6=>ob (O6 .not d6) fun d7=>D7 d7 sF (Tu R (iI 0) a)) none):=E8 []
theorem YS:Tu R a b =
 (ob (dLen (A7 17 b)) fun d1=>ob (A8 .lss a d1) fun d2=>D7 d2 (ob (F5 3 (A7 17 b) a) fun d3=>ob (R.p ET [(V9 d3)]) fun d4=>ob (O6 .not d4) fun d5=>D7 d5 sF (ob (A8 .add a (iI 1)) fun d6=>Tu R d6 b)) (RI R (iI 0) b)):=I5 []
theorem Vs:RI R a b =
 (ob (dLen (A7 10 b)) fun d1=>ob (A8 .lss a d1) fun d2=>D7 d2 (ob (F5 1 (A7 10 b) a) fun d3=>og (K6 d3) <| ob (A8 .lss d3 (iI 0)) fun d4=>I1 d4 sF (ob (F5 1 (A7 10 b) a) fun d5=>og (K6 d5) <| ob (A8 .gtr d5 (iI 1048576)) fun d6=>D7 d6 sF (ob (A8 .add a (iI 1)) fun d7=>RI R d7 b)) none) (RJ R (iI 0) b)):=I5 []
theorem Vt:RJ R a b =
 (ob (dLen (A7 18 b)) fun d1=>ob (A8 .lss a d1) fun d2=>D7 d2 (ob (F5 7 (A7 18 b) a) fun d3=>ob (R.p VS [(IQ d3)]) fun d4=>ob (O6 .not d4) fun d5=>D7 d5 sF (ob (A8 .add a (iI 1)) fun d6=>RJ R d6 b)) (ob (A8 .eql (A7 0 b) (iI 1)) fun d7=>D7 d7 (ob (R.p Gv [(A7 3 b)]) fun d8=>some d8) (ob (A8 .eql (A7 0 b) (iI 11)) fun d9=>D7 d9 (ob (R.p Gv [(A7 3 b)]) fun d10=>some d10) (ob (A8 .eql (A7 0 b) (iI 3)) fun d11=>D7 d11 (ob (A8 .eql (A7 5 b) (iI 0)) fun d12=>I1 d12 sT (ob (A8 .eql (A7 5 b) (iI 1)) fun d13=>some d13) none) (ob (A8 .eql (A7 0 b) (iI 4)) fun d14=>D7 d14 (ob (DC (A7 6 b)) fun d15=>ob (A8 .leq d15 (iI 200)) fun d16=>some d16) (ob (A8 .eql (A7 0 b) (iI 7)) fun d17=>D7 d17 (ob (R.p ET [(.agg [(A7 11 b),(A7 12 b),(A7 13 b)])]) fun d18=>some d18) (ob (A8 .eql (A7 0 b) (iI 9)) fun d19=>D7 d19 (ob (R.p Gv [(A7 3 b)]) fun d20=>I1 d20 (ob (R.p ET [(.agg [(A7 11 b),(A7 12 b),(A7 13 b)])]) fun d21 =>
 some d21) sF none) (ob (A8 .eql (A7 0 b) (iI 12)) fun d22=>D7 d22 (ob (R.p Gv [(A7 3 b)]) fun d23=>I1 d23 (ob (R.p Gv [(A7 4 b)]) fun d24=>I1 d24 (ob (R.p ET [(.agg [(A7 11 b),(A7 12 b),(A7 13 b)])]) fun d25=>I1 d25 (ob (R.p ET [(.agg [(A7 14 b),(A7 15 b),(A7 16 b)])]) fun d26=>some d26) sF none) sF none) sF none) (ob (A8 .eql (A7 0 b) (iI 14)) fun d27=>D7 d27 (ob (dLen (A7 18 b)) fun d28=>ob (A8 .gtr d28 (iI 0)) fun d29=>some d29) (ob (A8 .eql (A7 0 b) (iI 15)) fun d30=>D7 d30 (ob (A8 .geq (A7 7 b) (iI 1)) fun d31=>I1 d31 (ob (A8 .leq (A7 7 b) (iI 7)) fun d32=>some d32) sF none) (ob (A8 .eql (A7 0 b) (iI 16)) fun d33=>D7 d33 (ob (A8 .geq (A7 8 b) (iI 0)) fun d34=>I1 d34 (ob (A8 .leq (A7 8 b) (iI 1048576)) fun d35=>I1 d35 (ob (R.p ET [(.agg [(A7 11 b),(A7 12 b),(A7 13 b)])]) fun d36=>I1 d36 (ob (R.p ET [(.agg [(A7 14 b),(A7 15 b),(A7 16 b)])]) fun d37 =>
 some d37) sF none) sF none) sF none) sT))))))))))):=I5 []
theorem A2a:(run cfg).p vI [a]=A6i (run cfg) a:=N7 Tryz.func22
def A3N:=eP Tryz.f23 Wu R [] (F7 Tryz.f23 [(a, .val),(b, .val),(c, .val)] [])
def Nn:=eP Tryz.f23 Wu R (pb 7) (ms 44 [(1,a),(2,b)] [] [(3,bx c 20)] [])
def RH:=hP Tryz.f23 Wu R (pb 58) (ms 44 [(1,a),(2,b),(7,c)] [] [(3,bx d 20)] [])
theorem A1R:A3N R a b c =
 (og (C9 20 a) <| ob (A8 .eql (A7 0 a) (iI 1)) fun d1=>I1 d1 (ob (R.p Sb [b,(A7 3 a)]) fun d2=>ob (O6 .not d2) fun d3=>D7 d3 (ob (R.p nU [c,(A7 3 a)]) fun d4=>Nn R b d4 a) (Nn R b c a)) (Nn R b c a) none):=E8 [3]
theorem rV:Nn R a b c =
 (RH R a b (iI 0) c):=E8 [3]
theorem Vr:RH R a b c d =
 (ob (dLen (A7 19 d)) fun d1=>ob (A8 .lss c d1) fun d2=>D7 d2 (ob (F5 20 (A7 19 d) c) fun d3=>ob (Be 1 (.list 1 []) a) fun d4=>ob (R.p QR [(F6 d),c]) fun d5=>ob (Be 1 d4 d5) fun d6=>ob (R.p ZX [(F6 d3),d6,b]) fun d7=>ob (A8 .add c (iI 1)) fun d8=>RH R a d7 d8 d) (some b)):=I5 [3]
theorem yB:(run cfg).p ZX [a,b,c]=A3N (run cfg) a b c:=N7 Tryz.func23
def A1h:=eP Tryz.f24 yh R [] (F7 Tryz.f24 [(a, .val)] [])
theorem xK:A1h R a =
 (og (C9 20 a) <| ob (R.p JB [(F6 a),(iI 0)]) fun d1=>ob (A8 .leq d1 (iI 1200)) fun d2=>I1 d2 (ob (R.p II [(F6 a),(iI 0)]) fun d3=>ob (A8 .leq d3 (iI 20000)) fun d4=>some d4) sF none):=E8 []
theorem tY:(run cfg).p We [a]=A1h (run cfg) a:=N7 Tryz.func24
def qY:=eP Tryz.f25 PL R [] (F7 Tryz.f25 [(a, .val)] [])
def LQ:=eP Tryz.f25 PL R (pb 430) (ms 63 [] [] [(1,bx a 20)] [])
def LU:=eP Tryz.f25 PL R (pb 3453) (ms 63 [(3,a)] [] [(1,bx b 20)] [])
theorem lI:qY R a =
 (og (C9 20 a) <| ob (A8 .eql (A7 0 a) (iI 2)) fun d1=>D7 d1 sT (ob (A8 .eql (A7 0 a) (iI 3)) fun d2=>D7 d2 sT (ob (A8 .eql (A7 0 a) (iI 4)) fun d3=>D7 d3 sT (ob (A8 .eql (A7 0 a) (iI 5)) fun d4=>D7 d4 sT (ob (A8 .eql (A7 0 a) (iI 7)) fun d5=>D7 d5 sT (ob (A8 .eql (A7 0 a) (iI 9)) fun d6=>D7 d6 sT (ob (A8 .eql (A7 0 a) (iI 6)) fun d7=>D7 d7 (LQ R a) (ob (A8 .eql (A7 0 a) (iI 8)) fun d8=>D7 d8 (LQ R a) (ob (A8 .eql (A7 0 a) (iI 16)) fun d9=>D7 d9 (ob (A8 .eql (A7 11 a) (A7 14 a)) fun d10=>I1 d10 (ob (dLen (A7 13 a)) fun d11=>ob (A8 .gtr d11 (iI 0)) fun d12=>LU R d12 a) (LU R (.bool false) a) none) sF))))))))):=E8 [11,14]
theorem Yy:LQ R a =
 (ob (F5 20 (A7 19 a) (iI 0)) fun d1=>ob (R.p Dm [(F6 d1)]) fun d2=>I1 d2 (ob (F5 20 (A7 19 a) (iI 1)) fun d3=>ob (R.p Dm [(F6 d3)]) fun d4=>some d4) sF none):=E8 [11,14]
theorem Yz:LU R a b =
 (I1 a (ob (F5 20 (A7 19 b) (iI 0)) fun d1=>ob (R.p Dm [(F6 d1)]) fun d2=>some d2) (ob (A8 .eql (A7 14 b) (iI 5)) fun d3=>I1 d3 (ob (R.p aR [(.agg [(A7 11 b),(A7 12 b),(A7 13 b)])]) fun d4=>I1 d4 (ob (F5 20 (A7 19 b) (iI 0)) fun d5=>ob (R.p Dm [(F6 d5)]) fun d6=>some d6) sF none) sF none) none):=E8 [11,14]
theorem gZ:(run cfg).p Dm [a]=qY (run cfg) a:=N7 Tryz.func25
end
end Go.Su

/-
 Equations of the program's functions: by program.
-/
namespace Go.Su
set_option maxRecDepth 100000
noncomputable section
open Go.Proofs
variable (R:O4) (i j k l m n:Nat) (a b c d e f g h o p q r t u v w x y z A B C D E F G H I J K L M N O P Q S T U V W X Y Z a1 a2 a3 a4 a5 a6 a7 a8 a9 a10 a11 a12 a13 a14 a15 a16 a17 a18 a19 a20 a21 a22 a23 a24 a25 a26 a27 a28 a29 a30 a31 a32 a33 a34 a35 a36 a37 a38 a39 a40 a41 a42 a43 a44 a45 a46 a47 a48 a49 a50 a51 a52 a53 a54 a55 a56 a57 a58 a59:DV) (s:List D8)
def A3T:=eP Tryz.f26 Wv R [] (F7 Tryz.f26 [(a, .val)] [])
def qd:=eP Tryz.f26 Wv R (pb 943) (ms 169 [(40,a)] [] [(1,bx b 20),(2,some Ja),(3,some BV)] [])
def RQ:=eP Tryz.f26 Wv R (pb 15099) (ms 169 [] [] [(1,bx a 20),(2,some Ja),(3,some BV),(8,bv [b,c,d,e,f,g,h,o,p,q,r,t,u,v,w,x,y,z,A,B])] [])
theorem Ws:A3T R a =
 (og (C9 20 a) <| ob (R.p vJ [(F6 a)]) fun d1=>ob (A8 .geq d1 (iI 0)) fun d2=>D7 d2 (ob (F5 20 (A7 19 a) d1) fun d3=>ob (R.p EU [(F6 d3)]) fun d4=>ob (I9 0 d4) fun d5=>ob (I9 1 d4) fun d6=>og (C9 20 d5) <| og (C9 15 d6) <| ob (A8 .neq (A7 0 d6) (iI 0)) fun d7=>D7 d7 (some (.F3 [(.agg ((iI 0)::(Cw []))),(U8 d6)])) (ob (Jz 20 (.list 20 []) (A7 19 a)) fun p8=>ob (Am 0 (p8.1.length+p8.2.length) d1) fun n9=>ob (Iz (20,p8.1,p8.2) n9 (F6 d5)) fun x10=>ob (GU [x10] 0) fun q11=>ob (FQ q11 20 (p8.1.length+p8.2.length)) fun d12=>some (.F3 [(.agg [(A7 0 a),(A7 1 a),(A7 2 a),(A7 3 a),(A7 4 a),(A7 5 a),(A7 6 a),(A7 7 a),(A7 8 a),(A7 9 a),(A7 10 a),(A7 11 a),(A7 12 a),(A7 13 a),(A7 14 a),(A7 15 a),(A7 16 a),(A7 17 a),(A7 18 a),d12]),(U8 d6)]))) (ob (A8 .eql (A7 0 a) (iI 10)) fun d13 =>
 D7 d13 (ob (F5 20 (A7 19 a) (iI 0)) fun d14=>ob (F5 20 (A7 19 a) (iI 1)) fun d15=>ob (R.p iy [(F6 d14),(F6 d15)]) fun d16=>ob (I9 0 d16) fun d17=>ob (I9 1 d16) fun d18=>og (C9 20 d17) <| og (C9 15 d18) <| some (.F3 [(F6 d17),(U8 d18)])) (ob (A8 .eql (A7 0 a) (iI 11)) fun d19=>D7 d19 (ob (F5 20 (A7 19 a) (iI 1)) fun d20=>ob (F5 20 (A7 19 a) (iI 0)) fun d21=>ob (R.p Sc [(F6 d20),(A7 3 a),(A7 10 a),(F6 d21)]) fun d22=>ob (I9 0 d22) fun d23=>ob (I9 1 d22) fun d24=>og (C9 20 d23) <| og (C9 15 d24) <| some (.F3 [(F6 d23),(U8 d24)])) (qd R (A7 0 a) a)))):=E8 [15,19]
theorem Vw:qd R a b =
 (ob (A8 .eql a (iI 12)) fun d1=>D7 d1 (ob (F5 20 (A7 19 b) (iI 0)) fun d2=>ob (F5 20 (A7 19 b) (iI 0)) fun d3=>og (I6 (A7 3 b)) <| og (I6 (A7 4 b)) <| ob (A8 .eql (A7 3 b) (A7 4 b)) fun d4=>D7 d4 (ob (F5 20 (A7 19 b) (iI 0)) fun d5=>RQ R b (A7 0 d5) (A7 1 d5) (A7 2 d5) (A7 3 d5) (A7 4 d5) (A7 5 d5) (A7 6 d5) (A7 7 d5) (A7 8 d5) (A7 9 d5) (A7 10 d5) (A7 11 d5) (A7 12 d5) (A7 13 d5) (A7 14 d5) (A7 15 d5) (A7 16 d5) (A7 17 d5) (A7 18 d5) (A7 19 d5)) (RQ R b (iI 12) (iI 0) (iI 0) (A7 3 b) (A7 4 b) (iI 0) (.str ⟨#[]⟩) (iI 0) (iI 0) (.bool false) (.list 1 []) (A7 11 b) (A7 12 b) (A7 13 b) (A7 14 b) (A7 15 b) (A7 16 b) (.list 3 []) (.list 7 []) (.list 20 [(F6 d2),(F6 d3)]))) (ob (A8 .eql a (iI 13)) fun d6=>D7 d6 (ob (F5 20 (A7 19 b) (iI 0)) fun d7=>ob (A8 .eql (A7 0 d7) (iI 3)) fun d8=>D7 d8 (ob (F5 20 (A7 19 b) (iI 0)) fun d9=>ob (A8 .sub (iI 2) (A7 5 d9)) fun d10=>ob (F5 20 (A7 19 b) d10) fun d11 =>
 some (.F3 [(F6 d11),(.agg ((iI 0)::(Bh [(iI 0)])))])) (ob (R.p Y9 []) fun d12=>og (C9 15 d12) <| some (.F3 [(.agg ((iI 0)::(Cw []))),(U8 d12)]))) (ob (A8 .eql a (iI 15)) fun d13=>D7 d13 (ob (F5 20 (A7 19 b) (iI 0)) fun d14=>ob (F5 20 (A7 19 b) (iI 1)) fun d15=>ob (R.p Xy [(F6 b),(F6 d14),(F6 d15)]) fun d16=>ob (I9 0 d16) fun d17=>ob (I9 1 d16) fun d18=>og (C9 20 d17) <| og (C9 15 d18) <| some (.F3 [(F6 d17),(U8 d18)])) (ob (A8 .eql a (iI 14)) fun d19=>D7 d19 (ob (R.p aQ [(F6 b)]) fun d20=>ob (I9 0 d20) fun d21=>ob (I9 1 d20) fun d22=>og (C9 20 d21) <| og (C9 15 d22) <| some (.F3 [(F6 d21),(U8 d22)])) (ob (A8 .eql a (iI 16)) fun d23 =>
 D7 d23 (ob (F5 20 (A7 19 b) (iI 0)) fun d24=>ob (R.p aS [(F6 b),(F6 d24)]) fun d25=>ob (I9 0 d25) fun d26=>ob (I9 1 d25) fun d27=>og (C9 20 d26) <| og (C9 15 d27) <| some (.F3 [(F6 d26),(U8 d27)])) (ob (R.p Y9 []) fun d28=>og (C9 15 d28) <| some (.F3 [(.agg ((iI 0)::(Cw []))),(U8 d28)]))))))):=E8 [15,19]
theorem lL:RQ R a b c d e f g h o p q r t u v w x y z A B =
 (ob (F5 20 (A7 19 a) (iI 1)) fun d1=>og (I6 (A7 4 a)) <| ob (R.p Sc [(F6 d1),(A7 3 a),(A7 10 a),(.agg ((iI 9)::(iI 0)::(iI 0)::(A7 4 a)::(.str ⟨#[]⟩)::(Xu (A0m ((A7 11 a)::(A7 12 a)::(A7 13 a)::(Kt [(.list 3 []),(.list 7 []),(.list 20 [(.agg [b,c,d,e,f,g,h,o,p,q,r,t,u,v,w,x,y,z,A,B])])]))))))]) fun d2=>ob (I9 0 d2) fun d3=>ob (I9 1 d2) fun d4=>og (C9 20 d3) <| og (C9 15 d4) <| some (.F3 [(F6 d3),(U8 d4)])):=E8 [15,19]
theorem UY:(run cfg).p EU [a]=A3T (run cfg) a:=N7 Tryz.func26
def qQ:=eP Tryz.f27 mV R [] (F7 Tryz.f27 [(a, .val)] [])
theorem kv:qQ R a =
 (og (C9 20 a) <| ob (R.p aU [(F6 a)]) fun d1=>ob (A8 .eql d1 (iI 0)) fun d2=>I1 d2 (ob (R.p Wh [(F6 a)]) fun d3=>ob (dLen d3) fun d4=>ob (A8 .eql d4 (iI 0)) fun d5=>some d5) sF none):=E8 []
theorem gU:(run cfg).p Ip [a]=qQ (run cfg) a:=N7 Tryz.func27
def vQ:=eP Tryz.f28 YX R [] (F7 Tryz.f28 [(a, .val)] [])
def NA:=eP Tryz.f28 YX R (pb 430) (ms 38 [] [] [(1,bx a 20)] [])
theorem rH:vQ R a =
 (og (C9 20 a) <| ob (A8 .eql (A7 0 a) (iI 2)) fun d1=>D7 d1 sT (ob (A8 .eql (A7 0 a) (iI 3)) fun d2=>D7 d2 sT (ob (A8 .eql (A7 0 a) (iI 4)) fun d3=>D7 d3 sT (ob (A8 .eql (A7 0 a) (iI 5)) fun d4=>D7 d4 sT (ob (A8 .eql (A7 0 a) (iI 7)) fun d5=>D7 d5 sT (ob (A8 .eql (A7 0 a) (iI 9)) fun d6=>D7 d6 sT (ob (A8 .eql (A7 0 a) (iI 6)) fun d7=>D7 d7 (NA R a) (ob (A8 .eql (A7 0 a) (iI 8)) fun d8=>D7 d8 (NA R a) (ob (A8 .eql (A7 0 a) (iI 16)) fun d9=>D7 d9 (ob (R.p Xv [(F6 a)]) fun d10=>I1 d10 (ob (F5 20 (A7 19 a) (iI 0)) fun d11=>ob (R.p Cf [(F6 d11)]) fun d12=>some d12) sF none) sF))))))))):=E8 [11]
theorem bJ:NA R a =
 (ob (F5 20 (A7 19 a) (iI 0)) fun d1=>ob (R.p Cf [(F6 d1)]) fun d2=>I1 d2 (ob (F5 20 (A7 19 a) (iI 1)) fun d3=>ob (R.p Cf [(F6 d3)]) fun d4=>some d4) sF none):=E8 [11]
theorem lq:(run cfg).p Cf [a]=vQ (run cfg) a:=N7 Tryz.func28
def A0W:=eP Tryz.f29 cO R [] (F7 Tryz.f29 [(a, .val)] [])
def Ol:=hP Tryz.f29 cO R (pb 26) (ms 144 [(10,a),(11,b)] [] [(1,bx c 20),(2,some Ja),(3,some BV)] [])
theorem UD:A0W R a =
 (og (C9 20 a) <| ob (R.p iY [(A7 0 a)]) fun d1=>Ol R d1 (iI 0) a):=E8 []
theorem JM:Ol R a b c =
 (ob (A8 .lss b a) fun d1=>D7 d1 (ob (F5 20 (A7 19 c) b) fun d2=>ob (R.p Cf [(F6 d2)]) fun d3=>D7 d3 (ob (A8 .add b (iI 1)) fun d4=>Ol R a d4 c) (ob (F5 20 (A7 19 c) b) fun d5=>ob (R.p Bz [(F6 d5)]) fun d6=>ob (I9 0 d6) fun d7=>ob (I9 1 d6) fun d8=>og (C9 20 d7) <| og (C9 15 d8) <| ob (A8 .neq (A7 0 d8) (iI 0)) fun d9=>D7 d9 (some (.F3 [(.agg ((iI 0)::(Cw []))),(U8 d8)])) (ob (Wp (A7 19 c)) fun zW=>og (true && zW.1 == 20 && decide (zW.2.length<=lim)) <| ob (Am 0 zW.2.length b) fun n11=>ob (zW.2[n11]?) fun u12=>A9s [ob (U0 [.arr 20 (zW.2.set n11 (F6 d7))] [((A7 0 c), .val),((A7 1 c), .val),((A7 2 c), .val),((A7 3 c), .val),((A7 4 c), .val),((A7 5 c), .val),((A7 6 c), .val),((A7 7 c), .val),((A7 8 c), .val),((A7 9 c), .val),((A7 10 c), .val),((A7 11 c), .val),((A7 12 c), .val),((A7 13 c), .val),((A7 14 c), .val),((A7 15 c), .val),((A7 16 c), .val),((A7 17 c), .val),((A7 18 c), .val),(.undef,(.arr 0 20 0 zW.2.length))]) fun ds =>
 some (.agg ds),ob (U0 [.arr 20 (zW.2.set n11 (F6 d7))] (zz4 [])) fun ds=>some (.agg ds)]))) (ob (A8 .eql (A7 0 c) (iI 10)) fun d13=>D7 d13 (ob (F5 20 (A7 19 c) (iI 0)) fun d14=>ob (F5 20 (A7 19 c) (iI 1)) fun d15=>ob (R.p nO [(F6 d14),(F6 d15)]) fun d16=>ob (I9 0 d16) fun d17=>ob (I9 1 d16) fun d18=>og (C9 20 d17) <| og (C9 15 d18) <| some (.F3 [(F6 d17),(U8 d18)])) (ob (A8 .eql (A7 0 c) (iI 11)) fun d19=>D7 d19 (ob (F5 20 (A7 19 c) (iI 1)) fun d20=>ob (F5 20 (A7 19 c) (iI 0)) fun d21=>ob (R.p Oe [(F6 d20),(A7 3 c),(A7 10 c),(F6 d21)]) fun d22=>ob (I9 0 d22) fun d23=>ob (I9 1 d22) fun d24=>og (C9 20 d23) <| og (C9 15 d24) <| some (.F3 [(F6 d23),(U8 d24)])) (ob (A8 .eql (A7 0 c) (iI 12)) fun d25 =>
 D7 d25 (ob (R.p nP [(F6 c)]) fun d26=>ob (I9 0 d26) fun d27=>ob (I9 1 d26) fun d28=>og (C9 20 d27) <| og (C9 15 d28) <| some (.F3 [(F6 d27),(U8 d28)])) (ob (A8 .eql (A7 0 c) (iI 13)) fun d29=>D7 d29 (ob (F5 20 (A7 19 c) (iI 0)) fun d30=>ob (A8 .neq (A7 0 d30) (iI 3)) fun d31=>D7 d31 (ob (R.p Au []) fun d32=>ob (I9 0 d32) fun d33=>ob (I9 1 d32) fun d34=>og (C9 20 d33) <| og (C9 15 d34) <| some (.F3 [(F6 d33),(U8 d34)])) (ob (A8 .eql (A7 5 d30) (iI 1)) fun d35=>D7 d35 (ob (F5 20 (A7 19 c) (iI 1)) fun d36=>some (.F3 [(F6 d36),(.agg ((iI 0)::(Bh [(iI 0)])))])) (ob (F5 20 (A7 19 c) (iI 2)) fun d37=>some (.F3 [(F6 d37),(.agg ((iI 0)::(Bh [(iI 0)])))])))) (ob (A8 .eql (A7 0 c) (iI 15)) fun d38 =>
 D7 d38 (ob (F5 20 (A7 19 c) (iI 0)) fun d39=>ob (F5 20 (A7 19 c) (iI 1)) fun d40=>ob (R.p VR [(F6 c),(F6 d39),(F6 d40)]) fun d41=>ob (I9 0 d41) fun d42=>ob (I9 1 d41) fun d43=>og (C9 20 d42) <| og (C9 15 d43) <| some (.F3 [(F6 d42),(U8 d43)])) (ob (A8 .eql (A7 0 c) (iI 14)) fun d44=>D7 d44 (ob (R.p aN [(F6 c)]) fun d45=>ob (I9 0 d45) fun d46=>ob (I9 1 d45) fun d47=>og (C9 20 d46) <| og (C9 15 d47) <| some (.F3 [(F6 d46),(U8 d47)])) (ob (A8 .eql (A7 0 c) (iI 16)) fun d48=>D7 d48 (ob (F5 20 (A7 19 c) (iI 0)) fun d49=>ob (R.p aM [(F6 c),(F6 d49)]) fun d50=>ob (I9 0 d50) fun d51=>ob (I9 1 d50) fun d52=>og (C9 20 d51) <| og (C9 15 d52) <| some (.F3 [(F6 d51),(U8 d52)])) (ob (R.p Au []) fun d53=>ob (I9 0 d53) fun d54=>ob (I9 1 d53) fun d55=>og (C9 20 d54) <| og (C9 15 d55) <| some (.F3 [(F6 d54),(U8 d55)])))))))))):=I5 []
theorem RY:(run cfg).p Bz [a]=A0W (run cfg) a:=N7 Tryz.func29
end
end Go.Su

/-
 Equations of the program's functions: by program.
-/
namespace Go.Su
set_option maxRecDepth 100000
noncomputable section
open Go.Proofs
variable (R:O4) (i j k l m n:Nat) (a b c d e f g h o p q r t u v w x y z A B C D E F G H I J K L M N O P Q S T U V W X Y Z a1 a2 a3 a4 a5 a6 a7 a8 a9 a10 a11 a12 a13 a14 a15 a16 a17 a18 a19 a20 a21 a22 a23 a24 a25 a26 a27 a28 a29 a30 a31 a32 a33 a34 a35 a36 a37 a38 a39 a40 a41 a42 a43 a44 a45 a46 a47 a48 a49 a50 a51 a52 a53 a54 a55 a56 a57 a58 a59:DV) (s:List D8)
def VH:=eR Tryz.f30 Ce Ec R [] (F7 Tryz.f30 [(pt i)] s)
def CB:=eR Tryz.f30 Ce Ec R (pb 2026) (ms 101 [] [(0,(.ptr i 0))] [(2,some BV),(5,bx a 20),(6,bv ((iI 0)::b::c::(zz9 [])))] s)
def Ay:=eR Tryz.f30 Ce Ec R (pb 127) (ms 101 [] [(0,(.ptr i 0))] [(2,some BV),(6,bv (a::b::c::(zz9 [])))] s)
def EC:=eR Tryz.f30 Ce Ec R (pb 129791) (ms 101 [(4,a)] [(0,(.ptr i 0))] [(2,some BV),(5,bx b 20),(6,bv (c::d::e::(zz9 [])))] s)
theorem UC:VH R i s =
 (ob (M5 s i) fun c1=>ob (Rh s i 0 c1 20) fun v2=>ob (A3n v2.2.2.2) fun d3=>ob (A8 .sub d3 (iI 1)) fun d4=>ob (M5 v2.1 i) fun c5=>ob (Rh v2.1 i 0 c5 20) fun v6=>ob (Am 0 v6.2.2.2 d4) fun n7=>ob (Dt v6.1 v6.2.1 v6.2.2.1) fun a8=>ob (a8.2[n7]?) fun d9=>og (a8.1 == 20) <| ob (R.r Ng [((F6 d9), .val)] v6.1) fun Il=>ob (I9 0 (.F3 Il.1)) fun d11=>ob (I9 1 (.F3 Il.1)) fun d12=>og (C9 20 d12) <| ob (M5 Il.2 i) fun c13=>ob (Rh Il.2 i 0 c13 20) fun v14=>ob (bnd v14.2.2.2 (some d4)) fun n15=>if n15<=v14.2.2.2 then (ob (M5 v14.1 i) fun c16=>ob (c16[0]?) fun u17=>og (I6 (A7 5 d12)) <| og (I6 (A7 6 d12)) <| ob (A8 .eql (A7 0 d12) (iI 2)) fun d18=>D7 d18 (CB R i d12 (A7 5 d12) (A7 6 d12) (v14.1.set i (D8.box (c16.set 0 (.undef,(.U1 v14.2.1 v14.2.2.1 20 n15)))))) (ob (A8 .eql (A7 0 d12) (iI 3)) fun d19=>D7 d19 (CB R i d12 (A7 5 d12) (A7 6 d12) (v14.1.set i (D8.box (c16.set 0 (.undef,(.U1 v14.2.1 v14.2.2.1 20 n15)))))) (ob (A8 .eql (A7 0 d12) (iI 4)) fun d20=>D7 d20 (CB R i d12 (A7 5 d12) (A7 6 d12) (v14.1.set i (D8.box (c16.set 0 (.undef,(.U1 v14.2.1 v14.2.2.1 20 n15)))))) (ob (A8 .eql (A7 0 d12) (iI 5)) fun d21 =>
 D7 d21 (CB R i d12 (A7 5 d12) (A7 6 d12) (v14.1.set i (D8.box (c16.set 0 (.undef,(.U1 v14.2.1 v14.2.2.1 20 n15)))))) (ob (A8 .eql (A7 0 d12) (iI 7)) fun d22=>D7 d22 (Ay R i (iI 6) (A7 5 d12) (A7 6 d12) (v14.1.set i (D8.box (c16.set 0 (.undef,(.U1 v14.2.1 v14.2.2.1 20 n15)))))) (ob (A8 .eql (A7 0 d12) (iI 9)) fun d23=>D7 d23 (Ay R i (iI 8) (A7 5 d12) (A7 6 d12) (v14.1.set i (D8.box (c16.set 0 (.undef,(.U1 v14.2.1 v14.2.2.1 20 n15)))))) (ob (A8 .eql (A7 0 d12) (iI 8)) fun d24=>D7 d24 (EC R i d11 d12 (iI 7) (A7 5 d12) (A7 6 d12) (v14.1.set i (D8.box (c16.set 0 (.undef,(.U1 v14.2.1 v14.2.2.1 20 n15)))))) (EC R i d11 d12 (iI 5) (A7 5 d12) (A7 6 d12) (v14.1.set i (D8.box (c16.set 0 (.undef,(.U1 v14.2.1 v14.2.2.1 20 n15))))))))))))) else none):=E8 [9,17,22]
theorem Pn:CB R i a b c s =
 (ob (A8 .sub (A7 0 a) (iI 2)) fun d1=>ob (A8 .add d1 (iI 1)) fun d2=>og (I6 d2) <| Ay R i d2 b c s):=E8 [9,17,22]
theorem Po:Ay R i a b c s =
 (ob (M5 s i) fun c1=>ob (FP c1 1) fun d2=>ob (dLen d2) fun d3=>ob (Jz 9 d2 (.list 9 [(.agg (uw []))])) fun p4=>ob (Am 0 (p4.1.length+p4.2.length) d3) fun n5=>ob (GU ((s.set i (D8.box (c1.set 1 (d2, .val))))++[D8.opn 9 p4.1 p4.2]) ((s.set i (D8.box (c1.set 1 (d2, .val))))).length) fun q6=>og (q6.1 == 9 && true) <| ob (Iz q6 n5 (.agg (a::b::c::(zz9 [])))) fun x7=>ob (M5 (((s.set i (D8.box (c1.set 1 (d2, .val))))++[D8.opn 9 p4.1 p4.2]).set ((s.set i (D8.box (c1.set 1 (d2, .val))))).length (x7)) i) fun c8=>ob (c8[1]?) fun u9=>ob (M5 ((((s.set i (D8.box (c1.set 1 (d2, .val))))++[D8.opn 9 p4.1 p4.2]).set ((s.set i (D8.box (c1.set 1 (d2, .val))))).length (x7)).set i (D8.box (c8.set 1 (.undef,(.arr ((s.set i (D8.box (c1.set 1 (d2, .val))))).length 9 0 (p4.1.length+p4.2.length)))))) i) fun c10=>ob (Sj c10 1) fun a11=>ob (GU ((((s.set i (D8.box (c1.set 1 (d2, .val))))++[D8.opn 9 p4.1 p4.2]).set ((s.set i (D8.box (c1.set 1 (d2, .val))))).length (x7)).set i (D8.box (c8.set 1 (.undef,(.arr ((s.set i (D8.box (c1.set 1 (d2, .val))))).length 9 0 (p4.1.length+p4.2.length)))))) a11.1) fun q12 =>
 ob (FQ q12 a11.2.1 a11.2.2) fun d13=>some ([(.agg ((iI 0)::(Bh [(iI 0)])))],((((((s.set i (D8.box (c1.set 1 (d2, .val))))++[D8.opn 9 p4.1 p4.2]).set ((s.set i (D8.box (c1.set 1 (d2, .val))))).length (x7)).set i (D8.box (c8.set 1 (.undef,(.arr ((s.set i (D8.box (c1.set 1 (d2, .val))))).length 9 0 (p4.1.length+p4.2.length)))))).set i (D8.box (c10.set 1 (d13, .own)))).set a11.1 (.arr 1 [])))):=E8 [9,17,22]
theorem QZ:EC R i a b c d e s =
 (ob (R.p Nh [a,(F6 b)]) fun d1=>ob (I9 0 d1) fun d2=>ob (I9 1 d1) fun d3=>og (C9 40 d2) <| og (C9 15 d3) <| ob (A8 .neq (A7 0 d3) (iI 0)) fun d4=>D7 d4 (some ([(U8 d3)],s)) (ob (M5 s i) fun c5=>ob (Rh s i 0 c5 20) fun v6=>ob (A3n v6.2.2.2) fun d7=>ob (Dt v6.1 v6.2.1 v6.2.2.1) fun a8=>og (a8.1 == 20 && true && decide (v6.2.2.2<=a8.2.length)) <| ob (Jz 20 (.list 20 (a8.2.take v6.2.2.2)) (.list 20 [(.agg ((iI 0)::(Cw []))),(.agg ((iI 0)::(Cw [])))])) fun p9=>ob (Am 0 ((p9.1.length+p9.2.length)) d7) fun n10=>ob (Dt (v6.1.set v6.2.1 (D8.U1 (v6.2.2.1+1) 20 (p9.1++p9.2))) v6.2.1 ((v6.2.2.1+1))) fun a11 =>
 ob (a11.2[n10]?) fun d12=>og (a11.1 == 20) <| ob (IC 20 0 d12 [((A7 20 d2), .val),((A7 21 d2), .val),((A7 22 d2), .val),((A7 23 d2), .val),((A7 24 d2), .val),((A7 25 d2), .val),((A7 26 d2), .val),((A7 27 d2), .val),((A7 28 d2), .val),((A7 29 d2), .val),((A7 30 d2), .val),((A7 31 d2), .val),((A7 32 d2), .val),((A7 33 d2), .val),((A7 34 d2), .val),((A7 35 d2), .val),((A7 36 d2), .val),((A7 37 d2), .val),((A7 38 d2), .val),((A7 39 d2), .val)]) fun e13=>ob (A8 .add d7 (iI 1)) fun d14=>ob (Am 0 ((p9.1.length+p9.2.length)) d14) fun n15=>ob (Dt ((v6.1.set v6.2.1 (D8.U1 (v6.2.2.1+1) 20 (p9.1++p9.2))).set v6.2.1 (D8.U1 ((v6.2.2.1+1)) 20 (a11.2.set n10 e13))) v6.2.1 ((v6.2.2.1+1))) fun a16=>ob (a16.2[n15]?) fun d17=>og (a16.1 == 20) <| ob (IC 20 0 d17 [((A7 0 d2), .val),((A7 1 d2), .val),((A7 2 d2), .val),((A7 3 d2), .val),((A7 4 d2), .val),((A7 5 d2), .val),((A7 6 d2), .val),((A7 7 d2), .val),((A7 8 d2), .val),((A7 9 d2), .val),((A7 10 d2), .val),((A7 11 d2), .val),((A7 12 d2), .val),((A7 13 d2), .val),((A7 14 d2), .val),((A7 15 d2), .val),((A7 16 d2), .val),((A7 17 d2), .val),((A7 18 d2), .val),((A7 19 d2), .val)]) fun e18 =>
 ob (M5 (((v6.1.set v6.2.1 (D8.U1 (v6.2.2.1+1) 20 (p9.1++p9.2))).set v6.2.1 (D8.U1 ((v6.2.2.1+1)) 20 (a11.2.set n10 e13))).set v6.2.1 (D8.U1 ((v6.2.2.1+1)) 20 (a16.2.set n15 e18))) i) fun c19=>ob (c19[0]?) fun u20=>Ay R i c d e ((((v6.1.set v6.2.1 (D8.U1 (v6.2.2.1+1) 20 (p9.1++p9.2))).set v6.2.1 (D8.U1 ((v6.2.2.1+1)) 20 (a11.2.set n10 e13))).set v6.2.1 (D8.U1 ((v6.2.2.1+1)) 20 (a16.2.set n15 e18))).set i (D8.box (c19.set 0 (.undef,(.U1 v6.2.1 (v6.2.2.1+1) 20 (p9.1.length+p9.2.length)))))))):=E8 [9,17,22]
theorem Sw:(run cfg).r Ig [(.undef,(.ptr i 0))] s=VH (run cfg) i s:=gz (s:=Ce) Tryz.func30
def A0X:=eP Tryz.f31 cZ R [] (F7 Tryz.f31 [(a, .val)] [])
def Qw:=eP Tryz.f31 cZ R (pb 122) (ms 39 [(0,a)] [] [(2,bv (uw [])),(4,bx b 9)] [])
theorem bI:A0X R a =
 (ob (F5 9 a (iI 0)) fun d1=>ob (CP 9 a (some (iI 1)) none) fun d2=>ob (A8 .eql (A7 0 d1) (iI 5)) fun d3=>I1 d3 (Qw R d2 d1) (ob (A8 .eql (A7 0 d1) (iI 7)) fun d4=>D7 d4 (Qw R d2 d1) (some (.F3 [(ag9 d1),d2]))) none):=E8 [4]
theorem kw:Qw R a b =
 (ob (R.p QN [a]) fun d1=>ob (I9 0 d1) fun d2=>ob (I9 1 d1) fun d3=>og (C9 9 d2) <| ob (R.p QN [d3]) fun d4=>ob (I9 0 d4) fun d5=>ob (I9 1 d4) fun d6=>og (C9 9 d5) <| some (.F3 [(.agg [(A7 0 b),(A7 1 b),(A7 2 b),(A7 3 b),(A7 4 b),(A7 5 b),(A7 6 b),(A7 7 b),(.list 9 [(ag9 d2),(ag9 d5)])]),d6])):=E8 [4]
theorem YT:(run cfg).p QN [a]=A0X (run cfg) a:=N7 Tryz.func31
def A3x:=eP Tryz.f32 A2g R [] (F7 Tryz.f32 [(a, .val),(b, .val),(c, .val),(d, .val)] [])
theorem B0n:A3x R a b c d =
 (og (C9 20 d) <| ob (R.p TK [a]) fun d1=>ob (R.p TK [b]) fun d2=>og (I6 c) <| og (C9 3 d1) <| og (C9 3 d2) <| some (.agg ((iI 16)::(Nb (Xu [c,(.bool false),(.list 1 []),(A7 0 d1),(A7 1 d1),(A7 2 d1),(A7 0 d2),(A7 1 d2),(A7 2 d2),(.list 3 []),(.list 7 []),(.list 20 [(F6 d)])]))))):=E8 []
theorem A8D:(run cfg).p TJ [a,b,c,d]=A3x (run cfg) a b c d:=N7 Tryz.func32
def A6c:=eP Tryz.f33 A4z R [] (F7 Tryz.f33 [(a, .val)] [])
theorem B15:A6c R a =
 (og (I6 a) <| some (.agg ((iI 2)::(Nb (a::(.str ⟨#[]⟩)::(iI 0)::(Qs [(.list 20 [])])))))):=E8 []
theorem B0o:(run cfg).p XI [a]=A6c (run cfg) a:=N7 Tryz.func33
def A3P:=eP Tryz.f34 jT R [] (F7 Tryz.f34 [(a, .val),(b, .val)] [])
def RN:=hP Tryz.f34 jT R (pb 58) (ms 61 [(5,a)] [] [(2,bx b 9),(3,bx c 9)] [])
theorem A1T:A3P R a b =
 (og (C9 9 a) <| og (C9 9 b) <| ob (A8 .neq (A7 0 a) (A7 0 b)) fun d1=>I1 d1 sF (ob (A8 .neq (A7 1 a) (A7 1 b)) fun d2=>I1 d2 sF (ob (A8 .neq (A7 2 a) (A7 2 b)) fun d3=>I1 d3 sF (ob (R.p ZY [(.agg [(A7 3 a),(A7 4 a),(A7 5 a),(A7 6 a),(A7 7 a)]),(.agg [(A7 3 b),(A7 4 b),(A7 5 b),(A7 6 b),(A7 7 b)])]) fun d4=>ob (O6 .not d4) fun d5=>I1 d5 sF (ob (dLen (A7 8 a)) fun d6=>ob (dLen (A7 8 b)) fun d7=>ob (A8 .neq d6 d7) fun d8=>D7 d8 sF (RN R (iI 0) a b)) none) none) none) none):=E8 []
theorem Vu:RN R a b c =
 (ob (dLen (A7 8 b)) fun d1=>ob (A8 .lss a d1) fun d2=>D7 d2 (ob (F5 9 (A7 8 b) a) fun d3=>ob (F5 9 (A7 8 c) a) fun d4=>ob (R.p ZZ [(ag9 d3),(ag9 d4)]) fun d5=>ob (O6 .not d5) fun d6=>D7 d6 sF (ob (A8 .add a (iI 1)) fun d7=>RN R d7 b c)) sT):=I5 []
theorem yD:(run cfg).p ZZ [a,b]=A3P (run cfg) a b:=N7 Tryz.func34
def v_:=eP Tryz.f36 uK R [] (F7 Tryz.f36 [(a, .val)] [])
theorem rz:v_ R a =
 (og (C9 20 a) <| ob (R.p Ni [(F6 a)]) fun d1=>ob (O6 .not d1) fun d2=>D7 d2 (some (iI 1)) (some (iI 0))):=E8 []
theorem mI:(run cfg).p aU [a]=v_ (run cfg) a:=N7 Tryz.func36
def A3M:=eP Tryz.f38 Qe R [] (F7 Tryz.f38 [(a, .val),(b, .val)] [])
def ae:=eP Tryz.f38 Qe R (pb 7) (ms 153 [] [] [(2,bx a 20),(3,bx b 20)] [])
def RG:=hP Tryz.f38 Qe R (pb 122) (ms 153 [(5,a)] [] [(2,bx b 20),(3,bx c 20)] [])
def Ox:=hP Tryz.f38 Qe R (pb 250) (ms 153 [(6,a)] [] [(2,bx b 20),(3,bx c 20)] [])
theorem A1Q:A3M R a b =
 (og (C9 20 a) <| og (C9 20 b) <| ob (A8 .neq (A7 0 a) (A7 0 b)) fun d1=>I1 d1 sF (ob (Vd [.int, .int] (.agg [(A7 1 a),(A7 2 a)]) (.agg [(A7 1 b),(A7 2 b)])) fun b2=>I1 (.bool !b2) sF (ob (A8 .neq (A7 3 a) (A7 3 b)) fun d3=>I1 d3 sF (ob (A8 .neq (A7 4 a) (A7 4 b)) fun d4=>I1 d4 sF (ob (A8 .neq (A7 5 a) (A7 5 b)) fun d5=>I1 d5 sF (ob (A8 .neq (A7 6 a) (A7 6 b)) fun d6=>I1 d6 sF (ob (A8 .neq (A7 7 a) (A7 7 b)) fun d7=>I1 d7 sF (ob (A8 .neq (A7 8 a) (A7 8 b)) fun d8=>I1 d8 sF (ob (jF (A7 9 a) (A7 9 b)) fun b9=>D7 (.bool !b9) sF (ae R a b)) none) none) none) none) none) none) none) none):=E8 [3]
theorem rU:ae R a b =
 (ob (dLen (A7 10 a)) fun d1=>ob (dLen (A7 10 b)) fun d2=>ob (A8 .neq d1 d2) fun d3=>I1 d3 sF (ob (dLen (A7 18 a)) fun d4=>ob (dLen (A7 18 b)) fun d5=>ob (A8 .neq d4 d5) fun d6=>I1 d6 sF (ob (R.p Xw [(A7 17 a),(A7 17 b)]) fun d7=>ob (O6 .not d7) fun d8=>I1 d8 sF (ob (R.p Dl [(.agg [(A7 11 a),(A7 12 a),(A7 13 a)]),(.agg [(A7 11 b),(A7 12 b),(A7 13 b)])]) fun d9=>ob (O6 .not d9) fun d10=>I1 d10 sF (ob (R.p Dl [(.agg [(A7 14 a),(A7 15 a),(A7 16 a)]),(.agg [(A7 14 b),(A7 15 b),(A7 16 b)])]) fun d11=>ob (O6 .not d11) fun d12=>D7 d12 sF (RG R (iI 0) a b)) none) none) none) none):=E8 [3]
theorem Vq:RG R a b c =
 (ob (dLen (A7 10 b)) fun d1=>ob (A8 .lss a d1) fun d2=>D7 d2 (ob (F5 1 (A7 10 b) a) fun d3=>og (K6 d3) <| ob (F5 1 (A7 10 c) a) fun d4=>og (K6 d4) <| ob (A8 .neq d3 d4) fun d5=>D7 d5 sF (ob (A8 .add a (iI 1)) fun d6=>RG R d6 b c)) (Ox R (iI 0) b c)):=I5 [3]
theorem UQ:Ox R a b c =
 (ob (dLen (A7 18 b)) fun d1=>ob (A8 .lss a d1) fun d2=>D7 d2 (ob (A8 .add a (iI 1)) fun d3=>ob (CP 7 (A7 18 b) (some a) (some d3)) fun d4=>og (I6 d4) <| ob (A8 .add a (iI 1)) fun d5=>ob (CP 7 (A7 18 c) (some a) (some d5)) fun d6=>og (I6 d6) <| ob (R.p TL [(.agg ((iI 14)::(Nb (Xu (Kt (Kt [d4,(.list 16 [])])))))),(.agg ((iI 14)::(Nb (Xu (Kt (Kt [d6,(.list 16 [])]))))))]) fun d7=>ob (O6 .not d7) fun d8=>D7 d8 sF (ob (A8 .add a (iI 1)) fun d9=>Ox R d9 b c)) sT):=I5 [3]
theorem yA:(run cfg).p ZW [a,b]=A3M (run cfg) a b:=N7 Tryz.func38
def A02:=eP Tryz.f39 yV R [] (F7 Tryz.f39 [(a, .val)] [])
theorem Nv:A02 R a =
 (og (C9 3 a) <| ob (R.p ib [(.list 3 [(V9 a)])]) fun d1=>I1 d1 (ob (R.p ZR [(V9 a)]) fun d2=>ob (A8 .leq d2 (iI 60)) fun d3=>some d3) sF none):=E8 []
theorem MG:(run cfg).p MU [a]=A02 (run cfg) a:=N7 Tryz.func39
end
end Go.Su

/-
 Equations of the program's functions: by program.
-/
namespace Go.Su
set_option maxRecDepth 100000
noncomputable section
open Go.Proofs
variable (R:O4) (i j k l m n:Nat) (a b c d e f g h o p q r t u v w x y z A B C D E F G H I J K L M N O P Q S T U V W X Y Z a1 a2 a3 a4 a5 a6 a7 a8 a9 a10 a11 a12 a13 a14 a15 a16 a17 a18 a19 a20 a21 a22 a23 a24 a25 a26 a27 a28 a29 a30 a31 a32 a33 a34 a35 a36 a37 a38 a39 a40 a41 a42 a43 a44 a45 a46 a47 a48 a49 a50 a51 a52 a53 a54 a55 a56 a57 a58 a59:DV) (s:List D8)
def jy:=eP Tryz.f40 Ua R [] (F7 Tryz.f40 [(a, .val),(b, .val)] [])
def Jt:=hP Tryz.f40 Ua R (pb 122) (ms 37 [(1,a),(5,b)] [] [(2,bx c 7)] [])
theorem NP:jy R a b =
 (og (C9 7 a) <| ob (DC (A7 5 a)) fun d1=>ob (A8 .gtr d1 (iI 300)) fun d2=>I1 d2 (some (iI 501)) (ob (DC (A7 3 a)) fun d3=>ob (A8 .gtr d3 (iI 300)) fun d4=>D7 d4 (some (iI 501)) (ob (A8 .add b (iI 1)) fun d5=>Jt R d5 (iI 0) a)) none):=E8 []
theorem Nw:Jt R a b c =
 (ob (dLen (A7 6 c)) fun d1=>ob (A8 .lss b d1) fun d2=>I1 d2 (ob (A8 .leq a (iI 500)) fun d3=>D7 d3 (ob (F5 7 (A7 6 c) b) fun d4=>ob (R.p Og [(IQ d4),a]) fun d5=>ob (A8 .add b (iI 1)) fun d6=>Jt R d5 d6 c) (some a)) (some a) none):=I5 []
theorem Lf:(run cfg).p Og [a,b]=jy (run cfg) a b:=N7 Tryz.func40
def A3L:=eP Tryz.f41 jR R [] (F7 Tryz.f41 [(a, .val)] [])
def YA:=eP Tryz.f41 jR R (pb 966655) (ms 123 [(9,a)] [] [(1,bx b 20),(2,bv ((iI 0)::(iI 0)::(iI 0)::c::d::(iI 0)::e::(iI 0)::(Qs [(.list 20 [])]))),(4,bv (f::(iI 0)::(iI 0)::g::h::(iI 0)::o::(iI 0)::(Qs [(.list 20 [])])))] [])
theorem A1P:A3L R a =
 (og (C9 20 a) <| og (I6 (A7 0 a)) <| ob (A8 .eql (A7 0 a) (iI 1)) fun d1=>D7 d1 (og (I6 (A7 3 a)) <| og (I6 (A7 17 a)) <| some (.F3 [(.agg ((A7 0 a)::(iI 0)::(iI 0)::(A7 3 a)::(.str ⟨#[]⟩)::(Xu (A0m (Kt (Kt [(A7 17 a),(.list 7 []),(.list 20 [])])))))),(iI 0)])) (ob (A8 .eql (A7 0 a) (iI 2)) fun d2=>D7 d2 (og (I6 (A7 5 a)) <| some (.F3 [(.agg ((A7 0 a)::(Nb ((A7 5 a)::(.str ⟨#[]⟩)::(iI 0)::(Qs [(.list 20 [])]))))),(iI 0)])) (ob (A8 .eql (A7 0 a) (iI 3)) fun d3=>D7 d3 (og (I6 (A7 5 a)) <| some (.F3 [(.agg ((A7 0 a)::(Nb ((A7 5 a)::(.str ⟨#[]⟩)::(iI 0)::(Qs [(.list 20 [])]))))),(iI 0)])) (ob (A8 .eql (A7 0 a) (iI 4)) fun d4 =>
 D7 d4 (og (I6 (A7 6 a)) <| some (.F3 [(.agg ((A7 0 a)::(Nb ((iI 0)::(A7 6 a)::(iI 0)::(Qs [(.list 20 [])]))))),(iI 0)])) (ob (A8 .eql (A7 0 a) (iI 5)) fun d5=>D7 d5 (some (.F3 [(.agg ((A7 0 a)::(Cw []))),(iI 0)])) (ob (A8 .eql (A7 0 a) (iI 7)) fun d6=>D7 d6 (some (.F3 [(.agg ((A7 0 a)::(Nb (Xu (A0m ((A7 11 a)::(A7 12 a)::(A7 13 a)::(Kt (B0i [])))))))),(iI 0)])) (ob (A8 .eql (A7 0 a) (iI 6)) fun d7=>D7 d7 (some (.F3 [(.agg ((A7 0 a)::(Cw []))),(iI 2)])) (ob (A8 .eql (A7 0 a) (iI 8)) fun d8 =>
 D7 d8 (some (.F3 [(.agg ((A7 0 a)::(Cw []))),(iI 2)])) (ob (A8 .eql (A7 0 a) (iI 10)) fun d9=>D7 d9 (some (.F3 [(.agg ((A7 0 a)::(Cw []))),(iI 2)])) (ob (A8 .eql (A7 0 a) (iI 9)) fun d10=>D7 d10 (og (I6 (A7 3 a)) <| some (.F3 [(.agg ((A7 0 a)::(iI 0)::(iI 0)::(A7 3 a)::(.str ⟨#[]⟩)::(Xu (A0m ((A7 11 a)::(A7 12 a)::(A7 13 a)::(Kt (B0i []))))))),(iI 1)])) (YA R (A7 0 a) a (.str ⟨#[]⟩) (.str ⟨#[]⟩) (.str ⟨#[]⟩) (A7 0 a) (.str ⟨#[]⟩) (.str ⟨#[]⟩) (.str ⟨#[]⟩)))))))))))):=E8 [25]
theorem lF:YA R a b c d e f g h o =
 (ob (A8 .eql a (iI 11)) fun d1=>D7 d1 (og (I6 (A7 3 b)) <| og (I6 (A7 10 b)) <| some (.F3 [(.agg (f::(iI 0)::(iI 0)::(A7 3 b)::h::(iI 0)::o::(iI 0)::(iI 0)::(.bool false)::(A7 10 b)::(Kt (Kt (B0i []))))),(iI 2)])) (ob (A8 .eql a (iI 12)) fun d2=>D7 d2 (og (I6 (A7 3 b)) <| og (I6 (A7 4 b)) <| og (I6 (A7 10 b)) <| some (.F3 [(.agg (f::(iI 0)::(iI 0)::(A7 3 b)::(A7 4 b)::(iI 0)::o::(iI 0)::(iI 0)::(.bool false)::(A7 10 b)::(A7 11 b)::(A7 12 b)::(A7 13 b)::(A7 14 b)::(A7 15 b)::(A7 16 b)::(B0i []))),(iI 2)])) (ob (A8 .eql a (iI 13)) fun d3=>D7 d3 (some (.F3 [(.agg (f::(iI 0)::(iI 0)::g::h::(iI 0)::o::(iI 0)::(Qs [(.list 20 [])]))),(iI 3)])) (ob (A8 .eql a (iI 14)) fun d4 =>
 D7 d4 (og (I6 (A7 18 b)) <| ob (dLen (A7 18 b)) fun d5=>ob (A8 .add d5 (iI 1)) fun d6=>some (.F3 [(.agg (f::(A7 1 b)::(A7 2 b)::g::h::(iI 0)::o::(iI 0)::(A0m (Kt (Kt [(.list 3 []),(A7 18 b),(.list 20 [])]))))),d6])) (ob (A8 .eql a (iI 15)) fun d7=>D7 d7 (og (I6 (A7 7 b)) <| some (.F3 [(.agg (f::(A7 1 b)::(A7 2 b)::g::h::(iI 0)::o::(A7 7 b)::(Qs [(.list 20 [])]))),(iI 2)])) (ob (A8 .eql a (iI 16)) fun d8=>D7 d8 (og (I6 (A7 8 b)) <| og (I6 (A7 9 b)) <| some (.F3 [(.agg (f::(iI 0)::(iI 0)::g::h::(iI 0)::o::(iI 0)::(A7 8 b)::(A7 9 b)::(.list 1 [])::(A7 11 b)::(A7 12 b)::(A7 13 b)::(A7 14 b)::(A7 15 b)::(A7 16 b)::(B0i []))),(iI 1)])) (some (.F3 [(.agg (f::(iI 0)::(iI 0)::g::h::(iI 0)::o::(iI 0)::(Qs [(.list 20 [])]))),(.int .i64 (-1))])))))))):=E8 [25]
theorem x_:(run cfg).p nV [a]=A3L (run cfg) a:=N7 Tryz.func41
def A07:=eP Tryz.f42 dE R [] (F7 Tryz.f42 [(a, .val)] [])
def Hw:=hP Tryz.f42 dE R (pb 58) (ms 45 [(3,a)] [] [(1,bx b 3)] [])
theorem w_:A07 R a =
 (og (C9 3 a) <| ob (R.p ZQ [(A7 0 a)]) fun d1=>ob (dLen (A7 2 a)) fun d2=>ob (A8 .neq d1 d2) fun d3=>I1 d3 sF (ob (A8 .lss (A7 1 a) (iI 0)) fun d4=>I1 d4 sF (ob (A8 .gtr (A7 1 a) (iI 1048576)) fun d5=>I1 d5 sF (ob (A8 .neq (A7 0 a) (iI 6)) fun d6=>I1 d6 (ob (A8 .neq (A7 1 a) (iI 0)) fun d7=>D7 d7 sF (Hw R (iI 0) a)) (Hw R (iI 0) a) none) none) none) none):=E8 []
theorem UI:Hw R a b =
 (ob (dLen (A7 2 b)) fun d1=>ob (A8 .lss a d1) fun d2=>D7 d2 (ob (F5 3 (A7 2 b) a) fun d3=>ob (R.p ET [(V9 d3)]) fun d4=>ob (O6 .not d4) fun d5=>D7 d5 sF (ob (A8 .add a (iI 1)) fun d6=>Hw R d6 b)) sT):=I5 []
theorem tH:(run cfg).p ET [a]=A07 (run cfg) a:=N7 Tryz.func42
def kC:=eP Tryz.f43 Ub R [] (F7 Tryz.f43 [(a, .val)] [])
def Jw:=hP Tryz.f43 Ub R (pb 122) (ms 24 [(3,a),(4,b)] [] [] [])
theorem gI:kC R a =
 (og (C9 7 a) <| ob (R.p fO [(IQ a)]) fun d1=>ob (O6 .not d1) fun d2=>D7 d2 sF (ob (R.p WX [(IQ a)]) fun d3=>Jw R d3 (iI 0))):=E8 []
theorem Nz:Jw R a b =
 (ob (dLen a) fun d1=>ob (A8 .lss b d1) fun d2=>D7 d2 (ob (CP 1 a none (some b)) fun d3=>ob (F5 1 a b) fun d4=>og (K6 d4) <| ob (R.p Sb [d3,d4]) fun d5=>D7 d5 sF (ob (A8 .add b (iI 1)) fun d6=>Jw R a d6)) sT):=I5 []
theorem bZ:(run cfg).p VS [a]=kC (run cfg) a:=N7 Tryz.func43
def A3y:=eP Tryz.f44 jN R [] (F7 Tryz.f44 [(a, .val)] [])
def Qx:=hP Tryz.f44 jN R (pb 58) (ms 32 [(0,a),(3,b)] [] [] [])
theorem A1C:A3y R a =
 (ob (DC a) fun d1=>ob (A8 .lss d1 (iI 1)) fun d2=>I1 d2 sF (ob (DC a) fun d3=>ob (A8 .gtr d3 (iI 32)) fun d4=>I1 d4 sF (ob (Y4 a (iI 0)) fun d5=>ob (R.p QQ [d5]) fun d6=>ob (O6 .not d6) fun d7=>D7 d7 sF (Qx R a (iI 0))) none) none):=E8 []
theorem Vh:Qx R a b =
 (ob (DC a) fun d1=>ob (A8 .lss b d1) fun d2=>D7 d2 (ob (Y4 a b) fun d3=>ob (R.p nQ [d3]) fun d4=>ob (O6 .not d4) fun d5=>D7 d5 sF (ob (A8 .add b (iI 1)) fun d6=>Qx R a d6)) (ob (R.p vG [a]) fun d7=>ob (O6 .not d7) fun d8=>some d8)):=I5 []
theorem xe:(run cfg).p Gv [a]=A3y (run cfg) a:=N7 Tryz.func44
def A6e:=eP Tryz.f45 oP R [] (F7 Tryz.f45 [(a, .val),(b, .val)] [])
def Tg:=hP Tryz.f45 oP R (pb 26) (ms 18 [(0,a),(1,b),(5,c)] [] [] [])
theorem A4k:A6e R a b =
 (Tg R a b (iI 0)):=E8 []
theorem YP:Tg R a b c =
 (ob (dLen a) fun d1=>ob (A8 .lss c d1) fun d2=>D7 d2 (ob (F5 1 a c) fun d3=>og (K6 d3) <| ob (A8 .eql d3 b) fun d4=>D7 d4 sT (ob (A8 .add c (iI 1)) fun d5=>Tg R a b d5)) sF):=I5 []
theorem A16:(run cfg).p Sb [a,b]=A6e (run cfg) a b:=N7 Tryz.func45
def A3H:=eP Tryz.f46 Qc R [] (F7 Tryz.f46 [(a, .val),(b, .val)] [])
def Q_:=hP Tryz.f46 Qc R (pb 28) (ms 47 [(0,a),(1,b),(5,c)] [] [] [])
def Tk:=eP Tryz.f46 Qc R (pb 15) (ms 47 [(0,a),(1,b),(5,c)] [] [] [])
def Tn:=eP Tryz.f46 Qc R (pb 31) (ms 47 [(0,a),(1,b),(5,c)] [] [] [])
theorem A1L:A3H R a b =
 (Q_ R a b (iI 0)):=E8 [4,6]
theorem Vl:Q_ R a b c =
 (ob (dLen a) fun d1=>ob (A8 .lss c d1) fun d2=>I1 d2 (ob (F5 1 a c) fun d3=>og (K6 d3) <| ob (A8 .lss d3 b) fun d4=>D7 d4 (ob (A8 .add c (iI 1)) fun d5=>Q_ R a b d5) (Tk R a b c)) (Tk R a b c) none):=I5 [4,6]
theorem rJ:Tk R a b c =
 (ob (dLen a) fun d1=>ob (A8 .lss c d1) fun d2=>I1 d2 (ob (F5 1 a c) fun d3=>og (K6 d3) <| ob (A8 .eql d3 b) fun d4=>D7 d4 (some a) (Tn R a b c)) (Tn R a b c) none):=E8 [4,6]
theorem rM:Tn R a b c =
 (ob (CP 1 a none (some c)) fun d1=>ob (Be 1 (.list 1 []) d1) fun d2=>og (I6 b) <| ob (Be 1 d2 (.list 1 [b])) fun d3=>ob (CP 1 a (some c) none) fun d4=>ob (Be 1 d3 d4) fun d5=>some d5):=E8 [4,6]
theorem xw:(run cfg).p nU [a,b]=A3H (run cfg) a b:=N7 Tryz.func46
def A1c:=eP Tryz.f47 dJ R [] (F7 Tryz.f47 [(a, .val),(b, .val)] [])
def Iq:=eP Tryz.f47 dJ R (pb 51) (ms 50 [(1,a)] [] [(2,bx b 20)] [])
theorem xE:A1c R a b =
 (og (C9 20 a) <| ob (A8 .eql (A7 0 a) (iI 9)) fun d1=>D7 d1 (og (I6 (A7 3 a)) <| some (.list 1 [(A7 3 a)])) (ob (A8 .eql (A7 0 a) (iI 11)) fun d2=>I1 d2 (ob (A8 .eql b (iI 1)) fun d3=>D7 d3 (og (I6 (A7 3 a)) <| some (.list 1 [(A7 3 a)])) (ob (A8 .eql (A7 0 a) (iI 12)) fun d4=>I1 d4 (ob (A8 .eql b (iI 1)) fun d5=>D7 d5 (og (I6 (A7 3 a)) <| some (.list 1 [(A7 3 a)])) (Iq R b a)) (Iq R b a) none)) (ob (A8 .eql (A7 0 a) (iI 12)) fun d6=>I1 d6 (ob (A8 .eql b (iI 1)) fun d7=>D7 d7 (og (I6 (A7 3 a)) <| some (.list 1 [(A7 3 a)])) (Iq R b a)) (Iq R b a) none) none)):=E8 [5]
theorem lC:Iq R a b =
 (ob (A8 .eql (A7 0 b) (iI 12)) fun d1=>D7 d1 (og (I6 (A7 3 b)) <| og (I6 (A7 4 b)) <| some (.list 1 [(A7 3 b),(A7 4 b)])) (ob (A8 .eql (A7 0 b) (iI 14)) fun d2=>I1 d2 (ob (A8 .gtr a (iI 0)) fun d3=>D7 d3 (ob (A8 .sub a (iI 1)) fun d4=>ob (F5 7 (A7 18 b) d4) fun d5=>ob (R.p WX [(IQ d5)]) fun d6=>some d6) (some (.list 1 []))) (some (.list 1 [])) none)):=E8 [5]
theorem tO:(run cfg).p QR [a,b]=A1c (run cfg) a b:=N7 Tryz.func47
def fT:=eP Tryz.f48 SG R [] (F7 Tryz.f48 [(a, .val),(b, .val)] [])
def Cj:=hP Tryz.f48 SG R (pb 58) (ms 27 [(1,a),(5,b)] [] [(2,bx c 20)] [])
theorem bN:fT R a b =
 (og (C9 20 a) <| ob (A8 .add b (iI 1)) fun d1=>Cj R d1 (iI 0) a):=E8 []
theorem Ih:Cj R a b c =
 (ob (dLen (A7 19 c)) fun d1=>ob (A8 .lss b d1) fun d2=>I1 d2 (ob (A8 .leq a (iI 1200)) fun d3=>D7 d3 (ob (F5 20 (A7 19 c) b) fun d4=>ob (R.p JB [(F6 d4),a]) fun d5=>ob (A8 .add b (iI 1)) fun d6=>Cj R d5 d6 c) (some a)) (some a) none):=I5 []
theorem ZF:(run cfg).p JB [a,b]=fT (run cfg) a b:=N7 Tryz.func48
def ah:=eP Tryz.f49 J_ R [] (F7 Tryz.f49 [(a, .val),(b, .val)] [])
def Af:=hP Tryz.f49 J_ R (pb 58) (ms 51 [(1,a),(5,b)] [] [(2,bx c 20)] [])
def Z5:=hP Tryz.f49 J_ R (pb 122) (ms 51 [(1,a),(6,b)] [] [(2,bx c 20)] [])
theorem ZA:ah R a b =
 (og (C9 20 a) <| ob (R.p DL [(.agg [(A7 11 a),(A7 12 a),(A7 13 a)]),b]) fun d1=>ob (R.p DL [(.agg [(A7 14 a),(A7 15 a),(A7 16 a)]),d1]) fun d2=>Af R d2 (iI 0) a):=E8 []
theorem Gz:Af R a b c =
 (ob (dLen (A7 17 c)) fun d1=>ob (A8 .lss b d1) fun d2=>I1 d2 (ob (A8 .leq a (iI 20000)) fun d3=>D7 d3 (ob (F5 3 (A7 17 c) b) fun d4=>ob (R.p DL [(V9 d4),a]) fun d5=>ob (A8 .add b (iI 1)) fun d6=>Af R d5 d6 c) (Z5 R a (iI 0) c)) (Z5 R a (iI 0) c) none):=I5 []
theorem G_:Z5 R a b c =
 (ob (dLen (A7 19 c)) fun d1=>ob (A8 .lss b d1) fun d2=>I1 d2 (ob (A8 .leq a (iI 20000)) fun d3=>D7 d3 (ob (F5 20 (A7 19 c) b) fun d4=>ob (R.p II [(F6 d4),a]) fun d5=>ob (A8 .add b (iI 1)) fun d6=>Z5 R d5 d6 c) (some a)) (some a) none):=I5 []
theorem Xb:(run cfg).p II [a,b]=ah (run cfg) a b:=N7 Tryz.func49
def vX:=eP Tryz.f50 uI R [] (F7 Tryz.f50 [(a, .val)] [])
theorem rX:vX R a =
 (og (C9 3 a) <| ob (R.p aO [(V9 a)]) fun d1=>ob (I9 0 d1) fun d2=>ob (I9 1 d1) fun d3=>og (C9 3 d2) <| I1 d3 (ob (R.p Dl [(V9 d2),(V9 a)]) fun d4=>some d4) sF none):=E8 []
theorem mD:(run cfg).p aR [a]=vX (run cfg) a:=N7 Tryz.func50
def A6k:=eP Tryz.f51 oU R [] (F7 Tryz.f51 [(a, .val)] [])
def Z6:=hP Tryz.f51 oU R (pb 122) (ms 30 [(3,a),(4,b)] [] [(1,bx c 20)] [])
theorem A4q:A6k R a =
 (og (C9 20 a) <| ob (A8 .eql (A7 0 a) (iI 6)) fun d1=>D7 d1 (Z6 R (iI 2) (iI 0) a) (ob (A8 .eql (A7 0 a) (iI 8)) fun d2=>D7 d2 (Z6 R (iI 2) (iI 0) a) (ob (A8 .eql (A7 0 a) (iI 10)) fun d3=>D7 d3 (Z6 R (iI 2) (iI 0) a) (ob (A8 .eql (A7 0 a) (iI 15)) fun d4=>D7 d4 (Z6 R (iI 2) (iI 0) a) (ob (A8 .eql (A7 0 a) (iI 11)) fun d5=>D7 d5 (Z6 R (iI 1) (iI 0) a) (ob (A8 .eql (A7 0 a) (iI 13)) fun d6=>D7 d6 (Z6 R (iI 1) (iI 0) a) (ob (A8 .eql (A7 0 a) (iI 14)) fun d7=>D7 d7 (Z6 R (iI 1) (iI 0) a) (ob (A8 .eql (A7 0 a) (iI 16)) fun d8=>D7 d8 (Z6 R (iI 1) (iI 0) a) (Z6 R (iI 0) (iI 0) a))))))))):=E8 []
theorem Vv:Z6 R a b c =
 (ob (A8 .lss b a) fun d1=>D7 d1 (ob (F5 20 (A7 19 c) b) fun d2=>ob (R.p Dm [(F6 d2)]) fun d3=>ob (O6 .not d3) fun d4=>D7 d4 (some b) (ob (A8 .add b (iI 1)) fun d5=>Z6 R a d5 c)) (some (.int .i64 (-1)))):=I5 []
theorem A2c:(run cfg).p vJ [a]=A6k (run cfg) a:=N7 Tryz.func51
def A1f:=eP Tryz.f52 yg R [] (F7 Tryz.f52 [(a, .val),(b, .val)] [])
theorem xH:A1f R a b =
 (og (C9 20 a) <| og (C9 20 b) <| ob (A8 .eql (A7 0 a) (iI 9)) fun d1=>D7 d1 (ob (F5 20 (A7 19 a) (iI 0)) fun d2=>ob (R.p Sc [(F6 d2),(A7 3 a),(.list 1 []),(F6 b)]) fun d3=>ob (I9 0 d3) fun d4=>ob (I9 1 d3) fun d5=>og (C9 20 d4) <| og (C9 15 d5) <| some (.F3 [(F6 d4),(U8 d5)])) (ob (A8 .neq (A7 0 a) (iI 16)) fun d6=>I1 d6 (ob (R.p Y9 []) fun d7=>og (C9 15 d7) <| some (.F3 [(.agg ((iI 0)::(Cw []))),(U8 d7)])) (ob (A8 .neq (A7 11 a) (iI 9)) fun d8=>I1 d8 (ob (R.p Y9 []) fun d9=>og (C9 15 d9) <| some (.F3 [(.agg ((iI 0)::(Cw []))),(U8 d9)])) (ob (A8 .neq (A7 14 a) (iI 9)) fun d10 =>
 D7 d10 (ob (R.p Y9 []) fun d11=>og (C9 15 d11) <| some (.F3 [(.agg ((iI 0)::(Cw []))),(U8 d11)])) (ob (F5 3 (A7 16 a) (iI 0)) fun d12=>ob (F5 3 (A7 13 a) (iI 0)) fun d13=>ob (R.p Gw [(F6 a),(V9 d12),(V9 d13),(F6 b)]) fun d14=>og (C9 20 d14) <| ob (O6 .not (A7 9 a)) fun d15=>og (I6 d15) <| ob (F5 20 (A7 19 a) (iI 0)) fun d16=>ob (F5 3 (A7 13 a) (iI 1)) fun d17=>ob (F5 3 (A7 16 a) (iI 1)) fun d18=>ob (R.p Gw [(F6 a),(V9 d17),(V9 d18),(.agg ((iI 10)::(Nb (Xu (Qs [(.list 20 [(F6 d16),(.agg [(A7 0 d14),(A7 1 d14),(A7 2 d14),(A7 3 d14),(A7 4 d14),(A7 5 d14),(A7 6 d14),(A7 7 d14),(A7 8 d14),d15,(A7 10 d14),(A7 11 d14),(A7 12 d14),(A7 13 d14),(A7 14 d14),(A7 15 d14),(A7 16 d14),(A7 17 d14),(A7 18 d14),(A7 19 d14)])])])))))]) fun d19 =>
 og (C9 20 d19) <| some (.F3 [(F6 d19),(.agg ((iI 0)::(Bh [(iI 0)])))]))) none) none)):=E8 []
theorem tV:(run cfg).p iy [a,b]=A1f (run cfg) a b:=N7 Tryz.func52
def A6l:=eP Tryz.f53 A4C R [] (F7 Tryz.f53 [(a, .val),(b, .val),(c, .val),(d, .val)] [])
theorem A4r:A6l R a b c d =
 (og (C9 20 a) <| og (C9 20 d) <| ob (R.p vH [(F6 a),b,c,(F6 d)]) fun d1=>ob (I9 0 d1) fun d2=>ob (I9 1 d1) fun d3=>og (C9 20 d2) <| ob (A8 .neq d3 (iI 0)) fun d4=>D7 d4 (ob (R.p Y9 []) fun d5=>og (C9 15 d5) <| some (.F3 [(.agg ((iI 0)::(Cw []))),(U8 d5)])) (some (.F3 [(F6 d2),(.agg ((iI 0)::(Bh [(iI 0)])))]))):=E8 []
theorem A2d:(run cfg).p Sc [a,b,c,d]=A6l (run cfg) a b c d:=N7 Tryz.func53
end
end Go.Su
