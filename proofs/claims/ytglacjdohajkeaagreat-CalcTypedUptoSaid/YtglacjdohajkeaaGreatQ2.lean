/-
  Parts of the proof, merged: SuOp10, SuOp11, SuOp12, SuCall, SuOp13, SuOp14, SuSim, SuFrame, SuFrame2, SuFrame3, SuDraw, SuDraw2, SuDraw3, SuItr.
-/
import Derived.LoopNIn
import Derived.OrdersIn
import Derived.RangeFuncCalls
import Derived.RangeFuncLeaves
import Derived.RangeFuncNested
import Derived.Test.YtglacjdohajkeaaGreatQ1
set_option linter.unusedVariables false
set_option linter.unusedSimpArgs false
/-
 THE DATA MACHINE, part 15: maps read and written; parts of results.
-/
open Array renaming getElem?_eq_some_iff → z7q, getElem?_setIfInBounds_ne → z8q, getElem?_setIfInBounds_self_of_lt → zeq, getElem?_eq_getElem → zyq, length_toList → zDq, getElem?_push → zHq, getD_eq_getD_getElem? → zUq, getElem?_replicate → y0q, getElem?_eq_none → y1q, getElem?_toList → y8q, size_push → ydq
open Bool renaming false_eq_true → zbq, and_eq_true → zhq, not_eq_true' → zPq, true_and → zVq, or_eq_true_iff → yaq, not_false → ybq, false_and → ycq, not_true → yhq, or_true → yrq, or_eq_true → ytq
open List renaming getElem?_eq_some_iff → z0q, getD_eq_getElem?_getD → z1q, getElem?_set_ne → z2q, getElem?_append_left → z3q, getElem?_eq_getElem → z4q, getElem?_append_right → z5q, getElem?_set_self → z6q, mem_append → z9q, getElem?_eq_none → zaq, flatMap_cons → zdq, eq_nil_of_length_eq_zero → zgq, getElem?_cons_zero → ziq, all_eq_true → zkq, getElem?_cons_succ → zlq, mem_cons_of_mem → zmq, mem_cons_self → znq, getElem?_map → zpq, mem_of_getElem? → zsq, getElem?_set_self' → ztq, set_comm → zuq, length_eq_one_iff → zvq, mem_singleton → zxq, pairwise_append → zzq, length_cons → zBq, length_take → zCq, getElem?_take_of_lt → zFq, flatMap_append → zGq, append_nil → zIq, append_assoc → zLq, getElem?_toArray → zMq, ext_getElem? → zOq, contains_eq_mem → zRq, mem_flatMap → zSq, map_congr_left → zTq, map_cons → zWq, getElem?_zip_eq_some → zXq, pairwise_cons → zYq, mem_cons → y4q, mem_iff_getElem → y5q, mem_filter → y6q, length_nil → y7q, getElem?_take → yeq, length_append → yfq, getElem?_drop → ygq, filter_cons → ykq, flatMap_nil → ymq, range'_succ → ynq, set_set → yoq, length_set → ysq, length_map → yuq
open Nat renaming mul_le_mul_right → zcq, zero_add → zfq, le_refl → zjq, lt_or_ge → zoq, add_mul → zqq, add_zero → zEq, succ_mul → zJq, zero_mul → zKq, le_of_not_lt → zNq, add_assoc → zQq, le_of_eq → y2q, succ_pos → y3q, eq_zero_or_pos → y9q, sub_self → yjq, min_eq_left → ylq, mul_pos → ypq, le_succ → yqq
open Option renaming map_eq_some_iff → zrq, getD_some → zwq, isSome_iff_exists → zAq, isNone_iff_eq_none → zZq, map_some → yiq
namespace Go.Su
set_option linter.defProp false
variable {P:Program}{t:TypeId}
def A3E{q:Bool×TypeId}(h:mapKeys P t=some q):∃kt,P.underlying t=some (.map kt q.2)/\((q.1=false/\P.underlying kt=some (.int .i64))\/(q.1=true/\P.underlying kt=some .string)):=by
 unfold mapKeys at h;split at h
 ·rename_i kt et hu;split at h<;>simp only[D9,reduceCtorEq]at h<;>subst h
  ·exact⟨kt,hu,.inl ⟨rfl,‹_›⟩⟩
  ·exact⟨kt,hu,.inr ⟨rfl,‹_›⟩⟩
 ·simp at h
def C09(a b:ByteArray):(a.toList==b.toList)=(a==b):=(beq_toListBytes a b).symm
variable {kd:TypeDesc}
def B5Y{S:AL}{h:Heap}{ks:Bool}(hk:(ks=false/\kd=.int .i64)\/(ks=true/\kd=.string)){d e:DV}{v u:Value}(hd:Ao ks d=true)(he:Ao ks e=true)(rv:RV S h d v)(ru:RV S h e u):
 Instr.sameNow kd v u=some (DK d e)/\(DK d e=true->v=u/\d=e):=by
 rcases hk with⟨rfl,rfl⟩ | ⟨rfl,rfl⟩
 ·cases d<;>simp only[Ao,zbq,ybq,zVq,beq_iff_eq]at hd;cases e<;>simp only[Ao,zbq,ybq,zVq,beq_iff_eq]at he;rw[Cc]at rv ru;subst rv ru hd he;refine⟨by simp[Instr.sameNow,DK],λhq=>?_⟩;simp only[DK,beq_iff_eq]at hq;subst hq;exact⟨rfl,rfl⟩
 ·cases d<;>simp only[Ao,zbq,yhq,ycq]at hd;cases e<;>simp only[Ao,zbq,yhq,ycq]at he;rw[ai]at rv ru;subst rv ru;rename_i p q;refine⟨?_,λhq=>?_⟩
  ·simp only[Instr.sameNow,DK,C09]
  ·simp only[DK,beq_iff_eq,ByteArray.toList_eq]at hq;have hpq:p=q:=by obtain⟨⟨p⟩⟩:=p;obtain⟨⟨q⟩⟩:=q;simpa using hq
   subst hpq;exact⟨rfl,rfl⟩
def xR{S:AL}{h:Heap}{ks:Bool}{kd:TypeDesc}(hk:(ks=false/\kd=.int .i64)\/(ks=true/\kd=.string)){d:DV}{v:Value}(hd:Ao ks d=true)(rv:RV S h d v)(val:DV):∀(es:List (DV×DV))(l:List MapEntry)(i:Nat),
 es.length=l.length->(∀(j:Nat) e n,es[j]?=some e->l[j]?=some n->Ao ks e.1=true/\RV S h e.1 n.key/\RV S h e.2 n.val)->
 (Instr.findNow kd v l i=some none/\AQ es d=none/\BJ es d val=es++[(d,val)]) \/
 ∃j e n,es[j]?=some e/\l[j]?=some n/\Instr.findNow kd v l i=some (some (i+j,n.val))/\AQ es d=some e.2/\BJ es d val=es.set j (e.1,val)/\n.key=v/\e.1=d
 |[],[],i,_,_=>.inl ⟨rfl,rfl,rfl⟩
 |[],_::_,_,hl,_=>by simp at hl
 |_::_,[],_,hl,_=>by simp at hl
 |e::es,n::l,i,hl,ZT=>by
   obtain⟨k1,k2,k3⟩:=ZT 0 e n rfl rfl;obtain⟨s1,s2⟩:=B5Y hk hd k1 rv k2;cases hq:DK d e.1 with
   |true=>rw[hq]at s1;obtain⟨q1,q2⟩:=s2 hq;exact .inr ⟨0,e,n,rfl,rfl,by simp[Instr.findNow,s1],by simp[AQ,hq],by simp[BJ,hq],q1.symm,q2.symm⟩
   |false=>
     rw[hq]at s1;have ih:=xR hk hd rv val es l (i+1) (by simpa using hl) (λj e' n' h1 h2=>ZT (j+1) e' n' (by simpa using h1) (by simpa using h2));have f1:Instr.findNow kd v (n::l) i=Instr.findNow kd v l (i+1):=by simp[Instr.findNow,s1]
     have f2:AQ (e::es) d=AQ es d:=by simp[AQ,hq]
     have f3:BJ (e::es) d val=e::BJ es d val:=by simp[BJ,hq]
     rcases ih with⟨g1,g2,g3⟩ | ⟨j,e',n',g1,g2,g3,g4,g5,g6,g7⟩
     ·exact .inl ⟨by rw[f1,g1],by rw[f2,g2],by rw[f3,g3];rfl⟩
     ·refine .inr ⟨j+1,e',n',by simpa using g1,by simpa using g2,by rw[f1,g3];congr 3;omega,by rw[f2,g4],by rw[f3,g5];rfl,g6,g7⟩
theorem run_checkKey{kt:TypeId}(hu:P.underlying kt=some kd)(hk:kd=.int .i64\/kd=.string)(b:Bool)(v:Value)(n:Nat)(w:World):(Instr.checkKey b (n+1) kt v).run P w=.ok () w:=by unfold Instr.checkKey;simp only[Sem.run_bind,run_underlying hu,Result.andThen_ok];rcases hk with rfl | rfl<;>rfl
section
variable {X:Type}{C:AB}{R:U1}{o:Oper}{st:St}{k:St->Option X}{x:X}{E:Env}{a:Act}{w:World}{K:Act->World->Prop}{Q:Exit->Act->World->Prop}
def B8F{y v:Operand}{ok:Bool}(I1:o.op=.lookup t y v ok)(H:(ob (src C.P t st y) λr=>ob (src C.P 0 st v) λkey=>ob (mapKeys C.P t) λq=>
 ob (A7r C.P q.2) λze=>
  og (Ao q.1 key.1&&M6 key.2)
   (match r.2 with
     |.map i=>ob (X0 st.sg i) λp=>og (p.1==q.1)
       (if ok then k (st.put o.dst (.I4 [(AQ p.2 key.1).getD ze,.bool (AQ p.2 key.1).isSome]) .val)
       else k (st.put o.dst ((AQ p.2 key.1).getD ze) .val))
     |_=>none))=some x)(Rl:M9 E st a w.heap)(T:Then E w k x K):Gp C.P o a w K:=by
 obtain⟨r,h1,H⟩:=D8 H;obtain⟨key,h2,H⟩:=D8 H;obtain⟨q,hq,H⟩:=D8 H;obtain⟨ze,lu,H⟩:=D8 H;obtain⟨hc,H⟩:=I9 H;simp only[zhq]at hc;obtain⟨Xy,hkd⟩:=hc;have e1:=Rl.src h1;have e2:=(Rl.src h2).data hkd;split at H
 ·rename_i i hm;rw[hm]at e1;simp only[RR,O0]at e1;obtain⟨p,hp,H⟩:=D8 H;obtain⟨hpq,H⟩:=I9 H;have hpq:p.1=q.1:=by simpa using hpq
  have hp:=A9C hp;rw[hpq]at hp;obtain⟨ens,clk,b1,b2,⟨b3,b4⟩,-⟩:=Rl.V8 i _ hp;obtain⟨kt,hu,BD⟩:=A3E hq;unfold A7r at lu;obtain⟨inf,BP,lu⟩:=D8 lu;obtain⟨zv,TW,lu⟩:=D8 lu;obtain⟨zr,hzr,lu⟩:=D8 lu;obtain⟨hzd,lu⟩:=I9 lu;simp only[D9]at lu;have rQ:∃kd,C.P.underlying kt=some kd/\((q.1=false/\kd=.int .i64)\/(q.1=true/\kd=.string)):=by
   rcases BD with⟨h3,h4⟩ | ⟨h3,h4⟩
   ·exact⟨_,h4,.inl ⟨h3,rfl⟩⟩
   ·exact⟨_,h4,.inr ⟨h3,rfl⟩⟩
  obtain⟨kd,hku,rQ⟩:=rQ;have hz0:RV E.S w.heap ze zv:=by rw[<- lu];exact(A8q (E:=E) (h:=w.heap) hzr 0 0).data hzd
  have F:=xR rQ Xy e2 .undef p.2 ens.toList 0 (by simpa using b3) (λj e n g1 g2=>b4 j e n g1 (by simpa using g2));have fin:∀(d:DV)(vv:Value)(bb:Bool),(AQ p.2 key.1).getD ze=d->(AQ p.2 key.1).isSome=bb->RV E.S w.heap d vv->(Instr.lookup t (a.eval y) (a.eval v) ok).run C.P w=.ok (if ok then .tuple #[vv,.bool bb]else vv) w->Gp C.P o a w K:=by
   intro d vv bb hd hb hR U7;rw[hd,hb]at H;have B22:(execOp a.eval o).run C.P w=.ok (.value (if ok then .tuple #[vv,.bool bb]else vv)) w:=by simp only[execOp,I1];exact Bf U7
   cases ok with
   |true=>
     simp only[H5]at H B22;refine Ar B22 H Rl ?_ @T;simp only[RV];exact⟨_,rfl,Yj.2 ⟨by simp,λi d' v' g1 g2=>by
      match i with
      |0=>simp at g1 g2;subst g1 g2;exact hR
      |1=>simp at g1 g2;subst g1 g2;rw[Pe]
      |n+2=>simp at g1⟩⟩
   |false=>simp only[zbq,F9]at H B22;exact Ar B22 H Rl hR @T
  have hgo:(getObj (E.obj i)).run C.P w=.ok (.map ens clk) w:=by simp[getObj,Sem.run,b1]
  have B36:kd=.int .i64\/kd=.string:=by rcases rQ with h3 | h3<;>simp[h3.2]
  rcases F with⟨g1,g2,-⟩ | ⟨j,e,n,g0,g0',g1,g2,-,-,-⟩
  ·refine fin ze zv false (by rw[g2];rfl) (by rw[g2];rfl) hz0 ?_;unfold Instr.lookup;rw[e1.2];have C7t:(zeroValue q.2).run C.P w=.ok zv w:=by simp[zeroValue,typeInfo,BP,TW]
   simp only[Sem.run_bind,run_underlying hu,Result.andThen_ok,hgo,Sem.run_pure,run_checkKey hku B36,Instr.findKey,run_underlying hku,g1,C7t]
  ·obtain⟨-,-,rv⟩:=b4 j e n g0 (by simpa using g0');refine fin e.2 n.val true (by rw[g2];rfl) (by rw[g2];rfl) rv ?_;unfold Instr.lookup;rw[e1.2];simp only[Sem.run_bind,run_underlying hu,Result.andThen_ok,hgo,Sem.run_pure,run_checkKey hku B36,Instr.findKey,run_underlying hku,g1]
 ·simp at H
def A9a{α : Type}(xs:Array α)(j i:Nat)(f : α -> α):(xs.modify j f)[i]?=if j=i then xs[i]?.map f else xs[i]?:=by rw[Array.getElem?_modify]
variable {ens:Array MapEntry}{clk:Nat}
def wL.push(h:wL ens clk)(e:MapEntry)(he:e.born=clk):wL (ens.push e) (clk+1):=by
 refine⟨λj n hn=>?_,λi j m n hm hn hb=>?_⟩
 ·rw[zHq]at hn;split at hn
  ·simp only[D9]at hn;subst hn;omega
  ·have:=h.1 j n hn;omega
 ·rw[zHq]at hm hn;split at hm<;>split at hn
  ·omega
  ·simp only[D9]at hm;subst hm;have:=h.1 j n hn;omega
  ·simp only[D9]at hn;subst hn;have:=h.1 i m hm;omega
  ·exact h.2 i j m n hm hn hb
def wL.modify(h:wL ens clk)(j:Nat){f:MapEntry->MapEntry}(hf:∀e,(f e).born=e.born):wL (ens.modify j f) clk:=by
 have key:∀(i:Nat) n,(ens.modify j f)[i]?=some n->∃m,ens[i]?=some m/\m.born=n.born:=by
  intro i n hn;rw[A9a]at hn;split at hn
  ·cases hm:ens[i]? with
   |none=>rw[hm]at hn;cases hn
   |some m=>rw[hm]at hn;simp only[yiq,D9]at hn;subst hn;exact⟨m,rfl,(hf m).symm⟩
  ·exact⟨n,hn,rfl⟩
 refine⟨λi n hn=>?_,λi k m n hm hn hb=>?_⟩
 ·obtain⟨m,h1,h2⟩:=key i n hn;have:=h.1 i m h1;omega
 ·obtain⟨m',h1,h2⟩:=key i m hm;obtain⟨n',h3,h4⟩:=key k n hn;exact h.2 i k m' n' h1 h3 (by omega)
def B2o{y v u:Operand}(I1:o.op=.mapUpdate t y v u)(H:(ob (src C.P t st y) λr=>ob (src C.P 0 st v) λkey=>ob (src C.P 0 st u) λval=>ob (mapKeys C.P t) λq=>
 og (Ao q.1 key.1&&M6 key.2&&M6 val.2)
  (match r.2 with
    |.map i=>ob (X0 st.sg i) λp=>og (p.1==q.1) (k ({ st with sg:=st.sg.set i (.map q.1 (BJ p.2 key.1 val.1)) }.put o.dst (.I4 []) .val))
    |_=>none))=some x)(Rl:M9 E st a w.heap)(T:Then E w k x K):Gp C.P o a w K:=by
 obtain⟨r,h1,H⟩:=D8 H;obtain⟨key,h2,H⟩:=D8 H;obtain⟨val,h3,H⟩:=D8 H;obtain⟨q,hq,H⟩:=D8 H;obtain⟨hc,H⟩:=I9 H;simp only[zhq]at hc;obtain⟨⟨Xy,hkd⟩,hvd⟩:=hc;have e1:=Rl.src h1;have e2:=(Rl.src h2).data hkd;have e3:=(Rl.src h3).data hvd;split at H
 ·rename_i i hm;rw[hm]at e1;simp only[RR,O0]at e1;obtain⟨p,hp,H⟩:=D8 H;obtain⟨hpq,H⟩:=I9 H;have hpq:p.1=q.1:=by simpa using hpq
  have hp:=A9C hp;rw[hpq]at hp;obtain⟨ens,clk,b1,b2,⟨b3,b4⟩,b5⟩:=Rl.V8 i _ hp;obtain⟨kt,hu,BD⟩:=A3E hq;have rQ:∃kd,C.P.underlying kt=some kd/\((q.1=false/\kd=.int .i64)\/(q.1=true/\kd=.string)):=by
   rcases BD with⟨h3,h4⟩ | ⟨h3,h4⟩
   ·exact⟨_,h4,.inl ⟨h3,rfl⟩⟩
   ·exact⟨_,h4,.inr ⟨h3,rfl⟩⟩
  obtain⟨kd,hku,rQ⟩:=rQ;have B36:kd=.int .i64\/kd=.string:=by rcases rQ with h3 | h3<;>simp[h3.2]
  have F:=xR rQ Xy e2 val.1 p.2 ens.toList 0 (by simpa using b3) (λj e n g1 g2=>b4 j e n g1 (by simpa using g2));have hgo:(getObj (E.obj i)).run C.P w=.ok (.map ens clk) w:=by simp[getObj,Sem.run,b1]
  have C1C:E.obj i<w.heap.size:=(z7q.1 b1).1;have Kq:=(z0q.1 hp).1;have fin:∀(ens':Array MapEntry)(clk':Nat),C47 E.S w.heap q.1 (BJ p.2 key.1 val.1) ens'->wL ens' clk'->(Instr.mapUpdate t (a.eval y) (a.eval v) (a.eval u)).run C.P w=.ok () { w with heap:=w.heap.setIfInBounds (E.obj i) (.map ens' clk') }->Gp C.P o a w K:=by
   intro ens' clk' hR hB U7;have B7W:(w.heap.setIfInBounds (E.obj i) (.map ens' clk'))[E.obj i]?=some (.map ens' clk'):=zeq C1C;have hold:∀b,b≠E.obj i->(w.heap.setIfInBounds (E.obj i) (.map ens' clk'))[b]?=w.heap[b]?:=λb hb=>z8q (Ne.symm hb);have P1:Pr (λt=>t=.obj i) E w.heap E (w.heap.setIfInBounds (E.obj i) (.map ens' clk')):=by
    refine⟨by simp,λb hb=>?_,λ_ _ _ _=>rfl,zjq _,λ_ _ _=>⟨rfl,rfl,rfl⟩,λ_ _=>rfl,Ee rfl⟩;by_cases bN:b=E.obj i
    ·subst bN;rw[b1];intro h0;exact absurd (b2 0) h0
    ·rw[hold b bN];exact Y4.refl _ _
   have hs:=P1.U0 (by simp) Rl.fresh;have R1:M9 E { st with sg:=st.sg.set i (.map q.1 (BJ p.2 key.1 val.1)) } a (w.heap.setIfInBounds (E.obj i) (.map ens' clk')):=by
    refine⟨Rl.size,Rl.Ba,Rl.Dm,by simpa using Rl.n,λt v hv=>(Rl.AA t v hv).mono P1 hs (by simp) (by simp),λs' cs' FD=>(Rl.Ad s' cs' FD).mono P1 hs (by simp) (by simp),λi' ob hi=>?_,λb o' HV=>Rl.fresh b o' (by simpa using HV)⟩;by_cases EE:i=i'
    ·subst EE;simp only[z6q Kq,D9]at hi;subst hi;refine⟨ens',clk',B7W,b2,⟨hR.1,λj e n g1 g2=>?_⟩,hB⟩;obtain⟨c1,c2,c3⟩:=hR.2 j e n g1 g2;exact⟨c1,c2.mono hs,c3.mono hs⟩
    ·simp only[z2q EE]at hi;exact(Rl.V8 i' ob hi).mono P1 hs (Dc Rl hi) (by simp;exact λh=>EE h.symm) (by simp)
   refine Ou (w':={ w with heap:=w.heap.setIfInBounds (E.obj i) (.map ens' clk') }) ?_ (T E _ _ { w with heap:=w.heap.setIfInBounds (E.obj i) (.map ens' clk') } H (R1.put λt0 _=>?_) (P1.Au (by rintro T rfl;simp[Q4])))
   ·simp only[execOp,I1]
    exact C3f U7
   ·simp only[RR,O0,RV]
    exact⟨#[],rfl,by simp[TJ]⟩
  have C5U:∀(ens':Array MapEntry)(clk':Nat),(setObj (E.obj i) (.map ens' clk')).run C.P w=.ok () { w with heap:=w.heap.setIfInBounds (E.obj i) (.map ens' clk') }:=by intro ens' clk';simp[setObj,Sem.run,b1]
  rcases F with⟨g1,g2,g3⟩ | ⟨j,e,n,g0,g0',g1,g2,g3,g4,g5⟩
  ·refine fin (ens.push { key:=a.eval v,val:=a.eval u,born:=clk }) (clk+1) ?_ (b5.push _ rfl) ?_
   ·rw[g3];refine⟨by simp[b3],λj e n h1 h2=>?_⟩;by_cases hj:j<p.2.length
    ·rw[z3q hj]at h1;rw[zHq,C8 (by omega)]at h2;exact b4 j e n h1 h2
    ·have hj1:j=p.2.length:=by have:=(z0q.1 h1).1;simp at this;omega
     subst hj1;rw[z5q (zjq _)]at h1;simp only[yjq,ziq,D9]at h1;rw[zHq,D5 b3]at h2;simp only[D9]at h2;subst h1 h2;exact⟨Xy,e2,e3⟩
   ·unfold Instr.mapUpdate;rw[e1.2];simp only[Sem.run_bind,run_underlying hu,Result.andThen_ok,hgo,run_checkKey hku B36,Instr.findKey,run_underlying hku,g1,Sem.run_pure];exact C5U _ _
  ·have hjl:j<ens.size:=by have:=(z0q.1 g0').1;simpa using this
   have hn:ens[j]?=some n:=by simpa using g0'
   refine fin (ens.modify j λe=>{ e with key:=a.eval v,val:=a.eval u }) clk ?_ (b5.modify j λ_=>rfl) ?_
   ·rw[g3];refine⟨by simp[b3],λj' e' n' h1 h2=>?_⟩;rw[A9a]at h2;by_cases hjj:j=j'
    ·subst hjj;rw[D5 rfl,hn]at h2;simp only[yiq,D9]at h2;rw[z6q (z0q.1 g0).1]at h1;simp only[D9]at h1;subst h1 h2;exact⟨by rw[g5];exact Xy,by rw[g5];exact e2,e3⟩
    ·rw[C8 hjj]at h2;rw[z2q hjj]at h1;exact b4 j' e' n' h1 h2
   ·unfold Instr.mapUpdate;rw[e1.2];have C7s:(Instr.keyThatStays n.key (a.eval v)).run C.P w=.ok (a.eval v) w:=by
     unfold Instr.keyThatStays;have:Instr.sameBits 10000 n.key (a.eval v)=true:=by
      rw[g4];rcases rQ with⟨h3,-⟩ | ⟨h3,-⟩
      ·rw[h3]at Xy;cases hk1:key.1<;>rw[hk1]at Xy e2<;>simp only[Ao,zbq,ybq,zVq]at Xy;rw[Cc]at e2;rw[e2];simp[Instr.sameBits]
      ·rw[h3]at Xy;cases hk1:key.1<;>rw[hk1]at Xy e2<;>simp only[Ao,zbq,yhq,ycq]at Xy;rw[ai]at e2;rw[e2];simp only[Instr.sameBits];rw[beq_toListBytes];simp
     rw[D5 this];rfl
    simp only[Sem.run_bind,run_underlying hu,Result.andThen_ok,hgo,run_checkKey hku B36,Instr.findKey,run_underlying hku,g1,Sem.run_pure,zfq,hn,yiq,zwq,C7s];exact C5U _ _
 ·simp at H
def M9.yn(Rl:M9 E st a w.heap){t i:Nat}{ms:List H6}(hm:(st.get t).2=.DJ ms)(RP:ms[i]?=some .own)(P8:t<st.mt.length){f:Tag->Tag}(hf:∀T,T ≠ .sp 0 t (i+1)->f T=T):
 M9 (E.re f) { st with mt:=st.mt.set t (.DJ (ms.set i .val)) } a w.heap:=by
 have Ia:f .U0=.U0:=hf _ (by simp);have RN:f .other=.other:=hf _ (by simp);have P:Pr (λT=>T=.sp 0 t (i+1)) E w.heap (E.re f) w.heap:=Pr.re λT hT=>hf T hT;have M3:AZ E.S w.heap (E.re f).S w.heap:=NA Ia;refine⟨Rl.size,by simpa using Rl.Ba,Rl.Dm,Rl.n,λu v hu=>?_,λs cs hs=>(Rl.Ad s cs hs).mono P M3 (by simp) (by simp),λj ob hj=>(Rl.V8 j ob hj).mono P M3 (Dc Rl hj) (by simp) (by simp),λb o hb=>?_⟩
 ·have h0:=Rl.AA u v hu;by_cases hut:t=u
  ·subst hut;have hg:St.get { st with mt:=st.mt.set t (.DJ (ms.set i .val)) } t=((st.get t).1,.DJ (ms.set i .val)):=by simp[St.get,z1q,z6q P8]
   rw[hg];rw[hm]at h0;simp only[RR]at h0 ⊢;obtain⟨ds,vs,h1,h2,h3,h4,h5⟩:=h0;refine⟨ds,vs,h1,h2,by simpa using h3,by simpa using h4,λj m' d' u' e1 e2 e3=>?_⟩;by_cases hj:i=j
   ·subst hj;have hil:i<ms.length:=by have:=(z0q.1 e1).1;simpa using this
    rw[z6q hil]at e1;simp only[D9]at e1;subst e1;obtain⟨a0,a4⟩:=h5 i _ d' u' RP e2 e3;exact⟨rfl,RV.mono M3 _ a4.1⟩
   ·rw[z2q hj]at e1;obtain⟨a0,a4⟩:=h5 j m' d' u' e1 e2 e3;exact⟨a0,a4.re Ia (hf _ (by simp;exact λh=>hj h.symm))⟩
  ·have hg:St.get { st with mt:=st.mt.set t (.DJ (ms.set i .val)) } u=st.get u:=by simp[St.get,z1q,z2q hut]
   rw[hg];exact h0.re Ia RN λb=>hf _ (by simp;intro h;exact absurd h.symm hut)
 ·simp only[Env.re];rw[Rl.fresh b o hb,RN]
def B52{fl:I5}{y:Operand}{i:Nat}(I1:o.op=.extract y i)(H:(ob (src C.P 0 st y) λr=>
 match r.2 with
 |.val=>ob (K5 i r.1) λd=>k (st.put o.dst d .val)
 |.DJ ms=>ob (K5 i r.1) λd=>
   match ms.getD i .val with
   |.own=>if M4 fl.Q6 o.dst then k ((st.yn y (.DJ (ms.set i .val))).put o.dst d .own)else k (st.put o.dst d .val)
   |.val=>k (st.put o.dst d .val)
   |_=>none
 |_=>none)=some x)(Rl:M9 E st a w.heap)(T:Then E w k x K):Gp C.P o a w K:=by
 obtain⟨r,h1,H⟩:=D8 H;split at H
 ·rename_i hm;obtain⟨d,hd,H⟩:=D8 H;exact C4r I1 h1 hm hd rfl H Rl @T
 ·rename_i ms hm;obtain⟨d,hd,H⟩:=D8 H;have e1:=Rl.src h1;rw[hm]at e1;simp only[RR]at e1;obtain⟨ds,vs,hr,hv,l1,l2,l3⟩:=e1;obtain⟨cs,Bh,hdi⟩:=B05 hd;rw[hr]at Bh;simp only[DV.I4.injEq]at Bh;subst Bh;have hi:i<ds.length:=(z0q.1 hdi).1;have hmi:ms[i]?=some (ms.getD i .val):=by simp[z1q,z4q (by omega:i<ms.length)]
  have hvi:vs[i]?=some (vs[i]'(by omega)):=zyq (by omega);obtain⟨a0,a4⟩:=l3 i _ d _ hmi hdi hvi;have U7:(execOp a.eval o).run C.P w=.ok (.value (vs[i]'(by omega))) w:=by simp only[execOp,I1];refine Bf ?_;simp only[Instr.extract,hv,hvi,Sem.run_pure]
  split at H
  ·rename_i hmo;rw[hmo]at a4;by_cases V9:M4 fl.Q6 o.dst=true
   ·rw[D5 V9]at H;have H2:=H;clear H;have hy:∃t,y=.tmp t:=by
     cases y with
     |tmp t=>exact⟨t,rfl⟩
     |const v=>exact absurd hm (λh=>(bB h1).2 ms h)
     |func f=>simp only[src,D9]at h1;subst h1;simp at hm
     |global g=>simp[src]at h1
    obtain⟨t,rfl⟩:=hy;simp only[src,D9]at h1;subst h1;simp only[vZ]at a4;cases Il:o.dst with
    |none=>rw[Il]at V9;simp[M4]at V9
    |some t0=>
      rw[Il]at H2;refine BM U7 ?_;rw[Il];have htl:t<st.mt.length:=by
       rcases zoq t st.mt.length with h1 | h1
       ·exact h1
       ·rw[pE (by rw[<- Rl.Ba];exact h1) Rl.Ba]at hm;simp at hm
      refine T (E.re (Sn (.sp 0 t (i+1)) t0)) _ _ w H2 ((Rl.yn hm (by rw[hmi,hmo]) htl λT hT=>Jq hT).put λt1 ht=>?_) (Pr.re λT hT=>Jq λhe=>hT (by rw[he];simp[Q4]));simp only[D9]at ht;subst ht;exact RR.Bb (a4.re (Jq (by simp)) (by simp[Sn]))
   ·rw[C8 V9]at H;exact Ar U7 H Rl a4.1 @T
  ·rename_i hmo;rw[hmo]at a4;exact Ar U7 H Rl a4 @T
  ·simp at H
 ·simp at H
end
end Go.Su

/-
 THE DATA MACHINE, part 16: append.
-/
namespace Go.Su
set_option linter.defProp false
def JY(S:AL)(h:Heap)(sz:Nat)(ds:List DV)(all:List Value):Prop :=all.length=ds.length * sz/\∀(i:Nat) d,ds[i]?=some d->∃vs:List Value,vs.length=sz/\(∀(j:Nat) u,vs[j]?=some u->all[i * sz+j]?=some u)/\RC S h d vs
variable {S:AL}{h:Heap}{sz:Nat}{ds:List DV}{all:List Value}
def JY.mono{S':AL}{h':Heap}(M3:AZ S h S' h')(H:JY S h sz ds all):JY S' h' sz ds all :=⟨H.1,λi d hd=>let⟨vs,v1,v2,v3⟩:=H.2 i d hd;⟨vs,v1,v2,v3.mono M3⟩⟩
def A01{S:AL}{h:Heap}{sz b:Nat}:∀{ds:List DV}{o:Nat},Ez S h sz b o ds->∃all,JY S h sz ds all/\∀(j:Nat) u,all[j]?=some u->hc h b (o+j)=some u/\S b (o+j)
 |[],o,_=>⟨[],⟨by simp,by simp⟩,by simp⟩
 |d::ds,o,H=>by
   simp only[Ez]at H;obtain⟨⟨vs,v1,v2,v3⟩,H⟩:=H;obtain⟨all,⟨l1,l2⟩,l3⟩:=A01 H;refine⟨vs++all,⟨by simp[l1,v1,zJq];omega,λi d' hd=>?_⟩,λj u hu=>?_⟩
   ·cases i with
    |zero=>simp only[ziq,D9]at hd;subst hd;refine⟨vs,v1,λj u hu=>?_,v3⟩;rw[zKq,zfq,z3q (z0q.1 hu).1];exact hu
    |succ i=>simp only[zlq]at hd;obtain⟨us,u1,u2,u3⟩:=l2 i d' hd;refine⟨us,u1,λj u hu=>?_,u3⟩;rw[z5q (by rw[v1,zJq];omega),v1];rw[show(i+1) * sz+j-sz=i * sz+j from by rw[zJq];omega];exact u2 j u hu
   ·by_cases hj:j<vs.length
    ·rw[z3q hj]at hu;exact v2 j u hu
    ·rw[z5q (by omega)]at hu;have:=l3 _ u hu
     rwa [show o+sz+(j-vs.length)=o+j from by omega]at this
def zT{b o:Nat}(H:JY S h sz ds all)(hc:∀(j:Nat) u,all[j]?=some u->Su.hc h b (o+j)=some u/\S b (o+j)):Ez S h sz b o ds:=by
 refine FL.2 λi d hd=>?_;obtain⟨vs,v1,v2,v3⟩:=H.2 i d hd;refine⟨vs,v1,λj u hu=>?_,v3⟩;have:=hc _ u (v2 j u hu)
 rwa [<- zQq]at this
def JY.append{es:List DV}{A B:List Value}(H:JY S h sz ds A)(G:JY S h sz es B):JY S h sz (ds++es) (A++B):=by
 refine⟨by simp[H.1,G.1,zqq],λi d hd=>?_⟩;by_cases hi:i<ds.length
 ·rw[z3q hi]at hd;obtain⟨vs,v1,v2,v3⟩:=H.2 i d hd;refine⟨vs,v1,λj u hu=>?_,v3⟩;have hj:j<sz:=by have:=(z0q.1 hu).1;omega
  have:=seg_lt hi hj;rw[z3q (by rw[H.1];exact this)];exact v2 j u hu
 ·rw[z5q (by omega)]at hd;obtain⟨vs,v1,v2,v3⟩:=G.2 _ d hd;refine⟨vs,v1,λj u hu=>?_,v3⟩;have e:i * sz+j=ds.length * sz+((i-ds.length) * sz+j):=by rw[<- zQq,<- zqq];congr 2;omega
  rw[e,<- H.1,z5q (by omega),Nat.add_sub_cancel_left];exact v2 j u hu
def JY.one(hs:0<sz)(H:JY S h sz ds all):∀u∈all,u.oneCell'=true:=by
 intro u hu;obtain⟨j,hj,vP⟩:=y5q.1 hu;have P8:j<ds.length * sz:=by rw[<- H.1];exact hj
 have hi:j / sz<ds.length:=(Nat.div_lt_iff_lt_mul hs).2 P8;obtain⟨vs,v1,v2,v3⟩:=H.2 (j / sz) _ (z4q hi);have hm:j % sz<vs.length:=by rw[v1];exact Nat.mod_lt _ hs
 have h1:=v2 (j % sz) _ (z4q hm);rw[Nat.mul_comm,Nat.div_add_mod,z4q hj,vP]at h1;simp only[D9]at h1;obtain⟨q1,q2⟩:=Sc v3 (z4q hm);rw[h1];exact Lu q1 q2
def B1m(n:Nat):∀(r c:Nat),c<n+1->Builtin.growBy n r c<=2 * n+192
 |0,c,h=>by simp[Builtin.growBy];omega
 |r+1,c,h=>by
   simp only[Builtin.growBy]
   split
   ·omega
   ·rename_i P8;by_cases h2:c+(c+768) / 4<n+1
    ·exact B1m n r _ h2
    ·cases r with
     |zero=>simp only[Builtin.growBy];omega
     |succ r=>simp only[Builtin.growBy];rw[D5 (by omega)];omega
def B8e{need old:Nat}(h:old<need):Builtin.nextslicecap need old<=2 * need+192:=by
 unfold Builtin.nextslicecap;split
 ·omega
 ·split
  ·omega
  ·exact B1m need 4 old (by omega)
variable {P:Program}
def gY{t u:TypeId}(h:A8c P t u=some sz):∃e e' z i zv,P.underlying t=some (.slice e)/\P.underlying u=some (.slice e')/\tz P e=some z/\z.1=sz/\0<sz/\P.info? e=some i/\i.bytes<=2 ^ 14/\i.zero=some zv/\zv.cells.size=sz:=by
 unfold A8c at h;obtain⟨e,he,h⟩:=D8 h;obtain⟨e',he',h⟩:=D8 h;obtain⟨z,hz,h⟩:=D8 h;obtain⟨i,hi,h⟩:=D8 h;obtain⟨zs,Ya,h⟩:=D8 h;obtain⟨⟨h1,h2,h3⟩,h⟩:=O7 h;simp only[D9]at h;have ht:∀{t e:TypeId},Jl P t=some e->P.underlying t=some (.slice e):=by
  intro t e he;unfold Jl at he;split at he
  ·simp only[D9]at he;subst he;assumption
  ·simp at he
 obtain⟨inf,zv,BP,TW,A_⟩:=Ud Ya;rw[hi]at BP;simp only[D9]at BP;subst BP;have:=(A_ ⟨λ_=>0,λ_=>0,λ_=>0,λ_=>0,λ_ _=>.other,0,λ_=>0⟩ #[]).1;simp only[zDq]at this;exact⟨e,e',z,i,zv,ht he,ht he',hz,h,by omega,hi,h2,TW,by omega⟩
def B9n{d e r:DV}(h:AP sz d e=some r):∃ds es,d=.list sz ds/\e=.list sz es/\ds.length+es.length<=J9/\r=.list sz (ds++es):=by
 unfold AP at h;split at h
 ·obtain⟨⟨⟨h1,h2⟩,h3⟩,h⟩:=O7 h;simp only[D9]at h;subst h1 h2;exact⟨_,_,rfl,rfl,h3,h.symm⟩
 ·simp at h
def C38(st:St)(t:Nat)(d d':DV)(m m':H6):(st.put (some t) d m).put (some t) d' m'=st.put (some t) d' m':=by simp[St.put,yoq]
def A5q(a:Act)(t:Nat)(v v':Value):(a.put (some t) v).put (some t) v'=a.put (some t) v':=by
 have:(a.tmps.setIfInBounds t v).setIfInBounds t v'=a.tmps.setIfInBounds t v':=by
  apply Array.ext_getElem?;intro i;by_cases h:t=i
  ·subst h;by_cases hl:t<a.tmps.size
   ·rw[zeq (by simpa using hl),zeq hl]
   ·rw[y1q (by simpa using hl),y1q (by simpa using hl)]
  ·rw[z8q h,z8q h,z8q h]
 simp[Act.put,this]
section
variable {P:Program}{t u ty e e':TypeId}{inf:TypeInfo}{w:World}{b:Option Addr}{len cap n sz:Nat}{v:Value}{all':List Value}
theorem A6z(b:Option Addr)(n c:Nat):Builtin.lenOf (.slice b n c)=pure n:=rfl
def A9w(hu:P.underlying t=some (.slice e))(MI:P.underlying u=some (.slice e'))(BP:P.info? e=some inf)(hn:Builtin.lenOf v=pure n)(hv:(Builtin.firstCells inf.size n v).run P w=.ok all'.toArray w)(Bp:len+n<=cap):(Builtin.append_ #[t,u] ty #[.slice none len cap,v]).run P w=.ok (.slice none (len+n) cap) w:=by unfold Builtin.append_;simp[run_underlying hu,run_underlying MI,sizeOf,typeInfo,BP,hn,Bp,hv]
def MQ{y:Addr}{w':World}(hu:P.underlying t=some (.slice e))(MI:P.underlying u=some (.slice e'))(BP:P.info? e=some inf)(hn:Builtin.lenOf v=pure n)(hv:(Builtin.firstCells inf.size n v).run P w=.ok all'.toArray w)(Bp:len+n<=cap)(V9:(storeCells (y.add (len * inf.size)) all').run P w=.ok () w'):(Builtin.append_ #[t,u] ty #[.slice (some y) len cap,v]).run P w=.ok (.slice (some y) (len+n) cap) w':=by unfold Builtin.append_;simp[run_underlying hu,run_underlying MI,sizeOf,typeInfo,BP,hn,Bp,hv,V9]
def run_append_grow{zv:Value}(hu:P.underlying t=some (.slice e))(MI:P.underlying u=some (.slice e'))(BP:P.info? e=some inf)(hn:Builtin.lenOf v=pure n)(hv:∀w':World,w'.heap=w.heap->(Builtin.firstCells inf.size n v).run P w'=.ok all'.toArray w')(hs:∀w':World,w'.heap=w.heap->(Builtin.firstCells inf.size len (.slice b len cap)).run P w'=.ok all.toArray w')(TW:inf.zero=some zv)(Bp:¬len+n<=cap)(B9Q:len+n<=4294967296)(hb:inf.bytes<=2 ^ 14):
 ∃nc,len+n<=nc/\(Builtin.append_ #[t,u] ty #[.slice b len cap,v]).run P w=.ok (.slice (some ⟨w.heap.size,0,none⟩) (len+n) nc) (w.drew.alloc (.cells (all++all'++(Builtin.zeroCells zv.cells (nc-(len+n))).toList).toArray e)):=by
 refine⟨(Question.appendCap (len+n) cap e).cut (w.tape w.drawn (Question.appendCap (len+n) cap e)),by simp only[Question.cut];omega,?_⟩;have A3y:Builtin.nextslicecap (len+n) cap * inf.bytes<=2 ^ 48:=by
  have h1:=B8e (need:=len+n) (old:=cap) (by omega)
  calc Builtin.nextslicecap (len+n) cap * inf.bytes<=(2 * 4294967296+192) * 2 ^ 14:=Nat.mul_le_mul (by omega) hb
   _<=2 ^ 48:=by decide
 have C9H:¬(((len+n:Nat):Int)>IntKind.i64.max):=by rw[IntKind.max_i64];omega
 have C7h:¬(Builtin.nextslicecap (len+n) cap * inf.bytes>2 ^ 48):=by omega
 have q1:=hs w.drew rfl;have q2:=hv w.drew rfl;unfold Builtin.append_;have C7l:¬((9223372036854775807:Int)<(len:Int)+(n:Int)):=by omega
 simp[run_underlying hu,run_underlying MI,sizeOf,typeInfo,BP,hn,Bp,C7l,C7h,Question.forced,q1,q2,zeroValue,TW,newRow];refine congrArg (λz=>w.drew.alloc (.cells z e)) (Array.toList_inj.1 ?_);simp
end
section
variable {X:Type}{C:AB}{R:U1}{o:Oper}{st:St}{k:St->Option X}{x:X}{E:Env}{a:Act}{w:World}{K:Act->World->Prop}{Q:Exit->Act->World->Prop}
def ZV{b o':Nat}(H:∀(j:Nat) u,all[j]?=some u->hc w.heap b (o'+j)=some u):(loadCells ⟨b,o',none⟩ all.length).run P w=.ok all.toArray w:=by refine run_loadCells_list w _ all λj v hv=>?_;rw[Addr.add_lit,Vz];exact H j v hv
theorem Sj{v:Value}(H:RV S w.heap (.list sz ds) v):∃b len cap all,v=.slice b len cap/\len=ds.length/\len<=cap/\(b=none->cap=0)/\JY S w.heap sz ds all /\
 (∀y,b=some y->(0<cap->y=⟨y.block,y.off,none⟩)/\∀(j:Nat) u,all[j]?=some u->hc w.heap y.block (y.off+j)=some u/\S y.block (y.off+j))/\(b=none->all=[]) /\
 ∀w':World,w'.heap=w.heap->(Builtin.firstCells sz len v).run P w'=.ok all.toArray w':=by
 obtain⟨b,len,cap,rfl,h1,h2,h3,h4,h5⟩:=Pf H;cases b with
 |none=>have h0:=h3 rfl;have pI:ds=[]:=zgq (by omega);subst pI;exact⟨none,len,cap,[],rfl,h1,h2,h3,⟨by simp,by simp⟩,by simp,λ_=>rfl,λw' _=>rfl⟩
 |some y=>
   obtain⟨s1,s2⟩:=h5 y rfl;obtain⟨all,f1,f2⟩:=A01 s2;have hy:0<cap->y=⟨y.block,y.off,none⟩:=λhc=>by have s1:=s1 hc;cases y;simp only at s1;subst s1;rfl
   refine⟨some y,len,cap,all,rfl,h1,h2,h3,f1,λz hz=>?_,by simp,λw' hw=>?_⟩
   ·simp only[D9]at hz;subst hz;exact⟨hy,f2⟩
   ·have hl:len * sz=all.length:=by rw[f1.1,h1]
    show(loadCells y (len * sz)).run P w'=_;by_cases hc:0<cap
    ·rw[hl,hy hc];exact ZV (λj u hu=>by rw[hw];exact(f2 j u hu).1)
    ·have h0:len=0:=by omega
     have h9:all=[]:=zgq (by rw[<- hl,h0];simp);rw[h9,h0,zKq];rfl
def Env.Zf(E:Env)(b lo hi:Nat):Env:={ E with O:=λb' o=>if b'=b/\lo<=o/\o<hi then .U0 else E.O b' o }
def Env.newRow(E:Env)(b lo hi:Nat)(tg:Tag):Env:={ E with O:=λb' o=>if b'=b then(if o<lo then .U0 else if o<hi then tg else .other)else E.O b' o }
def B8E{fl:I5}{c:Call}{y v:Operand}{t u:TypeId}(I1:o.op=.call c)(B32:c.callee=.builtin .append)(ha:c.args.toList=[y,v])(ht:c.argTypes.toList=[t,u])(pJ:M4 fl.opn o.dst=false)(UT:M4 fl.Hf o.dst=false)(H:IA C fl o y v t u st k=some x)(Rl:M9 E st a w.heap)(T:Then E w k x K):Gp C.P o a w K:=by
 unfold IA at H;rw[C8 (by rw[UT];simp)]at H;obtain⟨r,h1,H⟩:=D8 H;obtain⟨s,h2,H⟩:=D8 H;obtain⟨sz,Ak,H⟩:=D8 H;obtain⟨hc,H⟩:=I9 H;rw[C8 (by rw[pJ];simp)]at H;obtain⟨d,hd,H⟩:=D8 H;simp only[zhq]at hc;obtain⟨⟨Ob,eT⟩,Il⟩:=hc;obtain⟨t0,Il⟩:=zAq.1 Il;obtain⟨e,e',z,inf,zv,hu,MI,hz,Hu,hpos,BP,lX,TW,Ya⟩:=gY Ak;obtain⟨ds,es,hr,hs,lY,rfl⟩:=B9n hd;have e1:=Rl.src h1;have e2:=(Rl.src h2).data eT;have e1d:RV E.S w.heap r.1 (a.eval y):=e1.data (by revert Ob;cases r.2<;>simp[Nf,M6]);rw[hr]at e1d;rw[hs]at e2;obtain⟨b,len,cap,all,ev,f1,f2,f3,f4,f5,f6,f7⟩:=Sj (P:=C.P) e1d;obtain⟨b',len',cap',all',ev',g1,g2,g3,g4,g5,g6,g7⟩:=Sj (P:=C.P) e2;have Gf:inf.size=sz:=by obtain⟨i',d',q1,-,q2,-⟩:=KV hz;rw[BP]at q1;simp only[D9]at q1;rw[<- Hu,q2,q1]
 have U7:∀v' w',(Builtin.append_ #[t,u] o.type #[a.eval y,a.eval v]).run C.P w=.ok v' w'->(execOp a.eval o).run C.P w=.ok (.value v') w':=by intro v' w' hv;refine Ga I1 B32 ?_;rw[Vw ht,show c.args.map a.eval=#[a.eval y,a.eval v]from by rw[Vw ha];simp];exact Bf hv
 rw[Il]at H;have UR:Builtin.lenOf (a.eval v)=pure len':=by rw[ev'];rfl
 have B9Q:ds.length+es.length<=4294967296:=lY;have xm:=g4.one hpos;by_cases Bp:len+len'<=cap
 ·-- it fits: the slice's own memory is written
  have R0:=Rl.release (x:=y) (f:=DL y 0 t0 0) λT hT=>IJ hT;have P0:Pr Q4 E w.heap (E.re (DL y 0 t0 0)) w.heap:=Pr.re λT hT=>IJ λt b _ he=>hT (by rw[he];simp[Q4]);have xk:AZ E.S w.heap (E.re (DL y 0 t0 0)).S w.heap:=NA (IJ (by simp));have hsp:∀p,b=some p->len<cap->∃cc TT f,w.heap[p.block]?=some (.cells cc TT f)/\p.off+cap * sz<=cc.size /\
   ∀o',p.off+len * sz<=o'->o'<p.off+cap * sz->(E.re (DL y 0 t0 0)).O p.block o'=.sp 0 t0 0/\¬(f.1<=o'/\o'<f.2):=by
   intro p hp P8;subst hp;have RP:r.2=.own:=by
    revert Ob e1;cases r.2<;>intro Ob e1<;>simp only[Nf,zbq]at Ob
    ·simp only[RR,O0]at e1;obtain⟨-,⟨q,n,hq⟩,-⟩:=e1;rw[ev]at hq;simp only[Value.slice.injEq]at hq;omega
    ·rfl
   rw[RP]at e1;simp only[RR,O0]at e1;obtain⟨-,sz',ds',hl,hS⟩:=e1;rw[hr]at hl;simp only[DV.list.injEq]at hl;obtain⟨cc,TT,f,c1,c2,c3⟩:=hS p len cap ev P8;rw[<- hl.1]at c2 c3;refine⟨cc,TT,f,c1,c2,λo' h3 h4=>?_⟩;obtain⟨c4,c5⟩:=c3 o' h3 h4;refine⟨?_,c5⟩;have hy:∃i,y=.tmp i:=by
    cases y with
    |tmp i=>exact⟨i,rfl⟩
    |const v=>exact absurd RP (bB h1).1
    |func f=>simp only[src,D9]at h1;subst h1;simp at RP
    |global g=>simp[src]at h1
   obtain⟨i,rfl⟩:=hy;simp only[Env.re];rw[c4];simp[DL,vZ]
  by_cases hn:len'=0
  ·-- nothing is appended
   have hes:es=[]:=zgq (by omega);have C7e:all'=[]:=zgq (by rw[g4.1,hes];simp);have Bh:(Builtin.append_ #[t,u] o.type #[a.eval y,a.eval v]).run C.P w=.ok (.slice b (len+len') cap) w:=by
    rw[ev];cases b with
    |none=>exact A9w hu MI BP UR (by rw[Gf];exact g7 w rfl) Bp
    |some p=>exact MQ hu MI BP UR (by rw[Gf];exact g7 w rfl) Bp (by rw[C7e];rfl)
   refine BM (U7 _ _ Bh) (T _ _ _ w H ?_ P0);rw[Il];refine R0.put λt1 ht1=>?_;simp only[D9]at ht1;subst ht1;rw[hes,zIq,hn,zEq,<- ev];refine RR.Bb ⟨e1d.mono xk,_,_,rfl,λp B_ cap1 hq P8=>?_⟩;rw[ev]at hq;simp only[Value.slice.injEq]at hq;obtain⟨rfl,rfl,rfl⟩:=hq;exact hsp p rfl P8
  ·-- the cells behind are written, and sealed
   cases b with
   |none=>have:=f3 rfl;omega
   |some p=>
     obtain⟨hp,-⟩:=f5 p rfl;have hp:=hp (by omega);obtain⟨cc,TT,f,c1,c2,c3⟩:=hsp p rfl (by omega);have C2U:all'.length=len' * sz:=by rw[g4.1,g1]
     have hmul:(len+len') * sz<=cap * sz:=zcq _ Bp;have A82:(len+len') * sz=len * sz+len' * sz:=zqq _ _ _;have C7o:0<len' * sz:=ypq (by omega) hpos;obtain⟨w',hw,S⟩:=KT (P:=C.P) (b:=p.block) (T:=TT) (f:=f) (p.off+len * sz) all' cc 0 w c1 (by omega) xm (λo' h3 h4=>(c3 o' (by omega) (by omega)).2);have Bh:(Builtin.append_ #[t,u] o.type #[a.eval y,a.eval v]).run C.P w=.ok (.slice (some p) (len+len') cap) w':=by rw[ev];refine MQ hu MI BP UR (by rw[Gf];exact g7 w rfl) Bp ?_;rw[Gf,hp,Addr.add_lit];exact hw
     simp only[zEq]at S;have R1:M9 (E.re (DL y 0 t0 0)) ((st.release y).put (some t0) .undef .val) (a.put (some t0) (.slice (some p) (len+len') cap)) w.heap:=R0.put λt1 _=>by simp only[RR,O0,RV]
     have PS:Pr (λT=>T=.sp 0 t0 0) (E.re (DL y 0 t0 0)) w.heap ((E.re (DL y 0 t0 0)).Zf p.block (p.off+len * sz) (p.off+len * sz+len' * sz)) w'.heap:=by
      refine⟨y2q S.size.symm,λb1 KF=>?_,λb1 o1 KF hT=>?_,zjq _,λ_ _ _=>⟨rfl,rfl,rfl⟩,λ_ _=>rfl,Ee rfl⟩
      ·by_cases bN:b1=p.block
       ·subst bN;rw[c1];obtain⟨c',q1,q2,q3⟩:=S.ex;refine⟨c',q1,q2,λj hj=>?_⟩;rw[q3 j,C8];rintro⟨q4,q5⟩;exact hj (c3 j q4 (by omega)).1
       ·rw[S.rest b1 bN];exact Y4.refl _ _
      ·simp only[Env.Zf]
       rw[C8];rintro⟨rfl,q4,q5⟩;exact hT (c3 o1 q4 (by omega)).1
     have HY:=PS.U0 (by simp) R1.fresh;have R2:M9 ((E.re (DL y 0 t0 0)).Zf p.block (p.off+len * sz) (p.off+len * sz+len' * sz)) ((st.release y).put (some t0) .undef .val) (a.put (some t0) (.slice (some p) (len+len') cap)) w'.heap:=by
      refine⟨R1.size,R1.Ba,R1.Dm,R1.n,λq vq hq=>?_,λs' cs' FD=>(R1.Ad s' cs' FD).mono PS HY (by simp) (by simp),λi' ob hi=>(R1.V8 i' ob hi).mono PS HY (by rw[<- R1.n];exact(z0q.1 hi).1) (by simp) (by simp),λb1 o1 KF=>?_⟩
      ·have h0:=R1.AA q vq hq;by_cases hqt:t0=q
       ·subst hqt;have C1G:t0<(st.release y).tm.length:=by have:=(z7q.1 hq).1;rw[U3]at this;rw[<- R0.size];exact this
        rw[Rc C1G R0.Ba];simp only[RR,O0,RV]
       ·exact h0.mono PS HY (by simp;exact λhh=>absurd hh.symm hqt) (by simp)
      ·have TU:w.heap.size<=b1:=by rw[<- S.size];exact KF
       simp only[Env.Zf];rw[C8]
       ·exact R1.fresh b1 o1 TU
       ·rintro⟨rfl,-⟩;have:=(z7q.1 c1).1;omega
     have C5K:RR ((E.re (DL y 0 t0 0)).Zf p.block (p.off+len * sz) (p.off+len * sz+len' * sz)) w'.heap 0 t0 (.list sz (ds++es)) .own (.slice (some p) (len+len') cap):=by
      refine RR.Bb ⟨?_,_,_,rfl,λp1 B_ cap1 hq P8=>?_⟩
      ·have C9q:=xk;refine OP (by simp;omega) Bp (by simp) (λ_=>hpos) λp1 hp1=>?_;simp only[D9]at hp1;subst hp1;refine⟨λ_=>by rw[hp],zT (((f4.mono xk).mono HY).append ((g4.mono xk).mono HY)) λj q hq=>?_⟩;by_cases hj:j<all.length
       ·rw[z3q hj]at hq;obtain⟨q1,q2⟩:=(f5 p rfl).2 j q hq;exact⟨HY.c _ _ _ (xk.s _ _ q2) q1,HY.s _ _ (xk.s _ _ q2)⟩
       ·rw[z5q (by omega)]at hq;have hal:all.length=len * sz:=by rw[f4.1,f1]
        have hjl:j-all.length<all'.length:=(z0q.1 hq).1;obtain⟨c',q1,q2,q3⟩:=S.ex;constructor
        ·unfold hc;rw[q1];show c'[p.off+j]?=some q;rw[q3,D5 (by omega),<- hq];congr 1;omega
        ·simp only[Env.S,Env.Zf]
         rw[D5 (by refine⟨trivial,?_,?_⟩<;>omega)]
      ·simp only[Value.slice.injEq,D9]at hq;obtain⟨rfl,rfl,rfl⟩:=hq;obtain⟨c',q1,q2,q3⟩:=S.ex;refine⟨c',TT,f,q1,by rw[q2];exact c2,λo' h3 h4=>?_⟩;rw[A82]at h3;obtain⟨c4,c5⟩:=c3 o' (by omega) h4;refine⟨?_,c5⟩;simp only[Env.Zf];rw[C8 (by omega)];exact c4
     refine BM (U7 _ _ Bh) (T _ _ _ w' H ?_ (P0.trans (PS.Au (by rintro T rfl;simp[Q4]))) S.out);rw[Il];have R3:=R2.put (dst:=some t0) (d:=.list sz (ds++es)) (m:=.own) (v:=.slice (some p) (len+len') cap) λt1 ht1=>by simp only[D9]at ht1;subst ht1;exact C5K
     rwa [C38,A5q]at R3
 ·-- a new block
  obtain⟨nc,hnc,Bh⟩:=run_append_grow (ty:=o.type) (b:=b) hu MI BP UR (by rw[Gf];exact g7) (by rw[Gf,<- ev];exact f7) TW Bp (by omega) lX;rw[<- ev]at Bh;have hal:all.length=len * sz:=by rw[f4.1,f1]
  have C5G:all'.length=len' * sz:=by rw[g4.1,g1]
  have X_:(Builtin.zeroCells zv.cells (nc-(len+len'))).toList.length=(nc-(len+len')) * sz:=by simp[Builtin.zeroCells,Ya]
  have C5W:(len+len') * sz+(nc-(len+len')) * sz=nc * sz:=by rw[<- zqq];congr 1;omega
  have A82:(len+len') * sz=len * sz+len' * sz:=zqq _ _ _;generalize hzc:(Builtin.zeroCells zv.cells (nc-(len+len'))).toList=zc at Bh X_;have P1:Pr (λ_=>False) E w.heap (E.newRow w.heap.size ((len+len') * sz) (nc * sz) (.sp 0 t0 0)) (w.heap.push (.cells (all++all'++zc).toArray e)):=by refine Pr.push (λb1 o1 KF _=>?_) (zjq _) (λ_ _ _=>⟨rfl,rfl,rfl⟩) (λ_ _=>rfl) (Ee rfl);simp only[Env.newRow];rw[C8 (by omega)]
  have HY:=P1.U0 (by simp) Rl.fresh;have R0:M9 E (st.release y) a w.heap:=Rl.release (x:=y) (f:=id) λ_ _=>rfl;have R1:=R0.push P1 rfl λb1 o1 KF=>by simp only[ydq]at KF;simp only[Env.newRow];rw[C8 (by omega)];exact Rl.fresh b1 o1 (by omega)
  refine BM (U7 _ _ Bh) (T _ _ _ (w.drew.alloc (.cells (all++all'++zc).toArray e)) H ?_ (P1.Au (by simp)));rw[Il];refine R1.put λt1 ht1=>?_;simp only[D9]at ht1;subst ht1;have IZ:∀(j:Nat),hc (w.heap.push (.cells (all++all'++zc).toArray e)) w.heap.size j=(all++all'++zc)[j]?:=λj=>by rw[A3x];simp
  refine RR.Bb ⟨?_,_,_,rfl,λp1 B_ cap1 hq P8=>?_⟩
  ·refine OP (by simp;omega) hnc (by simp) (λ_=>hpos) λp1 hp1=>?_;simp only[D9]at hp1;subst hp1;refine⟨λ_=>rfl,zT ((f4.mono HY).append (g4.mono HY)) λj q hq=>?_⟩;have hj:j<(all++all').length:=(z0q.1 hq).1;have BS:j<(len+len') * sz:=by simp at hj;omega
   constructor
   ·show hc _ w.heap.size (0+j)=_;rw[zfq,IZ,z3q hj];exact hq
   ·simp only[Env.S,Env.newRow,zfq,H5]
    rw[D5 BS]
  ·simp only[Value.slice.injEq,D9]at hq;obtain⟨rfl,rfl,rfl⟩:=hq;refine⟨_,e,(0,0),Og,by simp;omega,λo' h3 h4=>⟨?_,by simp⟩⟩;simp only[zfq]at h3 h4;simp only[Env.newRow,H5];rw[C8 (by omega),D5 h4]
end
end Go.Su

/-
 THE DATA MACHINE: slices whose last elements are open.
-/
namespace Go.Su
set_option linter.defProp false
def A8r{sz:Nat}{d e:DV}{p:List DV×List DV}(h:XE sz d e=some p):∃ds es,d=.list sz ds/\e=.list sz es/\ds.length+es.length<=J9/\0<es.length/\p=(ds,es):=by
 unfold XE at h;split at h
 ·obtain⟨⟨⟨h1,h2⟩,h3,h4⟩,h9⟩:=O7 h;simp only[D9]at h9;subst h1 h2;exact⟨_,_,rfl,rfl,h3,h4,h9.symm⟩
 ·simp at h
variable (E:Env)
def Env.C6i(b off lo hi:Nat):Env :={ E with obj:=λi=>if i=E.n then b else E.obj i,base:=λi=>if i=E.n then off else E.base i,top:=λi=>if i=E.n then hi else E.top i,n:=E.n+1,Bj:=λi=>if i=E.n then 0 else E.Bj i,O:=λb' o=>if b'=b/\lo<=o/\o<hi then .obj E.n else E.O b' o }
def Env.C6h(b lo hi:Nat):Env :={ E with obj:=λi=>if i=E.n then b else E.obj i,base:=λi=>if i=E.n then 0 else E.base i,top:=λi=>if i=E.n then hi else E.top i,n:=E.n+1,Bj:=λi=>if i=E.n then 0 else E.Bj i,O:=λb' o=>if b'=b then(if o<lo then .U0 else if o<hi then .obj E.n else .other)else E.O b' o }
section
variable {X:Type}{C:AB}{R:U1}{o:Oper}{st:St}{k:St->Option X}{x:X}{E:Env}{a:Act}{w:World}{K:Act->World->Prop}{Q:Exit->Act->World->Prop}{h:Heap}
def C0c{E:Env}{i b off cap sz:Nat}{ds es:List DV}{all':List Value}{c:Array Value}{T:TypeId}{f:Nat×Nat}(ho:E.obj i=b)(hb:E.base i=off)(ht:E.top i=off+cap * sz)(hpos:0<sz)(hc:h[b]?=some (.cells c T f))(Bp:ds.length+es.length<=cap)(IP:off+cap * sz<=c.size)(tags:∀o,off+ds.length * sz<=o->o<off+cap * sz->E.O b o=.obj i/\¬(f.1<=o/\o<f.2))(pre:∀(j:Nat) d,ds[j]?=some d->Elem E.S h sz b (off+j * sz) d)(G:JY E.S h sz es all')(cells:∀(j:Nat) u,all'[j]?=some u->c[off+ds.length * sz+j]?=some u):RO E h i (.opn sz ds es):=by
 simp only[RO];rw[ho,hb,ht];refine⟨c,T,f,hc,?_,IP,hpos,tags,pre,λj d hd=>?_⟩
 ·have:=zcq sz Bp;omega
 ·obtain⟨vs,v1,v2,v3⟩:=G.2 j d hd;refine⟨vs,v1,λy u hu=>?_,v3⟩;have:=cells _ u (v2 y u hu);rw[zqq]
  rwa [show off+(ds.length * sz+j * sz)+y=off+ds.length * sz+(j * sz+y)by omega]
variable {fl:I5}
def B0p{c:Call}{y v:Operand}{t u:TypeId}(I1:o.op=.call c)(B32:c.callee=.builtin .append)(ha:c.args.toList=[y,v])(ht:c.argTypes.toList=[t,u])(pJ:M4 fl.opn o.dst=true)(UT:M4 fl.Hf o.dst=false)(H:IA C fl o y v t u st k=some x)(Rl:M9 E st a w.heap)(T:Then E w k x K):Gp C.P o a w K:=by
 unfold IA at H;rw[C8 (by rw[UT];simp)]at H;obtain⟨r,h1,H⟩:=D8 H;obtain⟨s,h2,H⟩:=D8 H;obtain⟨sz,Ak,H⟩:=D8 H;obtain⟨hc,H⟩:=I9 H;rw[D5 pJ]at H;obtain⟨d2,hd,H⟩:=D8 H;simp only[zhq]at hc;obtain⟨⟨Ob,eT⟩,Il⟩:=hc;obtain⟨t0,Il⟩:=zAq.1 Il;obtain⟨e,e',z,inf,zv,hu,MI,hz,Hu,hpos,BP,lX,TW,Ya⟩:=gY Ak;obtain⟨ds,es,hr,hs,lY,hne,rfl⟩:=A8r hd;simp only at H;have e1:=Rl.src h1;have e2:=(Rl.src h2).data eT;have e1d:RV E.S w.heap r.1 (a.eval y):=e1.data (by revert Ob;cases r.2<;>simp[Nf,M6]);rw[hr]at e1d;rw[hs]at e2;obtain⟨b,len,cap,all,ev,f1,f2,f3,f4,f5,f6,f7⟩:=Sj (P:=C.P) e1d;obtain⟨b',len',cap',all',ev',g1,g2,g3,g4,g5,g6,g7⟩:=Sj (P:=C.P) e2;have Gf:inf.size=sz:=by obtain⟨i',d',q1,-,q2,-⟩:=KV hz;rw[BP]at q1;simp only[D9]at q1;rw[<- Hu,q2,q1]
 have U7:∀v' w',(Builtin.append_ #[t,u] o.type #[a.eval y,a.eval v]).run C.P w=.ok v' w'->(execOp a.eval o).run C.P w=.ok (.value v') w':=by intro v' w' hv;refine Ga I1 B32 ?_;rw[Vw ht,show c.args.map a.eval=#[a.eval y,a.eval v]from by rw[Vw ha];simp];exact Bf hv
 rw[Il]at H;have UR:Builtin.lenOf (a.eval v)=pure len':=by rw[ev'];rfl
 have B9Q:ds.length+es.length<=4294967296:=lY;have xm:=g4.one hpos;have hn:=Rl.n;by_cases Bp:len+len'<=cap
 ·-- it fits: the slice's own memory is written
  have R0:=Rl.release (x:=y) (f:=DL y 0 t0 0) λT hT=>IJ hT;have P0:Pr Q4 E w.heap (E.re (DL y 0 t0 0)) w.heap:=Pr.re λT hT=>IJ λt b _ he=>hT (by rw[he];simp[Q4]);have xk:AZ E.S w.heap (E.re (DL y 0 t0 0)).S w.heap:=NA (IJ (by simp));have hsp:∀p,b=some p->len<cap->∃cc TT f,w.heap[p.block]?=some (.cells cc TT f)/\p.off+cap * sz<=cc.size /\
   ∀o',p.off+len * sz<=o'->o'<p.off+cap * sz->(E.re (DL y 0 t0 0)).O p.block o'=.sp 0 t0 0/\¬(f.1<=o'/\o'<f.2):=by
   intro p hp P8;subst hp;have RP:r.2=.own:=by
    revert Ob e1;cases r.2<;>intro Ob e1<;>simp only[Nf,zbq]at Ob
    ·simp only[RR,O0]at e1;obtain⟨-,⟨q,n,hq⟩,-⟩:=e1;rw[ev]at hq;simp only[Value.slice.injEq]at hq;omega
    ·rfl
   rw[RP]at e1;simp only[RR,O0]at e1;obtain⟨-,sz',ds',hl,hS⟩:=e1;rw[hr]at hl;simp only[DV.list.injEq]at hl;obtain⟨cc,TT,f,c1,c2,c3⟩:=hS p len cap ev P8;rw[<- hl.1]at c2 c3;refine⟨cc,TT,f,c1,c2,λo' h3 h4=>?_⟩;obtain⟨c4,c5⟩:=c3 o' h3 h4;refine⟨?_,c5⟩;have hy:∃i,y=.tmp i:=by
    cases y with
    |tmp i=>exact⟨i,rfl⟩
    |const v=>exact absurd RP (bB h1).1
    |func f=>simp only[src,D9]at h1;subst h1;simp at RP
    |global g=>simp[src]at h1
   obtain⟨i,rfl⟩:=hy;simp only[Env.re];rw[c4];simp[DL,vZ]
  have hln:0<len':=by omega
  cases b with
  |none=>have:=f3 rfl;omega
  |some p=>
    obtain⟨hp,f5'⟩:=f5 p rfl;have hp:=hp (by omega);obtain⟨cc,TT,f,c1,c2,c3⟩:=hsp p rfl (by omega);have C2U:all'.length=len' * sz:=by rw[g4.1,g1]
    have hmul:(len+len') * sz<=cap * sz:=zcq _ Bp;have A82:(len+len') * sz=len * sz+len' * sz:=zqq _ _ _;have C7o:0<len' * sz:=ypq hln hpos;obtain⟨w',hw,S⟩:=KT (P:=C.P) (b:=p.block) (T:=TT) (f:=f) (p.off+len * sz) all' cc 0 w c1 (by omega) xm (λo' h3 h4=>(c3 o' (by omega) (by omega)).2);have Bh:(Builtin.append_ #[t,u] o.type #[a.eval y,a.eval v]).run C.P w=.ok (.slice (some p) (len+len') cap) w':=by rw[ev];refine MQ hu MI BP UR (by rw[Gf];exact g7 w rfl) Bp ?_;rw[Gf,hp,Addr.add_lit];exact hw
    simp only[zEq]at S;have R1:M9 (E.re (DL y 0 t0 0)) ((st.release y).put (some t0) .undef .val) (a.put (some t0) (.slice (some p) (len+len') cap)) w.heap:=R0.put λt1 _=>by simp only[RR,O0,RV]
    let E2:=(E.re (DL y 0 t0 0)).C6i p.block p.off (p.off+len * sz) (p.off+cap * sz)
    have B31:E2.n=E.n+1:=rfl;have PS:Pr (λT=>T=.sp 0 t0 0) (E.re (DL y 0 t0 0)) w.heap E2 w'.heap:=by
     refine⟨y2q S.size.symm,λb1 KF=>?_,λb1 o1 KF hT=>?_,yqq _,λi hi _=>?_,λ_ _=>rfl,iw rfl⟩
     ·by_cases bN:b1=p.block
      ·subst bN;rw[c1];obtain⟨c',q1,q2,q3⟩:=S.ex;refine⟨c',q1,q2,λj hj=>?_⟩;rw[q3 j,C8];rintro⟨q4,q5⟩;exact hj (c3 j q4 (by omega)).1
      ·rw[S.rest b1 bN];exact Y4.refl _ _
     ·show(if _ then _ else _)=_;rw[C8];rintro⟨rfl,q4,q5⟩;exact hT (c3 o1 q4 q5).1
     ·have hi':i≠(E.re (DL y 0 t0 0)).n:=Nat.ne_of_lt hi;refine⟨?_,?_,?_⟩<;>(show(if _ then _ else _)=_;rw[C8 hi'])
    have HY:=PS.U0 (by simp) R1.fresh;have oE:E2.obj E.n=p.block:=D5 rfl;have bE:E2.base E.n=p.off:=D5 rfl;have tE:E2.top E.n=p.off+cap * sz:=D5 rfl;have R2:M9 E2 { (st.release y).put (some t0) .undef .val with sg:=st.sg++[H7.opn sz ds es] } (a.put (some t0) (.slice (some p) (len+len') cap)) w'.heap:=by
     have sgR:(st.release y).sg=st.sg:=by cases y<;>rfl
     refine⟨R1.size,R1.Ba,R1.Dm,by simp[B31,hn],λq vq hq=>?_,λs' cs' FD=>(R1.Ad s' cs' FD).mono PS HY (by simp) (by simp),λi' ob hi=>?_,λb1 o1 KF=>?_⟩
     ·have h0:=R1.AA q vq hq;by_cases hqt:t0=q
      ·subst hqt;have C1G:t0<(st.release y).tm.length:=by have:=(z7q.1 hq).1;rw[U3]at this;rw[<- R0.size];exact this
       have hg:(St.get { (st.release y).put (some t0) .undef .val with sg:=st.sg++[H7.opn sz ds es] } t0)=(.undef,.val):=Rc C1G R0.Ba;rw[hg];simp only[RR,O0,RV]
      ·exact h0.mono PS HY (by simp;exact λhh=>absurd hh.symm hqt) (by simp)
     ·by_cases P8:i'<st.sg.length
      ·have hi:((st.release y).put (some t0) .undef .val).sg[i']?=some ob:=by have hi:(st.sg++[H7.opn sz ds es])[i']?=some ob:=hi;rw[z3q P8]at hi;rw[mU,sgR];exact hi
       exact(R1.V8 i' ob hi).mono PS HY (by rw[<- R1.n];exact(z0q.1 hi).1) (by simp) (by simp)
      ·have hi:(st.sg++[H7.opn sz ds es])[i']?=some ob:=hi;have Na:i'=st.sg.length:=by have:=(z0q.1 hi).1;simp at this;omega
       subst Na;simp only[z5q (zjq _),yjq,ziq,D9]at hi;subst hi;rw[hn];obtain⟨c',q1,q2,q3⟩:=S.ex;have hf1:=f1;have hg1:=g1;subst hf1;refine C0c (cap:=cap) (all':=all') oE bE tE hpos q1 (by omega) (by rw[q2];exact c2) (λo' h3 h4=>⟨?_,(c3 o' h3 h4).2⟩) (λj d hd=>?_) ((g4.mono xk).mono HY) λj u hu=>?_
       ·show(if _ then _ else _)=_;rw[D5 ⟨rfl,h3,h4⟩];rfl
       ·obtain⟨b0,len0,cap0,WJ,-,-,-,hel⟩:=Pf e1d;rw[ev]at WJ;simp only[Value.slice.injEq]at WJ;obtain⟨rfl,-,-⟩:=WJ;exact((FL.1 (hel.2 p rfl).2 j d hd).mono xk).mono HY
       ·have hjl:j<all'.length:=(z0q.1 hu).1;rw[q3,D5 (by omega),<- hu];congr 1;omega
     ·have TU:w.heap.size<=b1:=by rw[<- S.size];exact KF
      show(if _ then _ else _)=_;rw[C8]
      ·exact R1.fresh b1 o1 TU
      ·rintro⟨rfl,-⟩;have:=(z7q.1 c1).1;omega
    refine BM (U7 _ _ Bh) (T _ _ _ w' H ?_ (P0.trans (PS.Au (by rintro T rfl;simp[Q4]))) S.out);rw[Il];have R3:=R2.put (dst:=some t0) (d:=.undef) (m:=.arr st.sg.length sz 0 (ds.length+es.length)) (v:=.slice (some p) (len+len') cap) λt1 ht1=>by
     refine RR.Bb ⟨⟨by rw[B31,hn];omega,by rw[hn];exact D5 rfl⟩,some p,cap,by rw[f1,g1],λ_=>?_,by omega,by simp,λq hq=>?_,λ_=>?_⟩
     ·rw[hn,oE,bE,zKq,zEq,<- hp]
     ·simp only[D9]at hq;rw[<- hq,hp]
     ·rw[hn,bE,tE,zfq];exact zjq _
    rw[A5q]at R3;have e3:St.put { (st.release y).put (some t0) .undef .val with sg:=st.sg++[H7.opn sz ds es] } (some t0) .undef (.arr st.sg.length sz 0 (ds.length+es.length))=St.put { st.release y with sg:=st.sg++[H7.opn sz ds es] } (some t0) .undef (.arr st.sg.length sz 0 (ds.length+es.length)):=by simp[St.put,yoq]
    rwa [e3]at R3
 ·-- a new block
  obtain⟨nc,hnc,Bh⟩:=run_append_grow (ty:=o.type) (b:=b) hu MI BP UR (by rw[Gf];exact g7) (by rw[Gf,<- ev];exact f7) TW Bp (by omega) lX;rw[<- ev]at Bh;have hal:all.length=len * sz:=by rw[f4.1,f1]
  have C5G:all'.length=len' * sz:=by rw[g4.1,g1]
  have X_:(Builtin.zeroCells zv.cells (nc-(len+len'))).toList.length=(nc-(len+len')) * sz:=by simp[Builtin.zeroCells,Ya]
  have C5W:(len+len') * sz+(nc-(len+len')) * sz=nc * sz:=by rw[<- zqq];congr 1;omega
  have A82:(len+len') * sz=len * sz+len' * sz:=zqq _ _ _;generalize hzc:(Builtin.zeroCells zv.cells (nc-(len+len'))).toList=zc at Bh X_
  let E2:=E.C6h w.heap.size (len * sz) (nc * sz)
  have B31:E2.n=E.n+1:=rfl;have oE:E2.obj E.n=w.heap.size:=D5 rfl;have bE:E2.base E.n=0:=D5 rfl;have tE:E2.top E.n=nc * sz:=D5 rfl;have P1:Pr (λ_=>False) E w.heap E2 (w.heap.push (.cells (all++all'++zc).toArray e)):=by
   refine Pr.push (λb1 o1 KF _=>?_) (yqq _) (λi hi _=>?_) (λ_ _=>rfl) (iw rfl)
   ·show(if _ then _ else _)=_;rw[C8 (by omega)]
   ·have hi':i≠E.n:=Nat.ne_of_lt hi;refine⟨?_,?_,?_⟩<;>(show(if _ then _ else _)=_;rw[C8 hi'])
  have HY:=P1.U0 (by simp) Rl.fresh;have R0:M9 E (st.release y) a w.heap:=Rl.release (x:=y) (f:=id) λ_ _=>rfl;have sgR:(st.release y).sg=st.sg:=by cases y<;>rfl
  have IZ:∀(j:Nat),hc (w.heap.push (.cells (all++all'++zc).toArray e)) w.heap.size j=(all++all'++zc)[j]?:=λj=>by rw[A3x];simp
  have R2:M9 E2 { st.release y with sg:=st.sg++[H7.opn sz ds es] } a (w.heap.push (.cells (all++all'++zc).toArray e)):=by
   refine⟨R0.size,R0.Ba,R0.Dm,by simp[B31,hn],λq vq hq=>(R0.AA q vq hq).mono P1 HY (by simp) (by simp),λs' cs' FD=>(R0.Ad s' cs' FD).mono P1 HY (by simp) (by simp),λi' ob hi=>?_,λb1 o1 KF=>?_⟩
   ·by_cases P8:i'<st.sg.length
    ·have hi:(st.release y).sg[i']?=some ob:=by have hi:(st.sg++[H7.opn sz ds es])[i']?=some ob:=hi;rw[z3q P8]at hi;rw[sgR];exact hi
     exact(R0.V8 i' ob hi).mono P1 HY (by rw[<- R0.n];exact(z0q.1 hi).1) (by simp) (by simp)
    ·have hi:(st.sg++[H7.opn sz ds es])[i']?=some ob:=hi;have Na:i'=st.sg.length:=by have:=(z0q.1 hi).1;simp at this;omega
     subst Na;simp only[z5q (zjq _),yjq,ziq,D9]at hi;subst hi;rw[hn];have hf1:=f1;subst hf1;refine C0c (cap:=nc) (all':=all') oE bE (by rw[tE,zfq]) hpos Og (by omega) (by simp;omega) (λo' h3 h4=>⟨?_,by simp⟩) (λj d hd=>?_) (g4.mono HY) λj u hu=>?_
     ·show(if _ then _ else _)=_;rw[D5 rfl,C8 (by omega),D5 (by omega)]
     ·obtain⟨vs,v1,v2,v3⟩:=f4.2 j d hd;refine⟨vs,v1,λy' u hu=>?_,v3.mono HY⟩;have hy':y'<sz:=by have:=(z0q.1 hu).1;omega
      have h5:=v2 y' u hu;have h6:j * sz+y'<all.length:=(z0q.1 h5).1;refine⟨?_,?_⟩
      ·rw[zfq,IZ,zLq,z3q h6];exact h5
      ·show(if _ then _ else _)=_;rw[D5 rfl,zfq,D5 (by omega)]
     ·have hjl:j<all'.length:=(z0q.1 hu).1;rw[zfq,zMq,zLq,z5q (by omega),z3q (by omega),<- hu];congr 1;omega
   ·simp only[ydq]at KF;show(if _ then _ else _)=_;rw[C8 (by omega)];exact Rl.fresh b1 o1 (by omega)
  refine BM (U7 _ _ Bh) (T _ _ _ (w.drew.alloc (.cells (all++all'++zc).toArray e)) H ?_ (P1.Au (by simp)));rw[Il];refine R2.put λt1 ht1=>?_;refine RR.Bb ⟨⟨by rw[B31,hn];omega,by rw[hn];exact D5 rfl⟩,some ⟨w.heap.size,0,none⟩,nc,by rw[f1,g1],λ_=>?_,by omega,by simp,λq hq=>?_,λ_=>?_⟩
  ·rw[hn,oE,bE,zKq,zEq]
  ·simp only[D9]at hq;rw[<- hq]
  ·rw[hn,bE,tE,zfq,zfq];exact zjq _
def Env.wD(E:Env)(i lo:Nat)(tg:Tag):Env:={ E with O:=λb o=>if E.O b o=.obj i then(if o<lo then .U0 else tg)else E.O b o }
def yN(E:Env)(h:Heap)(i lo:Nat)(tg:Tag):Pr (λT=>T=.obj i) E h (E.wD i lo tg) h:=by refine⟨zjq _,λ_ _=>Y4.refl _ _,λb o _ hT=>?_,zjq _,λ_ _ _=>⟨rfl,rfl,rfl⟩,λ_ _=>rfl,Ee rfl⟩;show(if _ then _ else _)=_;rw[C8 hT]
def A3S{i sz:Nat}{pre ds:List DV}{tg:Tag}{v:Value}(hf:∀b o,h.size<=b->E.O b o=.other)(H:RO E h i (.opn sz pre ds))(G:O0 E h tg .undef (.arr i sz 0 (pre.length+ds.length)) v)(hne:0<pre.length+ds.length)(tg':Tag):
 O0 (E.wD i (E.base i+(pre.length+ds.length) * sz) tg') h tg' (.list sz (pre++ds)) .own v:=by
 have P:=yN E h i (E.base i+(pre.length+ds.length) * sz) tg';have M3:=P.U0 (by simp) hf;simp only[RO]at H;obtain⟨c,T,f,h1,h2,WI,hz,h3,h4,h5⟩:=H;simp only[O0]at G;obtain⟨g1,b,cap,rfl,g2,g3,g4,g5,g6⟩:=G;have g2:=g2 hne;have g6:=g6 hne;subst g2;simp only[zKq,zEq,zfq]at g6 ⊢;have q0:(pre.length+ds.length) * sz<=cap * sz:=zcq _ g3;refine⟨?_,sz,pre++ds,rfl,λp B_ cap1 hq P8=>?_⟩
 ·refine OP (by simp) g3 (by simp) (λ_=>hz) λp hp=>?_;simp only[D9]at hp;subst hp;refine⟨λ_=>rfl,FL.2 λj d hd=>?_⟩;by_cases hj:j<pre.length
  ·rw[z3q hj]at hd;exact(h4 j d hd).mono M3
  ·rw[z5q (by omega)]at hd;have hjd:j-pre.length<ds.length:=(z0q.1 hd).1;obtain⟨vs,v1,v2,v3⟩:=h5 _ d hd;have ej:pre.length+(j-pre.length)=j:=by omega
   rw[ej]at v2;refine⟨vs,v1,λy u hu=>?_,v3.mono M3⟩;have hy:y<sz:=by have:=(z0q.1 hu).1;omega
   have q1:pre.length * sz<=j * sz:=zcq _ (by omega);have q2:j * sz+y<(pre.length+ds.length) * sz:=by
    calc j * sz+y<j * sz+sz:=by omega
     _=(j+1) * sz:=by rw[zJq]
     _<=(pre.length+ds.length) * sz:=zcq _ (by omega)
   refine⟨?_,?_⟩
   ·unfold hc;rw[h1];exact v2 y u hu
   ·have e0:(E.wD i (E.base i+(pre.length+ds.length) * sz) tg').O (E.obj i) (E.base i+j * sz+y)=.U0:=by show(if _ then _ else _)=_;rw[D5 (h3 (E.base i+j * sz+y) (by omega) (by omega)).1,D5 (by omega)]
    exact e0
 ·simp only[Value.slice.injEq,D9]at hq;obtain⟨rfl,rfl,rfl⟩:=hq;refine⟨c,T,f,h1,by simp only;omega,λo' h6 h7=>?_⟩;simp only at h6 h7;have q1:pre.length * sz<=(pre.length+ds.length) * sz:=zcq _ (by omega);obtain⟨q2,q3⟩:=h3 o' (by omega) (by omega);refine⟨?_,q3⟩;show(if _ then _ else _)=_;rw[D5 q2,C8 (by omega)]
def zS{q:Nat×List DV×List DV}{sz len:Nat}{d:DV}(h:Kh q sz len=some d):q.1=sz/\q.2.1.length+q.2.2.length=len/\0<len/\d=.list sz (q.2.1++q.2.2):=by unfold Kh at h;obtain⟨⟨h1,h2,h3⟩,h⟩:=O7 h;simp only[D9]at h;exact⟨h1,h2,h3,h.symm⟩
def B7u{r:Nat}(H:iX r st k=some x)(Rl:M9 E st a h):∃E' st',k st'=some x/\M9 E' st' a h/\Pr Q4 E h E' h:=by
 unfold iX at H;split at H
 ·rename_i i sz len hm;obtain⟨q,hq,H1⟩:=D8 H;obtain⟨d,hd,H9⟩:=D8 H1;clear H H1;obtain⟨sz',pre,ds⟩:=q;obtain⟨c1,c2,c3,rfl⟩:=zS hd;simp only at c1 c2;subst c1 c2;have hq:=yM hq;have B:=Rl.V8 i _ hq;have hi:i<E.n:=by rw[<- Rl.n];exact(z0q.1 hq).1
  have Kq:=(z0q.1 hq).1
  let E':=E.wD i (E.base i+(pre.length+ds.length) * sz') (.sp 0 r 0)
  have P:Pr (λT=>T=.obj i) E h E' h:=yN E h i _ _;have M3:=P.U0 (by simp) Rl.fresh;refine⟨E',_,H9,?_,P.Au (by rintro T rfl;simp[Q4])⟩;refine⟨by rw[YL];exact Rl.size,by rw[YL,B4x];exact Rl.Ba,by rw[YL,ve];exact Rl.Dm,?_,λt v hv=>?_,λs cs hs=>?_,λj ob hj=>?_,λb o hb=>?_⟩
  ·rw[mU,ysq];exact Rl.n
  ·have h0:=Rl.AA t v hv;by_cases ht:r=t
   ·subst ht;have P8:r<st.tm.length:=by have:=(z7q.1 hv).1;rw[<- Rl.size];exact this
    rw[Rc (st:={ st with sg:=st.sg.set i (.arr 1 []) }) P8 Rl.Ba];rw[hm]at h0;simp only[RR]at h0;exact RR.Bb (A3S (tg:=.sp 0 r 0) Rl.fresh B (by simpa only[O0]using h0) c3 _)
   ·rw[ed ht];exact h0.mono P M3 (by simp) (by simp)
  ·rw[ve]at hs;exact(Rl.Ad s cs hs).mono P M3 (by simp) (by simp)
  ·rw[mU]at hj;by_cases PM:i=j
   ·subst PM;rw[z6q Kq]at hj;simp only[D9]at hj;subst hj;exact λhne=>absurd rfl hne
   ·rw[z2q PM]at hj;exact(Rl.V8 j ob hj).mono P M3 (by rw[<- Rl.n];exact(z0q.1 hj).1) (by simp;exact λh=>PM h.symm) (by simp)
  ·show(if _ then _ else _)=_;rw[Rl.fresh b o hb,C8 (by simp)]
 ·rename_i b off hm;obtain⟨cs,IP,H1⟩:=D8 H;obtain⟨q0,hca,H2⟩:=D8 H1;obtain⟨q,hq,H3⟩:=D8 H2;obtain⟨d,hd,H9⟩:=D8 H3;clear H H1 H2 H3;obtain⟨i,sz,len⟩:=q0;obtain⟨sz',pre,ds⟩:=q;obtain⟨c1,c2,c3,rfl⟩:=zS hd;simp only at c1 c2 H9 hq;subst c1 c2;have hq:=yM hq;have IP:=yK IP;have B:=Rl.V8 i _ hq;have BX:=Rl.V8 b _ IP;have Kq:=(z0q.1 hq).1;have C1C:=(z0q.1 IP).1;have hib:i≠b:=by rintro rfl;rw[hq]at IP;cases IP
  obtain⟨d0,lZ⟩:∃d0,cs[off]?=some (d0,.arr i sz' 0 (pre.length+ds.length)):=by
   unfold iW at hca;split at hca
   ·rename_i d0 i0 sz0 len0 heq;simp only[D9,Prod.mk.injEq]at hca;obtain⟨rfl,rfl,rfl⟩:=hca;exact⟨d0,heq⟩
   ·cases hca
  let E':=E.wD i (E.base i+(pre.length+ds.length) * sz') (.sp 2 b off)
  have P:Pr (λT=>T=.obj i) E h E' h:=yN E h i _ _;have M3:=P.U0 (by simp) Rl.fresh;refine⟨E',_,H9,?_,P.Au (by rintro T rfl;simp[Q4])⟩;refine⟨Rl.size,Rl.Ba,Rl.Dm,?_,λt v hv=>(Rl.AA t v hv).mono P M3 (by simp) (by simp),λs cs' hs=>(Rl.Ad s cs' hs).mono P M3 (by simp) (by simp),λj ob hj=>?_,λb' o hb=>?_⟩
  ·simp only[ysq];exact Rl.n
  ·by_cases PM:i=j
   ·subst PM;rw[z6q (by simpa using Kq)]at hj;simp only[D9]at hj;subst hj;exact λhne=>absurd rfl hne
   ·rw[z2q PM]at hj;by_cases hbj:b=j
    ·subst hbj;rw[z6q C1C]at hj;simp only[D9]at hj;subst hj;simp only[RO]at BX ⊢;have C5R:=(z0q.1 lZ).1;obtain⟨c,T,e1,e2,e3,e4⟩:=BX.mono P M3 (by simp;exact λh=>hib h.symm) (by simp);refine⟨c,T,e1,by simpa using e2,e3,λy r' v hr hv=>?_⟩;by_cases hy:off=y
     ·subst hy;rw[z6q C5R]at hr;simp only[D9]at hr;subst hr;obtain⟨c0,T0,f1,f2,f3,f4⟩:=BX;have UO:c0=c:=by have e1':h[E.obj b]?=some (.cells c T (0,0)):=e1;rw[f1]at e1';simp only[D9,Obj.cells.injEq]at e1';exact e1'.1
      subst UO;obtain⟨g1,g2,g3,g4⟩:=f4 off _ v lZ hv;exact⟨rfl,g2,rfl,A3S (tg:=.sp 2 b off) Rl.fresh B (by simpa only[O0]using g4) c3 _⟩
     ·rw[z2q hy]at hr;exact e4 y r' v hr hv
    ·rw[z2q hbj]at hj;exact(Rl.V8 j ob hj).mono P M3 (by rw[<- Rl.n];exact(z0q.1 hj).1) (by simp;exact λh=>PM h.symm) (by simp)
  ·show(if _ then _ else _)=_;rw[Rl.fresh b' o hb,C8 (by simp)]
 ·cases H
def A8n{id:Nat}(H:JI fl id st k=some x)(Rl:M9 E st a h):∃E' st',k st'=some x/\M9 E' st' a h/\Pr Q4 E h E' h:=by
 unfold JI at H;split at H
 ·exact B7u H Rl
 ·exact⟨E,st,H,Rl,Pr.refl _ _ _⟩
end
end Go.Su

/-
 THE DATA MACHINE, part 17: calls.
-/
namespace Go.Su
set_option linter.defProp false
structure Ext(S:AL)(h:Heap)(S':AL)(h':Heap):Prop where
 size:h.size<=h'.size
 blk:∀b,b<h.size->h'[b]?=h[b]?
 s:∀b o,b<h.size->(S' b o↔S b o)
 fresh:∀b o,h'.size<=b->¬S' b o
variable (P:Program)(f:FuncId)(ds:List DV)
def B8Z(d:DV):Prop :=∀(S:AL)(w:World)(vs:List Value),(∀b o,w.heap.size<=b->¬S b o)->TJ S w.heap ds vs->Calls P f vs.toArray w λe w'=>∃v S',e=.returned v/\Ext S w.heap S' w'.heap/\RV S' w'.heap d v/\W9 w w'
def B7l(E:Env)(h:Heap)(i:Nat)(k:MK)(d:DV)(v:Value):Prop :=
 match k with
 |.val=>RV E.S h d v
 |.own=>O0 E h (.sp 3 i 0) d .own v
 |.ptr=>O0 E h .other (Nn .ptr d).1 (Nn .ptr d).2 v
 |.dU n os=>RR E h 3 i d (.FW ((List.range n).map λi=>if os.contains i then .own else .val)) v
def B7k(E:Env)(h:Heap)(ks:List MK)(ds:List DV)(v:Value):Prop :=ds.length=ks.length/\∃vs:List Value,vs.length=ks.length/\v=(match vs with | [u]=>u | _=>.tuple vs.toArray) /\∀(i:Nat) k d u,ks[i]?=some k->ds[i]?=some d->vs[i]?=some u->B7l E h i k d u
def C2J(s:D_)(rs:List (DV×H6))(sg:List H7)(q:List DV×List H7):Prop :=
 ∀(E:Env)(w:World)(vs:List Value),(∀b o,w.heap.size<=b->E.O b o=.other)->sg.length=E.n->(∀(i:Nat) ob,sg[i]?=some ob->RO E w.heap i ob)->vs.length=rs.length->
   (∀(i:Nat) r v,rs[i]?=some r->vs[i]?=some v->RR E w.heap 0 i r.1 r.2 v)->
   Calls P f vs.toArray w λe w'=>W9 w w'/\∃v E',e=.returned v/\Pr Q4 E w.heap E' w'.heap/\(∀b o,w'.heap.size<=b->E'.O b o=.other)/\q.2.length=E'.n/\(∀(i:Nat) ob,q.2[i]?=some ob->RO E' w'.heap i ob)/\B7k E' w'.heap s.results q.1 v
def isGo:Bool :=
 match P.funcs[f]? with
 |some fn=>fn.name != "runtime.NumGoroutine"&&fn.body.isSome
 |none=>false
def iV(sz:Nat):Prop :=∀(S:AL)(w:World)(v:Value)(ds:List DV),ds.length<=J9->(∀b o,w.heap.size<=b->¬S b o)->RV S w.heap (.list sz ds) v->Calls P f #[v] w λe w'=>∃(a:Option Addr)(b off cap:Nat),e=.returned (.slice a ds.length cap)/\(ds≠[]->a=some ⟨b,off,none⟩)/\ds.length<=cap/\(a=none->cap=0)/\(∀x,a=some x->x.spot=none)/\w.heap.size<=w'.heap.size/\W9 w w'/\(∀b',b'<w.heap.size->w'.heap[b']?=w.heap[b']?) /\(ds≠[]->w.heap.size<=b/\∃c T,w'.heap[b]?=some (.cells c T (0,0))/\off+ds.length * sz<=c.size/\0<sz /\∀(j:Nat) d,ds[j]?=some d->∃vs:List Value,vs.length=sz/\(∀(x:Nat) u,vs[x]?=some u->c[off+j * sz+x]?=some u)/\RC S w'.heap d vs)
def C0Y(g:FuncId)(n:Nat):Prop :=∀(w:World)(vs:Array Value),vs.size=n->Calls P f #[.agg vs] w λe w'=>e=.returned (.func (.func g) #[] #[.pointer (some ⟨w.heap.size,0,none⟩)])/\∃T,w'=w.alloc (.cells vs T)
structure Wn(n:Nat)(E:Env)(w w':World):Prop where
 size:w.heap.size<=w'.heap.size
 blk:∀b,b<w.heap.size->w'.heap[b]?=w.heap[b]?\/(n<=b/\(∃c T f c',w.heap[b]?=some (.cells c T f)/\w'.heap[b]?=some (.cells c' T f)/\c'.size=c.size)/\∀o,E.O b o=.other)
 out:W9 w w'
def B3a(g:FuncId)(it:List DV->Option (List DV)):Prop :=
 ∀(cs ds:List DV),it cs=some ds->∀(n l b:Nat)(c:Array Value)(T0:TypeId)(J:Nat->Env->World->Prop)(Jx:World->Prop)(E:Env)(W:World),
   W.heap[b]?=some (.cells c T0 (0,0))->(∀o,o<c.size->E.O b o=.other)->Jb E.S W.heap cs c.toList->
   (∀k E' W',J k E' W'->∀b o,W'.heap.size<=b->E'.O b o=.other)->
   (∀k E' W1 W2,J k E' W1->Wn W.heap.size E' W1 W2->J k E' W2)->
   (∀k E' W1 d v,J k E' W1->ds[k]?=some d->RV E'.S W1.heap d v->YieldAt Fence.wide n P l #[v] W1 λe W2=>(e=.returned (.bool true)/\∃E2,J (k+1) E2 W2/\Pr Q4 E' W1.heap E2 W2.heap)\/(e=.returned (.bool false)/\Jx W2))->
   J 0 E W->CallsIn Fence.wide n P g #[.func (.yield l) #[] #[],.pointer (some ⟨b,0,none⟩)] W λe W'=>(∃v,e=.returned v)/\((∃E',J ds.length E' W')\/Jx W')
structure GI(C:AB)(R:U1):Prop where
 p:∀f ds d,R.p f ds=some d->isGo C.P f=true/\B8Z C.P f ds d
 r:∀f rs sg q,R.r f rs sg=some q->∃s,C.sig f=some s/\isGo C.P f=true/\C2J C.P f s rs sg q
 c:∀f,C.clone f=true->isGo C.P f=true/\iV C.P f (C.tK f)
 m:∀f g,C.pV f=some g->isGo C.P f=true/\C0Y C.P f g (C.tK f)
 i:∀g it,C.iter g=some it->isGo C.P g=true/\B3a C.P g it
structure A4g(E E':Env)(tg tg':Tag):Prop where
 hs:∀b o,E.O b o=.U0->E'.O b o=.U0
 ht:∀b o,E.O b o=tg->E'.O b o=tg'
 obj:E'.obj=E.obj
 base:E'.base=E.base
 n:E'.n=E.n
 top:E'.top=E.top
 Bj:E'.Bj=E.Bj
variable {E:Env}{E':Env}{tg:Tag}{h:Heap}
def A4g.le{tg':Tag}(T:A4g E E' tg tg'):AZ E.S h E'.S h:=⟨λb o hs=>T.hs b o hs,λ_ _ _ _ hv=>hv⟩
variable {d:DV}{m:H6}{v:Value}
def O0.to{tg':Tag}(T:A4g E E' tg tg')(hl:∀s o,m ≠ .loc s o)(R:O0 E h tg d m v):O0 E' h tg' d m v:=by
 have M3:=T.le (h:=h);have hI:E'.In=E.In:=by funext i;simp only[Env.In,T.n,T.Bj]
 cases m<;>simp only[O0]at R ⊢
 case val=>exact R.mono M3
 case full=>exact⟨R.1.mono M3,R.2⟩
 case own=>obtain⟨r1,sz,ds,r2,r3⟩:=R;refine⟨r1.mono M3,sz,ds,r2,λx len cap hv P8=>?_⟩;obtain⟨c,T',g,e1,e2,e3⟩:=r3 x len cap hv P8;refine⟨c,T',g,e1,e2,λo ho ho'=>?_⟩;obtain⟨e4,e5⟩:=e3 o ho ho';exact⟨T.ht _ _ e4,e5⟩
 case loc s o=>exact absurd rfl (hl s o)
 case Re ag sz o=>obtain⟨b,o0,r1,r2,r3⟩:=R;exact⟨b,o0,r1,r2.mono M3,r3⟩
 case ptr i o=>rw[T.obj,hI];exact R
 case FZ=>exact R
 case map i=>rw[T.obj,hI];exact R
 case Tv=>exact R
 case arr i sz off len=>rw[T.obj,hI,T.base,T.top];exact R
 case opt i sz idx=>rw[T.obj,hI,T.base];exact R
 case fI i sz idx o=>rw[T.obj,hI,T.base];exact R
 case BF i n sz len=>rw[T.obj,T.n,T.base,T.top,T.Bj];exact R
 case wJ i n sz idx o=>rw[T.obj,T.n,T.base,T.Bj];exact R
 case fn f caps=>rw[T.obj,hI];exact R
def RO.to{i:Nat}{ob:H7}(T:A4g E E' (.obj i) (.obj i))(hs:∀j b o,E.O b o=.sp 2 i j->E'.O b o=.sp 2 i j)(R:RO E h i ob):RO E' h i ob:=by
 have M3:=T.le (h:=h);cases ob with
 |box cs=>
   simp only[RO]at R ⊢;obtain⟨c,T0,h1,h2,h3,h4⟩:=R;rw[T.obj];refine⟨c,T0,h1,h2,λo=>?_,λj r v hr hv=>?_⟩
   ·rcases h3 o with h5 | h5
    ·exact .inl (T.ht _ _ h5)
    ·exact .inr h5
   ·obtain⟨a1,a2,a3,a4⟩:=h4 j r v hr hv;exact⟨a1,a2,a3,a4.to ⟨T.hs,hs j,T.obj,T.base,T.n,T.top,T.Bj⟩ λs o hm=>by rw[hm]at a3;simp[w9]at a3⟩
 |arr sz ds=>simp only[RO]at R ⊢;intro hne;obtain⟨c,T0,h1,h2,h3,h4,h5⟩:=R hne;rw[T.obj,T.base];refine⟨c,T0,h1,h2,h3,λo q1 q2=>T.ht _ _ (h4 o q1 q2),λj d hd=>?_⟩;obtain⟨vs,v1,v2,v3⟩:=h5 j d hd;exact⟨vs,v1,v2,v3.mono M3⟩
 |opn sz pre ds=>simp only[RO]at R ⊢;obtain⟨c,T0,f,h1,h2,WI,hz,h3,h4,h5⟩:=R;rw[T.obj,T.base,T.top];refine⟨c,T0,f,h1,h2,WI,hz,λo q1 q2=>⟨T.ht _ _ (h3 o q1 q2).1,(h3 o q1 q2).2⟩,λj d hd=>(h4 j d hd).mono M3,λj d hd=>?_⟩;obtain⟨vs,v1,v2,v3⟩:=h5 j d hd;exact⟨vs,v1,v2,v3.mono M3⟩
 |BF n sz ds=>
   simp only[RO]at R ⊢;obtain⟨hv,hn,hz,R⟩:=R;rw[T.obj,T.base,T.top,T.Bj];refine⟨hv,hn,hz,?_⟩;rcases R with R | ⟨c,T0,f,h1,h2,WI,h3,h5⟩
   ·exact .inl R
   right;refine⟨c,T0,f,h1,h2,WI,λo q1 q2=>⟨T.ht _ _ (h3 o q1 q2).1,(h3 o q1 q2).2⟩,λj d hd=>?_⟩;obtain⟨vs,v1,v2,v3⟩:=h5 j d hd;exact⟨vs,v1,v2,v3.mono M3⟩
 |map ks es=>simp only[RO]at R ⊢;obtain⟨ens,clk,h1,h2,⟨h3,h4⟩,h5⟩:=R;rw[T.obj];exact⟨ens,clk,h1,λo=>T.ht _ _ (h2 o),⟨h3,λj e n g1 g2=>let⟨a1,a2,a3⟩:=h4 j e n g1 g2;⟨a1,a2.mono M3,a3.mono M3⟩⟩,h5⟩
def St.Hm(st:St)(sg:List H7):St:={ st with sg }
section
variable {X:Type}{C:AB}{R:U1}{o:Oper}{st:St}{k:St->Option X}{x:X}{E:Env}{a:Act}{w:World}{K:Act->World->Prop}{Q:Exit->Act->World->Prop}{h':Heap}
def M9.ext(Rl:M9 E st a h)(P:Pr (λ_=>False) E h E' h')(hn:E'.n=E.n)(hf:∀b o,h'.size<=b->E'.O b o=.other):M9 E' st a h':=by have M3:=P.U0 (by simp) Rl.fresh;exact⟨Rl.size,Rl.Ba,Rl.Dm,by rw[hn];exact Rl.n,λt v hv=>(Rl.AA t v hv).mono P M3 (by simp) (by simp),λs cs hs=>by rw[P.qf s (by simp)];exact(Rl.Ad s cs hs).mono P M3 (by simp) (by simp),λi ob hi=>(Rl.V8 i ob hi).mono P M3 (by rw[<- Rl.n];exact(z0q.1 hi).1) (by simp) (by simp),hf⟩
open Classical in
noncomputable def Env.after(E:Env)(n:Nat)(S':AL):Env:={ E with O:=λb o=>if b<n then E.O b o else if S' b o then .U0 else .other }
variable {S':AL}
def C0Z(H:Ext E.S h S' h'):Pr (λ_=>False) E h (E.after h.size S') h':=by refine⟨H.size,λb hb=>by rw[H.blk b hb];exact Y4.refl _ _,λb o hb _=>?_,zjq _,λ_ _ _=>⟨rfl,rfl,rfl⟩,λ_ _=>rfl,Ee rfl⟩;simp only[Env.after];rw[D5 hb]
def C00(H:Ext E.S h S' h'):AZ S' h' (E.after h.size S').S h':=by
 refine⟨λb o hs=>?_,λ_ _ _ _ hv=>hv⟩;simp only[Env.S,Env.after]
 by_cases hb:b<h.size
 ·rw[D5 hb];exact(H.s b o hb).1 hs
 ·rw[C8 hb,D5 hs]
variable {f:FuncId}
def nJ{args:Array Value}(hr:(execOp a.eval o).run C.P w=.ok (.enter f args) w)(hc:Calls C.P f args w λe w'=>∃v,e=.returned v/\K (a.put o.dst v) w'):Gp C.P o a w K :=.inr (.inr ⟨f,args,hr,hc⟩)
variable {P:Program}
def mf(h:isGo P f=true)(args:Array Value)(w:World):(callFunc f args).run P w=.ok (.enter f args) w:=by
 unfold isGo at h;split at h
 ·rename_i fn hf;simp only[zhq,bne_iff_ne,ne_eq]at h;unfold callFunc;obtain⟨c,hc⟩:=zAq.1 h.2;simp[hf,h.1,hc]
 ·simp at h
variable {ts:List TypeId}{xs:List Operand}{rs:List (DV×H6)}
def B1S(Rl:M9 E st a w.heap)(h:LZ P st ts xs=some rs):rs.length=xs.length/\∀(i:Nat) r v,rs[i]?=some r->(xs.map a.eval)[i]?=some v->
 ∃y t,xs[i]?=some y/\v=a.eval y/\src P t st y=some r/\RR E w.heap 0 (vZ y) r.1 r.2 v:=by
 obtain⟨l1,l2⟩:=qF h;refine⟨l1,λi r v hr hv=>?_⟩;simp only[zpq,zrq]at hv;obtain⟨y,hy,rfl⟩:=hv;obtain⟨t,ht⟩:=l2 i y r hy hr;exact⟨y,t,hy,rfl,ht,Rl.src ht⟩
def C2m{vs:List Value}(hO:GI C R)(U7:(execOp a.eval o).run C.P w=.ok (.enter f vs.toArray) w)(hl:rs.length=vs.length)(hrs:∀(i:Nat) r v,rs[i]?=some r->vs[i]?=some v->∃p q,RR E w.heap p q r.1 r.2 v)(H:og (rs.all λr=>M6 r.2) (ob (R.p f (rs.map (·.1))) λd=>k (st.put o.dst d .val))=some x)(Rl:M9 E st a w.heap)(T:Then E w k x K):Gp C.P o a w K:=by
 obtain⟨hd,H⟩:=I9 H;obtain⟨d,RJ,H⟩:=D8 H;refine nJ U7 (((hO.p f _ d RJ).2 E.S w vs (λb o hb hs=>by have h9:=Rl.fresh b o hb;rw[show E.O b o=Tag.U0 from hs]at h9;cases h9) (Yj.2 ⟨by simpa using hl,λi d' v FU hv=>?_⟩)).mono ?_)
 ·simp only[zpq,zrq]at FU;obtain⟨r,hr,rfl⟩:=FU;obtain⟨p,q,h⟩:=hrs i r v hr hv;exact h.data (zkq.1 hd r (zsq hr))
 ·rintro e w' ⟨v,S',he,hE,hR,lh⟩;have P1:=C0Z hE;refine⟨v,he,T _ _ _ w' H ((Rl.ext P1 rfl λb o hb=>?_).put λt0 _=>?_) (P1.Au (by simp)) lh⟩
  ·simp only[Env.after]
   have:=hE.size;rw[C8 (by omega),C8 (hE.fresh b o hb)]
  ·exact RR.val (hR.mono (C00 hE))
def CE:Tag->Tag
 |.U0=>.U0
 |.obj i=>.obj i
 |.sp 2 i j=>.sp 2 i j
 |.sp 4 i b=>.sp 0 i b
 |_=>.other
def Ym(t:Nat)(one:Bool):Tag->Tag
 |.U0=>.U0
 |.obj i=>.obj i
 |.sp 2 i j=>.sp 2 i j
 |.sp 3 i 0=>.sp 0 t (if one then 0 else i+1)
 |.sp 3 _ (b+1)=>if one then .sp 0 t (b+1)else .other
 |_=>.other
open Classical in
noncomputable def Env.back(E E1:Env)(n:Nat)(t:Nat)(one:Bool):Env :={ E1 with blk:=E.blk,O:=λb o=>if b<n/\CE (E.O b o)=.other then E.O b o else Ym t one (E1.O b o) }
def jW(g:Option (Nat×Operand))(T:Tag):Tag :=
 match g with
 |some p=>pW p.2 4 p.1 T
 |none=>T
def A05:∀{ks:List MK}{xs:List Operand}{i0:Nat}{p:Nat×Operand},IG i0 ks xs=some p->i0<=p.1/\(∃k,ks[p.1-i0]?=some k/\Ej k=true)/\xs[p.1-i0]?=some p.2
 |[],xs,i0,p,h=>by simp[IG]at h
 |k::ks,[],i0,p,h=>by simp[IG]at h
 |k::ks,y::xs,i0,p,h=>by
   simp only[IG]at h;split at h
   ·rename_i hk;simp only[D9]at h;subst h;exact⟨zjq _,⟨k,by simp,hk⟩,by simp⟩
   ·obtain⟨h1,h2,h3⟩:=A05 h;have:p.1-i0=(p.1-(i0+1))+1:=by omega
    exact⟨by omega,by rw[this];simpa using h2,by rw[this];simpa using h3⟩
def vX:∀{ks:List MK}{xs:List Operand}{i0 i:Nat}{k:MK}{y:Operand},(ks.filter Ej).length<=1->ks[i]?=some k->Ej k=true->xs[i]?=some y->IG i0 ks xs=some (i0+i,y)
 |[],xs,i0,i,k,y,_,h,_,_=>by simp at h
 |k0::ks,[],i0,i,k,y,_,_,_,h=>by simp at h
 |k0::ks,z::xs,i0,0,k,y,_,h,hk,h2=>by simp only[ziq,D9]at h h2;subst h h2;simp[IG,hk]
 |k0::ks,z::xs,i0,i+1,k,y,hl,h,hk,h2=>by
   simp only[zlq]at h h2;have RL:k∈ks.filter Ej:=y6q.2 ⟨zsq h,hk⟩;have hpos:0<(ks.filter Ej).length:=List.length_pos_of_mem RL;have hk0:¬Ej k0=true:=by intro h0;simp only[ykq,h0,H5,zBq]at hl;omega
   have:=vX (i0:=i0+1) (xs:=xs) (by simpa[ykq,hk0]using hl) h hk h2;simp only[IG,C8 hk0];rw[this];congr 2;omega
def A6G:∀{ks:List MK}{rs:List (DV×H6)}{i:Nat}{r:DV×H6},(KU ks rs)[i]?=some r->∃r0,rs[i]?=some r0/\r.1=r0.1/\((∃k,ks[i]?=some k/\Ej k=true/\r.2=bX r0.2 k)\/((∀k,ks[i]?=some k->Ej k=false)/\r.2=fH r0.2))
 |[],rs,i,r,h=>by simp only[KU,zpq,zrq]at h;obtain⟨r0,h1,rfl⟩:=h;exact⟨r0,h1,rfl,.inr ⟨by simp,rfl⟩⟩
 |k::ks,[],i,r,h=>by simp[KU]at h
 |k::ks,r0::rs,0,r,h=>by
   simp only[KU,ziq,D9]at h;subst h;refine⟨r0,rfl,rfl,?_⟩;cases k
   ·exact .inr ⟨by simp[Ej],rfl⟩
   ·exact .inl ⟨_,rfl,rfl,rfl⟩
   ·exact .inr ⟨by simp[Ej],rfl⟩
   ·exact .inl ⟨_,rfl,rfl,rfl⟩
 |k::ks,r0::rs,i+1,r,h=>by simp only[KU,zlq]at h;obtain⟨q,h1,h2,h3⟩:=A6G h;exact⟨q,by simpa using h1,h2,by simpa using h3⟩
def wE:∀{ks:List MK}{rs:List (DV×H6)},(KU ks rs).length=rs.length
 |[],rs=>by simp[KU]
 |k::ks,[]=>by simp[KU]
 |k::ks,r::rs=>by simp[KU,wE]
def B7k.back{E1:Env}{ks:List MK}{ds:List DV}{t:Nat}(R:B7k E1 h ks ds v)(A_:B25 ks=true)(T:∀i,A4g E1 E' (.sp 3 i 0) (.sp 0 t (if ks.length=1 then 0 else i+1)))(T2:ks.length=1->∀b,A4g E1 E' (.sp 3 0 (b+1)) (.sp 0 t (b+1))):
 RR E' h 0 t (Pq ks ds).1 (Pq ks ds).2 v:=by
 obtain⟨hl,vs,hv,rfl,H⟩:=R;unfold Pq;split
 ·rename_i k;simp only[zBq,y7q,zfq]at hl hv T T2;obtain⟨d,rfl⟩:=zvq.1 hl;obtain⟨u,rfl⟩:=zvq.1 hv;have:=H 0 k d u rfl rfl rfl;simp only[List.getD_cons_zero];cases k with
  |val=>exact RV.mono (T 0).le d this
  |own=>exact RR.Bb (O0.to (T 0) (m:=.own) (by simp) this)
  |ptr=>
    have key:∀m:H6,m ≠ .own->(∀s o,m ≠ .loc s o)->O0 E1 h .other (Nn .ptr d).1 m u->O0 E' h (.sp 0 t 0) (Nn .ptr d).1 m u:=by intro m h1 h2 h3;exact O0.to (T 0) h2 (h3.tag h1)
    have hm:(Nn .ptr d).2 ≠ .own/\∀s o,(Nn .ptr d).2 ≠ .loc s o:=by
     unfold Nn;constructor
     ·simp only;split<;>simp
     ·intro s o;simp only;split<;>simp
    exact RR.Bb (key _ hm.1 hm.2 this)
  |dU n os=>simp only[B7l,RR,Nn]at this ⊢;obtain⟨ds,us,h1,h2,h3,h4,h5⟩:=this;refine⟨ds,us,h1,h2,h3,h4,λi m' d' u' e1 e2 e3=>?_⟩;obtain⟨a1,a2,a3,a4⟩:=h5 i m' d' u' e1 e2 e3;exact⟨a1,a2,a3,O0.to (T2 trivial i) (λs o hm=>by rw[hm]at a3;simp[w9]at a3) a4⟩
 ·rename_i hne;have C1I:ks.length≠1:=λh=>by obtain⟨k,hk⟩:=zvq.1 h;exact hne k hk
  have ZT:∀k∈ks,k=.val\/k=.own:=by intro k hk;unfold B25 at A_;simp only[ytq,beq_iff_eq,C1I,false_or]at A_;have:=zkq.1 A_ k hk;cases k<;>simp_all
  have hvt:(match vs with | [u]=>u | _=>Value.tuple vs.toArray)=.tuple vs.toArray:=by
   split
   ·simp only[zBq,y7q,zfq]at hv;exact absurd hv.symm C1I
   ·rfl
  rw[hvt];simp only[RR];refine⟨ds,vs.toArray,rfl,rfl,by simp[hl],by simp[hv],λi m' d' u e1 e2 e3=>?_⟩;simp only[zpq,zrq]at e1;obtain⟨k,hk,rfl⟩:=e1;have:=H i k d' u hk e2 (by simpa using e3);have T1:=T i;rw[C8 C1I]at T1;rcases ZT k (zsq hk)with rfl | rfl
  ·exact⟨rfl,RV.mono T1.le d' this⟩
  ·exact⟨rfl,O0.to T1 (m:=.own) (by simp) this⟩
variable {g:Option (Nat×Operand)}
theorem Fq{T:Tag}(h:∀p s b,g=some p->p.2=.tmp s->T ≠ .sp 0 s b):jW g T=T:=by
 unfold jW;split
 ·rename_i p;exact RX λs b hs=>h p s b rfl hs
 ·rfl
def B5N(Rl:M9 E st a h):M9 (E.re (jW g)) (st.KS g) a h:=by
 cases g with
 |none=>simp only[St.KS];exact(Rl.release (x:=.const .nilIface) (f:=jW none) λT _=>rfl)
 |some p=>exact Rl.release λT hT=>Fq λp' s b hp hs=>by simp only[D9]at hp;subst hp;exact hT s b hs
def C3x(h:M6 m=true):M6 (dm m)=true:=by
 cases m<;>first | rfl | (simp[M6]at h;done) | skip
 rename_i ms;simp only[M6,dm,List.all_map]at h ⊢;refine zkq.2 λm hm=>?_;have:=zkq.1 h m hm;cases m<;>simp_all[bF]
def C5u{E:Env}{k a:Nat}(R:RR E h k a d m v):RR E h k a d (fH m) v:=by
 unfold fH;split
 ·rename_i hd;exact RR.val (R.data hd)
 ·exact R.dm
def B1y:∀{os:List Nat}{ms:List H6}{i0 i:Nat}{m:H6},(pX os i0 ms)[i]?=some m->∃m0,ms[i]?=some m0/\m=if os.contains (i0+i)then Qd m0 else fH m0
 |os,[],i0,i,m,h=>by simp[pX]at h
 |os,m0::ms,i0,0,m,h=>by simp only[pX,ziq,D9]at h;exact⟨m0,rfl,h.symm⟩
 |os,m0::ms,i0,i+1,m,h=>by simp only[pX,zlq]at h;obtain⟨m1,h1,h2⟩:=B1y h;exact⟨m1,by simpa using h1,by rw[h2,zQq,Nat.add_comm 1 i]⟩
def mQ:∀{os:List Nat}{ms:List H6}{i0:Nat},(pX os i0 ms).length=ms.length
 |os,[],i0=>rfl
 |os,m::ms,i0=>by simp[pX,mQ]
def O0.Qd{E:Env}(R:O0 E h tg d m v):O0 E h tg d (Su.Qd m) v:=by cases m<;>first | exact R | exact R.xe
def O0.fH{E:Env}(hm:w9 m=true)(R:O0 E h tg d m v):O0 E h tg d (Su.fH m) v/\w9 (Su.fH m)=true:=by
 unfold Su.fH;split
 ·rename_i hd;refine⟨?_,rfl⟩;have FU:m=.val\/m=.full\/m=.own\/m=.FZ:=by cases m<;>simp_all[M6,w9]
  exact sQ FU R
 ·exact⟨R.Ci hm,(Su.Ci hm).2.1⟩
def B1x{E:Env}{k a:Nat}{q:MK}(hq:Ej q=true)(R:RR E h k a d m v):RR E h k a d (bX m q) v:=by
 cases q with
 |val=>cases hq
 |ptr=>cases hq
 |own=>
   by_cases hm:m=.full
   ·subst hm;exact RR.Bb (O0.xe (RR.A36 (by simp) (by simp) R))
   ·have:bX m .own=m:=by unfold bX;split<;>simp_all
    rw[this];exact R
 |dU n os=>
   by_cases hm:∃ms,m=.FW ms
   ·obtain⟨ms,rfl⟩:=hm;simp only[bX,RR]at R ⊢;obtain⟨ds,vs,h1,h2,h3,h4,h5⟩:=R;refine⟨ds,vs,h1,h2,by rw[mQ];exact h3,by rw[mQ];exact h4,λi m' d' u e1 e2 e3=>?_⟩;obtain⟨m0,g1,rfl⟩:=B1y e1;obtain⟨a1,a2,a3,a4⟩:=h5 i m0 d' u g1 e2 e3;split
    ·exact⟨a1,a2,by cases m0<;>simp_all[Su.Qd,w9],a4.Qd⟩
    ·exact⟨a1,a2,(a4.fH a3).2,(a4.fH a3).1⟩
   ·have:bX m (.dU n os)=fH m:=by unfold bX;split<;>first | rfl | (rename_i h1 h2;simp_all)
    rw[this];exact C5u R
def C4w{s:D_}{extra:List (DV×H6)}{ev:List Value}(hO:GI C R)(hs:C.sig f=some s)(U7:(execOp a.eval o).run C.P w=.ok (.enter f (xs.map a.eval++ev).toArray) w)(hsr:LZ C.P st ts xs=some rs)(hel:extra.length=ev.length)(Im:∀(i:Nat) r v,extra[i]?=some r->ev[i]?=some v->∀p q,RR E w.heap p q r.1 r.2 v/\r.2 ≠ .own/\r.2 ≠ .full)(H:og (((rs++extra).all λr=>C24 r.2)&&decide ((s.params.filter Ej).length<=1)&&B25 s.results)
   (ob (R.r f (KU s.params (rs++extra)) st.sg) λq=>mV s.results q.1 λr=>k (({ st with sg:=q.2 }.KS (IG 0 s.params xs)).put o.dst r.1 r.2))=some x)(Rl:M9 E st a w.heap)(T:Then E w k x K):Gp C.P o a w K:=by
 obtain⟨hg,H⟩:=I9 H;obtain⟨q,hq,H⟩:=D8 H;have H:=(A6D H).1;simp only[zhq,F5]at hg;obtain⟨⟨hgo,RP⟩,C8I⟩:=hg;obtain⟨s',FD,C9E,hR⟩:=hO.r f _ _ q hq;rw[hs]at FD;cases FD;generalize hgd:IG 0 s.params xs=g at H;have Rl0:M9 (E.re (jW g)) (st.KS g) a w.heap:=B5N Rl;have sg0:(st.KS g).sg=st.sg:=by
  cases g with
  |none=>rfl
  |some p=>simp only[St.KS];cases p.2<;>rfl
 generalize hE0:E.re (jW g)=E0 at Rl0;have E0n:E0.n=E.n:=by rw[<- hE0];rfl
 obtain⟨l1,l2⟩:=B1S Rl hsr;have Bl:(xs.map a.eval++ev).length=(KU s.params (rs++extra)).length:=by rw[wE];simp[l1,hel]
 have cs:CE .U0=.U0:=rfl;have co:CE .other=.other:=rfl;refine nJ U7 ((hR (E0.re CE) w (xs.map a.eval++ev) (λb o hb=>?_) ?_ (λi ob hi=>?_) Bl (λi r v hr hv=>?_)).mono ?_)
 ·simp only[Env.re];rw[Rl0.fresh b o hb];rfl
 ·rw[<- sg0];exact Rl0.n
 ·have:=Rl0.V8 i ob (by rw[sg0];exact hi);exact RO.to (E:=E0) ⟨λb o h=>by simp only[Env.re];rw[h];rfl,λb o h=>by simp only[Env.re];rw[h];rfl,rfl,rfl,rfl,rfl,rfl⟩ (λj b o h=>by simp only[Env.re];rw[h];rfl) this
 ·obtain⟨r0,h1,h2,h3⟩:=A6G hr;have C6c:∀(p q:Nat)(m:H6),RR E w.heap p q r0.1 m v->RR (E0.re CE) w.heap 0 i r0.1 (dm m) v:=by
   intro p q m hh;have h1:RR E w.heap 2 0 r0.1 (dm m) v:=hh.dm;have h2:RR E0 w.heap 2 0 r0.1 (dm m) v:=by rw[<- hE0];exact h1.re (Fq (by simp)) (Fq (by simp)) λb=>Fq (by simp)
   have h3:RR (E0.re CE) w.heap 2 0 r0.1 (dm m) v:=h2.re rfl rfl λb=>rfl;exact h3.B3v
  have C27:∀(p q:Nat)(m:H6),RR E w.heap p q r0.1 m v->RR (E0.re CE) w.heap 0 i r0.1 (fH m) v:=by
   intro p q m hh;have h0:=C6c p q m hh;unfold fH;split
   ·rename_i hd;exact RR.val (RR.data (C3x hd) h0)
   ·exact h0
  rw[h2];by_cases hi:i<rs.length
  ·rw[z3q hi]at h1;have PN:(xs.map a.eval)[i]?=some v:=by rwa [z3q (by simpa[l1]using hi)]at hv
   obtain⟨y,t,hy,rfl,hsy,hRy⟩:=l2 i r0 v h1 PN;rcases h3 with⟨kk,h4,BD,h5⟩ | ⟨h4,h5⟩
   ·rw[h5];have hp:IG 0 s.params xs=some (0+i,y):=vX RP h4 BD hy;rw[zfq,hgd]at hp;subst hp;have h6:RR E0 w.heap 4 i r0.1 r0.2 (a.eval y):=by
     rw[<- hE0];by_cases hyt:∃j,y=.tmp j
     ·obtain⟨j,rfl⟩:=hyt;exact hRy.re (Fq (by simp)) (Fq (by simp)) λb=>by simp[jW,pW,vZ]
     ·exact(M9.B7e hsy (λj hj=>hyt ⟨j,hj⟩) 4 i).re (Fq (by simp)) (Fq (by simp)) λb=>Fq (by simp)
    have h7:RR (E0.re CE) w.heap 0 i r0.1 r0.2 (a.eval y):=h6.re rfl rfl λb=>rfl;exact B1x BD h7
   ·rw[h5];exact C27 _ _ _ hRy
  ·have hge:rs.length<=i:=zNq hi;rw[z5q hge]at h1;rw[z5q (by simpa[l1]using hge)]at hv;simp only[yuq,<- l1]at hv;obtain⟨h6,h7,h8⟩:=Im _ r0 v h1 hv 2 0;have h9:=C27 2 0 _ h6;rcases h3 with⟨kk,h4,BD,h5⟩ | ⟨h4,h5⟩
   ·rw[h5];have Xx:RR E0 w.heap 4 i r0.1 r0.2 v:=by rw[<- hE0];exact(Im _ r0 v h1 hv 4 i).1.re (Fq (by simp)) (Fq (by simp)) λb=>Fq (by simp)
    exact B1x BD (Xx.re rfl rfl λb=>rfl)
   ·rw[h5];exact h9
 ·rintro e w' ⟨lh,v,E1,he,P1,hf1,hn1,ho1,C1K⟩;subst he;generalize ht:o.dst.getD 0=t
  let one:Bool:=decide (s.results.length=1)
  have xm:∀i:Nat,(if one=true then 0 else i+1)=(if s.results.length=1 then 0 else i+1):=λi=>by simp[one]
  let E':Env:=E0.back E1 w.heap.size t one
  have C6e:∀b o,E1.O b o ≠ .other->¬(b<w.heap.size/\CE (E0.O b o)=.other):=by rintro b o h1 ⟨h2,h3⟩;have:=P1.tags b o h2 (by simp only[Env.re];rw[h3];simp[Q4]);simp only[Env.re]at this;rw[h3]at this;exact h1 this
  have hO':∀b o T,E1.O b o=T->T ≠ .other->E'.O b o=Ym t one T:=by intro b o T h1 h2;show(if b<w.heap.size/\CE (E0.O b o)=.other then E0.O b o else Ym t one (E1.O b o))=_;rw[C8 (C6e b o (by rw[h1];exact h2)),h1]
  have Pc:Pr (λT=>Q4 (CE T)) E0 w.heap E' w'.heap:=by
   refine⟨P1.size,λb hb=>P1.blk b hb,λb o hb hn=>?_,P1.n,λi hi hv=>P1.V8 i hi hv,λ_ _=>rfl,λi hi=>P1.Rx i hi⟩;show(if b<w.heap.size/\CE (E0.O b o)=.other then E0.O b o else Ym t one (E1.O b o))=_;by_cases hc:CE (E0.O b o)=.other
   ·rw[D5 ⟨hb,hc⟩]
   ·rw[C8 λh=>hc h.2];have hsh:CE (E0.O b o)=.U0:=by
     by_cases hs:CE (E0.O b o)=.U0
     ·exact hs
     ·exact absurd ⟨hc,hs⟩ hn
    have h2:=P1.tags b o hb (by simp only[Env.re];exact hn);simp only[Env.re]at h2;rw[h2,hsh];have:E0.O b o=.U0:=by revert hsh;unfold CE;split<;>simp_all
    rw[this];rfl
  have M3:=Pc.U0 (by simp[Q4,CE]) Rl0.fresh;have R2:M9 E' ((st.KS g).Hm q.2) a w'.heap:=by
   refine⟨Rl0.size,Rl0.Ba,Rl0.Dm,hn1,λu v' hu=>?_,λs' cs' FD=>?_,λi ob hi=>?_,λb o hb=>?_⟩
   ·exact(Rl0.AA u v' hu).mono Pc M3 (λb=>by simp[Q4,CE]) (λs o _=>by simp[Q4,CE])
   ·exact(Rl0.Ad s' cs' FD).mono Pc M3 (by simp[Q4,CE]) (λj=>by simp[Q4,CE])
   ·exact(ho1 i ob hi).to ⟨λb o h=>hO' b o _ h (by simp),λb o h=>hO' b o _ h (by simp),rfl,rfl,rfl,rfl,rfl⟩ λj b o h=>hO' b o _ h (by simp)
   ·show(if b<w.heap.size/\CE (E0.O b o)=.other then E0.O b o else Ym t one (E1.O b o))=_;have:=P1.size;rw[C8 (by omega),hf1 b o hb];rfl
  refine⟨v,rfl,T E' _ _ w' ?_ (R2.put (dst:=o.dst) (d:=(Pq s.results q.1).1) (m:=(Pq s.results q.1).2) (v:=v) λt0 ht0=>?_) ?_ lh⟩
  ·rw[<- H];congr 1;cases g with
   |none=>rfl
   |some p=>simp only[St.KS];cases p.2<;>rfl
  ·have htt:t=t0:=by rw[<- ht,ht0];rfl
   rw[<- htt];exact C1K.back C8I (λi=>⟨λb o h=>hO' b o _ h (by simp),λb o h=>by rw[hO' b o _ h (by simp)];simp only[Ym];rw[xm],rfl,rfl,rfl,rfl,rfl⟩)
    λh1 i=>⟨λb o h=>hO' b o _ h (by simp),λb o h=>by rw[hO' b o _ h (by simp)];simp[Ym,one,h1],rfl,rfl,rfl,rfl,rfl⟩
  ·have P0:Pr Q4 E w.heap E0 w.heap:=by rw[<- hE0];exact Pr.re λT hT=>Fq λp s b _ _ he=>hT (by rw[he];simp[Q4])
   refine P0.trans (Pc.Au λT hT=>⟨λh=>?_,λh=>?_⟩)
   ·rw[h]at hT;simp[Q4,CE]at hT
   ·rw[h]at hT;simp[Q4,CE]at hT
end
end Go.Su

/-
 THE DATA MACHINE: a writable array's elements are cleared.
-/
namespace Go.Su
set_option linter.defProp false
section
variable {X:Type}{C:AB}{R:U1}{o:Oper}{st:St}{k:St->Option X}{x:X}{E:Env}{a:Act}{w:World}{K:Act->World->Prop}
def C3l{E:Env}{h:Heap}{i sz n:Nat}{ds:List DV}(B:RO E h i (.arr sz ds)):RO E h i (.arr sz (ds.take n)):=by
 simp only[RO]at B ⊢;intro hne;have hd:ds≠[]:=by intro e;rw[e]at hne;simp at hne
 obtain⟨c,T,b1,b2,b3,b4,b5⟩:=B hd;have M3:(ds.take n).length * sz<=ds.length * sz:=zcq _ (by rw[zCq];omega);refine⟨c,T,b1,by omega,b3,λo h1 h2=>b4 o h1 (by omega),λj d hj=>b5 j d ?_⟩;rw[yeq]at hj;split at hj
 ·exact hj
 ·cases hj
def B2R(zs:Array Value)(n:Nat):(Builtin.zeroCells zs n).size=n * zs.size:=by simp[Builtin.zeroCells]
def B2S{zs:Array Value}{n:Nat}(h:∀v∈zs.toList,v.oneCell'=true):∀v∈(Builtin.zeroCells zs n).toList,v.oneCell'=true:=by
 intro v hv;simp only[Builtin.zeroCells,Array.toList_map,List.mem_map,Array.toList_range,List.mem_range]at hv;obtain⟨j,hj,rfl⟩:=hv;have hz:0<zs.size:=by
  rcases y9q zs.size with h | h
  ·rw[h]at hj;omega
  ·exact h
 have hm:j % zs.size<zs.size:=Nat.mod_lt _ hz;rw[getElem!_pos zs _ hm];exact h _ (Array.getElem_mem_toList hm)
variable {P:Program}{ty:TypeId}
def C0k{w w':World}{t e:TypeId}{p:Addr}{n cap:Nat}{inf:TypeInfo}{zv:Value}(hu:P.underlying t=some (.slice e))(hi:P.info? e=some inf)(hz:inf.zero=some zv)(hn:0<n)(h:(storeCells p (Builtin.zeroCells zv.cells n).toList).run P w=.ok () w'):(Builtin.clear_ #[t] ty #[.slice (some p) n cap]).run P w=.ok (.tuple #[]) w':=by unfold Builtin.clear_;obtain⟨m,rfl⟩:∃m,n=m+1:=⟨n-1,by omega⟩;simp[run_underlying hu,zeroValue,typeInfo,hi,hz,h]
def B8A{w:World}{t e:TypeId}{p:Option Addr}{cap:Nat}(hu:P.underlying t=some (.slice e)):(Builtin.clear_ #[t] ty #[.slice p 0 cap]).run P w=.ok (.tuple #[]) w:=by unfold Builtin.clear_;cases p<;>simp[run_underlying hu]
def C0p{c:Call}{y:Operand}{t:TypeId}(I1:o.op=.call c)(hc:c.callee=.builtin .clear)(ha:c.args.toList=[y])(ht:c.argTypes.toList=[t])(H:ZK C o y t st k=some x)(Rl:M9 E st a w.heap)(T:Then E w k x K):Gp C.P o a w K:=by
 unfold ZK at H;obtain⟨r,h1,H⟩:=D8 H;obtain⟨q,hq,H⟩:=D8 H;obtain⟨A,hA,H⟩:=D8 H;obtain⟨e,he,H⟩:=D8 H;obtain⟨z,hz,H⟩:=D8 H;obtain⟨zs,Ya,H⟩:=D8 H;obtain⟨hb,H9⟩:=I9 H;clear H;simp only[zhq,beq_iff_eq,F5]at hb;obtain⟨⟨⟨s1,s2⟩,s3⟩,s4⟩:=hb;obtain⟨i,sz,off,len⟩:=q;simp only at s1 s2 s4 hA H9;have hm:=A8f hq;have e1:=Rl.src h1;rw[hm]at e1;simp only[RR,O0]at e1;obtain⟨f0,b,cap,hv,f1,f2,f3,f4,f5⟩:=e1;have hu:=xC he;obtain⟨inf,zv,BP,TW,A_⟩:=Ud Ya;have hA:=iM hA;rw[s1]at hA;have Kq:=(z0q.1 hA).1;have lq:∀{E':Env}{h':Heap}(t0:Nat),RR E' h' 0 t0 (.I4 []) .val undef:=by intro E' h' t0;simp only[RR,O0,RV];exact⟨#[],rfl,by simp[TJ]⟩
 have fin:∀{w'},(Builtin.clear_ #[t] o.type #[a.eval y]).run C.P w=.ok (.tuple #[]) w'->(execOp a.eval o).run C.P w=.ok (.value (.tuple #[])) w':=by intro w' h;refine Ga I1 hc ?_;rw[A4i ht,show c.args.map a.eval=#[a.eval y]from by rw[A4i ha];simp];simp only[builtin];exact Bf h
 rcases y9q len with h0 | hp
 ·subst h0;have R1:M9 E { st with sg:=st.sg.set i (.arr sz (A.2.take off)) } a w.heap:=by
   refine⟨Rl.size,Rl.Ba,Rl.Dm,by simpa using Rl.n,Rl.AA,Rl.Ad,λi' ob hi=>?_,Rl.fresh⟩;by_cases EE:i=i'
   ·subst EE;simp only[z6q Kq,D9]at hi;subst hi;exact C3l (Rl.V8 i _ hA)
   ·simp only[z2q EE]at hi;exact Rl.V8 i' ob hi
  exact BM (fin (w':=w) (by rw[hv];exact B8A hu)) (T E _ _ w H9 (R1.put λt0 _=>lq t0) (Pr.refl _ _ _) (W9.refl _))
 ·have B:=Rl.V8 i _ hA;simp only[RO]at B;have hne:A.2≠[]:=by intro h;rw[h]at s4;simp at s4;omega
  obtain⟨c,TT,b1,b2,b3,b4,b5⟩:=B hne;have hmul:off * sz+len * sz<=A.2.length * sz:=by rw[<- zqq];exact zcq _ s4
  have G:=A_ E w.heap;have Ak:zv.cells.size=sz:=by have:=G.1;simp at this;omega
  have xm:∀v∈zv.cells.toList,v.oneCell'=true:=by
   intro v hv;obtain⟨j,hj,vP⟩:=y5q.1 hv;have hj2:j<zs.length:=by rw[G.1];exact hj
   exact(G.2 j _ v (z4q hj2) (by rw[z4q hj,vP])).1.2.1
  have Bl:(Builtin.zeroCells zv.cells len).toList.length=len * sz:=by rw[zDq,B2R,Ak]
  obtain⟨w',hw,S⟩:=KT (P:=C.P) (E.base i+off * sz) (Builtin.zeroCells zv.cells len).toList c 0 w b1 (by omega) (B2S xm) (λo _ _=>by simp);simp only[zEq]at S;have P1:Pr (λt=>t=.obj i) E w.heap E w'.heap:=S.Pr b1 λj h1 h2=>b4 j (by omega) (by omega);have hs:=P1.U0 (by simp) Rl.fresh;have R1:M9 E { st with sg:=st.sg.set i (.arr sz (A.2.take off)) } a w'.heap:=by
   refine⟨Rl.size,Rl.Ba,Rl.Dm,by simpa using Rl.n,λt v hv=>(Rl.AA t v hv).mono P1 hs (by simp) (by simp),λs' cs' FD=>(Rl.Ad s' cs' FD).mono P1 hs (by simp) (by simp),λi' ob hi=>?_,λb o' HV=>Rl.fresh b o' (by rw[<- S.size];exact HV)⟩;by_cases EE:i=i'
   ·subst EE;simp only[z6q Kq,D9]at hi;subst hi;simp only[RO];intro _;obtain⟨c',e1',e2',e3'⟩:=S.ex;have M3:(A.2.take off).length * sz<=off * sz:=zcq _ (by rw[zCq];omega);refine⟨c',TT,e1',by rw[e2'];omega,b3,λo h1 h2=>b4 o h1 (by omega),λj d hj=>?_⟩;rw[yeq]at hj;split at hj
    ·rename_i hjo;obtain⟨us,u1,u2,u3⟩:=b5 j d hj;refine⟨us,u1,λy q hq=>?_,u3.mono hs⟩;have hy:y<sz:=by have:=(z0q.1 hq).1;omega
     have:j * sz+sz<=off * sz:=by rw[<- zJq];exact zcq _ hjo
     rw[e3',C8 (by omega),u2 y q hq]
    ·cases hj
   ·simp only[z2q EE]at hi;exact(Rl.V8 i' ob hi).mono P1 hs (Dc Rl hi) (by simp;exact λh=>EE h.symm) (by simp)
  refine BM (fin (w':=w') ?_) (T E _ _ w' H9 (R1.put λt0 _=>lq t0) (P1.Au (by rintro T rfl;simp[Q4])) S.out);rw[hv,f1 hp];exact C0k hu BP TW hp hw
end
end Go.Su

/-
 THE DATA MACHINE, part 14: vectors grow.
-/
namespace Go.Su
set_option linter.defProp false
section
variable {X:Type}{C:AB}{R:U1}{o:Oper}{st:St}{k:St->Option X}{x:X}{E:Env}{a:Act}{w:World}{K:Act->World->Prop}{Q:Exit->Act->World->Prop}
def Env.A9O(E:Env)(i n:Nat):Env:={ E with Bj:=λj=>if j=i then n else E.Bj j }
def Env.B7h(E:Env)(i n b hi:Nat):Env :={ E with obj:=λj=>if j=i then b else E.obj j,base:=λj=>if j=i then 0 else E.base j,top:=λj=>if j=i then hi else E.top j,Bj:=λj=>if j=i then n else E.Bj j,O:=λb' o=>if b'=b then(if o<hi then .obj i else .other)else if E.O b' o=.obj i then .other else E.O b' o }
def C0R{E:Env}{h:Heap}{i b off top n sz:Nat}{ds es:List DV}{all all':List Value}{c:Array Value}{T:TypeId}{f:Nat×Nat}(ho:E.obj i=b)(hb:E.base i=off)(ht:E.top i=top)(hv:E.Bj i=n)(hn:0<n)(hpos:0<sz)(hc:h[b]?=some (.cells c T f))(Bp:off+(ds.length+es.length) * sz<=top)(IP:top<=c.size)(tags:∀o,off<=o->o<top->E.O b o=.obj i/\¬(f.1<=o/\o<f.2))(F:JY E.S h sz ds all)(G:JY E.S h sz es all')(cells:∀(j:Nat) u,all[j]?=some u->c[off+j]?=some u)(cells':∀(j:Nat) u,all'[j]?=some u->c[off+ds.length * sz+j]?=some u):RO E h i (.BF n sz (ds++es)):=by
 simp only[RO];rw[ho,hb,ht];refine⟨hv,hn,hpos,.inr ⟨c,T,f,hc,by rw[yfq];exact Bp,IP,tags,λj d hd=>?_⟩⟩;by_cases hj:j<ds.length
 ·rw[z3q hj]at hd;obtain⟨vs,v1,v2,v3⟩:=F.2 j d hd;exact⟨vs,v1,λy u hu=>by rw[zQq];exact cells _ u (v2 y u hu),v3⟩
 ·rw[z5q (by omega)]at hd;obtain⟨vs,v1,v2,v3⟩:=G.2 _ d hd;refine⟨vs,v1,λy u hu=>?_,v3⟩;have:=cells' _ u (v2 y u hu);have e:j * sz=ds.length * sz+(j-ds.length) * sz:=by rw[<- zqq];congr 1;omega
  rw[e]
  rwa [show off+(ds.length * sz+(j-ds.length) * sz)+y=off+ds.length * sz+((j-ds.length) * sz+y)by omega]
def C2E{E:Env}{h:Heap}{i n sz m:Nat}{ds:List DV}(H:RO E h i (.BF n sz ds))(hm:m<=ds.length):∃all,JY E.S h sz (ds.take m) all/\∀(j:Nat) u,all[j]?=some u->hc h (E.obj i) (E.base i+j)=some u:=by
 simp only[RO]at H;obtain⟨-,-,hz,H⟩:=H;rcases H with⟨rfl,-⟩ | ⟨c,T,f,h1,h2,WI,h3,h5⟩
 ·have:m=0:=by simpa using hm
  subst this;exact⟨[],⟨by simp,by simp⟩,by simp⟩
 have hmul:m * sz<=ds.length * sz:=zcq _ hm;have Ak:(c.toList.drop (E.base i)).take (m * sz)=(c.toList.drop (E.base i)).take (m * sz):=rfl;refine⟨(c.toList.drop (E.base i)).take (m * sz),⟨?_,λj d hd=>?_⟩,λj u hu=>?_⟩
 ·simp only[zCq,List.length_drop,zDq]
  rw[ylq (by omega),ylq hm]
 ·have hj:j<m:=by have:=(z0q.1 hd).1;simp only[zCq]at this;omega
  rw[zFq hj]at hd;obtain⟨vs,v1,v2,v3⟩:=h5 j d hd;refine⟨vs,v1,λy u hu=>?_,v3⟩;have hy:y<sz:=by have:=(z0q.1 hu).1;omega
  have P8:j * sz+y<m * sz:=by
   calc j * sz+y<j * sz+sz:=by omega
    _=(j+1) * sz:=by rw[zJq]
    _<=m * sz:=zcq _ hj
  rw[zFq P8,ygq,<- zQq,y8q];exact v2 y u hu
 ·have hj:j<m * sz:=by have:=(z0q.1 hu).1;simp only[zCq]at this;omega
  rw[zFq hj,ygq,y8q]at hu;unfold hc;rw[h1];exact hu
def C2o{fl:I5}{c:Call}{y v:Operand}{t u:TypeId}(I1:o.op=.call c)(B32:c.callee=.builtin .append)(ha:c.args.toList=[y,v])(ht:c.argTypes.toList=[t,u])(UT:M4 fl.Hf o.dst=true)(H:IA C fl o y v t u st k=some x)(Rl:M9 E st a w.heap)(T:Then E w k x K):Gp C.P o a w K:=by
 unfold IA at H;rw[D5 UT]at H;unfold A8L at H;obtain⟨r,h1,H⟩:=D8 H;obtain⟨s,h2,H⟩:=D8 H;obtain⟨sz,Ak,H⟩:=D8 H;obtain⟨hc',H⟩:=I9 H;simp only[zhq]at hc';obtain⟨eT,Il⟩:=hc';obtain⟨t0,Il⟩:=zAq.1 Il;obtain⟨e,e',z,inf,zv,hu,MI,hz,Hu,hpos,BP,lX,TW,Ya⟩:=gY Ak;have e1:=Rl.src h1;have e2:=(Rl.src h2).data eT;have Gf:inf.size=sz:=by obtain⟨i',d',q1,-,q2,-⟩:=KV hz;rw[BP]at q1;simp only[D9]at q1;rw[<- Hu,q2,q1]
 have U7:∀v' w',(Builtin.append_ #[t,u] o.type #[a.eval y,a.eval v]).run C.P w=.ok v' w'->(execOp a.eval o).run C.P w=.ok (.value v') w':=by intro v' w' hv;refine Ga I1 B32 ?_;rw[Vw ht,show c.args.map a.eval=#[a.eval y,a.eval v]from by rw[Vw ha];simp];exact Bf hv
 rw[Il]at H;have hn:=Rl.n;obtain⟨q,hq,H⟩:=D8 H
 ·have hm:=A9N hq;rw[hm]at e1;simp only[RR,O0]at e1;obtain⟨p,hp,H⟩:=D8 H;obtain⟨hg,H⟩:=I9 H;obtain⟨d2,hd,H⟩:=D8 H;simp only[zhq,beq_iff_eq,F5]at hg;obtain⟨⟨g1,g2⟩,g3⟩:=hg;have hpv:=iN hp;clear hp;obtain⟨i,n,sz',len⟩:=q;obtain⟨psz,ds⟩:=p;simp only at g1 g2 g3 hpv e1 H;have g1:=g1.symm;have g2:=g2.symm;subst g1;subst g2;obtain⟨ds',es,hr,hs,lY,hne,rfl⟩:=A8r hd;simp only[DV.list.injEq,true_and]at hr;subst hr;simp only at H;rw[hs]at e2;obtain⟨b',len',cap',all',ev',k1,k2,k3,k4,k5,k6,k7⟩:=Sj (P:=C.P) e2;obtain⟨r1,r2,r3,b,cap,ev,f2,f3,f4,f5⟩:=e1;have B:=Rl.V8 i _ hpv;have BB:=B;simp only[RO]at BB;obtain⟨bv,b0,-,BB⟩:=BB;have f5:=f5 bv;obtain⟨all,F,Fc⟩:=C2E B g3;have P8:(ds.take len).length=len:=by rw[zCq];omega
  have UR:Builtin.lenOf (a.eval v)=pure len':=by rw[ev'];rfl
  have xm:=k4.one hpos;have hal:all.length=len * sz:=by rw[F.1,P8]
  have C5G:all'.length=len' * sz:=by rw[k4.1,k1]
  have Kq:=(z0q.1 hpv).1;have hln:0<len':=by omega
  have A82:(len+len') * sz=len * sz+len' * sz:=zqq _ _ _;by_cases Bp:len+len'<=cap
  ·obtain⟨hb,B7Z⟩:=f5 (by omega);subst hb;have hc0:0<cap * sz:=ypq (by omega) hpos;obtain⟨cc,TT,f,c1,c2,c2',c3,c5⟩:=BB.resolve_left λh=>by have:=h.2;omega
   have hmul:(len+len') * sz<=cap * sz:=zcq _ Bp;obtain⟨w',hw,S⟩:=KT (P:=C.P) (b:=E.obj i) (T:=TT) (f:=f) (E.base i+len * sz) all' cc 0 w c1 (by omega) xm (λo' h3 h4=>(c3 o' (by omega) (by omega)).2);have Bh:(Builtin.append_ #[t,u] o.type #[a.eval y,a.eval v]).run C.P w=.ok (.slice (some ⟨E.obj i,E.base i,none⟩) (len+len') cap) w':=by rw[ev];refine MQ hu MI BP UR (by rw[Gf];exact k7 w rfl) Bp ?_;rw[Gf,Addr.add_lit];exact hw
   simp only[zEq]at S;have vE:(E.A9O i (n+1)).Bj i=n+1:=D5 rfl;have PS:Pr (λT=>T=.obj i) E w.heap (E.A9O i (n+1)) w'.heap:=by
    refine⟨y2q S.size.symm,λb1 KF=>?_,λb1 o1 KF hT=>rfl,zjq _,λj hj _=>⟨rfl,rfl,rfl⟩,λ_ _=>rfl,λj hj=>?_⟩
    ·by_cases bN:b1=E.obj i
     ·subst bN;rw[c1];obtain⟨c',q1,q2,q3⟩:=S.ex;refine⟨c',q1,q2,λj hj=>?_⟩;rw[q3 j,C8];rintro⟨q4,q5⟩;exact hj (c3 j (by omega) (by omega)).1
     ·rw[S.rest b1 bN];exact Y4.refl _ _
    ·by_cases hji:j=i
     ·subst hji;rw[vE];exact⟨λh=>by omega,by omega,λh=>absurd rfl h⟩
     ·have:(E.A9O i (n+1)).Bj j=E.Bj j:=C8 hji;rw[this];exact⟨id,zjq _,λ_=>rfl⟩
   have HY:=PS.U0 (by simp) Rl.fresh;have R2:M9 (E.A9O i (n+1)) { st with sg:=st.sg.set i (.BF (n+1) sz (ds.take len++es)) } a w'.heap:=by
    refine⟨Rl.size,Rl.Ba,Rl.Dm,by simpa[Env.A9O]using hn,λq vq hq=>(Rl.AA q vq hq).mono PS HY (by simp) (by simp),λs' cs' FD=>(Rl.Ad s' cs' FD).mono PS HY (by simp) (by simp),λi' ob hi=>?_,λb1 o1 KF=>Rl.fresh b1 o1 (by rw[<- S.size];exact KF)⟩;by_cases EE:i=i'
    ·subst EE;simp only[z6q Kq,D9]at hi;subst hi;obtain⟨c',q1,q2,q3⟩:=S.ex;refine C0R (all:=all) (all':=all') (off:=E.base i) (top:=E.top i) rfl rfl rfl vE (y3q _) hpos q1 (by rw[P8];rw[<- k1];omega) (by rw[q2];exact c2') (λo' h3 h4=>c3 o' h3 h4) (F.mono HY) (k4.mono HY) (λj u hu=>?_) λj u hu=>?_
     ·have hjl:j<all.length:=(z0q.1 hu).1;have:=Fc j u hu;unfold Su.hc at this;rw[c1]at this;rw[q3,C8 (by omega)];exact this
     ·have hjl:j<all'.length:=(z0q.1 hu).1;rw[P8,q3,D5 (by omega),<- hu];congr 1;omega
    ·simp only[z2q EE]at hi;exact(Rl.V8 i' ob hi).mono PS HY (Dc Rl hi) (by simp;exact λh=>EE h.symm) (by simp)
   refine BM (U7 _ _ Bh) (T _ _ _ w' H ?_ (PS.Au (by rintro T rfl;simp[Q4])) S.out);rw[Il];refine R2.put λt1 ht1=>?_;refine RR.Bb ⟨r1,y3q _,by rw[vE];exact zjq _,some ⟨E.obj i,E.base i,none⟩,cap,by rw[P8,k1],by rw[P8,<- k1];exact Bp,by simp,λ_ q hq=>?_,λ_ _=>⟨rfl,B7Z⟩⟩;simp only[D9]at hq;rw[<- hq]
  ·-- a new block
   have C5L:∀w':World,w'.heap=w.heap->(Builtin.firstCells inf.size len (.slice b len cap)).run C.P w'=.ok all.toArray w':=by
    intro w' hw';cases b with
    |none=>have h0:=f3 rfl;have h9:all=[]:=zgq (by rw[hal,show len=0 by omega];simp);rw[h9,show len=0 by omega];rfl
    |some y'=>
      show(loadCells y' (len * inf.size)).run C.P w'=_;rw[Gf];by_cases h0:0<cap
      ·obtain⟨hb,-⟩:=f5 h0;simp only[D9]at hb;rw[<- hal,hb];exact ZV (λj u hu=>by rw[hw'];exact Fc j u hu)
      ·have h9:all=[]:=zgq (by rw[hal,show len=0 by omega];simp);rw[h9,show len=0 by omega,zKq];rfl
   obtain⟨nc,hnc,Bh⟩:=run_append_grow (ty:=o.type) (b:=b) hu MI BP UR (by rw[Gf];exact k7) C5L TW Bp (by unfold J9 at lY;rw[P8]at lY;omega) lX;rw[<- ev]at Bh;have X_:(Builtin.zeroCells zv.cells (nc-(len+len'))).toList.length=(nc-(len+len')) * sz:=by simp[Builtin.zeroCells,Ya]
   have C5W:(len+len') * sz+(nc-(len+len')) * sz=nc * sz:=by rw[<- zqq];congr 1;omega
   generalize hzc:(Builtin.zeroCells zv.cells (nc-(len+len'))).toList=zc at Bh X_
   let E2:=E.B7h i (n+1) w.heap.size (nc * sz)
   have vE:E2.Bj i=n+1:=D5 rfl;have oE:E2.obj i=w.heap.size:=D5 rfl;have bE:E2.base i=0:=D5 rfl;have tE:E2.top i=nc * sz:=D5 rfl;have PS:Pr (λT=>T=.obj i) E w.heap E2 (w.heap.push (.cells (all++all'++zc).toArray e)):=by
    refine Pr.push (λb1 o1 KF hT=>?_) (zjq _) (λj hj hvj=>?_) (λ_ _=>rfl) (λj hj=>?_)
    ·show(if _ then _ else _)=_;rw[C8 (by omega),C8 hT]
    ·have hji:j≠i:=λh=>by subst h;rw[vE]at hvj;omega
     refine⟨?_,?_,?_⟩<;>(show(if _ then _ else _)=_;rw[C8 hji])
    ·by_cases hji:j=i
     ·subst hji;rw[vE];exact⟨λh=>by omega,by omega,λh=>absurd rfl h⟩
     ·have:E2.Bj j=E.Bj j:=C8 hji;rw[this];exact⟨id,zjq _,λ_=>rfl⟩
   have HY:=PS.U0 (by simp) Rl.fresh;have IZ:∀(j:Nat),hc (w.heap.push (.cells (all++all'++zc).toArray e)) w.heap.size j=(all++all'++zc)[j]?:=λj=>by rw[A3x];simp
   have R2:M9 E2 { st with sg:=st.sg.set i (.BF (n+1) sz (ds.take len++es)) } a (w.heap.push (.cells (all++all'++zc).toArray e)):=by
    refine⟨Rl.size,Rl.Ba,Rl.Dm,by simpa[E2,Env.B7h]using hn,λq vq hq=>(Rl.AA q vq hq).mono PS HY (by simp) (by simp),λs' cs' FD=>(Rl.Ad s' cs' FD).mono PS HY (by simp) (by simp),λi' ob hi=>?_,λb1 o1 KF=>?_⟩
    ·by_cases EE:i=i'
     ·subst EE;simp only[z6q Kq,D9]at hi;subst hi;refine C0R (all:=all) (all':=all') oE bE tE vE (y3q _) hpos Og (by rw[P8,<- k1];omega) (by simp;omega) (λo' h3 h4=>⟨?_,by simp⟩) (F.mono HY) (k4.mono HY) (λj u hu=>?_) λj u hu=>?_
      ·show(if _ then _ else _)=_;rw[D5 rfl,D5 h4]
      ·have hjl:j<all.length:=(z0q.1 hu).1;rw[zfq,zMq,zLq,z3q hjl];exact hu
      ·have hjl:j<all'.length:=(z0q.1 hu).1;rw[P8,zfq,zMq,zLq,z5q (by omega),z3q (by omega),<- hu];congr 1;omega
     ·simp only[z2q EE]at hi;exact(Rl.V8 i' ob hi).mono PS HY (Dc Rl hi) (by simp;exact λh=>EE h.symm) (by simp)
    ·simp only[ydq]at KF;show(if _ then _ else _)=_;rw[C8 (by omega),C8]
     ·exact Rl.fresh b1 o1 (by omega)
     ·rw[Rl.fresh b1 o1 (by omega)];simp
   refine BM (U7 _ _ Bh) (T _ _ _ (w.drew.alloc (.cells (all++all'++zc).toArray e)) H ?_ (PS.Au (by rintro T rfl;simp[Q4])));rw[Il];refine R2.put λt1 ht1=>?_;refine RR.Bb ⟨r1,y3q _,by rw[vE];exact zjq _,some ⟨w.heap.size,0,none⟩,nc,by rw[P8,k1],by rw[P8,<- k1];exact hnc,by simp,λ_ q hq=>?_,λ_ _=>⟨by rw[oE,bE],by rw[bE,tE,zfq];exact zjq _⟩⟩;simp only[D9]at hq;rw[<- hq]
end
end Go.Su

/-
 THE DATA MACHINE, part 18: one operation, whichever it is.
-/
namespace Go.Su
set_option linter.defProp false
section
variable {X:Type}{C:AB}{R:U1}{o:Oper}{st:St}{k:St->Option X}{x:X}{E:Env}{a:Act}{w:World}{K:Act->World->Prop}{Q:Exit->Act->World->Prop}
open Classical in
noncomputable def Env.C6a(E:Env)(n b off m tp:Nat):Env :={ E with obj:=λi=>if i=E.n then b else E.obj i,base:=λi=>if i=E.n then off else E.base i,top:=λi=>if i=E.n then tp else E.top i,n:=E.n+1,Bj:=λi=>if i=E.n then 0 else E.Bj i,O:=λb' o=>if b'<n then E.O b' o else if b'=b/\off<=o/\o<off+m then .obj E.n else .other }
variable {f:FuncId}{v:Value}
def C0q{r:DV×H6}{sz:Nat}{ds:List DV}(hO:GI C R)(hc:C.clone f=true)(U7:(execOp a.eval o).run C.P w=.ok (.enter f #[v]) w)(hd:M6 r.2=true)(C8K:sz=C.tK f)(hl0:ds.length<=J9)(hr:r.1=.list sz ds){p q:Nat}(hv:RR E w.heap p q r.1 r.2 v)(H:k ({ st with sg:=st.sg++[H7.arr sz ds] }.put o.dst .undef (.arr st.sg.length sz 0 ds.length))=some x)(Rl:M9 E st a w.heap)(T:Then E w k x K):Gp C.P o a w K:=by
 have hS:∀b o,w.heap.size<=b->¬E.S b o:=λb o hb hs=>by have h9:=Rl.fresh b o hb;rw[show E.O b o=Tag.U0 from hs]at h9;cases h9
 have bO:=(hO.c f hc).2;rw[<- C8K]at bO;refine nJ U7 ((bO E.S w v ds hl0 hS (by rw[<- hr];exact hv.data hd)).mono ?_);rintro e w' ⟨a0,b,off,cap,he,ha0,A3y,B7P,B7Y,Ak,lh,hblk,B7W⟩;subst he
 let E':=E.C6a w.heap.size b off (ds.length * sz) (off+cap * sz)
 have Pc:Pr (λ_=>False) E w.heap E' w'.heap:=by
  refine⟨Ak,λb' hb=>by rw[hblk b' hb];exact Y4.refl _ _,λb' o hb _=>?_,yqq _,λi hi _=>?_,λ_ _=>rfl,iw rfl⟩
  ·show(if b'<w.heap.size then E.O b' o else _)=_;rw[D5 hb]
  ·have:i≠E.n:=by omega
   exact⟨C8 this,C8 this,C8 this⟩
 have M3:=Pc.U0 (by simp) Rl.fresh;have n0:st.sg.length=E.n:=Rl.n;have R2:M9 E' { st with sg:=st.sg++[H7.arr sz ds] } a w'.heap:=by
  refine⟨Rl.size,Rl.Ba,Rl.Dm,by simp[n0];rfl,λt v hv=>(Rl.AA t v hv).mono Pc M3 (by simp) (by simp),λs cs hs=>(Rl.Ad s cs hs).mono Pc M3 (by simp) (by simp),λi ob hi=>?_,λb' o hb=>?_⟩
  ·by_cases Qa:i<st.sg.length
   ·rw[z3q Qa]at hi;exact(Rl.V8 i ob hi).mono Pc M3 (by rw[<- n0];exact Qa) (by simp) (by simp)
   ·rw[z5q (zNq Qa)]at hi;have hi0:i-st.sg.length=0:=by have:=(z0q.1 hi).1;simpa using this
    have hie:i=E.n:=by omega
    rw[hi0]at hi;simp only[ziq,D9]at hi;subst hi hie;simp only[RO];intro hne;obtain⟨hb,c,T0,h1,h2,h3,h4⟩:=B7W hne;have e1:E'.obj E.n=b:=D5 rfl;have e2:E'.base E.n=off:=D5 rfl;rw[e1,e2];refine⟨c,T0,h1,h2,h3,λo ho1 ho2=>?_,λj d hj=>?_⟩
    ·show(if b<w.heap.size then E.O b o else if b=b/\off<=o/\o<off+ds.length * sz then Tag.obj E.n else .other)=_;rw[C8 (by omega),D5 ⟨rfl,ho1,ho2⟩]
    ·obtain⟨vs,v1,v2,v3⟩:=h4 j d hj;refine⟨vs,v1,v2,v3.mono ⟨λb' o hs=>?_,λ_ _ _ _ hv=>hv⟩⟩;exact M3.s b' o hs
  ·show(if b'<w.heap.size then E.O b' o else if b'=b/\off<=o/\o<off+ds.length * sz then Tag.obj E.n else .other)=_;rw[C8 (by omega)];split
   ·rename_i h;by_cases hne:ds=[]
    ·subst hne;simp at h;omega
    ·obtain⟨-,c,T0,h1,-⟩:=B7W hne;have:=(z7q.1 h1).1;omega
   ·rfl
 refine⟨_,rfl,T E' _ _ w' H (R2.put λt _=>?_) (Pc.Au (by simp)) lh⟩;simp only[RR,O0];refine⟨⟨by rw[n0];exact Nat.lt_succ_self _,by rw[n0];exact D5 rfl⟩,_,_,rfl,λhpos=>?_,A3y,B7P,B7Y,λ_=>by rw[n0,zfq];exact y2q ((congrArg (· + cap * sz) (D5 rfl)).trans (D5 rfl).symm)⟩;rw[n0,ha0 (λh=>by rw[h]at hpos;exact Nat.lt_irrefl 0 hpos)];have e1:E'.obj E.n=b:=D5 rfl;have e2:E'.base E.n=off:=D5 rfl;rw[e1,e2];simp
variable {cs:List DV}
def B82{d:DV}(h:C01 d=some cs):d=.agg cs:=by cases d<;>simp only[C01,reduceCtorEq,D9]at h;rw[h]
def C4v{g:FuncId}{r:DV×H6}(hO:GI C R)(hc:C.pV f=some g)(U7:(execOp a.eval o).run C.P w=.ok (.enter f #[v]) w)(hd:M6 r.2=true)(hr:r.1=.agg cs)(hl:cs.length=C.tK f){p q:Nat}(hv:RR E w.heap p q r.1 r.2 v)(H:k ({ st with sg:=st.sg++[H7.box (cs.map λd=>(d,.val))] }.put o.dst .undef (.fn g [(st.sg.length,0)]))=some x)(Rl:M9 E st a w.heap)(T:Then E w k x K):Gp C.P o a w K:=by
 have h1:=hv.data hd;rw[hr]at h1;simp only[RV]at h1;obtain⟨vs,rfl,h2⟩:=h1;obtain⟨l1,h3⟩:=Gr.1 h2;have l2:vs.size=C.tK f:=by rw[<- hl,l1];simp
 refine nJ U7 (((hO.m f g hc).2 w vs l2).mono ?_);rintro e w' ⟨rfl,T0,rfl⟩;have cok:JA E w.heap (cs.map λd=>(d,H6.val)) vs.toList:=by refine⟨by simp[l1],λj r' u hj hu=>?_⟩;simp only[zpq,zrq]at hj;obtain⟨d,FU,rfl⟩:=hj;obtain⟨a1,a2⟩:=h3 j d u FU hu;exact⟨⟨a1,Lu a1 a2,rfl,Qr a1 a2⟩,by simp⟩
 obtain⟨R1,P1⟩:=Rl.newObj (T0:=T0) cok;refine⟨_,rfl,T _ _ _ (w.alloc (.cells vs T0)) H (R1.put λt0 _=>?_) (P1.Au (by simp)) ⟨rfl,rfl,rfl⟩⟩;have hn:=Rl.n;simp only[RR,O0,Env.newObj];refine⟨?_,λc hc=>?_⟩
 ·simp[hn]
 ·simp only[zxq]at hc;subst hc;simp[Env.In,hn]
def C0o{ts:List TypeId}{xs:List Operand}{rs extra:List (DV×H6)}{ev:List Value}(hO:GI C R)(U7:isGo C.P f=true->(execOp a.eval o).run C.P w=.ok (.enter f (xs.map a.eval++ev).toArray) w)(hsr:LZ C.P st ts xs=some rs)(hel:extra.length=ev.length)(Im:∀(i:Nat) r v,extra[i]?=some r->ev[i]?=some v->∀p q,RR E w.heap p q r.1 r.2 v/\r.2 ≠ .own/\r.2 ≠ .full)(H:Lv C R o f xs (rs++extra) st k=some x)(Rl:M9 E st a w.heap)(T:Then E w k x K):Gp C.P o a w K:=by
 obtain⟨l1,l2⟩:=B1S Rl hsr;have all:∀(i:Nat) r v,(rs++extra)[i]?=some r->(xs.map a.eval++ev)[i]?=some v->∃p q,RR E w.heap p q r.1 r.2 v:=by
  intro i r v hr hv;by_cases hi:i<rs.length
  ·rw[z3q hi]at hr;rw[z3q (by simpa[l1]using hi)]at hv;obtain⟨y,t,hy,rfl,hsy,hRy⟩:=l2 i r v hr hv;exact⟨_,_,hRy⟩
  ·have hge:rs.length<=i:=zNq hi;rw[z5q hge]at hr;rw[z5q (by simpa[l1]using hge)]at hv;simp only[yuq,<- l1]at hv;exact⟨0,0,(Im _ r v hr hv 0 0).1⟩
 have Bl:(rs++extra).length=(xs.map a.eval++ev).length:=by simp[l1,hel]
 unfold Lv at H;split at H
 ·rename_i hc;split at H
  ·rename_i r hrs
   ·obtain⟨p,hp,H⟩:=D8 H;obtain⟨sz,ds⟩:=p;have hr1:r.1=.list sz ds:=by cases hr:r.1<;>rw[hr]at hp<;>simp only[aC,reduceCtorEq,D9,Prod.mk.injEq]at hp;obtain⟨rfl,rfl⟩:=hp;rfl
    obtain⟨hd,H9⟩:=I9 H;simp only[zhq,beq_iff_eq,F5]at hd;obtain⟨⟨hd,hz⟩,hl0⟩:=hd;simp only[<- hz]at H9;rw[hrs]at Bl;obtain⟨v,hv⟩:=zvq.1 (Bl.symm:(xs.map a.eval++ev).length=1);obtain⟨p,q,hR⟩:=all 0 r v (by rw[hrs];rfl) (by rw[hv];rfl);have:=U7 (hO.c f hc).1;rw[hv]at this;exact C0q hO hc this hd hz hl0 hr1 hR H9 Rl @T
  ·simp at H
 ·split at H
  ·rename_i g hg;split at H
   ·rename_i r hrs;obtain⟨cs,IP,H⟩:=D8 H;obtain⟨hd,H9⟩:=I9 H;simp only[zhq,beq_iff_eq]at hd;rw[hrs]at Bl;obtain⟨v,hv⟩:=zvq.1 (Bl.symm:(xs.map a.eval++ev).length=1);obtain⟨p,q,hR⟩:=all 0 r v (by rw[hrs];rfl) (by rw[hv];rfl);have:=U7 (hO.m f g hg).1;rw[hv]at this;exact C4v hO hg this hd.1 (B82 IP) hd.2 hR H9 Rl @T
   ·simp at H
  split at H
  ·have hp:isGo C.P f=true:=by obtain⟨_,H1⟩:=I9 H;obtain⟨d,hd,_⟩:=D8 H1;exact(hO.p f _ d hd).1
   exact C2m hO (U7 hp) Bl all H Rl @T
  ·rename_i s hs;have hp:isGo C.P f=true:=by obtain⟨_,H1⟩:=I9 H;obtain⟨d,hd,_⟩:=D8 H1;obtain⟨_,_,h,_⟩:=hO.r f _ _ d hd;exact h
   exact C4w hO hs (U7 hp) hsr hel Im H Rl @T
variable {fl:I5}
def C2h{c:Call}(hO:GI C R)(I1:o.op=.call c)(H:Ht C R fl o c st k=some x)(Rl:M9 E st a w.heap)(T:Then E w k x K):Gp C.P o a w K:=by
 unfold Ht at H;split at H
 ·rename_i b hb;split at H
  ·rename_i h1 h2;exact C4s I1 hb h1 h2 H Rl @T
  ·rename_i h1 h2;cases UT:M4 fl.Hf o.dst
   ·cases pJ:M4 fl.opn o.dst
    ·exact B8E I1 hb h1 h2 pJ UT H Rl @T
    ·exact B0p I1 hb h1 h2 pJ UT H Rl @T
   ·exact C2o I1 hb h1 h2 UT H Rl @T
  ·rename_i h1 h2;exact C0p I1 hb h1 h2 H Rl @T
  ·rename_i h1 h2;exact C4t I1 hb h1 H Rl @T
  ·rename_i h1 h2;exact C4u I1 hb h1 H Rl @T
  ·simp at H
 ·rename_i fv hfv;obtain⟨r,h1,H1⟩:=D8 H;obtain⟨rs,h2,H2⟩:=D8 H1;split at H2
  ·rename_i f caps hr;have hfn:=Rl.src h1;rw[hr]at hfn;simp only[RR,O0]at hfn;refine C0o (ts:=c.argTypes.toList) (ev:=caps.map λc=>Value.pointer (some ⟨E.obj c.1,c.2,none⟩)) hO (λhg=>?_) h2 (by simp) (λi r' v Bh hv p q=>?_) H2 Rl @T
   ·simp only[execOp,I1,resolve,hfv,hfn.1,Deferred.ofValue,Sem.run_bind,Sem.run_pure,Result.andThen_ok,invoke]
    rw[mf hg];congr 2;apply Array.ext';simp
   ·simp only[zpq,zrq]at Bh hv;obtain⟨m,hm,rfl⟩:=Bh;obtain⟨m',TV,rfl⟩:=hv;rw[hm]at TV;cases TV;refine⟨?_,by simp,by simp⟩;simp only[RR,O0];exact⟨hfn.2 m (zsq hm),trivial⟩
  ·simp at H2
 ·simp at H
def C6G(hO:GI C R)(H:K8 C R fl o st k=some x)(Rl:M9 E st a w.heap)(T:Then E w k x K):Gp C.P o a w K:=by
 unfold K8 at H;split at H
 ·rename_i y I1;exact B4M (by simp[execOp,I1]) H Rl @T
 ·rename_i y I1;exact B4M (by simp[execOp,I1]) H Rl @T
 ·rename_i I1;exact C2l I1 H Rl @T
 ·rename_i I1;exact C0m I1 H Rl @T
 ·rename_i I1;exact C4p I1 H Rl @T
 ·rename_i I1;exact C0n I1 H Rl @T
 ·rename_i I1;exact B0q I1 H Rl @T
 ·rename_i I1;exact C2k I1 H Rl @T
 ·rename_i I1;exact C0t I1 H Rl @T
 ·rename_i I1;exact B4N I1 H Rl @T
 ·rename_i I1;exact C4o I1 H Rl @T
 ·rename_i I1;exact C6H I1 H Rl @T
 ·rename_i I1;exact C2i I1 H Rl @T
 ·rename_i I1;exact B2m I1 H Rl @T
 ·rename_i I1;exact B2n I1 H Rl @T
 ·rename_i I1;exact C0r I1 H Rl @T
 ·rename_i I1;exact C0s I1 H Rl @T
 ·rename_i I1;exact B4L I1 H Rl @T
 ·rename_i I1;obtain⟨q,_,H9⟩:=D8 H;exact B53 I1 H9 Rl @T
 ·rename_i I1;exact B8F I1 H Rl @T
 ·rename_i I1;exact B2o I1 H Rl @T
 ·rename_i I1;exact B52 I1 H Rl @T
 ·rename_i I1;exact C2h hO I1 H Rl @T
 ·simp at H
end
end Go.Su

/-
 THE DATA MACHINE, part 19: an operation sees what its footprint says, and writes what it says.
-/
namespace Go.Su
set_option linter.defProp false
theorem O3{α β : Type}(a : α)(g : α->Option β):ob (some a) g=g a:=rfl
theorem X5{β : Type}(y:Option β):og true y=y:=rfl
structure I_(f:Fp)(st st':St):Prop where
 lt:st'.tm.length=st.tm.length
 lm:st'.mt.length=st.mt.length
 lb:st'.bx.length=st.bx.length
 t:∀i∈f.rt,st'.tm[i]?=st.tm[i]?/\st'.mt[i]?=st.mt[i]?
 b:∀i∈f.rb,st'.bx[i]?=st.bx[i]?
 s:f.rs=true->st'.sg=st.sg
 n:∀t,f.nb=some t->Mx t st'.mt=true
structure Two(f:Fp)(st st' s s':St):Prop where
 l:st'.tm.length=st.tm.length/\st'.mt.length=st.mt.length/\st'.bx.length=st.bx.length
 ls:s.tm.length=st.tm.length/\s.mt.length=st.mt.length/\s.bx.length=st.bx.length
 ls':s'.tm.length=st.tm.length/\s'.mt.length=st.mt.length/\s'.bx.length=st.bx.length
 t:∀i:Nat,(i∈f.wt/\s'.tm[i]?=s.tm[i]?/\s'.mt[i]?=s.mt[i]?)\/((s'.tm[i]?=st'.tm[i]?/\s'.mt[i]?=st'.mt[i]?)/\s.tm[i]?=st.tm[i]?/\s.mt[i]?=st.mt[i]?)
 b:∀i:Nat,(i∈f.wb/\s'.bx[i]?=s.bx[i]?)\/(s'.bx[i]?=st'.bx[i]?/\s.bx[i]?=st.bx[i]?)
 s:(f.ws=true/\s'.sg=s.sg)\/(s'.sg=st'.sg/\s.sg=st.sg)
variable {f:Fp}{st:St}{st':St}
def Two.refl(A:I_ f st st'):Two f st st' st st' :=⟨⟨A.lt,A.lm,A.lb⟩,⟨rfl,rfl,rfl⟩,⟨A.lt,A.lm,A.lb⟩,λ_=>.inr ⟨⟨rfl,rfl⟩,rfl,rfl⟩,λ_=>.inr ⟨rfl,rfl⟩,.inr ⟨rfl,rfl⟩⟩
def Two.put{s s':St}(A:Two f st st' s s'){dst:Option Nat}(hd:∀t∈dst.toList,t∈f.wt)(d:DV)(m:H6):Two f st st' (s.put dst d m) (s'.put dst d m):=by
 cases dst with
 |none=>exact A
 |some t=>
   have ht:t∈f.wt:=hd t (by simp);obtain⟨l,ls,ls',a1,a2,a3⟩:=A;refine⟨l,by simpa[St.put]using ls,by simpa[St.put]using ls',λi=>?_,a2,a3⟩;by_cases hi:t=i
   ·subst hi;refine .inl ⟨ht,?_,?_⟩
    ·simp only[St.put,ztq]
     rcases zoq t st.tm.length with h | h
     ·rw[z4q (by omega),z4q (by omega)];rfl
     ·rw[zaq (by omega),zaq (by omega)]
    ·simp only[St.put,ztq]
     rcases zoq t st.mt.length with h | h
     ·rw[z4q (by omega),z4q (by omega)];rfl
     ·rw[zaq (by omega),zaq (by omega)]
   ·simp only[St.put,z2q hi]
    exact a1 i
variable {t:Nat}
def Two.C3h{s s':St}(A:Two f st st' s s')(ht:t∈f.wt)(he:s'.tm[t]?=s.tm[t]?)(m:H6):Two f st st' { s with mt:=s.mt.set t m } { s' with mt:=s'.mt.set t m }:=by
 obtain⟨l,ls,ls',a1,a2,a3⟩:=A;refine⟨l,by simpa using ls,by simpa using ls',λi=>?_,a2,a3⟩;by_cases hi:t=i
 ·subst hi;refine .inl ⟨ht,he,?_⟩;simp only[ztq];rcases zoq t st.mt.length with h | h
  ·rw[z4q (by omega),z4q (by omega)];rfl
  ·rw[zaq (by omega),zaq (by omega)]
 ·simp only[z2q hi]
  exact a1 i
variable {i:Nat}
def NY{α : Type}{l l':List α}(h:l'[i]?=l[i]?)(d : α):l'.getD i d=l.getD i d:=by simp only[z1q,h]
variable {x:Operand}
def Two.release{s s':St}(A:Two f st st' s s')(hx:∀t∈O9 x,t∈f.wt)(he:∀t∈O9 x,s'.tm[t]?=s.tm[t]?/\s'.mt[t]?=s.mt[t]?):Two f st st' (s.release x) (s'.release x):=by
 cases x with
 |tmp t=>have:=A.C3h (hx t (by simp[O9])) (he t (by simp[O9])).1 (dm (s.mt.getD t .val));simp only[St.release];rw[NY (he t (by simp[O9])).2];exact this
 |_=>exact A
variable {mt:List H6}
def yG{u:Nat}(h:u∈Gm mt x):u∈O9 x:=by
 cases x<;>simp only[Gm]at h
 ·split at h
  ·cases h
  ·cases h
  ·exact h
 all_goals cases h
theorem v_{mt':List H6}(h:∀u∈O9 x,mt'[u]?=mt[u]?):Gm mt' x=Gm mt x:=by
 cases x with
 |tmp t=>simp only[Gm];rw[NY (h t (by simp[O9]))]
 |_=>rfl
def A9z{m:H6}(h:mt.getD t .val=m)(hd:dm m=m):mt.set t (dm (mt.getD t .val))=mt:=by
 refine zOq λj=>?_;by_cases hj:t=j
 ·subst hj;rw[z1q]at h;cases hm:mt[t]? with
  |none=>rw[zaq (by simpa using hm)]
  |some m=>
    rw[hm]at h;simp only[zwq]at h;have hl:t<mt.length:=by
     rcases zoq t mt.length with g | g
     ·exact g
     ·rw[zaq g]at hm;cases hm
    rw[z6q hl,z1q,hm,zwq,h,hd]
 ·rw[z2q hj]
def B4B:Gm mt (.tmp t)=[t]\/mt.set t (dm (mt.getD t .val))=mt:=by
 cases h:mt.getD t .val
 case arr i sz a n=>exact .inr (by have:=A9z h rfl;rw[h]at this;exact this)
 case BF i sz a n=>exact .inr (by have:=A9z h rfl;rw[h]at this;exact this)
 all_goals (refine .inl ?_;simp only[Gm,h])
def Two.A7g{s s':St}(A:Two f st st' s s')(hx:∀t∈Gm s.mt x,t∈f.wt)(he:∀t∈O9 x,s'.tm[t]?=s.tm[t]?/\s'.mt[t]?=s.mt[t]?):Two f st st' (s.release x) (s'.release x):=by
 cases x with
 |tmp t=>
   have em:s'.mt.getD t .val=s.mt.getD t .val:=NY (he t (by simp[O9])).2 _;rcases B4B (mt:=s.mt) (t:=t)with h | h
   ·exact A.release (λu hu=>hx u (by rw[h];simpa[O9]using hu)) he
   ·have h':s'.mt.set t (dm (s'.mt.getD t .val))=s'.mt:=by
     refine zOq λj=>?_;by_cases hj:t=j
     ·subst hj;have e:=(he t (by simp[O9])).2;have q:(s.mt.set t (dm (s.mt.getD t .val)))[t]?=s.mt[t]?:=by rw[h]
      rw[em];rcases zoq t s'.mt.length with g | g
      ·rcases zoq t s.mt.length with g' | g'
       ·rw[z6q g,e,<- q,z6q g']
       ·rw[zaq g',List.getElem?_eq_none_iff]at e;omega
      ·rw[zaq g,zaq (by simpa using g)]
     ·rw[z2q hj]
    have e1:s.release (.tmp t)=s:=by simp only[St.release,h]
    have e2:s'.release (.tmp t)=s':=by simp only[St.release,h']
    rw[e1,e2];exact A
 |_=>exact A
def Two.A4C{s s':St}(A:Two f st st' s s')(ht:t∈f.wb)(c:Option (List (DV×H6))):Two f st st' { s with bx:=s.bx.set t c } { s' with bx:=s'.bx.set t c }:=by
 obtain⟨l,ls,ls',a1,a2,a3⟩:=A;refine⟨l,by simpa using ls,by simpa using ls',a1,λi=>?_,a3⟩;by_cases hi:t=i
 ·subst hi;refine .inl ⟨ht,?_⟩;simp only[ztq];rcases zoq t st.bx.length with h | h
  ·rw[z4q (by omega),z4q (by omega)];rfl
  ·rw[zaq (by omega),zaq (by omega)]
 ·simp only[z2q hi]
  exact a2 i
def Two.Hm{s s':St}(A:Two f st st' s s')(hs:f.ws=true)(g:List H7):Two f st st' { s with sg:=g } { s' with sg:=g } :=⟨A.l,A.ls,A.ls',A.t,A.b,.inl ⟨hs,rfl⟩⟩
def O4(a b:List Nat):Prop:=∀t∈a,t∈b
theorem I_.src(A:I_ f st st')(P:Program)(t:TypeId)(h:O4 (O9 x) f.rt):src P t st' x=src P t st x:=by
 cases x with
 |tmp i=>obtain⟨h1,h2⟩:=A.t i (h i (by simp[O9]));simp only[Su.src,St.get,NY h1,NY h2]
 |_=>rfl
theorem I_.LZ{f:Fp}{st st':St}(A:I_ f st st')(P:Program):∀{ts:List TypeId}{xs:List Operand},O4 (M0 xs) f.rt->LZ P st' ts xs=LZ P st ts xs
 |t::ts,x::xs,h=>by simp only[Su.LZ];rw[A.src P t (λi hi=>h i (by simp[M0,hi])),I_.LZ A P λi hi=>h i (by simp only[M0,zdq,z9q];exact .inr hi)]
 |[],x::xs,h=>by simp only[Su.LZ];rw[A.src P 0 (λi hi=>h i (by simp[M0,hi])),I_.LZ A P λi hi=>h i (by simp only[M0,zdq,z9q];exact .inr hi)]
 |[],[],_=>rfl
 |_::_,[],_=>rfl
def I_.opt(A:I_ f st st')(P:Program){x:Option Operand}(h:O4 (M0 x.toList) f.rt):bW P st' x=bW P st x:=by
 cases x with
 |none=>rfl
 |some x=>simp only[bW];rw[A.src P 0 λi hi=>h i (by simp[M0,hi])]
def I_.bx(A:I_ f st st')(h:i∈f.rb):st'.bx.getD i none=st.bx.getD i none:=NY (A.b i h) none
variable {y:Operand}
def Ru{r:List Nat}(h:O4 (M0 [x,y]) r):O4 (O9 x) r/\O4 (O9 y) r :=⟨λi hi=>h i (by simp[M0,hi]),λi hi=>h i (by simp[M0,hi])⟩
section
variable {X:Type}{C:AB}{R:U1}{fl:I5}{o:Oper}{st:St}{k:St->Option X}{x:X}{f:Fp}
def Fr(C:AB)(R:U1)(fl:I5)(o:Oper)(st:St)(k:St->Option X)(x:X)(f:Fp):Prop :=∃s,k s=some x/\(∀t,f.nb=some t->Mx t st.mt=true)/\∀st',I_ f st st'->∃s',Two f st st' s s'/\∀(Y:Type)(k':St->Option Y),K8 C R fl o st' k'=k' s'
def P5{d:DV}{m:H6}(hk:k (st.put o.dst d m)=some x)(hw:O4 o.dst.toList f.wt)(hn:f.nb=none)(h:∀st',I_ f st st'->∀(Y:Type)(k':St->Option Y),K8 C R fl o st' k'=k' (st'.put o.dst d m)):Fr C R fl o st k x f :=⟨_,hk,by rw[hn];simp,λst' A=>⟨_,(Two.refl A).put hw d m,λY k'=>h st' A Y k'⟩⟩
def B6K(I1:o.op=.move y\/o.op=.assign y)(H:K8 C R fl o st k=some x)(hr:O4 (O9 y) f.rt)(hw:O4 o.dst.toList f.wt)(hs:M4 fl.Q6 o.dst=true->O4 (O9 y) f.wt)(hn:f.nb=none):
 Fr C R fl o st k x f:=by
 have Im:∀(Y:Type)(st:St)(k:St->Option Y),K8 C R fl o st k=ob (src C.P o.type st y) λr=>if M4 fl.Q6 o.dst then k ((st.release y).put o.dst r.1 r.2)else k (st.put o.dst r.1 (dm r.2)):=by intro Y st k;rcases I1 with h | h<;>simp only[K8,h]
 rw[Im]at H;obtain⟨r,h1,H⟩:=D8 H;by_cases V9:M4 fl.Q6 o.dst=true
 ·rw[D5 V9]at H;refine⟨_,H,by rw[hn];simp,λst' A=>⟨_,((Two.refl A).release (hs V9) λt ht=>A.t t (hr t ht)).put hw r.1 r.2,λY k'=>?_⟩⟩;rw[Im,A.src _ _ hr,h1];simp only[ob,D5 V9]
 ·rw[C8 V9]at H;refine P5 H hw hn λst' A Y k'=>?_;rw[Im,A.src _ _ hr,h1];simp only[ob,C8 V9]
def C3F{c z:Operand}(I1:o.op=.pick c y z)(H:K8 C R fl o st k=some x)(hr:O4 (M0 [c,y,z]) f.rt)(hw:O4 o.dst.toList f.wt)(hn:f.nb=none):Fr C R fl o st k x f:=by simp only[K8,I1]at H;obtain⟨rc,h1,H⟩:=D8 H;obtain⟨ra,h2,H⟩:=D8 H;obtain⟨rb,h3,H⟩:=D8 H;obtain⟨h4,H⟩:=I9 H;obtain⟨d,h5,H⟩:=D8 H;have r1:O4 (O9 c) f.rt:=λi hi=>hr i (by simp[M0,hi]);have r2:O4 (O9 y) f.rt:=λi hi=>hr i (by simp[M0,hi]);have r3:O4 (O9 z) f.rt:=λi hi=>hr i (by simp[M0,hi]);refine P5 H hw hn λst' A Y k'=>?_;simp only[K8,I1,A.src _ _ r1,A.src _ _ r2,A.src _ _ r3,h1,h2,h3,ob,h4,og,h5]
variable {t:TypeId}
def C7c{op:UnOp}(I1:o.op=.unOp op t y)(H:K8 C R fl o st k=some x)(hr:O4 (O9 y) f.rt)(hw:O4 o.dst.toList f.wt)(hn:f.nb=none):Fr C R fl o st k x f:=by simp only[K8,I1]at H;obtain⟨r,h1,H⟩:=D8 H;obtain⟨h4,H⟩:=I9 H;obtain⟨d,h5,H⟩:=D8 H;refine P5 H hw hn λst' A Y k'=>?_;simp only[K8,I1,A.src _ _ hr,h1,ob,h4,og,h5]
def C3D{u:TypeId}(I1:o.op=.convert t u y)(H:K8 C R fl o st k=some x)(hr:O4 (O9 y) f.rt)(hw:O4 o.dst.toList f.wt)(hn:f.nb=none):Fr C R fl o st k x f:=by
 simp only[K8,I1]at H;obtain⟨r,h1,H⟩:=D8 H;split at H
 ·rename_i kd hk;obtain⟨h4,H⟩:=I9 H;obtain⟨d,h5,H⟩:=D8 H;refine P5 H hw hn λst' A Y k'=>?_;simp only[K8,I1,A.src _ _ hr,h1,ob,hk,h4,og,h5]
 ·simp at H
def B3Y(I1:o.op=.fieldAddr t y i)(H:K8 C R fl o st k=some x)(hr:O4 (O9 y) f.rt)(hw:O4 o.dst.toList f.wt)(hn:f.nb=none):Fr C R fl o st k x f:=by
 simp only[K8,I1,UH]at H;obtain⟨r,h1,H⟩:=D8 H;obtain⟨fd,h2,H⟩:=D8 H;obtain⟨z,h3,H⟩:=D8 H;by_cases h0:z.1=0
 ·rw[D5 h0]at H;simp at H
 ·rw[C8 h0]at H;split at H
  all_goals first
   | (rename_i hm
      refine P5 H hw hn λst' A Y k'=>?_;simp only[K8,I1,UH,A.src _ _ hr,h1,h2,h3,ob,C8 h0,hm])
   |simp at H
def B3Z{i:Operand}(I1:o.op=.indexAddr t y i)(H:K8 C R fl o st k=some x)(hr:O4 (M0 [y,i]) f.rt)(hw:O4 o.dst.toList f.wt)(hn:f.nb=none):Fr C R fl o st k x f:=by
 obtain⟨q1,q2⟩:=Ru hr;simp only[K8,I1,IY]at H;obtain⟨r,h1,H⟩:=D8 H;obtain⟨j,h2,H⟩:=D8 H;cases h3:Jl C.P t with
 |none=>
   rw[h3]at H;simp only[xM]at H;obtain⟨q,h4,H⟩:=D8 H;obtain⟨z,h5,H⟩:=D8 H;split at H
   ·rename_i hm;obtain⟨h6,H⟩:=I9 H;obtain⟨n,h7,H⟩:=D8 H;refine P5 H hw hn λst' A Y k'=>?_;simp only[K8,I1,IY,A.src _ _ q1,A.src _ _ q2,h1,h2,h3,xM,h4,h5,ob,hm,h6,og,h7]
   ·cases H
 |some e=>
 rw[h3]at H;simp only at H;obtain⟨z,h4,H⟩:=D8 H;split at H
 ·rename_i hm;obtain⟨h5,H⟩:=I9 H;obtain⟨n,h6,H⟩:=D8 H;refine P5 H hw hn λst' A Y k'=>?_;simp only[K8,I1,IY,A.src _ _ q1,A.src _ _ q2,h1,h2,h3,h4,ob,hm,h5,og,h6]
 ·rename_i hm;obtain⟨h5,H⟩:=I9 H;obtain⟨n,h6,H⟩:=D8 H;refine P5 H hw hn λst' A Y k'=>?_;simp only[K8,I1,IY,A.src _ _ q1,A.src _ _ q2,h1,h2,h3,h4,ob,hm,h5,og,h6]
 ·rename_i m hm;obtain⟨h5,H⟩:=I9 H;obtain⟨d,h6,H⟩:=D8 H;by_cases hz:z.2=true
  ·rw[D5 hz]at H;refine P5 H hw hn λst' A Y k'=>?_;simp only[K8,I1,IY,A.src _ _ q1,A.src _ _ q2,h1,h2,h3,h4,ob,h5,og,h6,D5 hz]
  ·rw[C8 hz]at H;obtain⟨h8,H⟩:=I9 H;refine P5 H hw hn λst' A Y k'=>?_;simp only[K8,I1,IY,A.src _ _ q1,A.src _ _ q2,h1,h2,h3,h4,ob,h5,og,h6,C8 hz,h8]
def C1v{i:Operand}(I1:o.op=.index t y i)(H:K8 C R fl o st k=some x)(hr:O4 (M0 [y,i]) f.rt)(hw:O4 o.dst.toList f.wt)(hn:f.nb=none):Fr C R fl o st k x f:=by
 obtain⟨q1,q2⟩:=Ru hr;simp only[K8,I1]at H;obtain⟨r,h1,H⟩:=D8 H;obtain⟨j,h2,H⟩:=D8 H;split at H
 ·rename_i hu;obtain⟨h5,H⟩:=I9 H;obtain⟨d,h6,H⟩:=D8 H;refine P5 H hw hn λst' A Y k'=>?_;simp only[K8,I1,A.src _ _ q1,A.src _ _ q2,h1,h2,ob,hu,h5,og,h6]
 ·simp at H
def C1w{lo hi mx:Option Operand}(I1:o.op=.slice t y lo hi mx)(H:K8 C R fl o st k=some x)(hr:O4 (M0 (y::(lo.toList++hi.toList++mx.toList))) f.rt)(hw:O4 o.dst.toList f.wt)(hn:f.nb=none):
 Fr C R fl o st k x f:=by
 have q1:O4 (O9 y) f.rt:=λi h=>hr i (by simp only[M0,zdq,z9q];exact .inl h);have q2:O4 (M0 lo.toList) f.rt:=λi h=>hr i (by simp only[M0,zdq,zGq,z9q]at h ⊢;exact .inr (.inl (.inl h)));have q3:O4 (M0 hi.toList) f.rt:=λi h=>hr i (by simp only[M0,zdq,zGq,z9q]at h ⊢;exact .inr (.inl (.inr h)));have q4:O4 (M0 mx.toList) f.rt:=λi h=>hr i (by simp only[M0,zdq,zGq,z9q]at h ⊢;exact .inr (.inr h));simp only[K8,I1,Si]at H;obtain⟨r,h1,H⟩:=D8 H;obtain⟨l,h2,H⟩:=D8 H;obtain⟨h,h3,H⟩:=D8 H;obtain⟨m,h4,H⟩:=D8 H;split at H
 ·rename_i q hq;obtain⟨e,g1,H⟩:=D8 H;obtain⟨z,g2,H⟩:=D8 H;obtain⟨g3,H⟩:=I9 H;obtain⟨hh,g4,H⟩:=D8 H;obtain⟨ll,g5,H⟩:=D8 H;obtain⟨g6,H⟩:=O7 H;refine P5 H hw hn λst' A Y k'=>?_;simp only[K8,I1,Si,A.src _ _ q1,A.opt _ q2,A.opt _ q3,A.opt _ q4,h1,h2,h3,h4,O3,hq,g1,g2,g3,X5,g4,g5,D5 g6]
 rename_i hq;split at H
 ·rename_i q gD;obtain⟨e,g1,H⟩:=D8 H;obtain⟨z,g2,H⟩:=D8 H;obtain⟨g3,H⟩:=I9 H;obtain⟨hh,g4,H⟩:=D8 H;obtain⟨g6,H⟩:=O7 H;refine P5 H hw hn λst' A Y k'=>?_;simp only[K8,I1,Si,A.src _ _ q1,A.opt _ q2,A.opt _ q3,A.opt _ q4,h1,h2,h3,h4,O3,hq,gD,g1,g2,g3,X5,g4,D5 g6]
 rename_i gD;obtain⟨h5,H⟩:=I9 H;split at H
 ·rename_i e hu;obtain⟨z,h6,H⟩:=D8 H;split at H
  ·obtain⟨d,h7,H⟩:=D8 H;refine P5 H hw hn λst' A Y k'=>?_;simp only[K8,I1,Si,A.src _ _ q1,A.opt _ q2,A.opt _ q3,A.opt _ q4,h1,h2,h3,h4,O3,hq,gD,h5,X5,hu,h7,h6]
  ·obtain⟨d,h7,H⟩:=D8 H;refine P5 H hw hn λst' A Y k'=>?_;simp only[K8,I1,Si,A.src _ _ q1,A.opt _ q2,A.opt _ q3,A.opt _ q4,h1,h2,h3,h4,O3,hq,gD,h5,X5,hu,h7,h6]
  ·simp at H
 ·rename_i hu;split at H
  ·obtain⟨d,h7,H⟩:=D8 H;refine P5 H hw hn λst' A Y k'=>?_;simp only[K8,I1,Si,A.src _ _ q1,A.opt _ q2,A.opt _ q3,A.opt _ q4,h1,h2,h3,h4,O3,hq,gD,h5,X5,hu,h7]
  ·simp at H
 ·simp at H
def B5M(I1:o.op=.nilCheck y)(H:K8 C R fl o st k=some x)(hr:O4 (O9 y) f.rt)(hw:O4 o.dst.toList f.wt)(hn:f.nb=none):Fr C R fl o st k x f:=by
 simp only[K8,I1]at H;obtain⟨r,h1,H⟩:=D8 H;split at H
 all_goals first
  | (rename_i hm
     refine P5 H hw hn λst' A Y k'=>?_;simp only[K8,I1,A.src _ _ hr,h1,ob,hm];done)
  | (simp at H;done)
  |skip
 rename_i hm;obtain⟨q,h2,H⟩:=D8 H;obtain⟨d,h3,H⟩:=D8 H;refine P5 H hw hn λst' A Y k'=>?_;simp only[K8,I1,A.src _ _ hr,h1,ob,hm,h2,h3]
def B5L{g:FuncId}{first caps:Array Operand}(I1:o.op=.makeFunc (.func g) first caps)(H:K8 C R fl o st k=some x)(hr:O4 (M0 caps.toList) f.rt)(hw:O4 o.dst.toList f.wt)(hn:f.nb=none):Fr C R fl o st k x f:=by simp only[K8,I1]at H;obtain⟨h0,H⟩:=O7 H;obtain⟨rs,h1,H⟩:=D8 H;obtain⟨ms,h2,H⟩:=D8 H;refine P5 H hw hn λst' A Y k'=>?_;simp only[K8,I1,A.LZ _ hr,h1,ob,h2,D5 h0]
def C5C{op:BinOp}{z:Operand}{yt:TypeId}(I1:o.op=.binOp op t y z yt)(H:K8 C R fl o st k=some x)(hr:O4 (M0 [y,z]) f.rt)(hw:O4 o.dst.toList f.wt)(hn:f.nb=none):Fr C R fl o st k x f:=by
 obtain⟨q1,q2⟩:=Ru hr;simp only[K8,I1,gm]at H;obtain⟨r,h1,H⟩:=D8 H;obtain⟨s,h2,H⟩:=D8 H;split at H
 ·rename_i hb;obtain⟨h3,H⟩:=I9 H;obtain⟨d,h4,H⟩:=D8 H;refine P5 H hw hn λst' A Y k'=>?_;simp only[K8,I1,gm,A.src _ _ q1,A.src _ _ q2,h1,h2,ob,hb,h3,og,h4]
 ·rename_i hb;obtain⟨h3,H⟩:=I9 H;obtain⟨d,h4,H⟩:=D8 H;obtain⟨e,h5,H⟩:=D8 H;refine P5 H hw hn λst' A Y k'=>?_;simp only[K8,I1,gm,A.src _ _ q1,A.src _ _ q2,h1,h2,ob,hb,h3,og,h4,h5]
 ·rename_i hb;obtain⟨h3,H⟩:=I9 H;obtain⟨d,h4,H⟩:=D8 H;obtain⟨e,h5,H⟩:=D8 H;refine P5 H hw hn λst' A Y k'=>?_;simp only[K8,I1,gm,A.src _ _ q1,A.src _ _ q2,h1,h2,ob,hb,h3,og,h4,h5]
 ·rename_i hb;obtain⟨d,h4,H⟩:=D8 H;obtain⟨e,h5,H⟩:=D8 H;refine P5 H hw hn λst' A Y k'=>?_;simp only[K8,I1,gm,A.src _ _ q1,A.src _ _ q2,h1,h2,ob,hb,h4,h5]
 ·rename_i hb;obtain⟨d,h4,H⟩:=D8 H;obtain⟨e,h5,H⟩:=D8 H;refine P5 H hw hn λst' A Y k'=>?_;simp only[K8,I1,gm,A.src _ _ q1,A.src _ _ q2,h1,h2,ob,hb,h4,h5]
 ·simp at H
end
end Go.Su

/-
 THE DATA MACHINE, part 20: footprints, the operations that look at memory.
-/
namespace Go.Su
set_option linter.defProp false
variable {X:Type}{x:X}
def OU{r:DV×H6}{K:DV×H6->Option X}(H:cellOf r K=some x):∃c,K c=some x/\∀(Y:Type)(K':DV×H6->Option Y),cellOf r K'=K' c:=by
 unfold cellOf at H;split at H
 ·rename_i hm;obtain⟨h,H⟩:=I9 H;exact⟨_,H,λY K'=>by simp only[cellOf,hm,h,X5]⟩
 ·rename_i hm;exact⟨_,H,λY K'=>by simp only[cellOf,hm]⟩
 ·rename_i hm;exact⟨_,H,λY K'=>by simp only[cellOf,hm]⟩
 ·rename_i hm;exact⟨_,H,λY K'=>by simp only[cellOf,hm]⟩
 ·rename_i h1 h2 h3 h4;obtain⟨h,H⟩:=I9 H;refine⟨_,H,λY K'=>?_⟩;unfold cellOf;split<;>simp_all[X5]
variable {P:Program}{t:TypeId}
def Pj{r:DV×H6}{K:List (DV×H6)->Option X}(H:JJ P t r K=some x):
 ∃cs,K cs=some x/\∀(Y:Type)(K':List (DV×H6)->Option Y),JJ P t r K'=K' cs:=by
 unfold JJ at H;obtain⟨z,hz,H⟩:=D8 H;split at H
 ·rename_i h2;obtain⟨h3,H⟩:=I9 H;obtain⟨cs,h4,H⟩:=D8 H;exact⟨_,H,λY K'=>by simp only[JJ,hz,O3,D5 h2,h3,X5,h4]⟩
 ·rename_i h2;obtain⟨c,h3,h4⟩:=OU H;exact⟨_,h3,λY K'=>by simp only[JJ,hz,O3,C8 h2,h4]⟩
def A2G{r:DV×H6}{K:List (DV×H6)->Option X}(H:Kl P t r K=some x):
 ∃cs,K cs=some x/\∀(Y:Type)(K':List (DV×H6)->Option Y),Kl P t r K'=K' cs:=by
 unfold Kl at H;obtain⟨z,hz,H⟩:=D8 H;split at H
 ·rename_i h2;obtain⟨h3,H⟩:=I9 H;obtain⟨cs,h4,H⟩:=D8 H;exact⟨cs,H,λY K'=>by simp only[Kl,hz,O3,D5 h2,h3,X5,h4]⟩
 ·rename_i h2;obtain⟨c,h3,h4⟩:=OU H;exact⟨_,h3,λY K'=>by simp only[Kl,hz,O3,C8 h2,h4]⟩
def aD{z:Nat×Bool}{r:DV×H6}{K:DV->Option X}(H:Pi z r K=some x):K r.1=some x/\∀(Y:Type)(K':DV->Option Y),Pi z r K'=K' r.1:=by
 unfold Pi at H;obtain⟨h1,H⟩:=I9 H;split at H
 ·rename_i h2;obtain⟨h3,H⟩:=I9 H;exact⟨H,λY K'=>by simp only[Pi,h1,X5,D5 h2,h3]⟩
 ·rename_i h2;obtain⟨h3,H⟩:=I9 H;exact⟨H,λY K'=>by simp only[Pi,h1,X5,C8 h2,h3]⟩
def sZ{X:Type}{P:Program}{t:TypeId}{st:St}{x:X}{rt:List Nat}:∀{ps:List (Nat×Operand)}{cs:List (DV×H6)}{k:List (DV×H6)->Option X},Jk P t st ps cs k=some x->O4 (M0 (ps.map (·.2))) rt->
 ∃cs',k cs'=some x/\∀(f:Fp) st',I_ f st st'->O4 rt f.rt->∀(Y:Type)(k':List (DV×H6)->Option Y),Jk P t st' ps cs k'=k' cs'
 |[],cs,k,H,_=>⟨cs,H,λ_ _ _ _ _ _=>rfl⟩
 | (i,y)::ps,cs,k,H,hs=>by
   simp only[Jk]at H;obtain⟨fd,h1,H⟩:=D8 H;obtain⟨r,h2,H⟩:=D8 H;obtain⟨xs,H,h3⟩:=Pj H;obtain⟨h4,H⟩:=O7 H;have s1:O4 (O9 y) rt:=λi h=>hs i (by simp only[zWq,M0,zdq,z9q];exact .inl h);have s2:O4 (M0 (ps.map (·.2))) rt:=λi h=>hs i (by simp only[zWq,M0,zdq,z9q]at h ⊢;exact .inr h);obtain⟨cs',h5,h6⟩:=sZ H s2;refine⟨cs',h5,λf st' A hr Y k'=>?_⟩;simp only[Jk,h1,O3,A.src P fd.1 (λi h=>hr i (s1 i h)),h2,h3,D5 h4]
   exact h6 f st' A hr Y k'
variable {x:Operand}
def I_.rZ{f:Fp}{st st':St}(A:I_ f st st')(P:Program)(t:TypeId)(h:O4 (O9 x) f.rt):rZ P t st' x=rZ P t st x:=by
 have e:=A.src P t h;unfold Su.rZ;split
 ·rfl
 ·exact e
def wF{X:Type}{P:Program}{e:TypeId}{z:Nat×Bool}{st:St}{x:X}{rt:List Nat}:∀{ps:List (Nat×Operand)}{ds:List DV}{k:List DV->Option X},Jy P e z st ps ds k=some x->O4 (M0 (ps.map (·.2))) rt->
 ∃ds',k ds'=some x/\∀(f:Fp) st',I_ f st st'->O4 rt f.rt->∀(Y:Type)(k':List DV->Option Y),Jy P e z st' ps ds k'=k' ds'
 |[],ds,k,H,_=>⟨ds,H,λ_ _ _ _ _ _=>rfl⟩
 | (i,y)::ps,ds,k,H,hs=>by
   simp only[Jy]at H;obtain⟨r,h2,H⟩:=D8 H;obtain⟨H,h3⟩:=aD H;obtain⟨h4,H⟩:=O7 H;have s1:O4 (O9 y) rt:=λi h=>hs i (by simp only[zWq,M0,zdq,z9q];exact .inl h);have s2:O4 (M0 (ps.map (·.2))) rt:=λi h=>hs i (by simp only[zWq,M0,zdq,z9q]at h ⊢;exact .inr h);obtain⟨ds',h5,h6⟩:=wF H s2;refine⟨ds',h5,λf st' A hr Y k'=>?_⟩;simp only[Jy,O3,A.rZ P e (λi h=>hr i (s1 i h)),h2,h3,D5 h4]
   exact h6 f st' A hr Y k'
section
variable {X:Type}{C:AB}{R:U1}{fl:I5}{o:Oper}{st:St}{k:St->Option X}{x:X}{f:Fp}{ps:Array (Nat×Operand)}
def C1t(I1:o.op=.build t ps)(H:K8 C R fl o st k=some x)(hr:O4 (M0 (ps.toList.map (·.2))) f.rt)(hw:O4 o.dst.toList f.wt)(hn:f.nb=none):Fr C R fl o st k x f:=by simp only[K8,I1]at H;obtain⟨zs,h1,H⟩:=D8 H;obtain⟨pl,h2,H⟩:=D8 H;obtain⟨cs,H,h3⟩:=sZ H hr;refine P5 H hw hn λst' A Y k'=>?_;simp only[K8,I1,h1,h2,O3];exact h3 f st' A (λ_ h=>h) Y _
def B2l{n:Nat}(I1:o.op=.buildSlice t n ps)(H:K8 C R fl o st k=some x)(hr:O4 (M0 (ps.toList.map (·.2))) f.rt)(hw:O4 o.dst.toList f.wt)(hn:f.nb=none)(hv:M4 fl.Hf o.dst=true->f.rs=true/\f.ws=true):Fr C R fl o st k x f:=by
 simp only[K8,I1]at H;obtain⟨e,h1,H⟩:=D8 H;obtain⟨z,h2,H⟩:=D8 H;obtain⟨zs,h3,H⟩:=D8 H;obtain⟨ze,h4,H⟩:=D8 H;obtain⟨h5,H⟩:=O7 H;obtain⟨ds,H,h6⟩:=wF H hr;by_cases hq:M4 fl.Hf o.dst=true
 ·rw[D5 hq]at H;obtain⟨hrs,hws⟩:=hv hq;refine⟨_,H,by rw[hn];simp,λst' A=>⟨_,((Two.refl A).Hm hws _).put hw _ _,λY k'=>?_⟩⟩;simp only[K8,I1,h1,h2,h3,h4,O3,D5 h5];rw[h6 f st' A (λ_ h=>h) Y _,D5 hq,A.s hrs]
 ·rw[C8 hq]at H;refine P5 H hw hn λst' A Y k'=>?_;simp only[K8,I1,h1,h2,h3,h4,O3,D5 h5];rw[h6 f st' A (λ_ h=>h) Y _,C8 hq]
def B1k{cs:List (DV×H6)}{sh:Bool}(hk:k (st.Gh sh o.dst cs)=some x)(hb:Sd sh o.dst st=true)(hw:O4 o.dst.toList f.wt)(h1:sh=true->f.nb=none/\f.rs=true/\f.ws=true)(h2:sh=false->f.nb=o.dst/\O4 o.dst.toList f.wb)(h:∀st',I_ f st st'->∀(Y:Type)(k':St->Option Y),K8 C R fl o st' k'=og (Sd sh o.dst st') (k' (st'.Gh sh o.dst cs))):Fr C R fl o st k x f:=by
 cases hd:o.dst with
 |none=>
   rw[hd]at hk;refine⟨_,hk,?_,λst' A=>⟨_,Two.refl A,λY k'=>by rw[h st' A Y k',hd];rfl⟩⟩;cases sh
   ·rw[(h2 rfl).1,hd];simp
   ·rw[(h1 rfl).1];simp
 |some t=>
   rw[hd]at hk hb;have hw':∀u∈(some t:Option Nat).toList,u∈f.wt:=by rw[<- hd];exact hw
   cases sh
   ·obtain⟨q1,q2⟩:=h2 rfl;have hnl:Mx t st.mt=true:=by simpa[Sd]using hb
    have cl:∀mt,Mx t mt=true->mt.map (MU t)=mt:=by
     intro mt hh;simp only[Mx,zkq]at hh
     conv=>rhs;rw[<- List.map_id mt]
     refine zTq λm hm=>?_;have:=hh m hm;unfold MU;split
     ·rename_i s' o';simp only[bne_iff_ne,ne_eq]at this;rw[C8 this];rfl
     ·rfl
    refine⟨_,hk,λu hu=>?_,λst' A=>⟨st'.Gh false (some t) cs,?_,λY k'=>?_⟩⟩
    ·rw[q1,hd]at hu;cases hu;exact hnl
    ·have A61:=A.n t (by rw[q1,hd]);simp only[St.Gh,zbq,F9];rw[cl _ hnl,cl _ A61];exact((Two.refl A).A4C (q2 t (by rw[hd];simp)) (some cs)).put hw' _ _
    ·rw[h st' A Y k',hd];have A61:=A.n t (by rw[q1,hd]);simp only[Sd,A61,yrq,X5]
   ·obtain⟨q1,q2,q3⟩:=h1 rfl;refine⟨_,hk,by rw[q1];simp,λst' A=>⟨st'.Gh true (some t) cs,?_,λY k'=>?_⟩⟩
    ·simp only[St.Gh,H5]
     rw[A.s q2];exact((Two.refl A).Hm q3 _).put hw' _ _
    ·rw[h st' A Y k',hd];simp only[Sd,Bool.true_or,X5]
def B3X(I1:o.op=.alloc t)(H:K8 C R fl o st k=some x)(hw:O4 o.dst.toList f.wt)(h1:M4 fl.shared o.dst=true->f.nb=none/\f.rs=true/\f.ws=true)(h2:M4 fl.shared o.dst=false->f.nb=o.dst/\O4 o.dst.toList f.wb):Fr C R fl o st k x f:=by simp only[K8,I1]at H;obtain⟨cs,h3,H⟩:=D8 H;obtain⟨h4,H⟩:=I9 H;exact B1k H h4 hw h1 h2 λst' A Y k'=>by simp only[K8,I1,h3,O3]
variable {t:Nat}
theorem C11{m:H6}(h:(match m with | .loc s _=>s != t | _=>true)=true):(match dm m with | .loc s _=>s != t | _=>true)=true:=by cases m<;>first | exact h | rfl
variable {y:Operand}
def A04{st:St}(h:Mx t st.mt=true):Mx t (st.release y).mt=true:=by
 cases y with
 |tmp u=>
   simp only[St.release,Mx,zkq]at h ⊢;intro m hm;rcases List.mem_or_eq_of_mem_set hm with h1 | rfl
   ·exact h m h1
   ·rcases zoq u st.mt.length with hu | hu
    ·refine C11 ?_;rw[z1q,z4q hu];exact h _ (List.getElem_mem hu)
    ·rw[z1q,zaq hu];rfl
 |_=>exact h
theorem A5u{mt:List H6}(hh:Mx t mt=true):mt.map (MU t)=mt:=by
 simp only[Mx,zkq]at hh
 conv=>rhs;rw[<- List.map_id mt]
 refine zTq λm hm=>?_;have:=hh m hm;unfold MU;split
 ·rename_i s' o';simp only[bne_iff_ne,ne_eq]at this;rw[C8 this];rfl
 ·rfl
variable {t:TypeId}
def A8Y(I1:o.op=.box t y)(H:K8 C R fl o st k=some x)(hr:O4 (O9 y) f.rt)(hw:O4 o.dst.toList f.wt)(h0:M4 fl.eu o.dst=true->f.nb=none)(hs:M4 fl.eu o.dst=false->M4 fl.Q6 o.dst=true->O4 (O9 y) f.wt/\f.nb=o.dst/\O4 o.dst.toList f.wb)(h1:M4 fl.eu o.dst=false->M4 fl.Q6 o.dst=false->M4 fl.shared o.dst=true->f.nb=none/\f.rs=true/\f.ws=true)(h2:M4 fl.eu o.dst=false->M4 fl.Q6 o.dst=false->M4 fl.shared o.dst=false->f.nb=o.dst/\O4 o.dst.toList f.wb):Fr C R fl o st k x f:=by
 simp only[K8,I1]at H;obtain⟨r,h3,H⟩:=D8 H;by_cases Kr:M4 fl.eu o.dst=true
 ·rw[D5 Kr]at H;obtain⟨z,h4,H⟩:=D8 H;obtain⟨h5,H⟩:=I9 H;exact P5 H hw (h0 Kr) λst' A Y k'=>by simp only[K8,I1,A.src _ _ hr,h3,O3,D5 Kr,h4,h5,X5]
 rw[C8 Kr]at H;have C1J:M4 fl.eu o.dst=false:=by simpa using Kr
 by_cases V9:M4 fl.Q6 o.dst=true
 ·rw[D5 V9]at H;obtain⟨q1,q2,q3⟩:=hs C1J V9;obtain⟨cs,H,h4⟩:=A2G H;obtain⟨h5,H⟩:=I9 H;cases hd:o.dst with
  |none=>rw[hd]at V9;simp[M4]at V9
  |some t0=>
    rw[hd]at H h5 q2;have hnl:Mx t0 st.mt=true:=by simpa[Sd]using h5
    have hw':∀u∈(some t0:Option Nat).toList,u∈f.wt:=by rw[<- hd];exact hw
    refine⟨_,H,λu hu=>?_,λst' A=>⟨(st'.release y).Gh false (some t0) cs,?_,λY k'=>?_⟩⟩
    ·rw[q2]at hu;cases hu;exact hnl
    ·have A61:=A.n t0 q2;simp only[St.Gh,zbq,F9];rw[A5u (A04 hnl),A5u (A04 A61)];exact(((Two.refl A).release q1 λi hi=>A.t i (hr i hi)).A4C (q3 t0 (by rw[hd];simp)) (some cs)).put hw' _ _
    ·have A61:=A.n t0 q2;rw[hd]at Kr V9;simp only[K8,I1,A.src _ _ hr,h3,O3,hd,C8 Kr,D5 V9,h4,Sd,A61,yrq,X5]
 rw[C8 V9]at H;have C5V:M4 fl.Q6 o.dst=false:=by simpa using V9
 obtain⟨cs,H,h4⟩:=Pj H;obtain⟨h5,H⟩:=I9 H;exact B1k H h5 hw (h1 C1J C5V) (h2 C1J C5V) λst' A Y k'=>by simp only[K8,I1,A.src _ _ hr,h3,O3,C8 Kr,C8 V9,h4]
def B5k(P P':Program){x:Operand}{r:DV×H6}(h:src P 0 st x=some r):∃r',src P' 0 st x=some r'/\r'.2=r.2:=by
 cases x with
 |const v=>simp only[src]at h ⊢;unfold cst at h ⊢;split at h<;>simp only[D9,reduceCtorEq]at h<;>subst h<;>exact⟨_,rfl,rfl⟩
 |tmp t=>exact⟨r,h,rfl⟩
 |func f=>exact⟨r,h,rfl⟩
 |global g=>simp[src]at h
def C3E(I1:o.op=.load t y)(H:K8 C R fl o st k=some x)(hr:O4 (O9 y) f.rt)(hw:O4 o.dst.toList f.wt)(hn:f.nb=none)(hb:∀r,src C.P 0 st y=some r->O4 (GK r.2).1 f.rb/\((GK r.2).2=true->f.rs=true)/\(M4 fl.Q6 o.dst=true->O4 (GK r.2).1 f.wb/\((GK r.2).2=true->f.ws=true))/\(M4 fl.Hf o.dst=true->(GK r.2).2=true->f.ws=true)):
 Fr C R fl o st k x f:=by
 simp only[K8,I1,Df]at H;obtain⟨r,h1,H⟩:=D8 H;obtain⟨z,h2,H⟩:=D8 H;obtain⟨b1,b2,b3,b4⟩:=hb r h1;split at H
 ·rename_i s off hm;rw[hm]at b1 b2 b3 b4;have hs:s∈f.rb:=b1 s (by simp[GK]);obtain⟨cs,h3,H⟩:=D8 H;obtain⟨h4,H⟩:=O7 H;by_cases hz:z.2=true
  ·rw[D5 hz]at H;by_cases V9:M4 fl.Q6 o.dst=true
   ·rw[D5 V9]at H;refine⟨_,H,by rw[hn];simp,λst' A=>⟨_,((Two.refl A).A4C ((b3 V9).1 s (by simp[GK])) _).put hw _ _,λY k'=>?_⟩⟩;simp only[K8,I1,Df,A.src _ _ hr,h1,h2,O3,hm,A.bx hs,h3,D5 h4,D5 hz,D5 V9]
   rw[C8 V9]at H;refine P5 H hw hn λst' A Y k'=>?_;simp only[K8,I1,Df,A.src _ _ hr,h1,h2,O3,hm,A.bx hs,h3,D5 h4,D5 hz,C8 V9]
  ·rw[C8 hz]at H;by_cases V9:M4 fl.Q6 o.dst=true
   ·rw[D5 V9]at H;refine⟨_,H,by rw[hn];simp,λst' A=>⟨_,((Two.refl A).A4C ((b3 V9).1 s (by simp[GK])) _).put hw _ _,λY k'=>?_⟩⟩;simp only[K8,I1,Df,A.src _ _ hr,h1,h2,O3,hm,A.bx hs,h3,D5 h4,C8 hz,D5 V9]
   ·rw[C8 V9]at H;refine P5 H hw hn λst' A Y k'=>?_;simp only[K8,I1,Df,A.src _ _ hr,h1,h2,O3,hm,A.bx hs,h3,D5 h4,C8 hz,C8 V9]
 ·rename_i ag sz off hm;obtain⟨h4,H⟩:=O7 H;by_cases hz:z.2=true
  ·rw[D5 hz]at H;obtain⟨h5,H⟩:=I9 H;refine P5 H hw hn λst' A Y k'=>?_;simp only[K8,I1,Df,A.src _ _ hr,h1,h2,O3,hm,D5 h4,D5 hz,h5,X5]
  ·rw[C8 hz]at H;refine P5 H hw hn λst' A Y k'=>?_;simp only[K8,I1,Df,A.src _ _ hr,h1,h2,O3,hm,D5 h4,C8 hz]
 ·rename_i i off hm;rw[hm]at b1 b2 b3 b4;have hs:=b2 rfl;obtain⟨cs,h3,H⟩:=D8 H;by_cases hz:z.2=true
  ·rw[D5 hz]at H;obtain⟨h5,H⟩:=I9 H;obtain⟨ds,h6,H⟩:=D8 H;refine P5 H hw hn λst' A Y k'=>?_;simp only[K8,I1,Df,A.src _ _ hr,h1,h2,O3,hm,A.s hs,h3,D5 hz,h5,X5,h6]
  ·rw[C8 hz]at H;split at H
   ·rename_i hc;obtain⟨j,h6,H⟩:=D8 H;refine P5 H hw hn λst' A Y k'=>?_;simp only[K8,I1,Df,A.src _ _ hr,h1,h2,O3,hm,A.s hs,h3,C8 hz,hc,h6]
   ·rename_i hc;obtain⟨j,h6,H⟩:=D8 H;refine P5 H hw hn λst' A Y k'=>?_;simp only[K8,I1,Df,A.src _ _ hr,h1,h2,O3,hm,A.s hs,h3,C8 hz,hc,h6]
   ·rename_i hc;by_cases hq0:M4 fl.C2G o.dst=true
    ·rw[D5 hq0]at H;obtain⟨e,h6,H⟩:=D8 H;obtain⟨ze,h7,H⟩:=D8 H;obtain⟨q,h8,H⟩:=D8 H;refine P5 H hw hn λst' A Y k'=>?_;simp only[K8,I1,Df,A.src _ _ hr,h1,h2,O3,hm,A.s hs,h3,C8 hz,hc,D5 hq0,h6,h7,h8]
    rw[C8 hq0]at H;by_cases hq:M4 fl.Hf o.dst=true
    ·rw[D5 hq]at H;obtain⟨e,h6,H⟩:=D8 H;obtain⟨ze,h7,H⟩:=D8 H;obtain⟨q,h8,H⟩:=D8 H;refine⟨_,H,by rw[hn];simp,λst' A=>⟨_,((Two.refl A).Hm (b4 hq rfl) _).put hw _ _,λY k'=>?_⟩⟩;simp only[K8,I1,Df,A.src _ _ hr,h1,h2,O3,hm,A.s hs,h3,C8 hz,hc,C8 hq0,D5 hq,h6,h7,h8]
    ·rw[C8 hq]at H;by_cases V9:M4 fl.Q6 o.dst=true
     ·rw[D5 V9]at H;obtain⟨d,h6,H⟩:=D8 H;refine⟨_,H,by rw[hn];simp,λst' A=>⟨_,((Two.refl A).Hm ((b3 V9).2 rfl) _).put hw _ _,λY k'=>?_⟩⟩;simp only[K8,I1,Df,A.src _ _ hr,h1,h2,O3,hm,A.s hs,h3,C8 hz,hc,C8 hq0,C8 hq,D5 V9,h6]
     ·rw[C8 V9]at H;obtain⟨d,h6,H⟩:=D8 H;refine P5 H hw hn λst' A Y k'=>?_;simp only[K8,I1,Df,A.src _ _ hr,h1,h2,O3,hm,A.s hs,h3,C8 hz,hc,C8 hq0,C8 hq,C8 V9,h6]
 ·rename_i i sz idx off hm;rw[hm]at b1 b2 b3 b4;have hs:=b2 rfl;obtain⟨a,h3,H⟩:=D8 H;obtain⟨d,h4,H⟩:=D8 H;obtain⟨h5,H⟩:=I9 H;obtain⟨h6,H⟩:=O7 H;by_cases hz:z.2=true
  ·rw[D5 hz]at H;refine P5 H hw hn λst' A Y k'=>?_;simp only[K8,I1,Df,A.src _ _ hr,h1,h2,O3,hm,A.s hs,h3,h4,h5,X5,D5 h6,D5 hz]
  ·rw[C8 hz]at H;by_cases h7:sz=1
   ·rw[D5 h7]at H;obtain⟨h8,H⟩:=I9 H;refine P5 H hw hn λst' A Y k'=>?_;simp only[K8,I1,Df,A.src _ _ hr,h1,h2,O3,hm,A.s hs,h3,h4,h5,X5,D5 h6,C8 hz,D5 h7,h8]
   ·rw[C8 h7]at H;refine P5 H hw hn λst' A Y k'=>?_;simp only[K8,I1,Df,A.src _ _ hr,h1,h2,O3,hm,A.s hs,h3,h4,h5,X5,D5 h6,C8 hz,C8 h7]
 ·rename_i i n sz idx off hm;rw[hm]at b1 b2 b3 b4;have hs:=b2 rfl;obtain⟨a,h3,H⟩:=D8 H;obtain⟨d,h4,H⟩:=D8 H;obtain⟨h5,H⟩:=I9 H;obtain⟨h6,H⟩:=O7 H;by_cases hz:z.2=true
  ·rw[D5 hz]at H;refine P5 H hw hn λst' A Y k'=>?_;simp only[K8,I1,Df,A.src _ _ hr,h1,h2,O3,hm,A.s hs,h3,h4,h5,X5,D5 h6,D5 hz]
  ·rw[C8 hz]at H;by_cases h7:sz=1
   ·rw[D5 h7]at H;obtain⟨h8,H⟩:=I9 H;refine P5 H hw hn λst' A Y k'=>?_;simp only[K8,I1,Df,A.src _ _ hr,h1,h2,O3,hm,A.s hs,h3,h4,h5,X5,D5 h6,C8 hz,D5 h7,h8]
   ·rw[C8 h7]at H;refine P5 H hw hn λst' A Y k'=>?_;simp only[K8,I1,Df,A.src _ _ hr,h1,h2,O3,hm,A.s hs,h3,h4,h5,X5,D5 h6,C8 hz,C8 h7]
 ·simp at H
def C1x{v:Operand}(I1:o.op=.store t y v)(H:K8 C R fl o st k=some x)(hr:O4 (M0 [y,v]) f.rt)(hw:O4 o.dst.toList f.wt)(hwv:O4 (Gm st.mt v) f.wt)(hn:f.nb=none)(hb:∀r,src C.P 0 st y=some r->O4 (GK r.2).1 f.rb/\((GK r.2).2=true->f.rs=true)/\O4 (GK r.2).1 f.wb/\((GK r.2).2=true->f.ws=true)):
 Fr C R fl o st k x f:=by
 obtain⟨q1,q2⟩:=Ru hr;simp only[K8,I1,ET]at H;obtain⟨r,h1,H⟩:=D8 H;obtain⟨u,h2,H⟩:=D8 H;obtain⟨z,h3,H⟩:=D8 H;obtain⟨b1,b2,b3,b4⟩:=hb r h1;split at H
 ·rename_i s off hm;rw[hm]at b1 b2 b3 b4;have hs:s∈f.rb:=b1 s (by simp[GK]);have FD:s∈f.wb:=b3 s (by simp[GK]);obtain⟨cs,h4,H⟩:=D8 H;by_cases hz:z.2=true
  ·rw[D5 hz]at H;obtain⟨xs,H,h5⟩:=A2G H;obtain⟨h6,H⟩:=O7 H;refine⟨_,H,by rw[hn];simp,λst' A=>⟨_,(((Two.refl A).A4C FD _).A7g hwv λi hi=>A.t i (q2 i hi)).put hw _ _,λY k'=>?_⟩⟩;simp only[K8,I1,ET,A.src _ _ q1,A.src _ _ q2,h1,h2,h3,O3,hm,A.bx hs,h4,D5 hz,h5,D5 h6]
  ·rw[C8 hz]at H;obtain⟨c,H,h5⟩:=OU H;obtain⟨h6,H⟩:=O7 H;refine⟨_,H,by rw[hn];simp,λst' A=>⟨_,(((Two.refl A).A4C FD _).A7g hwv λi hi=>A.t i (q2 i hi)).put hw _ _,λY k'=>?_⟩⟩;simp only[K8,I1,ET,A.src _ _ q1,A.src _ _ q2,h1,h2,h3,O3,hm,A.bx hs,h4,C8 hz,h5,D5 h6]
 ·rename_i i off hm;rw[hm]at b1 b2 b3 b4;obtain⟨cs,h4,H⟩:=D8 H;by_cases hz:z.2=true
  ·rw[D5 hz]at H;obtain⟨xs,H,h5⟩:=Pj H;obtain⟨h6,H⟩:=O7 H;refine⟨_,H,by rw[hn];simp,λst' A=>⟨_,((Two.refl A).Hm (b4 rfl) _).put hw _ _,λY k'=>?_⟩⟩;simp only[K8,I1,ET,A.src _ _ q1,A.src _ _ q2,h1,h2,h3,O3,hm,A.s (b2 rfl),h4,D5 hz,h5,D5 h6]
  ·rw[C8 hz]at H;obtain⟨c,H,h5⟩:=OU H;obtain⟨c0,h6,H⟩:=D8 H;refine⟨_,H,by rw[hn];simp,λst' A=>⟨_,(((Two.refl A).Hm (b4 rfl) (st.sg.set i (.box (cs.set off c)))).A7g hwv λi hi=>A.t i (q2 i hi)).put hw (.I4 []) .val,λY k'=>?_⟩⟩;simp only[K8,I1,ET,A.src _ _ q1,A.src _ _ q2,h1,h2,h3,O3,hm,A.s (b2 rfl),h4,C8 hz,h5,h6]
 ·rename_i i sz idx off hm;rw[hm]at b1 b2 b3 b4;obtain⟨a,h4,H⟩:=D8 H;obtain⟨d,h5,H⟩:=D8 H;obtain⟨H,h6⟩:=aD H;obtain⟨h7,H⟩:=I9 H;obtain⟨h8,H⟩:=O7 H;refine⟨_,H,by rw[hn];simp,λst' A=>⟨_,((Two.refl A).Hm (b4 rfl) _).put hw _ _,λY k'=>?_⟩⟩;simp only[K8,I1,ET,A.src _ _ q1,A.src _ _ q2,h1,h2,h3,O3,hm,A.s (b2 rfl),h4,h5,h6,h7,X5,D5 h8]
 ·rename_i i sz idx hm;rw[hm]at b1 b2 b3 b4;obtain⟨q,h4,H⟩:=D8 H;obtain⟨H,h6⟩:=aD H;obtain⟨h7,H⟩:=I9 H;obtain⟨x',h8,H⟩:=D8 H;refine⟨_,H,by rw[hn];simp,λst' A=>⟨_,((Two.refl A).Hm (b4 rfl) _).put hw _ _,λY k'=>?_⟩⟩;simp only[K8,I1,ET,A.src _ _ q1,A.src _ _ q2,h1,h2,h3,O3,hm,A.s (b2 rfl),h4,h6,h7,X5,h8]
 ·rename_i i n sz idx off hm;rw[hm]at b1 b2 b3 b4;obtain⟨a,h4,H⟩:=D8 H;obtain⟨d,h5,H⟩:=D8 H;obtain⟨h7,H⟩:=I9 H;by_cases hz:z.2=true
  ·rw[D5 hz]at H;obtain⟨xs,H,h6⟩:=Pj H;obtain⟨e,h8,H⟩:=D8 H;refine⟨_,H,by rw[hn];simp,λst' A=>⟨_,((Two.refl A).Hm (b4 rfl) _).put hw _ _,λY k'=>?_⟩⟩;simp only[K8,I1,ET,A.src _ _ q1,A.src _ _ q2,h1,h2,h3,O3,hm,A.s (b2 rfl),h4,h5,h7,X5,D5 hz,h6,h8]
  ·rw[C8 hz]at H;obtain⟨c,H,h6⟩:=OU H;obtain⟨e,h8,H⟩:=D8 H;refine⟨_,H,by rw[hn];simp,λst' A=>⟨_,((Two.refl A).Hm (b4 rfl) _).put hw _ _,λY k'=>?_⟩⟩;simp only[K8,I1,ET,A.src _ _ q1,A.src _ _ q2,h1,h2,h3,O3,hm,A.s (b2 rfl),h4,h5,h7,X5,C8 hz,h6,h8]
 ·simp at H
def B7L(I1:o.op=.makeMap t none)(H:K8 C R fl o st k=some x)(hw:O4 o.dst.toList f.wt)(hn:f.nb=none)(hrs:f.rs=true)(hws:f.ws=true):Fr C R fl o st k x f:=by simp only[K8,I1]at H;obtain⟨q,h1,H⟩:=D8 H;refine⟨_,H,by rw[hn];simp,λst' A=>⟨_,((Two.refl A).Hm hws _).put hw _ _,λY k'=>?_⟩⟩;simp only[K8,I1,h1,O3,A.s hrs]
def B9J{v:Operand}{ok:Bool}(I1:o.op=.lookup t y v ok)(H:K8 C R fl o st k=some x)(hr:O4 (M0 [y,v]) f.rt)(hw:O4 o.dst.toList f.wt)(hn:f.nb=none)(hrs:f.rs=true):Fr C R fl o st k x f:=by
 obtain⟨q1,q2⟩:=Ru hr;simp only[K8,I1]at H;obtain⟨r,h1,H⟩:=D8 H;obtain⟨key,h2,H⟩:=D8 H;obtain⟨q,h3,H⟩:=D8 H;obtain⟨ze,h4,H⟩:=D8 H;obtain⟨h5,H⟩:=I9 H;split at H
 ·rename_i i hm;obtain⟨p,h6,H⟩:=D8 H;obtain⟨h7,H⟩:=I9 H;by_cases A_:ok=true
  ·rw[D5 A_]at H;refine P5 H hw hn λst' A Y k'=>?_;simp only[K8,I1,A.src _ _ q1,A.src _ _ q2,h1,h2,h3,h4,O3,h5,X5,hm,A.s hrs,h6,h7,D5 A_]
  ·rw[C8 A_]at H;refine P5 H hw hn λst' A Y k'=>?_;simp only[K8,I1,A.src _ _ q1,A.src _ _ q2,h1,h2,h3,h4,O3,h5,X5,hm,A.s hrs,h6,h7,C8 A_]
 ·simp at H
def B30{v u:Operand}(I1:o.op=.mapUpdate t y v u)(H:K8 C R fl o st k=some x)(hr:O4 (M0 [y,v,u]) f.rt)(hw:O4 o.dst.toList f.wt)(hn:f.nb=none)(hrs:f.rs=true)(hws:f.ws=true):Fr C R fl o st k x f:=by
 have q1:O4 (O9 y) f.rt:=λi hi=>hr i (by simp[M0,hi]);have q2:O4 (O9 v) f.rt:=λi hi=>hr i (by simp[M0,hi]);have q3:O4 (O9 u) f.rt:=λi hi=>hr i (by simp[M0,hi]);simp only[K8,I1]at H;obtain⟨r,h1,H⟩:=D8 H;obtain⟨key,h2,H⟩:=D8 H;obtain⟨val,h3,H⟩:=D8 H;obtain⟨q,h4,H⟩:=D8 H;obtain⟨h5,H⟩:=I9 H;split at H
 ·rename_i i hm;obtain⟨p,h6,H⟩:=D8 H;obtain⟨h7,H⟩:=I9 H;refine⟨_,H,by rw[hn];simp,λst' A=>⟨_,((Two.refl A).Hm hws _).put hw _ _,λY k'=>?_⟩⟩;simp only[K8,I1,A.src _ _ q1,A.src _ _ q2,A.src _ _ q3,h1,h2,h3,h4,O3,h5,X5,hm,A.s hrs,h6,h7]
 ·simp at H
def B7K{i:Nat}(I1:o.op=.extract y i)(H:K8 C R fl o st k=some x)(hr:O4 (O9 y) f.rt)(hw:O4 o.dst.toList f.wt)(hs:M4 fl.Q6 o.dst=true->O4 (O9 y) f.wt)(hn:f.nb=none):Fr C R fl o st k x f:=by
 simp only[K8,I1]at H;obtain⟨r,h1,H⟩:=D8 H;split at H
 ·rename_i hm;obtain⟨d,h2,H⟩:=D8 H;refine P5 H hw hn λst' A Y k'=>?_;simp only[K8,I1,A.src _ _ hr,h1,O3,hm,h2]
 ·rename_i ms hm;obtain⟨d,h2,H⟩:=D8 H;split at H
  ·rename_i hg;by_cases V9:M4 fl.Q6 o.dst=true
   ·rw[D5 V9]at H;refine⟨_,H,by rw[hn];simp,λst' A=>⟨(st'.yn y (.DJ (ms.set i .val))).put o.dst d .own,Two.put ?_ hw _ _,λY k'=>?_⟩⟩
    ·cases y with
     |tmp t=>
       have ht:t∈O9 (.tmp t):=by simp[O9]
       exact(Two.refl A).C3h (hs V9 t ht) (A.t t (hr t ht)).1 _
     |_=>exact Two.refl A
    ·simp only[K8,I1,A.src _ _ hr,h1,O3,hm,h2,hg,D5 V9]
   ·rw[C8 V9]at H;refine P5 H hw hn λst' A Y k'=>?_;simp only[K8,I1,A.src _ _ hr,h1,O3,hm,h2,hg,C8 V9]
  ·rename_i hg;refine P5 H hw hn λst' A Y k'=>?_;simp only[K8,I1,A.src _ _ hr,h1,O3,hm,h2,hg]
  ·simp at H
 ·simp at H
end
end Go.Su

/-
 THE DATA MACHINE, part 21: footprints, calls; every operation.
-/
namespace Go.Su
set_option linter.defProp false
section
variable {X:Type}{C:AB}{R:U1}{fl:I5}{o:Oper}{st:St}{k:St->Option X}{x:X}{f:Fp}{c:Call}{y:Operand}{t:TypeId}
def A80(I1:o.op=.call c)(hc:c.callee=.builtin .len)(ha:c.args.toList=[y])(ht:c.argTypes.toList=[t])(H:Xg C o y t st k=some x)(hr:O4 (O9 y) f.rt)(hw:O4 o.dst.toList f.wt)(hn:f.nb=none)(hrs:f.rs=true):Fr C R fl o st k x f:=by
 have Im:∀(Y:Type)(st:St)(k:St->Option Y),K8 C R fl o st k=Xg C o y t st k:=λY st k=>by simp only[K8,I1,Ht,hc,ha,ht]
 unfold Xg at H;obtain⟨r,h1,H⟩:=D8 H;split at H
 ·rename_i hu;split at H
  ·rename_i hm;refine P5 H hw hn λst' A Y k'=>?_;rw[Im];simp only[Xg,A.src _ _ hr,h1,O3,hu,hm]
  ·rename_i hm;rw[B0G]at H;refine P5 H hw hn λst' A Y k'=>?_;rw[Im];simp only[Xg,A.src _ _ hr,h1,O3,hu,hm,B0G]
  ·rename_i hm;obtain⟨h2,H⟩:=I9 H;obtain⟨d,h3,H⟩:=D8 H;refine P5 H hw hn λst' A Y k'=>?_;rw[Im];simp only[Xg,A.src _ _ hr,h1,O3,hu,h2,X5,h3]
 ·rename_i hu;obtain⟨h2,H⟩:=I9 H;obtain⟨d,h3,H⟩:=D8 H;refine P5 H hw hn λst' A Y k'=>?_;rw[Im];simp only[Xg,A.src _ _ hr,h1,O3,hu,h2,X5,h3]
 ·rename_i hu;obtain⟨d,h3,H⟩:=D8 H;refine P5 H hw hn λst' A Y k'=>?_;rw[Im];simp only[Xg,A.src _ _ hr,h1,O3,hu,A.s hrs,h3]
 ·simp at H
def C1u(I1:o.op=.call c)(hc:c.callee=.builtin .clear)(ha:c.args.toList=[y])(ht:c.argTypes.toList=[t])(H:ZK C o y t st k=some x)(hr:O4 (O9 y) f.rt)(hw:O4 o.dst.toList f.wt)(hrs:f.rs=true)(hws:f.ws=true)(hn:f.nb=none):Fr C R fl o st k x f:=by
 have Im:∀(Y:Type)(st:St)(k:St->Option Y),K8 C R fl o st k=ZK C o y t st k:=λY st k=>by simp only[K8,I1,Ht,hc,ha,ht]
 unfold ZK at H;obtain⟨r,h1,H⟩:=D8 H;obtain⟨q,h2,H⟩:=D8 H;obtain⟨a,h3,H⟩:=D8 H;obtain⟨e,h4,H⟩:=D8 H;obtain⟨z,h5,H⟩:=D8 H;obtain⟨zs,h6,H⟩:=D8 H;obtain⟨h7,H⟩:=I9 H;refine⟨_,H,by rw[hn];simp,λst' A=>⟨_,((Two.refl A).Hm hws _).put hw _ _,λY k'=>?_⟩⟩;rw[Im];simp only[ZK,A.src _ _ hr,h1,O3,h2,A.s hrs,h3,h4,h5,h6,h7,X5]
def B9I{v:Operand}{u:TypeId}(I1:o.op=.call c)(hc:c.callee=.builtin .append)(ha:c.args.toList=[y,v])(ht:c.argTypes.toList=[t,u])(H:IA C fl o y v t u st k=some x)(hr:O4 (M0 [y,v]) f.rt)(hw:O4 o.dst.toList f.wt)(hwy:O4 (O9 y) f.wt)(hn:f.nb=none)(hos:(M4 fl.opn o.dst||M4 fl.Hf o.dst)=true->f.rs=true/\f.ws=true):Fr C R fl o st k x f:=by
 obtain⟨q1,q2⟩:=Ru hr;have Im:∀(Y:Type)(st:St)(k:St->Option Y),K8 C R fl o st k=IA C fl o y v t u st k:=λY st k=>by simp only[K8,I1,Ht,hc,ha,ht]
 unfold IA at H;by_cases UT:M4 fl.Hf o.dst=true
 ·rw[D5 UT]at H;unfold A8L at H;obtain⟨o1,o2⟩:=hos (by rw[UT];simp);obtain⟨r,h1,H⟩:=D8 H;obtain⟨s,h2,H⟩:=D8 H;obtain⟨sz,h3,H⟩:=D8 H;obtain⟨h4,H⟩:=I9 H;obtain⟨q,hq,H⟩:=D8 H;obtain⟨p,h5,H⟩:=D8 H;obtain⟨h6,H⟩:=I9 H;obtain⟨d,h7,H⟩:=D8 H;refine⟨_,H,by rw[hn];simp,λst' A=>⟨_,((Two.refl A).Hm o2 _).put hw _ _,λY k'=>?_⟩⟩;rw[Im];simp only[IA,D5 UT,A8L,A.src _ _ q1,A.src _ _ q2,h1,h2,h3,O3,h4,X5,hq,A.s o1,h5,h6,h7]
 rw[C8 UT]at H;obtain⟨r,h1,H⟩:=D8 H;obtain⟨s,h2,H⟩:=D8 H;obtain⟨sz,h3,H⟩:=D8 H;obtain⟨h4,H⟩:=I9 H;by_cases pJ:M4 fl.opn o.dst=true
 ·rw[D5 pJ]at H;obtain⟨p,h5,H⟩:=D8 H;obtain⟨o1,o2⟩:=hos (by rw[pJ];simp);refine⟨_,H,by rw[hn];simp,λst' A=>⟨_,(((Two.refl A).release hwy λi hi=>A.t i (q1 i hi)).Hm o2 (st.sg++[H7.opn sz p.1 p.2])).put hw _ _,λY k'=>?_⟩⟩;rw[Im];simp only[IA,C8 UT,A.src _ _ q1,A.src _ _ q2,h1,h2,h3,O3,h4,X5,D5 pJ,h5,A.s o1]
 rw[C8 pJ]at H;obtain⟨d,h5,H⟩:=D8 H;refine⟨_,H,by rw[hn];simp,λst' A=>⟨_,((Two.refl A).release hwy λi hi=>A.t i (q1 i hi)).put hw _ _,λY k'=>?_⟩⟩;rw[Im];simp only[IA,C8 UT,A.src _ _ q1,A.src _ _ q2,h1,h2,h3,O3,h4,X5,C8 pJ,h5]
def C5D{v:Operand}{u:TypeId}(I1:o.op=.call c)(hc:c.callee=.builtin .max)(ha:c.args.toList=[y,v])(ht:c.argTypes.toList=[t,u])(H:K8 C R fl o st k=some x)(hr:O4 (M0 [y,v]) f.rt)(hw:O4 o.dst.toList f.wt)(hn:f.nb=none):Fr C R fl o st k x f:=by obtain⟨q1,q2⟩:=Ru hr;simp only[K8,I1,Ht,hc,ha,ht]at H;obtain⟨r,h1,H⟩:=D8 H;obtain⟨s,h2,H⟩:=D8 H;obtain⟨h4,H⟩:=I9 H;obtain⟨d,h5,H⟩:=D8 H;refine P5 H hw hn λst' A Y k'=>?_;simp only[K8,I1,Ht,hc,ha,ht,A.src _ _ q1,A.src _ _ q2,h1,h2,O3,h4,X5,h5]
def C5E{v:Operand}{u:TypeId}(I1:o.op=.call c)(hc:c.callee=.builtin .min)(ha:c.args.toList=[y,v])(ht:c.argTypes.toList=[t,u])(H:K8 C R fl o st k=some x)(hr:O4 (M0 [y,v]) f.rt)(hw:O4 o.dst.toList f.wt)(hn:f.nb=none):Fr C R fl o st k x f:=by obtain⟨q1,q2⟩:=Ru hr;simp only[K8,I1,Ht,hc,ha,ht]at H;obtain⟨r,h1,H⟩:=D8 H;obtain⟨s,h2,H⟩:=D8 H;obtain⟨h4,H⟩:=I9 H;obtain⟨d,h5,H⟩:=D8 H;refine P5 H hw hn λst' A Y k'=>?_;simp only[K8,I1,Ht,hc,ha,ht,A.src _ _ q1,A.src _ _ q2,h1,h2,O3,h4,X5,h5]
def C3G{g:FuncId}(I1:o.op=.call c)(hc:c.callee=.value (.func g))(h1:C.clone g=false)(h0:C.pV g=none)(h2:C.sig g=none)(H:K8 C R fl o st k=some x)(hr:O4 (M0 c.args.toList) f.rt)(hw:O4 o.dst.toList f.wt)(hn:f.nb=none):Fr C R fl o st k x f:=by
 have h1':¬(C.clone g=true):=by rw[h1];simp
 simp only[K8,I1,Ht,hc,src,O3,Lv,C8 h1',h0,h2,List.map_nil,zIq]at H;obtain⟨rs,h3,H⟩:=D8 H;obtain⟨h4,H⟩:=I9 H;obtain⟨d,h5,H⟩:=D8 H;refine P5 H hw hn λst' A Y k'=>?_;simp only[K8,I1,Ht,hc,src,O3,Lv,C8 h1',h0,h2,List.map_nil,zIq,A.LZ _ hr,h3,h4,X5,h5]
def Two.KS{st' s s':St}(A:Two f st st' s s'){g:Option (Nat×Operand)}(hx:∀p,g=some p->O4 (O9 p.2) f.wt)(he:∀p,g=some p->∀t∈O9 p.2,s'.tm[t]?=s.tm[t]?/\s'.mt[t]?=s.mt[t]?):
 Two f st st' (s.KS g) (s'.KS g):=by
 cases g with
 |none=>exact A
 |some p=>exact A.release (hx p rfl) (he p rfl)
def C5B(I1:o.op=.call c)(hc:c.callee=.value y)(H:K8 C R fl o st k=some x)(hr:O4 (M0 (y::c.args.toList)) f.rt)(hw:O4 o.dst.toList f.wt)(hwa:O4 (M0 c.args.toList) f.wt)(hn:f.nb=none)(hrs:f.rs=true)(hws:f.ws=true):Fr C R fl o st k x f:=by
 have q1:O4 (O9 y) f.rt:=λi h=>hr i (by simp only[M0,zdq,z9q];exact .inl h);have q2:O4 (M0 c.args.toList) f.rt:=λi h=>hr i (by simp only[M0,zdq,z9q]at h ⊢;exact .inr h);simp only[K8,I1,Ht,hc]at H;obtain⟨r,h1,H⟩:=D8 H;obtain⟨rs,h2,H⟩:=D8 H;split at H
 ·rename_i g caps hm;have Im:∀st',I_ f st st'->∀(Y:Type)(k':St->Option Y),K8 C R fl o st' k'=Lv C R o g c.args.toList (rs++caps.map λm=>(.undef,.ptr m.1 m.2)) st' k':=by intro st' A Y k';simp only[K8,I1,Ht,hc,A.src _ _ q1,A.LZ _ q2,h1,h2,O3,hm]
  generalize rs++caps.map (λm=>((.undef,.ptr m.1 m.2):DV×H6))=rs' at H Im;unfold Lv at H;by_cases bO:C.clone g=true
  ·rw[D5 bO]at H;split at H
   ·rename_i r' 
    ·obtain⟨p,hd,H⟩:=D8 H;obtain⟨h3,H⟩:=I9 H;refine⟨_,H,by rw[hn];simp,λst' A=>⟨_,((Two.refl A).Hm hws _).put hw _ _,λY k'=>?_⟩⟩;rw[Im st' A];simp only[Lv,D5 bO,hd,O3,h3,X5,A.s hrs]
   ·simp at H
  ·rw[C8 bO]at H;cases Xz:C.pV g with
   |some g'=>
     rw[Xz]at H;simp only at H;split at H
     ·rename_i r';obtain⟨p,hd,H⟩:=D8 H;obtain⟨h3,H⟩:=I9 H;refine⟨_,H,by rw[hn];simp,λst' A=>⟨_,((Two.refl A).Hm hws _).put hw _ _,λY k'=>?_⟩⟩;rw[Im st' A];simp only[Lv,C8 bO,Xz,hd,O3,h3,X5,A.s hrs]
     ·simp at H
   |none=>
   rw[Xz]at H;simp only at H;split at H
   ·rename_i hs;obtain⟨h3,H⟩:=I9 H;obtain⟨d,h4,H⟩:=D8 H;refine P5 H hw hn λst' A Y k'=>?_;rw[Im st' A];simp only[Lv,C8 bO,Xz,hs,h3,X5,h4,O3]
   ·rename_i s hs;obtain⟨h3,H⟩:=I9 H;obtain⟨q,h4,H⟩:=D8 H;obtain⟨H,h6⟩:=A6D H;have Nc:∀p,IG 0 s.params c.args.toList=some p->O4 (O9 p.2) (M0 c.args.toList):=by intro p hp i hi;obtain⟨_,_,h5⟩:=A05 hp;exact zSq.2 ⟨p.2,zsq h5,hi⟩
    refine⟨_,H,by rw[hn];simp,λst' A=>⟨_,(((Two.refl A).Hm hws q.2).KS (λp hp i hi=>hwa i (Nc p hp i hi)) λp hp i hi=>A.t i (q2 i (Nc p hp i hi))).put hw _ _,λY k'=>?_⟩⟩;rw[Im st' A];simp only[Lv,C8 bO,Xz,hs,h3,X5,A.s hrs,h4,O3];exact h6 _ _
 ·simp at H
def AF(C:AB)(fl:I5)(o:Oper)(st:St):Fp :=if bU C o then{ rt:=M0 o.op.operands.toList,wt:=o.dst.toList }else G_ fl o st
def O4.refl(a:List Nat):O4 a a:=λ_ h=>h
def Rt(a b:List Nat):O4 a (a++b):=λ_ h=>z9q.2 (.inl h)
def yc(a b:List Nat):O4 b (a++b):=λ_ h=>z9q.2 (.inr h)
def B0E{c:Prop}[Decidable c](a b:List Nat)(h:c):O4 b (a++(if c then b else[])):=by rw[D5 h];exact yc _ _
def xN(H:K8 C R fl o st k=some x):Fr C R fl o st k x (AF C fl o st):=by
 have np:∀op,o.op=op->(∀c,op ≠ .call c)->bU C o=false:=by
  intro op h1 h2;unfold bU;split
  ·rename_i c hc;exact absurd (h1.symm.trans hc) (h2 c)
  ·rfl
 have H0:=H;unfold K8 at H;split at H
 ·rename_i y I1;have e:AF C fl o st={ rt:=O9 y,wt:=o.dst.toList++(if M4 fl.Q6 o.dst then O9 y else[]) }:=by simp[AF,np _ I1 (by simp),G_,I1]
  rw[e];exact B6K (.inl I1) H0 (O4.refl _) (Rt _ _) (λh=>B0E _ _ h) rfl
 ·rename_i y I1;have e:AF C fl o st={ rt:=O9 y,wt:=o.dst.toList++(if M4 fl.Q6 o.dst then O9 y else[]) }:=by simp[AF,np _ I1 (by simp),G_,I1]
  rw[e];exact B6K (.inr I1) H0 (O4.refl _) (Rt _ _) (λh=>B0E _ _ h) rfl
 ·rename_i c y z I1;have e:AF C fl o st={ rt:=M0 [c,y,z],wt:=o.dst.toList }:=by simp[AF,np _ I1 (by simp),G_,I1]
  rw[e];exact C3F I1 H0 (O4.refl _) (O4.refl _) rfl
 ·rename_i t I1;have e:AF C fl o st=if M4 fl.shared o.dst then{ wt:=o.dst.toList,rs:=true,ws:=true }else{ wt:=o.dst.toList,wb:=o.dst.toList,nb:=o.dst }:=by simp[AF,np _ I1 (by simp),G_,I1]
  rw[e];by_cases hs:M4 fl.shared o.dst=true
  ·rw[D5 hs];exact B3X I1 H0 (O4.refl _) (λ_=>⟨rfl,rfl,rfl⟩) (λh=>by rw[hs]at h;cases h)
  ·rw[C8 hs];exact B3X I1 H0 (O4.refl _) (λh=>absurd h hs) (λh=>⟨rfl,O4.refl _⟩)
 ·rename_i t y I1;have e:AF C fl o st=if M4 fl.eu o.dst then{ rt:=O9 y,wt:=o.dst.toList }else if M4 fl.Q6 o.dst then{ rt:=O9 y,wt:=o.dst.toList++O9 y,wb:=o.dst.toList,nb:=o.dst }else if M4 fl.shared o.dst then{ rt:=O9 y,wt:=o.dst.toList,rs:=true,ws:=true }else{ rt:=O9 y,wt:=o.dst.toList,wb:=o.dst.toList,nb:=o.dst }:=by simp[AF,np _ I1 (by simp),G_,I1]
  rw[e];by_cases Kr:M4 fl.eu o.dst=true
  ·rw[D5 Kr];exact A8Y I1 H0 (O4.refl _) (O4.refl _) (λ_=>rfl) (λh=>by rw[Kr]at h;cases h) (λh=>by rw[Kr]at h;cases h) (λh=>by rw[Kr]at h;cases h)
  rw[C8 Kr];by_cases V9:M4 fl.Q6 o.dst=true
  ·rw[D5 V9];exact A8Y I1 H0 (O4.refl _) (λt ht=>List.mem_append_left _ ht) (λh=>absurd h Kr) (λ_ _=>⟨λt ht=>List.mem_append_right _ ht,rfl,O4.refl _⟩) (λ_ h=>by rw[V9]at h;cases h) (λ_ h=>by rw[V9]at h;cases h)
  rw[C8 V9];by_cases hs:M4 fl.shared o.dst=true
  ·rw[D5 hs];exact A8Y I1 H0 (O4.refl _) (O4.refl _) (λh=>absurd h Kr) (λ_ h=>absurd h V9) (λ_ _ _=>⟨rfl,rfl,rfl⟩) (λ_ _ h=>by rw[hs]at h;cases h)
  ·rw[C8 hs];exact A8Y I1 H0 (O4.refl _) (O4.refl _) (λh=>absurd h Kr) (λ_ h=>absurd h V9) (λ_ _ h=>absurd h hs) (λ_ _ h=>⟨rfl,O4.refl _⟩)
 ·rename_i t ps I1;have e:AF C fl o st={ rt:=M0 (ps.toList.map (·.2)),wt:=o.dst.toList }:=by simp[AF,np _ I1 (by simp),G_,I1]
  rw[e];exact C1t I1 H0 (O4.refl _) (O4.refl _) rfl
 ·rename_i t n ps I1;have e:AF C fl o st={ rt:=M0 (ps.toList.map (·.2)),wt:=o.dst.toList,rs:=M4 fl.Hf o.dst,ws:=M4 fl.Hf o.dst }:=by simp[AF,np _ I1 (by simp),G_,I1]
  rw[e];exact B2l I1 H0 (O4.refl _) (O4.refl _) rfl λh=>⟨h,h⟩
 ·rename_i t y I1;have hsr:∃r,src C.P 0 st y=some r:=by unfold Df at H;obtain⟨r,h,_⟩:=D8 H;exact⟨r,h⟩
  obtain⟨r,hr⟩:=hsr;obtain⟨r',Bh,hm⟩:=B5k C.P default hr;have e:AF C fl o st={ rt:=O9 y,wt:=o.dst.toList,rb:=(GK r'.2).1,wb:=if M4 fl.Q6 o.dst then(GK r'.2).1 else[],rs:=(GK r'.2).2,ws:=(M4 fl.Q6 o.dst||M4 fl.Hf o.dst)&&(GK r'.2).2 }:=by simp[AF,np _ I1 (by simp),G_,I1,Bh]
  rw[e];refine C3E I1 H0 (O4.refl _) (O4.refl _) rfl λr0 h0=>?_;rw[hr]at h0;cases h0;rw[hm];refine⟨O4.refl _,id,λV9=>⟨?_,λh=>?_⟩,λUT h=>?_⟩
  ·simp only[V9,H5];exact O4.refl _
  ·simp only[V9,Bool.true_or,zVq];exact h
  ·simp only[UT,yrq,zVq];exact h
 ·rename_i t y v I1;have hsr:∃r,src C.P 0 st y=some r:=by unfold ET at H;obtain⟨r,h,_⟩:=D8 H;exact⟨r,h⟩
  obtain⟨r,hr⟩:=hsr;obtain⟨r',Bh,hm⟩:=B5k C.P default hr;have e:AF C fl o st={ rt:=M0 [y,v],wt:=o.dst.toList++Gm st.mt v,rb:=(GK r'.2).1,wb:=(GK r'.2).1,rs:=(GK r'.2).2,ws:=(GK r'.2).2,so:=if o.dst.isNone then iG r'.2 else none }:=by simp[AF,np _ I1 (by simp),G_,I1,Bh]
  rw[e];refine C1x I1 H0 (O4.refl _) (Rt _ _) (yc _ _) rfl λr0 h0=>?_;rw[hr]at h0;cases h0;rw[hm];exact⟨O4.refl _,id,O4.refl _,id⟩
 ·rename_i y I1;have e:AF C fl o st={ rt:=O9 y,wt:=o.dst.toList }:=by simp[AF,np _ I1 (by simp),G_,I1]
  rw[e];exact B5M I1 H0 (O4.refl _) (O4.refl _) rfl
 ·rename_i op t y z yt I1;have e:AF C fl o st={ rt:=M0 [y,z],wt:=o.dst.toList }:=by simp[AF,np _ I1 (by simp),G_,I1]
  rw[e];exact C5C I1 H0 (O4.refl _) (O4.refl _) rfl
 ·rename_i op t y I1;have e:AF C fl o st={ rt:=O9 y,wt:=o.dst.toList }:=by simp[AF,np _ I1 (by simp),G_,I1]
  rw[e];exact C7c I1 H0 (O4.refl _) (O4.refl _) rfl
 ·rename_i t u y I1;have e:AF C fl o st={ rt:=O9 y,wt:=o.dst.toList }:=by simp[AF,np _ I1 (by simp),G_,I1]
  rw[e];exact C3D I1 H0 (O4.refl _) (O4.refl _) rfl
 ·rename_i t y i I1;have e:AF C fl o st={ rt:=O9 y,wt:=o.dst.toList }:=by simp[AF,np _ I1 (by simp),G_,I1]
  rw[e];exact B3Y I1 H0 (O4.refl _) (O4.refl _) rfl
 ·rename_i t y i I1;have e:AF C fl o st={ rt:=M0 [y,i],wt:=o.dst.toList }:=by simp[AF,np _ I1 (by simp),G_,I1]
  rw[e];exact B3Z I1 H0 (O4.refl _) (O4.refl _) rfl
 ·rename_i t y i I1;have e:AF C fl o st={ rt:=M0 [y,i],wt:=o.dst.toList }:=by simp[AF,np _ I1 (by simp),G_,I1]
  rw[e];exact C1v I1 H0 (O4.refl _) (O4.refl _) rfl
 ·rename_i t y lo hi mx I1;have e:AF C fl o st={ rt:=M0 (y::(lo.toList++hi.toList++mx.toList)),wt:=o.dst.toList }:=by simp[AF,np _ I1 (by simp),G_,I1]
  rw[e];exact C1w I1 H0 (O4.refl _) (O4.refl _) rfl
 ·rename_i g first caps I1
  have e:AF C fl o st={ rt:=M0 caps.toList,wt:=o.dst.toList }:=by simp[AF,np _ I1 (by simp),G_,I1]
  rw[e];exact B5L I1 H0 (O4.refl _) (O4.refl _) rfl
 ·rename_i t I1;have e:AF C fl o st={ rt:=M0 o.op.operands.toList,wt:=o.dst.toList++M0 o.op.operands.toList,rs:=true,ws:=true }:=by simp[AF,np _ I1 (by simp),G_,I1]
  rw[e];exact B7L I1 H0 (Rt _ _) rfl rfl rfl
 ·rename_i t y v ok I1;have e:AF C fl o st={ rt:=M0 [y,v],wt:=o.dst.toList,rs:=true }:=by simp[AF,np _ I1 (by simp),G_,I1]
  rw[e];exact B9J I1 H0 (O4.refl _) (O4.refl _) rfl rfl
 ·rename_i t y v u I1;have e:AF C fl o st={ rt:=M0 [y,v,u],wt:=o.dst.toList++M0 [y,v,u],rs:=true,ws:=true }:=by simp[AF,np _ I1 (by simp),G_,I1,Op.operands]
  rw[e];exact B30 I1 H0 (O4.refl _) (Rt _ _) rfl rfl rfl
 ·rename_i y i I1;have e:AF C fl o st={ rt:=O9 y,wt:=o.dst.toList++(if M4 fl.Q6 o.dst then O9 y else[]),ex:=C1n y i o.dst }:=by simp[AF,np _ I1 (by simp),G_,I1]
  rw[e];exact B7K I1 H0 (O4.refl _) (Rt _ _) (λh=>B0E _ _ h) rfl
 ·rename_i c I1;unfold Ht at H;split at H
  ·rename_i b hb;have np':bU C o=false:=by simp[bU,I1,hb]
   split at H
   ·rename_i h1 h2;have e:AF C fl o st={ rt:=M0 c.args.toList,wt:=o.dst.toList,rs:=true }:=by simp[AF,np',G_,I1,hb]
    rw[e];exact A80 I1 hb h1 h2 H (by rw[h1];simp only[M0,zdq,ymq,zIq];exact O4.refl _) (O4.refl _) rfl rfl
   ·rename_i y v t u h1 h2;have e:AF C fl o st={ rt:=M0 c.args.toList,wt:=o.dst.toList++M0 c.args.toList,rs:=M4 fl.opn o.dst||M4 fl.Hf o.dst,ws:=M4 fl.opn o.dst||M4 fl.Hf o.dst }:=by simp[AF,np',G_,I1,hb]
    rw[e];refine B9I I1 hb h1 h2 H (by rw[h1];exact O4.refl _) (Rt _ _) ?_ rfl λh=>⟨h,h⟩;intro i hi;refine yc _ _ i ?_;rw[h1];simp only[M0,zdq,z9q];exact .inl hi
   ·rename_i h1 h2;have e:AF C fl o st={ rt:=M0 c.args.toList,wt:=o.dst.toList,rs:=true,ws:=true }:=by simp[AF,np',G_,I1,hb]
    rw[e];exact C1u I1 hb h1 h2 H (by rw[h1];simp only[M0,zdq,ymq,zIq];exact O4.refl _) (O4.refl _) rfl rfl rfl
   ·rename_i h1 h2;have e:AF C fl o st={ rt:=M0 c.args.toList,wt:=o.dst.toList }:=by simp[AF,np',G_,I1,hb]
    rw[e];exact C5D I1 hb h1 h2 H0 (by rw[h1];exact O4.refl _) (O4.refl _) rfl
   ·rename_i h1 h2;have e:AF C fl o st={ rt:=M0 c.args.toList,wt:=o.dst.toList }:=by simp[AF,np',G_,I1,hb]
    rw[e];exact C5E I1 hb h1 h2 H0 (by rw[h1];exact O4.refl _) (O4.refl _) rfl
   ·simp at H
  ·rename_i y hy;by_cases hp:bU C o=true
   ·have e:AF C fl o st={ rt:=M0 o.op.operands.toList,wt:=o.dst.toList }:=by simp[AF,hp]
    rw[e];unfold bU at hp;rw[I1]at hp;simp only[hy]at hp;split at hp
    ·rename_i g hg;simp only[Callee.value.injEq]at hg;subst hg;simp only[zhq,zPq,zZq]at hp;refine C3G I1 hy hp.1.1 hp.1.2 hp.2 H0 (λi hi=>?_) (O4.refl _) rfl;simp only[I1,Op.operands,Call.operands,hy,Array.toList_append,M0,zGq,z9q]at hi ⊢;exact .inr hi
    ·simp at hp
   ·have e:AF C fl o st={ rt:=M0 (y::c.args.toList),wt:=o.dst.toList++M0 c.args.toList,rs:=true,ws:=true }:=by simp[AF,hp,G_,I1,hy]
    rw[e];exact C5B I1 hy H0 (O4.refl _) (Rt _ _) (yc _ _) rfl rfl rfl
  ·simp at H
 ·simp at H
end
end Go.Su

/-
 THE DATA MACHINE, part 22: regions, in the text's order and in any.
-/
namespace Go.Su
set_option linter.defProp false
def Ni{α : Type}{l l':List α}(h:∀i:Nat,l'[i]?=l[i]?):l'=l:=zOq h
variable {f:Fp}{st:St}{s:St}
def Two.same{s':St}(T:Two f st st s s'):s'=s:=by
 have h1:s'.tm=s.tm:=Ni λi=>by
  rcases T.t i with⟨_,h,_⟩ | ⟨⟨h,_⟩,h',_⟩
  ·exact h
  ·rw[h,h']
 have h2:s'.mt=s.mt:=Ni λi=>by
  rcases T.t i with⟨_,_,h⟩ | ⟨⟨_,h⟩,_,h'⟩
  ·exact h
  ·rw[h,h']
 have h3:s'.bx=s.bx:=Ni λi=>by
  rcases T.b i with⟨_,h⟩ | ⟨h,h'⟩
  ·exact h
  ·rw[h,h']
 have h4:s'.sg=s.sg:=by
  rcases T.s with⟨_,h⟩ | ⟨h,h'⟩
  ·exact h
  ·rw[h,h']
 cases s;cases s';simp_all
def I_.refl(h:∀t,f.nb=some t->Mx t st.mt=true):I_ f st st:=⟨rfl,rfl,rfl,λ_ _=>⟨rfl,rfl⟩,λ_ _=>rfl,λ_=>rfl,h⟩
variable {o:Oper}
def Vd{X:Type}{C:AB}{R:U1}{fl:I5}{k:St->Option X}{x:X}(H:K8 C R fl o st k=some x):
 ∃s,k s=some x/\∀(Y:Type)(k':St->Option Y),K8 C R fl o st k'=k' s:=by
 obtain⟨s,h1,h2,h3⟩:=xN H;obtain⟨s',h4,h5⟩:=h3 st (I_.refl h2);rw[h4.same]at h5;exact⟨s,h1,h5⟩
variable {t:Nat}{d:DV}
def KG(h:(st.get t).1=d)(hd:d ≠ .undef):st.know t d=st:=by
 unfold St.know;have ht:st.tm[t]?=some d:=by
  simp only[St.get,z1q]at h;cases hx:st.tm[t]? with
  |none=>rw[hx]at h;exact absurd h.symm hd
  |some e=>rw[hx]at h;simp only[zwq]at h;rw[h]
 have:st.tm.set t d=st.tm:=by
  apply zOq;intro i;by_cases hi:t=i
  ·subst hi;rw[ztq ];rw[ht];rfl
  ·rw[z2q hi]
 rw[this]
def B4o{β : Type}{a b c:Option β}{x : β}(h:K3 d a b c=some x):(d=.bool true/\a=some x)\/(d=.bool false/\b=some x)\/(d=.I4 []/\c=some x):=by
 unfold K3 at h;split at h
 ·exact .inl ⟨rfl,h⟩
 ·exact .inr (.inl ⟨rfl,h⟩)
 ·exact .inr (.inr ⟨rfl,h⟩)
 ·simp at h
section
variable (C:AB)(R:U1)(fl:I5)(ops:List Oper)
def Ac(o:Oper)(s s1:St):Prop :=
 match o.guard with
 |none=>K8 C R fl o s some=some s1
 |some (g,want)=>∃t,Ma ops g=some t/\M6 (s.get t).2=true /\(((s.get t).1=.bool want/\K8 C R fl o s some=some s1)\/(((s.get t).1=.bool !want\/(s.get t).1=.I4 [])/\s1=s.put o.dst (.I4 []) .val))
def isB(want:Bool):DV->Bool
 |.bool b=>b==want
 |_=>false
def DX(o:Oper)(s:St):Fp :=
 match o.guard with
 |none=>AF C fl o s
 |some (g,want)=>
   match Ma ops g with
   |none=>{}
   |some t=>if isB want (s.get t).1 then(AF C fl o s).look t else{ rt:=[t],wt:=o.dst.toList }
end
section
variable {C:AB}{R:U1}{fl:I5}{ops:List Oper}{o:Oper}
def I_.Au{g:Fp}{st':St}(A:I_ f st st')(h1:O4 g.rt f.rt)(h2:O4 g.rb f.rb)(h3:g.rs=true->f.rs=true)(h4:∀t,g.nb=some t->f.nb=some t):I_ g st st' :=⟨A.lt,A.lm,A.lb,λi hi=>A.t i (h1 i hi),λi hi=>A.b i (h2 i hi),λh=>A.s (h3 h),λt h=>A.n t (h4 t h)⟩
def I_.get{st':St}(A:I_ f st st')(h:t∈f.rt):st'.get t=st.get t:=by obtain⟨h1,h2⟩:=A.t t h;simp only[St.get,NY h1,NY h2]
def B6J{st':St}(A:I_ (AF C fl o st) st st'):AF C fl o st'=AF C fl o st:=by
 unfold AF at A ⊢;split
 ·rfl
 ·rename_i hp;rw[C8 hp]at A;unfold G_ at A ⊢;split<;>rename_i I1
  all_goals first
   |rfl
   | (rename_i y
      cases y with
      |tmp t=>rw[I1]at A;simp only[src]at A ⊢;rw[A.get (t:=t) (by simp[O9])]
      |_=>rfl)
   | (rename_i y v
      rw[I1]at A;simp only at A ⊢;have hrt:∀r,src default 0 st y=some r->∀u∈O9 v,st'.mt[u]?=st.mt[u]?:=λr hr u hu=>by rw[hr]at A;exact(A.t u (by simp[M0,hu])).2
      cases y with
      |tmp t=>simp only[src]at A hrt ⊢;rw[A.get (t:=t) (by simp[O9,M0])];rw[v_ (hrt _ rfl)]
      |const c=>
        simp only[src]at A hrt ⊢;cases hc:cst default 0 c with
        |none=>rfl
        |some r=>rw[v_ (hrt _ hc)]
      |func f=>simp only[src]at A hrt ⊢;rw[v_ (hrt _ rfl)]
      |global g=>rfl)
def ig{want:Bool}:isB want d=true↔d=.bool want:=by
 unfold isB;split
 ·simp
 ·rename_i h;simp only[zbq,false_iff];intro hd;exact h _ hd
variable {s1:St}
def A9L(H:Ac C R fl ops o s s1):(∀t,(DX C fl ops o s).nb=some t->Mx t s.mt=true) /\
 ∀s',I_ (DX C fl ops o s) s s'->DX C fl ops o s'=DX C fl ops o s/\∃s1',Two (DX C fl ops o s) s s' s1 s1'/\Ac C R fl ops o s' s1':=by
 unfold Ac at H;unfold DX Ac;split at H
 ·rename_i hg;obtain⟨s0,h1,h2,h3⟩:=xN H;simp only[D9]at h1;subst h1;refine⟨h2,λs' A=>⟨B6J A,?_⟩⟩;obtain⟨s1',h4,h5⟩:=h3 s' A;exact⟨s1',h4,h5 _ some⟩
 ·rename_i g want hg;obtain⟨t,ht,hd,H⟩:=H;simp only[ht];rcases H with⟨hb,H⟩ | ⟨hb,H⟩
  ·have hB:isB want (s.get t).1=true:=ig.2 hb;rw[D5 hB];obtain⟨s0,h1,h2,h3⟩:=xN H;simp only[D9]at h1;subst h1;refine⟨h2,λs' A=>?_⟩;have A':I_ (AF C fl o s) s s':=A.Au (λi hi=>zmq _ hi) (λ_ h=>h) id λ_ h=>h;have xh:s'.get t=s.get t:=A.get (znq ..);rw[xh,D5 hB,B6J A'];refine⟨rfl,?_⟩;obtain⟨s1',h4,h5⟩:=h3 s' A';refine⟨s1',⟨h4.l,h4.ls,h4.ls',h4.t,h4.b,h4.s⟩,t,rfl,by rw[xh];exact hd,.inl ⟨by rw[xh];exact hb,h5 _ some⟩⟩
  ·have hB:¬(isB want (s.get t).1=true):=by rw[ig];rcases hb with h | h<;>rw[h]<;>cases want<;>simp
   rw[C8 hB];refine⟨by simp,λs' A=>?_⟩;have xh:s'.get t=s.get t:=A.get (znq ..);rw[xh,C8 hB];refine⟨rfl,s'.put o.dst (.I4 []) .val,?_,t,rfl,by rw[xh];exact hd,.inr ⟨by rw[xh];exact hb,rfl⟩⟩;rw[H];exact(Two.refl A).put (λ_ h=>h) _ _
def Ac.det{s2:St}(H1:Ac C R fl ops o s s1)(H2:Ac C R fl ops o s s2):s1=s2:=by
 unfold Ac at H1 H2;split at H1
 ·rename_i hg;simp only[hg]at H2;rw[H1]at H2;simpa using H2
 ·rename_i g want hg;simp only[hg]at H2;obtain⟨t,ht,hd,H1⟩:=H1;obtain⟨t',ht',FU,H2⟩:=H2;rw[ht]at ht';cases ht';rcases H1 with⟨a,b⟩ | ⟨a,b⟩<;>rcases H2 with⟨c,d⟩ | ⟨c,d⟩
  ·rw[b]at d;simpa using d
  ·rw[a]at c;cases want<;>simp at c
  ·rw[c]at a;cases want<;>simp at a
  ·rw[b,d]
def MB{a b:List Nat}(h:qp a b=true):∀i,i∈a->i∉b:=by intro i hi hb;have:=zkq.1 h i hi;simp[hb]at this
variable {mt:List H6}{i:Nat}
def IE{mt':List H6}(h:mt'[i]?=mt[i]?):Jr mt' i=Jr mt i:=by unfold Jr;rw[NY h]
def BO{α β : Type}{l:List α}{f g : α->List β}(h:∀x∈l,f x=g x):l.flatMap f=l.flatMap g:=by
 induction l with
 |nil=>rfl
 |cons a l ih=>rw[zdq,zdq,h a (znq ..),ih λx hx=>h x (zmq _ hx)]
theorem iD:Mx t mt=true↔∀(i:Nat) s o,mt[i]?=some (.loc s o)->s≠t:=by
 unfold Mx;rw[zkq];constructor
 ·intro h i s o hi;have:=h _ (zsq hi);simpa using this
 ·intro h m hm;obtain⟨i,hi⟩:=List.mem_iff_getElem?.1 hm;split
  ·rename_i s o;simpa using h i s o hi
  ·rfl
variable {x:Nat}{d:Nat}
def C1o{o:Oper}(I1:o.op=.extract (.tmp x) i)(hd:o.dst=some d):K8 C R fl o s some=some s1 ↔
 ∃dv,K5 i (s.get x).1=some dv/\(((s.get x).2=.val/\s1=s.put (some d) dv .val)\/∃ms,(s.get x).2=.DJ ms /\((ms.getD i .val=.own/\M4 fl.Q6 (some d)=true/\s1={ s with mt:=s.mt.set x (.DJ (ms.set i .val)) }.put (some d) dv .own) \/((ms.getD i .val=.val\/(ms.getD i .val=.own/\M4 fl.Q6 (some d)=false))/\s1=s.put (some d) dv .val))):=by
 simp only[K8,I1,hd,src,O3];generalize s.get x=r;obtain⟨r1,r2⟩:=r;simp only;constructor
 ·intro H;split at H
  ·obtain⟨dv,h1,H⟩:=D8 H;simp only[D9]at H;exact⟨dv,h1,.inl ⟨rfl,H.symm⟩⟩
  ·rename_i ms;obtain⟨dv,h1,H⟩:=D8 H;refine⟨dv,h1,.inr ⟨ms,rfl,?_⟩⟩;split at H
   ·rename_i hm;split at H
    ·rename_i V9;simp only[D9,St.yn]at H;exact .inl ⟨hm,V9,H.symm⟩
    ·rename_i V9;simp only[D9]at H;exact .inr ⟨.inr ⟨hm,by simpa using V9⟩,H.symm⟩
   ·rename_i hm;simp only[D9]at H;exact .inr ⟨.inl hm,H.symm⟩
   ·simp at H
  ·simp at H
 ·rintro⟨dv,h1,⟨h2,rfl⟩ | ⟨ms,h2,⟨h3,h4,rfl⟩ | ⟨h3 | ⟨h3,h4⟩,rfl⟩⟩⟩
  ·subst h2;simp only[h1,O3]
  ·subst h2;simp only[h1,O3,h3,h4,H5,St.yn]
  ·subst h2;simp only[h1,O3,h3]
  ·subst h2;simp only[h1,O3,h3,h4,zbq,F9]
def C2Q(h:(DX C fl ops o s).ex=some (x,i,d)):o.guard=none/\o.op=.extract (.tmp x) i/\o.dst=some d /\
 (∀s',DX C fl ops o s'=DX C fl ops o s)/\∀u∈(DX C fl ops o s).wt,u=d\/u=x:=by
 unfold DX at h;split at h
 ·rename_i hg;unfold AF at h;split at h
  ·simp at h
  ·rename_i hp;unfold G_ at h;split at h
   all_goals first
    | (simp at h;done)
    | (split at h<;>simp at h;done)
    | (split at h<;>(try (simp at h;done))<;>split at h<;>(try (simp at h;done))<;>split at h<;>simp at h;done)
    |skip
   ·rename_i y j I1;simp only[C1n]at h;split at h
    ·rename_i t u hd;simp only[D9,Prod.mk.injEq]at h;obtain⟨rfl,rfl,rfl⟩:=h;refine⟨hg,I1,hd,λs'=>?_,λu hu=>?_⟩
     ·unfold DX AF G_;simp only[hg,I1,hp,zbq,F9]
     ·unfold DX AF G_ at hu;simp only[hg,I1,hp,zbq,F9,hd,Option.toList_some,z9q,zxq]at hu;rcases hu with hu | hu
      ·exact .inl hu
      ·split at hu
       ·simp only[O9,zxq]at hu;exact .inr hu
       ·simp at hu
    ·simp at h
   all_goals (split at h<;>(try simp at h)<;>(try (split at h<;>simp at h)))
 ·split at h
  ·simp at h
  ·split at h<;>simp[Fp.look]at h
variable {m:H6}
def Xv{v:DV}(h:d≠x):(s.put (some d) v m).get x=s.get x:=by simp only[St.get,St.put,z1q,z2q h]
def taken(s:St)(x i d:Nat)(dv:DV)(own:Bool):St :=if own then{ s with mt:=s.mt.set x (match (s.get x).2 with | .DJ ms=>.DJ (ms.set i .val) | m=>m) }.put (some d) dv .own else s.put (some d) dv .val
def ways(fl:I5)(d i:Nat)(m:H6)(own:Bool):Prop :=(m=.val/\own=false)\/∃ms,m=.DJ ms/\((ms.getD i .val=.own/\M4 fl.Q6 (some d)=true/\own=true)\/((ms.getD i .val=.val\/(ms.getD i .val=.own/\M4 fl.Q6 (some d)=false))/\own=false))
def oN{o:Oper}(I1:o.op=.extract (.tmp x) i)(hd:o.dst=some d):K8 C R fl o s some=some s1 ↔
 ∃dv own,K5 i (s.get x).1=some dv/\ways fl d i (s.get x).2 own/\s1=taken s x i d dv own:=by
 rw[C1o I1 hd];constructor
 ·rintro⟨dv,h1,⟨h2,rfl⟩ | ⟨ms,h2,⟨h3,h4,rfl⟩ | ⟨h3,rfl⟩⟩⟩
  ·exact⟨dv,false,h1,.inl ⟨h2,rfl⟩,rfl⟩
  ·exact⟨dv,true,h1,.inr ⟨ms,h2,.inl ⟨h3,h4,rfl⟩⟩,by simp only[taken,H5,h2]⟩
  ·exact⟨dv,false,h1,.inr ⟨ms,h2,.inr ⟨h3,rfl⟩⟩,rfl⟩
 ·rintro⟨dv,own,h1,⟨h2,rfl⟩ | ⟨ms,h2,⟨h3,h4,rfl⟩ | ⟨h3,rfl⟩⟩,rfl⟩
  ·exact⟨dv,h1,.inl ⟨h2,rfl⟩⟩
  ·exact⟨dv,h1,.inr ⟨ms,h2,.inl ⟨h3,h4,by simp only[taken,H5,h2]⟩⟩⟩
  ·exact⟨dv,h1,.inr ⟨ms,h2,.inr ⟨h3,rfl⟩⟩⟩
def nH(h:ways fl d i m true):∃ms,m=.DJ ms:=by
 rcases h with⟨_,h⟩ | ⟨ms,h,_⟩
 ·cases h
 ·exact⟨ms,h⟩
variable {own:Bool}
def Vr{tm:List DV}{bx sg}(h:ways fl d i ((⟨tm,mt,bx,sg⟩:St).get x).2 own):Jr mt x=[]:=by unfold Jr;rcases h with⟨h,_⟩ | ⟨ms,h,_⟩<;>simp only[St.get]at h<;>rw[h]
variable {dv:DV}
def yg{u:Nat}(h1:u≠d)(h2:u≠x):(taken s x i d dv own).mt[u]?=s.mt[u]?:=by
 unfold taken;split
 ·simp only[St.put,z2q (Ne.symm h1),z2q (Ne.symm h2)]
 ·simp only[St.put,z2q (Ne.symm h1)]
def A63{ms:List H6}(h:(s.get x).2=.DJ ms):x<s.mt.length:=by
 by_cases hx:x<s.mt.length
 ·exact hx
 ·simp[St.get,z1q,zaq (zNq hx)]at h
def B1X{j e:Nat}{own':Bool}(PM:i≠j)(bP:d≠x)(hw:ways fl d i (s.get x).2 own):
 ((taken s x i d dv own).get x).1=(s.get x).1/\(ways fl e j ((taken s x i d dv own).get x).2 own'↔ways fl e j (s.get x).2 own'):=by
 unfold taken;split
 ·rename_i ho;subst ho;obtain⟨ms,hm⟩:=nH hw;have hx:=A63 hm;have e1:(({ s with mt:=s.mt.set x (match (s.get x).2 with | .DJ ms=>.DJ (ms.set i .val) | m=>m) }:St).put (some d) dv .own).get x=((s.get x).1,.DJ (ms.set i .val)):=by rw[Xv bP];simp only[St.get,z1q,z6q hx,zwq]at hm ⊢;rw[hm]
  rw[e1];refine⟨rfl,?_⟩;unfold ways;rw[hm];simp only[reduceCtorEq,false_and,false_or,H6.DJ.injEq,exists_eq_left',z1q,z2q PM]
 ·rw[Xv bP];exact⟨rfl,Iff.rfl⟩
def B1Y(bP:d≠x)(hw:ways fl d i (s.get x).2 own):Jr (taken s x i d dv own).mt x=[]:=by
 unfold taken;split
 ·rename_i ho;subst ho;obtain⟨ms,hm⟩:=nH hw;have hx:=A63 hm;simp only[Jr,St.put,z1q,z2q bP,z6q hx,zwq,hm]
 ·have:=Vr (tm:=s.tm) (mt:=s.mt) (bx:=s.bx) (sg:=s.sg) hw;rw[<- this];exact IE (by simp only[St.put,z2q bP])
def B8R{j e:Nat}{ev:DV}{o1 o2:Bool}(PM:i≠j)(hde:d≠e)(bP:d≠x)(hex:e≠x)(h1:ways fl d i (s.get x).2 o1)(h2:ways fl e j (s.get x).2 o2):
 taken (taken s x i d dv o1) x j e ev o2=taken (taken s x j e ev o2) x i d dv o1:=by
 cases o1<;>cases o2
 ·simp only[taken,zbq,F9,St.put,zuq _ _ hde]
 ·obtain⟨ms,hm⟩:=nH h2;simp only[taken,zbq,F9,H5,Xv bP,hm];simp only[St.put,zuq _ _ hde,zuq _ _ bP]
 ·obtain⟨ms,hm⟩:=nH h1;simp only[taken,zbq,F9,H5,Xv hex,hm];simp only[St.put,zuq _ _ hde,zuq _ _ hex]
 ·obtain⟨ms,hm⟩:=nH h1;have hx:=A63 hm;have g1:∀(k f:Nat)(fv:DV),f≠x->(({ s with mt:=s.mt.set x (.DJ (ms.set k .val)) }:St).put (some f) fv .own).get x=((s.get x).1,.DJ (ms.set k .val)):=by intro k f fv hf;rw[Xv hf];simp only[St.get,z1q,z6q hx,zwq]
  simp only[taken,H5,hm,g1 i d dv bP,g1 j e ev hex];simp only[St.put,zuq _ _ hde,zuq _ _ hex,zuq _ _ bP,yoq,zuq _ _ PM]
def C1p{oi oj:Oper}{j e:Nat}{s2:St}(gi:oi.guard=none)(gj:oj.guard=none)(pi:oi.op=.extract (.tmp x) i)(pj:oj.op=.extract (.tmp x) j)(di:oi.dst=some d)(dj:oj.dst=some e)(PM:i≠j)(hde:d≠e)(bP:d≠x)(hex:e≠x)(Hj:Ac C R fl ops oj s s1)(Hi:Ac C R fl ops oi s1 s2):
 ∃s1',Ac C R fl ops oi s s1'/\Ac C R fl ops oj s1' s2/\(∀u,u=d\/u=x->Jr s1'.mt u=Jr s2.mt u/\Jr s.mt u=Jr s1.mt u)/\(∀u,u=e\/u=x->Jr s1'.mt u=Jr s.mt u/\Jr s2.mt u=Jr s1.mt u):=by
 unfold Ac at Hi Hj ⊢;simp only[gi,gj]at Hi Hj ⊢;obtain⟨dvj,oj1,hj1,hj2,rfl⟩:=(oN pj dj).1 Hj;obtain⟨dvi,oi1,Na,hi2,rfl⟩:=(oN pi di).1 Hi;have tj:=B1X (s:=s) (x:=x) (i:=j) (j:=i) (d:=e) (e:=d) (dv:=dvj) (own':=oi1) (Ne.symm PM) hex hj2;rw[tj.1]at Na;have hi0:=tj.2.1 hi2;have ti:=B1X (s:=s) (x:=x) (i:=i) (j:=j) (d:=d) (e:=e) (dv:=dvi) (own':=oj1) PM bP hi0;have hj3:=ti.2.2 hj2;have cm:=B8R (s:=s) (dv:=dvi) (ev:=dvj) PM hde bP hex hi0 hj2;refine⟨taken s x i d dvi oi1,(oN pi di).2 ⟨dvi,oi1,Na,hi0,rfl⟩,(oN pj dj).2 ⟨dvj,oj1,by rw[ti.1];exact hj1,hj3,cm.symm⟩,?_,?_⟩
 ·rintro u (rfl | rfl)
  ·refine⟨?_,?_⟩
   ·rw[<- cm];exact IE (yg hde bP).symm
   ·exact IE (yg hde bP).symm
  ·refine⟨(Vr hj3).trans ?_,(Vr hi0).trans (Vr hi2).symm⟩;exact(B1Y bP hi2).symm
 ·rintro u (rfl | rfl)
  ·refine⟨?_,?_⟩
   ·exact IE (yg (Ne.symm hde) hex)
   ·exact IE (yg (Ne.symm hde) hex)
  ·exact⟨(Vr hj3).trans (Vr hi0).symm,(B1Y bP hi2).trans (Vr hi2).symm⟩
def B4n{k:Bool}(h:iG m=some k):∃i,iF m=some i:=by cases m<;>simp[iG]at h<;>exact⟨_,rfl⟩
def A4q:H7->Bool
 |.opn _ _ _=>true
 |.BF _ _ _=>true
 |_=>false
variable {t:TypeId}
theorem B9m{P:Program}{v:Value}{r:DV×H6}(H:cst P t v=some r):iF r.2=none:=by unfold cst at H;split at H<;>simp only[D9,reduceCtorEq]at H<;>subst H<;>rfl
variable (s:St)(i:Nat)(ob:H7)(rl:Option Operand)
def Z8:St :=
 match rl with
 |some v=>St.release { s with sg:=s.sg.set i ob } v
 |none=>{ s with sg:=s.sg.set i ob }
theorem qG:(Z8 s i ob rl).sg=s.sg.set i ob:=by
 unfold Z8;cases rl with
 |none=>rfl
 |some v=>cases v<;>rfl
theorem A35:(Z8 s i ob rl).tm=s.tm:=by
 unfold Z8;cases rl with
 |none=>rfl
 |some v=>cases v<;>rfl
theorem C0y:(Z8 s i ob rl).bx=s.bx:=by
 unfold Z8;cases rl with
 |none=>rfl
 |some v=>cases v<;>rfl
def iL(mt:List H6)(rl:Option Operand):List H6 :=
 match rl with
 |some (.tmp t)=>mt.set t (dm (mt.getD t .val))
 |_=>mt
theorem Rq:(Z8 s i ob rl).mt=iL s.mt rl:=by
 unfold Z8 iL;cases rl with
 |none=>rfl
 |some v=>cases v<;>rfl
theorem Zd{rl:Option Operand}{u:Nat}(h:∀v,rl=some v->u∉Gm mt v):(iL mt rl)[u]?=mt[u]?:=by
 unfold iL;split
 ·rename_i t;have:=h _ rfl;rcases B4B (mt:=mt) (t:=t)with e | e
  ·rw[e]at this;simp only[zxq]at this;rw[z2q (Ne.symm this)]
  ·rw[e]
 ·rfl
def B8t{r1 r2:Option Operand}:iL (iL mt r1) r2=iL (iL mt r2) r1:=by
 cases r1 with
 |none=>rfl
 |some v1=>
   cases r2 with
   |none=>rfl
   |some v2=>
     cases v1<;>cases v2<;>try rfl
     rename_i t t';by_cases hne:t=t'
     ·subst hne;rfl
     ·simp only[iL,z1q,z2q hne,z2q (Ne.symm hne)]
      rw[zuq _ _ hne]
variable {i:Nat}
def B4I{g g':List H7}(h:g'[i]?=g[i]?):Q7 g' i=Q7 g i:=by unfold Q7;rw[h]
def B4J{g g':List H7}{n:Nat}(h:g'[i]?=g[i]?):VJ g' i n=VJ g i n:=by unfold VJ;rw[h]
def C2f{g g':List H7}(h:g'[i]?=g[i]?):NB g' i=NB g i:=by unfold NB;rw[h]
def A9M{y v:Operand}{s:St}(I1:o.op=.store t y v)(hd:o.dst=none){r:DV×H6}(hr:src C.P 0 s y=some r)(hi:iF r.2=some i){kd:Bool}(hk:iG r.2=some kd)(H:K8 C R fl o s some=some s1):
 ∃ob rl,(rl=none\/rl=some v)/\(A4q ob=kd/\∃old,s.sg[i]?=some old/\A4q old=kd)/\s1=Z8 s i ob rl/\∀s',src C.P 0 s' y=src C.P 0 s y->src C.P t s' v=src C.P t s v->s'.sg[i]?=s.sg[i]?->K8 C R fl o s' some=some (Z8 s' i ob rl):=by
 simp only[K8,I1,ET]at H;obtain⟨r0,h1,H⟩:=D8 H;rw[hr]at h1;simp only[D9]at h1;subst h1;obtain⟨u,h2,H⟩:=D8 H;obtain⟨z,h3,H⟩:=D8 H;have pn:∀s:St,s.put o.dst (.I4 []) .val=s:=λs=>by rw[hd];rfl
 split at H
 ·rename_i hm;rw[hm]at hi;simp[iF]at hi
 ·rename_i i' off hm;rw[hm]at hi;simp only[iF,D9]at hi;subst hi;rw[hm]at hk;simp only[iG,D9]at hk;subst hk;obtain⟨cs,h4,H⟩:=D8 H;have ho:∃old,s.sg[i']?=some old/\A4q old=false:=by
   unfold Q7 at h4;split at h4
   ·rename_i hq;exact⟨_,hq,rfl⟩
   ·cases h4
  by_cases hz:z.2=true
  ·rw[D5 hz]at H;obtain⟨xs,H,h5⟩:=Pj H;obtain⟨h6,H⟩:=O7 H;rw[pn]at H;simp only[D9]at H;refine⟨_,none,.inl rfl,⟨rfl,ho⟩,H.symm,λs' a1 a2 a3=>?_⟩;simp only[K8,I1,ET,a1,hr,a2,h2,h3,O3,hm,B4I a3,h4,D5 hz,h5,D5 h6,pn];rfl
  ·rw[C8 hz]at H;obtain⟨c,H,h5⟩:=OU H;obtain⟨c0,h6,H⟩:=D8 H;rw[pn]at H;simp only[D9]at H;refine⟨_,some v,.inr rfl,⟨rfl,ho⟩,H.symm,λs' a1 a2 a3=>?_⟩;simp only[K8,I1,ET,a1,hr,a2,h2,h3,O3,hm,B4I a3,h4,C8 hz,h5,h6,pn];rfl
 ·rename_i hm;rw[hm]at hi;simp[iF]at hi
 ·rename_i i' sz idx hm;rw[hm]at hi;simp only[iF,D9]at hi;subst hi;rw[hm]at hk;simp only[iG,D9]at hk;subst hk;obtain⟨q,h4,H⟩:=D8 H;have ho:∃old,s.sg[i']?=some old/\A4q old=true:=by
   unfold NB at h4;split at h4
   ·rename_i hq;exact⟨_,hq,rfl⟩
   ·cases h4
  obtain⟨H,h6⟩:=aD H;obtain⟨h7,H⟩:=I9 H;obtain⟨x',h8,H⟩:=D8 H;rw[pn]at H;simp only[D9]at H;have hx:A4q x'=true:=by
   unfold Po at h8;split at h8
   ·simp only[D9]at h8;subst h8;rfl
   ·cases h8
  refine⟨x',none,.inl rfl,⟨hx,ho⟩,H.symm,λs' a1 a2 a3=>?_⟩;simp only[K8,I1,ET,a1,hr,a2,h2,h3,O3,hm,C2f a3,h4,h6,h7,X5,h8,pn];rfl
 ·rename_i i' n sz idx off hm;rw[hm]at hi;simp only[iF,D9]at hi;subst hi;rw[hm]at hk;simp only[iG,D9]at hk;subst hk;obtain⟨q,h4,H⟩:=D8 H;have ho:∃old,s.sg[i']?=some old/\A4q old=true:=⟨_,iN h4,rfl⟩;obtain⟨d,h5,H⟩:=D8 H;obtain⟨h6,H⟩:=I9 H;by_cases hz:z.2=true
  ·rw[D5 hz]at H;obtain⟨xs,H,h7⟩:=Pj H;obtain⟨e,h8,H⟩:=D8 H;rw[pn]at H;simp only[D9]at H;refine⟨_,none,.inl rfl,⟨rfl,ho⟩,H.symm,λs' a1 a2 a3=>?_⟩;simp only[K8,I1,ET,a1,hr,a2,h2,h3,O3,hm,B4J a3,h4,h5,h6,X5,D5 hz,h7,h8,pn];rfl
  ·rw[C8 hz]at H;obtain⟨c,H,h7⟩:=OU H;obtain⟨e,h8,H⟩:=D8 H;rw[pn]at H;simp only[D9]at H;refine⟨_,none,.inl rfl,⟨rfl,ho⟩,H.symm,λs' a1 a2 a3=>?_⟩;simp only[K8,I1,ET,a1,hr,a2,h2,h3,O3,hm,B4J a3,h4,h5,h6,X5,C8 hz,h7,h8,pn];rfl
 ·simp at H
def C3i{s:St}{i:Bool}(h:(DX C fl ops o s).so=some i):o.guard=none/\o.dst=none/\∃t y v r,o.op=.store t y v/\src default 0 s y=some r/\iG r.2=some i /\
 (DX C fl ops o s).rt=M0 [y,v]/\(DX C fl ops o s).wt=Gm s.mt v/\∀s',src default 0 s' y=src default 0 s y->Gm s'.mt v=Gm s.mt v->DX C fl ops o s'=DX C fl ops o s:=by
 unfold DX at h ⊢;split at h
 ·rename_i hg;simp only[hg];unfold AF at h ⊢;split at h
  ·simp at h
  ·rename_i hp;unfold G_ at h;split at h
   all_goals first
    | (simp at h;done)
    | (split at h<;>simp at h;done)
    | (split at h<;>(try (simp at h;done))<;>split at h<;>(try (simp at h;done))<;>split at h<;>simp at h;done)
    |skip
   ·rename_i t y v I1;split at h
    ·rename_i r hr;simp only at h;by_cases hd:o.dst.isNone=true
     ·rw[D5 hd]at h;have FU:o.dst=none:=zZq.1 hd;refine⟨trivial,FU,t,y,v,r,I1,hr,h,?_,?_,λs' hs hs2=>?_⟩
      ·rw[C8 hp];unfold G_;simp only[I1,hr]
      ·rw[C8 hp];unfold G_;simp only[I1,hr,FU,Option.toList_none,List.nil_append]
      ·rw[C8 hp,C8 hp];unfold G_;simp only[I1,hr,hs,hs2]
     ·rw[C8 hd]at h;cases h
    ·simp at h
   all_goals (split at h<;>(try simp at h)<;>(try (split at h<;>simp at h)))
 ·split at h
  ·simp at h
  ·split at h<;>simp[Fp.look]at h
def C4x{oi oj:Oper}{s s2:St}(Hj:Ac C R fl ops oj s s1)(Hi:Ac C R fl ops oi s1 s2)(hc:B4Q ((DX C fl ops oj s).Bq s s1) ((DX C fl ops oi s1).Bq s1 s2)=true):
 ∃s1',Ac C R fl ops oi s s1'/\Ac C R fl ops oj s1' s2/\(DX C fl ops oi s).Bq s s1'=(DX C fl ops oi s1).Bq s1 s2/\(DX C fl ops oj s1').Bq s1' s2=(DX C fl ops oj s).Bq s s1:=by
 unfold B4Q at hc;split at hc
 ·rename_i ka kb ha hb;simp only[Fp.Bq]at ha hb;simp only[Fp.Bq,zhq,bne_iff_ne,ne_eq]at hc;obtain⟨⟨⟨C8A,c1⟩,c2⟩,c3⟩:=hc;have c1:=MB c1;have c2:=MB c2;have c3:=MB c3;obtain⟨gj,dj,tj,yj,vj,rj,pj,sj,bj,ej,wj,fj⟩:=C3i ha;obtain⟨gi,di,ti,yi,vi,ri,pi,si,bi,ei,wi,fi⟩:=C3i hb;obtain⟨a,ja⟩:=B4n bj;obtain⟨b,jb⟩:=B4n bi;rw[ei,wj]at c1;rw[wi,wj]at c2;rw[ej,wi]at c3;unfold Ac at Hi Hj;simp only[gi,gj]at Hi Hj;have real:∀{s:St}{y:Operand}{r:DV×H6}{n:Nat},src default 0 s y=some r->iF r.2=some n->src C.P 0 s y=some r:=by
   intro s y r n h1 h2;cases y with
   |tmp t=>exact h1
   |const v=>simp only[src]at h1;have:=B9m h1;rw[this]at h2;cases h2
   |func f=>exact h1
   |global g=>cases h1
  obtain⟨obj,rlj,qj,⟨oj1,old1,oj2,oj3⟩,e1,Gj⟩:=A9M pj dj (real sj ja) ja bj Hj;obtain⟨obi,UZ,qi,⟨oi1,old2,oi2,oi3⟩,e2,Gi⟩:=A9M pi di (real si jb) jb bi Hi;have EO:a≠b:=by
   rintro rfl;have hl:a<s.sg.length:=by
    rcases zoq a s.sg.length with h | h
    ·exact h
    ·rw[zaq h]at oj2;cases oj2
   rw[e1,qG,z6q hl]at oi2;simp only[D9]at oi2;subst oi2;exact C8A (oj1.symm.trans oi3)
  have sj':∀v,rlj=some v->v=vj:=λv h=>by rcases qj with q | q<;>rw[q]at h<;>simp at h;exact h.symm
  have si':∀v,UZ=some v->v=vi:=λv h=>by rcases qi with q | q<;>rw[q]at h<;>simp at h;exact h.symm
  have C3k:∀{P:Program}{t:TypeId}{st st':St}{y:Operand},(∀u∈O9 y,st'.tm[u]?=st.tm[u]?/\st'.mt[u]?=st.mt[u]?)->src P t st' y=src P t st y:=by
   intro P t st st' y h;cases y with
   |tmp u=>obtain⟨h1,h2⟩:=h u (by simp[O9]);simp only[src,St.get,NY h1,NY h2]
   |_=>rfl
  have k1:∀{P:Program}{t:TypeId}{y:Operand},(∀u∈O9 y,u∉Gm s.mt vj)->src P t s1 y=src P t s y:=by intro P t y h;rw[e1];exact C3k λu hu=>⟨by rw[A35],by rw[Rq,Zd λv hv=>by rw[sj' v hv];exact h u hu]⟩
  have y1:∀u∈O9 yi,u∉Gm s.mt vj:=λu hu hv=>c1 u hv (by simp[M0,hu]);have y2:∀u∈O9 vi,u∉Gm s.mt vj:=λu hu hv=>c1 u hv (by simp[M0,hu]);have mtj:∀u,u∉Gm s.mt vj->s1.mt[u]?=s.mt[u]?:=λu hu=>by rw[e1,Rq,Zd λv hv=>by rw[sj' v hv];exact hu]
  have ri1:Gm s1.mt vi=Gm s.mt vi:=v_ λu hu=>mtj u (y2 u hu);rw[ri1]at wi c2 c3;have k2:∀{P:Program}{t:TypeId}{y:Operand},(∀u∈O9 y,u∉Gm s.mt vi)->src P t (Z8 s b obi UZ) y=src P t s y:=by intro P t y h;exact C3k λu hu=>⟨by rw[A35],by rw[Rq,Zd λv hv=>by rw[si' v hv];exact h u hu]⟩
  have y3:∀u∈O9 yj,u∉Gm s.mt vi:=λu hu hv=>c3 u hv (by simp[M0,hu]);have y4:∀u∈O9 vj,u∉Gm s.mt vi:=λu hu hv=>c3 u hv (by simp[M0,hu]);have A1:=Gi s (k1 y1).symm (k1 y2).symm (by rw[e1,qG,z2q EO]);have A2:=Gj (Z8 s b obi UZ) (k2 y3) (k2 y4) (by rw[qG,z2q (Ne.symm EO)]);have C5J:Z8 (Z8 s b obi UZ) a obj rlj=s2:=by
   rw[e2,e1];have h1:(Z8 (Z8 s b obi UZ) a obj rlj).mt=(Z8 (Z8 s a obj rlj) b obi UZ).mt:=by simp only[Rq];exact B8t
   have h2:(Z8 (Z8 s b obi UZ) a obj rlj).sg=(Z8 (Z8 s a obj rlj) b obi UZ).sg:=by simp only[qG];rw[zuq _ _ (Ne.symm EO)]
   have h3:(Z8 (Z8 s b obi UZ) a obj rlj).tm=(Z8 (Z8 s a obj rlj) b obi UZ).tm:=by simp only[A35]
   have h4:(Z8 (Z8 s b obi UZ) a obj rlj).bx=(Z8 (Z8 s a obj rlj) b obi UZ).bx:=by simp only[C0y]
   generalize Z8 (Z8 s b obi UZ) a obj rlj=A at *;generalize Z8 (Z8 s a obj rlj) b obi UZ=B at *;cases A;cases B;simp_all
  rw[C5J]at A2;have C59:∀u,u∉Gm s.mt vi->(Z8 s b obi UZ).mt[u]?=s.mt[u]?:=λu hu=>by rw[Rq,Zd λv hv=>by rw[si' v hv];exact hu]
  have rj1:Gm (Z8 s b obi UZ).mt vj=Gm s.mt vj:=v_ λu hu=>C59 u (y4 u hu);have fi':=fi s (k1 y1).symm ri1.symm;have fj':=fj (Z8 s b obi UZ) (k2 y3) rj1;have mti:∀u,u∉Gm s.mt vi->s2.mt[u]?=s1.mt[u]?:=λu hu=>by rw[e2,Rq,Zd λv hv=>by rw[si' v hv,ri1];exact hu]
  have C8R:∀u,u∉Gm s.mt vj->s2.mt[u]?=(Z8 s b obi UZ).mt[u]?:=λu hu=>by rw[<- C5J,Rq,Zd λv hv=>by rw[sj' v hv,rj1];exact hu]
  refine⟨Z8 s b obi UZ,?_,?_,?_,?_⟩
  ·unfold Ac;simp only[gi];exact A1
  ·unfold Ac;simp only[gj];exact A2
  ·rw[fi'];simp only[Fp.Bq,Fp.mk.injEq,true_and,and_true];rw[wi];congr 1
   ·exact BO λu hu=>(IE (mtj u (y2 u (yG hu)))).symm
   ·exact BO λu hu=>(IE (C8R u (y2 u (yG hu)))).symm
  ·rw[fj'];simp only[Fp.Bq,Fp.mk.injEq,true_and,and_true];rw[wj];congr 1
   ·exact BO λu hu=>IE (C59 u (y4 u (yG hu)))
   ·exact BO λu hu=>IE (mti u (y4 u (yG hu)))
 ·cases hc
def B8P{oi oj:Oper}{s s2:St}(Hj:Ac C R fl ops oj s s1)(Hi:Ac C R fl ops oi s1 s2)(hc:B7w ((DX C fl ops oj s).Bq s s1) ((DX C fl ops oi s1).Bq s1 s2)=true):
 ∃s1',Ac C R fl ops oi s s1'/\Ac C R fl ops oj s1' s2/\(DX C fl ops oi s).Bq s s1'=(DX C fl ops oi s1).Bq s1 s2/\(DX C fl ops oj s1').Bq s1' s2=(DX C fl ops oj s).Bq s s1:=by
 obtain⟨nj,Fj⟩:=A9L Hj;obtain⟨ni,Fi⟩:=A9L Hi;generalize hfj:DX C fl ops oj s=f at *;generalize hfi:DX C fl ops oi s1=g at *;simp only[B7w,Fp.Bq,zhq,zPq,Bool.and_eq_false_imp,Bool.or_eq_false_iff]at hc;obtain⟨⟨⟨⟨⟨⟨⟨⟨⟨c1,c2⟩,c3⟩,c4⟩,c5⟩,c6⟩,c7⟩,c8⟩,c9⟩,c10⟩:=hc;have c1:=MB c1;have c2:=MB c2;have c3:=MB c3;have c4:=MB c4;have c5:=MB c5;have c6:=MB c6;obtain⟨-,Tj⟩:=Fj s (I_.refl nj);obtain⟨s1x,Tj,Rj⟩:=Tj;obtain rfl:=Rj.det Hj;obtain⟨-,Ti⟩:=Fi s1x (I_.refl ni);obtain⟨s2x,Ti,Ri⟩:=Ti;obtain rfl:=Ri.det Hi;have B8h:∀u:Nat,u∉f.wt->s1x.tm[u]?=s.tm[u]?/\s1x.mt[u]?=s.mt[u]?:=λu hu=>by
  rcases Tj.t u with⟨h,_⟩ | ⟨h,_⟩
  ·exact absurd h hu
  ·exact h
 have C8U:∀u:Nat,u∉g.wt->s2x.tm[u]?=s1x.tm[u]?/\s2x.mt[u]?=s1x.mt[u]?:=λu hu=>by
  rcases Ti.t u with⟨h,_⟩ | ⟨h,_⟩
  ·exact absurd h hu
  ·exact h
 have C7E:∀u:Nat,u∉f.wb->s1x.bx[u]?=s.bx[u]?:=λu hu=>by
  rcases Tj.b u with⟨h,_⟩ | ⟨h,_⟩
  ·exact absurd h hu
  ·exact h
 have Ai:I_ g s1x s:=by
  refine⟨Tj.ls.1.symm,Tj.ls.2.1.symm,Tj.ls.2.2.symm,λu hu=>?_,λu hu=>?_,λhr=>?_,λt ht=>?_⟩
  ·have:=B8h u λh=>c1 u h hu;exact⟨this.1.symm,this.2.symm⟩
  ·exact(C7E u λh=>c4 u h hu).symm
  ·rcases Tj.s with⟨h,_⟩ | ⟨h,_⟩
   ·rw[(c7 h).1]at hr;cases hr
   ·exact h.symm
  ·rw[iD];intro u s0 o0 hu V9;by_cases hw:u∈f.wt
   ·have Xx:A4t g (f.Bq s s1x)=true:=c10;simp only[A4t,ht,zPq,zRq,Q8,Fp.Bq,z9q,not_or]at Xx;refine Xx.1 (zSq.2 ⟨u,hw,?_⟩);simp only[Jr,z1q,hu,zwq,zxq];exact V9.symm
   ·have:=iD.1 (ni t ht) u s0 o0 (by rw[(B8h u hw).2];exact hu);exact this V9
 obtain⟨ei,s1',Ti',Ri'⟩:=Fi s Ai;have Aj:I_ f s s1':=by
  refine⟨Ti'.ls'.1.trans Tj.ls.1,Ti'.ls'.2.1.trans Tj.ls.2.1,Ti'.ls'.2.2.trans Tj.ls.2.2,λu hu=>?_,λu hu=>?_,λhr=>?_,λt ht=>?_⟩
  ·rcases Ti'.t u with⟨h,_⟩ | ⟨h,_⟩
   ·exact absurd hu (c3 u h)
   ·exact h
  ·rcases Ti'.b u with⟨h,_⟩ | ⟨h,_⟩
   ·exact absurd hu (c6 u h)
   ·exact h
  ·rcases Ti'.s with⟨h,_⟩ | ⟨h,_⟩
   ·rw[(c8 h).1]at hr;cases hr
   ·exact h
  ·rw[iD];intro u s0 o0 hu V9;rcases Ti'.t u with⟨hw,_,h⟩ | ⟨⟨_,h⟩,_⟩
   ·have h9:A4t f (g.Bq s1x s2x)=true:=c9;simp only[A4t,ht,zPq,zRq,Q8,Fp.Bq,z9q,not_or]at h9;refine h9.2 (zSq.2 ⟨u,hw,?_⟩);rw[h]at hu;simp only[Jr,z1q,hu,zwq,zxq];exact V9.symm
   ·exact iD.1 (nj t ht) u s0 o0 (by rw[<- h];exact hu) V9
 obtain⟨ej,s2',Tj',Rj'⟩:=Fj s1' Aj;have hs:s2'=s2x:=by
  have tt:∀u:Nat,s2'.tm[u]?=s2x.tm[u]?/\s2'.mt[u]?=s2x.mt[u]?:=λu=>by
   rcases Ti'.t u with⟨hi,h1,h2⟩ | ⟨⟨h1,h2⟩,h3,h4⟩<;>rcases Tj'.t u with⟨hj,h5,h6⟩ | ⟨⟨h5,h6⟩,h7,h8⟩
   ·exact absurd hi (c2 u hj)
   ·exact⟨h5.trans h1,h6.trans h2⟩
   ·exact⟨h5.trans h3.symm,h6.trans h4.symm⟩
   ·exact⟨by rw[h5,h1,h3,h7],by rw[h6,h2,h4,h8]⟩
  have bb:∀u:Nat,s2'.bx[u]?=s2x.bx[u]?:=λu=>by
   rcases Ti'.b u with⟨hi,h1⟩ | ⟨h1,h3⟩<;>rcases Tj'.b u with⟨hj,h5⟩ | ⟨h5,h7⟩
   ·exact absurd hi (c5 u hj)
   ·exact h5.trans h1
   ·exact h5.trans h3.symm
   ·rw[h5,h1,h3,h7]
  have ss:s2'.sg=s2x.sg:=by
   rcases Ti'.s with⟨hi,h1⟩ | ⟨h1,h3⟩<;>rcases Tj'.s with⟨hj,h5⟩ | ⟨h5,h7⟩
   ·have:=(c7 hj).2;rw[hi]at this;cases this
   ·exact h5.trans h1
   ·exact h5.trans h3.symm
   ·rw[h5,h1,h3,h7]
  have h1:s2'.tm=s2x.tm:=Ni λi=>(tt i).1;have h2:s2'.mt=s2x.mt:=Ni λi=>(tt i).2;have h3:s2'.bx=s2x.bx:=Ni bb;cases s2';cases s2x;simp_all
 subst hs;refine⟨s1',Ri',Rj',?_,?_⟩
 ·rw[ei];simp only[Fp.Bq,Fp.mk.injEq,true_and,and_true]
  congr 1
  ·exact BO λu hu=>(IE (B8h u λh=>c2 u h hu).2).symm
  ·refine BO λu hu=>IE ?_;rcases Ti'.t u with⟨_,_,h⟩ | ⟨⟨_,h2⟩,_,h4⟩
   ·exact h
   ·rw[h2,h4,(B8h u λh=>c2 u h hu).2]
 ·rw[ej];simp only[Fp.Bq,Fp.mk.injEq,true_and,and_true]
  congr 1
  ·refine BO λu hu=>IE ?_;rcases Ti'.t u with⟨h,_⟩ | ⟨⟨_,h⟩,_⟩
   ·exact absurd h (c2 u hu)
   ·exact h
  ·exact BO λu hu=>IE (C8U u λh=>c2 u hu h).2
def C0x{oi oj:Oper}{s s2:St}(Hj:Ac C R fl ops oj s s1)(Hi:Ac C R fl ops oi s1 s2)(hc:comm ((DX C fl ops oj s).Bq s s1) ((DX C fl ops oi s1).Bq s1 s2)=true):
 ∃s1',Ac C R fl ops oi s s1'/\Ac C R fl ops oj s1' s2/\(DX C fl ops oi s).Bq s s1'=(DX C fl ops oi s1).Bq s1 s2/\(DX C fl ops oj s1').Bq s1' s2=(DX C fl ops oj s).Bq s s1:=by
 unfold comm at hc;rcases yaq.1 hc with hc | hc;rotate_left
 ·exact C4x Hj Hi hc
 rcases yaq.1 hc with hc | hc
 ·exact B8P Hj Hi hc
 ·unfold B9B at hc;split at hc
  ·rename_i x j e y i d h1 h2;simp only[Fp.Bq]at h1 h2;simp only[zhq,beq_iff_eq,bne_iff_ne,ne_eq]at hc;obtain⟨⟨⟨⟨rfl,c2⟩,c3⟩,c4⟩,c5⟩:=hc;obtain⟨gj,pj,dj,fj,wj⟩:=C2Q h1;obtain⟨gi,pi,di,fi,wi⟩:=C2Q h2;obtain⟨s1',k1,k2,k3,k4⟩:=C1p gi gj pi pj di dj (Ne.symm c2) (Ne.symm c3) c5 c4 Hj Hi;refine⟨s1',k1,k2,?_,?_⟩
   ·rw[fi s];simp only[Fp.Bq,Fp.mk.injEq,true_and,and_true]
    congr 1
    ·exact BO λu hu=>(k3 u (wi u hu)).2
    ·exact BO λu hu=>(k3 u (wi u hu)).1
   ·rw[fj s1'];simp only[Fp.Bq,Fp.mk.injEq,true_and,and_true]
    congr 1
    ·exact BO λu hu=>(k4 u (wj u hu)).1
    ·exact BO λu hu=>(k4 u (wj u hu)).2
  ·cases hc
end
end Go.Su

/-
 THE DATA MACHINE, part 23: regions, in the text's order and in any.
-/
namespace Go.Su
set_option linter.defProp false
section
variable {X:Type}{C:AB}{R:U1}{fl:I5}{ops:List Oper}{o:Oper}
def B0S(hg:o.guard=none)(s s1:St):Ac C R fl ops o s s1↔K8 C R fl o s some=some s1:=by unfold Ac;rw[hg]
variable {g:Nat}{want:Bool}{t:Nat}
def nW(hg:o.guard=some (g,want))(ht:Ma ops g=some t)(s s1:St):Ac C R fl ops o s s1↔M6 (s.get t).2=true /\
 (((s.get t).1=.bool want/\K8 C R fl o s some=some s1)\/(((s.get t).1=.bool !want\/(s.get t).1=.I4 [])/\s1=s.put o.dst (.I4 []) .val)):=by
 unfold Ac;rw[hg];simp only[ht,D9,exists_eq_left']
def B3V(hg:o.guard=none)(s:St):DX C fl ops o s=AF C fl o s:=by unfold DX;rw[hg]
def B3W(hg:o.guard=some (g,want))(ht:Ma ops g=some t)(s:St):
 DX C fl ops o s=if isB want (s.get t).1 then(AF C fl o s).look t else{ rt:=[t],wt:=o.dst.toList }:=by
 unfold DX;rw[hg];simp only[ht]
variable {st:St}{x:X}
def B4F{J:St->Option X}(hb:(st.get t).1=.bool want)(H:K8 C R fl o (st.know t (.bool want)) J=some x):
 ∃s1,K8 C R fl o st some=some s1/\J s1=some x:=by
 rw[KG hb (by simp)]at H;obtain⟨s1,h1,h2⟩:=Vd H;exact⟨s1,h2 _ some,h1⟩
variable {os:List Oper}
def A53{bf:List (List Nat)}{i:Nat}{acc:List (Nat×Fp)}{k:St->Option X}(H:EC C R fl ops bf (o::os) i acc st k=some x):
 ∃s1,Ac C R fl ops o st s1/\Lf bf i acc ((DX C fl ops o st).Bq st s1)=true/\EC C R fl ops bf os (i+1) ((i,(DX C fl ops o st).Bq st s1)::acc) s1 k=some x:=by
 simp only[EC,Xu,A8W]at H;split at H
 ·rename_i hg;rw[B3V hg];obtain⟨s1,h1,h2⟩:=Vd H;obtain⟨h3,h4⟩:=I9 h1;exact⟨s1,(B0S hg _ _).2 (h2 _ some),h3,h4⟩
 ·rename_i g want hg;obtain⟨t,ht,H⟩:=D8 H;obtain⟨hd,H⟩:=I9 H;rw[B3W hg ht];have run:(st.get t).1=.bool want->tO C R fl o t (st.know t (.bool want)) (λf st1=>og (Lf bf i acc f) (EC C R fl ops bf os (i+1) ((i,f)::acc) st1 k))=some x->
   ∃s1,Ac C R fl ops o st s1/\Lf bf i acc ((if isB want (st.get t).1 then(AF C fl o st).look t else{ rt:=[t],wt:=o.dst.toList }).Bq st s1)=true /\EC C R fl ops bf os (i+1) ((i,(if isB want (st.get t).1 then(AF C fl o st).look t else{ rt:=[t],wt:=o.dst.toList }).Bq st s1)::acc) s1 k=some x:=by
   intro lW H9;rw[D5 (ig.2 lW)];unfold tO at H9;obtain⟨s1,h1,h2⟩:=B4F lW H9;rw[KG lW (by simp)]at h2;obtain⟨h3,h4⟩:=I9 h2;exact⟨s1,(nW hg ht _ _).2 ⟨hd,.inl ⟨lW,h1⟩⟩,h3,h4⟩
  have skip:∀d:DV,(d=.bool !want\/d=.I4 [])->(st.get t).1=d->Yr o t (st.know t d) (λf st1=>og (Lf bf i acc f) (EC C R fl ops bf os (i+1) ((i,f)::acc) st1 k))=some x->
   ∃s1,Ac C R fl ops o st s1/\Lf bf i acc ((if isB want (st.get t).1 then(AF C fl o st).look t else{ rt:=[t],wt:=o.dst.toList }).Bq st s1)=true /\EC C R fl ops bf os (i+1) ((i,(if isB want (st.get t).1 then(AF C fl o st).look t else{ rt:=[t],wt:=o.dst.toList }).Bq st s1)::acc) s1 k=some x:=by
   intro d UQ lW H9;rw[KG lW (by rcases UQ with h | h<;>rw[h]<;>simp)]at H9;have hB:¬(isB want (st.get t).1=true):=by rw[ig,lW];rcases UQ with h | h<;>rw[h]<;>cases want<;>simp
   rw[C8 hB];unfold Yr at H9;obtain⟨h3,h4⟩:=I9 H9;exact⟨_,(nW hg ht _ _).2 ⟨hd,.inr ⟨by rw[lW];exact UQ,rfl⟩⟩,h3,h4⟩
  rcases B4o H with⟨hb,H9⟩ | ⟨hb,H9⟩ | ⟨hb,H9⟩
  ·cases want
   ·exact skip _ (.inl rfl) hb H9
   ·exact run hb H9
  ·cases want
   ·exact run hb H9
   ·exact skip _ (.inl rfl) hb H9
  ·exact skip _ (.inr rfl) hb H9
def xO{k:St->Option X}(H:Eh C R fl ops (o::os) st k=some x):
 ∃s1,Ac C R fl ops o st s1/\Eh C R fl ops os s1 k=some x:=by
 simp only[Eh,Xu]at H;split at H
 ·rename_i hg;obtain⟨s1,h1,h2⟩:=Vd H;exact⟨s1,(B0S hg _ _).2 (h2 _ some),h1⟩
 ·rename_i g want hg;obtain⟨t,ht,H⟩:=D8 H;obtain⟨hd,H⟩:=I9 H;have run:(st.get t).1=.bool want->K8 C R fl o (st.know t (.bool want)) (λst=>Eh C R fl ops os st k)=some x->
   ∃s1,Ac C R fl ops o st s1/\Eh C R fl ops os s1 k=some x:=by
   intro lW H9;obtain⟨s1,h1,h2⟩:=B4F lW H9;exact⟨s1,(nW hg ht _ _).2 ⟨hd,.inl ⟨lW,h1⟩⟩,h2⟩
  have skip:∀d:DV,(d=.bool !want\/d=.I4 [])->(st.get t).1=d->Eh C R fl ops os ((st.know t d).put o.dst (.I4 []) .val) k=some x->
   ∃s1,Ac C R fl ops o st s1/\Eh C R fl ops os s1 k=some x:=by
   intro d UQ lW H9;rw[KG lW (by rcases UQ with h | h<;>rw[h]<;>simp)]at H9;exact⟨_,(nW hg ht _ _).2 ⟨hd,.inr ⟨by rw[lW];exact UQ,rfl⟩⟩,H9⟩
  rcases B4o H with⟨hb,H9⟩ | ⟨hb,H9⟩ | ⟨hb,H9⟩
  ·cases want
   ·exact skip _ (.inl rfl) hb H9
   ·exact run hb H9
  ·cases want
   ·exact run hb H9
   ·exact skip _ (.inl rfl) hb H9
  ·exact skip _ (.inr rfl) hb H9
def gI(C:AB)(R:U1)(fl:I5)(ops:List Oper):List (Nat×Fp)->St->St->Prop
 |[],s,t=>s=t
 |p::l,s,t=>∃o s1,ops[p.1]?=some o/\Ac C R fl ops o s s1/\p.2=(DX C fl ops o s).Bq s s1/\gI C R fl ops l s1 t
def gI.first:∀{A B:List (Nat×Fp)}{p:Nat×Fp}{s t:St},gI C R fl ops (A++p::B) s t->(∀q∈A,comm q.2 p.2=true)->
 ∃o s1,ops[p.1]?=some o/\Ac C R fl ops o s s1/\p.2=(DX C fl ops o s).Bq s s1/\gI C R fl ops (A++B) s1 t
 |[],B,p,s,t,H,_=>H
 |q::A,B,p,s,t,H,hc=>by obtain⟨oq,s1,h1,h2,h3,H⟩:=H;obtain⟨op,s2,h4,h5,h6,H⟩:=gI.first (A:=A) H λq' hq'=>hc q' (zmq _ hq');have h7:=hc q (znq ..);rw[h3,h6]at h7;obtain⟨s1',k1,k2,k3,k4⟩:=C0x h2 h5 h7;exact⟨op,s1',h4,k1,by rw[h6,k3],oq,s2,h1,k2,by rw[h3,k4],H⟩
def A2F{bf:List (List Nat)}{k:St->Option X}{x:X}:∀{os:List Oper}{i:Nat}{acc:List (Nat×Fp)}{st:St},(∀j:Nat,os[j]?=ops[i+j]?)->EC C R fl ops bf os i acc st k=some x->
 ∃l t,k t=some x/\gI C R fl ops l st t/\l.map (·.1)=List.range' i os.length/\(∀p∈acc,∀q∈l,p.1∈bf.getD q.1 []\/comm p.2 q.2=true) /\l.Pairwise λp q=>p.1∈bf.getD q.1 []\/comm p.2 q.2=true
 |[],i,acc,st,_,H=>⟨[],st,H,rfl,rfl,by simp,.nil⟩
 |o::os,i,acc,st,hs,H=>by
   obtain⟨s1,h1,h2,h3⟩:=A53 H;have FD:∀j:Nat,os[j]?=ops[i+1+j]?:=λj=>by have:=hs (j+1);simp only[zlq]at this;rw[this];congr 1;omega
   obtain⟨l,t,k1,k2,k3,k4,k5⟩:=A2F FD h3;refine⟨(i,(DX C fl ops o st).Bq st s1)::l,t,k1,⟨o,s1,?_,h1,rfl,k2⟩,?_,λp hp q hq=>?_,.cons (λq hq=>k4 _ (znq ..) q hq) k5⟩
   ·have:=hs 0;simpa using this.symm
   ·simp only[zWq,zBq,ynq,k3]
   ·rcases y4q.1 hq with rfl | hq
    ·have:=zkq.1 h2 p hp;simp only[ytq,zRq,F5]at this;exact this
    ·exact k4 p (zmq _ hp) q hq
end
section
variable {C:AB}{R:U1}{fl:I5}{ops:List Oper}{E:Env}{a:Act}{w:World}{K:Act->World->Prop}{Q:Exit->Act->World->Prop}
def A4a{st:St}{g t:Nat}{b:Bool}(Rl:M9 E st a w.heap)(ht:Ma ops g=some t)(hd:M6 (st.get t).2=true)(hb:(st.get t).1=.bool b):yielded ops.toArray a.tmps g=some b:=by
 unfold Ma at ht;obtain⟨o,h1,h2⟩:=D8 ht;have P8:t<a.tmps.size:=by
  rw[Rl.size];rcases zoq t st.tm.length with h | h
  ·exact h
  ·rw[pE h Rl.Ba]at hb;cases hb
 have hv:a.tmps[t]?=some a.tmps[t]:=zyq P8;have:=(Rl.AA t _ hv).data hd;rw[hb]at this;simp only[RV]at this;unfold yielded;simp[h1,h2,hv,this]
def B6w{st:St}{g t:Nat}(Rl:M9 E st a w.heap)(ht:Ma ops g=some t)(hd:M6 (st.get t).2=true)(hb:(st.get t).1=.I4 []):yielded ops.toArray a.tmps g=none:=by
 unfold Ma at ht;obtain⟨o,h1,h2⟩:=D8 ht;have P8:t<a.tmps.size:=by
  rw[Rl.size];rcases zoq t st.tm.length with h | h
  ·exact h
  ·rw[pE h Rl.Ba]at hb;cases hb
 have hv:a.tmps[t]?=some a.tmps[t]:=zyq P8;have:=(Rl.AA t _ hv).data hd;rw[hb]at this;simp only[RV]at this;obtain⟨vs,h3,h4⟩:=this;unfold yielded;simp[h1,h2,hv,h3]
def EI(ro:Option Nat):Fence:={ fn:=λ_=>True,depth:=none,alive:=false,round:=ro }
variable {ro:Option Nat}{n:Nat}{P:Program}
def B5w{f:FuncId}{args:Array Value}{w:World}{R:Ending->World->Prop}(h:Calls P f args w R):CallsIn (EI ro) n P f args w R:=by
 have h1:CallsIn Fence.wide n P f args w R:=callsIn_wide.2 h;cases ro with
 |none=>exact h1
 |some l=>exact CallsIn.inRound l h1
def Gp.wpIn{o:Oper}(hd:∀c,o.op ≠ .defer c)(H:Gp P o a w K):o.wpIn (EI ro) n P a w K Q:=by
 refine⟨λ_ _=>trivial,?_⟩;rw[Oper.semAt_eq _ _ _ hd];rcases H with⟨v,w',h1,h2⟩ | ⟨w',h1,h2⟩ | ⟨f,args,h1,h2⟩
 ·rw[h1];exact h2
 ·rw[h1];exact h2
 ·rw[h1];exact⟨λh=>(by cases h),B5w (h2.mono λe w' ⟨v,he,hk⟩=>by subst he;exact hk)⟩
def B8D{i:Nat}{o:Oper}{s s1:St}(hO:GI C R)(ho:ops[i]?=some o)(H:Ac C R fl ops o s s1)(Rl:M9 E s a w.heap)(T:∀E' a' w',a'.defers=a.defers->M9 E' s1 a' w'.heap->Pr Q4 E w.heap E' w'.heap->W9 w w'->K a' w'):wpOpIn (EI ro) n C.P ops.toArray Q i K a w:=by
 unfold wpOpIn;have ho':ops.toArray[i]?=some o:=by simpa using ho
 simp only[ho'];unfold Ac at H;have run:K8 C R fl o s some=some s1->o.wpIn (EI ro) n C.P a w K Q:=λH=>by
  have hd:∀c,o.op ≠ .defer c:=λc hc=>by simp[K8,hc]at H
  have h0:Gp C.P o a w λa' w'=>∃E',M9 E' s1 a' w'.heap/\Pr Q4 E w.heap E' w'.heap/\W9 w w':=C6G hO H Rl λE' st' a' w' h1 h2 h3 h4=>by simp only[D9]at h1;subst h1;exact⟨E',h2,h3,h4⟩
  exact Gp.wpIn hd (h0.mono λa' w' hd ⟨E',h1,h2,h3⟩=>T E' a' w' hd h1 h2 h3)
 split at H
 ·rename_i hg;have hw:Region.wanted o (yielded ops.toArray a.tmps)=true:=by simp[Region.wanted,hg]
  rw[D5 hw];exact run H
 ·rename_i g want hg;obtain⟨t,ht,hd,H⟩:=H;rcases H with⟨hb,H⟩ | ⟨hb,H⟩
  ·have hw:Region.wanted o (yielded ops.toArray a.tmps)=true:=by simp[Region.wanted,hg,A4a Rl ht hd hb]
   rw[D5 hw];exact run H
  ·have hw:¬(Region.wanted o (yielded ops.toArray a.tmps)=true):=by
    rcases hb with hb | hb
    ·cases want<;>simp[Region.wanted,hg,A4a Rl ht hd hb]
    ·simp[Region.wanted,hg,B6w Rl ht hd hb]
   rw[C8 hw];subst H;refine⟨λ_ _=>trivial,T E _ w (Yl ..) (Rl.put λt _=>?_) (Pr.refl _ _ _) (W9.refl _)⟩;simp only[RR,O0,RV,undef];exact⟨#[],rfl,by simp[TJ]⟩
def B68{X:Type}{k:St->Option X}{x:X}{ro:Option Nat}{n:Nat}(hO:GI C R):∀{os:List Oper}{i:Nat}{st:St}{E:Env}{a:Act}{w:World},(∀j:Nat,os[j]?=ops[i+j]?)->Eh C R fl ops os st k=some x->M9 E st a w.heap->
 (∀E' t a' w',k t=some x->a'.defers=a.defers->M9 E' t a' w'.heap->Pr Q4 E w.heap E' w'.heap->W9 w w'->Q .normal a' w')->wpOpsIn (EI ro) n C.P ops.toArray Q (List.range' i os.length) a w
 |[],i,st,E,a,w,_,H,Rl,T=>T E st a w H rfl Rl (Pr.refl _ _ _) (W9.refl _)
 |o::os,i,st,E,a,w,hs,H,Rl,T=>by
   obtain⟨s1,h1,h2⟩:=xO H;have FD:∀j:Nat,os[j]?=ops[i+1+j]?:=λj=>by have:=hs (j+1);simp only[zlq]at this;rw[this];congr 1;omega
   simp only[zBq,ynq];rw[wpOpsIn_cons];refine B8D hO (by simpa using(hs 0).symm) h1 Rl λE' a' w' D1 R1 P1 O1=>?_;exact B68 hO FD h2 R1 λE2 t a2 w2 k1 k0 k2 k3 k4=>T E2 t a2 w2 k1 (k0.trans D1) k2 (P1.trans k3) (O1.trans k4)
end
end Go.Su

/-
 THE DATA MACHINE, part 24: a region in whatever order.
-/
namespace Go.Su
set_option linter.defProp false
def aft(o:Oper):List Edge:=o.after.toList.filter (Region.binds .any)
def qZ:∀{os:List Oper}{acc:List (List Nat)}{j:Nat},j<acc.length->(NP os acc)[j]?=acc[j]?
 |[],acc,j,_=>rfl
 |o::os,acc,j,h=>by simp only[NP,Xt];rw[qZ (by simp;omega),z3q h]
def A8h:∀{os:List Oper}{acc:List (List Nat)},WA acc.length os=true->∀(j:Nat) o,os[j]?=some o->
 (NP os acc).getD (acc.length+j) []=uniq ((aft o).flatMap λe=>e.on::(NP os acc).getD e.on [])
 |[],acc,_,j,o,h=>by simp at h
 |o'::os,acc,he,j,o,h=>by
   simp only[WA,zhq]at he;simp only[NP,Xt];generalize hr:(acc++[uniq ((o'.after.toList.filter (Region.binds .any)).flatMap λe=>e.on::acc.getD e.on [])])=acc';have hl:acc'.length=acc.length+1:=by rw[<- hr];simp
   cases j with
   |zero=>
     simp only[ziq,D9]at h;subst h;have h1:(NP os acc').getD (acc.length+0) []=uniq ((o'.after.toList.filter (Region.binds .any)).flatMap λe=>e.on::acc.getD e.on []):=by rw[z1q,qZ (by omega),<- hr];simp
     rw[h1];refine congrArg uniq (BO λe hm=>?_);have h2:=zkq.1 he.1 e hm;simp only[F5]at h2;rw[z1q,z1q,qZ (by omega),<- hr,z3q h2]
   |succ j=>have:=A8h (os:=os) (acc:=acc') (by rw[hl];exact he.2) j o (by simpa using h);rw[hl]at this;rw[show acc.length+(j+1)=acc.length+1+j by omega];exact this
def B3y:∀{os:List Oper}{i:Nat},WA i os=true->∀(j:Nat) o,os[j]?=some o->∀e∈aft o,e.on<i+j
 |[],i,_,j,o,h=>by simp at h
 |o'::os,i,he,j,o,h=>by
   simp only[WA,zhq]at he;cases j with
   |zero=>simp only[ziq,D9]at h;subst h;intro e hm;have h2:=zkq.1 he.1 e hm;simpa using h2
   |succ j=>intro e hm;have:=B3y he.2 j o (by simpa using h) e hm;omega
structure Inv(bf:List (List Nat))(n:Nat)(listed:Array Bool)(l:List (Nat×Fp)):Prop where
 size:listed.size=n
 idx:∀j:Nat,(∃f,(j,f)∈l)↔listed[j]?=some false
 sorted:l.Pairwise λp q=>p.1<q.1
 pw:l.Pairwise λp q=>p.1∈bf.getD q.1 []\/comm p.2 q.2=true
 down:∀j:Nat,listed[j]?=some true->∀p∈bf.getD j [],listed[p]?=some true
variable {listed:Array Bool}
def A6A{j:Nat}:listed.getD j false=true↔listed[j]?=some true:=by rw[zUq];cases listed[j]?<;>simp
def mG{j:Nat}:listed.getD j true=false↔listed[j]?=some false:=by rw[zUq];cases listed[j]?<;>simp
section
variable {C:AB}{R:U1}{fl:I5}{ops:List Oper}{Q:Exit->Act->World->Prop}{ro:Option Nat}
def C4n{bf:List (List Nat)}{t:St}{m:Nat}(hO:GI C R)(hbf:∀(i:Nat) o,ops[i]?=some o->∀p,p∈bf.getD i []->p∈(aft o).flatMap λe=>e.on::bf.getD e.on [])(P8:∀(i:Nat) o,ops[i]?=some o->∀e∈aft o,e.on<i):
 ∀(n:Nat)(l:List (Nat×Fp))(listed:Array Bool)(s:St)(E:Env)(a:Act)(w:World),l.length=n->Inv bf ops.length listed l->gI C R fl ops l s t->M9 E s a w.heap->(∀E' a' w',a'.defers=a.defers->M9 E' t a' w'.heap->Pr Q4 E w.heap E' w'.heap->W9 w w'->Q .normal a' w')->wpAnyIn (EI ro) m C.P .any ops.toArray Q n listed a w:=by
 intro n;induction n with
 |zero=>intro l listed s E a w hl I Ch Rl T;have hl0:=zgq hl;subst hl0;simp only[gI]at Ch;subst Ch;refine⟨?_,T E a w rfl Rl (Pr.refl _ _ _) (W9.refl _)⟩;rw[List.eq_nil_iff_forall_not_mem];intro j hj;obtain⟨h0,-⟩:=mem_ready.1 hj;obtain⟨f,hf⟩:=(I.idx j).2 (mG.1 h0);cases hf
 |succ n ih=>
   intro l listed s E a w hl I Ch Rl T;constructor
   ·intro hr;exfalso;cases l with
    |nil=>simp at hl
    |cons p l=>
      have hp:listed[p.1]?=some false:=(I.idx p.1).1 ⟨p.2,znq ..⟩;obtain⟨o,s1,ho,-⟩:=Ch;have:p.1∈Region.ready .any ops.toArray listed:=by
       refine mem_ready.2 ⟨mG.2 hp,o,by simpa using ho,λe he hb=>A6A.2 ?_⟩;have C9F:=P8 p.1 o ho e (y6q.2 ⟨by simpa using he,hb⟩);have Ip:=(z7q.1 hp).1;have Qa:listed[e.on]?=some (listed[e.on]'(by omega)):=zyq (by omega);cases hv:(listed[e.on]'(by omega))with
       |true=>rw[Qa,hv]
       |false=>
         rw[hv]at Qa;obtain⟨f,hf⟩:=(I.idx e.on).2 Qa;rcases y4q.1 hf with h | h
         ·have:e.on=p.1:=by rw[<- h]
          omega
         ·have:=(zYq.1 I.sorted).1 _ h;simp only at this;omega
      rw[hr]at this;cases this
   ·intro i hi;obtain⟨h0,o,ho,ZT⟩:=mem_ready.1 hi;have hif:=mG.1 h0;obtain⟨g,hg⟩:=(I.idx i).2 hif;obtain⟨A,B,rfl⟩:=List.append_of_mem hg;have ho':ops[i]?=some o:=by simpa using ho
    have pG:∀p∈bf.getD i [],listed[p]?=some true:=by
     intro p hp;replace hp:=hbf i o ho' _ hp;obtain⟨e,he,hp⟩:=zSq.1 hp;obtain⟨he1,he2⟩:=y6q.1 he;have hl:=A6A.1 (ZT e (by simpa using he1) he2);rcases y4q.1 hp with rfl | hp
     ·exact hl
     ·exact I.down _ hl p hp
    obtain⟨pA,pB,pAB⟩:=zzq.1 I.pw;obtain⟨sA,sB,sAB⟩:=zzq.1 I.sorted;obtain⟨sB1,sB2⟩:=zYq.1 sB;have C7i:∀q∈A,comm q.2 g=true:=by
     intro q hq;rcases pAB q hq (i,g) (znq ..)with h | h
     ·have h1:=pG _ h;have h2:=(I.idx q.1).1 ⟨q.2,z9q.2 (.inl hq)⟩;rw[h1]at h2;cases h2
     ·exact h
    obtain⟨o',s1,k1,k2,k3,k4⟩:=gI.first Ch C7i;have C5N:=(z7q.1 hif).1;refine B8D hO k1 k2 Rl λE' a' w' D1 R1 P1 O1=>ih (A++B) _ s1 E' a' w' ?_ ⟨?_,λj=>?_,?_,?_,λj hj p hp=>?_⟩ k4 R1 λE2 a2 w2 D2 R2 P2 O2=>T E2 a2 w2 (D2.trans D1) R2 (P1.trans P2) (O1.trans O2)
    ·simp only[yfq,zBq]at hl ⊢;omega
    ·rw[Array.size_setIfInBounds];exact I.size
    ·constructor
     ·rintro⟨f,hf⟩;have hne:i≠j:=by
       rcases z9q.1 hf with h | h
       ·have:=sAB _ h (i,g) (znq ..);simp only at this;omega
       ·have:=sB1 _ h;simp only at this;omega
      rw[z8q hne];exact(I.idx j).1 ⟨f,by
       rcases z9q.1 hf with h | h
       ·exact z9q.2 (.inl h)
       ·exact z9q.2 (.inr (zmq _ h))⟩
     ·intro hj;by_cases hne:i=j
      ·subst hne;rw[zeq C5N]at hj;cases hj
      ·rw[z8q hne]at hj;obtain⟨f,hf⟩:=(I.idx j).2 hj;refine⟨f,?_⟩;rcases z9q.1 hf with h | h
       ·exact z9q.2 (.inl h)
       ·rcases y4q.1 h with h | h
        ·simp only[Prod.mk.injEq]at h;exact absurd h.1.symm hne
        ·exact z9q.2 (.inr h)
    ·exact zzq.2 ⟨sA,sB2,λp hp q hq=>sAB p hp q (zmq _ hq)⟩
    ·exact zzq.2 ⟨pA,(zYq.1 pB).2,λp hp q hq=>pAB p hp q (zmq _ hq)⟩
    ·have mono:∀q:Nat,listed[q]?=some true->(listed.setIfInBounds i true)[q]?=some true:=by
      intro q hq;by_cases hne:i=q
      ·subst hne;exact zeq C5N
      ·rw[z8q hne];exact hq
     by_cases hne:i=j
     ·subst hne;exact mono p (pG p hp)
     ·rw[z8q hne]at hj;exact mono p (I.down j hj p hp)
variable {w:World}
def B8G{X:Type}{n:Nat}{k:St->Option X}{x:X}{ops:Array Oper}{id:Nat}{st:St}{E:Env}{a:Act}(hO:GI C R)(H:Eh C R fl ops.toList ops.toList st k=some x)(Rl:M9 E st a w.heap)(T:∀E' t a' w',k t=some x->a'.defers=a.defers->M9 E' t a' w'.heap->Pr Q4 E w.heap E' w'.heap->W9 w w'->Q .normal a' w'):(Code.region id ops false).wpIn (EI ro) n C.P Q a w:=by
 refine wpIn_region ?_;have:=B68 (ro:=ro) (n:=n) (i:=0) hO (λj=>by rw[zfq]) H Rl T
 rwa [List.range_eq_range',<- zDq]
def C2j{X:Type}{n:Nat}{k:St->Option X}{x:X}{ops:Array Oper}{id:Nat}{st:St}{E:Env}{a:Act}(hm:C.P.follows .mixedOrders=true)(hO:GI C R)(H:og (WA 0 ops.toList) (EC C R fl ops.toList (NP ops.toList []) ops.toList 0 [] st k)=some x)(Rl:M9 E st a w.heap)(T:∀E' t a' w',k t=some x->a'.defers=a.defers->M9 E' t a' w'.heap->Pr Q4 E w.heap E' w'.heap->W9 w w'->Q .normal a' w'):(Code.region id ops true).wpIn (EI ro) n C.P Q a w:=by
 obtain⟨he,H⟩:=I9 H;obtain⟨l,t,h1,h2,h3,h4,h5⟩:=A2F (λj=>by rw[zfq]) H;refine wpIn_region_any hm ?_;have Bl:l.length=ops.size:=by have:=congrArg List.length h3;simpa using this
 have hidx:∀j:Nat,(∃f,(j,f)∈l)↔j<ops.size:=by
  intro j;have:j∈l.map (·.1)↔j∈List.range' 0 ops.toList.length:=by rw[h3]
  rw[List.mem_map]at this;simp only[List.mem_range'_1,Nat.zero_le,true_and,zfq,zDq]at this;rw[<- this];constructor
  ·rintro⟨f,hf⟩;exact⟨_,hf,rfl⟩
  ·rintro⟨p,hp,rfl⟩;exact⟨p.2,hp⟩
 have C3J:l.Pairwise λp q=>p.1<q.1:=by
  have:(l.map (·.1)).Pairwise (· < ·):=by rw[h3];exact List.pairwise_lt_range' ..
  exact List.pairwise_map.1 this
 have:=C4n (ro:=ro) (m:=n) (t:=t) (fl:=fl) (Q:=Q) (ops:=ops.toList) (bf:=NP ops.toList []) hO (λi o ho p hp=>by
  have h:=A8h (acc:=[]) he i o ho;simp only[y7q,zfq]at h;rw[h]at hp;exact A7a.1 hp) (λi o ho e hm=>by simpa using B3y he i o ho e hm)
  ops.size l (Array.replicate ops.size false) st E a { w with drawn:=w.drawn+1 } Bl ⟨by simp,λj=>?_,C3J,h5,λj hj=>?_⟩ h2 Rl λE' a' w' D1 R1 P1 O1=>T E' t a' w' h1 D1 R1 P1 ⟨O1.os,O1.tape,O1.output⟩
 ·simpa using this
 ·rw[hidx];rw[y0q];split<;>simp_all
 ·rw[y0q]at hj;split at hj<;>simp at hj
end
end Go.Su

/-
 THE DATA MACHINE, part 24a: what a loop over an iterator leaves as it was.
-/
namespace Go.Su
set_option linter.defProp false
def Marks(n:Nat)(E:Env)(h:Heap)(ms:List Deferred):Prop :=(∀m∈ms,∃D,m={ target:=.collected D,args := #[] }/\h[D]?=some (.deferred (some []))/\E.O D 0=.other/\n<=D)/\ms.Pairwise (· ≠ ·)
variable {n:Nat}{E:Env}{h:Heap}
def Marks.nil:Marks n E h []:=⟨λ_ hm=>(by cases hm),.nil⟩
variable {b:Nat}
def Pr.mK{E':Env}{h':Heap}(P:Pr Q4 E h E' h'){ob:Obj}(hb:h[b]?=some ob)(hc:ob.isCells=false)(ho:E.O b 0=.other):h'[b]?=some ob:=by
 have P8:=(z7q.1 hb).1;have hk:=P.blk b P8;rw[hb]at hk;unfold Y4 at hk;split at hk
 ·rename_i hx;cases hx
 ·rename_i hx;simp only[D9]at hx;subst hx;simp[Obj.isCells]at hc
 ·rename_i ob' _ hx;simp only[D9]at hx;subst hx;exact hk (by rw[ho];simp[Q4])
def Pr.ZY{E':Env}{h':Heap}(P:Pr Q4 E h E' h'){o:Nat}(hb:b<h.size)(ho:E.O b o=.other):E'.O b o=.other:=by rw[P.tags b o hb (by rw[ho];simp[Q4]),ho]
def Marks.mono{E':Env}{h':Heap}{ms:List Deferred}(H:Marks n E h ms)(P:Pr Q4 E h E' h'):Marks n E' h' ms:=⟨λm hm=>by obtain⟨D,h1,h2,h3,h4⟩:=H.1 m hm;exact⟨D,h1,P.mK h2 rfl h3,P.ZY (z7q.1 h2).1 h3,h4⟩,H.2⟩
def Marks.append{E0:Env}{h0:Heap}{ms ns:List Deferred}(H:Marks h0.size E h ns)(K0:Marks n E0 h0 ms)(P:Pr Q4 E0 h0 E h)(hn:n<=h0.size):Marks n E h (ns++ms):=by
 have K:=K0.mono P;refine⟨λm hm=>?_,zzq.2 ⟨H.2,K.2,λx hx y hy he=>?_⟩⟩
 ·rcases z9q.1 hm with h1 | h1
  ·obtain⟨D,h1,h2,h3,h4⟩:=H.1 m h1;exact⟨D,h1,h2,h3,Nat.le_trans hn h4⟩
  ·exact K.1 m h1
 ·obtain⟨D,h1,-,-,h4⟩:=H.1 x hx;obtain⟨D',k1,k2,-⟩:=K0.1 y hy;have:=(z7q.1 k2).1;rw[h1,k1]at he;simp only[Deferred.mk.injEq,Target.collected.injEq,and_true]at he;omega
variable {l:Nat}
def Pr.swap{ch:Tag->Prop}{E':Env}{h':Heap}{x y:Obj}(P:Pr ch E (h.setIfInBounds l x) E' h')(hy:h[l]?=some y):Pr ch E h E' (h'.setIfInBounds l y):=by
 have hl:=(z7q.1 hy).1;have hs:h.size<=h'.size:=by have:=P.size;simpa using this
 refine⟨by simpa using hs,λb hb=>?_,λb o hb hn=>P.tags b o (by simpa using hb) hn,P.n,P.V8,P.qf,P.Rx⟩;by_cases vO:l=b
 ·subst vO;rw[zeq (by omega),hy];exact Y4.refl _ _
 ·have:=P.blk b (by simpa using hb);rw[z8q vO]at this;rw[z8q vO];exact this
def Pr.A3P{ch:Tag->Prop}{E':Env}{h':Heap}{x:Obj}(P:Pr ch E h E' h')(hl:h.size<=l):Pr ch E h E' (h'.setIfInBounds l x):=by refine⟨by simpa using P.size,λb hb=>?_,P.tags,P.n,P.V8,P.qf,P.Rx⟩;rw[z8q (by omega)];exact P.blk b hb
def Pr.setOther{x y:Obj}(hy:h[l]?=some y)(hc:y.isCells=false)(ho:E.O l 0=.other):Pr (λT=>T=.other) E h E (h.setIfInBounds l x):=by
 refine⟨by simp,λb hb=>?_,λ_ _ _ _=>rfl,zjq _,λ_ _ _=>⟨rfl,rfl,rfl⟩,λ_ _=>rfl,Ee rfl⟩;by_cases vO:l=b
 ·subst vO;rw[hy];unfold Y4;split
  ·trivial
  ·rename_i hx;simp only[D9]at hx;subst hx;simp[Obj.isCells]at hc
  ·exact λh0=>absurd ho h0
 ·rw[z8q vO];exact Y4.refl _ _
section
variable {E E':Env}{st:St}{a:Act}{h h':Heap}
def M9.others(Rl:M9 E st a h)(P:Pr (λT=>T=.other) E h E' h')(hn:E'.n=E.n)(hf:∀b o,h'.size<=b->E'.O b o=.other):M9 E' st a h':=by have M3:=P.U0 (by simp) Rl.fresh;exact⟨Rl.size,Rl.Ba,Rl.Dm,by rw[hn];exact Rl.n,λt v hv=>(Rl.AA t v hv).mono P M3 (by simp) (by simp),λs cs hs=>by rw[P.qf s (by simp)];exact(Rl.Ad s cs hs).mono P M3 (by simp) (by simp),λi ob hi=>(Rl.V8 i ob hi).mono P M3 (by rw[<- Rl.n];exact(z0q.1 hi).1) (by simp) (by simp),hf⟩
def Wn.pr{w w':World}(H:Wn n E w w'):Pr (λT=>T=.other) E w.heap E w'.heap:=by
 refine⟨H.size,λb hb=>?_,λ_ _ _ _=>rfl,zjq _,λ_ _ _=>⟨rfl,rfl,rfl⟩,λ_ _=>rfl,Ee rfl⟩;rcases H.blk b hb with h1 | ⟨-,⟨c,T,f,c',h1,h2,h3⟩,h4⟩
 ·rw[h1];exact Y4.refl _ _
 ·rw[h1,h2];exact⟨c',rfl,h3,λo ho=>absurd (h4 o) ho⟩
def Wn.keep{w w':World}(H:Wn n E w w'){ob:Obj}(hb:w.heap[b]?=some ob)(hc:ob.isCells=false):w'.heap[b]?=some ob:=by
 rcases H.blk b (z7q.1 hb).1 with h1 | ⟨-,⟨c,T,f,c',h1,h2,h3⟩,h4⟩
 ·rw[h1,hb]
 ·rw[hb]at h1;simp only[D9]at h1;subst h1;simp[Obj.isCells]at hc
def Wn.after{w w':World}{E0:Env}{h0:Heap}(H:Wn n E w w')(hn:h0.size<=n)(P:Pr Q4 E0 h0 E w.heap):Pr Q4 E0 h0 E w'.heap:=by
 refine⟨Nat.le_trans P.size H.size,λb hb=>?_,P.tags,P.n,P.V8,P.qf,P.Rx⟩;have:=P.blk b hb;rcases H.blk b (Nat.lt_of_lt_of_le hb P.size)with h1 | ⟨h1,-⟩
 ·rw[h1];exact this
 ·omega
def RR.stay{k t:Nat}{d:DV}{m:H6}{v:Value}{k' t':Nat}(R:RR E h k t d m v)(M3:AZ E.S h E'.S h')(ho:∀i,E.In i->E'.In i/\E'.obj i=E.obj i):
 RR E' h' k' t' (A4D (d,m)).1 (A4D (d,m)).2 v:=by
 cases m<;>simp only[A4D,RR,O0,RV]at R ⊢
 case val=>exact R.mono M3
 case full=>exact⟨R.1.mono M3,R.2⟩
 case own=>exact R.1.mono M3
 case ptr i o=>exact⟨(ho i R.1).1,by rw[(ho i R.1).2];exact R.2⟩
 case FZ=>exact⟨trivial,R.2⟩
 case map i=>exact⟨(ho i R.1).1,by rw[(ho i R.1).2];exact R.2⟩
 case Tv=>exact R
 case fn f caps=>refine⟨?_,λc hc=>(ho _ (R.2 c hc)).1⟩;rw[R.1];congr 2;refine zTq λc hc=>?_;rw[(ho _ (R.2 c hc)).2]
variable {sg:List H7}
def C0d{st:St}(hl:st.mt.length=st.tm.length)(t:Nat)(ht:t<st.tm.length):(BA st sg).get t=A4D (st.get t):=by
 simp only[St.get,BA,z1q,zpq,zXq];have h1:(st.tm.zip st.mt)[t]?=some (st.tm[t],st.mt[t]'(by omega)):=by rw[zXq];exact⟨z4q ht,z4q (by omega)⟩
 rw[h1];simp[z4q ht,z4q (show t<st.mt.length by omega)]
def M9.outer(Rl:M9 E st a h)(M3:AZ E.S h E'.S h')(ho:∀i,E.In i->E'.In i/\E'.obj i=E.obj i)(hs:sg.length=E'.n)(hob:∀(i:Nat) ob,sg[i]?=some ob->RO E' h' i ob)(hf:∀b o,h'.size<=b->E'.O b o=.other){ds:List Deferred}:M9 E' (BA st sg) { a with defers:=ds } h':=by
 have hl:=Rl.Ba;refine⟨?_,by simp[BA,hl],by simp[BA,hl,Rl.Dm],hs,λt v hv=>?_,λs cs IP=>?_,hob,hf⟩
 ·simp[BA,hl];exact Rl.size
 ·have ht:t<st.tm.length:=by rw[<- Rl.size];exact(z7q.1 hv).1
  rw[C0d hl t ht];exact(Rl.AA t v hv).stay M3 ho
 ·simp only[BA,z1q,zpq]at IP;cases hb:st.bx[s]?<;>rw[hb]at IP<;>simp at IP
end
def B23(i:Nat):Tag->Tag
 |.other=>.other
 |.U0=>.U0
 |.Vo _=>.other
 |.obj j=>if j=i then .other else .obj j
 |.sp k a b=>if k=2/\a≠i then .sp k a b else .other
def B0T{E:Env}{h:Heap}{k a:Nat}:∀{cs:List (DV×H6)}{cd:List DV}{vs:List Value},Ce cs=some cd->cs.length=vs.length->
 (∀(j:Nat) r v,cs[j]?=some r->vs[j]?=some v->M7 r.1=true/\v.oneCell'=true/\w9 r.2=true/\∃q,O0 E h (.sp k a q) r.1 r.2 v)->Jb E.S h cd vs
 |[],cd,vs,H,hl,_=>by simp only[Ce,D9]at H;subst H;simp only[Jb];exact zgq hl.symm
 |c::cs,cd,vs,H,hl,hr=>by
   simp only[Ce]at H;obtain⟨h1,H⟩:=I9 H;obtain⟨ds,h2,H⟩:=D8 H;simp only[D9]at H;subst H;cases vs with
   |nil=>simp at hl
   |cons v vs=>obtain⟨a1,a2,a3,q,a4⟩:=hr 0 c v rfl rfl;simp only[Jb];refine⟨v,vs,rfl,a1,Qq a1 a2 ?_,B0T h2 (by simpa using hl) λj r u hj hu=>hr (j+1) r u (by simpa using hj) (by simpa using hu)⟩;revert a4 h1;cases c.2<;>simp only[O0]<;>intro h1 a4<;>first | exact a4 | exact a4.1 | (simp at h1)
end Go.Su
