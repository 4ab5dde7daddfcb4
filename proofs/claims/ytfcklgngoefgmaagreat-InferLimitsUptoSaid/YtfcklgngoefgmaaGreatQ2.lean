/-
  Parts of the proof, merged: SuOp9, SuOp10, SuOp11, SuOp12, SuCall, SuOp13, SuOp14, SuSim, SuFrame, SuFrame2, SuFrame3, SuDraw.
-/
import Derived.RangeFuncLeaves
import Derived.RangeFuncNested
import Derived.Test.YtfcklgngoefgmaaGreatQ1
set_option linter.unusedVariables false
set_option linter.unusedSimpArgs false
set_option linter.unusedSectionVars false
/-
 THE DATA MACHINE, part 14: memory written; maps read and written; parts of results.
-/
open Array renaming getElem?_eq_some_iff → zdq, getElem?_setIfInBounds_self_of_lt → ziq, getElem?_setIfInBounds_ne → zjq, getElem?_eq_getElem → zEq, getElem?_push → zHq, size_push → zXq, getElem?_eq_none → y1q, getElem?_modify → y4q, getElem?_toList → y6q, length_toList → yfq
open Bool renaming false_eq_true → z7q, and_eq_true → zaq, not_eq_true' → zPq, true_and → zVq, or_eq_true_iff → ycq, not_false → ydq, false_and → yeq, not_true → yiq, or_true → yoq, or_eq_true → ypq
open List renaming getElem?_eq_some_iff → z0q, getElem?_set_ne → z1q, getElem?_set_self → z2q, getD_eq_getElem?_getD → z3q, getElem?_append_left → z4q, getElem?_eq_getElem → z5q, getElem?_append_right → z6q, getElem?_eq_none → z8q, mem_append → zcq, flatMap_cons → zeq, getElem?_cons_zero → zgq, eq_nil_of_length_eq_zero → zhq, mem_of_getElem? → zkq, all_eq_true → zlq, getElem?_set_self' → zmq, mem_singleton → zoq, length_eq_one_iff → zpq, getElem?_cons_succ → zrq, mem_iff_getElem → ztq, set_comm → zvq, getElem?_map → zxq, length_set → zyq, length_cons → zzq, ext_getElem? → zDq, getElem?_take_of_lt → zFq, flatMap_append → zGq, mem_cons_self → zIq, append_assoc → zLq, getElem?_toArray → zMq, mem_append_right → zOq, mem_cons_of_mem → zRq, mem_append_left → zSq, length_take → zTq, length_map → zUq, append_nil → zWq, mem_flatMap → zZq, map_cons → y3q, length_nil → y5q, contains_eq_mem → y7q, length_pos_iff → yaq, map_congr_left → ybq, length_append → ygq, getElem?_drop → yhq, filter_cons → ylq, set_set → ynq
open Nat renaming mul_le_mul_right → z9q, le_refl → zbq, zero_add → zfq, add_mul → zqq, lt_or_ge → zuq, succ_mul → zAq, add_zero → zBq, succ_pos → zCq, le_of_eq → zJq, zero_mul → zKq, le_of_not_lt → zNq, add_assoc → zQq, sub_self → y0q, ne_of_lt → y2q, mul_pos → y8q, le_succ → y9q, lt_succ_self → ykq, min_eq_left → ymq
open Option renaming map_eq_some_iff → znq, getD_some → zsq, isSome_iff_exists → zwq, isNone_iff_eq_none → zYq, map_some → yjq
namespace Go.Su
set_option linter.defProp false
variable {c:Array Value}{T:TypeId}
def A6F(w:World){b o:Nat}{f:Nat×Nat}(h:w.heap[b]?=some (.cells c T f))(v:Value):
 (w.setCell ⟨b,o,none⟩ v).heap[b]?=some (.cells (c.setIfInBounds o v) T f)/\(∀b',b'≠b->(w.setCell ⟨b,o,none⟩ v).heap[b']?=w.heap[b']?)/\(w.setCell ⟨b,o,none⟩ v).heap.size=w.heap.size:=by
 have P6:b<w.heap.size:=(zdq.1 h).1;have hv:w.heap[b]=.cells c T f:=(zdq.1 h).2;refine⟨?_,λb' hb=>?_,by simp⟩
 ·unfold World.setCell;rw[zEq (by simpa using P6),Array.getElem_modify];simp[hv]
 ·simp[World.setCell,y4q,Ne.symm hb]
structure Zw(w w':World)(b o:Nat)(vs:List Value)(c:Array Value)(T:TypeId)(f:Nat×Nat):Prop where
 ex:∃c',w'.heap[b]?=some (.cells c' T f)/\c'.size=c.size/\∀j,c'[j]?=if o<=j/\j<o+vs.length then vs[j-o]? else c[j]?
 rest:∀b',b'≠b->w'.heap[b']?=w.heap[b']?
 size:w'.heap.size=w.heap.size
 out:Y9 w w'
def JX{P:Program}{b T:Nat}{f:Nat×Nat}(off:Nat):∀(vs:List Value)(c:Array Value)(i:Nat)(w:World),w.heap[b]?=some (.cells c T f)->off+i+vs.length<=c.size->(∀v∈vs,v.oneCell'=true)->
 (∀o,off+i<=o->o<off+i+vs.length->¬(f.1<=o/\o<f.2))->∃w',(storeCells ⟨b,off,none⟩ vs i).run P w=.ok () w'/\Zw w w' b (off+i) vs c T f
 |[],c,i,w,h,_,_,_=>⟨w,rfl,⟨c,h,rfl,λj=>by rw[A7 (by rintro⟨h1,h2⟩;simp at h2;omega)]⟩,λ_ _=>rfl,rfl,Y9.refl _⟩
 |v::vs,c,i,w,h,hn,ho,hf=>by
   simp only[zzq]at hn hf;have Gm:w.cell? ⟨b,off+i,none⟩=some (c[off+i]'(by omega)):=by rw[MM];unfold hc;rw[h];exact zEq (by omega)
   have hfr:w.frozen? ⟨b,off+i,none⟩=false:=by unfold World.frozen?;simp only[h];have:=hf (off+i) (zbq _) (by omega);simpa using this
   have h1:(store ((⟨b,off,none⟩:Addr).add i) v).run P w=.ok () (w.setCell ⟨b,off+i,none⟩ v):=by rw[Addr.add_lit,run_store P w _ v _ (ho v (by simp)),Gm];simp[hfr]
   obtain⟨s1,s2,s3⟩:=A6F w (o:=off+i) h v;obtain⟨w',r1,⟨c',e1,e2,e3⟩,e4,e5,e6⟩:=JX off vs _ (i+1) _ s1 (by simp;omega) (λu hu=>ho u (by simp[hu])) (λo h1 h2=>hf o (by omega) (by omega));refine⟨w',?_,⟨c',e1,by simpa using e2,λj=>?_⟩,λb' hb=>(e4 b' hb).trans (s2 b' hb),e5.trans s3,Y9.trans (b:=w.setCell ⟨b,off+i,none⟩ v) ⟨rfl,rfl,rfl⟩ e6⟩
   ·unfold storeCells;simp only[Sem.run_bind,h1,Result.andThen_ok];exact r1
   ·rw[e3 j,zzq];by_cases hj:j=off+i
    ·subst hj;rw[A7 (by omega),C8 (by omega),ziq (by omega)];simp
    ·rw[zjq (Ne.symm hj)];by_cases hc:off+(i+1)<=j/\j<off+(i+1)+vs.length
     ·rw[C8 hc,C8 (by omega),show j-(off+i)=(j-(off+(i+1)))+1 from by omega,zrq]
     ·rw[A7 hc,A7 (by omega)]
variable {P:Program}{t:TypeId}{off:Nat}{v:Value}
def Jn{z:Nat×Bool}(hz:tz P t=some z){w:World}{b T:Nat}{f:Nat×Nat}(h:w.heap[b]?=some (.cells c T f))(hs:v.cells.size=z.1)(hn:off+z.1<=c.size)(ho:∀u∈v.cells.toList,u.oneCell'=true)(hf:∀o,off<=o->o<off+z.1->¬(f.1<=o/\o<f.2)):∃w',(storeVar t ⟨b,off,none⟩ v).run P w=.ok () w'/\Zw w w' b off v.cells.toList c T f:=by obtain⟨w',r,s⟩:=JX (P:=P) off v.cells.toList c 0 w h (by simp;omega) ho (λo h1 h2=>hf o (by omega) (by simp at h2;omega));refine⟨w',?_,by simpa using s⟩;unfold storeVar;simp only[Sem.run_bind,NC hz,Result.andThen_ok,Sem.run_ite];rw[A7 (by omega)];exact r
variable {w':World}{vs:List Value}
def Zw.Pr{E:Env}{w:World}{b o:Nat}{f:Nat×Nat}(S:Zw w w' b o vs c T f){ch:Tag->Prop}(hb:w.heap[b]?=some (.cells c T f))(ht:∀j,o<=j->j<o+vs.length->ch (E.O b j)):
 Pr ch E w.heap E w'.heap:=by
 refine⟨zJq S.size.symm,λb' P_=>?_,λ_ _ _ _=>rfl,zbq _,λ_ _ _=>⟨rfl,rfl,rfl⟩,λ_ _=>rfl,Dp rfl⟩;by_cases Ut:b'=b
 ·subst Ut;rw[hb];obtain⟨c',e1,e2,e3⟩:=S.ex;refine⟨c',e1,e2,λj hj=>?_⟩;rw[e3 j,A7];rintro⟨c1,c2⟩;exact hj (ht j c1 c2)
 ·rw[S.rest b' Ut];exact V9.refl _ _
section
variable {X:Type}{C:BV}{R:O7}{o:Oper}{st:St}{k:St->Option X}{x:X}{E:Env}{a:Act}{w:World}{K:Act->World->Prop}{Q:Exit->Act->World->Prop}
def Zv.write{tg:Tag}{p q b:Nat}{cs xs:List (DV×F4)}(B:Zv E w.heap tg p q b cs)(hb:w.heap[b]?=some (.cells c T (0,0)))(S:Zw w w' b off vs c T (0,0))(hl:xs.length=vs.length)(J5:off+xs.length<=cs.length)(hx:∀(j:Nat) r v,xs[j]?=some r->vs[j]?=some v->EA E w.heap (.sp p q (off+j)) r v)(hs:AL E.S w.heap E.S w'.heap)(hP:Pr (λt=>t=tg) E w.heap E w'.heap)(jy:∀k' a' b',tg ≠ .sp k' a' b'):Zv E w'.heap tg p q b (Et cs off xs):=by
 obtain⟨c0,T0,h1,h2,h3,h4⟩:=B;rw[hb]at h1;simp only[D8,Obj.cells.injEq]at h1;obtain⟨rfl,rfl,-⟩:=h1;obtain⟨c',e1,e2,e3⟩:=S.ex;have mono:∀{tg':Tag}{r:DV×F4}{v:Value},(∃x y z,tg'=.sp x y z)->EA E w.heap tg' r v->EA E w'.heap tg' r v:=by rintro tg' r v ⟨x1,y1,z1,rfl⟩ ⟨a1,a2,a3,a4⟩;exact⟨a1,a2,a3,a4.mono hP hs (λ_=>λh=>jy _ _ _ h.symm) λs o' hm=>by rw[hm]at a3;simp[Z4]at a3⟩
 refine⟨c',T,e1,by rw[e2,h2,Mg J5],λo'=>?_,λj r v hr hv=>?_⟩
 ·rcases h3 o' with h5 | h5
  ·exact .inl h5
  ·exact .inr (by omega)
 ·rw[QK J5]at hr;rw[e3 j]at hv;by_cases hc:off<=j/\j<off+xs.length
  ·rw[C8 hc]at hr;rw[C8 (by omega)]at hv;have:=hx (j-off) r v hr hv;rw[show off+(j-off)=j from by omega]at this;exact mono ⟨_,_,_,rfl⟩ this
  ·rw[A7 hc]at hr;rw[A7 (by omega)]at hv;exact mono ⟨_,_,_,rfl⟩ (h4 j r v hr hv)
def K9.A3v{s:Nat}{cs xs:List (DV×F4)}(Rl:K9 E st a w.heap)(hbx:st.bx.getD s none=some cs)(hb:w.heap[E.blk s]?=some (.cells c T (0,0)))(S:Zw w w' (E.blk s) off vs c T (0,0))(hl:xs.length=vs.length)(J5:off+xs.length<=cs.length)(hx:∀(j:Nat) r v,xs[j]?=some r->vs[j]?=some v->EA E w.heap (.sp 1 s (off+j)) r v):
 K9 E { st with bx:=st.bx.set s (some (Et cs off xs)) } a w'.heap/\Pr (λt=>t=.Sw s) E w.heap E w'.heap:=by
 have B:=Rl.j6 s cs hbx;have Cw:c.size=cs.length:=by obtain⟨c0,T0,h1,h2,-⟩:=B;rw[hb]at h1;simp only[D8,Obj.cells.injEq]at h1;rw[h1.1];exact h2
 have hP:Pr (λt=>t=.Sw s) E w.heap E w'.heap:=S.Pr hb λj h1 h2=>by
  obtain⟨c1,T1,g1,g2,g3,-⟩:=B;rw[hb]at g1;simp only[D8,Obj.cells.injEq]at g1;rcases g3 j with h6 | h6
  ·exact h6
  ·rw[<- g1.1]at h6;omega
 have hs:=hP.Q6 (by simp) Rl.fresh;refine⟨⟨Rl.size,Rl.Aa,by simpa using Rl.CU,Rl.n,λt v hv=>?_,λs' cs' DL=>?_,λi ob hi=>(Rl.U6 i ob hi).mono hP hs (CE Rl hi) (by simp) (by simp),λb o' P_=>Rl.fresh b o' (by rw[<- S.size];exact P_)⟩,hP⟩
 ·have h0:=Rl.Bf t v hv;cases hm:(st.get t).2
  case loc s' o'=>show RR E w'.heap 0 t (st.get t).1 (st.get t).2 v;rw[hm]at h0 ⊢;exact h0
  all_goals
   show RR E w'.heap 0 t (st.get t).1 (st.get t).2 v;exact h0.mono hP hs (by simp) (by rw[hm];simp)
 ·have yL:s<st.bx.length:=by
   rcases zuq s st.bx.length with h1 | h1
   ·exact h1
   ·simp[z3q,z8q h1]at hbx
  by_cases bD:s=s'
  ·subst bD;simp only[z3q,z2q yL,zsq,D8]at DL;subst DL;exact B.write hb S hl J5 hx hs hP (by simp)
  ·simp only[z3q,z1q bD]at DL;exact(Rl.j6 s' cs' (by simpa[z3q]using DL)).mono hP hs (by simp;exact λh=>bD h.symm) (by simp)
def K9.A3w{i:Nat}{cs xs:List (DV×F4)}(Rl:K9 E st a w.heap)(hsg:st.sg[i]?=some (.box cs))(hb:w.heap[E.obj i]?=some (.cells c T (0,0)))(S:Zw w w' (E.obj i) off vs c T (0,0))(hl:xs.length=vs.length)(J5:off+xs.length<=cs.length)(hx:∀(j:Nat) r v,xs[j]?=some r->vs[j]?=some v->EA E w.heap (.sp 2 i (off+j)) r v):
 K9 E { st with sg:=st.sg.set i (.box (Et cs off xs)) } a w'.heap/\Pr (λt=>t=.obj i) E w.heap E w'.heap:=by
 have B:=Rl.U6 i _ hsg;simp only[RO]at B;have Cw:c.size=cs.length:=by obtain⟨c0,T0,h1,h2,-⟩:=B;rw[hb]at h1;simp only[D8,Obj.cells.injEq]at h1;rw[h1.1];exact h2
 have hP:Pr (λt=>t=.obj i) E w.heap E w'.heap:=S.Pr hb λj h1 h2=>by
  obtain⟨c1,T1,g1,g2,g3,-⟩:=B;rw[hb]at g1;simp only[D8,Obj.cells.injEq]at g1;rcases g3 j with h6 | h6
  ·exact h6
  ·rw[<- g1.1]at h6;omega
 have hs:=hP.Q6 (by simp) Rl.fresh;have IW:=(z0q.1 hsg).1;refine⟨⟨Rl.size,Rl.Aa,Rl.CU,by simpa using Rl.n,λt v hv=>(Rl.Bf t v hv).mono hP hs (by simp) (by simp),λs' cs' DL=>(Rl.j6 s' cs' DL).mono hP hs (by simp) (by simp),λi' ob hi=>?_,λb o' P_=>Rl.fresh b o' (by rw[<- S.size];exact P_)⟩,hP⟩;by_cases CY:i=i'
 ·subst CY;simp only[z2q IW,D8]at hi;subst hi;exact B.write hb S hl J5 hx hs hP (by simp)
 ·simp only[z1q CY]at hi;exact(Rl.U6 i' ob hi).mono hP hs (CE Rl hi) (by simp;exact λh=>CY h.symm) (by simp)
def Cb(y:Operand)(p s off:Nat)(T:Tag):Tag :=
 match y,T with
 |.tmp t,.sp 0 t' 0=>if t=t' then .sp p s off else .sp 0 t' 0
 |_,T=>T
variable {y:Operand}
theorem GV{p s:Nat}{T:Tag}(h:∀t b,y=.tmp t->T ≠ .sp 0 t b):Cb y p s off T=T:=by
 unfold Cb;split
 ·split
  ·rename_i hx;subst hx;exact absurd rfl (h _ _ rfl)
  ·rfl
 ·rfl
def A8e{r:DV×F4}(hs:src P t st y=some r){p s:Nat}{c:DV×F4}(hm:c.2=r.2)(hc:EA E w.heap (.sp 0 (eZ y) 0) c (a.eval y)):
 EA (E.re (Cb y p s off)) w.heap (.sp p s off) c (a.eval y):=by
 obtain⟨a1,a2,a3,a4⟩:=hc;refine⟨a1,a2,a3,?_⟩;by_cases hy:∃i,y=.tmp i
 ·obtain⟨i,rfl⟩:=hy;exact a4.re (GV (by simp)) (by simp[Cb,eZ])
 ·have Yp:c.2.owns=false:=by
   rw[hm];cases y with
   |tmp i=>exact absurd ⟨i,rfl⟩ hy
   |const v=>exact B2L hs
   |func f=>simp only[src,D8]at hs;subst hs;rfl
   |global g=>simp[src]at hs
  have a5:L9 (E.re (Cb y p s off)) w.heap .other c.1 c.2 (a.eval y):=(a4.tag (tg':=.other) Yp).re (GV (by simp)) (GV (by simp));exact a5.tag Yp
def JO{v:Operand}{b:Nat}(F7:o.op=.store t y v)(he:a.eval y=.pointer (some ⟨b,off,none⟩))(h:(storeVar t ⟨b,off,none⟩ (a.eval v)).run C.P w=.ok () w'):
 (execOp a.eval o).run C.P w=.ok .skip w':=by
 simp only[execOp,F7];refine B4v ?_;simp only[Instr.storeAt,he,Instr.sureAddr,Sem.run_bind,Sem.run_pure,Result.andThen_ok,h]
def cells_one(h:v.oneCell'=true):v.cells=#[v]:=by cases v<;>first | rfl | (simp[Value.oneCell']at h)
def A29{α : Type}{l:List α}{o:Nat}{y : α}(h:o<l.length):Et l o [y]=l.set o y:=by
 apply zDq;intro j;rw[QK (by simp;omega)];by_cases hj:o=j
 ·subst hj;rw[C8 (by simp),z2q h];simp
 ·rw[A7 (by simp;omega),z1q hj]
def L9.dat{E:Env}{h:Heap}{tg:Tag}{d:DV}{m:F4}(hm:K8 m=true)(R:L9 E h tg d m v):RV E.S h d v:=by
 cases m<;>simp only[K8]at hm<;>simp only[L9]at R<;>try contradiction
 ·exact R
 ·exact R.1
 ·exact R.1
 ·obtain⟨rfl,rfl⟩:=R;simp only[RV]
def A3u{z:Nat×Bool}(hz:tz P t=some z)(Rl:K9 E st a w.heap){i n sz idx:Nat}{ds:List DV}{d e:DV}(hp:st.sg[i]?=some (.P7 n sz ds))(hd:ds[idx]?=some d)(QE:v.cells.size=z.1){xs:List (DV×F4)}(hl:xs.length=v.cells.size){tg:Nat->Tag}(Am:∀(j:Nat) r v',xs[j]?=some r->v.cells.toList[j]?=some v'->M8 r.1=true/\v'.oneCell'=true/\L9 E w.heap (tg j) r.1 r.2 v')(he:KV sz off d xs=some e):
 ∃w',(storeVar t ⟨E.obj i,E.base i+idx * sz+off,none⟩ v).run P w=.ok () w'/\K9 E { st with sg:=st.sg.set i (.P7 n sz (ds.set idx e)) } a w'.heap/\Pr (λt=>t=.obj i) E w.heap E w'.heap/\Y9 w w':=by
 obtain⟨WU,hRC⟩:off+xs.length<=sz/\∀us:List Value,us.length=sz->RC E.S w.heap d us->RC E.S w.heap e (Et us off v.cells.toList):=by
  have TS:v.cells.toList.length=xs.length:=by simp[hl]
  unfold KV at he;split at he
  ·rename_i cs;obtain⟨⟨tH,GH,WU⟩,he⟩:=M3 he;simp only[D8]at he;subst he;refine⟨WU,λus u1 u3=>?_⟩;have Uw:off+v.cells.toList.length<=us.length:=by omega
   simp only[RC]at u3 ⊢;obtain⟨k1,k2⟩:=CQ.1 u3;have hpc:off+(xs.map (·.1)).length<=cs.length:=by simp;omega
   refine CQ.2 ⟨by rw[Mg Uw,Mg hpc,k1],λy q u hq hu=>?_⟩;rw[QK Uw]at hu;rw[QK hpc]at hq;by_cases hy:off<=y/\y<off+v.cells.toList.length
   ·rw[C8 hy]at hu;rw[C8 (by simp only[zUq];omega),zxq,znq]at hq;obtain⟨r,hr,rfl⟩:=hq;obtain⟨g1,g2,g3⟩:=Am _ r u hr hu;have g4:=zlq.1 tH r (zkq hr);rw[zaq]at g4;exact⟨g1,NG g1 g2 (g3.dat g4.1)⟩
   ·rw[A7 hy]at hu;rw[A7 (by simp only[zUq];omega)]at hq;exact k2 y q u hq hu
  ·split at he
   ·rename_i c;obtain⟨⟨hd0,hc,CO,ho⟩,he⟩:=M3 he;simp only[D8]at he;subst he;subst CO;subst ho;refine⟨by simp,λus u1 u3=>?_⟩;rw[zaq]at hc;simp only[zzq,y5q]at TS;obtain⟨u,hu⟩:=zpq.1 TS;have e0:Et us 0 v.cells.toList=[u]:=by rw[hu];simp[Et,List.drop_of_length_le (show us.length<=1 by omega)]
    rw[e0];obtain⟨g1,g2,g3⟩:=Am 0 c u rfl (by rw[hu];rfl);exact NG g1 g2 (g3.dat hc.1)
   ·cases he
 have B:=Rl.U6 i _ hp;simp only[RO]at B;obtain⟨bv,b0,b3,B⟩:=B;have hne:ds≠[]:=by intro h;rw[h]at hd;simp at hd
 obtain⟨c,TT,f,b1,b2,b2',b4,b5⟩:=B.resolve_left λh=>hne h.1;have hidx:idx<ds.length:=(z0q.1 hd).1;have BQ:idx * sz+sz<=ds.length * sz:=by rw[<- zAq];exact z9q _ hidx
 have TS:v.cells.toList.length=xs.length:=by simp[hl]
 have Gm:∀u∈v.cells.toList,u.oneCell'=true:=by intro q hq;obtain⟨j,hj,tL⟩:=ztq.1 hq;exact(Am j _ q (z5q (by omega)) (by rw[z5q hj,tL])).2.1
 obtain⟨w',hw,S⟩:=Jn (P:=P) hz (off:=E.base i+idx * sz+off) b1 QE (by omega) Gm (λo h1 h2=>(b4 o (by omega) (by omega)).2);have P1:Pr (λt=>t=.obj i) E w.heap E w'.heap:=S.Pr b1 λj h1 h2=>(b4 j (by omega) (by simp at h2;omega)).1;have hs:=P1.Q6 (by simp) Rl.fresh;have IW:=(z0q.1 hp).1;refine⟨w',hw,?_,P1,S.out⟩;refine⟨Rl.size,Rl.Aa,Rl.CU,by simpa using Rl.n,λt v hv=>(Rl.Bf t v hv).mono P1 hs (by simp) (by simp),λs' cs' DL=>(Rl.j6 s' cs' DL).mono P1 hs (by simp) (by simp),λi' ob hi=>?_,λb o' P_=>Rl.fresh b o' (by rw[<- S.size];exact P_)⟩;by_cases CY:i=i'
 ·subst CY;simp only[z2q IW,D8]at hi;subst hi;simp only[RO];obtain⟨c',Ie,e2',e3'⟩:=S.ex;refine⟨bv,b0,b3,.inr ⟨c',TT,f,Ie,by rw[zyq];exact b2,by rw[e2'];exact b2',b4,λj d' Eg=>?_⟩⟩;by_cases hj:idx=j
  ·subst hj;rw[z2q hidx]at Eg;simp only[D8]at Eg;subst Eg;obtain⟨us,u1,u2,u3⟩:=b5 idx _ hd;have Uw:off+v.cells.toList.length<=us.length:=by omega
   refine⟨Et us off v.cells.toList,by rw[Mg Uw,u1],λy q hq=>?_,?_⟩
   ·rw[QK Uw]at hq;by_cases hy:off<=y/\y<off+v.cells.toList.length
    ·rw[C8 hy]at hq;rw[e3',C8 (by omega),<- hq];congr 1;omega
    ·rw[A7 hy]at hq;rw[e3',A7 (by omega),u2 y q hq]
   ·exact(hRC us u1 u3).mono hs
  ·rw[z1q hj]at Eg;obtain⟨us,u1,u2,u3⟩:=b5 j d' Eg;refine⟨us,u1,λy q hq=>?_,u3.mono hs⟩;have hy:y<sz:=by have:=(z0q.1 hq).1;omega
   rw[e3',A7,u2 y q hq];rintro⟨c1,c2⟩;have:=A01 (sz:=sz) (i:=idx) (i':=j) (j:=j * sz+y-idx * sz) (j':=y) (by omega) hy (by omega);omega
 ·simp only[z1q CY]at hi;exact(Rl.U6 i' ob hi).mono P1 hs (CE Rl hi) (by simp;exact λh=>CY h.symm) (by simp)
def B18{v:Operand}(F7:o.op=.store t y v)(H:DX C o t y v st k=some x)(Rl:K9 E st a w.heap)(T:Then E w k x K):Gp C.P o a w K:=by
 unfold DX at H;obtain⟨r,h1,H⟩:=D5 H;obtain⟨u,h2,H⟩:=D5 H;obtain⟨z,hz,H⟩:=D5 H;have e1:=Rl.src h1;have e2:=Rl.src h2;have HZ:z.2=false->z.1=1:=by obtain⟨i,d,-,-,-,h4⟩:=IU hz;exact h4
 have tT:∀{E':Env}{h':Heap}(t0:Nat),RR E' h' 0 t0 (.J9 []) .val undef:=by intro E' h' t0;simp only[RR,L9,RV];exact⟨#[],rfl,by simp[Re]⟩
 split at H
 ·-- a private variable
  rename_i s off hm;rw[hm]at e1;simp only[RR,L9]at e1;obtain⟨cs,hb,H⟩:=D5 H;have B:=Rl.j6 s cs hb;obtain⟨c,TT,GZ,Cw,hO,-⟩:=B;split at H
  ·obtain⟨xs,H,hl,Am,Yp⟩:=wZ hz e2 H;obtain⟨J5,H⟩:=M3 H;obtain⟨w',hw,S⟩:=Jn (P:=C.P) hz (off:=off) GZ (v:=a.eval v) (by have:=Am.1;simp at this;omega) (by omega) (λu hu=>by obtain⟨j,hj,tL⟩:=ztq.1 hu;have xJ:=Am.1;exact(Am.2 j _ u (z5q (by omega)) (by rw[z5q hj,tL])).2.1) (λo _ _=>by simp)
   have R0:=Rl.release (x:=v) (f:=Rf v s off) λT hT=>Pf hT;have K_:(st.release v).bx=st.bx:=by cases v<;>rfl
   obtain⟨R1,P1⟩:=R0.A3v (by rw[K_];exact hb) GZ S Am.1 J5 λj r' v' hr hv=>(Am.2 j r' v' hr hv).box λhy=>Yp (A2Z h2 hy) r' (zkq hr)
   rw[K_]at R1;have R6:({ st with bx:=st.bx.set s (some (Et cs off xs)) }.release v)={ st.release v with bx:=st.bx.set s (some (Et cs off xs)) }:=by cases v<;>rfl
   rw[R6]at H;have P0:Pr P5 E w.heap (E.re (Rf v s off)) w.heap:=Pr.re λT hT=>Pf λt b _ he=>hT (by rw[he];simp[P5]);exact Nq (JO F7 e1.2 hw) (T (E.re (Rf v s off)) _ _ w' H (R1.put λt0 _=>tT t0) (P0.trans (P1.l7 (by rintro T rfl;simp[P5]))) S.out)
  ·rename_i tV;have nA:=HZ (by simpa using tV);obtain⟨cc,H,hmm,Am⟩:=XZ e2 H;obtain⟨P6,H⟩:=M3 H;have Xu:=cells_one Am.2.1;obtain⟨w',hw,S⟩:=Jn (P:=C.P) hz (off:=off) GZ (v:=a.eval v) (by rw[Xu,nA];rfl) (by omega) (λu hu=>by rw[Xu]at hu;simp at hu;subst hu;exact Am.2.1) (λo _ _=>by simp)
   rw[Xu]at S;have R0:=Rl.release (x:=v) (f:=Cb v 1 s off) λT hT=>GV hT;have Gm:=A8e h2 (p:=1) (s:=s) (off:=off) hmm Am;have K_:(st.release v).bx=st.bx:=by cases v<;>rfl
   obtain⟨R1,P1⟩:=R0.A3v (xs:=[cc]) (by rw[K_];exact hb) GZ S rfl (by simp;omega) λj r' v' hr hv=>by
    cases j with
    |succ j=>simp at hr
    |zero=>
      have AY:r'=cc:=by simpa using hr.symm
      have TU:v'=a.eval v:=by simpa using hv.symm
      rw[AY,TU];exact Gm
   rw[A29 P6,K_]at R1;have R6:({ st with bx:=st.bx.set s (some (cs.set off cc)) }.release v)={ st.release v with bx:=st.bx.set s (some (cs.set off cc)) }:=by cases v<;>rfl
   rw[R6]at H;have P0:Pr P5 E w.heap (E.re (Cb v 1 s off)) w.heap:=Pr.re λT hT=>GV λt b _ he=>hT (by rw[he];simp[P5]);exact Nq (JO F7 e1.2 hw) (T (E.re (Cb v 1 s off)) _ _ w' H (R1.put λt0 _=>tT t0) (P0.trans (P1.l7 (by rintro T rfl;simp[P5]))) S.out)
 ·-- a shared variable
  rename_i i off hm;rw[hm]at e1;simp only[RR,L9]at e1;obtain⟨cs,hb,H⟩:=D5 H;have hb:=ZY hb;have B:=Rl.U6 i _ hb;simp only[RO]at B;obtain⟨c,TT,GZ,Cw,hO,-⟩:=B;split at H
  ·obtain⟨xs,H,hl,Am⟩:=ZE hz e2 H;obtain⟨J5,H⟩:=M3 H;obtain⟨w',hw,S⟩:=Jn (P:=C.P) hz (off:=off) GZ (v:=a.eval v) (by have:=Am.1;simp at this;omega) (by omega) (λu hu=>by obtain⟨j,hj,tL⟩:=ztq.1 hu;have xJ:=Am.1;obtain⟨⟨-,q,-,-⟩,-⟩:=Am.2 j _ u (z5q (by omega)) (by rw[z5q hj,tL]);exact q) (λo _ _=>by simp)
   obtain⟨R1,P1⟩:=Rl.A3w hb GZ S Am.1 J5 λj r' v' hr hv=>let⟨q1,q2⟩:=Am.2 j r' v' hr hv;⟨q1.1,q1.2.1,q1.2.2.1,q1.2.2.2.tag (Qq q1.2.2.1 q2)⟩
   exact Nq (JO F7 e1.2 hw) (T E _ _ w' H (R1.put λt0 _=>tT t0) (P1.l7 (by rintro T rfl;simp[P5])) S.out)
  ·rename_i tV;have nA:=HZ (by simpa using tV);obtain⟨cc,H,hmm,Am⟩:=XZ e2 H;obtain⟨c0,tJ,H⟩:=D5 H;have P6:off<cs.length:=(z0q.1 tJ).1;have Xu:=cells_one Am.2.1;obtain⟨w',hw,S⟩:=Jn (P:=C.P) hz (off:=off) GZ (v:=a.eval v) (by rw[Xu,nA];rfl) (by omega) (λu hu=>by rw[Xu]at hu;simp at hu;subst hu;exact Am.2.1) (λo _ _=>by simp)
   rw[Xu]at S;have R0:=Rl.release (x:=v) (f:=Cb v 2 i off) λT hT=>GV hT;have Gm:=A8e h2 (p:=2) (s:=i) (off:=off) hmm Am;have K_:(st.release v).sg=st.sg:=by cases v<;>rfl
   obtain⟨R1,P1⟩:=R0.A3w (xs:=[cc]) (by rw[K_];exact hb) GZ S rfl (by simp;omega) λj r' v' hr hv=>by
    cases j with
    |succ j=>simp at hr
    |zero=>
      have AY:r'=cc:=by simpa using hr.symm
      have TU:v'=a.eval v:=by simpa using hv.symm
      rw[AY,TU];exact Gm
   rw[A29 P6,K_]at R1;have R6:({ st with sg:=st.sg.set i (.box (cs.set off cc)) }.release v)={ st.release v with sg:=st.sg.set i (.box (cs.set off cc)) }:=by cases v<;>rfl
   rw[R6]at H;have P0:Pr P5 E w.heap (E.re (Cb v 2 i off)) w.heap:=Pr.re λT hT=>GV λt b _ he=>hT (by rw[he];simp[P5]);exact Nq (JO F7 e1.2 hw) (T (E.re (Cb v 2 i off)) _ _ w' H (R1.put λt0 _=>tT t0) (P0.trans (P1.l7 (by rintro T rfl;simp[P5]))) S.out)
 ·-- an element of a writable array
  rename_i i sz idx off hm;rw[hm]at e1;simp only[RR,L9]at e1;obtain⟨p,hp,H⟩:=D5 H;obtain⟨d,hd,H⟩:=D5 H;obtain⟨H,QE,hRC⟩:=lL HZ e2 H;obtain⟨Cw,H⟩:=H6 H;obtain⟨⟨hzz,WU⟩,H9⟩:=M3 H;clear H;subst WU;have hp:=nU hp;have Cw:p.1=sz:=by simpa using Cw
  rw[Cw]at hp;have B:=Rl.U6 i _ hp;simp only[RO]at B;have hne:p.2≠[]:=by intro h;rw[h]at hd;simp at hd
  obtain⟨c,TT,b1,b2,b3,b4,b5⟩:=B hne;have hidx:idx<p.2.length:=(z0q.1 hd).1;have BQ:idx * sz+sz<=p.2.length * sz:=by rw[<- zAq];exact z9q _ hidx
  have Gm:∀u∈(a.eval v).cells.toList,u.oneCell'=true:=by intro q hq;obtain⟨j,hj,tL⟩:=ztq.1 hq;obtain⟨q1,q2⟩:=OH hRC (j:=j) (v:=q) (by rw[z5q hj,tL]);exact Jc q1 q2
  obtain⟨w',hw,S⟩:=Jn (P:=C.P) hz (off:=E.base i+idx * sz) b1 (v:=a.eval v) QE (by omega) Gm (λo _ _=>by simp);have P1:Pr (λt=>t=.obj i) E w.heap E w'.heap:=S.Pr b1 λj h1 h2=>b4 j (by omega) (by simp at h2;omega);have hs:=P1.Q6 (by simp) Rl.fresh;have IW:=(z0q.1 hp).1;have R1:K9 E { st with sg:=st.sg.set i (.arr sz (p.2.set idx u.1)) } a w'.heap:=by
   refine⟨Rl.size,Rl.Aa,Rl.CU,by simpa using Rl.n,λt v hv=>(Rl.Bf t v hv).mono P1 hs (by simp) (by simp),λs' cs' DL=>(Rl.j6 s' cs' DL).mono P1 hs (by simp) (by simp),λi' ob hi=>?_,λb o' P_=>Rl.fresh b o' (by rw[<- S.size];exact P_)⟩;by_cases CY:i=i'
   ·subst CY;simp only[z2q IW,D8]at hi;subst hi;simp only[RO];intro _;obtain⟨c',Ie,e2',e3'⟩:=S.ex;refine⟨c',TT,Ie,by rw[zyq,e2'];exact b2,b3,by rw[zyq];exact b4,λj d' Eg=>?_⟩;by_cases hj:idx=j
    ·subst hj;rw[z2q hidx]at Eg;simp only[D8]at Eg;subst Eg;refine⟨(a.eval v).cells.toList,by simp;omega,λy q hq=>?_,hRC.mono hs⟩;have hy:y<sz:=by have:=(z0q.1 hq).1;simp at this;omega
     rw[e3',C8 (by simp;omega),<- hq];congr 1;omega
    ·rw[z1q hj]at Eg;obtain⟨us,u1,u2,u3⟩:=b5 j d' Eg;refine⟨us,u1,λy q hq=>?_,u3.mono hs⟩;have hy:y<sz:=by have:=(z0q.1 hq).1;omega
     rw[e3',A7,u2 y q hq];rintro⟨c1,c2⟩;simp at c2;exact hj (A01 (sz:=sz) (j:=j * sz+y-idx * sz) (j':=y) (by omega) hy (by omega))
   ·simp only[z1q CY]at hi;exact(Rl.U6 i' ob hi).mono P1 hs (CE Rl hi) (by simp;exact λh=>CY h.symm) (by simp)
  exact Nq (JO F7 (by rw[e1.2];rfl) hw) (T E _ _ w' H9 (R1.put λt0 _=>tT t0) (P1.l7 (by rintro T rfl;simp[P5])) S.out)
 ·-- an open element
  rename_i i sz idx hm;rw[hm]at e1;simp only[RR,L9]at e1;obtain⟨q,hq,H⟩:=D5 H;obtain⟨H,QE,hRC⟩:=lL HZ e2 H;obtain⟨Cw,H⟩:=H6 H;obtain⟨ob1,hx,H9⟩:=D5 H;clear H;simp only[zaq,beq_iff_eq]at Cw;obtain⟨CO,hs2⟩:=Cw;obtain⟨sz',pre,ds⟩:=q;simp only at CO;subst CO;have hq:=nV hq;simp only[Zl]at hx;obtain⟨⟨Mx,tK⟩,hx⟩:=M3 hx;simp only[D8]at hx;subst hx;have B:=Rl.U6 i _ hq;simp only[RO]at B;obtain⟨c,TT,f,b1,b2,b2',b3,b4,b5,b6⟩:=B;have A9F:pre.length * sz'<=idx * sz':=z9q _ Mx;have BQ:idx * sz'+sz'<=(pre.length+ds.length) * sz':=by rw[<- zAq];exact z9q _ (by omega)
  have Gm:∀u∈(a.eval v).cells.toList,u.oneCell'=true:=by intro q hq;obtain⟨j,hj,tL⟩:=ztq.1 hq;obtain⟨q1,q2⟩:=OH hRC (j:=j) (v:=q) (by rw[z5q hj,tL]);exact Jc q1 q2
  obtain⟨w',hw,S⟩:=Jn (P:=C.P) hz (off:=E.base i+idx * sz') b1 (v:=a.eval v) QE (by omega) Gm (λo h1 h2=>(b4 o (by omega) (by omega)).2);have P1:Pr (λt=>t=.obj i) E w.heap E w'.heap:=S.Pr b1 λj h1 h2=>(b4 j (by omega) (by simp at h2;omega)).1;have hs:=P1.Q6 (by simp) Rl.fresh;have IW:=(z0q.1 hq).1;have R1:K9 E { st with sg:=st.sg.set i (.opn sz' pre (ds.set (idx-pre.length) u.1)) } a w'.heap:=by
   refine⟨Rl.size,Rl.Aa,Rl.CU,by simpa using Rl.n,λt v hv=>(Rl.Bf t v hv).mono P1 hs (by simp) (by simp),λs' cs' DL=>(Rl.j6 s' cs' DL).mono P1 hs (by simp) (by simp),λi' ob hi=>?_,λb o' P_=>Rl.fresh b o' (by rw[<- S.size];exact P_)⟩;by_cases CY:i=i'
   ·subst CY;simp only[z2q IW,D8]at hi;subst hi;simp only[RO];obtain⟨c',Ie,e2',e3'⟩:=S.ex;refine⟨c',TT,f,Ie,by rw[zyq];exact b2,by rw[e2'];exact b2',b3,b4,λj d' Eg=>(b5 j d' Eg).mono hs,λj d' Eg=>?_⟩;by_cases hj:idx-pre.length=j
    ·subst hj;rw[z2q tK]at Eg;simp only[D8]at Eg;subst Eg;have e4:pre.length+(idx-pre.length)=idx:=by omega
     refine⟨(a.eval v).cells.toList,by simp;omega,λy q hq=>?_,hRC.mono hs⟩;have hy:y<sz':=by have:=(z0q.1 hq).1;simp at this;omega
     rw[e4,e3',C8 (by simp;omega),<- hq];congr 1;omega
    ·rw[z1q hj]at Eg;obtain⟨us,u1,u2,u3⟩:=b6 j d' Eg;refine⟨us,u1,λy q hq=>?_,u3.mono hs⟩;have hy:y<sz':=by have:=(z0q.1 hq).1;omega
     rw[e3',A7,u2 y q hq];rintro⟨c1,c2⟩;simp at c2;have:=A01 (sz:=sz') (i:=idx) (i':=pre.length+j) (j:=(pre.length+j) * sz'+y-idx * sz') (j':=y) (by omega) hy (by omega);omega
   ·simp only[z1q CY]at hi;exact(Rl.U6 i' ob hi).mono P1 hs (CE Rl hi) (by simp;exact λh=>CY h.symm) (by simp)
  exact Nq (JO F7 (by rw[e1.2]) hw) (T E _ _ w' H9 (R1.put λt0 _=>tT t0) (P1.l7 (by rintro T rfl;simp[P5])) S.out)
 ·-- an element of a vector
  rename_i i n sz idx off hm;rw[hm]at e1;simp only[RR,L9]at e1;obtain⟨p,hp,H⟩:=D5 H;obtain⟨d,hd,H⟩:=D5 H;obtain⟨Cw,H⟩:=H6 H;have hp:=Za hp;have Cw:p.1=sz:=by simpa using Cw
  rw[Cw]at hp;obtain⟨-,-,-,eb,ep,ev,ex⟩:=e1;have B:=Rl.U6 i _ hp;simp only[RO]at B;obtain⟨rfl,rfl⟩:=ex B.1;split at H
  ·obtain⟨xs,H,hl,Am⟩:=ZE hz e2 H;obtain⟨e,he,H9⟩:=D5 H;obtain⟨w',hw,R1,P1,ho⟩:=A3u (P:=C.P) hz Rl hp hd (v:=a.eval v) (by have:=Am.1;simp at this;omega) (xs:=xs) (by have:=Am.1;simpa using this) (λj r' v' hr hv=>let⟨q1,q2⟩:=Am.2 j r' v' hr hv;⟨q1.1,q1.2.1,q1.2.2.2⟩) he;exact Nq (JO F7 ev hw) (T E _ _ w' H9 (R1.put λt0 _=>tT t0) (P1.l7 (by rintro T rfl;simp[P5])) ho)
  ·rename_i tV;have nA:=HZ (by simpa using tV);obtain⟨cc,H,hmm,Am⟩:=XZ e2 H;obtain⟨e,he,H9⟩:=D5 H;have Xu:=cells_one Am.2.1;obtain⟨w',hw,R1,P1,ho⟩:=A3u (P:=C.P) hz Rl hp hd (v:=a.eval v) (by rw[Xu,nA];rfl) (xs:=[cc]) (by rw[Xu];rfl) (λj r' v' hr hv=>by
    rw[Xu]at hv;cases j with
    |succ j=>simp at hr
    |zero=>
      have AY:r'=cc:=by simpa using hr.symm
      have TU:v'=a.eval v:=by simpa using hv.symm
      rw[AY,TU];exact⟨Am.1,Am.2.1,Am.2.2.2⟩) he
   exact Nq (JO F7 ev hw) (T E _ _ w' H9 (R1.put λt0 _=>tT t0) (P1.l7 (by rintro T rfl;simp[P5])) ho)
 ·simp at H
end
end Go.Su

/-
 THE DATA MACHINE, part 15: maps read and written; parts of results.
-/
namespace Go.Su
set_option linter.defProp false
variable {P:Program}{t:TypeId}
def t_{q:Bool×TypeId}(h:mapKeys P t=some q):∃kt,P.underlying t=some (.map kt q.2)/\((q.1=false/\P.underlying kt=some (.int .i64))\/(q.1=true/\P.underlying kt=some .string)):=by
 unfold mapKeys at h;split at h
 ·rename_i kt et hu;split at h<;>simp only[D8,reduceCtorEq]at h<;>subst h
  ·exact⟨kt,hu,.inl ⟨rfl,‹_›⟩⟩
  ·exact⟨kt,hu,.inr ⟨rfl,‹_›⟩⟩
 ·simp at h
def B2H(a b:ByteArray):(a.toList==b.toList)=(a==b):=(beq_toListBytes a b).symm
variable {kd:TypeDesc}
def A7O{S:AU}{h:Heap}{ks:Bool}(hk:(ks=false/\kd=.int .i64)\/(ks=true/\kd=.string)){d e:DV}{v u:Value}(hd:AB ks d=true)(he:AB ks e=true)(rv:RV S h d v)(ru:RV S h e u):
 Instr.sameNow kd v u=some (FH d e)/\(FH d e=true->v=u/\d=e):=by
 rcases hk with⟨rfl,rfl⟩ | ⟨rfl,rfl⟩
 ·cases d<;>simp only[AB,z7q,ydq,zVq,beq_iff_eq]at hd;cases e<;>simp only[AB,z7q,ydq,zVq,beq_iff_eq]at he;rw[CL]at rv ru;subst rv ru hd he;refine⟨by simp[Instr.sameNow,FH],λhq=>?_⟩;simp only[FH,beq_iff_eq]at hq;subst hq;exact⟨rfl,rfl⟩
 ·cases d<;>simp only[AB,z7q,yiq,yeq]at hd;cases e<;>simp only[AB,z7q,yiq,yeq]at he;rw[XX]at rv ru;subst rv ru;rename_i p q;refine⟨?_,λhq=>?_⟩
  ·simp only[Instr.sameNow,FH,B2H]
  ·simp only[FH,beq_iff_eq,ByteArray.toList_eq]at hq;have tN:p=q:=by obtain⟨⟨p⟩⟩:=p;obtain⟨⟨q⟩⟩:=q;simpa using hq
   subst tN;exact⟨rfl,rfl⟩
def mH{S:AU}{h:Heap}{ks:Bool}{kd:TypeDesc}(hk:(ks=false/\kd=.int .i64)\/(ks=true/\kd=.string)){d:DV}{v:Value}(hd:AB ks d=true)(rv:RV S h d v)(val:DV):∀(es:List (DV×DV))(l:List MapEntry)(i:Nat),
 es.length=l.length->(∀(j:Nat) e n,es[j]?=some e->l[j]?=some n->AB ks e.1=true/\RV S h e.1 n.key/\RV S h e.2 n.val)->
 (Instr.findNow kd v l i=some none/\Y1 es d=none/\Bt es d val=es++[(d,val)]) \/
 ∃j e n,es[j]?=some e/\l[j]?=some n/\Instr.findNow kd v l i=some (some (i+j,n.val))/\Y1 es d=some e.2/\Bt es d val=es.set j (e.1,val)/\n.key=v/\e.1=d
 |[],[],i,_,_=>.inl ⟨rfl,rfl,rfl⟩
 |[],_::_,_,hl,_=>by simp at hl
 |_::_,[],_,hl,_=>by simp at hl
 |e::es,n::l,i,hl,tH=>by
   obtain⟨k1,k2,k3⟩:=tH 0 e n rfl rfl;obtain⟨s1,s2⟩:=A7O hk hd k1 rv k2;cases hq:FH d e.1 with
   |true=>rw[hq]at s1;obtain⟨q1,q2⟩:=s2 hq;exact .inr ⟨0,e,n,rfl,rfl,by simp[Instr.findNow,s1],by simp[Y1,hq],by simp[Bt,hq],q1.symm,q2.symm⟩
   |false=>
     rw[hq]at s1;have ih:=mH hk hd rv val es l (i+1) (by simpa using hl) (λj e' n' h1 h2=>tH (j+1) e' n' (by simpa using h1) (by simpa using h2));have f1:Instr.findNow kd v (n::l) i=Instr.findNow kd v l (i+1):=by simp[Instr.findNow,s1]
     have f2:Y1 (e::es) d=Y1 es d:=by simp[Y1,hq]
     have f3:Bt (e::es) d val=e::Bt es d val:=by simp[Bt,hq]
     rcases ih with⟨g1,g2,g3⟩ | ⟨j,e',n',g1,g2,g3,g4,g5,g6,g7⟩
     ·exact .inl ⟨by rw[f1,g1],by rw[f2,g2],by rw[f3,g3];rfl⟩
     ·refine .inr ⟨j+1,e',n',by simpa using g1,by simpa using g2,by rw[f1,g3];congr 3;omega,by rw[f2,g4],by rw[f3,g5];rfl,g6,g7⟩
theorem run_checkKey{kt:TypeId}(hu:P.underlying kt=some kd)(hk:kd=.int .i64\/kd=.string)(b:Bool)(v:Value)(n:Nat)(w:World):(Instr.checkKey b (n+1) kt v).run P w=.ok () w:=by unfold Instr.checkKey;simp only[Sem.run_bind,run_underlying hu,Result.andThen_ok];rcases hk with rfl | rfl<;>rfl
section
variable {X:Type}{C:BV}{R:O7}{o:Oper}{st:St}{k:St->Option X}{x:X}{E:Env}{a:Act}{w:World}{K:Act->World->Prop}{Q:Exit->Act->World->Prop}
def B0k{y v:Operand}{ok:Bool}(F7:o.op=.lookup t y v ok)(H:(ob (src C.P t st y) λr=>ob (src C.P 0 st v) λkey=>ob (mapKeys C.P t) λq=>
 ob (zH C.P q.2) λze=>
  og (AB q.1 key.1&&K8 key.2)
   (match r.2 with
     |.map i=>ob (S9 st.sg i) λp=>og (p.1==q.1)
       (if ok then k (st.put o.dst (.J9 [(Y1 p.2 key.1).getD ze,.bool (Y1 p.2 key.1).isSome]) .val)
       else k (st.put o.dst ((Y1 p.2 key.1).getD ze) .val))
     |_=>none))=some x)(Rl:K9 E st a w.heap)(T:Then E w k x K):Gp C.P o a w K:=by
 obtain⟨r,h1,H⟩:=D5 H;obtain⟨key,h2,H⟩:=D5 H;obtain⟨q,hq,H⟩:=D5 H;obtain⟨ze,OB,H⟩:=D5 H;obtain⟨hc,H⟩:=H6 H;simp only[zaq]at hc;obtain⟨bA,hkd⟩:=hc;have e1:=Rl.src h1;have e2:=(Rl.src h2).data hkd;split at H
 ·rename_i i hm;rw[hm]at e1;simp only[RR,L9]at e1;obtain⟨p,hp,H⟩:=D5 H;obtain⟨tN,H⟩:=H6 H;have tN:p.1=q.1:=by simpa using tN
  have hp:=A03 hp;rw[tN]at hp;obtain⟨ens,clk,b1,b2,⟨b3,b4⟩,-⟩:=Rl.U6 i _ hp;obtain⟨kt,hu,bB⟩:=t_ hq;unfold zH at OB;obtain⟨inf,Ap,OB⟩:=D5 OB;obtain⟨zv,RQ,OB⟩:=D5 OB;have hz0:RV E.S w.heap ze zv:=by
   split at OB
   ·obtain⟨ts,h1,OB⟩:=D5 OB;obtain⟨rs,h2,OB⟩:=D5 OB;obtain⟨hd,OB⟩:=H6 OB;simp only[D8]at OB;subst OB;exact A2q h2 hd
   ·obtain⟨zr,hzr,OB⟩:=D5 OB;obtain⟨hzd,OB⟩:=H6 OB;simp only[D8]at OB;rw[<- OB];exact(zw (E:=E) (h:=w.heap) hzr 0 0).data hzd
  have iA:∃kd,C.P.underlying kt=some kd/\((q.1=false/\kd=.int .i64)\/(q.1=true/\kd=.string)):=by
   rcases bB with⟨h3,h4⟩ | ⟨h3,h4⟩
   ·exact⟨_,h4,.inl ⟨h3,rfl⟩⟩
   ·exact⟨_,h4,.inr ⟨h3,rfl⟩⟩
  obtain⟨kd,hku,iA⟩:=iA;have F:=mH iA bA e2 .undef p.2 ens.toList 0 (by simpa using b3) (λj e n g1 g2=>b4 j e n g1 (by simpa using g2));have fin:∀(d:DV)(vv:Value)(bb:Bool),(Y1 p.2 key.1).getD ze=d->(Y1 p.2 key.1).isSome=bb->RV E.S w.heap d vv->(Instr.lookup t (a.eval y) (a.eval v) ok).run C.P w=.ok (if ok then .tuple #[vv,.bool bb]else vv) w->Gp C.P o a w K:=by
   intro d vv bb hd hb hR U9;rw[hd,hb]at H;have A4p:(execOp a.eval o).run C.P w=.ok (.value (if ok then .tuple #[vv,.bool bb]else vv)) w:=by simp only[execOp,F7];exact CK U9
   cases ok with
   |true=>
     simp only[F6]at H A4p;refine Ah A4p H Rl ?_ @T;simp only[RV];exact⟨_,rfl,WB.2 ⟨by simp,λi d' v' g1 g2=>by
      match i with
      |0=>simp at g1 g2;subst g1 g2;exact hR
      |1=>simp at g1 g2;subst g1 g2;rw[OI]
      |n+2=>simp at g1⟩⟩
   |false=>simp only[z7q,G8]at H A4p;exact Ah A4p H Rl hR @T
  have hgo:(getObj (E.obj i)).run C.P w=.ok (.map ens clk) w:=by simp[getObj,Sem.run,b1]
  have A5J:kd=.int .i64\/kd=.string:=by rcases iA with h3 | h3<;>simp[h3.2]
  rcases F with⟨g1,g2,-⟩ | ⟨j,e,n,g0,g0',g1,g2,-,-,-⟩
  ·refine fin ze zv false (by rw[g2];rfl) (by rw[g2];rfl) hz0 ?_;unfold Instr.lookup;rw[e1.2];have B7V:(zeroValue q.2).run C.P w=.ok zv w:=by simp[zeroValue,typeInfo,Ap,RQ]
   simp only[Sem.run_bind,run_underlying hu,Result.andThen_ok,hgo,Sem.run_pure,run_checkKey hku A5J,Instr.findKey,run_underlying hku,g1,B7V]
  ·obtain⟨-,-,rv⟩:=b4 j e n g0 (by simpa using g0');refine fin e.2 n.val true (by rw[g2];rfl) (by rw[g2];rfl) rv ?_;unfold Instr.lookup;rw[e1.2];simp only[Sem.run_bind,run_underlying hu,Result.andThen_ok,hgo,Sem.run_pure,run_checkKey hku A5J,Instr.findKey,run_underlying hku,g1]
 ·simp at H
def A0L{α : Type}(xs:Array α)(j i:Nat)(f : α -> α):(xs.modify j f)[i]?=if j=i then xs[i]?.map f else xs[i]?:=by rw[y4q]
variable {ens:Array MapEntry}{clk:Nat}
def fK.push(h:fK ens clk)(e:MapEntry)(he:e.born=clk):fK (ens.push e) (clk+1):=by
 refine⟨λj n hn=>?_,λi j m n hm hn hb=>?_⟩
 ·rw[zHq]at hn;split at hn
  ·simp only[D8]at hn;subst hn;omega
  ·have:=h.1 j n hn;omega
 ·rw[zHq]at hm hn;split at hm<;>split at hn
  ·omega
  ·simp only[D8]at hm;subst hm;have:=h.1 j n hn;omega
  ·simp only[D8]at hn;subst hn;have:=h.1 i m hm;omega
  ·exact h.2 i j m n hm hn hb
def fK.modify(h:fK ens clk)(j:Nat){f:MapEntry->MapEntry}(hf:∀e,(f e).born=e.born):fK (ens.modify j f) clk:=by
 have key:∀(i:Nat) n,(ens.modify j f)[i]?=some n->∃m,ens[i]?=some m/\m.born=n.born:=by
  intro i n hn;rw[A0L]at hn;split at hn
  ·cases hm:ens[i]? with
   |none=>rw[hm]at hn;cases hn
   |some m=>rw[hm]at hn;simp only[yjq,D8]at hn;subst hn;exact⟨m,rfl,(hf m).symm⟩
  ·exact⟨n,hn,rfl⟩
 refine⟨λi n hn=>?_,λi k m n hm hn hb=>?_⟩
 ·obtain⟨m,h1,h2⟩:=key i n hn;have:=h.1 i m h1;omega
 ·obtain⟨m',h1,h2⟩:=key i m hm;obtain⟨n',h3,h4⟩:=key k n hn;exact h.2 i k m' n' h1 h3 (by omega)
def A36{y v u:Operand}(F7:o.op=.mapUpdate t y v u)(H:(ob (src C.P t st y) λr=>ob (src C.P 0 st v) λkey=>ob (src C.P 0 st u) λval=>ob (mapKeys C.P t) λq=>
 og (AB q.1 key.1&&K8 key.2&&K8 val.2)
  (match r.2 with
    |.map i=>ob (S9 st.sg i) λp=>og (p.1==q.1) (k ({ st with sg:=st.sg.set i (.map q.1 (Bt p.2 key.1 val.1)) }.put o.dst (.J9 []) .val))
    |_=>none))=some x)(Rl:K9 E st a w.heap)(T:Then E w k x K):Gp C.P o a w K:=by
 obtain⟨r,h1,H⟩:=D5 H;obtain⟨key,h2,H⟩:=D5 H;obtain⟨val,h3,H⟩:=D5 H;obtain⟨q,hq,H⟩:=D5 H;obtain⟨hc,H⟩:=H6 H;simp only[zaq]at hc;obtain⟨⟨bA,hkd⟩,hvd⟩:=hc;have e1:=Rl.src h1;have e2:=(Rl.src h2).data hkd;have e3:=(Rl.src h3).data hvd;split at H
 ·rename_i i hm;rw[hm]at e1;simp only[RR,L9]at e1;obtain⟨p,hp,H⟩:=D5 H;obtain⟨tN,H⟩:=H6 H;have tN:p.1=q.1:=by simpa using tN
  have hp:=A03 hp;rw[tN]at hp;obtain⟨ens,clk,b1,b2,⟨b3,b4⟩,b5⟩:=Rl.U6 i _ hp;obtain⟨kt,hu,bB⟩:=t_ hq;have iA:∃kd,C.P.underlying kt=some kd/\((q.1=false/\kd=.int .i64)\/(q.1=true/\kd=.string)):=by
   rcases bB with⟨h3,h4⟩ | ⟨h3,h4⟩
   ·exact⟨_,h4,.inl ⟨h3,rfl⟩⟩
   ·exact⟨_,h4,.inr ⟨h3,rfl⟩⟩
  obtain⟨kd,hku,iA⟩:=iA;have A5J:kd=.int .i64\/kd=.string:=by rcases iA with h3 | h3<;>simp[h3.2]
  have F:=mH iA bA e2 val.1 p.2 ens.toList 0 (by simpa using b3) (λj e n g1 g2=>b4 j e n g1 (by simpa using g2));have hgo:(getObj (E.obj i)).run C.P w=.ok (.map ens clk) w:=by simp[getObj,Sem.run,b1]
  have B25:E.obj i<w.heap.size:=(zdq.1 b1).1;have IW:=(z0q.1 hp).1;have fin:∀(ens':Array MapEntry)(clk':Nat),B5S E.S w.heap q.1 (Bt p.2 key.1 val.1) ens'->fK ens' clk'->(Instr.mapUpdate t (a.eval y) (a.eval v) (a.eval u)).run C.P w=.ok () { w with heap:=w.heap.setIfInBounds (E.obj i) (.map ens' clk') }->Gp C.P o a w K:=by
   intro ens' clk' hR hB U9;have A9G:(w.heap.setIfInBounds (E.obj i) (.map ens' clk'))[E.obj i]?=some (.map ens' clk'):=ziq B25;have hold:∀b,b≠E.obj i->(w.heap.setIfInBounds (E.obj i) (.map ens' clk'))[b]?=w.heap[b]?:=λb hb=>zjq (Ne.symm hb);have P1:Pr (λt=>t=.obj i) E w.heap E (w.heap.setIfInBounds (E.obj i) (.map ens' clk')):=by
    refine⟨by simp,λb hb=>?_,λ_ _ _ _=>rfl,zbq _,λ_ _ _=>⟨rfl,rfl,rfl⟩,λ_ _=>rfl,Dp rfl⟩;by_cases Ut:b=E.obj i
    ·subst Ut;rw[b1];intro h0;exact absurd (b2 0) h0
    ·rw[hold b Ut];exact V9.refl _ _
   have hs:=P1.Q6 (by simp) Rl.fresh;have R1:K9 E { st with sg:=st.sg.set i (.map q.1 (Bt p.2 key.1 val.1)) } a (w.heap.setIfInBounds (E.obj i) (.map ens' clk')):=by
    refine⟨Rl.size,Rl.Aa,Rl.CU,by simpa using Rl.n,λt v hv=>(Rl.Bf t v hv).mono P1 hs (by simp) (by simp),λs' cs' DL=>(Rl.j6 s' cs' DL).mono P1 hs (by simp) (by simp),λi' ob hi=>?_,λb o' P_=>Rl.fresh b o' (by simpa using P_)⟩;by_cases CY:i=i'
    ·subst CY;simp only[z2q IW,D8]at hi;subst hi;refine⟨ens',clk',A9G,b2,⟨hR.1,λj e n g1 g2=>?_⟩,hB⟩;obtain⟨c1,c2,c3⟩:=hR.2 j e n g1 g2;exact⟨c1,c2.mono hs,c3.mono hs⟩
    ·simp only[z1q CY]at hi;exact(Rl.U6 i' ob hi).mono P1 hs (CE Rl hi) (by simp;exact λh=>CY h.symm) (by simp)
   refine Nq (w':={ w with heap:=w.heap.setIfInBounds (E.obj i) (.map ens' clk') }) ?_ (T E _ _ { w with heap:=w.heap.setIfInBounds (E.obj i) (.map ens' clk') } H (R1.put λt0 _=>?_) (P1.l7 (by rintro T rfl;simp[P5])))
   ·simp only[execOp,F7]
    exact B4v U9
   ·simp only[RR,L9,RV]
    exact⟨#[],rfl,by simp[Re]⟩
  have B6z:∀(ens':Array MapEntry)(clk':Nat),(setObj (E.obj i) (.map ens' clk')).run C.P w=.ok () { w with heap:=w.heap.setIfInBounds (E.obj i) (.map ens' clk') }:=by intro ens' clk';simp[setObj,Sem.run,b1]
  rcases F with⟨g1,g2,g3⟩ | ⟨j,e,n,g0,g0',g1,g2,g3,g4,g5⟩
  ·refine fin (ens.push { key:=a.eval v,val:=a.eval u,born:=clk }) (clk+1) ?_ (b5.push _ rfl) ?_
   ·rw[g3];refine⟨by simp[b3],λj e n h1 h2=>?_⟩;by_cases hj:j<p.2.length
    ·rw[z4q hj]at h1;rw[zHq,A7 (by omega)]at h2;exact b4 j e n h1 h2
    ·have hj1:j=p.2.length:=by have:=(z0q.1 h1).1;simp at this;omega
     subst hj1;rw[z6q (zbq _)]at h1;simp only[y0q,zgq,D8]at h1;rw[zHq,C8 b3]at h2;simp only[D8]at h2;subst h1 h2;exact⟨bA,e2,e3⟩
   ·unfold Instr.mapUpdate;rw[e1.2];simp only[Sem.run_bind,run_underlying hu,Result.andThen_ok,hgo,run_checkKey hku A5J,Instr.findKey,run_underlying hku,g1,Sem.run_pure];exact B6z _ _
  ·have a_:j<ens.size:=by have:=(z0q.1 g0').1;simpa using this
   have hn:ens[j]?=some n:=by simpa using g0'
   refine fin (ens.modify j λe=>{ e with key:=a.eval v,val:=a.eval u }) clk ?_ (b5.modify j λ_=>rfl) ?_
   ·rw[g3];refine⟨by simp[b3],λj' e' n' h1 h2=>?_⟩;rw[A0L]at h2;by_cases hjj:j=j'
    ·subst hjj;rw[C8 rfl,hn]at h2;simp only[yjq,D8]at h2;rw[z2q (z0q.1 g0).1]at h1;simp only[D8]at h1;subst h1 h2;exact⟨by rw[g5];exact bA,by rw[g5];exact e2,e3⟩
    ·rw[A7 hjj]at h2;rw[z1q hjj]at h1;exact b4 j' e' n' h1 h2
   ·unfold Instr.mapUpdate;rw[e1.2];have B7U:(Instr.keyThatStays n.key (a.eval v)).run C.P w=.ok (a.eval v) w:=by
     unfold Instr.keyThatStays;have:Instr.sameBits 10000 n.key (a.eval v)=true:=by
      rw[g4];rcases iA with⟨h3,-⟩ | ⟨h3,-⟩
      ·rw[h3]at bA;cases hk1:key.1<;>rw[hk1]at bA e2<;>simp only[AB,z7q,ydq,zVq]at bA;rw[CL]at e2;rw[e2];simp[Instr.sameBits]
      ·rw[h3]at bA;cases hk1:key.1<;>rw[hk1]at bA e2<;>simp only[AB,z7q,yiq,yeq]at bA;rw[XX]at e2;rw[e2];simp only[Instr.sameBits];rw[beq_toListBytes];simp
     rw[C8 this];rfl
    simp only[Sem.run_bind,run_underlying hu,Result.andThen_ok,hgo,run_checkKey hku A5J,Instr.findKey,run_underlying hku,g1,Sem.run_pure,zfq,hn,yjq,zsq,B7U];exact B6z _ _
 ·simp at H
def K9.oJ(Rl:K9 E st a w.heap){t i:Nat}{ms:List F4}(hm:(st.get t).2=.Ca ms)(bC:ms[i]?=some .own)(P6:t<st.mt.length){f:Tag->Tag}(hf:∀T,T ≠ .sp 0 t (i+1)->f T=T):
 K9 (E.re f) { st with mt:=st.mt.set t (.Ca (ms.set i .val)) } a w.heap:=by
 have Gn:f .Q6=.Q6:=hf _ (by simp);have QC:f .other=.other:=hf _ (by simp);have P:Pr (λT=>T=.sp 0 t (i+1)) E w.heap (E.re f) w.heap:=Pr.re λT hT=>hf T hT;have J5:AL E.S w.heap (E.re f).S w.heap:=LG Gn;refine⟨Rl.size,by simpa using Rl.Aa,Rl.CU,Rl.n,λu v hu=>?_,λs cs hs=>(Rl.j6 s cs hs).mono P J5 (by simp) (by simp),λj ob hj=>(Rl.U6 j ob hj).mono P J5 (CE Rl hj) (by simp) (by simp),λb o hb=>?_⟩
 ·have h0:=Rl.Bf u v hu;by_cases hut:t=u
  ·subst hut;have hg:St.get { st with mt:=st.mt.set t (.Ca (ms.set i .val)) } t=((st.get t).1,.Ca (ms.set i .val)):=by simp[St.get,z3q,z2q P6]
   rw[hg];rw[hm]at h0;simp only[RR]at h0 ⊢;obtain⟨ds,vs,h1,h2,h3,h4,h5⟩:=h0;refine⟨ds,vs,h1,h2,by simpa using h3,by simpa using h4,λj m' d' u' e1 e2 e3=>?_⟩;by_cases hj:i=j
   ·subst hj;have hil:i<ms.length:=by have:=(z0q.1 e1).1;simpa using this
    rw[z2q hil]at e1;simp only[D8]at e1;subst e1;obtain⟨a0,a4⟩:=h5 i _ d' u' bC e2 e3;exact⟨rfl,RV.mono J5 _ a4.1⟩
   ·rw[z1q hj]at e1;obtain⟨a0,a4⟩:=h5 j m' d' u' e1 e2 e3;exact⟨a0,a4.re Gn (hf _ (by simp;exact λh=>hj h.symm))⟩
  ·have hg:St.get { st with mt:=st.mt.set t (.Ca (ms.set i .val)) } u=st.get u:=by simp[St.get,z3q,z1q hut]
   rw[hg];exact h0.re Gn QC λb=>hf _ (by simp;intro h;exact absurd h.symm hut)
 ·simp only[Env.re];rw[Rl.fresh b o hb,QC]
def A7R{fl:H8}{y:Operand}{i:Nat}(F7:o.op=.extract y i)(H:(ob (src C.P 0 st y) λr=>
 match r.2 with
 |.val=>ob (Q3 i r.1) λd=>k (st.put o.dst d .val)
 |.Ca ms=>ob (Q3 i r.1) λd=>
   match ms.getD i .val with
   |.own=>if I8 fl.Q8 o.dst then k ((st.oJ y (.Ca (ms.set i .val))).put o.dst d .own)else k (st.put o.dst d .val)
   |.val=>k (st.put o.dst d .val)
   |_=>none
 |_=>none)=some x)(Rl:K9 E st a w.heap)(T:Then E w k x K):Gp C.P o a w K:=by
 obtain⟨r,h1,H⟩:=D5 H;split at H
 ·rename_i hm;obtain⟨d,hd,H⟩:=D5 H;exact B5o F7 h1 hm hd rfl H Rl @T
 ·rename_i ms hm;obtain⟨d,hd,H⟩:=D5 H;have e1:=Rl.src h1;rw[hm]at e1;simp only[RR]at e1;obtain⟨ds,vs,hr,hv,l1,l2,l3⟩:=e1;obtain⟨cs,AY,hdi⟩:=A2z hd;rw[hr]at AY;simp only[DV.J9.injEq]at AY;subst AY;have hi:i<ds.length:=(z0q.1 hdi).1;have hmi:ms[i]?=some (ms.getD i .val):=by simp[z3q,z5q (by omega:i<ms.length)]
  have hvi:vs[i]?=some (vs[i]'(by omega)):=zEq (by omega);obtain⟨a0,a4⟩:=l3 i _ d _ hmi hdi hvi;have U9:(execOp a.eval o).run C.P w=.ok (.value (vs[i]'(by omega))) w:=by simp only[execOp,F7];refine CK ?_;simp only[Instr.extract,hv,hvi,Sem.run_pure]
  split at H
  ·rename_i hmo;rw[hmo]at a4;by_cases R6:I8 fl.Q8 o.dst=true
   ·rw[C8 R6]at H;have H2:=H;clear H;have hy:∃t,y=.tmp t:=by
     cases y with
     |tmp t=>exact⟨t,rfl⟩
     |const v=>exact absurd hm (λh=>(dK h1).2 ms h)
     |func f=>simp only[src,D8]at h1;subst h1;simp at hm
     |global g=>simp[src]at h1
    obtain⟨t,rfl⟩:=hy;simp only[src,D8]at h1;subst h1;simp only[eZ]at a4;cases EE:o.dst with
    |none=>rw[EE]at R6;simp[I8]at R6
    |some t0=>
      rw[EE]at H2;refine Ay U9 ?_;rw[EE];have htl:t<st.mt.length:=by
       rcases zuq t st.mt.length with h1 | h1
       ·exact h1
       ·rw[Xq (by rw[<- Rl.Aa];exact h1) Rl.Aa]at hm;simp at hm
      refine T (E.re (Ql (.sp 0 t (i+1)) t0)) _ _ w H2 ((Rl.oJ hm (by rw[hmi,hmo]) htl λT hT=>I_ hT).put λt1 ht=>?_) (Pr.re λT hT=>I_ λhe=>hT (by rw[he];simp[P5]));simp only[D8]at ht;subst ht;exact RR.AO (a4.re (I_ (by simp)) (by simp[Ql]))
   ·rw[A7 R6]at H;exact Ah U9 H Rl a4.1 @T
  ·rename_i hmo;rw[hmo]at a4;exact Ah U9 H Rl a4 @T
  ·simp at H
 ·simp at H
end
end Go.Su

/-
 THE DATA MACHINE, part 16: append.
-/
namespace Go.Su
set_option linter.defProp false
def Ib(S:AU)(h:Heap)(sz:Nat)(ds:List DV)(all:List Value):Prop :=all.length=ds.length * sz/\∀(i:Nat) d,ds[i]?=some d->∃vs:List Value,vs.length=sz/\(∀(j:Nat) u,vs[j]?=some u->all[i * sz+j]?=some u)/\RC S h d vs
variable {S:AU}{h:Heap}{sz:Nat}{ds:List DV}{all:List Value}
def Ib.mono{S':AU}{h':Heap}(J5:AL S h S' h')(H:Ib S h sz ds all):Ib S' h' sz ds all :=⟨H.1,λi d hd=>let⟨vs,v1,v2,v3⟩:=H.2 i d hd;⟨vs,v1,v2,v3.mono J5⟩⟩
def pU{S:AU}{h:Heap}{sz b:Nat}:∀{ds:List DV}{o:Nat},Ec S h sz b o ds->∃all,Ib S h sz ds all/\∀(j:Nat) u,all[j]?=some u->hc h b (o+j)=some u/\S b (o+j)
 |[],o,_=>⟨[],⟨by simp,by simp⟩,by simp⟩
 |d::ds,o,H=>by
   simp only[Ec]at H;obtain⟨⟨vs,v1,v2,v3⟩,H⟩:=H;obtain⟨all,⟨l1,l2⟩,l3⟩:=pU H;refine⟨vs++all,⟨by simp[l1,v1,zAq];omega,λi d' hd=>?_⟩,λj u hu=>?_⟩
   ·cases i with
    |zero=>simp only[zgq,D8]at hd;subst hd;refine⟨vs,v1,λj u hu=>?_,v3⟩;rw[zKq,zfq,z4q (z0q.1 hu).1];exact hu
    |succ i=>simp only[zrq]at hd;obtain⟨us,u1,u2,u3⟩:=l2 i d' hd;refine⟨us,u1,λj u hu=>?_,u3⟩;rw[z6q (by rw[v1,zAq];omega),v1];rw[show(i+1) * sz+j-sz=i * sz+j from by rw[zAq];omega];exact u2 j u hu
   ·by_cases hj:j<vs.length
    ·rw[z4q hj]at hu;exact v2 j u hu
    ·rw[z6q (by omega)]at hu;have:=l3 _ u hu
     rwa [show o+sz+(j-vs.length)=o+j from by omega]at this
def SX{b o:Nat}(H:Ib S h sz ds all)(hc:∀(j:Nat) u,all[j]?=some u->Su.hc h b (o+j)=some u/\S b (o+j)):Ec S h sz b o ds:=by
 refine EJ.2 λi d hd=>?_;obtain⟨vs,v1,v2,v3⟩:=H.2 i d hd;refine⟨vs,v1,λj u hu=>?_,v3⟩;have:=hc _ u (v2 j u hu)
 rwa [<- zQq]at this
def Ib.append{es:List DV}{A B:List Value}(H:Ib S h sz ds A)(G:Ib S h sz es B):Ib S h sz (ds++es) (A++B):=by
 refine⟨by simp[H.1,G.1,zqq],λi d hd=>?_⟩;by_cases hi:i<ds.length
 ·rw[z4q hi]at hd;obtain⟨vs,v1,v2,v3⟩:=H.2 i d hd;refine⟨vs,v1,λj u hu=>?_,v3⟩;have hj:j<sz:=by have:=(z0q.1 hu).1;omega
  have:=seg_lt hi hj;rw[z4q (by rw[H.1];exact this)];exact v2 j u hu
 ·rw[z6q (by omega)]at hd;obtain⟨vs,v1,v2,v3⟩:=G.2 _ d hd;refine⟨vs,v1,λj u hu=>?_,v3⟩;have e:i * sz+j=ds.length * sz+((i-ds.length) * sz+j):=by rw[<- zQq,<- zqq];congr 2;omega
  rw[e,<- H.1,z6q (by omega),Nat.add_sub_cancel_left];exact v2 j u hu
def Ib.one(hs:0<sz)(H:Ib S h sz ds all):∀u∈all,u.oneCell'=true:=by
 intro u hu;obtain⟨j,hj,tL⟩:=ztq.1 hu;have P6:j<ds.length * sz:=by rw[<- H.1];exact hj
 have hi:j / sz<ds.length:=(Nat.div_lt_iff_lt_mul hs).2 P6;obtain⟨vs,v1,v2,v3⟩:=H.2 (j / sz) _ (z5q hi);have hm:j % sz<vs.length:=by rw[v1];exact Nat.mod_lt _ hs
 have h1:=v2 (j % sz) _ (z5q hm);rw[Nat.mul_comm,Nat.div_add_mod,z5q hj,tL]at h1;simp only[D8]at h1;obtain⟨q1,q2⟩:=OH v3 (z5q hm);rw[h1];exact Jc q1 q2
def A2O(n:Nat):∀(r c:Nat),c<n+1->Builtin.growBy n r c<=2 * n+192
 |0,c,h=>by simp[Builtin.growBy];omega
 |r+1,c,h=>by
   simp only[Builtin.growBy]
   split
   ·omega
   ·rename_i P6;by_cases h2:c+(c+768) / 4<n+1
    ·exact A2O n r _ h2
    ·cases r with
     |zero=>simp only[Builtin.growBy];omega
     |succ r=>simp only[Builtin.growBy];rw[C8 (by omega)];omega
def A9Z{need old:Nat}(h:old<need):Builtin.nextslicecap need old<=2 * need+192:=by
 unfold Builtin.nextslicecap;split
 ·omega
 ·split
  ·omega
  ·exact A2O need 4 old (by omega)
variable {P:Program}
def UO{t u:TypeId}(h:uk P t u=some sz):∃e e' z i zv,P.underlying t=some (.slice e)/\P.underlying u=some (.slice e')/\tz P e=some z/\z.1=sz/\0<sz/\P.info? e=some i/\i.bytes<=2 ^ 14/\i.zero=some zv/\zv.cells.size=sz:=by
 unfold uk at h;obtain⟨e,he,h⟩:=D5 h;obtain⟨e',he',h⟩:=D5 h;obtain⟨z,hz,h⟩:=D5 h;obtain⟨i,hi,h⟩:=D5 h;obtain⟨zs,Vu,h⟩:=D5 h;obtain⟨⟨h1,h2,h3⟩,h⟩:=M3 h;simp only[D8]at h;have ht:∀{t e:TypeId},Ip P t=some e->P.underlying t=some (.slice e):=by
  intro t e he;unfold Ip at he;split at he
  ·simp only[D8]at he;subst he;assumption
  ·simp at he
 obtain⟨inf,zv,Ap,RQ,Am⟩:=XH Vu;rw[hi]at Ap;simp only[D8]at Ap;subst Ap;have:=(Am ⟨λ_=>0,λ_=>0,λ_=>0,λ_=>0,λ_ _=>.other,0,λ_=>0⟩ #[]).1;simp only[yfq]at this;exact⟨e,e',z,i,zv,ht he,ht he',hz,h,by omega,hi,h2,RQ,by omega⟩
def B0Z{d e r:DV}(h:EP sz d e=some r):∃ds es,d=.list sz ds/\e=.list sz es/\ds.length+es.length<=R9/\r=.list sz (ds++es):=by
 unfold EP at h;split at h
 ·obtain⟨⟨⟨h1,h2⟩,h3⟩,h⟩:=M3 h;simp only[D8]at h;subst h1 h2;exact⟨_,_,rfl,rfl,h3,h.symm⟩
 ·simp at h
def B5g(st:St)(t:Nat)(d d':DV)(m m':F4):(st.put (some t) d m).put (some t) d' m'=st.put (some t) d' m':=by simp[St.put,ynq]
def wT(a:Act)(t:Nat)(v v':Value):(a.put (some t) v).put (some t) v'=a.put (some t) v':=by
 have:(a.tmps.setIfInBounds t v).setIfInBounds t v'=a.tmps.setIfInBounds t v':=by
  apply Array.ext_getElem?;intro i;by_cases h:t=i
  ·subst h;by_cases hl:t<a.tmps.size
   ·rw[ziq (by simpa using hl),ziq hl]
   ·rw[y1q (by simpa using hl),y1q (by simpa using hl)]
  ·rw[zjq h,zjq h,zjq h]
 simp[Act.put,this]
section
variable {P:Program}{t u ty e e':TypeId}{inf:TypeInfo}{w:World}{b:Option Addr}{len cap n sz:Nat}{v:Value}{all':List Value}
theorem xO(b:Option Addr)(n c:Nat):Builtin.lenOf (.slice b n c)=pure n:=rfl
def A0Z(hu:P.underlying t=some (.slice e))(Bv:P.underlying u=some (.slice e'))(Ap:P.info? e=some inf)(hn:Builtin.lenOf v=pure n)(hv:(Builtin.firstCells inf.size n v).run P w=.ok all'.toArray w)(BQ:len+n<=cap):(Builtin.append_ #[t,u] ty #[.slice none len cap,v]).run P w=.ok (.slice none (len+n) cap) w:=by unfold Builtin.append_;simp[run_underlying hu,run_underlying Bv,sizeOf,typeInfo,Ap,hn,BQ,hv]
def IM{y:Addr}{w':World}(hu:P.underlying t=some (.slice e))(Bv:P.underlying u=some (.slice e'))(Ap:P.info? e=some inf)(hn:Builtin.lenOf v=pure n)(hv:(Builtin.firstCells inf.size n v).run P w=.ok all'.toArray w)(BQ:len+n<=cap)(R6:(storeCells (y.add (len * inf.size)) all').run P w=.ok () w'):(Builtin.append_ #[t,u] ty #[.slice (some y) len cap,v]).run P w=.ok (.slice (some y) (len+n) cap) w':=by unfold Builtin.append_;simp[run_underlying hu,run_underlying Bv,sizeOf,typeInfo,Ap,hn,BQ,hv,R6]
def run_append_grow{zv:Value}(hu:P.underlying t=some (.slice e))(Bv:P.underlying u=some (.slice e'))(Ap:P.info? e=some inf)(hn:Builtin.lenOf v=pure n)(hv:∀w':World,w'.heap=w.heap->(Builtin.firstCells inf.size n v).run P w'=.ok all'.toArray w')(hs:∀w':World,w'.heap=w.heap->(Builtin.firstCells inf.size len (.slice b len cap)).run P w'=.ok all.toArray w')(RQ:inf.zero=some zv)(BQ:¬len+n<=cap)(B1m:len+n<=4294967296)(hb:inf.bytes<=2 ^ 14):
 ∃nc,len+n<=nc/\(Builtin.append_ #[t,u] ty #[.slice b len cap,v]).run P w=.ok (.slice (some ⟨w.heap.size,0,none⟩) (len+n) nc) (w.drew.alloc (.cells (all++all'++(Builtin.zeroCells zv.cells (nc-(len+n))).toList).toArray e)):=by
 refine⟨(Question.appendCap (len+n) cap e).cut (w.tape w.drawn (Question.appendCap (len+n) cap e)),by simp only[Question.cut];omega,?_⟩;have A1K:Builtin.nextslicecap (len+n) cap * inf.bytes<=2 ^ 48:=by
  have h1:=A9Z (need:=len+n) (old:=cap) (by omega)
  calc Builtin.nextslicecap (len+n) cap * inf.bytes<=(2 * 4294967296+192) * 2 ^ 14:=Nat.mul_le_mul (by omega) hb
   _<=2 ^ 48:=by decide
 have B9i:¬(((len+n:Nat):Int)>IntKind.i64.max):=by rw[IntKind.max_i64];omega
 have B7M:¬(Builtin.nextslicecap (len+n) cap * inf.bytes>2 ^ 48):=by omega
 have q1:=hs w.drew rfl;have q2:=hv w.drew rfl;unfold Builtin.append_;have B7Q:¬((9223372036854775807:Int)<(len:Int)+(n:Int)):=by omega
 simp[run_underlying hu,run_underlying Bv,sizeOf,typeInfo,Ap,hn,BQ,B7Q,B7M,Question.forced,q1,q2,zeroValue,RQ,newRow];refine congrArg (λz=>w.drew.alloc (.cells z e)) (Array.toList_inj.1 ?_);simp
end
section
variable {X:Type}{C:BV}{R:O7}{o:Oper}{st:St}{k:St->Option X}{x:X}{E:Env}{a:Act}{w:World}{K:Act->World->Prop}{Q:Exit->Act->World->Prop}
def WX{b o':Nat}(H:∀(j:Nat) u,all[j]?=some u->hc w.heap b (o'+j)=some u):(loadCells ⟨b,o',none⟩ all.length).run P w=.ok all.toArray w:=by refine run_loadCells_list w _ all λj v hv=>?_;rw[Addr.add_lit,MM];exact H j v hv
theorem Ku{v:Value}(H:RV S w.heap (.list sz ds) v):∃b len cap all,v=.slice b len cap/\len=ds.length/\len<=cap/\(b=none->cap=0)/\Ib S w.heap sz ds all /\
 (∀y,b=some y->(0<cap->y=⟨y.block,y.off,none⟩)/\∀(j:Nat) u,all[j]?=some u->hc w.heap y.block (y.off+j)=some u/\S y.block (y.off+j))/\(b=none->all=[]) /\
 ∀w':World,w'.heap=w.heap->(Builtin.firstCells sz len v).run P w'=.ok all.toArray w':=by
 obtain⟨b,len,cap,rfl,h1,h2,h3,h4,h5⟩:=KQ H;cases b with
 |none=>have h0:=h3 rfl;have Yn:ds=[]:=zhq (by omega);subst Yn;exact⟨none,len,cap,[],rfl,h1,h2,h3,⟨by simp,by simp⟩,by simp,λ_=>rfl,λw' _=>rfl⟩
 |some y=>
   obtain⟨s1,s2⟩:=h5 y rfl;obtain⟨all,f1,f2⟩:=pU s2;have hy:0<cap->y=⟨y.block,y.off,none⟩:=λhc=>by have s1:=s1 hc;cases y;simp only at s1;subst s1;rfl
   refine⟨some y,len,cap,all,rfl,h1,h2,h3,f1,λz hz=>?_,by simp,λw' hw=>?_⟩
   ·simp only[D8]at hz;subst hz;exact⟨hy,f2⟩
   ·have hl:len * sz=all.length:=by rw[f1.1,h1]
    show(loadCells y (len * sz)).run P w'=_;by_cases hc:0<cap
    ·rw[hl,hy hc];exact WX (λj u hu=>by rw[hw];exact(f2 j u hu).1)
    ·have h0:len=0:=by omega
     have h9:all=[]:=zhq (by rw[<- hl,h0];simp);rw[h9,h0,zKq];rfl
def Env.Wm(E:Env)(b lo hi:Nat):Env:={ E with O:=λb' o=>if b'=b/\lo<=o/\o<hi then .Q6 else E.O b' o }
def Env.newRow(E:Env)(b lo hi:Nat)(tg:Tag):Env:={ E with O:=λb' o=>if b'=b then(if o<lo then .Q6 else if o<hi then tg else .other)else E.O b' o }
def B0i{fl:H8}{c:Call}{y v:Operand}{t u:TypeId}(F7:o.op=.call c)(yI:c.callee=.builtin .append)(ha:c.args.toList=[y,v])(ht:c.argTypes.toList=[t,u])(d_:I8 fl.opn o.dst=false)(QB:I8 fl.Oe o.dst=false)(PL:I8 fl.Db o.dst=false)(H:Dn C fl o y v t u st k=some x)(Rl:K9 E st a w.heap)(T:Then E w k x K):Gp C.P o a w K:=by
 unfold Dn at H;rw[A7 (by rw[QB];simp),A7 (by rw[PL];simp)]at H;obtain⟨r,h1,H⟩:=D5 H;obtain⟨s,h2,H⟩:=D5 H;obtain⟨sz,Cw,H⟩:=D5 H;obtain⟨hc,H⟩:=H6 H;rw[A7 (by rw[d_];simp)]at H;obtain⟨d,hd,H⟩:=D5 H;simp only[zaq]at hc;obtain⟨⟨NQ,Uv⟩,EE⟩:=hc;obtain⟨t0,EE⟩:=zwq.1 EE;obtain⟨e,e',z,inf,zv,hu,Bv,hz,HZ,hpos,Ap,Uu,RQ,Vu⟩:=UO Cw;obtain⟨ds,es,hr,hs,YN,rfl⟩:=B0Z hd;have e1:=Rl.src h1;have e2:=(Rl.src h2).data Uv;have zy:RV E.S w.heap r.1 (a.eval y):=e1.data (by revert NQ;cases r.2<;>simp[Mc,K8]);rw[hr]at zy;rw[hs]at e2;obtain⟨b,len,cap,all,ev,f1,f2,f3,f4,f5,f6,f7⟩:=Ku (P:=C.P) zy;obtain⟨b',len',cap',all',ev',g1,g2,g3,g4,g5,g6,g7⟩:=Ku (P:=C.P) e2;have Cq:inf.size=sz:=by obtain⟨i',d',q1,-,q2,-⟩:=IU hz;rw[Ap]at q1;simp only[D8]at q1;rw[<- HZ,q2,q1]
 have U9:∀v' w',(Builtin.append_ #[t,u] o.type #[a.eval y,a.eval v]).run C.P w=.ok v' w'->(execOp a.eval o).run C.P w=.ok (.value v') w':=by intro v' w' hv;refine Gy F7 yI ?_;rw[OJ ht,show c.args.map a.eval=#[a.eval y,a.eval v]from by rw[OJ ha];simp];exact CK hv
 rw[EE]at H;have Ma:Builtin.lenOf (a.eval v)=pure len':=by rw[ev'];rfl
 have B1m:ds.length+es.length<=4294967296:=YN;have m_:=g4.one hpos;by_cases BQ:len+len'<=cap
 ·-- it fits: the slice's own memory is written
  have R0:=Rl.release (x:=y) (f:=Cb y 0 t0 0) λT hT=>GV hT;have P0:Pr P5 E w.heap (E.re (Cb y 0 t0 0)) w.heap:=Pr.re λT hT=>GV λt b _ he=>hT (by rw[he];simp[P5]);have mr:AL E.S w.heap (E.re (Cb y 0 t0 0)).S w.heap:=LG (GV (by simp));have hsp:∀p,b=some p->len<cap->∃cc TT f,w.heap[p.block]?=some (.cells cc TT f)/\p.off+cap * sz<=cc.size /\
   ∀o',p.off+len * sz<=o'->o'<p.off+cap * sz->(E.re (Cb y 0 t0 0)).O p.block o'=.sp 0 t0 0/\¬(f.1<=o'/\o'<f.2):=by
   intro p hp P6;subst hp;have bC:r.2=.own:=by
    revert NQ e1;cases r.2<;>intro NQ e1<;>simp only[Mc,z7q]at NQ
    ·simp only[RR,L9]at e1;obtain⟨-,⟨q,n,hq⟩,-⟩:=e1;rw[ev]at hq;simp only[Value.slice.injEq]at hq;omega
    ·rfl
   rw[bC]at e1;simp only[RR,L9]at e1;obtain⟨-,sz',ds',hl,hS⟩:=e1;rw[hr]at hl;simp only[DV.list.injEq]at hl;obtain⟨cc,TT,f,c1,c2,c3⟩:=hS p len cap ev P6;rw[<- hl.1]at c2 c3;refine⟨cc,TT,f,c1,c2,λo' h3 h4=>?_⟩;obtain⟨c4,c5⟩:=c3 o' h3 h4;refine⟨?_,c5⟩;have hy:∃i,y=.tmp i:=by
    cases y with
    |tmp i=>exact⟨i,rfl⟩
    |const v=>exact absurd bC (dK h1).1
    |func f=>simp only[src,D8]at h1;subst h1;simp at bC
    |global g=>simp[src]at h1
   obtain⟨i,rfl⟩:=hy;simp only[Env.re];rw[c4];simp[Cb,eZ]
  by_cases hn:len'=0
  ·-- nothing is appended
   have hes:es=[]:=zhq (by omega);have B7J:all'=[]:=zhq (by rw[g4.1,hes];simp);have AY:(Builtin.append_ #[t,u] o.type #[a.eval y,a.eval v]).run C.P w=.ok (.slice b (len+len') cap) w:=by
    rw[ev];cases b with
    |none=>exact A0Z hu Bv Ap Ma (by rw[Cq];exact g7 w rfl) BQ
    |some p=>exact IM hu Bv Ap Ma (by rw[Cq];exact g7 w rfl) BQ (by rw[B7J];rfl)
   refine Ay (U9 _ _ AY) (T _ _ _ w H ?_ P0);rw[EE];refine R0.put λt1 eG=>?_;simp only[D8]at eG;subst eG;rw[hes,zWq,hn,zBq,<- ev];refine RR.AO ⟨zy.mono mr,_,_,rfl,λp len1 cap1 hq P6=>?_⟩;rw[ev]at hq;simp only[Value.slice.injEq]at hq;obtain⟨rfl,rfl,rfl⟩:=hq;exact hsp p rfl P6
  ·-- the cells behind are written, and sealed
   cases b with
   |none=>have:=f3 rfl;omega
   |some p=>
     obtain⟨hp,-⟩:=f5 p rfl;have hp:=hp (by omega);obtain⟨cc,TT,f,c1,c2,c3⟩:=hsp p rfl (by omega);have B7P:all'.length=len' * sz:=by rw[g4.1,g1]
     have hmul:(len+len') * sz<=cap * sz:=z9q _ BQ;have uz:(len+len') * sz=len * sz+len' * sz:=zqq _ _ _;have B7T:0<len' * sz:=y8q (by omega) hpos;obtain⟨w',hw,S⟩:=JX (P:=C.P) (b:=p.block) (T:=TT) (f:=f) (p.off+len * sz) all' cc 0 w c1 (by omega) m_ (λo' h3 h4=>(c3 o' (by omega) (by omega)).2);have AY:(Builtin.append_ #[t,u] o.type #[a.eval y,a.eval v]).run C.P w=.ok (.slice (some p) (len+len') cap) w':=by rw[ev];refine IM hu Bv Ap Ma (by rw[Cq];exact g7 w rfl) BQ ?_;rw[Cq,hp,Addr.add_lit];exact hw
     simp only[zBq]at S;have R1:K9 (E.re (Cb y 0 t0 0)) ((st.release y).put (some t0) .undef .val) (a.put (some t0) (.slice (some p) (len+len') cap)) w.heap:=R0.put λt1 _=>by simp only[RR,L9,RV]
     have PS:Pr (λT=>T=.sp 0 t0 0) (E.re (Cb y 0 t0 0)) w.heap ((E.re (Cb y 0 t0 0)).Wm p.block (p.off+len * sz) (p.off+len * sz+len' * sz)) w'.heap:=by
      refine⟨zJq S.size.symm,λb1 Ky=>?_,λb1 o1 Ky hT=>?_,zbq _,λ_ _ _=>⟨rfl,rfl,rfl⟩,λ_ _=>rfl,Dp rfl⟩
      ·by_cases Ut:b1=p.block
       ·subst Ut;rw[c1];obtain⟨c',q1,q2,q3⟩:=S.ex;refine⟨c',q1,q2,λj hj=>?_⟩;rw[q3 j,A7];rintro⟨q4,q5⟩;exact hj (c3 j q4 (by omega)).1
       ·rw[S.rest b1 Ut];exact V9.refl _ _
      ·simp only[Env.Wm]
       rw[A7];rintro⟨rfl,q4,q5⟩;exact hT (c3 o1 q4 (by omega)).1
     have CO:=PS.Q6 (by simp) R1.fresh;have R2:K9 ((E.re (Cb y 0 t0 0)).Wm p.block (p.off+len * sz) (p.off+len * sz+len' * sz)) ((st.release y).put (some t0) .undef .val) (a.put (some t0) (.slice (some p) (len+len') cap)) w'.heap:=by
      refine⟨R1.size,R1.Aa,R1.CU,R1.n,λq vq hq=>?_,λs' cs' DL=>(R1.j6 s' cs' DL).mono PS CO (by simp) (by simp),λi' ob hi=>(R1.U6 i' ob hi).mono PS CO (by rw[<- R1.n];exact(z0q.1 hi).1) (by simp) (by simp),λb1 o1 Ky=>?_⟩
      ·have h0:=R1.Bf q vq hq;by_cases hqt:t0=q
       ·subst hqt;have B28:t0<(st.release y).tm.length:=by have:=(zdq.1 hq).1;rw[Zx]at this;rw[<- R0.size];exact this
        rw[QL B28 R0.Aa];simp only[RR,L9,RV]
       ·exact h0.mono PS CO (by simp;exact λhh=>absurd hh.symm hqt) (by simp)
      ·have pV:w.heap.size<=b1:=by rw[<- S.size];exact Ky
       simp only[Env.Wm];rw[A7]
       ·exact R1.fresh b1 o1 pV
       ·rintro⟨rfl,-⟩;have:=(zdq.1 c1).1;omega
     have B6o:RR ((E.re (Cb y 0 t0 0)).Wm p.block (p.off+len * sz) (p.off+len * sz+len' * sz)) w'.heap 0 t0 (.list sz (ds++es)) .own (.slice (some p) (len+len') cap):=by
      refine RR.AO ⟨?_,_,_,rfl,λp1 len1 cap1 hq P6=>?_⟩
      ·have B82:=mr;refine NH (by simp;omega) BQ (by simp) (λ_=>hpos) λp1 Yq=>?_;simp only[D8]at Yq;subst Yq;refine⟨λ_=>by rw[hp],SX (((f4.mono mr).mono CO).append ((g4.mono mr).mono CO)) λj q hq=>?_⟩;by_cases hj:j<all.length
       ·rw[z4q hj]at hq;obtain⟨q1,q2⟩:=(f5 p rfl).2 j q hq;exact⟨CO.c _ _ _ (mr.s _ _ q2) q1,CO.s _ _ (mr.s _ _ q2)⟩
       ·rw[z6q (by omega)]at hq;have hal:all.length=len * sz:=by rw[f4.1,f1]
        have a_:j-all.length<all'.length:=(z0q.1 hq).1;obtain⟨c',q1,q2,q3⟩:=S.ex;constructor
        ·unfold hc;rw[q1];show c'[p.off+j]?=some q;rw[q3,C8 (by omega),<- hq];congr 1;omega
        ·simp only[Env.S,Env.Wm]
         rw[C8 (by refine⟨trivial,?_,?_⟩<;>omega)]
      ·simp only[Value.slice.injEq,D8]at hq;obtain⟨rfl,rfl,rfl⟩:=hq;obtain⟨c',q1,q2,q3⟩:=S.ex;refine⟨c',TT,f,q1,by rw[q2];exact c2,λo' h3 h4=>?_⟩;rw[uz]at h3;obtain⟨c4,c5⟩:=c3 o' (by omega) h4;refine⟨?_,c5⟩;simp only[Env.Wm];rw[A7 (by omega)];exact c4
     refine Ay (U9 _ _ AY) (T _ _ _ w' H ?_ (P0.trans (PS.l7 (by rintro T rfl;simp[P5]))) S.out);rw[EE];have R3:=R2.put (dst:=some t0) (d:=.list sz (ds++es)) (m:=.own) (v:=.slice (some p) (len+len') cap) λt1 eG=>by simp only[D8]at eG;subst eG;exact B6o
     rwa [B5g,wT]at R3
 ·-- a new block
  obtain⟨nc,hnc,AY⟩:=run_append_grow (ty:=o.type) (b:=b) hu Bv Ap Ma (by rw[Cq];exact g7) (by rw[Cq,<- ev];exact f7) RQ BQ (by omega) Uu;rw[<- ev]at AY;have hal:all.length=len * sz:=by rw[f4.1,f1]
  have B24:all'.length=len' * sz:=by rw[g4.1,g1]
  have QF:(Builtin.zeroCells zv.cells (nc-(len+len'))).toList.length=(nc-(len+len')) * sz:=by simp[Builtin.zeroCells,Vu]
  have B3e:(len+len') * sz+(nc-(len+len')) * sz=nc * sz:=by rw[<- zqq];congr 1;omega
  have uz:(len+len') * sz=len * sz+len' * sz:=zqq _ _ _;generalize hzc:(Builtin.zeroCells zv.cells (nc-(len+len'))).toList=zc at AY QF;have P1:Pr (λ_=>False) E w.heap (E.newRow w.heap.size ((len+len') * sz) (nc * sz) (.sp 0 t0 0)) (w.heap.push (.cells (all++all'++zc).toArray e)):=by refine Pr.push (λb1 o1 Ky _=>?_) (zbq _) (λ_ _ _=>⟨rfl,rfl,rfl⟩) (λ_ _=>rfl) (Dp rfl);simp only[Env.newRow];rw[A7 (by omega)]
  have CO:=P1.Q6 (by simp) Rl.fresh;have R0:K9 E (st.release y) a w.heap:=Rl.release (x:=y) (f:=id) λ_ _=>rfl;have R1:=R0.push P1 rfl λb1 o1 Ky=>by simp only[zXq]at Ky;simp only[Env.newRow];rw[A7 (by omega)];exact Rl.fresh b1 o1 (by omega)
  refine Ay (U9 _ _ AY) (T _ _ _ (w.drew.alloc (.cells (all++all'++zc).toArray e)) H ?_ (P1.l7 (by simp)));rw[EE];refine R1.put λt1 eG=>?_;simp only[D8]at eG;subst eG;have Gm:∀(j:Nat),hc (w.heap.push (.cells (all++all'++zc).toArray e)) w.heap.size j=(all++all'++zc)[j]?:=λj=>by rw[jr];simp
  refine RR.AO ⟨?_,_,_,rfl,λp1 len1 cap1 hq P6=>?_⟩
  ·refine NH (by simp;omega) hnc (by simp) (λ_=>hpos) λp1 Yq=>?_;simp only[D8]at Yq;subst Yq;refine⟨λ_=>rfl,SX ((f4.mono CO).append (g4.mono CO)) λj q hq=>?_⟩;have hj:j<(all++all').length:=(z0q.1 hq).1;have P8:j<(len+len') * sz:=by simp at hj;omega
   constructor
   ·show hc _ w.heap.size (0+j)=_;rw[zfq,Gm,z4q hj];exact hq
   ·simp only[Env.S,Env.newRow,zfq,F6]
    rw[C8 P8]
  ·simp only[Value.slice.injEq,D8]at hq;obtain⟨rfl,rfl,rfl⟩:=hq;refine⟨_,e,(0,0),Jl,by simp;omega,λo' h3 h4=>⟨?_,by simp⟩⟩;simp only[zfq]at h3 h4;simp only[Env.newRow,F6];rw[A7 (by omega),C8 h4]
end
end Go.Su

/-
 THE DATA MACHINE: slices whose last elements are open.
-/
namespace Go.Su
set_option linter.defProp false
variable {sz:Nat}
def lJ{d e:DV}{p:List DV×List DV}(h:Jy sz d e=some p):∃ds es,d=.list sz ds/\e=.list sz es/\ds.length+es.length<=R9/\0<es.length/\p=(ds,es):=by
 unfold Jy at h;split at h
 ·obtain⟨⟨⟨h1,h2⟩,h3,h4⟩,h9⟩:=M3 h;simp only[D8]at h9;subst h1 h2;exact⟨_,_,rfl,rfl,h3,h4,h9.symm⟩
 ·simp at h
variable (E:Env)
def Env.B6Y(b off lo hi:Nat):Env :={ E with obj:=λi=>if i=E.n then b else E.obj i,base:=λi=>if i=E.n then off else E.base i,top:=λi=>if i=E.n then hi else E.top i,n:=E.n+1,Q7:=λi=>if i=E.n then 0 else E.Q7 i,O:=λb' o=>if b'=b/\lo<=o/\o<hi then .obj E.n else E.O b' o }
def Env.B6X(b lo hi:Nat):Env :={ E with obj:=λi=>if i=E.n then b else E.obj i,base:=λi=>if i=E.n then 0 else E.base i,top:=λi=>if i=E.n then hi else E.top i,n:=E.n+1,Q7:=λi=>if i=E.n then 0 else E.Q7 i,O:=λb' o=>if b'=b then(if o<lo then .Q6 else if o<hi then .obj E.n else .other)else E.O b' o }
section
variable {X:Type}{C:BV}{R:O7}{o:Oper}{st:St}{k:St->Option X}{x:X}{E:Env}{a:Act}{w:World}{K:Act->World->Prop}{Q:Exit->Act->World->Prop}{h:Heap}
def B1G{E:Env}{i b off cap:Nat}{ds es:List DV}{all':List Value}{c:Array Value}{T:TypeId}{f:Nat×Nat}(ho:E.obj i=b)(hb:E.base i=off)(ht:E.top i=off+cap * sz)(hpos:0<sz)(hc:h[b]?=some (.cells c T f))(BQ:ds.length+es.length<=cap)(IJ:off+cap * sz<=c.size)(tags:∀o,off+ds.length * sz<=o->o<off+cap * sz->E.O b o=.obj i/\¬(f.1<=o/\o<f.2))(pre:∀(j:Nat) d,ds[j]?=some d->Elem E.S h sz b (off+j * sz) d)(G:Ib E.S h sz es all')(cells:∀(j:Nat) u,all'[j]?=some u->c[off+ds.length * sz+j]?=some u):RO E h i (.opn sz ds es):=by
 simp only[RO];rw[ho,hb,ht];refine⟨c,T,f,hc,?_,IJ,hpos,tags,pre,λj d hd=>?_⟩
 ·have:=z9q sz BQ;omega
 ·obtain⟨vs,v1,v2,v3⟩:=G.2 j d hd;refine⟨vs,v1,λy u hu=>?_,v3⟩;have:=cells _ u (v2 y u hu);rw[zqq]
  rwa [show off+(ds.length * sz+j * sz)+y=off+ds.length * sz+(j * sz+y)by omega]
variable {fl:H8}
def A17{c:Call}{y v:Operand}{t u:TypeId}(F7:o.op=.call c)(yI:c.callee=.builtin .append)(ha:c.args.toList=[y,v])(ht:c.argTypes.toList=[t,u])(d_:I8 fl.opn o.dst=true)(QB:I8 fl.Oe o.dst=false)(PL:I8 fl.Db o.dst=false)(H:Dn C fl o y v t u st k=some x)(Rl:K9 E st a w.heap)(T:Then E w k x K):Gp C.P o a w K:=by
 unfold Dn at H;rw[A7 (by rw[QB];simp),A7 (by rw[PL];simp)]at H;obtain⟨r,h1,H⟩:=D5 H;obtain⟨s,h2,H⟩:=D5 H;obtain⟨sz,Cw,H⟩:=D5 H;obtain⟨hc,H⟩:=H6 H;rw[C8 d_]at H;obtain⟨d2,hd,H⟩:=D5 H;simp only[zaq]at hc;obtain⟨⟨NQ,Uv⟩,EE⟩:=hc;obtain⟨t0,EE⟩:=zwq.1 EE;obtain⟨e,e',z,inf,zv,hu,Bv,hz,HZ,hpos,Ap,Uu,RQ,Vu⟩:=UO Cw;obtain⟨ds,es,hr,hs,YN,hne,rfl⟩:=lJ hd;simp only at H;have e1:=Rl.src h1;have e2:=(Rl.src h2).data Uv;have zy:RV E.S w.heap r.1 (a.eval y):=e1.data (by revert NQ;cases r.2<;>simp[Mc,K8]);rw[hr]at zy;rw[hs]at e2;obtain⟨b,len,cap,all,ev,f1,f2,f3,f4,f5,f6,f7⟩:=Ku (P:=C.P) zy;obtain⟨b',len',cap',all',ev',g1,g2,g3,g4,g5,g6,g7⟩:=Ku (P:=C.P) e2;have Cq:inf.size=sz:=by obtain⟨i',d',q1,-,q2,-⟩:=IU hz;rw[Ap]at q1;simp only[D8]at q1;rw[<- HZ,q2,q1]
 have U9:∀v' w',(Builtin.append_ #[t,u] o.type #[a.eval y,a.eval v]).run C.P w=.ok v' w'->(execOp a.eval o).run C.P w=.ok (.value v') w':=by intro v' w' hv;refine Gy F7 yI ?_;rw[OJ ht,show c.args.map a.eval=#[a.eval y,a.eval v]from by rw[OJ ha];simp];exact CK hv
 rw[EE]at H;have Ma:Builtin.lenOf (a.eval v)=pure len':=by rw[ev'];rfl
 have B1m:ds.length+es.length<=4294967296:=YN;have m_:=g4.one hpos;have hn:=Rl.n;by_cases BQ:len+len'<=cap
 ·-- it fits: the slice's own memory is written
  have R0:=Rl.release (x:=y) (f:=Cb y 0 t0 0) λT hT=>GV hT;have P0:Pr P5 E w.heap (E.re (Cb y 0 t0 0)) w.heap:=Pr.re λT hT=>GV λt b _ he=>hT (by rw[he];simp[P5]);have mr:AL E.S w.heap (E.re (Cb y 0 t0 0)).S w.heap:=LG (GV (by simp));have hsp:∀p,b=some p->len<cap->∃cc TT f,w.heap[p.block]?=some (.cells cc TT f)/\p.off+cap * sz<=cc.size /\
   ∀o',p.off+len * sz<=o'->o'<p.off+cap * sz->(E.re (Cb y 0 t0 0)).O p.block o'=.sp 0 t0 0/\¬(f.1<=o'/\o'<f.2):=by
   intro p hp P6;subst hp;have bC:r.2=.own:=by
    revert NQ e1;cases r.2<;>intro NQ e1<;>simp only[Mc,z7q]at NQ
    ·simp only[RR,L9]at e1;obtain⟨-,⟨q,n,hq⟩,-⟩:=e1;rw[ev]at hq;simp only[Value.slice.injEq]at hq;omega
    ·rfl
   rw[bC]at e1;simp only[RR,L9]at e1;obtain⟨-,sz',ds',hl,hS⟩:=e1;rw[hr]at hl;simp only[DV.list.injEq]at hl;obtain⟨cc,TT,f,c1,c2,c3⟩:=hS p len cap ev P6;rw[<- hl.1]at c2 c3;refine⟨cc,TT,f,c1,c2,λo' h3 h4=>?_⟩;obtain⟨c4,c5⟩:=c3 o' h3 h4;refine⟨?_,c5⟩;have hy:∃i,y=.tmp i:=by
    cases y with
    |tmp i=>exact⟨i,rfl⟩
    |const v=>exact absurd bC (dK h1).1
    |func f=>simp only[src,D8]at h1;subst h1;simp at bC
    |global g=>simp[src]at h1
   obtain⟨i,rfl⟩:=hy;simp only[Env.re];rw[c4];simp[Cb,eZ]
  have hln:0<len':=by omega
  cases b with
  |none=>have:=f3 rfl;omega
  |some p=>
    obtain⟨hp,f5'⟩:=f5 p rfl;have hp:=hp (by omega);obtain⟨cc,TT,f,c1,c2,c3⟩:=hsp p rfl (by omega);have B7P:all'.length=len' * sz:=by rw[g4.1,g1]
    have hmul:(len+len') * sz<=cap * sz:=z9q _ BQ;have uz:(len+len') * sz=len * sz+len' * sz:=zqq _ _ _;have B7T:0<len' * sz:=y8q hln hpos;obtain⟨w',hw,S⟩:=JX (P:=C.P) (b:=p.block) (T:=TT) (f:=f) (p.off+len * sz) all' cc 0 w c1 (by omega) m_ (λo' h3 h4=>(c3 o' (by omega) (by omega)).2);have AY:(Builtin.append_ #[t,u] o.type #[a.eval y,a.eval v]).run C.P w=.ok (.slice (some p) (len+len') cap) w':=by rw[ev];refine IM hu Bv Ap Ma (by rw[Cq];exact g7 w rfl) BQ ?_;rw[Cq,hp,Addr.add_lit];exact hw
    simp only[zBq]at S;have R1:K9 (E.re (Cb y 0 t0 0)) ((st.release y).put (some t0) .undef .val) (a.put (some t0) (.slice (some p) (len+len') cap)) w.heap:=R0.put λt1 _=>by simp only[RR,L9,RV]
    let E2:=(E.re (Cb y 0 t0 0)).B6Y p.block p.off (p.off+len * sz) (p.off+cap * sz)
    have A5C:E2.n=E.n+1:=rfl;have PS:Pr (λT=>T=.sp 0 t0 0) (E.re (Cb y 0 t0 0)) w.heap E2 w'.heap:=by
     refine⟨zJq S.size.symm,λb1 Ky=>?_,λb1 o1 Ky hT=>?_,y9q _,λi hi _=>?_,λ_ _=>rfl,Ws rfl⟩
     ·by_cases Ut:b1=p.block
      ·subst Ut;rw[c1];obtain⟨c',q1,q2,q3⟩:=S.ex;refine⟨c',q1,q2,λj hj=>?_⟩;rw[q3 j,A7];rintro⟨q4,q5⟩;exact hj (c3 j q4 (by omega)).1
      ·rw[S.rest b1 Ut];exact V9.refl _ _
     ·show(if _ then _ else _)=_;rw[A7];rintro⟨rfl,q4,q5⟩;exact hT (c3 o1 q4 q5).1
     ·have hi':i≠(E.re (Cb y 0 t0 0)).n:=y2q hi;refine⟨?_,?_,?_⟩<;>(show(if _ then _ else _)=_;rw[A7 hi'])
    have CO:=PS.Q6 (by simp) R1.fresh;have oE:E2.obj E.n=p.block:=C8 rfl;have bE:E2.base E.n=p.off:=C8 rfl;have tE:E2.top E.n=p.off+cap * sz:=C8 rfl;have R2:K9 E2 { (st.release y).put (some t0) .undef .val with sg:=st.sg++[E5.opn sz ds es] } (a.put (some t0) (.slice (some p) (len+len') cap)) w'.heap:=by
     have sgR:(st.release y).sg=st.sg:=by cases y<;>rfl
     refine⟨R1.size,R1.Aa,R1.CU,by simp[A5C,hn],λq vq hq=>?_,λs' cs' DL=>(R1.j6 s' cs' DL).mono PS CO (by simp) (by simp),λi' ob hi=>?_,λb1 o1 Ky=>?_⟩
     ·have h0:=R1.Bf q vq hq;by_cases hqt:t0=q
      ·subst hqt;have B28:t0<(st.release y).tm.length:=by have:=(zdq.1 hq).1;rw[Zx]at this;rw[<- R0.size];exact this
       have hg:(St.get { (st.release y).put (some t0) .undef .val with sg:=st.sg++[E5.opn sz ds es] } t0)=(.undef,.val):=QL B28 R0.Aa;rw[hg];simp only[RR,L9,RV]
      ·exact h0.mono PS CO (by simp;exact λhh=>absurd hh.symm hqt) (by simp)
     ·by_cases P6:i'<st.sg.length
      ·have hi:((st.release y).put (some t0) .undef .val).sg[i']?=some ob:=by have hi:(st.sg++[E5.opn sz ds es])[i']?=some ob:=hi;rw[z4q P6]at hi;rw[kR,sgR];exact hi
       exact(R1.U6 i' ob hi).mono PS CO (by rw[<- R1.n];exact(z0q.1 hi).1) (by simp) (by simp)
      ·have hi:(st.sg++[E5.opn sz ds es])[i']?=some ob:=hi;have Mx:i'=st.sg.length:=by have:=(z0q.1 hi).1;simp at this;omega
       subst Mx;simp only[z6q (zbq _),y0q,zgq,D8]at hi;subst hi;rw[hn];obtain⟨c',q1,q2,q3⟩:=S.ex;have hf1:=f1;have hg1:=g1;subst hf1;refine B1G (cap:=cap) (all':=all') oE bE tE hpos q1 (by omega) (by rw[q2];exact c2) (λo' h3 h4=>⟨?_,(c3 o' h3 h4).2⟩) (λj d hd=>?_) ((g4.mono mr).mono CO) λj u hu=>?_
       ·show(if _ then _ else _)=_;rw[C8 ⟨rfl,h3,h4⟩];rfl
       ·obtain⟨b0,len0,cap0,QD,-,-,-,xI⟩:=KQ zy;rw[ev]at QD;simp only[Value.slice.injEq]at QD;obtain⟨rfl,-,-⟩:=QD;exact((EJ.1 (xI.2 p rfl).2 j d hd).mono mr).mono CO
       ·have a_:j<all'.length:=(z0q.1 hu).1;rw[q3,C8 (by omega),<- hu];congr 1;omega
     ·have pV:w.heap.size<=b1:=by rw[<- S.size];exact Ky
      show(if _ then _ else _)=_;rw[A7]
      ·exact R1.fresh b1 o1 pV
      ·rintro⟨rfl,-⟩;have:=(zdq.1 c1).1;omega
    refine Ay (U9 _ _ AY) (T _ _ _ w' H ?_ (P0.trans (PS.l7 (by rintro T rfl;simp[P5]))) S.out);rw[EE];have R3:=R2.put (dst:=some t0) (d:=.undef) (m:=.arr st.sg.length sz 0 (ds.length+es.length)) (v:=.slice (some p) (len+len') cap) λt1 eG=>by
     refine RR.AO ⟨⟨by rw[A5C,hn];omega,by rw[hn];exact C8 rfl⟩,some p,cap,by rw[f1,g1],λ_=>?_,by omega,by simp,λq hq=>?_,λ_=>?_⟩
     ·rw[hn,oE,bE,zKq,zBq,<- hp]
     ·simp only[D8]at hq;rw[<- hq,hp]
     ·rw[hn,bE,tE,zfq];exact zbq _
    rw[wT]at R3;have e3:St.put { (st.release y).put (some t0) .undef .val with sg:=st.sg++[E5.opn sz ds es] } (some t0) .undef (.arr st.sg.length sz 0 (ds.length+es.length))=St.put { st.release y with sg:=st.sg++[E5.opn sz ds es] } (some t0) .undef (.arr st.sg.length sz 0 (ds.length+es.length)):=by simp[St.put,ynq]
    rwa [e3]at R3
 ·-- a new block
  obtain⟨nc,hnc,AY⟩:=run_append_grow (ty:=o.type) (b:=b) hu Bv Ap Ma (by rw[Cq];exact g7) (by rw[Cq,<- ev];exact f7) RQ BQ (by omega) Uu;rw[<- ev]at AY;have hal:all.length=len * sz:=by rw[f4.1,f1]
  have B24:all'.length=len' * sz:=by rw[g4.1,g1]
  have QF:(Builtin.zeroCells zv.cells (nc-(len+len'))).toList.length=(nc-(len+len')) * sz:=by simp[Builtin.zeroCells,Vu]
  have B3e:(len+len') * sz+(nc-(len+len')) * sz=nc * sz:=by rw[<- zqq];congr 1;omega
  have uz:(len+len') * sz=len * sz+len' * sz:=zqq _ _ _;generalize hzc:(Builtin.zeroCells zv.cells (nc-(len+len'))).toList=zc at AY QF
  let E2:=E.B6X w.heap.size (len * sz) (nc * sz)
  have A5C:E2.n=E.n+1:=rfl;have oE:E2.obj E.n=w.heap.size:=C8 rfl;have bE:E2.base E.n=0:=C8 rfl;have tE:E2.top E.n=nc * sz:=C8 rfl;have P1:Pr (λ_=>False) E w.heap E2 (w.heap.push (.cells (all++all'++zc).toArray e)):=by
   refine Pr.push (λb1 o1 Ky _=>?_) (y9q _) (λi hi _=>?_) (λ_ _=>rfl) (Ws rfl)
   ·show(if _ then _ else _)=_;rw[A7 (by omega)]
   ·have hi':i≠E.n:=y2q hi;refine⟨?_,?_,?_⟩<;>(show(if _ then _ else _)=_;rw[A7 hi'])
  have CO:=P1.Q6 (by simp) Rl.fresh;have R0:K9 E (st.release y) a w.heap:=Rl.release (x:=y) (f:=id) λ_ _=>rfl;have sgR:(st.release y).sg=st.sg:=by cases y<;>rfl
  have Gm:∀(j:Nat),hc (w.heap.push (.cells (all++all'++zc).toArray e)) w.heap.size j=(all++all'++zc)[j]?:=λj=>by rw[jr];simp
  have R2:K9 E2 { st.release y with sg:=st.sg++[E5.opn sz ds es] } a (w.heap.push (.cells (all++all'++zc).toArray e)):=by
   refine⟨R0.size,R0.Aa,R0.CU,by simp[A5C,hn],λq vq hq=>(R0.Bf q vq hq).mono P1 CO (by simp) (by simp),λs' cs' DL=>(R0.j6 s' cs' DL).mono P1 CO (by simp) (by simp),λi' ob hi=>?_,λb1 o1 Ky=>?_⟩
   ·by_cases P6:i'<st.sg.length
    ·have hi:(st.release y).sg[i']?=some ob:=by have hi:(st.sg++[E5.opn sz ds es])[i']?=some ob:=hi;rw[z4q P6]at hi;rw[sgR];exact hi
     exact(R0.U6 i' ob hi).mono P1 CO (by rw[<- R0.n];exact(z0q.1 hi).1) (by simp) (by simp)
    ·have hi:(st.sg++[E5.opn sz ds es])[i']?=some ob:=hi;have Mx:i'=st.sg.length:=by have:=(z0q.1 hi).1;simp at this;omega
     subst Mx;simp only[z6q (zbq _),y0q,zgq,D8]at hi;subst hi;rw[hn];have hf1:=f1;subst hf1;refine B1G (cap:=nc) (all':=all') oE bE (by rw[tE,zfq]) hpos Jl (by omega) (by simp;omega) (λo' h3 h4=>⟨?_,by simp⟩) (λj d hd=>?_) (g4.mono CO) λj u hu=>?_
     ·show(if _ then _ else _)=_;rw[C8 rfl,A7 (by omega),C8 (by omega)]
     ·obtain⟨vs,v1,v2,v3⟩:=f4.2 j d hd;refine⟨vs,v1,λy' u hu=>?_,v3.mono CO⟩;have hy':y'<sz:=by have:=(z0q.1 hu).1;omega
      have h5:=v2 y' u hu;have h6:j * sz+y'<all.length:=(z0q.1 h5).1;refine⟨?_,?_⟩
      ·rw[zfq,Gm,zLq,z4q h6];exact h5
      ·show(if _ then _ else _)=_;rw[C8 rfl,zfq,C8 (by omega)]
     ·have a_:j<all'.length:=(z0q.1 hu).1;rw[zfq,zMq,zLq,z6q (by omega),z4q (by omega),<- hu];congr 1;omega
   ·simp only[zXq]at Ky;show(if _ then _ else _)=_;rw[A7 (by omega)];exact Rl.fresh b1 o1 (by omega)
  refine Ay (U9 _ _ AY) (T _ _ _ (w.drew.alloc (.cells (all++all'++zc).toArray e)) H ?_ (P1.l7 (by simp)));rw[EE];refine R2.put λt1 eG=>?_;refine RR.AO ⟨⟨by rw[A5C,hn];omega,by rw[hn];exact C8 rfl⟩,some ⟨w.heap.size,0,none⟩,nc,by rw[f1,g1],λ_=>?_,by omega,by simp,λq hq=>?_,λ_=>?_⟩
  ·rw[hn,oE,bE,zKq,zBq]
  ·simp only[D8]at hq;rw[<- hq]
  ·rw[hn,bE,tE,zfq,zfq];exact zbq _
def Env.kV(E:Env)(i lo:Nat)(tg:Tag):Env:={ E with O:=λb o=>if E.O b o=.obj i then(if o<lo then .Q6 else tg)else E.O b o }
def nY(E:Env)(h:Heap)(i lo:Nat)(tg:Tag):Pr (λT=>T=.obj i) E h (E.kV i lo tg) h:=by refine⟨zbq _,λ_ _=>V9.refl _ _,λb o _ hT=>?_,zbq _,λ_ _ _=>⟨rfl,rfl,rfl⟩,λ_ _=>rfl,Dp rfl⟩;show(if _ then _ else _)=_;rw[A7 hT]
def uO{i:Nat}{pre ds:List DV}{tg:Tag}{v:Value}(hf:∀b o,h.size<=b->E.O b o=.other)(H:RO E h i (.opn sz pre ds))(G:L9 E h tg .undef (.arr i sz 0 (pre.length+ds.length)) v)(hne:0<pre.length+ds.length)(tg':Tag):
 L9 (E.kV i (E.base i+(pre.length+ds.length) * sz) tg') h tg' (.list sz (pre++ds)) .own v:=by
 have P:=nY E h i (E.base i+(pre.length+ds.length) * sz) tg';have J5:=P.Q6 (by simp) hf;simp only[RO]at H;obtain⟨c,T,f,h1,h2,RL,hz,h3,h4,h5⟩:=H;simp only[L9]at G;obtain⟨g1,b,cap,rfl,g2,g3,g4,g5,g6⟩:=G;have g2:=g2 hne;have g6:=g6 hne;subst g2;simp only[zKq,zBq,zfq]at g6 ⊢;have q0:(pre.length+ds.length) * sz<=cap * sz:=z9q _ g3;refine⟨?_,sz,pre++ds,rfl,λp len1 cap1 hq P6=>?_⟩
 ·refine NH (by simp) g3 (by simp) (λ_=>hz) λp hp=>?_;simp only[D8]at hp;subst hp;refine⟨λ_=>rfl,EJ.2 λj d hd=>?_⟩;by_cases hj:j<pre.length
  ·rw[z4q hj]at hd;exact(h4 j d hd).mono J5
  ·rw[z6q (by omega)]at hd;have hjd:j-pre.length<ds.length:=(z0q.1 hd).1;obtain⟨vs,v1,v2,v3⟩:=h5 _ d hd;have ej:pre.length+(j-pre.length)=j:=by omega
   rw[ej]at v2;refine⟨vs,v1,λy u hu=>?_,v3.mono J5⟩;have hy:y<sz:=by have:=(z0q.1 hu).1;omega
   have q1:pre.length * sz<=j * sz:=z9q _ (by omega);have q2:j * sz+y<(pre.length+ds.length) * sz:=by
    calc j * sz+y<j * sz+sz:=by omega
     _=(j+1) * sz:=by rw[zAq]
     _<=(pre.length+ds.length) * sz:=z9q _ (by omega)
   refine⟨?_,?_⟩
   ·unfold hc;rw[h1];exact v2 y u hu
   ·have e0:(E.kV i (E.base i+(pre.length+ds.length) * sz) tg').O (E.obj i) (E.base i+j * sz+y)=.Q6:=by show(if _ then _ else _)=_;rw[C8 (h3 (E.base i+j * sz+y) (by omega) (by omega)).1,C8 (by omega)]
    exact e0
 ·simp only[Value.slice.injEq,D8]at hq;obtain⟨rfl,rfl,rfl⟩:=hq;refine⟨c,T,f,h1,by simp only;omega,λo' h6 h7=>?_⟩;simp only at h6 h7;have q1:pre.length * sz<=(pre.length+ds.length) * sz:=z9q _ (by omega);obtain⟨q2,q3⟩:=h3 o' (by omega) (by omega);refine⟨?_,q3⟩;show(if _ then _ else _)=_;rw[C8 q2,A7 (by omega)]
def oz{q:Nat×List DV×List DV}{len:Nat}{d:DV}(h:Sl q sz len=some d):q.1=sz/\q.2.1.length+q.2.2.length=len/\0<len/\d=.list sz (q.2.1++q.2.2):=by unfold Sl at h;obtain⟨⟨h1,h2,h3⟩,h⟩:=M3 h;simp only[D8]at h;exact⟨h1,h2,h3,h.symm⟩
def A9c{r:Nat}(H:Zc r st k=some x)(Rl:K9 E st a h):∃E' st',k st'=some x/\K9 E' st' a h/\Pr P5 E h E' h:=by
 unfold Zc at H;split at H
 ·rename_i i sz len hm;obtain⟨q,hq,H1⟩:=D5 H;obtain⟨d,hd,H9⟩:=D5 H1;clear H H1;obtain⟨sz',pre,ds⟩:=q;obtain⟨c1,c2,c3,rfl⟩:=oz hd;simp only at c1 c2;subst c1 c2;have hq:=nV hq;have B:=Rl.U6 i _ hq;have hi:i<E.n:=by rw[<- Rl.n];exact(z0q.1 hq).1
  have IW:=(z0q.1 hq).1
  let E':=E.kV i (E.base i+(pre.length+ds.length) * sz') (.sp 0 r 0)
  have P:Pr (λT=>T=.obj i) E h E' h:=nY E h i _ _;have J5:=P.Q6 (by simp) Rl.fresh;refine⟨E',_,H9,?_,P.l7 (by rintro T rfl;simp[P5])⟩;refine⟨by rw[VL];exact Rl.size,by rw[VL,A6m];exact Rl.Aa,by rw[VL,kQ];exact Rl.CU,?_,λt v hv=>?_,λs cs hs=>?_,λj ob hj=>?_,λb o hb=>?_⟩
  ·rw[kR,zyq];exact Rl.n
  ·have h0:=Rl.Bf t v hv;by_cases ht:r=t
   ·subst ht;have P6:r<st.tm.length:=by have:=(zdq.1 hv).1;rw[<- Rl.size];exact this
    rw[QL (st:={ st with sg:=st.sg.set i (.arr 1 []) }) P6 Rl.Aa];rw[hm]at h0;simp only[RR]at h0;exact RR.AO (uO (tg:=.sp 0 r 0) Rl.fresh B (by simpa only[L9]using h0) c3 _)
   ·rw[YR ht];exact h0.mono P J5 (by simp) (by simp)
  ·rw[kQ]at hs;exact(Rl.j6 s cs hs).mono P J5 (by simp) (by simp)
  ·rw[kR]at hj;by_cases RP:i=j
   ·subst RP;rw[z2q IW]at hj;simp only[D8]at hj;subst hj;exact λhne=>absurd rfl hne
   ·rw[z1q RP]at hj;exact(Rl.U6 j ob hj).mono P J5 (by rw[<- Rl.n];exact(z0q.1 hj).1) (by simp;exact λh=>RP h.symm) (by simp)
  ·show(if _ then _ else _)=_;rw[Rl.fresh b o hb,A7 (by simp)]
 ·rename_i b off hm;obtain⟨cs,IJ,H1⟩:=D5 H;obtain⟨q0,hca,H2⟩:=D5 H1;obtain⟨q,hq,H3⟩:=D5 H2;obtain⟨d,hd,H9⟩:=D5 H3;clear H H1 H2 H3;obtain⟨i,sz,len⟩:=q0;obtain⟨sz',pre,ds⟩:=q;obtain⟨c1,c2,c3,rfl⟩:=oz hd;simp only at c1 c2 H9 hq;subst c1 c2;have hq:=nV hq;have IJ:=ZY IJ;have B:=Rl.U6 i _ hq;have BX:=Rl.U6 b _ IJ;have IW:=(z0q.1 hq).1;have B25:=(z0q.1 IJ).1;have hib:i≠b:=by rintro rfl;rw[hq]at IJ;cases IJ
  obtain⟨d0,WU⟩:∃d0,cs[off]?=some (d0,.arr i sz' 0 (pre.length+ds.length)):=by
   unfold um at hca;split at hca
   ·rename_i d0 i0 sz0 len0 heq;simp only[D8,Prod.mk.injEq]at hca;obtain⟨rfl,rfl,rfl⟩:=hca;exact⟨d0,heq⟩
   ·cases hca
  let E':=E.kV i (E.base i+(pre.length+ds.length) * sz') (.sp 2 b off)
  have P:Pr (λT=>T=.obj i) E h E' h:=nY E h i _ _;have J5:=P.Q6 (by simp) Rl.fresh;refine⟨E',_,H9,?_,P.l7 (by rintro T rfl;simp[P5])⟩;refine⟨Rl.size,Rl.Aa,Rl.CU,?_,λt v hv=>(Rl.Bf t v hv).mono P J5 (by simp) (by simp),λs cs' hs=>(Rl.j6 s cs' hs).mono P J5 (by simp) (by simp),λj ob hj=>?_,λb' o hb=>?_⟩
  ·simp only[zyq];exact Rl.n
  ·by_cases RP:i=j
   ·subst RP;rw[z2q (by simpa using IW)]at hj;simp only[D8]at hj;subst hj;exact λhne=>absurd rfl hne
   ·rw[z1q RP]at hj;by_cases hbj:b=j
    ·subst hbj;rw[z2q B25]at hj;simp only[D8]at hj;subst hj;simp only[RO]at BX ⊢;have B6x:=(z0q.1 WU).1;obtain⟨c,T,e1,e2,e3,e4⟩:=BX.mono P J5 (by simp;exact λh=>hib h.symm) (by simp);refine⟨c,T,e1,by simpa using e2,e3,λy r' v hr hv=>?_⟩;by_cases hy:off=y
     ·subst hy;rw[z2q B6x]at hr;simp only[D8]at hr;subst hr;obtain⟨c0,T0,f1,f2,f3,f4⟩:=BX;have MW:c0=c:=by have Ie:h[E.obj b]?=some (.cells c T (0,0)):=e1;rw[f1]at Ie;simp only[D8,Obj.cells.injEq]at Ie;exact Ie.1
      subst MW;obtain⟨g1,g2,g3,g4⟩:=f4 off _ v WU hv;exact⟨rfl,g2,rfl,uO (tg:=.sp 2 b off) Rl.fresh B (by simpa only[L9]using g4) c3 _⟩
     ·rw[z1q hy]at hr;exact e4 y r' v hr hv
    ·rw[z1q hbj]at hj;exact(Rl.U6 j ob hj).mono P J5 (by rw[<- Rl.n];exact(z0q.1 hj).1) (by simp;exact λh=>RP h.symm) (by simp)
  ·show(if _ then _ else _)=_;rw[Rl.fresh b' o hb,A7 (by simp)]
 ·cases H
def K9.B6T(Rl:K9 E st a h){i off:Nat}{cs:List (DV×F4)}(hb:st.sg[i]?=some (.box cs))(MW:cs[off]?=some (.list sz [],.full))(hpos:0<sz):
 K9 E.Eh { st with sg:=st.sg.set i (.box (cs.set off (.list sz [],.U2 st.sg.length 1 sz)))++[.U2 1 sz 0] } a h/\Pr P5 E h E.Eh h:=by
 have hn:=Rl.n;have vE:E.Eh.Q7 E.n=1:=C8 rfl;have P1:Pr (λ_=>False) E h E.Eh h:=by
  refine⟨zbq _,λ_ _=>V9.refl _ _,λ_ _ _ _=>rfl,y9q _,λj hj _=>?_,λ_ _=>rfl,λj hj=>?_⟩
  ·have P8:j≠E.n:=y2q hj;refine⟨rfl,?_,?_⟩<;>(show(if _ then _ else _)=_;rw[A7 P8])
  ·have:E.Eh.Q7 j=E.Q7 j:=A7 (y2q hj);rw[this];exact⟨id,zbq _,λ_=>rfl⟩
 have J5:=P1.Q6 (by simp) Rl.fresh;have IW:=(z0q.1 hb).1;refine⟨⟨Rl.size,Rl.Aa,Rl.CU,by simp[Env.Eh,hn],λu v hu=>(Rl.Bf u v hu).mono P1 J5 (by simp) (by simp),λs' cs' hs=>(Rl.j6 s' cs' hs).mono P1 J5 (by simp) (by simp),λi' ob hi=>?_,Rl.fresh⟩,P1.l7 (by simp)⟩;by_cases P6:i'<st.sg.length
 ·rw[z4q (by simpa using P6)]at hi;by_cases CY:i=i'
  ·subst CY;simp only[z2q IW,D8]at hi;subst hi;obtain⟨cv,T,h1,h2,h3,h4⟩:=(Rl.U6 i _ hb:RO E h i (.box cs)).mono P1 J5 (by rw[<- hn];exact P6) (by simp) (by simp);refine⟨cv,T,h1,by simpa using h2,h3,λj r v' hr TU=>?_⟩;by_cases hj:off=j
   ·subst hj;have B29:=(z0q.1 MW).1;rw[z2q B29]at hr;simp only[D8]at hr;subst hr;obtain⟨a1,a2,a3,a4⟩:=h4 off _ v' MW TU;refine⟨rfl,a2,rfl,?_⟩;simp only[L9]at a4 ⊢;obtain⟨k1,⟨x,m,rfl⟩,-⟩:=a4;have k2:=k1;obtain⟨b0,len0,cap0,QD,q1,-,q3,-⟩:=KQ k2;simp only[Value.slice.injEq]at QD;obtain⟨rfl,rfl,rfl⟩:=QD;have hm0:m=0:=by simpa using q1
    subst hm0;exact⟨k1,⟨[],rfl⟩,by rw[hn];exact ykq _,by omega,by rw[hn,vE];exact zbq _,x,0,0,rfl,λ_ h=>by omega⟩
   ·rw[z1q hj]at hr;exact h4 j r v' hr TU
  ·rw[z1q CY]at hi;exact(Rl.U6 i' ob hi).mono P1 J5 (by rw[<- hn];exact P6) (by simp) (by simp)
 ·have Mx:i'=st.sg.length:=by have:=(z0q.1 hi).1;simp at this;omega
  subst Mx;rw[z6q (by simp)]at hi;simp only[zyq,y0q,zgq,D8]at hi;subst hi;have e1:E.Eh.top E.n=0:=C8 rfl;have e2:E.Eh.base E.n=0:=C8 rfl;refine⟨by rw[hn];exact vE,Nat.one_pos,hpos,.inl ⟨rfl,?_⟩⟩;rw[hn,e1,e2]
def A2P{h:Heap}{b:Nat}:∀{os:List Nat}{st:St}{E:Env}{g:List E5},Pz st.sg b os=some g->K9 E st a h->∃E',K9 E' { st with sg:=g } a h/\Pr P5 E h E' h
 |[],st,E,g,H,Rl=>by simp only[Pz,D8]at H;subst H;exact⟨E,Rl,Pr.refl _ _ _⟩
 |o::os,st,E,g,H,Rl=>by
   simp only[Pz]at H;obtain⟨cs,hb,H⟩:=D5 H;split at H
   ·rename_i sz hc;obtain⟨hpos,H⟩:=M3 H;obtain⟨R1,P1⟩:=Rl.B6T (ZY hb) hc hpos;obtain⟨E2,R2,P2⟩:=A2P H R1;exact⟨E2,R2,P1.trans P2⟩
   ·cases H
def A2N{id:Nat}(H:Us fl id st k=some x)(Rl:K9 E st a h):∃E' st',k st'=some x/\K9 E' st' a h/\Pr P5 E h E' h:=by
 unfold Us at H;split at H
 ·unfold A0A at H;split at H
  ·obtain⟨g,hg,H⟩:=D5 H;obtain⟨E2,R2,P2⟩:=A2P hg Rl;exact⟨E2,_,H,R2,P2⟩
  ·cases H
 ·exact⟨E,st,H,Rl,Pr.refl _ _ _⟩
def zt{id:Nat}(H:IA fl id st k=some x)(Rl:K9 E st a h):∃E' st',k st'=some x/\K9 E' st' a h/\Pr P5 E h E' h:=by
 unfold IA at H;split at H
 ·obtain⟨E1,st1,H1,R1,P1⟩:=A9c H Rl;obtain⟨E2,st2,H2,R2,P2⟩:=A2N H1 R1;exact⟨E2,st2,H2,R2,P1.trans P2⟩
 ·exact A2N H Rl
end
end Go.Su

/-
 THE DATA MACHINE, part 17: calls.
-/
namespace Go.Su
set_option linter.defProp false
structure Ext(S:AU)(h:Heap)(S':AU)(h':Heap):Prop where
 size:h.size<=h'.size
 blk:∀b,b<h.size->h'[b]?=h[b]?
 s:∀b o,b<h.size->(S' b o↔S b o)
 fresh:∀b o,h'.size<=b->¬S' b o
variable (P:Program)(f:FuncId)(ds:List DV)
def B0F(d:DV):Prop :=∀(S:AU)(w:World)(vs:List Value),(∀b o,w.heap.size<=b->¬S b o)->Re S w.heap ds vs->Calls P f vs.toArray w λe w'=>∃v S',e=.returned v/\Ext S w.heap S' w'.heap/\RV S' w'.heap d v/\Y9 w w'
def A82(E:Env)(h:Heap)(i:Nat)(k:MK)(d:DV)(v:Value):Prop :=
 match k with
 |.val=>RV E.S h d v
 |.own=>L9 E h (.sp 3 i 0) d .own v
 |.ptr=>L9 E h .other (Mh .ptr d).1 (Mh .ptr d).2 v
 |.YH n os=>RR E h 3 i d (.EM ((List.range n).map λi=>if os.contains i then .own else .val)) v
def A81(E:Env)(h:Heap)(ks:List MK)(ds:List DV)(v:Value):Prop :=ds.length=ks.length/\∃vs:List Value,vs.length=ks.length/\v=(match vs with | [u]=>u | _=>.tuple vs.toArray) /\∀(i:Nat) k d u,ks[i]?=some k->ds[i]?=some d->vs[i]?=some u->A82 E h i k d u
def B33(s:l8)(rs:List (DV×F4))(sg:List E5)(q:List DV×List E5):Prop :=
 ∀(E:Env)(w:World)(vs:List Value),(∀b o,w.heap.size<=b->E.O b o=.other)->sg.length=E.n->(∀(i:Nat) ob,sg[i]?=some ob->RO E w.heap i ob)->vs.length=rs.length->
   (∀(i:Nat) r v,rs[i]?=some r->vs[i]?=some v->RR E w.heap 0 i r.1 r.2 v)->
   Calls P f vs.toArray w λe w'=>Y9 w w'/\∃v E',e=.returned v/\Pr P5 E w.heap E' w'.heap/\(∀b o,w'.heap.size<=b->E'.O b o=.other)/\q.2.length=E'.n/\(∀(i:Nat) ob,q.2[i]?=some ob->RO E' w'.heap i ob)/\A81 E' w'.heap s.results q.1 v
def isGo:Bool :=
 match P.funcs[f]? with
 |some fn=>fn.name != "runtime.NumGoroutine"&&fn.body.isSome
 |none=>false
def ug(sz:Nat):Prop :=∀(S:AU)(w:World)(v:Value)(ds:List DV),ds.length<=R9->(∀b o,w.heap.size<=b->¬S b o)->RV S w.heap (.list sz ds) v->Calls P f #[v] w λe w'=>∃(a:Option Addr)(b off cap:Nat),e=.returned (.slice a ds.length cap)/\(ds≠[]->a=some ⟨b,off,none⟩)/\ds.length<=cap/\(a=none->cap=0)/\(∀x,a=some x->x.spot=none)/\w.heap.size<=w'.heap.size/\Y9 w w'/\(∀b',b'<w.heap.size->w'.heap[b']?=w.heap[b']?) /\(ds≠[]->w.heap.size<=b/\∃c T,w'.heap[b]?=some (.cells c T (0,0))/\off+ds.length * sz<=c.size/\0<sz /\∀(j:Nat) d,ds[j]?=some d->∃vs:List Value,vs.length=sz/\(∀(x:Nat) u,vs[x]?=some u->c[off+j * sz+x]?=some u)/\RC S w'.heap d vs)
def A80(g:FuncId)(n:Nat):Prop :=∀(w:World)(vs:Array Value),vs.size=n->Calls P f #[.agg vs] w λe w'=>e=.returned (.func (.func g) #[] #[.pointer (some ⟨w.heap.size,0,none⟩)])/\∃T,w'=w.alloc (.cells vs T)
structure PX(n:Nat)(E:Env)(w w':World):Prop where
 size:w.heap.size<=w'.heap.size
 blk:∀b,b<w.heap.size->w'.heap[b]?=w.heap[b]?\/(n<=b/\(∃c T f c',w.heap[b]?=some (.cells c T f)/\w'.heap[b]?=some (.cells c' T f)/\c'.size=c.size)/\∀o,E.O b o=.other)
 out:Y9 w w'
def zK(g:FuncId)(it:List DV->Option (List DV)):Prop :=
 ∀(cs ds:List DV),it cs=some ds->∀(n l b:Nat)(c:Array Value)(T0:TypeId)(J:Nat->Env->World->Prop)(Jx:World->Prop)(E:Env)(W:World),
   W.heap[b]?=some (.cells c T0 (0,0))->(∀o,o<c.size->E.O b o=.other)->E_ E.S W.heap cs c.toList->
   (∀k E' W',J k E' W'->∀b o,W'.heap.size<=b->E'.O b o=.other)->
   (∀k E' W1 W2,J k E' W1->PX W.heap.size E' W1 W2->J k E' W2)->
   (∀k E' W1 d v,J k E' W1->ds[k]?=some d->RV E'.S W1.heap d v->YieldAt Fence.wide n P l #[v] W1 λe W2=>(e=.returned (.bool true)/\∃E2,J (k+1) E2 W2/\Pr P5 E' W1.heap E2 W2.heap)\/(e=.returned (.bool false)/\Jx W2))->
   J 0 E W->CallsIn Fence.wide n P g #[.func (.yield l) #[] #[],.pointer (some ⟨b,0,none⟩)] W λe W'=>(∃v,e=.returned v)/\((∃E',J ds.length E' W')\/Jx W')
structure Il(C:BV)(R:O7):Prop where
 p:∀f ds d,R.p f ds=some d->isGo C.P f=true/\B0F C.P f ds d
 r:∀f rs sg q,R.r f rs sg=some q->∃s,C.sig f=some s/\isGo C.P f=true/\B33 C.P f s rs sg q
 c:∀f,C.clone f=true->isGo C.P f=true/\ug C.P f (C.ib f)
 m:∀f g,C.eQ f=some g->isGo C.P f=true/\A80 C.P f g (C.ib f)
 i:∀g it,C.iter g=some it->isGo C.P g=true/\zK C.P g it
structure uj(E E':Env)(tg tg':Tag):Prop where
 hs:∀b o,E.O b o=.Q6->E'.O b o=.Q6
 ht:∀b o,E.O b o=tg->E'.O b o=tg'
 obj:E'.obj=E.obj
 base:E'.base=E.base
 n:E'.n=E.n
 top:E'.top=E.top
 Q7:E'.Q7=E.Q7
variable {E:Env}{E':Env}{tg:Tag}{h:Heap}
def uj.le{tg':Tag}(T:uj E E' tg tg'):AL E.S h E'.S h:=⟨λb o hs=>T.hs b o hs,λ_ _ _ _ hv=>hv⟩
variable {d:DV}{m:F4}{v:Value}
def L9.to{tg':Tag}(T:uj E E' tg tg')(hl:∀s o,m ≠ .loc s o)(R:L9 E h tg d m v):L9 E' h tg' d m v:=by
 have J5:=T.le (h:=h);have hI:E'.In=E.In:=by funext i;simp only[Env.In,T.n,T.Q7]
 cases m<;>simp only[L9]at R ⊢
 case val=>exact R.mono J5
 case full=>exact⟨R.1.mono J5,R.2⟩
 case own=>obtain⟨r1,sz,ds,r2,r3⟩:=R;refine⟨r1.mono J5,sz,ds,r2,λx len cap hv P6=>?_⟩;obtain⟨c,T',g,e1,e2,e3⟩:=r3 x len cap hv P6;refine⟨c,T',g,e1,e2,λo ho ho'=>?_⟩;obtain⟨e4,e5⟩:=e3 o ho ho';exact⟨T.ht _ _ e4,e5⟩
 case loc s o=>exact absurd rfl (hl s o)
 case QO ag sz o=>obtain⟨b,o0,r1,r2,r3⟩:=R;exact⟨b,o0,r1,r2.mono J5,r3⟩
 case ptr i o=>rw[T.obj,hI];exact R
 case KI=>exact R
 case map i=>rw[T.obj,hI];exact R
 case RY=>exact R
 case arr i sz off len=>rw[T.obj,hI,T.base,T.top];exact R
 case opt i sz idx=>rw[T.obj,hI,T.base];exact R
 case Xd i sz idx o=>rw[T.obj,hI,T.base];exact R
 case P7 i n sz len=>rw[T.obj,T.n,T.base,T.top,T.Q7];exact R
 case fJ i n sz idx o=>rw[T.obj,T.n,T.base,T.Q7];exact R
 case fn f caps=>rw[T.obj,hI];exact R
 case U2 i n sz=>rw[T.obj,T.n,T.base,T.top,T.Q7];exact⟨R.1.mono J5,R.2⟩
 case Ha ks=>obtain⟨r0,b,clk,r1,r2,r3⟩:=R;exact⟨r0,b,clk,r1,r2,λo=>T.ht _ _ (r3 o)⟩
def RO.to{i:Nat}{ob:E5}(T:uj E E' (.obj i) (.obj i))(hs:∀j b o,E.O b o=.sp 2 i j->E'.O b o=.sp 2 i j)(R:RO E h i ob):RO E' h i ob:=by
 have J5:=T.le (h:=h);cases ob with
 |box cs=>
   simp only[RO]at R ⊢;obtain⟨c,T0,h1,h2,h3,h4⟩:=R;rw[T.obj];refine⟨c,T0,h1,h2,λo=>?_,λj r v hr hv=>?_⟩
   ·rcases h3 o with h5 | h5
    ·exact .inl (T.ht _ _ h5)
    ·exact .inr h5
   ·obtain⟨a1,a2,a3,a4⟩:=h4 j r v hr hv;exact⟨a1,a2,a3,a4.to ⟨T.hs,hs j,T.obj,T.base,T.n,T.top,T.Q7⟩ λs o hm=>by rw[hm]at a3;simp[Z4]at a3⟩
 |arr sz ds=>simp only[RO]at R ⊢;intro hne;obtain⟨c,T0,h1,h2,h3,h4,h5⟩:=R hne;rw[T.obj,T.base];refine⟨c,T0,h1,h2,h3,λo q1 q2=>T.ht _ _ (h4 o q1 q2),λj d hd=>?_⟩;obtain⟨vs,v1,v2,v3⟩:=h5 j d hd;exact⟨vs,v1,v2,v3.mono J5⟩
 |opn sz pre ds=>simp only[RO]at R ⊢;obtain⟨c,T0,f,h1,h2,RL,hz,h3,h4,h5⟩:=R;rw[T.obj,T.base,T.top];refine⟨c,T0,f,h1,h2,RL,hz,λo q1 q2=>⟨T.ht _ _ (h3 o q1 q2).1,(h3 o q1 q2).2⟩,λj d hd=>(h4 j d hd).mono J5,λj d hd=>?_⟩;obtain⟨vs,v1,v2,v3⟩:=h5 j d hd;exact⟨vs,v1,v2,v3.mono J5⟩
 |P7 n sz ds=>
   simp only[RO]at R ⊢;obtain⟨hv,hn,hz,R⟩:=R;rw[T.obj,T.base,T.top,T.Q7];refine⟨hv,hn,hz,?_⟩;rcases R with R | ⟨c,T0,f,h1,h2,RL,h3,h5⟩
   ·exact .inl R
   right;refine⟨c,T0,f,h1,h2,RL,λo q1 q2=>⟨T.ht _ _ (h3 o q1 q2).1,(h3 o q1 q2).2⟩,λj d hd=>?_⟩;obtain⟨vs,v1,v2,v3⟩:=h5 j d hd;exact⟨vs,v1,v2,v3.mono J5⟩
 |U2 n sz len=>
   simp only[RO]at R ⊢;obtain⟨hv,hn,hz,R⟩:=R;rw[T.obj,T.base,T.top,T.Q7];refine⟨hv,hn,hz,?_⟩;rcases R with R | ⟨c,T0,f,h1,h2,RL,h3⟩
   ·exact .inl R
   ·exact .inr ⟨c,T0,f,h1,h2,RL,λo q1 q2=>⟨T.ht _ _ (h3 o q1 q2).1,(h3 o q1 q2).2⟩⟩
 |map ks es=>simp only[RO]at R ⊢;obtain⟨ens,clk,h1,h2,⟨h3,h4⟩,h5⟩:=R;rw[T.obj];exact⟨ens,clk,h1,λo=>T.ht _ _ (h2 o),⟨h3,λj e n g1 g2=>let⟨a1,a2,a3⟩:=h4 j e n g1 g2;⟨a1,a2.mono J5,a3.mono J5⟩⟩,h5⟩
def St.FN(st:St)(sg:List E5):St:={ st with sg }
section
variable {X:Type}{C:BV}{R:O7}{o:Oper}{st:St}{k:St->Option X}{x:X}{E:Env}{a:Act}{w:World}{K:Act->World->Prop}{Q:Exit->Act->World->Prop}{h':Heap}
def K9.ext(Rl:K9 E st a h)(P:Pr (λ_=>False) E h E' h')(hn:E'.n=E.n)(hf:∀b o,h'.size<=b->E'.O b o=.other):K9 E' st a h':=by have J5:=P.Q6 (by simp) Rl.fresh;exact⟨Rl.size,Rl.Aa,Rl.CU,by rw[hn];exact Rl.n,λt v hv=>(Rl.Bf t v hv).mono P J5 (by simp) (by simp),λs cs hs=>by rw[P.gD s (by simp)];exact(Rl.j6 s cs hs).mono P J5 (by simp) (by simp),λi ob hi=>(Rl.U6 i ob hi).mono P J5 (by rw[<- Rl.n];exact(z0q.1 hi).1) (by simp) (by simp),hf⟩
open Classical in
noncomputable def Env.after(E:Env)(n:Nat)(S':AU):Env:={ E with O:=λb o=>if b<n then E.O b o else if S' b o then .Q6 else .other }
variable {S':AU}
def B2t(H:Ext E.S h S' h'):Pr (λ_=>False) E h (E.after h.size S') h':=by refine⟨H.size,λb hb=>by rw[H.blk b hb];exact V9.refl _ _,λb o hb _=>?_,zbq _,λ_ _ _=>⟨rfl,rfl,rfl⟩,λ_ _=>rfl,Dp rfl⟩;simp only[Env.after];rw[C8 hb]
def B2u(H:Ext E.S h S' h'):AL S' h' (E.after h.size S').S h':=by
 refine⟨λb o hs=>?_,λ_ _ _ _ hv=>hv⟩;simp only[Env.S,Env.after]
 by_cases hb:b<h.size
 ·rw[C8 hb];exact(H.s b o hb).1 hs
 ·rw[A7 hb,C8 hs]
variable {f:FuncId}
def oL{args:Array Value}(hr:(execOp a.eval o).run C.P w=.ok (.enter f args) w)(hc:Calls C.P f args w λe w'=>∃v,e=.returned v/\K (a.put o.dst v) w'):Gp C.P o a w K :=.inr (.inr ⟨f,args,hr,hc⟩)
variable {P:Program}
def uM(h:isGo P f=true)(args:Array Value)(w:World):(callFunc f args).run P w=.ok (.enter f args) w:=by
 unfold isGo at h;split at h
 ·rename_i fn hf;simp only[zaq,bne_iff_ne,ne_eq]at h;unfold callFunc;obtain⟨c,hc⟩:=zwq.1 h.2;simp[hf,h.1,hc]
 ·simp at h
variable {ts:List TypeId}{xs:List Operand}{rs:List (DV×F4)}
def A3o(Rl:K9 E st a w.heap)(h:KM P st ts xs=some rs):rs.length=xs.length/\∀(i:Nat) r v,rs[i]?=some r->(xs.map a.eval)[i]?=some v->
 ∃y t,xs[i]?=some y/\v=a.eval y/\src P t st y=some r/\RR E w.heap 0 (eZ y) r.1 r.2 v:=by
 obtain⟨l1,l2⟩:=fE h;refine⟨l1,λi r v hr hv=>?_⟩;simp only[zxq,znq]at hv;obtain⟨y,hy,rfl⟩:=hv;obtain⟨t,ht⟩:=l2 i y r hy hr;exact⟨y,t,hy,rfl,ht,Rl.src ht⟩
def B3M{vs:List Value}(hO:Il C R)(U9:(execOp a.eval o).run C.P w=.ok (.enter f vs.toArray) w)(hl:rs.length=vs.length)(hrs:∀(i:Nat) r v,rs[i]?=some r->vs[i]?=some v->∃p q,RR E w.heap p q r.1 r.2 v)(H:og (rs.all λr=>K8 r.2) (ob (R.p f (rs.map (·.1))) λd=>k (st.put o.dst d .val))=some x)(Rl:K9 E st a w.heap)(T:Then E w k x K):Gp C.P o a w K:=by
 obtain⟨hd,H⟩:=H6 H;obtain⟨d,QA,H⟩:=D5 H;refine oL U9 (((hO.p f _ d QA).2 E.S w vs (λb o hb hs=>by have h9:=Rl.fresh b o hb;rw[show E.O b o=Tag.Q6 from hs]at h9;cases h9) (WB.2 ⟨by simpa using hl,λi d' v Eg hv=>?_⟩)).mono ?_)
 ·simp only[zxq,znq]at Eg;obtain⟨r,hr,rfl⟩:=Eg;obtain⟨p,q,h⟩:=hrs i r v hr hv;exact h.data (zlq.1 hd r (zkq hr))
 ·rintro e w' ⟨v,S',he,hE,hR,WV⟩;have P1:=B2t hE;refine⟨v,he,T _ _ _ w' H ((Rl.ext P1 rfl λb o hb=>?_).put λt0 _=>?_) (P1.l7 (by simp)) WV⟩
  ·simp only[Env.after]
   have:=hE.size;rw[A7 (by omega),A7 (hE.fresh b o hb)]
  ·exact RR.val (hR.mono (B2u hE))
def Bo:Tag->Tag
 |.Q6=>.Q6
 |.obj i=>.obj i
 |.sp 2 i j=>.sp 2 i j
 |.sp 4 i b=>.sp 0 i b
 |_=>.other
def WF(t:Nat)(one:Bool):Tag->Tag
 |.Q6=>.Q6
 |.obj i=>.obj i
 |.sp 2 i j=>.sp 2 i j
 |.sp 3 i 0=>.sp 0 t (if one then 0 else i+1)
 |.sp 3 _ (b+1)=>if one then .sp 0 t (b+1)else .other
 |_=>.other
open Classical in
noncomputable def Env.back(E E1:Env)(n:Nat)(t:Nat)(one:Bool):Env :={ E1 with blk:=E.blk,O:=λb o=>if b<n/\Bo (E.O b o)=.other then E.O b o else WF t one (E1.O b o) }
def Z_(g:Option (Nat×Operand))(T:Tag):Tag :=
 match g with
 |some p=>eT p.2 4 p.1 T
 |none=>T
def pz:∀{ks:List MK}{xs:List Operand}{i0:Nat}{p:Nat×Operand},GQ i0 ks xs=some p->i0<=p.1/\(∃k,ks[p.1-i0]?=some k/\Dt k=true)/\xs[p.1-i0]?=some p.2
 |[],xs,i0,p,h=>by simp[GQ]at h
 |k::ks,[],i0,p,h=>by simp[GQ]at h
 |k::ks,y::xs,i0,p,h=>by
   simp only[GQ]at h;split at h
   ·rename_i hk;simp only[D8]at h;subst h;exact⟨zbq _,⟨k,by simp,hk⟩,by simp⟩
   ·obtain⟨h1,h2,h3⟩:=pz h;have:p.1-i0=(p.1-(i0+1))+1:=by omega
    exact⟨by omega,by rw[this];simpa using h2,by rw[this];simpa using h3⟩
def kM:∀{ks:List MK}{xs:List Operand}{i0 i:Nat}{k:MK}{y:Operand},(ks.filter Dt).length<=1->ks[i]?=some k->Dt k=true->xs[i]?=some y->GQ i0 ks xs=some (i0+i,y)
 |[],xs,i0,i,k,y,_,h,_,_=>by simp at h
 |k0::ks,[],i0,i,k,y,_,_,_,h=>by simp at h
 |k0::ks,z::xs,i0,0,k,y,_,h,hk,h2=>by simp only[zgq,D8]at h h2;subst h h2;simp[GQ,hk]
 |k0::ks,z::xs,i0,i+1,k,y,hl,h,hk,h2=>by
   simp only[zrq]at h h2;have B8C:k∈ks.filter Dt:=List.mem_filter.2 ⟨zkq h,hk⟩;have hpos:0<(ks.filter Dt).length:=List.length_pos_of_mem B8C;have hk0:¬Dt k0=true:=by intro h0;simp only[ylq,h0,F6,zzq]at hl;omega
   have:=kM (i0:=i0+1) (xs:=xs) (by simpa[ylq,hk0]using hl) h hk h2;simp only[GQ,A7 hk0];rw[this];congr 2;omega
def xY:∀{ks:List MK}{rs:List (DV×F4)}{i:Nat}{r:DV×F4},(JY ks rs)[i]?=some r->∃r0,rs[i]?=some r0/\r.1=r0.1/\((∃k,ks[i]?=some k/\Dt k=true/\r.2=YB r0.2 k)\/((∀k,ks[i]?=some k->Dt k=false)/\r.2=Ye r0.2))
 |[],rs,i,r,h=>by simp only[JY,zxq,znq]at h;obtain⟨r0,h1,rfl⟩:=h;exact⟨r0,h1,rfl,.inr ⟨by simp,rfl⟩⟩
 |k::ks,[],i,r,h=>by simp[JY]at h
 |k::ks,r0::rs,0,r,h=>by
   simp only[JY,zgq,D8]at h;subst h;refine⟨r0,rfl,rfl,?_⟩;cases k
   ·exact .inr ⟨by simp[Dt],rfl⟩
   ·exact .inl ⟨_,rfl,rfl,rfl⟩
   ·exact .inr ⟨by simp[Dt],rfl⟩
   ·exact .inl ⟨_,rfl,rfl,rfl⟩
 |k::ks,r0::rs,i+1,r,h=>by simp only[JY,zrq]at h;obtain⟨q,h1,h2,h3⟩:=xY h;exact⟨q,by simpa using h1,h2,by simpa using h3⟩
def kW:∀{ks:List MK}{rs:List (DV×F4)},(JY ks rs).length=rs.length
 |[],rs=>by simp[JY]
 |k::ks,[]=>by simp[JY]
 |k::ks,r::rs=>by simp[JY,kW]
def A81.back{E1:Env}{ks:List MK}{ds:List DV}{t:Nat}(R:A81 E1 h ks ds v)(Am:A4r ks=true)(T:∀i,uj E1 E' (.sp 3 i 0) (.sp 0 t (if ks.length=1 then 0 else i+1)))(T2:ks.length=1->∀b,uj E1 E' (.sp 3 0 (b+1)) (.sp 0 t (b+1))):
 RR E' h 0 t (OT ks ds).1 (OT ks ds).2 v:=by
 obtain⟨hl,vs,hv,rfl,H⟩:=R;unfold OT;split
 ·rename_i k;simp only[zzq,y5q,zfq]at hl hv T T2;obtain⟨d,rfl⟩:=zpq.1 hl;obtain⟨u,rfl⟩:=zpq.1 hv;have:=H 0 k d u rfl rfl rfl;simp only[List.getD_cons_zero];cases k with
  |val=>exact RV.mono (T 0).le d this
  |own=>exact RR.AO (L9.to (T 0) (m:=.own) (by simp) this)
  |ptr=>
    have key:∀m:F4,m.owns=false->(∀s o,m ≠ .loc s o)->L9 E1 h .other (Mh .ptr d).1 m u->L9 E' h (.sp 0 t 0) (Mh .ptr d).1 m u:=by intro m h1 h2 h3;exact L9.to (T 0) h2 (h3.tag h1)
    have hm:(Mh .ptr d).2.owns=false/\∀s o,(Mh .ptr d).2 ≠ .loc s o:=by
     unfold Mh;constructor
     ·simp only;split<;>simp[F4.owns]
     ·intro s o;simp only;split<;>simp
    exact RR.AO (key _ hm.1 hm.2 this)
  |YH n os=>simp only[A82,RR,Mh]at this ⊢;obtain⟨ds,us,h1,h2,h3,h4,h5⟩:=this;refine⟨ds,us,h1,h2,h3,h4,λi m' d' u' e1 e2 e3=>?_⟩;obtain⟨a1,a2,a3,a4⟩:=h5 i m' d' u' e1 e2 e3;exact⟨a1,a2,a3,L9.to (T2 trivial i) (λs o hm=>by rw[hm]at a3;simp[Z4]at a3) a4⟩
 ·rename_i hne;have B3a:ks.length≠1:=λh=>by obtain⟨k,hk⟩:=zpq.1 h;exact hne k hk
  have tH:∀k∈ks,k=.val\/k=.own:=by intro k hk;unfold A4r at Am;simp only[ypq,beq_iff_eq,B3a,false_or]at Am;have:=zlq.1 Am k hk;cases k<;>simp_all
  have hvt:(match vs with | [u]=>u | _=>Value.tuple vs.toArray)=.tuple vs.toArray:=by
   split
   ·simp only[zzq,y5q,zfq]at hv;exact absurd hv.symm B3a
   ·rfl
  rw[hvt];simp only[RR];refine⟨ds,vs.toArray,rfl,rfl,by simp[hl],by simp[hv],λi m' d' u e1 e2 e3=>?_⟩;simp only[zxq,znq]at e1;obtain⟨k,hk,rfl⟩:=e1;have:=H i k d' u hk e2 (by simpa using e3);have T1:=T i;rw[A7 B3a]at T1;rcases tH k (zkq hk)with rfl | rfl
  ·exact⟨rfl,RV.mono T1.le d' this⟩
  ·exact⟨rfl,L9.to T1 (m:=.own) (by simp) this⟩
variable {g:Option (Nat×Operand)}
theorem Ed{T:Tag}(h:∀p s b,g=some p->p.2=.tmp s->T ≠ .sp 0 s b):Z_ g T=T:=by
 unfold Z_;split
 ·rename_i p;exact QI λs b hs=>h p s b rfl hs
 ·rfl
def A7I(Rl:K9 E st a h):K9 (E.re (Z_ g)) (st.JU g) a h:=by
 cases g with
 |none=>simp only[St.JU];exact(Rl.release (x:=.const .nilIface) (f:=Z_ none) λT _=>rfl)
 |some p=>exact Rl.release λT hT=>Ed λp' s b hp hs=>by simp only[D8]at hp;subst hp;exact hT s b hs
def B4J(h:K8 m=true):K8 (dm m)=true:=by
 cases m<;>first | rfl | (simp[K8]at h;done) | skip
 rename_i ms;simp only[K8,dm,List.all_map]at h ⊢;refine zlq.2 λm hm=>?_;have:=zlq.1 h m hm;cases m<;>simp_all[Xc]
def B59{E:Env}{k a:Nat}(R:RR E h k a d m v):RR E h k a d (Ye m) v:=by
 unfold Ye;split
 ·rename_i hd;exact RR.val (R.data hd)
 ·exact R.dm
def A27:∀{os:List Nat}{ms:List F4}{i0 i:Nat}{m:F4},(eX os i0 ms)[i]?=some m->∃m0,ms[i]?=some m0/\m=if os.contains (i0+i)then PQ m0 else Ye m0
 |os,[],i0,i,m,h=>by simp[eX]at h
 |os,m0::ms,i0,0,m,h=>by simp only[eX,zgq,D8]at h;exact⟨m0,rfl,h.symm⟩
 |os,m0::ms,i0,i+1,m,h=>by simp only[eX,zrq]at h;obtain⟨m1,h1,h2⟩:=A27 h;exact⟨m1,by simpa using h1,by rw[h2,zQq,Nat.add_comm 1 i]⟩
def bM:∀{os:List Nat}{ms:List F4}{i0:Nat},(eX os i0 ms).length=ms.length
 |os,[],i0=>rfl
 |os,m::ms,i0=>by simp[eX,bM]
def L9.PQ{E:Env}(R:L9 E h tg d m v):L9 E h tg d (Su.PQ m) v:=by cases m<;>first | exact R | exact R.mg
def L9.Ye{E:Env}(hm:Z4 m=true)(R:L9 E h tg d m v):L9 E h tg d (Su.Ye m) v/\Z4 (Su.Ye m)=true:=by
 unfold Su.Ye;split
 ·rename_i hd;refine⟨?_,rfl⟩;have Eg:Xv m=true:=by cases m<;>simp_all[K8,Z4,Xv]
  exact iT Eg R
 ·exact⟨R.Be hm,(Su.Be hm).2.1⟩
def A26{E:Env}{k a:Nat}{q:MK}(hq:Dt q=true)(R:RR E h k a d m v):RR E h k a d (YB m q) v:=by
 cases q with
 |val=>cases hq
 |ptr=>cases hq
 |own=>
   by_cases hm:m=.full
   ·subst hm;exact RR.AO (L9.mg (RR.uW (by simp) (by simp) R))
   ·have:YB m .own=m:=by unfold YB;split<;>simp_all
    rw[this];exact R
 |YH n os=>
   by_cases hm:∃ms,m=.EM ms
   ·obtain⟨ms,rfl⟩:=hm;simp only[YB,RR]at R ⊢;obtain⟨ds,vs,h1,h2,h3,h4,h5⟩:=R;refine⟨ds,vs,h1,h2,by rw[bM];exact h3,by rw[bM];exact h4,λi m' d' u e1 e2 e3=>?_⟩;obtain⟨m0,g1,rfl⟩:=A27 e1;obtain⟨a1,a2,a3,a4⟩:=h5 i m0 d' u g1 e2 e3;split
    ·exact⟨a1,a2,by cases m0<;>simp_all[Su.PQ,Z4],a4.PQ⟩
    ·exact⟨a1,a2,(a4.Ye a3).2,(a4.Ye a3).1⟩
   ·have:YB m (.YH n os)=Ye m:=by unfold YB;split<;>first | rfl | (rename_i h1 h2;simp_all)
    rw[this];exact B59 R
def B5t{s:l8}{extra:List (DV×F4)}{ev:List Value}(hO:Il C R)(hs:C.sig f=some s)(U9:(execOp a.eval o).run C.P w=.ok (.enter f (xs.map a.eval++ev).toArray) w)(hsr:KM C.P st ts xs=some rs)(xI:extra.length=ev.length)(IK:∀(i:Nat) r v,extra[i]?=some r->ev[i]?=some v->∀p q,RR E w.heap p q r.1 r.2 v/\r.2 ≠ .own/\r.2 ≠ .full)(H:og (((rs++extra).all λr=>B4k r.2)&&decide ((s.params.filter Dt).length<=1)&&A4r s.results)
   (ob (R.r f (JY s.params (rs++extra)) st.sg) λq=>bN s.results q.1 λr=>k (({ st with sg:=q.2 }.JU (GQ 0 s.params xs)).put o.dst r.1 r.2))=some x)(Rl:K9 E st a w.heap)(T:Then E w k x K):Gp C.P o a w K:=by
 obtain⟨hg,H⟩:=H6 H;obtain⟨q,hq,H⟩:=D5 H;have H:=(xV H).1;simp only[zaq,I9]at hg;obtain⟨⟨hgo,bC⟩,B8G⟩:=hg;obtain⟨s',DL,B9g,hR⟩:=hO.r f _ _ q hq;rw[hs]at DL;cases DL;generalize hgd:GQ 0 s.params xs=g at H;have wS:K9 (E.re (Z_ g)) (st.JU g) a w.heap:=A7I Rl;have sg0:(st.JU g).sg=st.sg:=by
  cases g with
  |none=>rfl
  |some p=>simp only[St.JU];cases p.2<;>rfl
 generalize hE0:E.re (Z_ g)=E0 at wS;have E0n:E0.n=E.n:=by rw[<- hE0];rfl
 obtain⟨l1,l2⟩:=A3o Rl hsr;have GH:(xs.map a.eval++ev).length=(JY s.params (rs++extra)).length:=by rw[kW];simp[l1,xI]
 have cs:Bo .Q6=.Q6:=rfl;have co:Bo .other=.other:=rfl;refine oL U9 ((hR (E0.re Bo) w (xs.map a.eval++ev) (λb o hb=>?_) ?_ (λi ob hi=>?_) GH (λi r v hr hv=>?_)).mono ?_)
 ·simp only[Env.re];rw[wS.fresh b o hb];rfl
 ·rw[<- sg0];exact wS.n
 ·have:=wS.U6 i ob (by rw[sg0];exact hi);exact RO.to (E:=E0) ⟨λb o h=>by simp only[Env.re];rw[h];rfl,λb o h=>by simp only[Env.re];rw[h];rfl,rfl,rfl,rfl,rfl,rfl⟩ (λj b o h=>by simp only[Env.re];rw[h];rfl) this
 ·obtain⟨r0,h1,h2,h3⟩:=xY hr;have B6U:∀(p q:Nat)(m:F4),RR E w.heap p q r0.1 m v->RR (E0.re Bo) w.heap 0 i r0.1 (dm m) v:=by
   intro p q m hh;have h1:RR E w.heap 2 0 r0.1 (dm m) v:=hh.dm;have h2:RR E0 w.heap 2 0 r0.1 (dm m) v:=by rw[<- hE0];exact h1.re (Ed (by simp)) (Ed (by simp)) λb=>Ed (by simp)
   have h3:RR (E0.re Bo) w.heap 2 0 r0.1 (dm m) v:=h2.re rfl rfl λb=>rfl;exact h3.A4L
  have B4l:∀(p q:Nat)(m:F4),RR E w.heap p q r0.1 m v->RR (E0.re Bo) w.heap 0 i r0.1 (Ye m) v:=by
   intro p q m hh;have h0:=B6U p q m hh;unfold Ye;split
   ·rename_i hd;exact RR.val (RR.data (B4J hd) h0)
   ·exact h0
  rw[h2];by_cases hi:i<rs.length
  ·rw[z4q hi]at h1;have TU:(xs.map a.eval)[i]?=some v:=by rwa [z4q (by simpa[l1]using hi)]at hv
   obtain⟨y,t,hy,rfl,hsy,hRy⟩:=l2 i r0 v h1 TU;rcases h3 with⟨kk,h4,bB,h5⟩ | ⟨h4,h5⟩
   ·rw[h5];have hp:GQ 0 s.params xs=some (0+i,y):=kM bC h4 bB hy;rw[zfq,hgd]at hp;subst hp;have h6:RR E0 w.heap 4 i r0.1 r0.2 (a.eval y):=by
     rw[<- hE0];by_cases hyt:∃j,y=.tmp j
     ·obtain⟨j,rfl⟩:=hyt;exact hRy.re (Ed (by simp)) (Ed (by simp)) λb=>by simp[Z_,eT,eZ]
     ·exact(K9.A8O hsy (λj hj=>hyt ⟨j,hj⟩) 4 i).re (Ed (by simp)) (Ed (by simp)) λb=>Ed (by simp)
    have h7:RR (E0.re Bo) w.heap 0 i r0.1 r0.2 (a.eval y):=h6.re rfl rfl λb=>rfl;exact A26 bB h7
   ·rw[h5];exact B4l _ _ _ hRy
  ·have hge:rs.length<=i:=zNq hi;rw[z6q hge]at h1;rw[z6q (by simpa[l1]using hge)]at hv;simp only[zUq,<- l1]at hv;obtain⟨h6,h7,h8⟩:=IK _ r0 v h1 hv 2 0;have h9:=B4l 2 0 _ h6;rcases h3 with⟨kk,h4,bB,h5⟩ | ⟨h4,h5⟩
   ·rw[h5];have Ym:RR E0 w.heap 4 i r0.1 r0.2 v:=by rw[<- hE0];exact(IK _ r0 v h1 hv 4 i).1.re (Ed (by simp)) (Ed (by simp)) λb=>Ed (by simp)
    exact A26 bB (Ym.re rfl rfl λb=>rfl)
   ·rw[h5];exact h9
 ·rintro e w' ⟨WV,v,E1,he,P1,hf1,hn1,ho1,B3c⟩;subst he;generalize ht:o.dst.getD 0=t
  let one:Bool:=decide (s.results.length=1)
  have m_:∀i:Nat,(if one=true then 0 else i+1)=(if s.results.length=1 then 0 else i+1):=λi=>by simp[one]
  let E':Env:=E0.back E1 w.heap.size t one
  have B6V:∀b o,E1.O b o ≠ .other->¬(b<w.heap.size/\Bo (E0.O b o)=.other):=by rintro b o h1 ⟨h2,h3⟩;have:=P1.tags b o h2 (by simp only[Env.re];rw[h3];simp[P5]);simp only[Env.re]at this;rw[h3]at this;exact h1 this
  have hO':∀b o T,E1.O b o=T->T ≠ .other->E'.O b o=WF t one T:=by intro b o T h1 h2;show(if b<w.heap.size/\Bo (E0.O b o)=.other then E0.O b o else WF t one (E1.O b o))=_;rw[A7 (B6V b o (by rw[h1];exact h2)),h1]
  have Pc:Pr (λT=>P5 (Bo T)) E0 w.heap E' w'.heap:=by
   refine⟨P1.size,λb hb=>P1.blk b hb,λb o hb hn=>?_,P1.n,λi hi hv=>P1.U6 i hi hv,λ_ _=>rfl,λi hi=>P1.Np i hi⟩;show(if b<w.heap.size/\Bo (E0.O b o)=.other then E0.O b o else WF t one (E1.O b o))=_;by_cases hc:Bo (E0.O b o)=.other
   ·rw[C8 ⟨hb,hc⟩]
   ·rw[A7 λh=>hc h.2];have hsh:Bo (E0.O b o)=.Q6:=by
     by_cases hs:Bo (E0.O b o)=.Q6
     ·exact hs
     ·exact absurd ⟨hc,hs⟩ hn
    have h2:=P1.tags b o hb (by simp only[Env.re];exact hn);simp only[Env.re]at h2;rw[h2,hsh];have:E0.O b o=.Q6:=by revert hsh;unfold Bo;split<;>simp_all
    rw[this];rfl
  have J5:=Pc.Q6 (by simp[P5,Bo]) wS.fresh;have R2:K9 E' ((st.JU g).FN q.2) a w'.heap:=by
   refine⟨wS.size,wS.Aa,wS.CU,hn1,λu v' hu=>?_,λs' cs' DL=>?_,λi ob hi=>?_,λb o hb=>?_⟩
   ·exact(wS.Bf u v' hu).mono Pc J5 (λb=>by simp[P5,Bo]) (λs o _=>by simp[P5,Bo])
   ·exact(wS.j6 s' cs' DL).mono Pc J5 (by simp[P5,Bo]) (λj=>by simp[P5,Bo])
   ·exact(ho1 i ob hi).to ⟨λb o h=>hO' b o _ h (by simp),λb o h=>hO' b o _ h (by simp),rfl,rfl,rfl,rfl,rfl⟩ λj b o h=>hO' b o _ h (by simp)
   ·show(if b<w.heap.size/\Bo (E0.O b o)=.other then E0.O b o else WF t one (E1.O b o))=_;have:=P1.size;rw[A7 (by omega),hf1 b o hb];rfl
  refine⟨v,rfl,T E' _ _ w' ?_ (R2.put (dst:=o.dst) (d:=(OT s.results q.1).1) (m:=(OT s.results q.1).2) (v:=v) λt0 ht0=>?_) ?_ WV⟩
  ·rw[<- H];congr 1;cases g with
   |none=>rfl
   |some p=>simp only[St.JU];cases p.2<;>rfl
  ·have htt:t=t0:=by rw[<- ht,ht0];rfl
   rw[<- htt];exact B3c.back B8G (λi=>⟨λb o h=>hO' b o _ h (by simp),λb o h=>by rw[hO' b o _ h (by simp)];simp only[WF];rw[m_],rfl,rfl,rfl,rfl,rfl⟩)
    λh1 i=>⟨λb o h=>hO' b o _ h (by simp),λb o h=>by rw[hO' b o _ h (by simp)];simp[WF,one,h1],rfl,rfl,rfl,rfl,rfl⟩
  ·have P0:Pr P5 E w.heap E0 w.heap:=by rw[<- hE0];exact Pr.re λT hT=>Ed λp s b _ _ he=>hT (by rw[he];simp[P5])
   refine P0.trans (Pc.l7 λT hT=>⟨λh=>?_,λh=>?_⟩)
   ·rw[h]at hT;simp[P5,Bo]at hT
   ·rw[h]at hT;simp[P5,Bo]at hT
end
end Go.Su

/-
 THE DATA MACHINE: a writable array's elements are cleared.
-/
namespace Go.Su
section
variable {X:Type}{C:BV}{R:O7}{o:Oper}{st:St}{k:St->Option X}{x:X}{E:Env}{a:Act}{w:World}{K:Act->World->Prop}
end
end Go.Su

/-
 THE DATA MACHINE, part 14: vectors grow.
-/
namespace Go.Su
set_option linter.defProp false
section
variable {X:Type}{C:BV}{R:O7}{o:Oper}{st:St}{k:St->Option X}{x:X}{E:Env}{a:Act}{w:World}{K:Act->World->Prop}{Q:Exit->Act->World->Prop}
def Env.A1f(E:Env)(i n:Nat):Env:={ E with Q7:=λj=>if j=i then n else E.Q7 j }
def Env.A8X(E:Env)(i n b hi:Nat):Env :={ E with obj:=λj=>if j=i then b else E.obj j,base:=λj=>if j=i then 0 else E.base j,top:=λj=>if j=i then hi else E.top j,Q7:=λj=>if j=i then n else E.Q7 j,O:=λb' o=>if b'=b then(if o<hi then .obj i else .other)else if E.O b' o=.obj i then .other else E.O b' o }
def B2m{E:Env}{h:Heap}{i b off top n sz:Nat}{ds es:List DV}{all all':List Value}{c:Array Value}{T:TypeId}{f:Nat×Nat}(ho:E.obj i=b)(hb:E.base i=off)(ht:E.top i=top)(hv:E.Q7 i=n)(hn:0<n)(hpos:0<sz)(hc:h[b]?=some (.cells c T f))(BQ:off+(ds.length+es.length) * sz<=top)(IJ:top<=c.size)(tags:∀o,off<=o->o<top->E.O b o=.obj i/\¬(f.1<=o/\o<f.2))(F:Ib E.S h sz ds all)(G:Ib E.S h sz es all')(cells:∀(j:Nat) u,all[j]?=some u->c[off+j]?=some u)(cells':∀(j:Nat) u,all'[j]?=some u->c[off+ds.length * sz+j]?=some u):RO E h i (.P7 n sz (ds++es)):=by
 simp only[RO];rw[ho,hb,ht];refine⟨hv,hn,hpos,.inr ⟨c,T,f,hc,by rw[ygq];exact BQ,IJ,tags,λj d hd=>?_⟩⟩;by_cases hj:j<ds.length
 ·rw[z4q hj]at hd;obtain⟨vs,v1,v2,v3⟩:=F.2 j d hd;exact⟨vs,v1,λy u hu=>by rw[zQq];exact cells _ u (v2 y u hu),v3⟩
 ·rw[z6q (by omega)]at hd;obtain⟨vs,v1,v2,v3⟩:=G.2 _ d hd;refine⟨vs,v1,λy u hu=>?_,v3⟩;have:=cells' _ u (v2 y u hu);have e:j * sz=ds.length * sz+(j-ds.length) * sz:=by rw[<- zqq];congr 1;omega
  rw[e]
  rwa [show off+(ds.length * sz+(j-ds.length) * sz)+y=off+ds.length * sz+((j-ds.length) * sz+y)by omega]
def B30{E:Env}{h:Heap}{i n sz m:Nat}{ds:List DV}(H:RO E h i (.P7 n sz ds))(hm:m<=ds.length):∃all,Ib E.S h sz (ds.take m) all/\∀(j:Nat) u,all[j]?=some u->hc h (E.obj i) (E.base i+j)=some u:=by
 simp only[RO]at H;obtain⟨-,-,hz,H⟩:=H;rcases H with⟨rfl,-⟩ | ⟨c,T,f,h1,h2,RL,h3,h5⟩
 ·have:m=0:=by simpa using hm
  subst this;exact⟨[],⟨by simp,by simp⟩,by simp⟩
 have hmul:m * sz<=ds.length * sz:=z9q _ hm;have Cw:(c.toList.drop (E.base i)).take (m * sz)=(c.toList.drop (E.base i)).take (m * sz):=rfl;refine⟨(c.toList.drop (E.base i)).take (m * sz),⟨?_,λj d hd=>?_⟩,λj u hu=>?_⟩
 ·simp only[zTq,List.length_drop,yfq]
  rw[ymq (by omega),ymq hm]
 ·have hj:j<m:=by have:=(z0q.1 hd).1;simp only[zTq]at this;omega
  rw[zFq hj]at hd;obtain⟨vs,v1,v2,v3⟩:=h5 j d hd;refine⟨vs,v1,λy u hu=>?_,v3⟩;have hy:y<sz:=by have:=(z0q.1 hu).1;omega
  have P6:j * sz+y<m * sz:=by
   calc j * sz+y<j * sz+sz:=by omega
    _=(j+1) * sz:=by rw[zAq]
    _<=m * sz:=z9q _ hj
  rw[zFq P6,yhq,<- zQq,y6q];exact v2 y u hu
 ·have hj:j<m * sz:=by have:=(z0q.1 hu).1;simp only[zTq]at this;omega
  rw[zFq hj,yhq,y6q]at hu;unfold hc;rw[h1];exact hu
variable {fl:H8}
def B3O{c:Call}{y v:Operand}{t u:TypeId}(F7:o.op=.call c)(yI:c.callee=.builtin .append)(ha:c.args.toList=[y,v])(ht:c.argTypes.toList=[t,u])(QB:I8 fl.Oe o.dst=false)(PL:I8 fl.Db o.dst=true)(H:Dn C fl o y v t u st k=some x)(Rl:K9 E st a w.heap)(T:Then E w k x K):Gp C.P o a w K:=by
 unfold Dn at H;rw[A7 (by rw[QB];simp),C8 PL]at H;unfold A0n at H;obtain⟨r,h1,H⟩:=D5 H;obtain⟨s,h2,H⟩:=D5 H;obtain⟨sz,Cw,H⟩:=D5 H;obtain⟨xG,H⟩:=H6 H;simp only[zaq]at xG;obtain⟨Uv,EE⟩:=xG;obtain⟨t0,EE⟩:=zwq.1 EE;obtain⟨e,e',z,inf,zv,hu,Bv,hz,HZ,hpos,Ap,Uu,RQ,Vu⟩:=UO Cw;have e1:=Rl.src h1;have e2:=(Rl.src h2).data Uv;have Cq:inf.size=sz:=by obtain⟨i',d',q1,-,q2,-⟩:=IU hz;rw[Ap]at q1;simp only[D8]at q1;rw[<- HZ,q2,q1]
 have U9:∀v' w',(Builtin.append_ #[t,u] o.type #[a.eval y,a.eval v]).run C.P w=.ok v' w'->(execOp a.eval o).run C.P w=.ok (.value v') w':=by intro v' w' hv;refine Gy F7 yI ?_;rw[OJ ht,show c.args.map a.eval=#[a.eval y,a.eval v]from by rw[OJ ha];simp];exact CK hv
 rw[EE]at H;have hn:=Rl.n;obtain⟨q,hq,H⟩:=D5 H
 ·have hm:=A1e hq;rw[hm]at e1;simp only[RR,L9]at e1;obtain⟨p,hp,H⟩:=D5 H;obtain⟨hg,H⟩:=H6 H;obtain⟨d2,hd,H⟩:=D5 H;simp only[zaq,beq_iff_eq,I9]at hg;obtain⟨⟨g1,g2⟩,g3⟩:=hg;have hpv:=Za hp;clear hp;obtain⟨i,n,sz',len⟩:=q;obtain⟨psz,ds⟩:=p;simp only at g1 g2 g3 hpv e1 H;have g1:=g1.symm;have g2:=g2.symm;subst g1;subst g2;obtain⟨ds',es,hr,hs,YN,hne,rfl⟩:=lJ hd;simp only[DV.list.injEq,true_and]at hr;subst hr;simp only at H;rw[hs]at e2;obtain⟨b',len',cap',all',ev',k1,k2,k3,k4,k5,k6,k7⟩:=Ku (P:=C.P) e2;obtain⟨r1,r2,r3,b,cap,ev,f2,f3,f4,f5⟩:=e1;have B:=Rl.U6 i _ hpv;have BB:=B;simp only[RO]at BB;obtain⟨bv,b0,-,BB⟩:=BB;have f5:=f5 bv;obtain⟨all,F,Fc⟩:=B30 B g3;have P6:(ds.take len).length=len:=by rw[zTq];omega
  have Ma:Builtin.lenOf (a.eval v)=pure len':=by rw[ev'];rfl
  have m_:=k4.one hpos;have hal:all.length=len * sz:=by rw[F.1,P6]
  have B24:all'.length=len' * sz:=by rw[k4.1,k1]
  have IW:=(z0q.1 hpv).1;have hln:0<len':=by omega
  have uz:(len+len') * sz=len * sz+len' * sz:=zqq _ _ _;by_cases BQ:len+len'<=cap
  ·obtain⟨hb,yM⟩:=f5 (by omega);subst hb;have tJ:0<cap * sz:=y8q (by omega) hpos;obtain⟨cc,TT,f,c1,c2,c2',c3,c5⟩:=BB.resolve_left λh=>by have:=h.2;omega
   have hmul:(len+len') * sz<=cap * sz:=z9q _ BQ;obtain⟨w',hw,S⟩:=JX (P:=C.P) (b:=E.obj i) (T:=TT) (f:=f) (E.base i+len * sz) all' cc 0 w c1 (by omega) m_ (λo' h3 h4=>(c3 o' (by omega) (by omega)).2);have AY:(Builtin.append_ #[t,u] o.type #[a.eval y,a.eval v]).run C.P w=.ok (.slice (some ⟨E.obj i,E.base i,none⟩) (len+len') cap) w':=by rw[ev];refine IM hu Bv Ap Ma (by rw[Cq];exact k7 w rfl) BQ ?_;rw[Cq,Addr.add_lit];exact hw
   simp only[zBq]at S;have vE:(E.A1f i (n+1)).Q7 i=n+1:=C8 rfl;have PS:Pr (λT=>T=.obj i) E w.heap (E.A1f i (n+1)) w'.heap:=by
    refine⟨zJq S.size.symm,λb1 Ky=>?_,λb1 o1 Ky hT=>rfl,zbq _,λj hj _=>⟨rfl,rfl,rfl⟩,λ_ _=>rfl,λj hj=>?_⟩
    ·by_cases Ut:b1=E.obj i
     ·subst Ut;rw[c1];obtain⟨c',q1,q2,q3⟩:=S.ex;refine⟨c',q1,q2,λj hj=>?_⟩;rw[q3 j,A7];rintro⟨q4,q5⟩;exact hj (c3 j (by omega) (by omega)).1
     ·rw[S.rest b1 Ut];exact V9.refl _ _
    ·by_cases Vq:j=i
     ·subst Vq;rw[vE];exact⟨λh=>by omega,by omega,λh=>absurd rfl h⟩
     ·have:(E.A1f i (n+1)).Q7 j=E.Q7 j:=A7 Vq;rw[this];exact⟨id,zbq _,λ_=>rfl⟩
   have CO:=PS.Q6 (by simp) Rl.fresh;have R2:K9 (E.A1f i (n+1)) { st with sg:=st.sg.set i (.P7 (n+1) sz (ds.take len++es)) } a w'.heap:=by
    refine⟨Rl.size,Rl.Aa,Rl.CU,by simpa[Env.A1f]using hn,λq vq hq=>(Rl.Bf q vq hq).mono PS CO (by simp) (by simp),λs' cs' DL=>(Rl.j6 s' cs' DL).mono PS CO (by simp) (by simp),λi' ob hi=>?_,λb1 o1 Ky=>Rl.fresh b1 o1 (by rw[<- S.size];exact Ky)⟩;by_cases CY:i=i'
    ·subst CY;simp only[z2q IW,D8]at hi;subst hi;obtain⟨c',q1,q2,q3⟩:=S.ex;refine B2m (all:=all) (all':=all') (off:=E.base i) (top:=E.top i) rfl rfl rfl vE (zCq _) hpos q1 (by rw[P6];rw[<- k1];omega) (by rw[q2];exact c2') (λo' h3 h4=>c3 o' h3 h4) (F.mono CO) (k4.mono CO) (λj u hu=>?_) λj u hu=>?_
     ·have a_:j<all.length:=(z0q.1 hu).1;have:=Fc j u hu;unfold Su.hc at this;rw[c1]at this;rw[q3,A7 (by omega)];exact this
     ·have a_:j<all'.length:=(z0q.1 hu).1;rw[P6,q3,C8 (by omega),<- hu];congr 1;omega
    ·simp only[z1q CY]at hi;exact(Rl.U6 i' ob hi).mono PS CO (CE Rl hi) (by simp;exact λh=>CY h.symm) (by simp)
   refine Ay (U9 _ _ AY) (T _ _ _ w' H ?_ (PS.l7 (by rintro T rfl;simp[P5])) S.out);rw[EE];refine R2.put λt1 eG=>?_;refine RR.AO ⟨r1,zCq _,by rw[vE];exact zbq _,some ⟨E.obj i,E.base i,none⟩,cap,by rw[P6,k1],by rw[P6,<- k1];exact BQ,by simp,λ_ q hq=>?_,λ_ _=>⟨rfl,yM⟩⟩;simp only[D8]at hq;rw[<- hq]
  ·-- a new block
   have B6p:∀w':World,w'.heap=w.heap->(Builtin.firstCells inf.size len (.slice b len cap)).run C.P w'=.ok all.toArray w':=by
    intro w' hw';cases b with
    |none=>have h0:=f3 rfl;have h9:all=[]:=zhq (by rw[hal,show len=0 by omega];simp);rw[h9,show len=0 by omega];rfl
    |some y'=>
      show(loadCells y' (len * inf.size)).run C.P w'=_;rw[Cq];by_cases h0:0<cap
      ·obtain⟨hb,-⟩:=f5 h0;simp only[D8]at hb;rw[<- hal,hb];exact WX (λj u hu=>by rw[hw'];exact Fc j u hu)
      ·have h9:all=[]:=zhq (by rw[hal,show len=0 by omega];simp);rw[h9,show len=0 by omega,zKq];rfl
   obtain⟨nc,hnc,AY⟩:=run_append_grow (ty:=o.type) (b:=b) hu Bv Ap Ma (by rw[Cq];exact k7) B6p RQ BQ (by unfold R9 at YN;rw[P6]at YN;omega) Uu;rw[<- ev]at AY;have QF:(Builtin.zeroCells zv.cells (nc-(len+len'))).toList.length=(nc-(len+len')) * sz:=by simp[Builtin.zeroCells,Vu]
   have B3e:(len+len') * sz+(nc-(len+len')) * sz=nc * sz:=by rw[<- zqq];congr 1;omega
   generalize hzc:(Builtin.zeroCells zv.cells (nc-(len+len'))).toList=zc at AY QF
   let E2:=E.A8X i (n+1) w.heap.size (nc * sz)
   have vE:E2.Q7 i=n+1:=C8 rfl;have oE:E2.obj i=w.heap.size:=C8 rfl;have bE:E2.base i=0:=C8 rfl;have tE:E2.top i=nc * sz:=C8 rfl;have PS:Pr (λT=>T=.obj i) E w.heap E2 (w.heap.push (.cells (all++all'++zc).toArray e)):=by
    refine Pr.push (λb1 o1 Ky hT=>?_) (zbq _) (λj hj hvj=>?_) (λ_ _=>rfl) (λj hj=>?_)
    ·show(if _ then _ else _)=_;rw[A7 (by omega),A7 hT]
    ·have Vq:j≠i:=λh=>by subst h;rw[vE]at hvj;omega
     refine⟨?_,?_,?_⟩<;>(show(if _ then _ else _)=_;rw[A7 Vq])
    ·by_cases Vq:j=i
     ·subst Vq;rw[vE];exact⟨λh=>by omega,by omega,λh=>absurd rfl h⟩
     ·have:E2.Q7 j=E.Q7 j:=A7 Vq;rw[this];exact⟨id,zbq _,λ_=>rfl⟩
   have CO:=PS.Q6 (by simp) Rl.fresh;have Gm:∀(j:Nat),hc (w.heap.push (.cells (all++all'++zc).toArray e)) w.heap.size j=(all++all'++zc)[j]?:=λj=>by rw[jr];simp
   have R2:K9 E2 { st with sg:=st.sg.set i (.P7 (n+1) sz (ds.take len++es)) } a (w.heap.push (.cells (all++all'++zc).toArray e)):=by
    refine⟨Rl.size,Rl.Aa,Rl.CU,by simpa[E2,Env.A8X]using hn,λq vq hq=>(Rl.Bf q vq hq).mono PS CO (by simp) (by simp),λs' cs' DL=>(Rl.j6 s' cs' DL).mono PS CO (by simp) (by simp),λi' ob hi=>?_,λb1 o1 Ky=>?_⟩
    ·by_cases CY:i=i'
     ·subst CY;simp only[z2q IW,D8]at hi;subst hi;refine B2m (all:=all) (all':=all') oE bE tE vE (zCq _) hpos Jl (by rw[P6,<- k1];omega) (by simp;omega) (λo' h3 h4=>⟨?_,by simp⟩) (F.mono CO) (k4.mono CO) (λj u hu=>?_) λj u hu=>?_
      ·show(if _ then _ else _)=_;rw[C8 rfl,C8 h4]
      ·have a_:j<all.length:=(z0q.1 hu).1;rw[zfq,zMq,zLq,z4q a_];exact hu
      ·have a_:j<all'.length:=(z0q.1 hu).1;rw[P6,zfq,zMq,zLq,z6q (by omega),z4q (by omega),<- hu];congr 1;omega
     ·simp only[z1q CY]at hi;exact(Rl.U6 i' ob hi).mono PS CO (CE Rl hi) (by simp;exact λh=>CY h.symm) (by simp)
    ·simp only[zXq]at Ky;show(if _ then _ else _)=_;rw[A7 (by omega),A7]
     ·exact Rl.fresh b1 o1 (by omega)
     ·rw[Rl.fresh b1 o1 (by omega)];simp
   refine Ay (U9 _ _ AY) (T _ _ _ (w.drew.alloc (.cells (all++all'++zc).toArray e)) H ?_ (PS.l7 (by rintro T rfl;simp[P5])));rw[EE];refine R2.put λt1 eG=>?_;refine RR.AO ⟨r1,zCq _,by rw[vE];exact zbq _,some ⟨w.heap.size,0,none⟩,nc,by rw[P6,k1],by rw[P6,<- k1];exact hnc,by simp,λ_ q hq=>?_,λ_ _=>⟨by rw[oE,bE],by rw[bE,tE,zfq];exact zbq _⟩⟩;simp only[D8]at hq;rw[<- hq]
def Env.B4b(E:Env)(i n b lo hi:Nat):Env:={ E with Q7:=λj=>if j=i then n else E.Q7 j,O:=λb' o=>if b'=b/\lo<=o/\o<hi then .Q6 else E.O b' o }
def Env.A8q(E:Env)(i n b lo hi:Nat):Env :={ E with obj:=λj=>if j=i then b else E.obj j,base:=λj=>if j=i then 0 else E.base j,top:=λj=>if j=i then hi else E.top j,Q7:=λj=>if j=i then n else E.Q7 j,O:=λb' o=>if b'=b then(if o<lo then .Q6 else if o<hi then .obj i else .other)else if E.O b' o=.obj i then .other else E.O b' o }
def A7J{sg:List E5}{i n sz:Nat}{d s:DV}{p:DV×List E5}(h:Rw sg i n sz d s=some p):∃ds es,d=.list sz ds/\s=.list sz es/\sg[i]?=some (.U2 n sz ds.length)/\ds.length+es.length<=R9/\es≠[]/\p=(.list sz (ds++es),sg.set i (.U2 (n+1) sz (ds.length+es.length))):=by
 unfold Rw at h;split at h
 ·rename_i n' sz' len hg;obtain⟨⟨h1,h2⟩,h⟩:=M3 h;subst h1 h2;obtain⟨q,hq,h⟩:=D5 h;obtain⟨ds,es,q1,q2,q3,q4,rfl⟩:=lJ hq;obtain⟨h3,h5⟩:=M3 h;have h3:len=ds.length:=h3;have h5:=Option.some.inj h5;rw[h3]at hg;exact⟨ds,es,q1,q2,hg,q3,yaq.1 q4,h5.symm⟩
 ·cases h
theorem A9B{m:F4}{q:Nat×Nat×Nat}(h:A9A m=some q):m=.U2 q.1 q.2.1 q.2.2:=by cases m<;>simp only[A9A,D8,reduceCtorEq]at h;subst h;rfl
def B3J{c:Call}{y v:Operand}{t u:TypeId}(F7:o.op=.call c)(yI:c.callee=.builtin .append)(ha:c.args.toList=[y,v])(ht:c.argTypes.toList=[t,u])(QB:I8 fl.Oe o.dst=true)(H:Dn C fl o y v t u st k=some x)(Rl:K9 E st a w.heap)(T:Then E w k x K):Gp C.P o a w K:=by
 unfold Dn at H;rw[C8 QB]at H;unfold A0k at H;obtain⟨r,h1,H⟩:=D5 H;obtain⟨s,h2,H⟩:=D5 H;obtain⟨sz,Cw,H⟩:=D5 H;obtain⟨xG,H⟩:=H6 H;simp only[zaq]at xG;obtain⟨Uv,EE⟩:=xG;obtain⟨t0,EE⟩:=zwq.1 EE;obtain⟨e,e',z,inf,zv,hu,Bv,hz,HZ,hpos,Ap,Uu,RQ,Vu⟩:=UO Cw;have e1:=Rl.src h1;have e2:=(Rl.src h2).data Uv;have Cq:inf.size=sz:=by obtain⟨i',d',q1,-,q2,-⟩:=IU hz;rw[Ap]at q1;simp only[D8]at q1;rw[<- HZ,q2,q1]
 have U9:∀v' w',(Builtin.append_ #[t,u] o.type #[a.eval y,a.eval v]).run C.P w=.ok v' w'->(execOp a.eval o).run C.P w=.ok (.value v') w':=by intro v' w' hv;refine Gy F7 yI ?_;rw[OJ ht,show c.args.map a.eval=#[a.eval y,a.eval v]from by rw[OJ ha];simp];exact CK hv
 rw[EE]at H;have hn:=Rl.n;obtain⟨q,hq,H⟩:=D5 H;obtain⟨hg,H⟩:=H6 H;obtain⟨p,hp,H⟩:=D5 H;have hm:=A9B hq;clear hq;obtain⟨i,n,sz'⟩:=q;simp only[beq_iff_eq]at hg;subst hg;simp only at hm hp H;obtain⟨ds,es,hr,hs,hpv,YN,hne,rfl⟩:=A7J hp;clear hp;simp only at H;rw[hm,hr]at e1;rw[hs]at e2;have e1:L9 E w.heap (.sp 0 (eZ y) 0) (.list sz' ds) (.U2 i n sz') (a.eval y):=e1;simp only[L9]at e1;obtain⟨zy,-,r1,r2,r3,b0,len0,cap0,ev0,f5⟩:=e1;obtain⟨b,len,cap,all,ev,f1,f2,f3,f4,f5',f6,f7⟩:=Ku (P:=C.P) zy;rw[ev]at ev0;simp only[Value.slice.injEq]at ev0;obtain⟨rfl,rfl,rfl⟩:=ev0;obtain⟨b',len',cap',all',ev',g1,g2,g3,g4,g5,g6,g7⟩:=Ku (P:=C.P) e2;have B:=Rl.U6 i _ hpv;simp only[RO]at B;obtain⟨bv,bn,-,BB⟩:=B;have f5:=f5 bv;have Ma:Builtin.lenOf (a.eval v)=pure len':=by rw[ev'];rfl
 have m_:=g4.one hpos;have hal:all.length=len * sz':=by rw[f4.1,f1]
 have B24:all'.length=len' * sz':=by rw[g4.1,g1]
 have IW:=(z0q.1 hpv).1;have hln:0<len':=by rw[g1];exact yaq.2 hne
 have uz:(len+len') * sz'=len * sz'+len' * sz':=zqq _ _ _;by_cases BQ:len+len'<=cap
 ·obtain⟨hb,yM⟩:=f5 (by omega);subst hb;have tJ:0<cap * sz':=y8q (by omega) hpos;obtain⟨cc,TT,f,c1,c2,c2',c3⟩:=BB.resolve_left λh=>by have:=h.2;omega
  rw[<- f1]at c2 c3;have hmul:(len+len') * sz'<=cap * sz':=z9q _ BQ;obtain⟨w',hw,S⟩:=JX (P:=C.P) (b:=E.obj i) (T:=TT) (f:=f) (E.base i+len * sz') all' cc 0 w c1 (by omega) m_ (λo' h3 h4=>(c3 o' (by omega) (by omega)).2);have AY:(Builtin.append_ #[t,u] o.type #[a.eval y,a.eval v]).run C.P w=.ok (.slice (some ⟨E.obj i,E.base i,none⟩) (len+len') cap) w':=by rw[ev];refine IM hu Bv Ap Ma (by rw[Cq];exact g7 w rfl) BQ ?_;rw[Cq,Addr.add_lit];exact hw
  simp only[zBq]at S
  let E2:=E.B4b i (n+1) (E.obj i) (E.base i+len * sz') (E.base i+len * sz'+len' * sz')
  have vE:E2.Q7 i=n+1:=C8 rfl;have PS:Pr (λT=>T=.obj i) E w.heap E2 w'.heap:=by
   refine⟨zJq S.size.symm,λb1 Ky=>?_,λb1 o1 Ky hT=>?_,zbq _,λj hj _=>⟨rfl,rfl,rfl⟩,λ_ _=>rfl,λj hj=>?_⟩
   ·by_cases Ut:b1=E.obj i
    ·subst Ut;rw[c1];obtain⟨c',q1,q2,q3⟩:=S.ex;refine⟨c',q1,q2,λj hj=>?_⟩;rw[q3 j,A7];rintro⟨q4,q5⟩;exact hj (c3 j (by omega) (by omega)).1
    ·rw[S.rest b1 Ut];exact V9.refl _ _
   ·show(if _ then _ else _)=_;rw[A7];rintro⟨rfl,q4,q5⟩;exact hT (c3 o1 q4 (by omega)).1
   ·by_cases Vq:j=i
    ·subst Vq;rw[vE];exact⟨λh=>by omega,by omega,λh=>absurd rfl h⟩
    ·have:E2.Q7 j=E.Q7 j:=A7 Vq;rw[this];exact⟨id,zbq _,λ_=>rfl⟩
  have CO:=PS.Q6 (by simp) Rl.fresh;have R2:K9 E2 { st with sg:=st.sg.set i (.U2 (n+1) sz' (ds.length+es.length)) } a w'.heap:=by
   refine⟨Rl.size,Rl.Aa,Rl.CU,by simpa[E2,Env.B4b]using hn,λq vq hq=>(Rl.Bf q vq hq).mono PS CO (by simp) (by simp),λs' cs' DL=>(Rl.j6 s' cs' DL).mono PS CO (by simp) (by simp),λi' ob hi=>?_,λb1 o1 Ky=>?_⟩
   ·by_cases CY:i=i'
    ·subst CY;simp only[z2q IW,D8]at hi;subst hi;obtain⟨c',q1,q2,q3⟩:=S.ex;refine⟨vE,zCq _,hpos,.inr ⟨c',TT,f,q1,?_,?_,λo' h3 h4=>?_⟩⟩
     ·show E.base i+_<=E.top i;rw[<- f1,<- g1];omega
     ·show E.top i<=_;rw[q2];exact c2'
     ·have h3:E.base i+(len+len') * sz'<=o':=by rw[f1,g1];exact h3
      have h4:o'<E.top i:=h4;obtain⟨c4,c5⟩:=c3 o' (by omega) h4;refine⟨?_,c5⟩;show(if _ then _ else _)=_;rw[A7 (by omega)];exact c4
    ·simp only[z1q CY]at hi;exact(Rl.U6 i' ob hi).mono PS CO (CE Rl hi) (by simp;exact λh=>CY h.symm) (by simp)
   ·have pV:w.heap.size<=b1:=by rw[<- S.size];exact Ky
    show(if _ then _ else _)=_;rw[A7]
    ·exact Rl.fresh b1 o1 pV
    ·rintro⟨rfl,-⟩;have:=(zdq.1 c1).1;omega
  refine Ay (U9 _ _ AY) (T _ _ _ w' H ?_ (PS.l7 (by rintro T rfl;simp[P5])) S.out);rw[EE];refine R2.put λt1 eG=>?_;refine RR.AO ⟨?_,⟨_,rfl⟩,r1,zCq _,by rw[vE];exact zbq _,some ⟨E.obj i,E.base i,none⟩,len+len',cap,rfl,λ_ _=>⟨rfl,yM⟩⟩;refine NH (by simp;omega) BQ (by simp) (λ_=>hpos) λp1 Yq=>?_;simp only[D8]at Yq;subst Yq;refine⟨λ_=>rfl,SX ((f4.mono CO).append (g4.mono CO)) λj q hq=>?_⟩;by_cases hj:j<all.length
  ·rw[z4q hj]at hq;obtain⟨q1,q2⟩:=(f5' _ rfl).2 j q hq;exact⟨CO.c _ _ _ q2 q1,CO.s _ _ q2⟩
  ·rw[z6q (by omega)]at hq;have a_:j-all.length<all'.length:=(z0q.1 hq).1;obtain⟨c',q1,q2,q3⟩:=S.ex;constructor
   ·unfold hc;rw[q1];show c'[E.base i+j]?=some q;rw[q3,C8 (by omega),<- hq];congr 1;omega
   ·show(if _ then _ else _)=_;rw[C8 (by refine⟨rfl,?_,?_⟩<;>(simp only;omega))]
 ·-- a new block
  obtain⟨nc,hnc,AY⟩:=run_append_grow (ty:=o.type) (b:=b) hu Bv Ap Ma (by rw[Cq];exact g7) (by rw[Cq,<- ev];exact f7) RQ BQ (by unfold R9 at YN;omega) Uu;rw[<- ev]at AY;have QF:(Builtin.zeroCells zv.cells (nc-(len+len'))).toList.length=(nc-(len+len')) * sz':=by simp[Builtin.zeroCells,Vu]
  have B3e:(len+len') * sz'+(nc-(len+len')) * sz'=nc * sz':=by rw[<- zqq];congr 1;omega
  generalize hzc:(Builtin.zeroCells zv.cells (nc-(len+len'))).toList=zc at AY QF
  let E2:=E.A8q i (n+1) w.heap.size ((len+len') * sz') (nc * sz')
  have vE:E2.Q7 i=n+1:=C8 rfl;have oE:E2.obj i=w.heap.size:=C8 rfl;have bE:E2.base i=0:=C8 rfl;have tE:E2.top i=nc * sz':=C8 rfl;have PS:Pr (λT=>T=.obj i) E w.heap E2 (w.heap.push (.cells (all++all'++zc).toArray e)):=by
   refine Pr.push (λb1 o1 Ky hT=>?_) (zbq _) (λj hj hvj=>?_) (λ_ _=>rfl) (λj hj=>?_)
   ·show(if _ then _ else _)=_;rw[A7 (by omega),A7 hT]
   ·have Vq:j≠i:=λh=>by subst h;rw[vE]at hvj;omega
    refine⟨?_,?_,?_⟩<;>(show(if _ then _ else _)=_;rw[A7 Vq])
   ·by_cases Vq:j=i
    ·subst Vq;rw[vE];exact⟨λh=>by omega,by omega,λh=>absurd rfl h⟩
    ·have:E2.Q7 j=E.Q7 j:=A7 Vq;rw[this];exact⟨id,zbq _,λ_=>rfl⟩
  have CO:=PS.Q6 (by simp) Rl.fresh;have Gm:∀(j:Nat),hc (w.heap.push (.cells (all++all'++zc).toArray e)) w.heap.size j=(all++all'++zc)[j]?:=λj=>by rw[jr];simp
  have B88:(all++all').length=(len+len') * sz':=by rw[ygq];omega
  have R2:K9 E2 { st with sg:=st.sg.set i (.U2 (n+1) sz' (ds.length+es.length)) } a (w.heap.push (.cells (all++all'++zc).toArray e)):=by
   refine⟨Rl.size,Rl.Aa,Rl.CU,by simpa[E2,Env.A8q]using hn,λq vq hq=>(Rl.Bf q vq hq).mono PS CO (by simp) (by simp),λs' cs' DL=>(Rl.j6 s' cs' DL).mono PS CO (by simp) (by simp),λi' ob hi=>?_,λb1 o1 Ky=>?_⟩
   ·by_cases CY:i=i'
    ·subst CY;simp only[z2q IW,D8]at hi;subst hi;refine⟨vE,zCq _,hpos,.inr ⟨_,e,(0,0),by rw[oE];exact Jl,?_,?_,λo' h3 h4=>⟨?_,by simp⟩⟩⟩
     ·rw[bE,tE,<- f1,<- g1];omega
     ·rw[tE];simp;omega
     ·rw[oE];show(if _ then _ else _)=_;rw[bE,<- f1,<- g1]at h3;rw[tE]at h4;rw[C8 rfl,A7 (by omega),C8 h4]
    ·simp only[z1q CY]at hi;exact(Rl.U6 i' ob hi).mono PS CO (CE Rl hi) (by simp;exact λh=>CY h.symm) (by simp)
   ·simp only[zXq]at Ky;show(if _ then _ else _)=_;rw[A7 (by omega),A7]
    ·exact Rl.fresh b1 o1 (by omega)
    ·rw[Rl.fresh b1 o1 (by omega)];simp
  refine Ay (U9 _ _ AY) (T _ _ _ (w.drew.alloc (.cells (all++all'++zc).toArray e)) H ?_ (PS.l7 (by rintro T rfl;simp[P5])));rw[EE];refine R2.put λt1 eG=>?_;refine RR.AO ⟨?_,⟨_,rfl⟩,r1,zCq _,by rw[vE];exact zbq _,some ⟨w.heap.size,0,none⟩,len+len',nc,rfl,λ_ _=>⟨by rw[oE,bE],by rw[bE,tE,zfq];exact zbq _⟩⟩;refine NH (by simp;omega) hnc (by simp) (λ_=>hpos) λp1 Yq=>?_;simp only[D8]at Yq;subst Yq;refine⟨λ_=>rfl,SX ((f4.mono CO).append (g4.mono CO)) λj q hq=>?_⟩;have a_:j<(all++all').length:=(z0q.1 hq).1;constructor
  ·rw[zfq,Gm,z4q a_];exact hq
  ·show(if _ then _ else _)=_;rw[C8 rfl,C8 (by simp only;omega)]
end
end Go.Su

/-
 THE DATA MACHINE, part 18: one operation, whichever it is.
-/
namespace Go.Su
set_option linter.defProp false
section
variable {X:Type}{C:BV}{R:O7}{o:Oper}{st:St}{k:St->Option X}{x:X}{E:Env}{a:Act}{w:World}{K:Act->World->Prop}{Q:Exit->Act->World->Prop}
open Classical in
noncomputable def Env.B6S(E:Env)(n b off m tp:Nat):Env :={ E with obj:=λi=>if i=E.n then b else E.obj i,base:=λi=>if i=E.n then off else E.base i,top:=λi=>if i=E.n then tp else E.top i,n:=E.n+1,Q7:=λi=>if i=E.n then 0 else E.Q7 i,O:=λb' o=>if b'<n then E.O b' o else if b'=b/\off<=o/\o<off+m then .obj E.n else .other }
variable {f:FuncId}{v:Value}
def B15{r:DV×F4}{sz:Nat}{ds:List DV}(hO:Il C R)(hc:C.clone f=true)(U9:(execOp a.eval o).run C.P w=.ok (.enter f #[v]) w)(hd:K8 r.2=true)(B8J:sz=C.ib f)(hl0:ds.length<=R9)(hr:r.1=.list sz ds){p q:Nat}(hv:RR E w.heap p q r.1 r.2 v)(H:k ({ st with sg:=st.sg++[E5.arr sz ds] }.put o.dst .undef (.arr st.sg.length sz 0 ds.length))=some x)(Rl:K9 E st a w.heap)(T:Then E w k x K):Gp C.P o a w K:=by
 have hS:∀b o,w.heap.size<=b->¬E.S b o:=λb o hb hs=>by have h9:=Rl.fresh b o hb;rw[show E.O b o=Tag.Q6 from hs]at h9;cases h9
 have TS:=(hO.c f hc).2;rw[<- B8J]at TS;refine oL U9 ((TS E.S w v ds hl0 hS (by rw[<- hr];exact hv.data hd)).mono ?_);rintro e w' ⟨a0,b,off,cap,he,ha0,A1K,A9C,A9I,Cw,WV,hblk,A9G⟩;subst he
 let E':=E.B6S w.heap.size b off (ds.length * sz) (off+cap * sz)
 have Pc:Pr (λ_=>False) E w.heap E' w'.heap:=by
  refine⟨Cw,λb' hb=>by rw[hblk b' hb];exact V9.refl _ _,λb' o hb _=>?_,y9q _,λi hi _=>?_,λ_ _=>rfl,Ws rfl⟩
  ·show(if b'<w.heap.size then E.O b' o else _)=_;rw[C8 hb]
  ·have:i≠E.n:=by omega
   exact⟨A7 this,A7 this,A7 this⟩
 have J5:=Pc.Q6 (by simp) Rl.fresh;have n0:st.sg.length=E.n:=Rl.n;have R2:K9 E' { st with sg:=st.sg++[E5.arr sz ds] } a w'.heap:=by
  refine⟨Rl.size,Rl.Aa,Rl.CU,by simp[n0];rfl,λt v hv=>(Rl.Bf t v hv).mono Pc J5 (by simp) (by simp),λs cs hs=>(Rl.j6 s cs hs).mono Pc J5 (by simp) (by simp),λi ob hi=>?_,λb' o hb=>?_⟩
  ·by_cases MZ:i<st.sg.length
   ·rw[z4q MZ]at hi;exact(Rl.U6 i ob hi).mono Pc J5 (by rw[<- n0];exact MZ) (by simp) (by simp)
   ·rw[z6q (zNq MZ)]at hi;have hi0:i-st.sg.length=0:=by have:=(z0q.1 hi).1;simpa using this
    have hie:i=E.n:=by omega
    rw[hi0]at hi;simp only[zgq,D8]at hi;subst hi hie;simp only[RO];intro hne;obtain⟨hb,c,T0,h1,h2,h3,h4⟩:=A9G hne;have e1:E'.obj E.n=b:=C8 rfl;have e2:E'.base E.n=off:=C8 rfl;rw[e1,e2];refine⟨c,T0,h1,h2,h3,λo ho1 ho2=>?_,λj d hj=>?_⟩
    ·show(if b<w.heap.size then E.O b o else if b=b/\off<=o/\o<off+ds.length * sz then Tag.obj E.n else .other)=_;rw[A7 (by omega),C8 ⟨rfl,ho1,ho2⟩]
    ·obtain⟨vs,v1,v2,v3⟩:=h4 j d hj;refine⟨vs,v1,v2,v3.mono ⟨λb' o hs=>?_,λ_ _ _ _ hv=>hv⟩⟩;exact J5.s b' o hs
  ·show(if b'<w.heap.size then E.O b' o else if b'=b/\off<=o/\o<off+ds.length * sz then Tag.obj E.n else .other)=_;rw[A7 (by omega)];split
   ·rename_i h;by_cases hne:ds=[]
    ·subst hne;simp at h;omega
    ·obtain⟨-,c,T0,h1,-⟩:=A9G hne;have:=(zdq.1 h1).1;omega
   ·rfl
 refine⟨_,rfl,T E' _ _ w' H (R2.put λt _=>?_) (Pc.l7 (by simp)) WV⟩;simp only[RR,L9];refine⟨⟨by rw[n0];exact ykq _,by rw[n0];exact C8 rfl⟩,_,_,rfl,λhpos=>?_,A1K,A9C,A9I,λ_=>by rw[n0,zfq];exact zJq ((congrArg (· + cap * sz) (C8 rfl)).trans (C8 rfl).symm)⟩;rw[n0,ha0 (λh=>by rw[h]at hpos;exact Nat.lt_irrefl 0 hpos)];have e1:E'.obj E.n=b:=C8 rfl;have e2:E'.base E.n=off:=C8 rfl;rw[e1,e2];simp
variable {cs:List DV}
def B0I{d:DV}(h:B2v d=some cs):d=.agg cs:=by cases d<;>simp only[B2v,reduceCtorEq,D8]at h;rw[h]
def B5s{g:FuncId}{r:DV×F4}(hO:Il C R)(hc:C.eQ f=some g)(U9:(execOp a.eval o).run C.P w=.ok (.enter f #[v]) w)(hd:K8 r.2=true)(hr:r.1=.agg cs)(hl:cs.length=C.ib f){p q:Nat}(hv:RR E w.heap p q r.1 r.2 v)(H:k ({ st with sg:=st.sg++[E5.box (cs.map λd=>(d,.val))] }.put o.dst .undef (.fn g [(st.sg.length,0)]))=some x)(Rl:K9 E st a w.heap)(T:Then E w k x K):Gp C.P o a w K:=by
 have h1:=hv.data hd;rw[hr]at h1;simp only[RV]at h1;obtain⟨vs,rfl,h2⟩:=h1;obtain⟨l1,h3⟩:=CQ.1 h2;have l2:vs.size=C.ib f:=by rw[<- hl,l1];simp
 refine oL U9 (((hO.m f g hc).2 w vs l2).mono ?_);rintro e w' ⟨rfl,T0,rfl⟩;have cok:Hq E w.heap (cs.map λd=>(d,F4.val)) vs.toList:=by refine⟨by simp[l1],λj r' u hj hu=>?_⟩;simp only[zxq,znq]at hj;obtain⟨d,Eg,rfl⟩:=hj;obtain⟨a1,a2⟩:=h3 j d u Eg hu;exact⟨⟨a1,Jc a1 a2,rfl,Pe a1 a2⟩,by simp⟩
 obtain⟨R1,P1⟩:=Rl.newObj (T0:=T0) cok;refine⟨_,rfl,T _ _ _ (w.alloc (.cells vs T0)) H (R1.put λt0 _=>?_) (P1.l7 (by simp)) ⟨rfl,rfl,rfl⟩⟩;have hn:=Rl.n;simp only[RR,L9,Env.newObj];refine⟨?_,λc hc=>?_⟩
 ·simp[hn]
 ·simp only[zoq]at hc;subst hc;simp[Env.In,hn]
def B14{ts:List TypeId}{xs:List Operand}{rs extra:List (DV×F4)}{ev:List Value}(hO:Il C R)(U9:isGo C.P f=true->(execOp a.eval o).run C.P w=.ok (.enter f (xs.map a.eval++ev).toArray) w)(hsr:KM C.P st ts xs=some rs)(xI:extra.length=ev.length)(IK:∀(i:Nat) r v,extra[i]?=some r->ev[i]?=some v->∀p q,RR E w.heap p q r.1 r.2 v/\r.2 ≠ .own/\r.2 ≠ .full)(H:Kk C R o f xs (rs++extra) st k=some x)(Rl:K9 E st a w.heap)(T:Then E w k x K):Gp C.P o a w K:=by
 obtain⟨l1,l2⟩:=A3o Rl hsr;have all:∀(i:Nat) r v,(rs++extra)[i]?=some r->(xs.map a.eval++ev)[i]?=some v->∃p q,RR E w.heap p q r.1 r.2 v:=by
  intro i r v hr hv;by_cases hi:i<rs.length
  ·rw[z4q hi]at hr;rw[z4q (by simpa[l1]using hi)]at hv;obtain⟨y,t,hy,rfl,hsy,hRy⟩:=l2 i r v hr hv;exact⟨_,_,hRy⟩
  ·have hge:rs.length<=i:=zNq hi;rw[z6q hge]at hr;rw[z6q (by simpa[l1]using hge)]at hv;simp only[zUq,<- l1]at hv;exact⟨0,0,(IK _ r v hr hv 0 0).1⟩
 have GH:(rs++extra).length=(xs.map a.eval++ev).length:=by simp[l1,xI]
 unfold Kk at H;split at H
 ·rename_i hc;split at H
  ·rename_i r hrs
   ·obtain⟨p,hp,H⟩:=D5 H;obtain⟨sz,ds⟩:=p;have hr1:r.1=.list sz ds:=by cases hr:r.1<;>rw[hr]at hp<;>simp only[A4h,reduceCtorEq,D8,Prod.mk.injEq]at hp;obtain⟨rfl,rfl⟩:=hp;rfl
    obtain⟨hd,H9⟩:=H6 H;simp only[zaq,beq_iff_eq,I9]at hd;obtain⟨⟨hd,hz⟩,hl0⟩:=hd;simp only[<- hz]at H9;rw[hrs]at GH;obtain⟨v,hv⟩:=zpq.1 (GH.symm:(xs.map a.eval++ev).length=1);obtain⟨p,q,hR⟩:=all 0 r v (by rw[hrs];rfl) (by rw[hv];rfl);have:=U9 (hO.c f hc).1;rw[hv]at this;exact B15 hO hc this hd hz hl0 hr1 hR H9 Rl @T
  ·simp at H
 ·split at H
  ·rename_i g hg;split at H
   ·rename_i r hrs;obtain⟨cs,IJ,H⟩:=D5 H;obtain⟨hd,H9⟩:=H6 H;simp only[zaq,beq_iff_eq]at hd;rw[hrs]at GH;obtain⟨v,hv⟩:=zpq.1 (GH.symm:(xs.map a.eval++ev).length=1);obtain⟨p,q,hR⟩:=all 0 r v (by rw[hrs];rfl) (by rw[hv];rfl);have:=U9 (hO.m f g hg).1;rw[hv]at this;exact B5s hO hg this hd.1 (B0I IJ) hd.2 hR H9 Rl @T
   ·simp at H
  split at H
  ·have hp:isGo C.P f=true:=by obtain⟨_,H1⟩:=H6 H;obtain⟨d,hd,_⟩:=D5 H1;exact(hO.p f _ d hd).1
   exact B3M hO (U9 hp) GH all H Rl @T
  ·rename_i s hs;have hp:isGo C.P f=true:=by obtain⟨_,H1⟩:=H6 H;obtain⟨d,hd,_⟩:=D5 H1;obtain⟨_,_,h,_⟩:=hO.r f _ _ d hd;exact h
   exact B5t hO hs (U9 hp) hsr xI IK H Rl @T
variable {fl:H8}
def B3G{c:Call}(hO:Il C R)(F7:o.op=.call c)(H:G_ C R fl o c st k=some x)(Rl:K9 E st a w.heap)(T:Then E w k x K):Gp C.P o a w K:=by
 unfold G_ at H;split at H
 ·rename_i b hb;split at H
  ·rename_i h1 h2;exact B5p F7 hb h1 h2 H Rl @T
  ·rename_i h1 h2;cases QB:I8 fl.Oe o.dst
   ·cases PL:I8 fl.Db o.dst
    ·cases d_:I8 fl.opn o.dst
     ·exact B0i F7 hb h1 h2 d_ QB PL H Rl @T
     ·exact A17 F7 hb h1 h2 d_ QB PL H Rl @T
    ·exact B3O F7 hb h1 h2 QB PL H Rl @T
   ·exact B3J F7 hb h1 h2 QB H Rl @T
  ·rename_i h1 h2;exact B5q F7 hb h1 H Rl @T
  ·rename_i h1 h2;exact B5r F7 hb h1 H Rl @T
  ·simp at H
 ·rename_i fv hfv;obtain⟨r,h1,H1⟩:=D5 H;obtain⟨rs,h2,H2⟩:=D5 H1;split at H2
  ·rename_i f caps hr;have jw:=Rl.src h1;rw[hr]at jw;simp only[RR,L9]at jw;refine B14 (ts:=c.argTypes.toList) (ev:=caps.map λc=>Value.pointer (some ⟨E.obj c.1,c.2,none⟩)) hO (λhg=>?_) h2 (by simp) (λi r' v AY hv p q=>?_) H2 Rl @T
   ·simp only[execOp,F7,resolve,hfv,jw.1,Deferred.ofValue,Sem.run_bind,Sem.run_pure,Result.andThen_ok,invoke]
    rw[uM hg];congr 2;apply Array.ext';simp
   ·simp only[zxq,znq]at AY hv;obtain⟨m,hm,rfl⟩:=AY;obtain⟨m',Vs,rfl⟩:=hv;rw[hm]at Vs;cases Vs;refine⟨?_,by simp,by simp⟩;simp only[RR,L9];exact⟨jw.2 m (zkq hm),trivial⟩
  ·simp at H2
 ·simp at H
def B7h(hO:Il C R)(H:J2 C R fl o st k=some x)(Rl:K9 E st a w.heap)(T:Then E w k x K):Gp C.P o a w K:=by
 unfold J2 at H;split at H
 ·rename_i y F7;exact A6M (by simp[execOp,F7]) H Rl @T
 ·rename_i y F7;exact A6M (by simp[execOp,F7]) H Rl @T
 ·rename_i F7;exact B3L F7 H Rl @T
 ·rename_i F7;exact B12 F7 H Rl @T
 ·rename_i F7;exact B5n F7 H Rl @T
 ·rename_i F7;exact B13 F7 H Rl @T
 ·rename_i F7;exact A18 F7 H Rl @T
 ·rename_i F7;exact B3K F7 H Rl @T
 ·rename_i F7;exact B18 F7 H Rl @T
 ·rename_i F7;exact A6N F7 H Rl @T
 ·rename_i F7;exact B5m F7 H Rl @T
 ·rename_i F7;exact B7i F7 H Rl @T
 ·rename_i F7;exact B3H F7 H Rl @T
 ·rename_i F7;exact A34 F7 H Rl @T
 ·rename_i F7;exact A35 F7 H Rl @T
 ·rename_i F7;exact B16 F7 H Rl @T
 ·rename_i F7;exact B17 F7 H Rl @T
 ·rename_i F7;exact A6L F7 H Rl @T
 ·rename_i F7;obtain⟨q,_,H9⟩:=D5 H;by_cases eF:I8 fl.Ha o.dst=true
  ·rw[C8 eF]at H9;cases hd:o.dst with
   |none=>rw[hd]at eF;simp[I8]at eF
   |some t0=>exact B0l F7 hd H9 Rl @T
  ·rw[A7 eF]at H9;exact A7S F7 H9 Rl @T
 ·rename_i F7;exact B0k F7 H Rl @T
 ·rename_i F7;exact A36 F7 H Rl @T
 ·rename_i F7;exact A7R F7 H Rl @T
 ·rename_i F7;exact B3G hO F7 H Rl @T
 ·simp at H
end
end Go.Su

/-
 THE DATA MACHINE, part 19: an operation sees what its footprint says, and writes what it says.
-/
namespace Go.Su
set_option linter.defProp false
theorem M6{α β : Type}(a : α)(g : α->Option β):ob (some a) g=g a:=rfl
theorem X6{β : Type}(y:Option β):og true y=y:=rfl
structure Eu(f:Fp)(st st':St):Prop where
 lt:st'.tm.length=st.tm.length
 lm:st'.mt.length=st.mt.length
 lb:st'.bx.length=st.bx.length
 t:∀i∈f.rt,st'.tm[i]?=st.tm[i]?/\st'.mt[i]?=st.mt[i]?
 b:∀i∈f.rb,st'.bx[i]?=st.bx[i]?
 s:f.rs=true->st'.sg=st.sg
 n:∀t,f.nb=some t->Lx t st'.mt=true
 l:∀j,f.ld=some j->st'.sg[j]?=st.sg[j]?
structure Two(f:Fp)(st st' s s':St):Prop where
 l:st'.tm.length=st.tm.length/\st'.mt.length=st.mt.length/\st'.bx.length=st.bx.length
 ls:s.tm.length=st.tm.length/\s.mt.length=st.mt.length/\s.bx.length=st.bx.length
 ls':s'.tm.length=st.tm.length/\s'.mt.length=st.mt.length/\s'.bx.length=st.bx.length
 t:∀i:Nat,(i∈f.wt/\s'.tm[i]?=s.tm[i]?/\s'.mt[i]?=s.mt[i]?)\/((s'.tm[i]?=st'.tm[i]?/\s'.mt[i]?=st'.mt[i]?)/\s.tm[i]?=st.tm[i]?/\s.mt[i]?=st.mt[i]?)
 b:∀i:Nat,(i∈f.wb/\s'.bx[i]?=s.bx[i]?)\/(s'.bx[i]?=st'.bx[i]?/\s.bx[i]?=st.bx[i]?)
 s:(f.ws=true/\s'.sg=s.sg)\/(s'.sg=st'.sg/\s.sg=st.sg)
variable {f:Fp}{st:St}{st':St}
def Two.refl(A:Eu f st st'):Two f st st' st st' :=⟨⟨A.lt,A.lm,A.lb⟩,⟨rfl,rfl,rfl⟩,⟨A.lt,A.lm,A.lb⟩,λ_=>.inr ⟨⟨rfl,rfl⟩,rfl,rfl⟩,λ_=>.inr ⟨rfl,rfl⟩,.inr ⟨rfl,rfl⟩⟩
def Two.put{s s':St}(A:Two f st st' s s'){dst:Option Nat}(hd:∀t∈dst.toList,t∈f.wt)(d:DV)(m:F4):Two f st st' (s.put dst d m) (s'.put dst d m):=by
 cases dst with
 |none=>exact A
 |some t=>
   have ht:t∈f.wt:=hd t (by simp);obtain⟨l,ls,ls',a1,a2,a3⟩:=A;refine⟨l,by simpa[St.put]using ls,by simpa[St.put]using ls',λi=>?_,a2,a3⟩;by_cases hi:t=i
   ·subst hi;refine .inl ⟨ht,?_,?_⟩
    ·simp only[St.put,zmq]
     rcases zuq t st.tm.length with h | h
     ·rw[z5q (by omega),z5q (by omega)];rfl
     ·rw[z8q (by omega),z8q (by omega)]
    ·simp only[St.put,zmq]
     rcases zuq t st.mt.length with h | h
     ·rw[z5q (by omega),z5q (by omega)];rfl
     ·rw[z8q (by omega),z8q (by omega)]
   ·simp only[St.put,z1q hi]
    exact a1 i
variable {t:Nat}
def Two.B4x{s s':St}(A:Two f st st' s s')(ht:t∈f.wt)(he:s'.tm[t]?=s.tm[t]?)(m:F4):Two f st st' { s with mt:=s.mt.set t m } { s' with mt:=s'.mt.set t m }:=by
 obtain⟨l,ls,ls',a1,a2,a3⟩:=A;refine⟨l,by simpa using ls,by simpa using ls',λi=>?_,a2,a3⟩;by_cases hi:t=i
 ·subst hi;refine .inl ⟨ht,he,?_⟩;simp only[zmq];rcases zuq t st.mt.length with h | h
  ·rw[z5q (by omega),z5q (by omega)];rfl
  ·rw[z8q (by omega),z8q (by omega)]
 ·simp only[z1q hi]
  exact a1 i
variable {i:Nat}
def KS{α : Type}{l l':List α}(h:l'[i]?=l[i]?)(d : α):l'.getD i d=l.getD i d:=by simp only[z3q,h]
variable {x:Operand}
def Two.release{s s':St}(A:Two f st st' s s')(hx:∀t∈O0 x,t∈f.wt)(he:∀t∈O0 x,s'.tm[t]?=s.tm[t]?/\s'.mt[t]?=s.mt[t]?):Two f st st' (s.release x) (s'.release x):=by
 cases x with
 |tmp t=>have:=A.B4x (hx t (by simp[O0])) (he t (by simp[O0])).1 (dm (s.mt.getD t .val));simp only[St.release];rw[KS (he t (by simp[O0])).2];exact this
 |_=>exact A
variable {mt:List F4}
def nS{u:Nat}(h:u∈FM mt x):u∈O0 x:=by
 cases x<;>simp only[FM]at h
 ·split at h
  ·cases h
  ·cases h
  ·exact h
 all_goals cases h
theorem kT{mt':List F4}(h:∀u∈O0 x,mt'[u]?=mt[u]?):FM mt' x=FM mt x:=by
 cases x with
 |tmp t=>simp only[FM];rw[KS (h t (by simp[O0]))]
 |_=>rfl
def A02{m:F4}(h:mt.getD t .val=m)(hd:dm m=m):mt.set t (dm (mt.getD t .val))=mt:=by
 refine zDq λj=>?_;by_cases hj:t=j
 ·subst hj;rw[z3q]at h;cases hm:mt[t]? with
  |none=>rw[z8q (by simpa using hm)]
  |some m=>
    rw[hm]at h;simp only[zsq]at h;have hl:t<mt.length:=by
     rcases zuq t mt.length with g | g
     ·exact g
     ·rw[z8q g]at hm;cases hm
    rw[z2q hl,z3q,hm,zsq,h,hd]
 ·rw[z1q hj]
def A6x:FM mt (.tmp t)=[t]\/mt.set t (dm (mt.getD t .val))=mt:=by
 cases h:mt.getD t .val
 case arr i sz a n=>exact .inr (by have:=A02 h rfl;rw[h]at this;exact this)
 case P7 i sz a n=>exact .inr (by have:=A02 h rfl;rw[h]at this;exact this)
 all_goals (refine .inl ?_;simp only[FM,h])
def Two.yz{s s':St}(A:Two f st st' s s')(hx:∀t∈FM s.mt x,t∈f.wt)(he:∀t∈O0 x,s'.tm[t]?=s.tm[t]?/\s'.mt[t]?=s.mt[t]?):Two f st st' (s.release x) (s'.release x):=by
 cases x with
 |tmp t=>
   have em:s'.mt.getD t .val=s.mt.getD t .val:=KS (he t (by simp[O0])).2 _;rcases A6x (mt:=s.mt) (t:=t)with h | h
   ·exact A.release (λu hu=>hx u (by rw[h];simpa[O0]using hu)) he
   ·have h':s'.mt.set t (dm (s'.mt.getD t .val))=s'.mt:=by
     refine zDq λj=>?_;by_cases hj:t=j
     ·subst hj;have e:=(he t (by simp[O0])).2;have q:(s.mt.set t (dm (s.mt.getD t .val)))[t]?=s.mt[t]?:=by rw[h]
      rw[em];rcases zuq t s'.mt.length with g | g
      ·rcases zuq t s.mt.length with g' | g'
       ·rw[z2q g,e,<- q,z2q g']
       ·rw[z8q g',List.getElem?_eq_none_iff]at e;omega
      ·rw[z8q g,z8q (by simpa using g)]
     ·rw[z1q hj]
    have e1:s.release (.tmp t)=s:=by simp only[St.release,h]
    have e2:s'.release (.tmp t)=s':=by simp only[St.release,h']
    rw[e1,e2];exact A
 |_=>exact A
def Two.vP{s s':St}(A:Two f st st' s s')(ht:t∈f.wb)(c:Option (List (DV×F4))):Two f st st' { s with bx:=s.bx.set t c } { s' with bx:=s'.bx.set t c }:=by
 obtain⟨l,ls,ls',a1,a2,a3⟩:=A;refine⟨l,by simpa using ls,by simpa using ls',a1,λi=>?_,a3⟩;by_cases hi:t=i
 ·subst hi;refine .inl ⟨ht,?_⟩;simp only[zmq];rcases zuq t st.bx.length with h | h
  ·rw[z5q (by omega),z5q (by omega)];rfl
  ·rw[z8q (by omega),z8q (by omega)]
 ·simp only[z1q hi]
  exact a2 i
def Two.FN{s s':St}(A:Two f st st' s s')(hs:f.ws=true)(g:List E5):Two f st st' { s with sg:=g } { s' with sg:=g } :=⟨A.l,A.ls,A.ls',A.t,A.b,.inl ⟨hs,rfl⟩⟩
def M5(a b:List Nat):Prop:=∀t∈a,t∈b
theorem Eu.src(A:Eu f st st')(P:Program)(t:TypeId)(h:M5 (O0 x) f.rt):src P t st' x=src P t st x:=by
 cases x with
 |tmp i=>obtain⟨h1,h2⟩:=A.t i (h i (by simp[O0]));simp only[Su.src,St.get,KS h1,KS h2]
 |_=>rfl
theorem Eu.KM{f:Fp}{st st':St}(A:Eu f st st')(P:Program):∀{ts:List TypeId}{xs:List Operand},M5 (K4 xs) f.rt->KM P st' ts xs=KM P st ts xs
 |t::ts,x::xs,h=>by simp only[Su.KM];rw[A.src P t (λi hi=>h i (by simp[K4,hi])),Eu.KM A P λi hi=>h i (by simp only[K4,zeq,zcq];exact .inr hi)]
 |[],x::xs,h=>by simp only[Su.KM];rw[A.src P 0 (λi hi=>h i (by simp[K4,hi])),Eu.KM A P λi hi=>h i (by simp only[K4,zeq,zcq];exact .inr hi)]
 |[],[],_=>rfl
 |_::_,[],_=>rfl
def Eu.opt(A:Eu f st st')(P:Program){x:Option Operand}(h:M5 (K4 x.toList) f.rt):YA P st' x=YA P st x:=by
 cases x with
 |none=>rfl
 |some x=>simp only[YA];rw[A.src P 0 λi hi=>h i (by simp[K4,hi])]
def Eu.bx(A:Eu f st st')(h:i∈f.rb):st'.bx.getD i none=st.bx.getD i none:=KS (A.b i h) none
variable {y:Operand}
def QS{r:List Nat}(h:M5 (K4 [x,y]) r):M5 (O0 x) r/\M5 (O0 y) r :=⟨λi hi=>h i (by simp[K4,hi]),λi hi=>h i (by simp[K4,hi])⟩
section
variable {X:Type}{C:BV}{R:O7}{fl:H8}{o:Oper}{st:St}{k:St->Option X}{x:X}{f:Fp}
def Fr(C:BV)(R:O7)(fl:H8)(o:Oper)(st:St)(k:St->Option X)(x:X)(f:Fp):Prop :=∃s,k s=some x/\(∀t,f.nb=some t->Lx t st.mt=true)/\∀st',Eu f st st'->∃s',Two f st st' s s'/\∀(Y:Type)(k':St->Option Y),J2 C R fl o st' k'=k' s'
def N7{d:DV}{m:F4}(hk:k (st.put o.dst d m)=some x)(hw:M5 o.dst.toList f.wt)(hn:f.nb=none)(h:∀st',Eu f st st'->∀(Y:Type)(k':St->Option Y),J2 C R fl o st' k'=k' (st'.put o.dst d m)):Fr C R fl o st k x f :=⟨_,hk,by rw[hn];simp,λst' A=>⟨_,(Two.refl A).put hw d m,λY k'=>h st' A Y k'⟩⟩
def A8o(F7:o.op=.move y\/o.op=.assign y)(H:J2 C R fl o st k=some x)(hr:M5 (O0 y) f.rt)(hw:M5 o.dst.toList f.wt)(hs:I8 fl.Q8 o.dst=true->M5 (O0 y) f.wt)(hn:f.nb=none):
 Fr C R fl o st k x f:=by
 have IK:∀(Y:Type)(st:St)(k:St->Option Y),J2 C R fl o st k=ob (src C.P o.type st y) λr=>if I8 fl.Q8 o.dst then k ((st.release y).put o.dst r.1 r.2)else k (st.put o.dst r.1 (dm r.2)):=by intro Y st k;rcases F7 with h | h<;>simp only[J2,h]
 rw[IK]at H;obtain⟨r,h1,H⟩:=D5 H;by_cases R6:I8 fl.Q8 o.dst=true
 ·rw[C8 R6]at H;refine⟨_,H,by rw[hn];simp,λst' A=>⟨_,((Two.refl A).release (hs R6) λt ht=>A.t t (hr t ht)).put hw r.1 r.2,λY k'=>?_⟩⟩;rw[IK,A.src _ _ hr,h1];simp only[ob,C8 R6]
 ·rw[A7 R6]at H;refine N7 H hw hn λst' A Y k'=>?_;rw[IK,A.src _ _ hr,h1];simp only[ob,A7 R6]
def B4Q{c z:Operand}(F7:o.op=.pick c y z)(H:J2 C R fl o st k=some x)(hr:M5 (K4 [c,y,z]) f.rt)(hw:M5 o.dst.toList f.wt)(hn:f.nb=none):Fr C R fl o st k x f:=by simp only[J2,F7]at H;obtain⟨rc,h1,H⟩:=D5 H;obtain⟨ra,h2,H⟩:=D5 H;obtain⟨rb,h3,H⟩:=D5 H;obtain⟨h4,H⟩:=H6 H;obtain⟨d,h5,H⟩:=D5 H;have r1:M5 (O0 c) f.rt:=λi hi=>hr i (by simp[K4,hi]);have r2:M5 (O0 y) f.rt:=λi hi=>hr i (by simp[K4,hi]);have r3:M5 (O0 z) f.rt:=λi hi=>hr i (by simp[K4,hi]);refine N7 H hw hn λst' A Y k'=>?_;simp only[J2,F7,A.src _ _ r1,A.src _ _ r2,A.src _ _ r3,h1,h2,h3,ob,h4,og,h5]
variable {t:TypeId}
def B7H{op:UnOp}(F7:o.op=.unOp op t y)(H:J2 C R fl o st k=some x)(hr:M5 (O0 y) f.rt)(hw:M5 o.dst.toList f.wt)(hn:f.nb=none):Fr C R fl o st k x f:=by simp only[J2,F7]at H;obtain⟨r,h1,H⟩:=D5 H;obtain⟨h4,H⟩:=H6 H;obtain⟨d,h5,H⟩:=D5 H;refine N7 H hw hn λst' A Y k'=>?_;simp only[J2,F7,A.src _ _ hr,h1,ob,h4,og,h5]
def B4P{u:TypeId}(F7:o.op=.convert t u y)(H:J2 C R fl o st k=some x)(hr:M5 (O0 y) f.rt)(hw:M5 o.dst.toList f.wt)(hn:f.nb=none):Fr C R fl o st k x f:=by
 simp only[J2,F7]at H;obtain⟨r,h1,H⟩:=D5 H;split at H
 ·rename_i kd hk;obtain⟨h4,H⟩:=H6 H;obtain⟨d,h5,H⟩:=D5 H;refine N7 H hw hn λst' A Y k'=>?_;simp only[J2,F7,A.src _ _ hr,h1,ob,hk,h4,og,h5]
 ·simp at H
def A5z(F7:o.op=.fieldAddr t y i)(H:J2 C R fl o st k=some x)(hr:M5 (O0 y) f.rt)(hw:M5 o.dst.toList f.wt)(hn:f.nb=none):Fr C R fl o st k x f:=by
 simp only[J2,F7,Ru]at H;obtain⟨r,h1,H⟩:=D5 H;obtain⟨fd,h2,H⟩:=D5 H;obtain⟨z,h3,H⟩:=D5 H;by_cases h0:z.1=0
 ·rw[C8 h0]at H;simp at H
 ·rw[A7 h0]at H;split at H
  all_goals first
   | (rename_i hm
      refine N7 H hw hn λst' A Y k'=>?_;simp only[J2,F7,Ru,A.src _ _ hr,h1,h2,h3,ob,A7 h0,hm])
   |simp at H
def A5A{i:Operand}(F7:o.op=.indexAddr t y i)(H:J2 C R fl o st k=some x)(hr:M5 (K4 [y,i]) f.rt)(hw:M5 o.dst.toList f.wt)(hn:f.nb=none):Fr C R fl o st k x f:=by
 obtain⟨q1,q2⟩:=QS hr;simp only[J2,F7,Gg]at H;obtain⟨r,h1,H⟩:=D5 H;obtain⟨j,h2,H⟩:=D5 H;cases h3:Ip C.P t with
 |none=>
   rw[h3]at H;simp only[mE]at H;obtain⟨q,h4,H⟩:=D5 H;obtain⟨z,h5,H⟩:=D5 H;split at H
   ·rename_i hm;obtain⟨h6,H⟩:=H6 H;obtain⟨n,h7,H⟩:=D5 H;refine N7 H hw hn λst' A Y k'=>?_;simp only[J2,F7,Gg,A.src _ _ q1,A.src _ _ q2,h1,h2,h3,mE,h4,h5,ob,hm,h6,og,h7]
   ·cases H
 |some e=>
 rw[h3]at H;simp only at H;obtain⟨z,h4,H⟩:=D5 H;split at H
 ·rename_i hm;obtain⟨h5,H⟩:=H6 H;obtain⟨n,h6,H⟩:=D5 H;refine N7 H hw hn λst' A Y k'=>?_;simp only[J2,F7,Gg,A.src _ _ q1,A.src _ _ q2,h1,h2,h3,h4,ob,hm,h5,og,h6]
 ·rename_i hm;obtain⟨h5,H⟩:=H6 H;obtain⟨n,h6,H⟩:=D5 H;refine N7 H hw hn λst' A Y k'=>?_;simp only[J2,F7,Gg,A.src _ _ q1,A.src _ _ q2,h1,h2,h3,h4,ob,hm,h5,og,h6]
 ·rename_i m hm;obtain⟨h5,H⟩:=H6 H;obtain⟨d,h6,H⟩:=D5 H;by_cases hz:z.2=true
  ·rw[C8 hz]at H;refine N7 H hw hn λst' A Y k'=>?_;simp only[J2,F7,Gg,A.src _ _ q1,A.src _ _ q2,h1,h2,h3,h4,ob,h5,og,h6,C8 hz]
  ·rw[A7 hz]at H;obtain⟨h8,H⟩:=H6 H;refine N7 H hw hn λst' A Y k'=>?_;simp only[J2,F7,Gg,A.src _ _ q1,A.src _ _ q2,h1,h2,h3,h4,ob,h5,og,h6,A7 hz,h8]
def B20{i:Operand}(F7:o.op=.index t y i)(H:J2 C R fl o st k=some x)(hr:M5 (K4 [y,i]) f.rt)(hw:M5 o.dst.toList f.wt)(hn:f.nb=none):Fr C R fl o st k x f:=by
 obtain⟨q1,q2⟩:=QS hr;simp only[J2,F7]at H;obtain⟨r,h1,H⟩:=D5 H;obtain⟨j,h2,H⟩:=D5 H;split at H
 ·rename_i hu;obtain⟨h5,H⟩:=H6 H;obtain⟨d,h6,H⟩:=D5 H;refine N7 H hw hn λst' A Y k'=>?_;simp only[J2,F7,A.src _ _ q1,A.src _ _ q2,h1,h2,ob,hu,h5,og,h6]
 ·simp at H
def B21{lo hi mx:Option Operand}(F7:o.op=.slice t y lo hi mx)(H:J2 C R fl o st k=some x)(hr:M5 (K4 (y::(lo.toList++hi.toList++mx.toList))) f.rt)(hw:M5 o.dst.toList f.wt)(hn:f.nb=none):
 Fr C R fl o st k x f:=by
 have q1:M5 (O0 y) f.rt:=λi h=>hr i (by simp only[K4,zeq,zcq];exact .inl h);have q2:M5 (K4 lo.toList) f.rt:=λi h=>hr i (by simp only[K4,zeq,zGq,zcq]at h ⊢;exact .inr (.inl (.inl h)));have q3:M5 (K4 hi.toList) f.rt:=λi h=>hr i (by simp only[K4,zeq,zGq,zcq]at h ⊢;exact .inr (.inl (.inr h)));have q4:M5 (K4 mx.toList) f.rt:=λi h=>hr i (by simp only[K4,zeq,zGq,zcq]at h ⊢;exact .inr (.inr h));simp only[J2,F7,Qj]at H;obtain⟨r,h1,H⟩:=D5 H;obtain⟨l,h2,H⟩:=D5 H;obtain⟨h,h3,H⟩:=D5 H;obtain⟨m,h4,H⟩:=D5 H;split at H
 ·rename_i q hq;obtain⟨e,g1,H⟩:=D5 H;obtain⟨z,g2,H⟩:=D5 H;obtain⟨g3,H⟩:=H6 H;obtain⟨hh,g4,H⟩:=D5 H;obtain⟨ll,g5,H⟩:=D5 H;obtain⟨g6,H⟩:=M3 H;refine N7 H hw hn λst' A Y k'=>?_;simp only[J2,F7,Qj,A.src _ _ q1,A.opt _ q2,A.opt _ q3,A.opt _ q4,h1,h2,h3,h4,M6,hq,g1,g2,g3,X6,g4,g5,C8 g6]
 rename_i hq;split at H
 ·rename_i q Ux;obtain⟨e,g1,H⟩:=D5 H;obtain⟨z,g2,H⟩:=D5 H;obtain⟨g3,H⟩:=H6 H;obtain⟨hh,g4,H⟩:=D5 H;obtain⟨g6,H⟩:=M3 H;refine N7 H hw hn λst' A Y k'=>?_;simp only[J2,F7,Qj,A.src _ _ q1,A.opt _ q2,A.opt _ q3,A.opt _ q4,h1,h2,h3,h4,M6,hq,Ux,g1,g2,g3,X6,g4,C8 g6]
 rename_i Ux;obtain⟨h5,H⟩:=H6 H;split at H
 ·rename_i e hu;obtain⟨z,h6,H⟩:=D5 H;split at H
  ·obtain⟨d,h7,H⟩:=D5 H;refine N7 H hw hn λst' A Y k'=>?_;simp only[J2,F7,Qj,A.src _ _ q1,A.opt _ q2,A.opt _ q3,A.opt _ q4,h1,h2,h3,h4,M6,hq,Ux,h5,X6,hu,h7,h6]
  ·obtain⟨d,h7,H⟩:=D5 H;refine N7 H hw hn λst' A Y k'=>?_;simp only[J2,F7,Qj,A.src _ _ q1,A.opt _ q2,A.opt _ q3,A.opt _ q4,h1,h2,h3,h4,M6,hq,Ux,h5,X6,hu,h7,h6]
  ·simp at H
 ·rename_i hu;split at H
  ·obtain⟨d,h7,H⟩:=D5 H;refine N7 H hw hn λst' A Y k'=>?_;simp only[J2,F7,Qj,A.src _ _ q1,A.opt _ q2,A.opt _ q3,A.opt _ q4,h1,h2,h3,h4,M6,hq,Ux,h5,X6,hu,h7]
  ·simp at H
 ·simp at H
def A7H(F7:o.op=.nilCheck y)(H:J2 C R fl o st k=some x)(hr:M5 (O0 y) f.rt)(hw:M5 o.dst.toList f.wt)(hn:f.nb=none):Fr C R fl o st k x f:=by
 simp only[J2,F7]at H;obtain⟨r,h1,H⟩:=D5 H;split at H
 all_goals first
  | (rename_i hm
     refine N7 H hw hn λst' A Y k'=>?_;simp only[J2,F7,A.src _ _ hr,h1,ob,hm];done)
  | (simp at H;done)
  |skip
 rename_i hm;obtain⟨q,h2,H⟩:=D5 H;obtain⟨d,h3,H⟩:=D5 H;refine N7 H hw hn λst' A Y k'=>?_;simp only[J2,F7,A.src _ _ hr,h1,ob,hm,h2,h3]
def A7G{g:FuncId}{first caps:Array Operand}(F7:o.op=.makeFunc (.func g) first caps)(H:J2 C R fl o st k=some x)(hr:M5 (K4 caps.toList) f.rt)(hw:M5 o.dst.toList f.wt)(hn:f.nb=none):Fr C R fl o st k x f:=by simp only[J2,F7]at H;obtain⟨h0,H⟩:=M3 H;obtain⟨rs,h1,H⟩:=D5 H;obtain⟨ms,h2,H⟩:=D5 H;refine N7 H hw hn λst' A Y k'=>?_;simp only[J2,F7,A.KM _ hr,h1,ob,h2,C8 h0]
def B6h{op:BinOp}{z:Operand}{yt:TypeId}(F7:o.op=.binOp op t y z yt)(H:J2 C R fl o st k=some x)(hr:M5 (K4 [y,z]) f.rt)(hw:M5 o.dst.toList f.wt)(hn:f.nb=none):Fr C R fl o st k x f:=by
 obtain⟨q1,q2⟩:=QS hr;simp only[J2,F7,ZC]at H;obtain⟨r,h1,H⟩:=D5 H;obtain⟨s,h2,H⟩:=D5 H;split at H
 ·rename_i hb;obtain⟨h3,H⟩:=H6 H;obtain⟨d,h4,H⟩:=D5 H;refine N7 H hw hn λst' A Y k'=>?_;simp only[J2,F7,ZC,A.src _ _ q1,A.src _ _ q2,h1,h2,ob,hb,h3,og,h4]
 ·rename_i hb;obtain⟨h3,H⟩:=H6 H;obtain⟨d,h4,H⟩:=D5 H;obtain⟨e,h5,H⟩:=D5 H;refine N7 H hw hn λst' A Y k'=>?_;simp only[J2,F7,ZC,A.src _ _ q1,A.src _ _ q2,h1,h2,ob,hb,h3,og,h4,h5]
 ·rename_i hb;obtain⟨h3,H⟩:=H6 H;obtain⟨d,h4,H⟩:=D5 H;obtain⟨e,h5,H⟩:=D5 H;refine N7 H hw hn λst' A Y k'=>?_;simp only[J2,F7,ZC,A.src _ _ q1,A.src _ _ q2,h1,h2,ob,hb,h3,og,h4,h5]
 ·rename_i hb;obtain⟨d,h4,H⟩:=D5 H;obtain⟨e,h5,H⟩:=D5 H;refine N7 H hw hn λst' A Y k'=>?_;simp only[J2,F7,ZC,A.src _ _ q1,A.src _ _ q2,h1,h2,ob,hb,h4,h5]
 ·rename_i hb;obtain⟨d,h4,H⟩:=D5 H;obtain⟨e,h5,H⟩:=D5 H;refine N7 H hw hn λst' A Y k'=>?_;simp only[J2,F7,ZC,A.src _ _ q1,A.src _ _ q2,h1,h2,ob,hb,h4,h5]
 ·simp at H
end
end Go.Su

/-
 THE DATA MACHINE, part 20: footprints, the operations that look at memory.
-/
namespace Go.Su
set_option linter.defProp false
variable {X:Type}{x:X}
def NK{r:DV×F4}{K:DV×F4->Option X}(H:cellOf r K=some x):∃c,K c=some x/\∀(Y:Type)(K':DV×F4->Option Y),cellOf r K'=K' c:=by
 unfold cellOf at H;split at H
 ·rename_i hm;obtain⟨h,H⟩:=H6 H;exact⟨_,H,λY K'=>by simp only[cellOf,hm,h,X6]⟩
 ·rename_i hm;exact⟨_,H,λY K'=>by simp only[cellOf,hm]⟩
 ·rename_i hm;exact⟨_,H,λY K'=>by simp only[cellOf,hm]⟩
 ·rename_i hm;exact⟨_,H,λY K'=>by simp only[cellOf,hm]⟩
 ·rename_i hm;exact⟨_,H,λY K'=>by simp only[cellOf,hm]⟩
 ·rename_i h1 h2 h3 h4 h5;obtain⟨h,H⟩:=H6 H;refine⟨_,H,λY K'=>?_⟩;unfold cellOf;split<;>simp_all[X6]
variable {P:Program}{t:TypeId}
def OO{r:DV×F4}{K:List (DV×F4)->Option X}(H:IG P t r K=some x):
 ∃cs,K cs=some x/\∀(Y:Type)(K':List (DV×F4)->Option Y),IG P t r K'=K' cs:=by
 unfold IG at H;obtain⟨z,hz,H⟩:=D5 H;split at H
 ·rename_i h2;obtain⟨h3,H⟩:=H6 H;obtain⟨cs,h4,H⟩:=D5 H;exact⟨_,H,λY K'=>by simp only[IG,hz,M6,C8 h2,h3,X6,h4]⟩
 ·rename_i h2;obtain⟨c,h3,h4⟩:=NK H;exact⟨_,h3,λY K'=>by simp only[IG,hz,M6,A7 h2,h4]⟩
def sN{r:DV×F4}{K:List (DV×F4)->Option X}(H:Jg P t r K=some x):
 ∃cs,K cs=some x/\∀(Y:Type)(K':List (DV×F4)->Option Y),Jg P t r K'=K' cs:=by
 unfold Jg at H;obtain⟨z,hz,H⟩:=D5 H;split at H
 ·rename_i h2;obtain⟨h3,H⟩:=H6 H;obtain⟨cs,h4,H⟩:=D5 H;exact⟨cs,H,λY K'=>by simp only[Jg,hz,M6,C8 h2,h3,X6,h4]⟩
 ·rename_i h2;obtain⟨c,h3,h4⟩:=NK H;exact⟨_,h3,λY K'=>by simp only[Jg,hz,M6,A7 h2,h4]⟩
def W_{z:Nat×Bool}{r:DV×F4}{K:DV->Option X}(H:OM z r K=some x):K r.1=some x/\∀(Y:Type)(K':DV->Option Y),OM z r K'=K' r.1:=by
 unfold OM at H;obtain⟨h1,H⟩:=H6 H;split at H
 ·rename_i h2;obtain⟨h3,H⟩:=H6 H;exact⟨H,λY K'=>by simp only[OM,h1,X6,C8 h2,h3]⟩
 ·rename_i h2;obtain⟨h3,H⟩:=H6 H;exact⟨H,λY K'=>by simp only[OM,h1,X6,A7 h2,h3]⟩
def iX{X:Type}{P:Program}{t:TypeId}{st:St}{x:X}{rt:List Nat}:∀{ps:List (Nat×Operand)}{cs:List (DV×F4)}{k:List (DV×F4)->Option X},Gf P t st ps cs k=some x->M5 (K4 (ps.map (·.2))) rt->
 ∃cs',k cs'=some x/\∀(f:Fp) st',Eu f st st'->M5 rt f.rt->∀(Y:Type)(k':List (DV×F4)->Option Y),Gf P t st' ps cs k'=k' cs'
 |[],cs,k,H,_=>⟨cs,H,λ_ _ _ _ _ _=>rfl⟩
 | (i,y)::ps,cs,k,H,hs=>by
   simp only[Gf]at H;obtain⟨fd,h1,H⟩:=D5 H;obtain⟨r,h2,H⟩:=D5 H;obtain⟨xs,H,h3⟩:=OO H;obtain⟨h4,H⟩:=M3 H;have s1:M5 (O0 y) rt:=λi h=>hs i (by simp only[y3q,K4,zeq,zcq];exact .inl h);have s2:M5 (K4 (ps.map (·.2))) rt:=λi h=>hs i (by simp only[y3q,K4,zeq,zcq]at h ⊢;exact .inr h);obtain⟨cs',h5,h6⟩:=iX H s2;refine⟨cs',h5,λf st' A hr Y k'=>?_⟩;simp only[Gf,h1,M6,A.src P fd.1 (λi h=>hr i (s1 i h)),h2,h3,C8 h4]
   exact h6 f st' A hr Y k'
variable {x:Operand}
def Eu.iG{f:Fp}{st st':St}(A:Eu f st st')(P:Program)(t:TypeId)(h:M5 (O0 x) f.rt):iG P t st' x=iG P t st x:=by
 have e:=A.src P t h;unfold Su.iG;split
 ·rfl
 ·exact e
def kX{X:Type}{P:Program}{e:TypeId}{z:Nat×Bool}{st:St}{x:X}{rt:List Nat}:∀{ps:List (Nat×Operand)}{ds:List DV}{k:List DV->Option X},JI P e z st ps ds k=some x->M5 (K4 (ps.map (·.2))) rt->
 ∃ds',k ds'=some x/\∀(f:Fp) st',Eu f st st'->M5 rt f.rt->∀(Y:Type)(k':List DV->Option Y),JI P e z st' ps ds k'=k' ds'
 |[],ds,k,H,_=>⟨ds,H,λ_ _ _ _ _ _=>rfl⟩
 | (i,y)::ps,ds,k,H,hs=>by
   simp only[JI]at H;obtain⟨r,h2,H⟩:=D5 H;obtain⟨H,h3⟩:=W_ H;obtain⟨h4,H⟩:=M3 H;have s1:M5 (O0 y) rt:=λi h=>hs i (by simp only[y3q,K4,zeq,zcq];exact .inl h);have s2:M5 (K4 (ps.map (·.2))) rt:=λi h=>hs i (by simp only[y3q,K4,zeq,zcq]at h ⊢;exact .inr h);obtain⟨ds',h5,h6⟩:=kX H s2;refine⟨ds',h5,λf st' A hr Y k'=>?_⟩;simp only[JI,M6,A.iG P e (λi h=>hr i (s1 i h)),h2,h3,C8 h4]
   exact h6 f st' A hr Y k'
section
variable {X:Type}{C:BV}{R:O7}{fl:H8}{o:Oper}{st:St}{k:St->Option X}{x:X}{f:Fp}
def A98{ts:List Nat}:∀{st0 st st' s:St},QJ ts st=some s->(∀t∈ts,t∈f.rt/\t∈f.wt)->(ts≠[]->f.rs=true/\f.ws=true)->f.nb=none->∀st0',Eu f st st'->Two f st0 st0' st st'->
 ∃s',QJ ts st'=some s'/\Eu f s s'/\Two f st0 st0' s s':=by
 induction ts with
 |nil=>intro st0 st st' s H _ _ _ st0' A B;simp only[QJ,D8]at H;subst H;exact⟨st',rfl,A,B⟩
 |cons t ts ih=>
   intro st0 st st' s H h1 h2 h3 st0' A B;simp only[QJ]at H;split at H
   ·rename_i ks hm;obtain⟨q1,q2⟩:=h1 t (zIq ..);obtain⟨q3,q4⟩:=h2 (by simp);obtain⟨a1,a2⟩:=A.t t q1;have Vs:(st'.get t).2=.Ha ks:=by rw[<- hm];simp only[St.get,KS a2]
    have es:=A.s q3;have B8H:∀(l l':List E5),l'=l->(∀(i:Nat),i∈f.rt->((St.put { st' with sg:=l' } (some t) .undef (.map st'.sg.length)).tm[i]?=(St.put { st with sg:=l } (some t) .undef (.map st.sg.length)).tm[i]?/\(St.put { st' with sg:=l' } (some t) .undef (.map st'.sg.length)).mt[i]?=(St.put { st with sg:=l } (some t) .undef (.map st.sg.length)).mt[i]?)):=by
     intro l l' _ i hi;obtain⟨b1,b2⟩:=A.t i hi;simp only[St.put,es]
     by_cases hti:t=i
     ·subst hti;simp only[zmq];rw[b1,b2];exact⟨rfl,rfl⟩
     ·rw[z1q hti,z1q hti,z1q hti,z1q hti];exact⟨b1,b2⟩
    have A1:Eu f ({ st with sg:=st.sg++[E5.map ks []] }.put (some t) .undef (.map st.sg.length)) ({ st' with sg:=st'.sg++[E5.map ks []] }.put (some t) .undef (.map st'.sg.length)):=by refine⟨by simpa[St.put]using A.lt,by simpa[St.put]using A.lm,A.lb,B8H _ _ (by rw[es]),A.b,λ_=>(by simp only[St.put,es]),λt h=>(by rw[h3]at h;cases h),λj _=>(by simp only[St.put,es])⟩
    have B1:Two f st0 st0' ({ st with sg:=st.sg++[E5.map ks []] }.put (some t) .undef (.map st.sg.length)) ({ st' with sg:=st'.sg++[E5.map ks []] }.put (some t) .undef (.map st'.sg.length)):=by rw[es];exact(B.FN q4 _).put (by simpa using q2) _ _
    obtain⟨s',e1,e2,e3⟩:=ih H (λu hu=>h1 u (zRq _ hu)) (λ_=>⟨q3,q4⟩) h3 st0' A1 B1;exact⟨s',by simp only[QJ,Vs];exact e1,e2,e3⟩
   ·cases H
variable {ps:Array (Nat×Operand)}
def B2Z(F7:o.op=.build t ps)(H:J2 C R fl o st k=some x)(hr:M5 (K4 (ps.toList.map (·.2))) f.rt)(hw:M5 o.dst.toList f.wt)(hn:f.nb=none)(hp:∀t∈JW fl o.dst,t∈f.rt/\t∈f.wt)(hq:JW fl o.dst≠[]->f.rs=true/\f.ws=true):Fr C R fl o st k x f:=by simp only[J2,F7]at H;obtain⟨s0,h0,H⟩:=D5 H;obtain⟨zs,h1,H⟩:=D5 H;obtain⟨pl,h2,H⟩:=D5 H;obtain⟨cs,H,h3⟩:=iX H hr;refine⟨_,H,by rw[hn];simp,λst' A=>?_⟩;obtain⟨s',e1,e2,e3⟩:=A98 h0 hp hq hn st' A (Two.refl A);refine⟨_,e3.put hw _ _,λY k'=>?_⟩;simp only[J2,F7,e1,h1,h2,M6];exact h3 f s' e2 (λ_ h=>h) Y _
def A33{n:Nat}(F7:o.op=.buildSlice t n ps)(H:J2 C R fl o st k=some x)(hr:M5 (K4 (ps.toList.map (·.2))) f.rt)(hw:M5 o.dst.toList f.wt)(hn:f.nb=none)(hv:I8 fl.Db o.dst=true->f.rs=true/\f.ws=true):Fr C R fl o st k x f:=by
 simp only[J2,F7]at H;obtain⟨e,h1,H⟩:=D5 H;obtain⟨z,h2,H⟩:=D5 H;obtain⟨zs,h3,H⟩:=D5 H;obtain⟨ze,h4,H⟩:=D5 H;obtain⟨h5,H⟩:=M3 H;obtain⟨ds,H,h6⟩:=kX H hr;by_cases hq:I8 fl.Db o.dst=true
 ·rw[C8 hq]at H;obtain⟨hrs,hws⟩:=hv hq;refine⟨_,H,by rw[hn];simp,λst' A=>⟨_,((Two.refl A).FN hws _).put hw _ _,λY k'=>?_⟩⟩;simp only[J2,F7,h1,h2,h3,h4,M6,C8 h5];rw[h6 f st' A (λ_ h=>h) Y _,C8 hq,A.s hrs]
 ·rw[A7 hq]at H;refine N7 H hw hn λst' A Y k'=>?_;simp only[J2,F7,h1,h2,h3,h4,M6,C8 h5];rw[h6 f st' A (λ_ h=>h) Y _,A7 hq]
def A2L{cs:List (DV×F4)}{sh:Bool}(hk:k (st.FJ sh o.dst cs)=some x)(hb:Qg sh o.dst st=true)(hw:M5 o.dst.toList f.wt)(h1:sh=true->f.nb=none/\f.rs=true/\f.ws=true)(h2:sh=false->f.nb=o.dst/\M5 o.dst.toList f.wb)(h:∀st',Eu f st st'->∀(Y:Type)(k':St->Option Y),J2 C R fl o st' k'=og (Qg sh o.dst st') (k' (st'.FJ sh o.dst cs))):Fr C R fl o st k x f:=by
 cases hd:o.dst with
 |none=>
   rw[hd]at hk;refine⟨_,hk,?_,λst' A=>⟨_,Two.refl A,λY k'=>by rw[h st' A Y k',hd];rfl⟩⟩;cases sh
   ·rw[(h2 rfl).1,hd];simp
   ·rw[(h1 rfl).1];simp
 |some t=>
   rw[hd]at hk hb;have hw':∀u∈(some t:Option Nat).toList,u∈f.wt:=by rw[<- hd];exact hw
   cases sh
   ·obtain⟨q1,q2⟩:=h2 rfl;have eD:Lx t st.mt=true:=by simpa[Qg]using hb
    have cl:∀mt,Lx t mt=true->mt.map (LV t)=mt:=by
     intro mt hh;simp only[Lx,zlq]at hh
     conv=>rhs;rw[<- List.map_id mt]
     refine ybq λm hm=>?_;have:=hh m hm;unfold LV;split
     ·rename_i s' o';simp only[bne_iff_ne,ne_eq]at this;rw[A7 this];rfl
     ·rfl
    refine⟨_,hk,λu hu=>?_,λst' A=>⟨st'.FJ false (some t) cs,?_,λY k'=>?_⟩⟩
    ·rw[q1,hd]at hu;cases hu;exact eD
    ·have yK:=A.n t (by rw[q1,hd]);simp only[St.FJ,z7q,G8];rw[cl _ eD,cl _ yK];exact((Two.refl A).vP (q2 t (by rw[hd];simp)) (some cs)).put hw' _ _
    ·rw[h st' A Y k',hd];have yK:=A.n t (by rw[q1,hd]);simp only[Qg,yK,yoq,X6]
   ·obtain⟨q1,q2,q3⟩:=h1 rfl;refine⟨_,hk,by rw[q1];simp,λst' A=>⟨st'.FJ true (some t) cs,?_,λY k'=>?_⟩⟩
    ·simp only[St.FJ,F6]
     rw[A.s q2];exact((Two.refl A).FN q3 _).put hw' _ _
    ·rw[h st' A Y k',hd];simp only[Qg,Bool.true_or,X6]
def A5y(F7:o.op=.alloc t)(H:J2 C R fl o st k=some x)(hw:M5 o.dst.toList f.wt)(h1:I8 fl.shared o.dst=true->f.nb=none/\f.rs=true/\f.ws=true)(h2:I8 fl.shared o.dst=false->f.nb=o.dst/\M5 o.dst.toList f.wb):Fr C R fl o st k x f:=by simp only[J2,F7]at H;obtain⟨cs,h3,H⟩:=D5 H;obtain⟨h4,H⟩:=H6 H;exact A2L H h4 hw h1 h2 λst' A Y k'=>by simp only[J2,F7,h3,M6]
variable {t:Nat}
theorem B3o{m:F4}(h:(match m with | .loc s _=>s != t | _=>true)=true):(match dm m with | .loc s _=>s != t | _=>true)=true:=by cases m<;>first | exact h | rfl
variable {y:Operand}
def pu{st:St}(h:Lx t st.mt=true):Lx t (st.release y).mt=true:=by
 cases y with
 |tmp u=>
   simp only[St.release,Lx,zlq]at h ⊢;intro m hm;rcases List.mem_or_eq_of_mem_set hm with h1 | rfl
   ·exact h m h1
   ·rcases zuq u st.mt.length with hu | hu
    ·refine B3o ?_;rw[z3q,z5q hu];exact h _ (List.getElem_mem hu)
    ·rw[z3q,z8q hu];rfl
 |_=>exact h
theorem wU{mt:List F4}(hh:Lx t mt=true):mt.map (LV t)=mt:=by
 simp only[Lx,zlq]at hh
 conv=>rhs;rw[<- List.map_id mt]
 refine ybq λm hm=>?_;have:=hh m hm;unfold LV;split
 ·rename_i s' o';simp only[bne_iff_ne,ne_eq]at this;rw[A7 this];rfl
 ·rfl
variable {t:TypeId}
def A0z(F7:o.op=.box t y)(H:J2 C R fl o st k=some x)(hr:M5 (O0 y) f.rt)(hw:M5 o.dst.toList f.wt)(h0:I8 fl.YS o.dst=true->f.nb=none)(hs:I8 fl.YS o.dst=false->I8 fl.Q8 o.dst=true->M5 (O0 y) f.wt/\f.nb=o.dst/\M5 o.dst.toList f.wb)(h1:I8 fl.YS o.dst=false->I8 fl.Q8 o.dst=false->I8 fl.shared o.dst=true->f.nb=none/\f.rs=true/\f.ws=true)(h2:I8 fl.YS o.dst=false->I8 fl.Q8 o.dst=false->I8 fl.shared o.dst=false->f.nb=o.dst/\M5 o.dst.toList f.wb):Fr C R fl o st k x f:=by
 simp only[J2,F7]at H;obtain⟨r,h3,H⟩:=D5 H;by_cases K_:I8 fl.YS o.dst=true
 ·rw[C8 K_]at H;obtain⟨z,h4,H⟩:=D5 H;obtain⟨h5,H⟩:=H6 H;exact N7 H hw (h0 K_) λst' A Y k'=>by simp only[J2,F7,A.src _ _ hr,h3,M6,C8 K_,h4,h5,X6]
 rw[A7 K_]at H;have B3b:I8 fl.YS o.dst=false:=by simpa using K_
 by_cases R6:I8 fl.Q8 o.dst=true
 ·rw[C8 R6]at H;obtain⟨q1,q2,q3⟩:=hs B3b R6;obtain⟨cs,H,h4⟩:=sN H;obtain⟨h5,H⟩:=H6 H;cases hd:o.dst with
  |none=>rw[hd]at R6;simp[I8]at R6
  |some t0=>
    rw[hd]at H h5 q2;have eD:Lx t0 st.mt=true:=by simpa[Qg]using h5
    have hw':∀u∈(some t0:Option Nat).toList,u∈f.wt:=by rw[<- hd];exact hw
    refine⟨_,H,λu hu=>?_,λst' A=>⟨(st'.release y).FJ false (some t0) cs,?_,λY k'=>?_⟩⟩
    ·rw[q2]at hu;cases hu;exact eD
    ·have yK:=A.n t0 q2;simp only[St.FJ,z7q,G8];rw[wU (pu eD),wU (pu yK)];exact(((Two.refl A).release q1 λi hi=>A.t i (hr i hi)).vP (q3 t0 (by rw[hd];simp)) (some cs)).put hw' _ _
    ·have yK:=A.n t0 q2;rw[hd]at K_ R6;simp only[J2,F7,A.src _ _ hr,h3,M6,hd,A7 K_,C8 R6,h4,Qg,yK,yoq,X6]
 rw[A7 R6]at H;have B6A:I8 fl.Q8 o.dst=false:=by simpa using R6
 obtain⟨cs,H,h4⟩:=OO H;obtain⟨h5,H⟩:=H6 H;exact A2L H h5 hw (h1 B3b B6A) (h2 B3b B6A) λst' A Y k'=>by simp only[J2,F7,A.src _ _ hr,h3,M6,A7 K_,A7 R6,h4]
def A69(P P':Program){x:Operand}{r:DV×F4}(h:src P 0 st x=some r):∃r',src P' 0 st x=some r'/\r'.2=r.2:=by
 cases x with
 |const v=>simp only[src]at h ⊢;unfold cst at h ⊢;split at h<;>simp only[D8,reduceCtorEq]at h<;>subst h<;>exact⟨_,rfl,rfl⟩
 |tmp t=>exact⟨r,h,rfl⟩
 |func f=>exact⟨r,h,rfl⟩
 |global g=>simp[src]at h
def A8n(F7:o.op=.load t y)(H:J2 C R fl o st k=some x)(hr:M5 (O0 y) f.rt)(hw:M5 o.dst.toList f.wt)(hn:f.nb=none)(hb:∀r,src C.P 0 st y=some r->M5 (ES r.2).1 f.rb/\((ES r.2).2=true->f.rs=true\/∃j,f.ld=some j/\A6a r.2=some j/\I8 fl.Q8 o.dst=false/\I8 fl.Db o.dst=false)/\(I8 fl.Q8 o.dst=true->M5 (ES r.2).1 f.wb/\((ES r.2).2=true->f.ws=true))/\(I8 fl.Db o.dst=true->(ES r.2).2=true->f.ws=true)):
 Fr C R fl o st k x f:=by
 simp only[J2,F7,CX]at H;obtain⟨r,h1,H⟩:=D5 H;obtain⟨z,h2,H⟩:=D5 H;obtain⟨b1,b2,b3,b4⟩:=hb r h1;split at H
 ·rename_i s off hm;rw[hm]at b1 b2 b3 b4;have hs:s∈f.rb:=b1 s (by simp[ES]);obtain⟨cs,h3,H⟩:=D5 H;obtain⟨h4,H⟩:=M3 H;by_cases hz:z.2=true
  ·rw[C8 hz]at H;by_cases R6:I8 fl.Q8 o.dst=true
   ·rw[C8 R6]at H;refine⟨_,H,by rw[hn];simp,λst' A=>⟨_,((Two.refl A).vP ((b3 R6).1 s (by simp[ES])) _).put hw _ _,λY k'=>?_⟩⟩;simp only[J2,F7,CX,A.src _ _ hr,h1,h2,M6,hm,A.bx hs,h3,C8 h4,C8 hz,C8 R6]
   rw[A7 R6]at H;refine N7 H hw hn λst' A Y k'=>?_;simp only[J2,F7,CX,A.src _ _ hr,h1,h2,M6,hm,A.bx hs,h3,C8 h4,C8 hz,A7 R6]
  ·rw[A7 hz]at H;by_cases R6:I8 fl.Q8 o.dst=true
   ·rw[C8 R6]at H;refine⟨_,H,by rw[hn];simp,λst' A=>⟨_,((Two.refl A).vP ((b3 R6).1 s (by simp[ES])) _).put hw _ _,λY k'=>?_⟩⟩;simp only[J2,F7,CX,A.src _ _ hr,h1,h2,M6,hm,A.bx hs,h3,C8 h4,A7 hz,C8 R6]
   ·rw[A7 R6]at H;refine N7 H hw hn λst' A Y k'=>?_;simp only[J2,F7,CX,A.src _ _ hr,h1,h2,M6,hm,A.bx hs,h3,C8 h4,A7 hz,A7 R6]
 ·rename_i ag sz off hm;obtain⟨h4,H⟩:=M3 H;by_cases hz:z.2=true
  ·rw[C8 hz]at H;obtain⟨h5,H⟩:=H6 H;refine N7 H hw hn λst' A Y k'=>?_;simp only[J2,F7,CX,A.src _ _ hr,h1,h2,M6,hm,C8 h4,C8 hz,h5,X6]
  ·rw[A7 hz]at H;refine N7 H hw hn λst' A Y k'=>?_;simp only[J2,F7,CX,A.src _ _ hr,h1,h2,M6,hm,C8 h4,A7 hz]
 ·rename_i i off hm;rw[hm]at b1 b2 b3 b4;have hs2:(I8 fl.Q8 o.dst=true\/I8 fl.Db o.dst=true)->f.rs=true:=λh=>by
   rcases b2 rfl with g | ⟨j,_,_,g1,g2⟩
   ·exact g
   ·rcases h with h | h
    ·rw[g1]at h;cases h
    ·rw[g2]at h;cases h
  have hs:∀st',Eu f st st'->H5 st'.sg i=H5 st.sg i:=λst' A=>by
   rcases b2 rfl with g | ⟨j,g1,g2,-⟩
   ·rw[A.s g]
   ·cases g2;unfold H5;rw[A.l _ g1]
  obtain⟨cs,h3,H⟩:=D5 H;by_cases hz:z.2=true
  ·rw[C8 hz]at H;obtain⟨h5,H⟩:=H6 H;obtain⟨ds,h6,H⟩:=D5 H;refine N7 H hw hn λst' A Y k'=>?_;simp only[J2,F7,CX,A.src _ _ hr,h1,h2,M6,hm,hs _ A,h3,C8 hz,h5,X6,h6]
  ·rw[A7 hz]at H;split at H
   ·rename_i hc;obtain⟨j,h6,H⟩:=D5 H;refine N7 H hw hn λst' A Y k'=>?_;simp only[J2,F7,CX,A.src _ _ hr,h1,h2,M6,hm,hs _ A,h3,A7 hz,hc,h6]
   ·rename_i hc;obtain⟨j,h6,H⟩:=D5 H;refine N7 H hw hn λst' A Y k'=>?_;simp only[J2,F7,CX,A.src _ _ hr,h1,h2,M6,hm,hs _ A,h3,A7 hz,hc,h6]
   ·rename_i hc;by_cases hg0:I8 fl.Oe o.dst=true
    ·rw[C8 hg0]at H;obtain⟨e,h6,H⟩:=D5 H;obtain⟨ze,h7,H⟩:=D5 H;obtain⟨q,h8,H⟩:=D5 H;refine N7 H hw hn λst' A Y k'=>?_;simp only[J2,F7,CX,A.src _ _ hr,h1,h2,M6,hm,hs _ A,h3,A7 hz,hc,C8 hg0,h6,h7,h8]
    rw[A7 hg0]at H;by_cases tQ:I8 fl.Om o.dst=true
    ·rw[C8 tQ]at H;obtain⟨e,h6,H⟩:=D5 H;obtain⟨ze,h7,H⟩:=D5 H;obtain⟨q,h8,H⟩:=D5 H;refine N7 H hw hn λst' A Y k'=>?_;simp only[J2,F7,CX,A.src _ _ hr,h1,h2,M6,hm,hs _ A,h3,A7 hz,hc,A7 hg0,C8 tQ,h6,h7,h8]
    rw[A7 tQ]at H;by_cases hq:I8 fl.Db o.dst=true
    ·rw[C8 hq]at H;obtain⟨e,h6,H⟩:=D5 H;obtain⟨ze,h7,H⟩:=D5 H;obtain⟨q,h8,H⟩:=D5 H;refine⟨_,H,by rw[hn];simp,λst' A=>⟨_,((Two.refl A).FN (b4 hq rfl) _).put hw _ _,λY k'=>?_⟩⟩;simp only[J2,F7,CX,A.src _ _ hr,h1,h2,M6,hm,A.s (hs2 (.inr hq)),h3,A7 hz,hc,A7 hg0,A7 tQ,C8 hq,h6,h7,h8]
    ·rw[A7 hq]at H;by_cases R6:I8 fl.Q8 o.dst=true
     ·rw[C8 R6]at H;obtain⟨d,h6,H⟩:=D5 H;refine⟨_,H,by rw[hn];simp,λst' A=>⟨_,((Two.refl A).FN ((b3 R6).2 rfl) _).put hw _ _,λY k'=>?_⟩⟩;simp only[J2,F7,CX,A.src _ _ hr,h1,h2,M6,hm,A.s (hs2 (.inl R6)),h3,A7 hz,hc,A7 hg0,A7 tQ,A7 hq,C8 R6,h6]
     ·rw[A7 R6]at H;obtain⟨d,h6,H⟩:=D5 H;refine N7 H hw hn λst' A Y k'=>?_;simp only[J2,F7,CX,A.src _ _ hr,h1,h2,M6,hm,hs _ A,h3,A7 hz,hc,A7 hg0,A7 tQ,A7 hq,A7 R6,h6]
 ·rename_i i sz idx off hm;rw[hm]at b1 b2 b3 b4;have hs:∀st',Eu f st st'->Qw st'.sg i=Qw st.sg i:=λst' A=>by
   rcases b2 rfl with g | ⟨j,g1,g2,-⟩
   ·rw[A.s g]
   ·cases g2;unfold Qw;rw[A.l _ g1]
  obtain⟨a,h3,H⟩:=D5 H;obtain⟨d,h4,H⟩:=D5 H;obtain⟨h5,H⟩:=H6 H;obtain⟨h6,H⟩:=M3 H;by_cases hz:z.2=true
  ·rw[C8 hz]at H;refine N7 H hw hn λst' A Y k'=>?_;simp only[J2,F7,CX,A.src _ _ hr,h1,h2,M6,hm,hs _ A,h3,h4,h5,X6,C8 h6,C8 hz]
  ·rw[A7 hz]at H;by_cases h7:sz=1
   ·rw[C8 h7]at H;obtain⟨h8,H⟩:=H6 H;refine N7 H hw hn λst' A Y k'=>?_;simp only[J2,F7,CX,A.src _ _ hr,h1,h2,M6,hm,hs _ A,h3,h4,h5,X6,C8 h6,A7 hz,C8 h7,h8]
   ·rw[A7 h7]at H;refine N7 H hw hn λst' A Y k'=>?_;simp only[J2,F7,CX,A.src _ _ hr,h1,h2,M6,hm,hs _ A,h3,h4,h5,X6,C8 h6,A7 hz,A7 h7]
 ·rename_i i n sz idx off hm;rw[hm]at b1 b2 b3 b4;have hs:∀st',Eu f st st'->V3 st'.sg i n=V3 st.sg i n:=λst' A=>by
   rcases b2 rfl with g | ⟨j,g1,g2,-⟩
   ·rw[A.s g]
   ·cases g2;unfold V3;rw[A.l _ g1]
  obtain⟨a,h3,H⟩:=D5 H;obtain⟨d,h4,H⟩:=D5 H;obtain⟨h5,H⟩:=H6 H;obtain⟨h6,H⟩:=M3 H;by_cases hz:z.2=true
  ·rw[C8 hz]at H;refine N7 H hw hn λst' A Y k'=>?_;simp only[J2,F7,CX,A.src _ _ hr,h1,h2,M6,hm,hs _ A,h3,h4,h5,X6,C8 h6,C8 hz]
  ·rw[A7 hz]at H;by_cases h7:sz=1
   ·rw[C8 h7]at H;obtain⟨h8,H⟩:=H6 H;refine N7 H hw hn λst' A Y k'=>?_;simp only[J2,F7,CX,A.src _ _ hr,h1,h2,M6,hm,hs _ A,h3,h4,h5,X6,C8 h6,A7 hz,C8 h7,h8]
   ·rw[A7 h7]at H;refine N7 H hw hn λst' A Y k'=>?_;simp only[J2,F7,CX,A.src _ _ hr,h1,h2,M6,hm,hs _ A,h3,h4,h5,X6,C8 h6,A7 hz,A7 h7]
 ·simp at H
def B22{v:Operand}(F7:o.op=.store t y v)(H:J2 C R fl o st k=some x)(hr:M5 (K4 [y,v]) f.rt)(hw:M5 o.dst.toList f.wt)(hwv:M5 (FM st.mt v) f.wt)(hn:f.nb=none)(hb:∀r,src C.P 0 st y=some r->M5 (ES r.2).1 f.rb/\((ES r.2).2=true->f.rs=true)/\M5 (ES r.2).1 f.wb/\((ES r.2).2=true->f.ws=true)):
 Fr C R fl o st k x f:=by
 obtain⟨q1,q2⟩:=QS hr;simp only[J2,F7,DX]at H;obtain⟨r,h1,H⟩:=D5 H;obtain⟨u,h2,H⟩:=D5 H;obtain⟨z,h3,H⟩:=D5 H;obtain⟨b1,b2,b3,b4⟩:=hb r h1;split at H
 ·rename_i s off hm;rw[hm]at b1 b2 b3 b4;have hs:s∈f.rb:=b1 s (by simp[ES]);have DL:s∈f.wb:=b3 s (by simp[ES]);obtain⟨cs,h4,H⟩:=D5 H;by_cases hz:z.2=true
  ·rw[C8 hz]at H;obtain⟨xs,H,h5⟩:=sN H;obtain⟨h6,H⟩:=M3 H;refine⟨_,H,by rw[hn];simp,λst' A=>⟨_,(((Two.refl A).vP DL _).yz hwv λi hi=>A.t i (q2 i hi)).put hw _ _,λY k'=>?_⟩⟩;simp only[J2,F7,DX,A.src _ _ q1,A.src _ _ q2,h1,h2,h3,M6,hm,A.bx hs,h4,C8 hz,h5,C8 h6]
  ·rw[A7 hz]at H;obtain⟨c,H,h5⟩:=NK H;obtain⟨h6,H⟩:=M3 H;refine⟨_,H,by rw[hn];simp,λst' A=>⟨_,(((Two.refl A).vP DL _).yz hwv λi hi=>A.t i (q2 i hi)).put hw _ _,λY k'=>?_⟩⟩;simp only[J2,F7,DX,A.src _ _ q1,A.src _ _ q2,h1,h2,h3,M6,hm,A.bx hs,h4,A7 hz,h5,C8 h6]
 ·rename_i i off hm;rw[hm]at b1 b2 b3 b4;obtain⟨cs,h4,H⟩:=D5 H;by_cases hz:z.2=true
  ·rw[C8 hz]at H;obtain⟨xs,H,h5⟩:=OO H;obtain⟨h6,H⟩:=M3 H;refine⟨_,H,by rw[hn];simp,λst' A=>⟨_,((Two.refl A).FN (b4 rfl) _).put hw _ _,λY k'=>?_⟩⟩;simp only[J2,F7,DX,A.src _ _ q1,A.src _ _ q2,h1,h2,h3,M6,hm,A.s (b2 rfl),h4,C8 hz,h5,C8 h6]
  ·rw[A7 hz]at H;obtain⟨c,H,h5⟩:=NK H;obtain⟨c0,h6,H⟩:=D5 H;refine⟨_,H,by rw[hn];simp,λst' A=>⟨_,(((Two.refl A).FN (b4 rfl) (st.sg.set i (.box (cs.set off c)))).yz hwv λi hi=>A.t i (q2 i hi)).put hw (.J9 []) .val,λY k'=>?_⟩⟩;simp only[J2,F7,DX,A.src _ _ q1,A.src _ _ q2,h1,h2,h3,M6,hm,A.s (b2 rfl),h4,A7 hz,h5,h6]
 ·rename_i i sz idx off hm;rw[hm]at b1 b2 b3 b4;obtain⟨a,h4,H⟩:=D5 H;obtain⟨d,h5,H⟩:=D5 H;obtain⟨H,h6⟩:=W_ H;obtain⟨h7,H⟩:=H6 H;obtain⟨h8,H⟩:=M3 H;refine⟨_,H,by rw[hn];simp,λst' A=>⟨_,((Two.refl A).FN (b4 rfl) _).put hw _ _,λY k'=>?_⟩⟩;simp only[J2,F7,DX,A.src _ _ q1,A.src _ _ q2,h1,h2,h3,M6,hm,A.s (b2 rfl),h4,h5,h6,h7,X6,C8 h8]
 ·rename_i i sz idx hm;rw[hm]at b1 b2 b3 b4;obtain⟨q,h4,H⟩:=D5 H;obtain⟨H,h6⟩:=W_ H;obtain⟨h7,H⟩:=H6 H;obtain⟨x',h8,H⟩:=D5 H;refine⟨_,H,by rw[hn];simp,λst' A=>⟨_,((Two.refl A).FN (b4 rfl) _).put hw _ _,λY k'=>?_⟩⟩;simp only[J2,F7,DX,A.src _ _ q1,A.src _ _ q2,h1,h2,h3,M6,hm,A.s (b2 rfl),h4,h6,h7,X6,h8]
 ·rename_i i n sz idx off hm;rw[hm]at b1 b2 b3 b4;obtain⟨a,h4,H⟩:=D5 H;obtain⟨d,h5,H⟩:=D5 H;obtain⟨h7,H⟩:=H6 H;by_cases hz:z.2=true
  ·rw[C8 hz]at H;obtain⟨xs,H,h6⟩:=OO H;obtain⟨e,h8,H⟩:=D5 H;refine⟨_,H,by rw[hn];simp,λst' A=>⟨_,((Two.refl A).FN (b4 rfl) _).put hw _ _,λY k'=>?_⟩⟩;simp only[J2,F7,DX,A.src _ _ q1,A.src _ _ q2,h1,h2,h3,M6,hm,A.s (b2 rfl),h4,h5,h7,X6,C8 hz,h6,h8]
  ·rw[A7 hz]at H;obtain⟨c,H,h6⟩:=NK H;obtain⟨e,h8,H⟩:=D5 H;refine⟨_,H,by rw[hn];simp,λst' A=>⟨_,((Two.refl A).FN (b4 rfl) _).put hw _ _,λY k'=>?_⟩⟩;simp only[J2,F7,DX,A.src _ _ q1,A.src _ _ q2,h1,h2,h3,M6,hm,A.s (b2 rfl),h4,h5,h7,X6,A7 hz,h6,h8]
 ·simp at H
def A9x(F7:o.op=.makeMap t none)(H:J2 C R fl o st k=some x)(hw:M5 o.dst.toList f.wt)(hn:f.nb=none)(hq:I8 fl.Ha o.dst=false->f.rs=true/\f.ws=true):Fr C R fl o st k x f:=by
 simp only[J2,F7]at H;obtain⟨q,h1,H⟩:=D5 H;cases eF:I8 fl.Ha o.dst with
 |true=>rw[eF,C8 rfl]at H;refine N7 H hw hn λst' A Y k'=>?_;simp only[J2,F7,h1,M6,eF,C8]
 |false=>rw[eF,A7 (by simp)]at H;obtain⟨hrs,hws⟩:=hq eF;refine⟨_,H,by rw[hn];simp,λst' A=>⟨_,((Two.refl A).FN hws _).put hw _ _,λY k'=>?_⟩⟩;simp only[J2,F7,h1,M6,A.s hrs,eF,z7q,G8]
def B1l{v:Operand}{ok:Bool}(F7:o.op=.lookup t y v ok)(H:J2 C R fl o st k=some x)(hr:M5 (K4 [y,v]) f.rt)(hw:M5 o.dst.toList f.wt)(hn:f.nb=none)(hrs:f.rs=true):Fr C R fl o st k x f:=by
 obtain⟨q1,q2⟩:=QS hr;simp only[J2,F7]at H;obtain⟨r,h1,H⟩:=D5 H;obtain⟨key,h2,H⟩:=D5 H;obtain⟨q,h3,H⟩:=D5 H;obtain⟨ze,h4,H⟩:=D5 H;obtain⟨h5,H⟩:=H6 H;split at H
 ·rename_i i hm;obtain⟨p,h6,H⟩:=D5 H;obtain⟨h7,H⟩:=H6 H;by_cases Am:ok=true
  ·rw[C8 Am]at H;refine N7 H hw hn λst' A Y k'=>?_;simp only[J2,F7,A.src _ _ q1,A.src _ _ q2,h1,h2,h3,h4,M6,h5,X6,hm,A.s hrs,h6,h7,C8 Am]
  ·rw[A7 Am]at H;refine N7 H hw hn λst' A Y k'=>?_;simp only[J2,F7,A.src _ _ q1,A.src _ _ q2,h1,h2,h3,h4,M6,h5,X6,hm,A.s hrs,h6,h7,A7 Am]
 ·simp at H
def A5B{v u:Operand}(F7:o.op=.mapUpdate t y v u)(H:J2 C R fl o st k=some x)(hr:M5 (K4 [y,v,u]) f.rt)(hw:M5 o.dst.toList f.wt)(hn:f.nb=none)(hrs:f.rs=true)(hws:f.ws=true):Fr C R fl o st k x f:=by
 have q1:M5 (O0 y) f.rt:=λi hi=>hr i (by simp[K4,hi]);have q2:M5 (O0 v) f.rt:=λi hi=>hr i (by simp[K4,hi]);have q3:M5 (O0 u) f.rt:=λi hi=>hr i (by simp[K4,hi]);simp only[J2,F7]at H;obtain⟨r,h1,H⟩:=D5 H;obtain⟨key,h2,H⟩:=D5 H;obtain⟨val,h3,H⟩:=D5 H;obtain⟨q,h4,H⟩:=D5 H;obtain⟨h5,H⟩:=H6 H;split at H
 ·rename_i i hm;obtain⟨p,h6,H⟩:=D5 H;obtain⟨h7,H⟩:=H6 H;refine⟨_,H,by rw[hn];simp,λst' A=>⟨_,((Two.refl A).FN hws _).put hw _ _,λY k'=>?_⟩⟩;simp only[J2,F7,A.src _ _ q1,A.src _ _ q2,A.src _ _ q3,h1,h2,h3,h4,M6,h5,X6,hm,A.s hrs,h6,h7]
 ·simp at H
def A9w{i:Nat}(F7:o.op=.extract y i)(H:J2 C R fl o st k=some x)(hr:M5 (O0 y) f.rt)(hw:M5 o.dst.toList f.wt)(hs:I8 fl.Q8 o.dst=true->M5 (O0 y) f.wt)(hn:f.nb=none):Fr C R fl o st k x f:=by
 simp only[J2,F7]at H;obtain⟨r,h1,H⟩:=D5 H;split at H
 ·rename_i hm;obtain⟨d,h2,H⟩:=D5 H;refine N7 H hw hn λst' A Y k'=>?_;simp only[J2,F7,A.src _ _ hr,h1,M6,hm,h2]
 ·rename_i ms hm;obtain⟨d,h2,H⟩:=D5 H;split at H
  ·rename_i hg;by_cases R6:I8 fl.Q8 o.dst=true
   ·rw[C8 R6]at H;refine⟨_,H,by rw[hn];simp,λst' A=>⟨(st'.oJ y (.Ca (ms.set i .val))).put o.dst d .own,Two.put ?_ hw _ _,λY k'=>?_⟩⟩
    ·cases y with
     |tmp t=>
       have ht:t∈O0 (.tmp t):=by simp[O0]
       exact(Two.refl A).B4x (hs R6 t ht) (A.t t (hr t ht)).1 _
     |_=>exact Two.refl A
    ·simp only[J2,F7,A.src _ _ hr,h1,M6,hm,h2,hg,C8 R6]
   ·rw[A7 R6]at H;refine N7 H hw hn λst' A Y k'=>?_;simp only[J2,F7,A.src _ _ hr,h1,M6,hm,h2,hg,A7 R6]
  ·rename_i hg;refine N7 H hw hn λst' A Y k'=>?_;simp only[J2,F7,A.src _ _ hr,h1,M6,hm,h2,hg]
  ·simp at H
 ·simp at H
end
end Go.Su

/-
 THE DATA MACHINE, part 21: footprints, calls; every operation.
-/
namespace Go.Su
set_option linter.defProp false
section
variable {X:Type}{C:BV}{R:O7}{fl:H8}{o:Oper}{st:St}{k:St->Option X}{x:X}{f:Fp}{c:Call}{y:Operand}
def B6i{t:TypeId}(F7:o.op=.call c)(hc:c.callee=.builtin .len)(ha:c.args.toList=[y])(ht:c.argTypes.toList=[t])(H:UZ C o y t st k=some x)(hr:M5 (O0 y) f.rt)(hw:M5 o.dst.toList f.wt)(hn:f.nb=none)(hrs:f.rs=true):Fr C R fl o st k x f:=by
 have IK:∀(Y:Type)(st:St)(k:St->Option Y),J2 C R fl o st k=UZ C o y t st k:=λY st k=>by simp only[J2,F7,G_,hc,ha,ht]
 unfold UZ at H;obtain⟨r,h1,H⟩:=D5 H;split at H
 ·rename_i hu;split at H
  ·rename_i hm;refine N7 H hw hn λst' A Y k'=>?_;rw[IK];simp only[UZ,A.src _ _ hr,h1,M6,hu,hm]
  ·rename_i hm;rw[Wq]at H;refine N7 H hw hn λst' A Y k'=>?_;rw[IK];simp only[UZ,A.src _ _ hr,h1,M6,hu,hm,Wq]
  ·rename_i hm;obtain⟨h2,H⟩:=H6 H;obtain⟨d,h3,H⟩:=D5 H;refine N7 H hw hn λst' A Y k'=>?_;rw[IK];simp only[UZ,A.src _ _ hr,h1,M6,hu,h2,X6,h3]
 ·rename_i hu;obtain⟨h2,H⟩:=H6 H;obtain⟨d,h3,H⟩:=D5 H;refine N7 H hw hn λst' A Y k'=>?_;rw[IK];simp only[UZ,A.src _ _ hr,h1,M6,hu,h2,X6,h3]
 ·rename_i hu;obtain⟨d,h3,H⟩:=D5 H;rw[Wq]at H;refine N7 H hw hn λst' A Y k'=>?_;rw[IK];simp only[UZ,A.src _ _ hr,h1,M6,hu,A.s hrs,h3,Wq]
 ·simp at H
def B1k{v:Operand}{t u:TypeId}(F7:o.op=.call c)(hc:c.callee=.builtin .append)(ha:c.args.toList=[y,v])(ht:c.argTypes.toList=[t,u])(H:Dn C fl o y v t u st k=some x)(hr:M5 (K4 [y,v]) f.rt)(hw:M5 o.dst.toList f.wt)(hwy:M5 (O0 y) f.wt)(hn:f.nb=none)(hos:(I8 fl.opn o.dst||(I8 fl.Db o.dst||I8 fl.Oe o.dst))=true->f.rs=true/\f.ws=true):Fr C R fl o st k x f:=by
 obtain⟨q1,q2⟩:=QS hr;have IK:∀(Y:Type)(st:St)(k:St->Option Y),J2 C R fl o st k=Dn C fl o y v t u st k:=λY st k=>by simp only[J2,F7,G_,hc,ha,ht]
 unfold Dn at H;by_cases QB:I8 fl.Oe o.dst=true
 ·rw[C8 QB]at H;unfold A0k at H;obtain⟨o1,o2⟩:=hos (by rw[QB];simp);obtain⟨r,h1,H⟩:=D5 H;obtain⟨s,h2,H⟩:=D5 H;obtain⟨sz,h3,H⟩:=D5 H;obtain⟨h4,H⟩:=H6 H;obtain⟨q,hq,H⟩:=D5 H;obtain⟨h6,H⟩:=H6 H;obtain⟨p,h5,H⟩:=D5 H;refine⟨_,H,by rw[hn];simp,λst' A=>⟨_,((Two.refl A).FN o2 _).put hw _ _,λY k'=>?_⟩⟩;rw[IK];simp only[Dn,C8 QB,A0k,A.src _ _ q1,A.src _ _ q2,h1,h2,h3,M6,h4,X6,hq,A.s o1,h5,h6]
 rw[A7 QB]at H;by_cases PL:I8 fl.Db o.dst=true
 ·rw[C8 PL]at H;unfold A0n at H;obtain⟨o1,o2⟩:=hos (by rw[PL];simp);obtain⟨r,h1,H⟩:=D5 H;obtain⟨s,h2,H⟩:=D5 H;obtain⟨sz,h3,H⟩:=D5 H;obtain⟨h4,H⟩:=H6 H;obtain⟨q,hq,H⟩:=D5 H;obtain⟨p,h5,H⟩:=D5 H;obtain⟨h6,H⟩:=H6 H;obtain⟨d,h7,H⟩:=D5 H;refine⟨_,H,by rw[hn];simp,λst' A=>⟨_,((Two.refl A).FN o2 _).put hw _ _,λY k'=>?_⟩⟩;rw[IK];simp only[Dn,A7 QB,C8 PL,A0n,A.src _ _ q1,A.src _ _ q2,h1,h2,h3,M6,h4,X6,hq,A.s o1,h5,h6,h7]
 rw[A7 PL]at H;obtain⟨r,h1,H⟩:=D5 H;obtain⟨s,h2,H⟩:=D5 H;obtain⟨sz,h3,H⟩:=D5 H;obtain⟨h4,H⟩:=H6 H;by_cases d_:I8 fl.opn o.dst=true
 ·rw[C8 d_]at H;obtain⟨p,h5,H⟩:=D5 H;obtain⟨o1,o2⟩:=hos (by rw[d_];simp);refine⟨_,H,by rw[hn];simp,λst' A=>⟨_,(((Two.refl A).release hwy λi hi=>A.t i (q1 i hi)).FN o2 (st.sg++[E5.opn sz p.1 p.2])).put hw _ _,λY k'=>?_⟩⟩;rw[IK];simp only[Dn,A7 QB,A7 PL,A.src _ _ q1,A.src _ _ q2,h1,h2,h3,M6,h4,X6,C8 d_,h5,A.s o1]
 rw[A7 d_]at H;obtain⟨d,h5,H⟩:=D5 H;refine⟨_,H,by rw[hn];simp,λst' A=>⟨_,((Two.refl A).release hwy λi hi=>A.t i (q1 i hi)).put hw _ _,λY k'=>?_⟩⟩;rw[IK];simp only[Dn,A7 QB,A7 PL,A.src _ _ q1,A.src _ _ q2,h1,h2,h3,M6,h4,X6,A7 d_,h5]
def B6j{v:Operand}{t u:TypeId}(F7:o.op=.call c)(hc:c.callee=.builtin .max)(ha:c.args.toList=[y,v])(ht:c.argTypes.toList=[t,u])(H:J2 C R fl o st k=some x)(hr:M5 (K4 [y,v]) f.rt)(hw:M5 o.dst.toList f.wt)(hn:f.nb=none):Fr C R fl o st k x f:=by obtain⟨q1,q2⟩:=QS hr;simp only[J2,F7,G_,hc,ha,ht]at H;obtain⟨r,h1,H⟩:=D5 H;obtain⟨s,h2,H⟩:=D5 H;obtain⟨h4,H⟩:=H6 H;obtain⟨d,h5,H⟩:=D5 H;refine N7 H hw hn λst' A Y k'=>?_;simp only[J2,F7,G_,hc,ha,ht,A.src _ _ q1,A.src _ _ q2,h1,h2,M6,h4,X6,h5]
def B6k{v:Operand}{t u:TypeId}(F7:o.op=.call c)(hc:c.callee=.builtin .min)(ha:c.args.toList=[y,v])(ht:c.argTypes.toList=[t,u])(H:J2 C R fl o st k=some x)(hr:M5 (K4 [y,v]) f.rt)(hw:M5 o.dst.toList f.wt)(hn:f.nb=none):Fr C R fl o st k x f:=by obtain⟨q1,q2⟩:=QS hr;simp only[J2,F7,G_,hc,ha,ht]at H;obtain⟨r,h1,H⟩:=D5 H;obtain⟨s,h2,H⟩:=D5 H;obtain⟨h4,H⟩:=H6 H;obtain⟨d,h5,H⟩:=D5 H;refine N7 H hw hn λst' A Y k'=>?_;simp only[J2,F7,G_,hc,ha,ht,A.src _ _ q1,A.src _ _ q2,h1,h2,M6,h4,X6,h5]
def B4R{g:FuncId}(F7:o.op=.call c)(hc:c.callee=.value (.func g))(h1:C.clone g=false)(h0:C.eQ g=none)(h2:C.sig g=none)(H:J2 C R fl o st k=some x)(hr:M5 (K4 c.args.toList) f.rt)(hw:M5 o.dst.toList f.wt)(hn:f.nb=none):Fr C R fl o st k x f:=by
 have h1':¬(C.clone g=true):=by rw[h1];simp
 simp only[J2,F7,G_,hc,src,M6,Kk,A7 h1',h0,h2,List.map_nil,zWq]at H;obtain⟨rs,h3,H⟩:=D5 H;obtain⟨h4,H⟩:=H6 H;obtain⟨d,h5,H⟩:=D5 H;refine N7 H hw hn λst' A Y k'=>?_;simp only[J2,F7,G_,hc,src,M6,Kk,A7 h1',h0,h2,List.map_nil,zWq,A.KM _ hr,h3,h4,X6,h5]
def Two.JU{st' s s':St}(A:Two f st st' s s'){g:Option (Nat×Operand)}(hx:∀p,g=some p->M5 (O0 p.2) f.wt)(he:∀p,g=some p->∀t∈O0 p.2,s'.tm[t]?=s.tm[t]?/\s'.mt[t]?=s.mt[t]?):
 Two f st st' (s.JU g) (s'.JU g):=by
 cases g with
 |none=>exact A
 |some p=>exact A.release (hx p rfl) (he p rfl)
def B6g(F7:o.op=.call c)(hc:c.callee=.value y)(H:J2 C R fl o st k=some x)(hr:M5 (K4 (y::c.args.toList)) f.rt)(hw:M5 o.dst.toList f.wt)(hwa:M5 (K4 c.args.toList) f.wt)(hn:f.nb=none)(hrs:f.rs=true)(hws:f.ws=true):Fr C R fl o st k x f:=by
 have q1:M5 (O0 y) f.rt:=λi h=>hr i (by simp only[K4,zeq,zcq];exact .inl h);have q2:M5 (K4 c.args.toList) f.rt:=λi h=>hr i (by simp only[K4,zeq,zcq]at h ⊢;exact .inr h);simp only[J2,F7,G_,hc]at H;obtain⟨r,h1,H⟩:=D5 H;obtain⟨rs,h2,H⟩:=D5 H;split at H
 ·rename_i g caps hm;have IK:∀st',Eu f st st'->∀(Y:Type)(k':St->Option Y),J2 C R fl o st' k'=Kk C R o g c.args.toList (rs++caps.map λm=>(.undef,.ptr m.1 m.2)) st' k':=by intro st' A Y k';simp only[J2,F7,G_,hc,A.src _ _ q1,A.KM _ q2,h1,h2,M6,hm]
  generalize rs++caps.map (λm=>((.undef,.ptr m.1 m.2):DV×F4))=rs' at H IK;unfold Kk at H;by_cases TS:C.clone g=true
  ·rw[C8 TS]at H;split at H
   ·rename_i r' 
    ·obtain⟨p,hd,H⟩:=D5 H;obtain⟨h3,H⟩:=H6 H;refine⟨_,H,by rw[hn];simp,λst' A=>⟨_,((Two.refl A).FN hws _).put hw _ _,λY k'=>?_⟩⟩;rw[IK st' A];simp only[Kk,C8 TS,hd,M6,h3,X6,A.s hrs]
   ·simp at H
  ·rw[A7 TS]at H;cases xK:C.eQ g with
   |some g'=>
     rw[xK]at H;simp only at H;split at H
     ·rename_i r';obtain⟨p,hd,H⟩:=D5 H;obtain⟨h3,H⟩:=H6 H;refine⟨_,H,by rw[hn];simp,λst' A=>⟨_,((Two.refl A).FN hws _).put hw _ _,λY k'=>?_⟩⟩;rw[IK st' A];simp only[Kk,A7 TS,xK,hd,M6,h3,X6,A.s hrs]
     ·simp at H
   |none=>
   rw[xK]at H;simp only at H;split at H
   ·rename_i hs;obtain⟨h3,H⟩:=H6 H;obtain⟨d,h4,H⟩:=D5 H;refine N7 H hw hn λst' A Y k'=>?_;rw[IK st' A];simp only[Kk,A7 TS,xK,hs,h3,X6,h4,M6]
   ·rename_i s hs;obtain⟨h3,H⟩:=H6 H;obtain⟨q,h4,H⟩:=D5 H;obtain⟨H,h6⟩:=xV H;have EF:∀p,GQ 0 s.params c.args.toList=some p->M5 (O0 p.2) (K4 c.args.toList):=by intro p hp i hi;obtain⟨_,_,h5⟩:=pz hp;exact zZq.2 ⟨p.2,zkq h5,hi⟩
    refine⟨_,H,by rw[hn];simp,λst' A=>⟨_,(((Two.refl A).FN hws q.2).JU (λp hp i hi=>hwa i (EF p hp i hi)) λp hp i hi=>A.t i (q2 i (EF p hp i hi))).put hw _ _,λY k'=>?_⟩⟩;rw[IK st' A];simp only[Kk,A7 TS,xK,hs,h3,X6,A.s hrs,h4,M6];exact h6 _ _
 ·simp at H
def Z9(C:BV)(fl:H8)(o:Oper)(st:St):Fp :=if Xw C o then{ rt:=K4 o.op.operands.toList,wt:=o.dst.toList }else FD fl o st
def M5.refl(a:List Nat):M5 a a:=λ_ h=>h
def Sz(a b:List Nat):M5 a (a++b):=λ_ h=>zcq.2 (.inl h)
def oF(a b:List Nat):M5 b (a++b):=λ_ h=>zcq.2 (.inr h)
def A2i{c:Prop}[Decidable c](a b:List Nat)(h:c):M5 b (a++(if c then b else[])):=by rw[C8 h];exact oF _ _
def mF(H:J2 C R fl o st k=some x):Fr C R fl o st k x (Z9 C fl o st):=by
 have np:∀op,o.op=op->(∀c,op ≠ .call c)->Xw C o=false:=by
  intro op h1 h2;unfold Xw;split
  ·rename_i c hc;exact absurd (h1.symm.trans hc) (h2 c)
  ·rfl
 have H0:=H;unfold J2 at H;split at H
 ·rename_i y F7;have e:Z9 C fl o st={ rt:=O0 y,wt:=o.dst.toList++(if I8 fl.Q8 o.dst then O0 y else[]) }:=by simp[Z9,np _ F7 (by simp),FD,F7]
  rw[e];exact A8o (.inl F7) H0 (M5.refl _) (Sz _ _) (λh=>A2i _ _ h) rfl
 ·rename_i y F7;have e:Z9 C fl o st={ rt:=O0 y,wt:=o.dst.toList++(if I8 fl.Q8 o.dst then O0 y else[]) }:=by simp[Z9,np _ F7 (by simp),FD,F7]
  rw[e];exact A8o (.inr F7) H0 (M5.refl _) (Sz _ _) (λh=>A2i _ _ h) rfl
 ·rename_i c y z F7;have e:Z9 C fl o st={ rt:=K4 [c,y,z],wt:=o.dst.toList }:=by simp[Z9,np _ F7 (by simp),FD,F7]
  rw[e];exact B4Q F7 H0 (M5.refl _) (M5.refl _) rfl
 ·rename_i t F7;have e:Z9 C fl o st=if I8 fl.shared o.dst then{ wt:=o.dst.toList,rs:=true,ws:=true }else{ wt:=o.dst.toList,wb:=o.dst.toList,nb:=o.dst }:=by simp[Z9,np _ F7 (by simp),FD,F7]
  rw[e];by_cases hs:I8 fl.shared o.dst=true
  ·rw[C8 hs];exact A5y F7 H0 (M5.refl _) (λ_=>⟨rfl,rfl,rfl⟩) (λh=>by rw[hs]at h;cases h)
  ·rw[A7 hs];exact A5y F7 H0 (M5.refl _) (λh=>absurd h hs) (λh=>⟨rfl,M5.refl _⟩)
 ·rename_i t y F7;have e:Z9 C fl o st=if I8 fl.YS o.dst then{ rt:=O0 y,wt:=o.dst.toList }else if I8 fl.Q8 o.dst then{ rt:=O0 y,wt:=o.dst.toList++O0 y,wb:=o.dst.toList,nb:=o.dst }else if I8 fl.shared o.dst then{ rt:=O0 y,wt:=o.dst.toList,rs:=true,ws:=true }else{ rt:=O0 y,wt:=o.dst.toList,wb:=o.dst.toList,nb:=o.dst }:=by simp[Z9,np _ F7 (by simp),FD,F7]
  rw[e];by_cases K_:I8 fl.YS o.dst=true
  ·rw[C8 K_];exact A0z F7 H0 (M5.refl _) (M5.refl _) (λ_=>rfl) (λh=>by rw[K_]at h;cases h) (λh=>by rw[K_]at h;cases h) (λh=>by rw[K_]at h;cases h)
  rw[A7 K_];by_cases R6:I8 fl.Q8 o.dst=true
  ·rw[C8 R6];exact A0z F7 H0 (M5.refl _) (λt ht=>zSq _ ht) (λh=>absurd h K_) (λ_ _=>⟨λt ht=>zOq _ ht,rfl,M5.refl _⟩) (λ_ h=>by rw[R6]at h;cases h) (λ_ h=>by rw[R6]at h;cases h)
  rw[A7 R6];by_cases hs:I8 fl.shared o.dst=true
  ·rw[C8 hs];exact A0z F7 H0 (M5.refl _) (M5.refl _) (λh=>absurd h K_) (λ_ h=>absurd h R6) (λ_ _ _=>⟨rfl,rfl,rfl⟩) (λ_ _ h=>by rw[hs]at h;cases h)
  ·rw[A7 hs];exact A0z F7 H0 (M5.refl _) (M5.refl _) (λh=>absurd h K_) (λ_ h=>absurd h R6) (λ_ _ h=>absurd h hs) (λ_ _ h=>⟨rfl,M5.refl _⟩)
 ·rename_i t ps F7;have e:Z9 C fl o st={ rt:=K4 (ps.toList.map (·.2))++JW fl o.dst,wt:=o.dst.toList++JW fl o.dst,rs := !(JW fl o.dst).isEmpty,ws := !(JW fl o.dst).isEmpty }:=by simp[Z9,np _ F7 (by simp),FD,F7]
  rw[e];refine B2Z F7 H0 (λt ht=>zSq _ ht) (λt ht=>zSq _ ht) rfl (λt ht=>⟨zOq _ ht,zOq _ ht⟩) λh=>?_;have:(JW fl o.dst).isEmpty=false:=by cases hx:JW fl o.dst<;>simp_all
  simp[this]
 ·rename_i t n ps F7;have e:Z9 C fl o st={ rt:=K4 (ps.toList.map (·.2)),wt:=o.dst.toList,rs:=I8 fl.Db o.dst,ws:=I8 fl.Db o.dst }:=by simp[Z9,np _ F7 (by simp),FD,F7]
  rw[e];exact A33 F7 H0 (M5.refl _) (M5.refl _) rfl λh=>⟨h,h⟩
 ·rename_i t y F7;have hsr:∃r,src C.P 0 st y=some r:=by unfold CX at H;obtain⟨r,h,_⟩:=D5 H;exact⟨r,h⟩
  obtain⟨r,hr⟩:=hsr;obtain⟨r',AY,hm⟩:=A69 C.P default hr;cases hq:(if (I8 fl.Q8 o.dst||I8 fl.Db o.dst)=true then none else A6a r'.2)with
  |some jj=>
    have e:Z9 C fl o st={ rt:=O0 y,wt:=o.dst.toList,ld:=some jj }:=by simp only[Z9,np _ F7 (by simp),FD,F7,AY,VE,hq,z7q,G8]
    rw[e];have jy:I8 fl.Q8 o.dst=false/\I8 fl.Db o.dst=false/\A6a r'.2=some jj:=by
     split at hq
     ·cases hq
     ·rename_i hn;simp only[ypq,not_or,Bool.not_eq_true]at hn;exact⟨hn.1,hn.2,hq⟩
    refine A8n F7 H0 (M5.refl _) (M5.refl _) rfl λr0 h0=>?_;rw[hr]at h0;cases h0;rw[hm]at jy;have e1:(ES r.2).1=[]:=by
     have:=jy.2.2;unfold A6a at this;split at this
     all_goals first
      | (rename_i h;rw[h];rfl)
      |cases this
    refine⟨by rw[e1];exact M5.refl _,λ_=>.inr ⟨jj,rfl,jy.2.2,jy.1,jy.2.1⟩,λR6=>?_,λPL h=>?_⟩
    ·rw[jy.1]at R6;cases R6
    ·rw[jy.2.1]at PL;cases PL
  |none=>
    have e:Z9 C fl o st={ rt:=O0 y,wt:=o.dst.toList,rb:=(ES r'.2).1,wb:=if I8 fl.Q8 o.dst then(ES r'.2).1 else[],rs:=(ES r'.2).2,ws:=(I8 fl.Q8 o.dst||I8 fl.Db o.dst)&&(ES r'.2).2 }:=by simp only[Z9,np _ F7 (by simp),FD,F7,AY,VE,hq,z7q,G8]
    rw[e];refine A8n F7 H0 (M5.refl _) (M5.refl _) rfl λr0 h0=>?_;rw[hr]at h0;cases h0;rw[hm];refine⟨M5.refl _,.inl,λR6=>⟨?_,λh=>?_⟩,λPL h=>?_⟩
    ·simp only[R6,F6];exact M5.refl _
    ·simp only[R6,Bool.true_or,zVq];exact h
    ·simp only[PL,yoq,zVq];exact h
 ·rename_i t y v F7;have hsr:∃r,src C.P 0 st y=some r:=by unfold DX at H;obtain⟨r,h,_⟩:=D5 H;exact⟨r,h⟩
  obtain⟨r,hr⟩:=hsr;obtain⟨r',AY,hm⟩:=A69 C.P default hr;have e:Z9 C fl o st={ rt:=K4 [y,v],wt:=o.dst.toList++FM st.mt v,rb:=(ES r'.2).1,wb:=(ES r'.2).1,rs:=(ES r'.2).2,ws:=(ES r'.2).2,so:=if o.dst.isNone then ZV r'.2 else none }:=by simp[Z9,np _ F7 (by simp),FD,F7,AY]
  rw[e];refine B22 F7 H0 (M5.refl _) (Sz _ _) (oF _ _) rfl λr0 h0=>?_;rw[hr]at h0;cases h0;rw[hm];exact⟨M5.refl _,id,M5.refl _,id⟩
 ·rename_i y F7;have e:Z9 C fl o st={ rt:=O0 y,wt:=o.dst.toList }:=by simp[Z9,np _ F7 (by simp),FD,F7]
  rw[e];exact A7H F7 H0 (M5.refl _) (M5.refl _) rfl
 ·rename_i op t y z yt F7;have e:Z9 C fl o st={ rt:=K4 [y,z],wt:=o.dst.toList }:=by simp[Z9,np _ F7 (by simp),FD,F7]
  rw[e];exact B6h F7 H0 (M5.refl _) (M5.refl _) rfl
 ·rename_i op t y F7;have e:Z9 C fl o st={ rt:=O0 y,wt:=o.dst.toList }:=by simp[Z9,np _ F7 (by simp),FD,F7]
  rw[e];exact B7H F7 H0 (M5.refl _) (M5.refl _) rfl
 ·rename_i t u y F7;have e:Z9 C fl o st={ rt:=O0 y,wt:=o.dst.toList }:=by simp[Z9,np _ F7 (by simp),FD,F7]
  rw[e];exact B4P F7 H0 (M5.refl _) (M5.refl _) rfl
 ·rename_i t y i F7;have e:Z9 C fl o st={ rt:=O0 y,wt:=o.dst.toList }:=by simp[Z9,np _ F7 (by simp),FD,F7]
  rw[e];exact A5z F7 H0 (M5.refl _) (M5.refl _) rfl
 ·rename_i t y i F7;have e:Z9 C fl o st={ rt:=K4 [y,i],wt:=o.dst.toList }:=by simp[Z9,np _ F7 (by simp),FD,F7]
  rw[e];exact A5A F7 H0 (M5.refl _) (M5.refl _) rfl
 ·rename_i t y i F7;have e:Z9 C fl o st={ rt:=K4 [y,i],wt:=o.dst.toList }:=by simp[Z9,np _ F7 (by simp),FD,F7]
  rw[e];exact B20 F7 H0 (M5.refl _) (M5.refl _) rfl
 ·rename_i t y lo hi mx F7;have e:Z9 C fl o st={ rt:=K4 (y::(lo.toList++hi.toList++mx.toList)),wt:=o.dst.toList }:=by simp[Z9,np _ F7 (by simp),FD,F7]
  rw[e];exact B21 F7 H0 (M5.refl _) (M5.refl _) rfl
 ·rename_i g first caps F7
  have e:Z9 C fl o st={ rt:=K4 caps.toList,wt:=o.dst.toList }:=by simp[Z9,np _ F7 (by simp),FD,F7]
  rw[e];exact A7G F7 H0 (M5.refl _) (M5.refl _) rfl
 ·rename_i t F7;have e:Z9 C fl o st={ wt:=o.dst.toList,rs := !I8 fl.Ha o.dst,ws := !I8 fl.Ha o.dst }:=by simp[Z9,np _ F7 (by simp),FD,F7]
  rw[e];exact A9x F7 H0 (M5.refl _) rfl λh=>by simp[h]
 ·rename_i t y v ok F7;have e:Z9 C fl o st={ rt:=K4 [y,v],wt:=o.dst.toList,rs:=true }:=by simp[Z9,np _ F7 (by simp),FD,F7]
  rw[e];exact B1l F7 H0 (M5.refl _) (M5.refl _) rfl rfl
 ·rename_i t y v u F7;have e:Z9 C fl o st={ rt:=K4 [y,v,u],wt:=o.dst.toList++K4 [y,v,u],rs:=true,ws:=true }:=by simp[Z9,np _ F7 (by simp),FD,F7,Op.operands]
  rw[e];exact A5B F7 H0 (M5.refl _) (Sz _ _) rfl rfl rfl
 ·rename_i y i F7;have e:Z9 C fl o st={ rt:=O0 y,wt:=o.dst.toList++(if I8 fl.Q8 o.dst then O0 y else[]),ex:=B2U y i o.dst }:=by simp[Z9,np _ F7 (by simp),FD,F7]
  rw[e];exact A9w F7 H0 (M5.refl _) (Sz _ _) (λh=>A2i _ _ h) rfl
 ·rename_i c F7;unfold G_ at H;split at H
  ·rename_i b hb;have np':Xw C o=false:=by simp[Xw,F7,hb]
   split at H
   ·rename_i h1 h2;have e:Z9 C fl o st={ rt:=K4 c.args.toList,wt:=o.dst.toList,rs:=true }:=by simp[Z9,np',FD,F7,hb]
    rw[e];exact B6i F7 hb h1 h2 H (by rw[h1];simp only[K4,zeq,List.flatMap_nil,zWq];exact M5.refl _) (M5.refl _) rfl rfl
   ·rename_i y v t u h1 h2;have e:Z9 C fl o st={ rt:=K4 c.args.toList,wt:=o.dst.toList++K4 c.args.toList,rs:=I8 fl.opn o.dst||(I8 fl.Db o.dst||I8 fl.Oe o.dst),ws:=I8 fl.opn o.dst||(I8 fl.Db o.dst||I8 fl.Oe o.dst) }:=by simp[Z9,np',FD,F7,hb]
    rw[e];refine B1k F7 hb h1 h2 H (by rw[h1];exact M5.refl _) (Sz _ _) ?_ rfl λh=>⟨h,h⟩;intro i hi;refine oF _ _ i ?_;rw[h1];simp only[K4,zeq,zcq];exact .inl hi
   ·rename_i h1 h2;have e:Z9 C fl o st={ rt:=K4 c.args.toList,wt:=o.dst.toList }:=by simp[Z9,np',FD,F7,hb]
    rw[e];exact B6j F7 hb h1 h2 H0 (by rw[h1];exact M5.refl _) (M5.refl _) rfl
   ·rename_i h1 h2;have e:Z9 C fl o st={ rt:=K4 c.args.toList,wt:=o.dst.toList }:=by simp[Z9,np',FD,F7,hb]
    rw[e];exact B6k F7 hb h1 h2 H0 (by rw[h1];exact M5.refl _) (M5.refl _) rfl
   ·simp at H
  ·rename_i y hy;by_cases hp:Xw C o=true
   ·have e:Z9 C fl o st={ rt:=K4 o.op.operands.toList,wt:=o.dst.toList }:=by simp[Z9,hp]
    rw[e];unfold Xw at hp;rw[F7]at hp;simp only[hy]at hp;split at hp
    ·rename_i g hg;simp only[Callee.value.injEq]at hg;subst hg;simp only[zaq,zPq,zYq]at hp;refine B4R F7 hy hp.1.1 hp.1.2 hp.2 H0 (λi hi=>?_) (M5.refl _) rfl;simp only[F7,Op.operands,Call.operands,hy,Array.toList_append,K4,zGq,zcq]at hi ⊢;exact .inr hi
    ·simp at hp
   ·have e:Z9 C fl o st={ rt:=K4 (y::c.args.toList),wt:=o.dst.toList++K4 c.args.toList,rs:=true,ws:=true }:=by simp[Z9,hp,FD,F7,hy]
    rw[e];exact B6g F7 hy H0 (M5.refl _) (Sz _ _) (oF _ _) rfl rfl rfl
  ·simp at H
 ·simp at H
end
end Go.Su

/-
 THE DATA MACHINE, part 22: regions, in the text's order and in any.
-/
namespace Go.Su
set_option linter.defProp false
def Me{α : Type}{l l':List α}(h:∀i:Nat,l'[i]?=l[i]?):l'=l:=zDq h
variable {f:Fp}{st:St}{s:St}
def Two.same{s':St}(T:Two f st st s s'):s'=s:=by
 have h1:s'.tm=s.tm:=Me λi=>by
  rcases T.t i with⟨_,h,_⟩ | ⟨⟨h,_⟩,h',_⟩
  ·exact h
  ·rw[h,h']
 have h2:s'.mt=s.mt:=Me λi=>by
  rcases T.t i with⟨_,_,h⟩ | ⟨⟨_,h⟩,_,h'⟩
  ·exact h
  ·rw[h,h']
 have h3:s'.bx=s.bx:=Me λi=>by
  rcases T.b i with⟨_,h⟩ | ⟨h,h'⟩
  ·exact h
  ·rw[h,h']
 have h4:s'.sg=s.sg:=by
  rcases T.s with⟨_,h⟩ | ⟨h,h'⟩
  ·exact h
  ·rw[h,h']
 cases s;cases s';simp_all
def Eu.refl(h:∀t,f.nb=some t->Lx t st.mt=true):Eu f st st:=⟨rfl,rfl,rfl,λ_ _=>⟨rfl,rfl⟩,λ_ _=>rfl,λ_=>rfl,h,λ_ _=>rfl⟩
variable {o:Oper}
def mG{X:Type}{C:BV}{R:O7}{fl:H8}{k:St->Option X}{x:X}(H:J2 C R fl o st k=some x):
 ∃s,k s=some x/\∀(Y:Type)(k':St->Option Y),J2 C R fl o st k'=k' s:=by
 obtain⟨s,h1,h2,h3⟩:=mF H;obtain⟨s',h4,h5⟩:=h3 st (Eu.refl h2);rw[h4.same]at h5;exact⟨s,h1,h5⟩
variable {t:Nat}{d:DV}
def JM(h:(st.get t).1=d)(hd:d ≠ .undef):st.know t d=st:=by
 unfold St.know;have ht:st.tm[t]?=some d:=by
  simp only[St.get,z3q]at h;cases hx:st.tm[t]? with
  |none=>rw[hx]at h;exact absurd h.symm hd
  |some e=>rw[hx]at h;simp only[zsq]at h;rw[h]
 have:st.tm.set t d=st.tm:=by
  apply zDq;intro i;by_cases hi:t=i
  ·subst hi;rw[zmq ];rw[ht];rfl
  ·rw[z1q hi]
 rw[this]
def A6b{β : Type}{a b c:Option β}{x : β}(h:M7 d a b c=some x):(d=.bool true/\a=some x)\/(d=.bool false/\b=some x)\/(d=.J9 []/\c=some x):=by
 unfold M7 at h;split at h
 ·exact .inl ⟨rfl,h⟩
 ·exact .inr (.inl ⟨rfl,h⟩)
 ·exact .inr (.inr ⟨rfl,h⟩)
 ·simp at h
section
variable (C:BV)(R:O7)(fl:H8)(ops:List Oper)
def AP(o:Oper)(s s1:St):Prop :=
 match o.guard with
 |none=>J2 C R fl o s some=some s1
 |some (g,want)=>∃t,LX ops g=some t/\K8 (s.get t).2=true /\(((s.get t).1=.bool want/\J2 C R fl o s some=some s1)\/(((s.get t).1=.bool !want\/(s.get t).1=.J9 [])/\s1=s.put o.dst (.J9 []) .val))
def eH(want:Bool):DV->Bool
 |.bool b=>b==want
 |_=>false
def Bi(o:Oper)(s:St):Fp :=
 match o.guard with
 |none=>Z9 C fl o s
 |some (g,want)=>
   match LX ops g with
   |none=>{}
   |some t=>if eH want (s.get t).1 then(Z9 C fl o s).look t else{ rt:=[t],wt:=o.dst.toList }
end
section
variable {C:BV}{R:O7}{fl:H8}{ops:List Oper}{o:Oper}
def Eu.l7{g:Fp}{st':St}(A:Eu f st st')(h1:M5 g.rt f.rt)(h2:M5 g.rb f.rb)(h3:g.rs=true->f.rs=true)(h4:∀t,g.nb=some t->f.nb=some t)(h5:∀j,g.ld=some j->f.ld=some j):Eu g st st' :=⟨A.lt,A.lm,A.lb,λi hi=>A.t i (h1 i hi),λi hi=>A.b i (h2 i hi),λh=>A.s (h3 h),λt h=>A.n t (h4 t h),λj h=>A.l j (h5 j h)⟩
def Eu.get{st':St}(A:Eu f st st')(h:t∈f.rt):st'.get t=st.get t:=by obtain⟨h1,h2⟩:=A.t t h;simp only[St.get,KS h1,KS h2]
def A8m{st':St}(A:Eu (Z9 C fl o st) st st'):Z9 C fl o st'=Z9 C fl o st:=by
 unfold Z9 at A ⊢;split
 ·rfl
 ·rename_i hp;rw[A7 hp]at A;unfold FD at A ⊢;split<;>rename_i F7
  all_goals first
   |rfl
   | (rename_i y
      cases y with
      |tmp t=>rw[F7]at A;simp only[src]at A ⊢;rw[A.get (t:=t) (by simp[O0])]
      |_=>rfl)
   | (rename_i y v
      rw[F7]at A;simp only at A ⊢;have Rz:∀r,src default 0 st y=some r->∀u∈O0 v,st'.mt[u]?=st.mt[u]?:=λr hr u hu=>by rw[hr]at A;exact(A.t u (by simp[K4,hu])).2
      cases y with
      |tmp t=>simp only[src]at A Rz ⊢;rw[A.get (t:=t) (by simp[O0,K4])];rw[kT (Rz _ rfl)]
      |const c=>
        simp only[src]at A Rz ⊢;cases hc:cst default 0 c with
        |none=>rfl
        |some r=>rw[kT (Rz _ hc)]
      |func f=>simp only[src]at A Rz ⊢;rw[kT (Rz _ rfl)]
      |global g=>rfl)
def Zf{want:Bool}:eH want d=true↔d=.bool want:=by
 unfold eH;split
 ·simp
 ·rename_i h;simp only[z7q,false_iff];intro hd;exact h _ hd
variable {s1:St}
def A1b(H:AP C R fl ops o s s1):(∀t,(Bi C fl ops o s).nb=some t->Lx t s.mt=true) /\
 ∀s',Eu (Bi C fl ops o s) s s'->Bi C fl ops o s'=Bi C fl ops o s/\∃s1',Two (Bi C fl ops o s) s s' s1 s1'/\AP C R fl ops o s' s1':=by
 unfold AP at H;unfold Bi AP;split at H
 ·rename_i hg;obtain⟨s0,h1,h2,h3⟩:=mF H;simp only[D8]at h1;subst h1;refine⟨h2,λs' A=>⟨A8m A,?_⟩⟩;obtain⟨s1',h4,h5⟩:=h3 s' A;exact⟨s1',h4,h5 _ some⟩
 ·rename_i g want hg;obtain⟨t,ht,hd,H⟩:=H;simp only[ht];rcases H with⟨hb,H⟩ | ⟨hb,H⟩
  ·have hB:eH want (s.get t).1=true:=Zf.2 hb;rw[C8 hB];obtain⟨s0,h1,h2,h3⟩:=mF H;simp only[D8]at h1;subst h1;refine⟨h2,λs' A=>?_⟩;have A':Eu (Z9 C fl o s) s s':=A.l7 (λi hi=>zRq _ hi) (λ_ h=>h) id (λ_ h=>h) λ_ h=>h;have yJ:s'.get t=s.get t:=A.get (zIq ..);rw[yJ,C8 hB,A8m A'];refine⟨rfl,?_⟩;obtain⟨s1',h4,h5⟩:=h3 s' A';refine⟨s1',⟨h4.l,h4.ls,h4.ls',h4.t,h4.b,h4.s⟩,t,rfl,by rw[yJ];exact hd,.inl ⟨by rw[yJ];exact hb,h5 _ some⟩⟩
  ·have hB:¬(eH want (s.get t).1=true):=by rw[Zf];rcases hb with h | h<;>rw[h]<;>cases want<;>simp
   rw[A7 hB];refine⟨by simp,λs' A=>?_⟩;have yJ:s'.get t=s.get t:=A.get (zIq ..);rw[yJ,A7 hB];refine⟨rfl,s'.put o.dst (.J9 []) .val,?_,t,rfl,by rw[yJ];exact hd,.inr ⟨by rw[yJ];exact hb,rfl⟩⟩;rw[H];exact(Two.refl A).put (λ_ h=>h) _ _
def AP.det{s2:St}(H1:AP C R fl ops o s s1)(H2:AP C R fl ops o s s2):s1=s2:=by
 unfold AP at H1 H2;split at H1
 ·rename_i hg;simp only[hg]at H2;rw[H1]at H2;simpa using H2
 ·rename_i g want hg;simp only[hg]at H2;obtain⟨t,ht,hd,H1⟩:=H1;obtain⟨t',xL,Eg,H2⟩:=H2;rw[ht]at xL;cases xL;rcases H1 with⟨a,b⟩ | ⟨a,b⟩<;>rcases H2 with⟨c,d⟩ | ⟨c,d⟩
  ·rw[b]at d;simpa using d
  ·rw[a]at c;cases want<;>simp at c
  ·rw[c]at a;cases want<;>simp at a
  ·rw[b,d]
def Ko{a b:List Nat}(h:gF a b=true):∀i,i∈a->i∉b:=by intro i hi hb;have:=zlq.1 h i hi;simp[hb]at this
variable {mt:List F4}{i:Nat}
def GJ{mt':List F4}(h:mt'[i]?=mt[i]?):FI mt' i=FI mt i:=by unfold FI;rw[KS h]
def BF{α β : Type}{l:List α}{f g : α->List β}(h:∀x∈l,f x=g x):l.flatMap f=l.flatMap g:=by
 induction l with
 |nil=>rfl
 |cons a l ih=>rw[zeq,zeq,h a (zIq ..),ih λx hx=>h x (zRq _ hx)]
theorem ZR:Lx t mt=true↔∀(i:Nat) s o,mt[i]?=some (.loc s o)->s≠t:=by
 unfold Lx;rw[zlq];constructor
 ·intro h i s o hi;have:=h _ (zkq hi);simpa using this
 ·intro h m hm;obtain⟨i,hi⟩:=List.mem_iff_getElem?.1 hm;split
  ·rename_i s o;simpa using h i s o hi
  ·rfl
def Calm(f g:Fp):Prop:=∀q∈vK f g++vK g f,q.2.1[q.2.2]?=q.1[q.2.2]?
variable {j:Nat}{q:List E5×List E5}
def Calm.one{g:Fp}(h:Calm f g)(hl:g.ld=some j)(hq:f.ch=some q):q.2[j]?=q.1[j]? :=h (q.1,q.2,j) (zcq.2 (.inl (by unfold vK;rw[hl];simp only;rw[hq];exact zoq.2 rfl)))
def Calm.two{g:Fp}(h:Calm f g)(hl:f.ld=some j)(hq:g.ch=some q):q.2[j]?=q.1[j]? :=h (q.1,q.2,j) (zcq.2 (.inr (by unfold vK;rw[hl];simp only;rw[hq];exact zoq.2 rfl)))
def A8u(h:f.turns=true):(f.AF s s1).ch=some (s.sg,s1.sg):=by simp only[Fp.AF,h]
theorem Zi{t t1:St}(h1:f.wt.flatMap (FI s.mt)=f.wt.flatMap (FI t.mt))(h2:f.wt.flatMap (FI s1.mt)=f.wt.flatMap (FI t1.mt))(h3:f.turns=true->s.sg=t.sg/\s1.sg=t1.sg):f.AF s s1=f.AF t t1:=by
 unfold Fp.AF;rw[h1,h2];cases h:f.turns with
 |true=>obtain⟨a,b⟩:=h3 h;rw[a,b]
 |false=>rfl
variable {x:Nat}{d:Nat}
def B2V{o:Oper}(F7:o.op=.extract (.tmp x) i)(hd:o.dst=some d):J2 C R fl o s some=some s1 ↔
 ∃dv,Q3 i (s.get x).1=some dv/\(((s.get x).2=.val/\s1=s.put (some d) dv .val)\/∃ms,(s.get x).2=.Ca ms /\((ms.getD i .val=.own/\I8 fl.Q8 (some d)=true/\s1={ s with mt:=s.mt.set x (.Ca (ms.set i .val)) }.put (some d) dv .own) \/((ms.getD i .val=.val\/(ms.getD i .val=.own/\I8 fl.Q8 (some d)=false))/\s1=s.put (some d) dv .val))):=by
 simp only[J2,F7,hd,src,M6];generalize s.get x=r;obtain⟨r1,r2⟩:=r;simp only;constructor
 ·intro H;split at H
  ·obtain⟨dv,h1,H⟩:=D5 H;simp only[D8]at H;exact⟨dv,h1,.inl ⟨rfl,H.symm⟩⟩
  ·rename_i ms;obtain⟨dv,h1,H⟩:=D5 H;refine⟨dv,h1,.inr ⟨ms,rfl,?_⟩⟩;split at H
   ·rename_i hm;split at H
    ·rename_i R6;simp only[D8,St.oJ]at H;exact .inl ⟨hm,R6,H.symm⟩
    ·rename_i R6;simp only[D8]at H;exact .inr ⟨.inr ⟨hm,by simpa using R6⟩,H.symm⟩
   ·rename_i hm;simp only[D8]at H;exact .inr ⟨.inl hm,H.symm⟩
   ·simp at H
  ·simp at H
 ·rintro⟨dv,h1,⟨h2,rfl⟩ | ⟨ms,h2,⟨h3,h4,rfl⟩ | ⟨h3 | ⟨h3,h4⟩,rfl⟩⟩⟩
  ·subst h2;simp only[h1,M6]
  ·subst h2;simp only[h1,M6,h3,h4,F6,St.oJ]
  ·subst h2;simp only[h1,M6,h3]
  ·subst h2;simp only[h1,M6,h3,h4,z7q,G8]
def B4a(h:(Bi C fl ops o s).ex=some (x,i,d)):o.guard=none/\o.op=.extract (.tmp x) i/\o.dst=some d /\
 (∀s',Bi C fl ops o s'=Bi C fl ops o s)/\(∀u∈(Bi C fl ops o s).wt,u=d\/u=x)/\(Bi C fl ops o s).ws=false:=by
 unfold Bi at h;split at h
 ·rename_i hg;unfold Z9 at h;split at h
  ·simp at h
  ·rename_i hp;unfold FD at h;split at h
   all_goals first
    | (simp at h;done)
    | (split at h<;>simp at h;done)
    | (split at h<;>(try (simp at h;done))<;>split at h<;>(try (simp at h;done))<;>split at h<;>simp at h;done)
    |skip
   ·rename_i y j F7;simp only[B2U]at h;split at h
    ·rename_i t u hd;simp only[D8,Prod.mk.injEq]at h;obtain⟨rfl,rfl,rfl⟩:=h;refine⟨hg,F7,hd,λs'=>?_,λu hu=>?_,?_⟩;rotate_left 2
     ·unfold Bi Z9 FD;simp only[hg,F7,hp,z7q,G8]
     ·unfold Bi Z9 FD;simp only[hg,F7,hp,z7q,G8]
     ·unfold Bi Z9 FD at hu;simp only[hg,F7,hp,z7q,G8,hd,Option.toList_some,zcq,zoq]at hu;rcases hu with hu | hu
      ·exact .inl hu
      ·split at hu
       ·simp only[O0,zoq]at hu;exact .inr hu
       ·simp at hu
    ·simp at h
   all_goals (split at h<;>(try simp at h)<;>(try (split at h<;>simp at h)))
 ·split at h
  ·simp at h
  ·split at h<;>simp[Fp.look]at h
variable {m:F4}
def Ur{v:DV}(h:d≠x):(s.put (some d) v m).get x=s.get x:=by simp only[St.get,St.put,z3q,z1q h]
def taken(s:St)(x i d:Nat)(dv:DV)(own:Bool):St :=if own then{ s with mt:=s.mt.set x (match (s.get x).2 with | .Ca ms=>.Ca (ms.set i .val) | m=>m) }.put (some d) dv .own else s.put (some d) dv .val
def ways(fl:H8)(d i:Nat)(m:F4)(own:Bool):Prop :=(m=.val/\own=false)\/∃ms,m=.Ca ms/\((ms.getD i .val=.own/\I8 fl.Q8 (some d)=true/\own=true)\/((ms.getD i .val=.val\/(ms.getD i .val=.own/\I8 fl.Q8 (some d)=false))/\own=false))
def df{o:Oper}(F7:o.op=.extract (.tmp x) i)(hd:o.dst=some d):J2 C R fl o s some=some s1 ↔
 ∃dv own,Q3 i (s.get x).1=some dv/\ways fl d i (s.get x).2 own/\s1=taken s x i d dv own:=by
 rw[B2V F7 hd];constructor
 ·rintro⟨dv,h1,⟨h2,rfl⟩ | ⟨ms,h2,⟨h3,h4,rfl⟩ | ⟨h3,rfl⟩⟩⟩
  ·exact⟨dv,false,h1,.inl ⟨h2,rfl⟩,rfl⟩
  ·exact⟨dv,true,h1,.inr ⟨ms,h2,.inl ⟨h3,h4,rfl⟩⟩,by simp only[taken,F6,h2]⟩
  ·exact⟨dv,false,h1,.inr ⟨ms,h2,.inr ⟨h3,rfl⟩⟩,rfl⟩
 ·rintro⟨dv,own,h1,⟨h2,rfl⟩ | ⟨ms,h2,⟨h3,h4,rfl⟩ | ⟨h3,rfl⟩⟩,rfl⟩
  ·exact⟨dv,h1,.inl ⟨h2,rfl⟩⟩
  ·exact⟨dv,h1,.inr ⟨ms,h2,.inl ⟨h3,h4,by simp only[taken,F6,h2]⟩⟩⟩
  ·exact⟨dv,h1,.inr ⟨ms,h2,.inr ⟨h3,rfl⟩⟩⟩
def bu(h:ways fl d i m true):∃ms,m=.Ca ms:=by
 rcases h with⟨_,h⟩ | ⟨ms,h,_⟩
 ·cases h
 ·exact⟨ms,h⟩
variable {own:Bool}
def TA{tm:List DV}{bx sg}(h:ways fl d i ((⟨tm,mt,bx,sg⟩:St).get x).2 own):FI mt x=[]:=by unfold FI;rcases h with⟨h,_⟩ | ⟨ms,h,_⟩<;>simp only[St.get]at h<;>rw[h]
variable {dv:DV}
def oG{u:Nat}(h1:u≠d)(h2:u≠x):(taken s x i d dv own).mt[u]?=s.mt[u]?:=by
 unfold taken;split
 ·simp only[St.put,z1q (Ne.symm h1),z1q (Ne.symm h2)]
 ·simp only[St.put,z1q (Ne.symm h1)]
def yN{ms:List F4}(h:(s.get x).2=.Ca ms):x<s.mt.length:=by
 by_cases hx:x<s.mt.length
 ·exact hx
 ·simp[St.get,z3q,z8q (zNq hx)]at h
def A3r{e:Nat}{own':Bool}(RP:i≠j)(Xr:d≠x)(hw:ways fl d i (s.get x).2 own):
 ((taken s x i d dv own).get x).1=(s.get x).1/\(ways fl e j ((taken s x i d dv own).get x).2 own'↔ways fl e j (s.get x).2 own'):=by
 unfold taken;split
 ·rename_i ho;subst ho;obtain⟨ms,hm⟩:=bu hw;have hx:=yN hm;have e1:(({ s with mt:=s.mt.set x (match (s.get x).2 with | .Ca ms=>.Ca (ms.set i .val) | m=>m) }:St).put (some d) dv .own).get x=((s.get x).1,.Ca (ms.set i .val)):=by rw[Ur Xr];simp only[St.get,z3q,z2q hx,zsq]at hm ⊢;rw[hm]
  rw[e1];refine⟨rfl,?_⟩;unfold ways;rw[hm];simp only[reduceCtorEq,false_and,false_or,F4.Ca.injEq,exists_eq_left',z3q,z1q RP]
 ·rw[Ur Xr];exact⟨rfl,Iff.rfl⟩
def A3s(Xr:d≠x)(hw:ways fl d i (s.get x).2 own):FI (taken s x i d dv own).mt x=[]:=by
 unfold taken;split
 ·rename_i ho;subst ho;obtain⟨ms,hm⟩:=bu hw;have hx:=yN hm;simp only[FI,St.put,z3q,z1q Xr,z2q hx,zsq,hm]
 ·have:=TA (tm:=s.tm) (mt:=s.mt) (bx:=s.bx) (sg:=s.sg) hw;rw[<- this];exact GJ (by simp only[St.put,z1q Xr])
def B0x{e:Nat}{ev:DV}{o1 o2:Bool}(RP:i≠j)(xH:d≠e)(Xr:d≠x)(hex:e≠x)(h1:ways fl d i (s.get x).2 o1)(h2:ways fl e j (s.get x).2 o2):
 taken (taken s x i d dv o1) x j e ev o2=taken (taken s x j e ev o2) x i d dv o1:=by
 cases o1<;>cases o2
 ·simp only[taken,z7q,G8,St.put,zvq _ _ xH]
 ·obtain⟨ms,hm⟩:=bu h2;simp only[taken,z7q,G8,F6,Ur Xr,hm];simp only[St.put,zvq _ _ xH,zvq _ _ Xr]
 ·obtain⟨ms,hm⟩:=bu h1;simp only[taken,z7q,G8,F6,Ur hex,hm];simp only[St.put,zvq _ _ xH,zvq _ _ hex]
 ·obtain⟨ms,hm⟩:=bu h1;have hx:=yN hm;have g1:∀(k f:Nat)(fv:DV),f≠x->(({ s with mt:=s.mt.set x (.Ca (ms.set k .val)) }:St).put (some f) fv .own).get x=((s.get x).1,.Ca (ms.set k .val)):=by intro k f fv hf;rw[Ur hf];simp only[St.get,z3q,z2q hx,zsq]
  simp only[taken,F6,hm,g1 i d dv Xr,g1 j e ev hex];simp only[St.put,zvq _ _ xH,zvq _ _ hex,zvq _ _ Xr,ynq,zvq _ _ RP]
def B2W{oi oj:Oper}{e:Nat}{s2:St}(gi:oi.guard=none)(gj:oj.guard=none)(pi:oi.op=.extract (.tmp x) i)(pj:oj.op=.extract (.tmp x) j)(di:oi.dst=some d)(dj:oj.dst=some e)(RP:i≠j)(xH:d≠e)(Xr:d≠x)(hex:e≠x)(Hj:AP C R fl ops oj s s1)(Hi:AP C R fl ops oi s1 s2):
 ∃s1',AP C R fl ops oi s s1'/\AP C R fl ops oj s1' s2/\(∀u,u=d\/u=x->FI s1'.mt u=FI s2.mt u/\FI s.mt u=FI s1.mt u)/\(∀u,u=e\/u=x->FI s1'.mt u=FI s.mt u/\FI s2.mt u=FI s1.mt u):=by
 unfold AP at Hi Hj ⊢;simp only[gi,gj]at Hi Hj ⊢;obtain⟨dvj,oj1,hj1,FE,rfl⟩:=(df pj dj).1 Hj;obtain⟨dvi,oi1,Mx,tK,rfl⟩:=(df pi di).1 Hi;have tj:=A3r (s:=s) (x:=x) (i:=j) (j:=i) (d:=e) (e:=d) (dv:=dvj) (own':=oi1) (Ne.symm RP) hex FE;rw[tj.1]at Mx;have hi0:=tj.2.1 tK;have ti:=A3r (s:=s) (x:=x) (i:=i) (j:=j) (d:=d) (e:=e) (dv:=dvi) (own':=oj1) RP Xr hi0;have hj3:=ti.2.2 FE;have cm:=B0x (s:=s) (dv:=dvi) (ev:=dvj) RP xH Xr hex hi0 FE;refine⟨taken s x i d dvi oi1,(df pi di).2 ⟨dvi,oi1,Mx,hi0,rfl⟩,(df pj dj).2 ⟨dvj,oj1,by rw[ti.1];exact hj1,hj3,cm.symm⟩,?_,?_⟩
 ·rintro u (rfl | rfl)
  ·refine⟨?_,?_⟩
   ·rw[<- cm];exact GJ (oG xH Xr).symm
   ·exact GJ (oG xH Xr).symm
  ·refine⟨(TA hj3).trans ?_,(TA hi0).trans (TA tK).symm⟩;exact(A3s Xr tK).symm
 ·rintro u (rfl | rfl)
  ·refine⟨?_,?_⟩
   ·exact GJ (oG (Ne.symm xH) hex)
   ·exact GJ (oG (Ne.symm xH) hex)
  ·exact⟨(TA hj3).trans (TA hi0).symm,(A3s Xr tK).trans (TA tK).symm⟩
def A59{k:Bool}(h:ZV m=some k):∃i,ZU m=some i:=by cases m<;>simp[ZV]at h<;>exact⟨_,rfl⟩
def u_:E5->Bool
 |.opn _ _ _=>true
 |.P7 _ _ _=>true
 |_=>false
variable {t:TypeId}
theorem B0Y{P:Program}{v:Value}{r:DV×F4}(H:cst P t v=some r):ZU r.2=none:=by unfold cst at H;split at H<;>simp only[D8,reduceCtorEq]at H<;>subst H<;>rfl
variable (s:St)(i:Nat)(ob:E5)(rl:Option Operand)
def j4:St :=
 match rl with
 |some v=>St.release { s with sg:=s.sg.set i ob } v
 |none=>{ s with sg:=s.sg.set i ob }
theorem fF:(j4 s i ob rl).sg=s.sg.set i ob:=by
 unfold j4;cases rl with
 |none=>rfl
 |some v=>cases v<;>rfl
theorem uV:(j4 s i ob rl).tm=s.tm:=by
 unfold j4;cases rl with
 |none=>rfl
 |some v=>cases v<;>rfl
theorem B2h:(j4 s i ob rl).bx=s.bx:=by
 unfold j4;cases rl with
 |none=>rfl
 |some v=>cases v<;>rfl
def ZX(mt:List F4)(rl:Option Operand):List F4 :=
 match rl with
 |some (.tmp t)=>mt.set t (dm (mt.getD t .val))
 |_=>mt
theorem QR:(j4 s i ob rl).mt=ZX s.mt rl:=by
 unfold j4 ZX;cases rl with
 |none=>rfl
 |some v=>cases v<;>rfl
theorem Wi{rl:Option Operand}{u:Nat}(h:∀v,rl=some v->u∉FM mt v):(ZX mt rl)[u]?=mt[u]?:=by
 unfold ZX;split
 ·rename_i t;have:=h _ rfl;rcases A6x (mt:=mt) (t:=t)with e | e
  ·rw[e]at this;simp only[zoq]at this;rw[z1q (Ne.symm this)]
  ·rw[e]
 ·rfl
def B0c{r1 r2:Option Operand}:ZX (ZX mt r1) r2=ZX (ZX mt r2) r1:=by
 cases r1 with
 |none=>rfl
 |some v1=>
   cases r2 with
   |none=>rfl
   |some v2=>
     cases v1<;>cases v2<;>try rfl
     rename_i t t';by_cases hne:t=t'
     ·subst hne;rfl
     ·simp only[ZX,z3q,z1q hne,z1q (Ne.symm hne)]
      rw[zvq _ _ hne]
variable {i:Nat}
def Jo{g g':List E5}(h:g'[i]?=g[i]?):H5 g' i=H5 g i:=by unfold H5;rw[h]
def nX{g g':List E5}{n:Nat}(h:g'[i]?=g[i]?):V3 g' i n=V3 g i n:=by unfold V3;rw[h]
def B3F{g g':List E5}(h:g'[i]?=g[i]?):LH g' i=LH g i:=by unfold LH;rw[h]
def A1c{y v:Operand}{s:St}(F7:o.op=.store t y v)(hd:o.dst=none){r:DV×F4}(hr:src C.P 0 s y=some r)(hi:ZU r.2=some i){kd:Bool}(hk:ZV r.2=some kd)(H:J2 C R fl o s some=some s1):
 ∃ob rl,(rl=none\/rl=some v)/\(u_ ob=kd/\∃old,s.sg[i]?=some old/\u_ old=kd)/\s1=j4 s i ob rl/\∀s',src C.P 0 s' y=src C.P 0 s y->src C.P t s' v=src C.P t s v->s'.sg[i]?=s.sg[i]?->J2 C R fl o s' some=some (j4 s' i ob rl):=by
 simp only[J2,F7,DX]at H;obtain⟨r0,h1,H⟩:=D5 H;rw[hr]at h1;simp only[D8]at h1;subst h1;obtain⟨u,h2,H⟩:=D5 H;obtain⟨z,h3,H⟩:=D5 H;have pn:∀s:St,s.put o.dst (.J9 []) .val=s:=λs=>by rw[hd];rfl
 split at H
 ·rename_i hm;rw[hm]at hi;simp[ZU]at hi
 ·rename_i i' off hm;rw[hm]at hi;simp only[ZU,D8]at hi;subst hi;rw[hm]at hk;simp only[ZV,D8]at hk;subst hk;obtain⟨cs,h4,H⟩:=D5 H;have ho:∃old,s.sg[i']?=some old/\u_ old=false:=by
   unfold H5 at h4;split at h4
   ·rename_i hq;exact⟨_,hq,rfl⟩
   ·cases h4
  by_cases hz:z.2=true
  ·rw[C8 hz]at H;obtain⟨xs,H,h5⟩:=OO H;obtain⟨h6,H⟩:=M3 H;rw[pn]at H;simp only[D8]at H;refine⟨_,none,.inl rfl,⟨rfl,ho⟩,H.symm,λs' a1 a2 a3=>?_⟩;simp only[J2,F7,DX,a1,hr,a2,h2,h3,M6,hm,Jo a3,h4,C8 hz,h5,C8 h6,pn];rfl
  ·rw[A7 hz]at H;obtain⟨c,H,h5⟩:=NK H;obtain⟨c0,h6,H⟩:=D5 H;rw[pn]at H;simp only[D8]at H;refine⟨_,some v,.inr rfl,⟨rfl,ho⟩,H.symm,λs' a1 a2 a3=>?_⟩;simp only[J2,F7,DX,a1,hr,a2,h2,h3,M6,hm,Jo a3,h4,A7 hz,h5,h6,pn];rfl
 ·rename_i hm;rw[hm]at hi;simp[ZU]at hi
 ·rename_i i' sz idx hm;rw[hm]at hi;simp only[ZU,D8]at hi;subst hi;rw[hm]at hk;simp only[ZV,D8]at hk;subst hk;obtain⟨q,h4,H⟩:=D5 H;have ho:∃old,s.sg[i']?=some old/\u_ old=true:=by
   unfold LH at h4;split at h4
   ·rename_i hq;exact⟨_,hq,rfl⟩
   ·cases h4
  obtain⟨H,h6⟩:=W_ H;obtain⟨h7,H⟩:=H6 H;obtain⟨x',h8,H⟩:=D5 H;rw[pn]at H;simp only[D8]at H;have hx:u_ x'=true:=by
   unfold Zl at h8;split at h8
   ·simp only[D8]at h8;subst h8;rfl
   ·cases h8
  refine⟨x',none,.inl rfl,⟨hx,ho⟩,H.symm,λs' a1 a2 a3=>?_⟩;simp only[J2,F7,DX,a1,hr,a2,h2,h3,M6,hm,B3F a3,h4,h6,h7,X6,h8,pn];rfl
 ·rename_i i' n sz idx off hm;rw[hm]at hi;simp only[ZU,D8]at hi;subst hi;rw[hm]at hk;simp only[ZV,D8]at hk;subst hk;obtain⟨q,h4,H⟩:=D5 H;have ho:∃old,s.sg[i']?=some old/\u_ old=true:=⟨_,Za h4,rfl⟩;obtain⟨d,h5,H⟩:=D5 H;obtain⟨h6,H⟩:=H6 H;by_cases hz:z.2=true
  ·rw[C8 hz]at H;obtain⟨xs,H,h7⟩:=OO H;obtain⟨e,h8,H⟩:=D5 H;rw[pn]at H;simp only[D8]at H;refine⟨_,none,.inl rfl,⟨rfl,ho⟩,H.symm,λs' a1 a2 a3=>?_⟩;simp only[J2,F7,DX,a1,hr,a2,h2,h3,M6,hm,nX a3,h4,h5,h6,X6,C8 hz,h7,h8,pn];rfl
  ·rw[A7 hz]at H;obtain⟨c,H,h7⟩:=NK H;obtain⟨e,h8,H⟩:=D5 H;rw[pn]at H;simp only[D8]at H;refine⟨_,none,.inl rfl,⟨rfl,ho⟩,H.symm,λs' a1 a2 a3=>?_⟩;simp only[J2,F7,DX,a1,hr,a2,h2,h3,M6,hm,nX a3,h4,h5,h6,X6,A7 hz,h7,h8,pn];rfl
 ·simp at H
def B4z{s:St}{i:Bool}(h:(Bi C fl ops o s).so=some i):o.guard=none/\o.dst=none/\∃t y v r,o.op=.store t y v/\src default 0 s y=some r/\ZV r.2=some i /\
 (Bi C fl ops o s).rt=K4 [y,v]/\(Bi C fl ops o s).wt=FM s.mt v/\∀s',src default 0 s' y=src default 0 s y->FM s'.mt v=FM s.mt v->Bi C fl ops o s'=Bi C fl ops o s:=by
 unfold Bi at h ⊢;split at h
 ·rename_i hg;simp only[hg];unfold Z9 at h ⊢;split at h
  ·simp at h
  ·rename_i hp;unfold FD at h;split at h
   all_goals first
    | (simp at h;done)
    | (split at h<;>simp at h;done)
    | (split at h<;>(try (simp at h;done))<;>split at h<;>(try (simp at h;done))<;>split at h<;>simp at h;done)
    |skip
   ·rename_i t y v F7;split at h
    ·rename_i r hr;simp only at h;by_cases hd:o.dst.isNone=true
     ·rw[C8 hd]at h;have Eg:o.dst=none:=zYq.1 hd;refine⟨trivial,Eg,t,y,v,r,F7,hr,h,?_,?_,λs' hs hs2=>?_⟩
      ·rw[A7 hp];unfold FD;simp only[F7,hr]
      ·rw[A7 hp];unfold FD;simp only[F7,hr,Eg,Option.toList_none,List.nil_append]
      ·rw[A7 hp,A7 hp];unfold FD;simp only[F7,hr,hs,hs2]
     ·rw[A7 hd]at h;cases h
    ·simp at h
   all_goals (split at h<;>(try simp at h)<;>(try (split at h<;>simp at h)))
 ·split at h
  ·simp at h
  ·split at h<;>simp[Fp.look]at h
def B5u{oi oj:Oper}{s s2:St}(Hj:AP C R fl ops oj s s1)(Hi:AP C R fl ops oi s1 s2)(hc:A6Q ((Bi C fl ops oj s).AF s s1) ((Bi C fl ops oi s1).AF s1 s2)=true):
 ∃s1',AP C R fl ops oi s s1'/\AP C R fl ops oj s1' s2/\(Bi C fl ops oi s).AF s s1'=(Bi C fl ops oi s1).AF s1 s2/\(Bi C fl ops oj s1').AF s1' s2=(Bi C fl ops oj s).AF s s1:=by
 unfold A6Q at hc;split at hc
 ·rename_i ka kb ha hb;simp only[Fp.AF]at ha hb;simp only[Fp.AF,zaq,bne_iff_ne,ne_eq]at hc;obtain⟨⟨⟨B8z,c1⟩,c2⟩,c3⟩:=hc;have c1:=Ko c1;have c2:=Ko c2;have c3:=Ko c3;obtain⟨gj,dj,tj,yj,vj,rj,pj,sj,bj,ej,wj,fj⟩:=B4z ha;obtain⟨gi,di,ti,yi,vi,ri,pi,si,bi,ei,wi,fi⟩:=B4z hb;obtain⟨a,ja⟩:=A59 bj;obtain⟨b,jb⟩:=A59 bi;rw[ei,wj]at c1;rw[wi,wj]at c2;rw[ej,wi]at c3;unfold AP at Hi Hj;simp only[gi,gj]at Hi Hj;have real:∀{s:St}{y:Operand}{r:DV×F4}{n:Nat},src default 0 s y=some r->ZU r.2=some n->src C.P 0 s y=some r:=by
   intro s y r n h1 h2;cases y with
   |tmp t=>exact h1
   |const v=>simp only[src]at h1;have:=B0Y h1;rw[this]at h2;cases h2
   |func f=>exact h1
   |global g=>cases h1
  obtain⟨obj,rlj,qj,⟨oj1,old1,oj2,oj3⟩,e1,Gj⟩:=A1c pj dj (real sj ja) ja bj Hj;obtain⟨obi,rli,qi,⟨oi1,old2,oi2,oi3⟩,e2,Gi⟩:=A1c pi di (real si jb) jb bi Hi;have tF:a≠b:=by
   rintro rfl;have hl:a<s.sg.length:=by
    rcases zuq a s.sg.length with h | h
    ·exact h
    ·rw[z8q h]at oj2;cases oj2
   rw[e1,fF,z2q hl]at oi2;simp only[D8]at oi2;subst oi2;exact B8z (oj1.symm.trans oi3)
  have sj':∀v,rlj=some v->v=vj:=λv h=>by rcases qj with q | q<;>rw[q]at h<;>simp at h;exact h.symm
  have si':∀v,rli=some v->v=vi:=λv h=>by rcases qi with q | q<;>rw[q]at h<;>simp at h;exact h.symm
  have B4A:∀{P:Program}{t:TypeId}{st st':St}{y:Operand},(∀u∈O0 y,st'.tm[u]?=st.tm[u]?/\st'.mt[u]?=st.mt[u]?)->src P t st' y=src P t st y:=by
   intro P t st st' y h;cases y with
   |tmp u=>obtain⟨h1,h2⟩:=h u (by simp[O0]);simp only[src,St.get,KS h1,KS h2]
   |_=>rfl
  have k1:∀{P:Program}{t:TypeId}{y:Operand},(∀u∈O0 y,u∉FM s.mt vj)->src P t s1 y=src P t s y:=by intro P t y h;rw[e1];exact B4A λu hu=>⟨by rw[uV],by rw[QR,Wi λv hv=>by rw[sj' v hv];exact h u hu]⟩
  have y1:∀u∈O0 yi,u∉FM s.mt vj:=λu hu hv=>c1 u hv (by simp[K4,hu]);have y2:∀u∈O0 vi,u∉FM s.mt vj:=λu hu hv=>c1 u hv (by simp[K4,hu]);have mtj:∀u,u∉FM s.mt vj->s1.mt[u]?=s.mt[u]?:=λu hu=>by rw[e1,QR,Wi λv hv=>by rw[sj' v hv];exact hu]
  have ri1:FM s1.mt vi=FM s.mt vi:=kT λu hu=>mtj u (y2 u hu);rw[ri1]at wi c2 c3;have k2:∀{P:Program}{t:TypeId}{y:Operand},(∀u∈O0 y,u∉FM s.mt vi)->src P t (j4 s b obi rli) y=src P t s y:=by intro P t y h;exact B4A λu hu=>⟨by rw[uV],by rw[QR,Wi λv hv=>by rw[si' v hv];exact h u hu]⟩
  have y3:∀u∈O0 yj,u∉FM s.mt vi:=λu hu hv=>c3 u hv (by simp[K4,hu]);have y4:∀u∈O0 vj,u∉FM s.mt vi:=λu hu hv=>c3 u hv (by simp[K4,hu]);have A1:=Gi s (k1 y1).symm (k1 y2).symm (by rw[e1,fF,z1q tF]);have A2:=Gj (j4 s b obi rli) (k2 y3) (k2 y4) (by rw[fF,z1q (Ne.symm tF)]);have B6n:j4 (j4 s b obi rli) a obj rlj=s2:=by
   rw[e2,e1];have h1:(j4 (j4 s b obi rli) a obj rlj).mt=(j4 (j4 s a obj rlj) b obi rli).mt:=by simp only[QR];exact B0c
   have h2:(j4 (j4 s b obi rli) a obj rlj).sg=(j4 (j4 s a obj rlj) b obi rli).sg:=by simp only[fF];rw[zvq _ _ (Ne.symm tF)]
   have h3:(j4 (j4 s b obi rli) a obj rlj).tm=(j4 (j4 s a obj rlj) b obi rli).tm:=by simp only[uV]
   have h4:(j4 (j4 s b obi rli) a obj rlj).bx=(j4 (j4 s a obj rlj) b obi rli).bx:=by simp only[B2h]
   generalize j4 (j4 s b obi rli) a obj rlj=A at *;generalize j4 (j4 s a obj rlj) b obi rli=B at *;cases A;cases B;simp_all
  rw[B6n]at A2;have B6P:∀u,u∉FM s.mt vi->(j4 s b obi rli).mt[u]?=s.mt[u]?:=λu hu=>by rw[QR,Wi λv hv=>by rw[si' v hv];exact hu]
  have rj1:FM (j4 s b obi rli).mt vj=FM s.mt vj:=kT λu hu=>B6P u (y4 u hu);have fi':=fi s (k1 y1).symm ri1.symm;have fj':=fj (j4 s b obi rli) (k2 y3) rj1;have mti:∀u,u∉FM s.mt vi->s2.mt[u]?=s1.mt[u]?:=λu hu=>by rw[e2,QR,Wi λv hv=>by rw[si' v hv,ri1];exact hu]
  have B8Q:∀u,u∉FM s.mt vj->s2.mt[u]?=(j4 s b obi rli).mt[u]?:=λu hu=>by rw[<- B6n,QR,Wi λv hv=>by rw[sj' v hv,rj1];exact hu]
  refine⟨j4 s b obi rli,?_,?_,?_,?_⟩
  ·unfold AP;simp only[gi];exact A1
  ·unfold AP;simp only[gj];exact A2
  ·rw[fi'];refine Zi ?_ ?_ λht=>?_
   ·rw[wi];exact BF λu hu=>(GJ (mtj u (y2 u (nS hu)))).symm
   ·rw[wi];exact BF λu hu=>(GJ (B8Q u (y2 u (nS hu)))).symm
   ·unfold Fp.turns at ht;simp[hb]at ht
  ·rw[fj'];refine Zi ?_ ?_ λht=>?_
   ·rw[wj];exact BF λu hu=>GJ (B6P u (y4 u (nS hu)))
   ·rw[wj];exact BF λu hu=>GJ (mti u (y4 u (nS hu)))
   ·unfold Fp.turns at ht;simp[ha]at ht
 ·cases hc
def B0t{oi oj:Oper}{s s2:St}(Hj:AP C R fl ops oj s s1)(Hi:AP C R fl ops oi s1 s2)(hc:A9d ((Bi C fl ops oj s).AF s s1) ((Bi C fl ops oi s1).AF s1 s2)=true)(hq:Calm ((Bi C fl ops oj s).AF s s1) ((Bi C fl ops oi s1).AF s1 s2)):
 ∃s1',AP C R fl ops oi s s1'/\AP C R fl ops oj s1' s2/\(Bi C fl ops oi s).AF s s1'=(Bi C fl ops oi s1).AF s1 s2/\(Bi C fl ops oj s1').AF s1' s2=(Bi C fl ops oj s).AF s s1:=by
 obtain⟨nj,Fj⟩:=A1b Hj;obtain⟨ni,Fi⟩:=A1b Hi;generalize hfj:Bi C fl ops oj s=f at *;generalize hfi:Bi C fl ops oi s1=g at *;simp only[A9d,Fp.AF,zaq,zPq,Bool.and_eq_false_imp,Bool.or_eq_false_iff]at hc;obtain⟨⟨⟨⟨⟨⟨⟨⟨⟨⟨⟨c1,c2⟩,c3⟩,c4⟩,c5⟩,c6⟩,c7⟩,c8⟩,c9⟩,c10⟩,c11⟩,c12⟩:=hc;have c1:=Ko c1;have c2:=Ko c2;have c3:=Ko c3;have c4:=Ko c4;have c5:=Ko c5;have c6:=Ko c6;obtain⟨-,Tj⟩:=Fj s (Eu.refl nj);obtain⟨s1x,Tj,Rj⟩:=Tj;obtain rfl:=Rj.det Hj;obtain⟨-,Ti⟩:=Fi s1x (Eu.refl ni);obtain⟨s2x,Ti,Ri⟩:=Ti;obtain rfl:=Ri.det Hi;have A94:∀u:Nat,u∉f.wt->s1x.tm[u]?=s.tm[u]?/\s1x.mt[u]?=s.mt[u]?:=λu hu=>by
  rcases Tj.t u with⟨h,_⟩ | ⟨h,_⟩
  ·exact absurd h hu
  ·exact h
 have B8V:∀u:Nat,u∉g.wt->s2x.tm[u]?=s1x.tm[u]?/\s2x.mt[u]?=s1x.mt[u]?:=λu hu=>by
  rcases Ti.t u with⟨h,_⟩ | ⟨h,_⟩
  ·exact absurd h hu
  ·exact h
 have B72:∀u:Nat,u∉f.wb->s1x.bx[u]?=s.bx[u]?:=λu hu=>by
  rcases Tj.b u with⟨h,_⟩ | ⟨h,_⟩
  ·exact absurd h hu
  ·exact h
 have Ai:Eu g s1x s:=by
  refine⟨Tj.ls.1.symm,Tj.ls.2.1.symm,Tj.ls.2.2.symm,λu hu=>?_,λu hu=>?_,λhr=>?_,λt ht=>?_,λj hj=>?_⟩
  ·have:=A94 u λh=>c1 u h hu;exact⟨this.1.symm,this.2.symm⟩
  ·exact(B72 u λh=>c4 u h hu).symm
  ·rcases Tj.s with⟨h,_⟩ | ⟨h,_⟩
   ·rw[(c7 h).1]at hr;cases hr
   ·exact h.symm
  ·rw[ZR];intro u s0 o0 hu R6;by_cases hw:u∈f.wt
   ·have Ym:vG g (f.AF s s1x)=true:=c10;simp only[vG,ht,zPq,y7q,Ph,Fp.AF,zcq,not_or]at Ym;refine Ym.1 (zZq.2 ⟨u,hw,?_⟩);simp only[FI,z3q,hu,zsq,zoq];exact R6.symm
   ·have:=ZR.1 (ni t ht) u s0 o0 (by rw[(A94 u hw).2];exact hu);exact this R6
  ·rcases Tj.s with⟨h,_⟩ | ⟨h,_⟩
   ·have ht:f.turns=true:=by have h11:A1P f (g.AF s1x s2x)=true:=c11;unfold A1P at h11;rw[show(g.AF s1x s2x).ld=some j from hj]at h11;simpa[h]using h11
    exact(hq.one (j:=j) hj (A8u ht)).symm
   ·rw[h]
 obtain⟨ei,s1',Ti',Ri'⟩:=Fi s Ai;have Aj:Eu f s s1':=by
  refine⟨Ti'.ls'.1.trans Tj.ls.1,Ti'.ls'.2.1.trans Tj.ls.2.1,Ti'.ls'.2.2.trans Tj.ls.2.2,λu hu=>?_,λu hu=>?_,λhr=>?_,λt ht=>?_,λj hj=>?_⟩
  ·rcases Ti'.t u with⟨h,_⟩ | ⟨h,_⟩
   ·exact absurd hu (c3 u h)
   ·exact h
  ·rcases Ti'.b u with⟨h,_⟩ | ⟨h,_⟩
   ·exact absurd hu (c6 u h)
   ·exact h
  ·rcases Ti'.s with⟨h,_⟩ | ⟨h,_⟩
   ·rw[(c8 h).1]at hr;cases hr
   ·exact h
  ·rw[ZR];intro u s0 o0 hu R6;rcases Ti'.t u with⟨hw,_,h⟩ | ⟨⟨_,h⟩,_⟩
   ·have h9:vG f (g.AF s1x s2x)=true:=c9;simp only[vG,ht,zPq,y7q,Ph,Fp.AF,zcq,not_or]at h9;refine h9.2 (zZq.2 ⟨u,hw,?_⟩);rw[h]at hu;simp only[FI,z3q,hu,zsq,zoq];exact R6.symm
   ·exact ZR.1 (nj t ht) u s0 o0 (by rw[<- h];exact hu) R6
  ·rcases Ti'.s with⟨h,h'⟩ | ⟨h,_⟩
   ·have ht:g.turns=true:=by have h12:A1P g (f.AF s s1x)=true:=c12;unfold A1P at h12;rw[show(f.AF s s1x).ld=some j from hj]at h12;simpa[h]using h12
    have e:=hq.two (j:=j) hj (A8u ht);simp only at e;rw[h',e];rcases Tj.s with⟨h5,_⟩ | ⟨h5,_⟩
    ·have:=(c8 h).2;rw[h5]at this;cases this
    ·rw[h5]
   ·rw[h]
 obtain⟨ej,s2',Tj',Rj'⟩:=Fj s1' Aj;have hs:s2'=s2x:=by
  have tt:∀u:Nat,s2'.tm[u]?=s2x.tm[u]?/\s2'.mt[u]?=s2x.mt[u]?:=λu=>by
   rcases Ti'.t u with⟨hi,h1,h2⟩ | ⟨⟨h1,h2⟩,h3,h4⟩<;>rcases Tj'.t u with⟨hj,h5,h6⟩ | ⟨⟨h5,h6⟩,h7,h8⟩
   ·exact absurd hi (c2 u hj)
   ·exact⟨h5.trans h1,h6.trans h2⟩
   ·exact⟨h5.trans h3.symm,h6.trans h4.symm⟩
   ·exact⟨by rw[h5,h1,h3,h7],by rw[h6,h2,h4,h8]⟩
  have bb:∀u:Nat,s2'.bx[u]?=s2x.bx[u]?:=λu=>by
   rcases Ti'.b u with⟨hi,h1⟩ | ⟨h1,h3⟩<;>rcases Tj'.b u with⟨hj,h5⟩ | ⟨h5,h7⟩
   ·exact absurd hi (c5 u hj)
   ·exact h5.trans h1
   ·exact h5.trans h3.symm
   ·rw[h5,h1,h3,h7]
  have ss:s2'.sg=s2x.sg:=by
   rcases Ti'.s with⟨hi,h1⟩ | ⟨h1,h3⟩<;>rcases Tj'.s with⟨hj,h5⟩ | ⟨h5,h7⟩
   ·have:=(c7 hj).2;rw[hi]at this;cases this
   ·exact h5.trans h1
   ·exact h5.trans h3.symm
   ·rw[h5,h1,h3,h7]
  have h1:s2'.tm=s2x.tm:=Me λi=>(tt i).1;have h2:s2'.mt=s2x.mt:=Me λi=>(tt i).2;have h3:s2'.bx=s2x.bx:=Me bb;cases s2';cases s2x;simp_all
 subst hs;refine⟨s1',Ri',Rj',?_,?_⟩
 ·rw[ei];refine Zi ?_ ?_ λht=>?_
  ·exact BF λu hu=>(GJ (A94 u λh=>c2 u h hu).2).symm
  ·refine BF λu hu=>GJ ?_;rcases Ti'.t u with⟨_,_,h⟩ | ⟨⟨_,h2⟩,_,h4⟩
   ·exact h
   ·rw[h2,h4,(A94 u λh=>c2 u h hu).2]
  ·have hg:g.ws=true:=by unfold Fp.turns at ht;simp only[zaq]at ht;exact ht.2.2
   have e1:s1x.sg=s.sg:=by
    rcases Tj.s with⟨h5,_⟩ | ⟨h5,_⟩
    ·have:=(c8 hg).2;rw[h5]at this;cases this
    ·exact h5
   refine⟨e1.symm,?_⟩;rcases Ti'.s with⟨_,h⟩ | ⟨h,h'⟩
   ·exact h
   ·rw[h,h',e1]
 ·rw[ej];refine Zi ?_ ?_ λht=>?_
  ·refine BF λu hu=>GJ ?_;rcases Ti'.t u with⟨h,_⟩ | ⟨⟨_,h⟩,_⟩
   ·exact absurd h (c2 u hu)
   ·exact h
  ·exact BF λu hu=>GJ (B8V u λh=>c2 u hu h).2
  ·have hf:f.ws=true:=by unfold Fp.turns at ht;simp only[zaq]at ht;exact ht.2.2
   have hg:g.ws=false:=(c7 hf).2;refine⟨?_,?_⟩
   ·rcases Ti'.s with⟨h,_⟩ | ⟨h,_⟩
    ·rw[hg]at h;cases h
    ·exact h
   ·rcases Ti.s with⟨h,_⟩ | ⟨_,h⟩
    ·rw[hg]at h;cases h
    ·exact h
def B2g{oi oj:Oper}{s s2:St}(Hj:AP C R fl ops oj s s1)(Hi:AP C R fl ops oi s1 s2)(hc:comm ((Bi C fl ops oj s).AF s s1) ((Bi C fl ops oi s1).AF s1 s2)=true)(hq:Calm ((Bi C fl ops oj s).AF s s1) ((Bi C fl ops oi s1).AF s1 s2)):
 ∃s1',AP C R fl ops oi s s1'/\AP C R fl ops oj s1' s2/\(Bi C fl ops oi s).AF s s1'=(Bi C fl ops oi s1).AF s1 s2/\(Bi C fl ops oj s1').AF s1' s2=(Bi C fl ops oj s).AF s s1:=by
 unfold comm at hc;rcases ycq.1 hc with hc | hc;rotate_left
 ·exact B5u Hj Hi hc
 rcases ycq.1 hc with hc | hc
 ·exact B0t Hj Hi hc hq
 ·unfold B1c at hc;split at hc
  ·rename_i x j e y i d h1 h2;simp only[Fp.AF]at h1 h2;simp only[zaq,beq_iff_eq,bne_iff_ne,ne_eq]at hc;obtain⟨⟨⟨⟨rfl,c2⟩,c3⟩,c4⟩,c5⟩:=hc;obtain⟨gj,pj,dj,fj,wj,nj⟩:=B4a h1;obtain⟨gi,pi,di,fi,wi,ni⟩:=B4a h2;obtain⟨s1',k1,k2,k3,k4⟩:=B2W gi gj pi pj di dj (Ne.symm c2) (Ne.symm c3) c5 c4 Hj Hi;refine⟨s1',k1,k2,?_,?_⟩
   ·rw[fi s];refine Zi ?_ ?_ λht=>?_
    ·exact BF λu hu=>(k3 u (wi u hu)).2
    ·exact BF λu hu=>(k3 u (wi u hu)).1
    ·unfold Fp.turns at ht;simp[ni]at ht
   ·rw[fj s1'];refine Zi ?_ ?_ λht=>?_
    ·exact BF λu hu=>(k4 u (wj u hu)).1
    ·exact BF λu hu=>(k4 u (wj u hu)).2
    ·unfold Fp.turns at ht;simp[nj]at ht
  ·cases hc
end
end Go.Su
