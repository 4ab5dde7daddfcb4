/-
  Parts of the proof, merged: SuOp9, SuOp10, SuOp11, SuOp12, SuCall, SuOp13, SuOp14, SuSim, SuFrame, SuFrame2, SuFrame3, SuDraw.
-/
import Derived.RangeFuncLeaves
import Derived.RangeFuncNested
import Derived.Test.YtfcklgngoefgmaaGreatQ1
set_option linter.unusedVariables false
set_option linter.unusedSimpArgs false
set_option linter.unusedSectionVars false
/-
 THE DATA MACHINE, part 14: memory written; maps read and written; parts of results.
-/
open Array renaming getElem?_eq_some_iff → zdq, getElem?_setIfInBounds_self_of_lt → ziq, getElem?_setIfInBounds_ne → zjq, getElem?_eq_getElem → zEq, getElem?_push → zHq, size_push → zXq, getElem?_eq_none → y1q, getElem?_modify → y4q, getElem?_toList → y6q, length_toList → yfq
open Bool renaming false_eq_true → z7q, and_eq_true → zaq, not_eq_true' → zPq, true_and → zVq, or_eq_true_iff → ycq, not_false → ydq, false_and → yeq, not_true → yiq, or_true → yoq, or_eq_true → ypq
open List renaming getElem?_eq_some_iff → z0q, getElem?_set_ne → z1q, getElem?_set_self → z2q, getD_eq_getElem?_getD → z3q, getElem?_append_left → z4q, getElem?_eq_getElem → z5q, getElem?_append_right → z6q, getElem?_eq_none → z8q, mem_append → zcq, flatMap_cons → zeq, getElem?_cons_zero → zgq, eq_nil_of_length_eq_zero → zhq, mem_of_getElem? → zkq, all_eq_true → zlq, getElem?_set_self' → zmq, mem_singleton → zoq, length_eq_one_iff → zpq, getElem?_cons_succ → zrq, mem_iff_getElem → ztq, set_comm → zvq, getElem?_map → zxq, length_set → zyq, length_cons → zzq, ext_getElem? → zDq, getElem?_take_of_lt → zFq, flatMap_append → zGq, mem_cons_self → zIq, append_assoc → zLq, getElem?_toArray → zMq, mem_append_right → zOq, mem_cons_of_mem → zRq, mem_append_left → zSq, length_take → zTq, length_map → zUq, append_nil → zWq, mem_flatMap → zZq, map_cons → y3q, length_nil → y5q, contains_eq_mem → y7q, length_pos_iff → yaq, map_congr_left → ybq, length_append → ygq, getElem?_drop → yhq, filter_cons → ylq, set_set → ynq
open Nat renaming mul_le_mul_right → z9q, le_refl → zbq, zero_add → zfq, add_mul → zqq, lt_or_ge → zuq, succ_mul → zAq, add_zero → zBq, succ_pos → zCq, le_of_eq → zJq, zero_mul → zKq, le_of_not_lt → zNq, add_assoc → zQq, sub_self → y0q, ne_of_lt → y2q, mul_pos → y8q, le_succ → y9q, lt_succ_self → ykq, min_eq_left → ymq
open Option renaming map_eq_some_iff → znq, getD_some → zsq, isSome_iff_exists → zwq, isNone_iff_eq_none → zYq, map_some → yjq
namespace Go.Su
set_option linter.defProp false
variable {c:Array Value}{T:TypeId}
def A7o(w:World){b o:Nat}{f:Nat×Nat}(h:w.heap[b]?=some (.cells c T f))(v:Value):
 (w.setCell ⟨b,o,none⟩ v).heap[b]?=some (.cells (c.setIfInBounds o v) T f)/\(∀b',b'≠b->(w.setCell ⟨b,o,none⟩ v).heap[b']?=w.heap[b']?)/\(w.setCell ⟨b,o,none⟩ v).heap.size=w.heap.size:=by
 have P8:b<w.heap.size:=(zdq.1 h).1;have hv:w.heap[b]=.cells c T f:=(zdq.1 h).2;refine⟨?_,λb' hb=>?_,by simp⟩
 ·unfold World.setCell;rw[zEq (by simpa using P8),Array.getElem_modify];simp[hv]
 ·simp[World.setCell,y4q,Ne.symm hb]
structure Zo(w w':World)(b o:Nat)(vs:List Value)(c:Array Value)(T:TypeId)(f:Nat×Nat):Prop where
 ex:∃c',w'.heap[b]?=some (.cells c' T f)/\c'.size=c.size/\∀j,c'[j]?=if o<=j/\j<o+vs.length then vs[j-o]? else c[j]?
 rest:∀b',b'≠b->w'.heap[b']?=w.heap[b']?
 size:w'.heap.size=w.heap.size
 out:Y7 w w'
def Jb{P:Program}{b T:Nat}{f:Nat×Nat}(off:Nat):∀(vs:List Value)(c:Array Value)(i:Nat)(w:World),w.heap[b]?=some (.cells c T f)->off+i+vs.length<=c.size->(∀v∈vs,v.oneCell'=true)->
 (∀o,off+i<=o->o<off+i+vs.length->¬(f.1<=o/\o<f.2))->∃w',(storeCells ⟨b,off,none⟩ vs i).run P w=.ok () w'/\Zo w w' b (off+i) vs c T f
 |[],c,i,w,h,_,_,_=>⟨w,rfl,⟨c,h,rfl,λj=>by rw[A7 (by rintro⟨h1,h2⟩;simp at h2;omega)]⟩,λ_ _=>rfl,rfl,Y7.refl _⟩
 |v::vs,c,i,w,h,hn,ho,hf=>by
   simp only[zzq]at hn hf;have Gv:w.cell? ⟨b,off+i,none⟩=some (c[off+i]'(by omega)):=by rw[ME];unfold hc;rw[h];exact zEq (by omega)
   have hfr:w.frozen? ⟨b,off+i,none⟩=false:=by unfold World.frozen?;simp only[h];have:=hf (off+i) (zbq _) (by omega);simpa using this
   have h1:(store ((⟨b,off,none⟩:Addr).add i) v).run P w=.ok () (w.setCell ⟨b,off+i,none⟩ v):=by rw[Addr.add_lit,run_store P w _ v _ (ho v (by simp)),Gv];simp[hfr]
   obtain⟨s1,s2,s3⟩:=A7o w (o:=off+i) h v;obtain⟨w',r1,⟨c',e1,e2,e3⟩,e4,e5,e6⟩:=Jb off vs _ (i+1) _ s1 (by simp;omega) (λu hu=>ho u (by simp[hu])) (λo h1 h2=>hf o (by omega) (by omega));refine⟨w',?_,⟨c',e1,by simpa using e2,λj=>?_⟩,λb' hb=>(e4 b' hb).trans (s2 b' hb),e5.trans s3,Y7.trans (b:=w.setCell ⟨b,off+i,none⟩ v) ⟨rfl,rfl,rfl⟩ e6⟩
   ·unfold storeCells;simp only[Sem.run_bind,h1,Result.andThen_ok];exact r1
   ·rw[e3 j,zzq];by_cases hj:j=off+i
    ·subst hj;rw[A7 (by omega),C9 (by omega),ziq (by omega)];simp
    ·rw[zjq (Ne.symm hj)];by_cases hc:off+(i+1)<=j/\j<off+(i+1)+vs.length
     ·rw[C9 hc,C9 (by omega),show j-(off+i)=(j-(off+(i+1)))+1 from by omega,zrq]
     ·rw[A7 hc,A7 (by omega)]
variable {P:Program}{t:TypeId}{off:Nat}{v:Value}
def Jn{z:Nat×Bool}(hz:tz P t=some z){w:World}{b T:Nat}{f:Nat×Nat}(h:w.heap[b]?=some (.cells c T f))(hs:v.cells.size=z.1)(hn:off+z.1<=c.size)(ho:∀u∈v.cells.toList,u.oneCell'=true)(hf:∀o,off<=o->o<off+z.1->¬(f.1<=o/\o<f.2)):∃w',(storeVar t ⟨b,off,none⟩ v).run P w=.ok () w'/\Zo w w' b off v.cells.toList c T f:=by obtain⟨w',r,s⟩:=Jb (P:=P) off v.cells.toList c 0 w h (by simp;omega) ho (λo h1 h2=>hf o (by omega) (by simp at h2;omega));refine⟨w',?_,by simpa using s⟩;unfold storeVar;simp only[Sem.run_bind,Mw hz,Result.andThen_ok,Sem.run_ite];rw[A7 (by omega)];exact r
variable {w':World}{vs:List Value}
def Zo.Pr{E:Env}{w:World}{b o:Nat}{f:Nat×Nat}(S:Zo w w' b o vs c T f){ch:Tag->Prop}(hb:w.heap[b]?=some (.cells c T f))(ht:∀j,o<=j->j<o+vs.length->ch (E.O b j)):
 Pr ch E w.heap E w'.heap:=by
 refine⟨zJq S.size.symm,λb' Mr=>?_,λ_ _ _ _=>rfl,zbq _,λ_ _ _=>⟨rfl,rfl,rfl⟩,λ_ _=>rfl,D_ rfl⟩;by_cases Uq:b'=b
 ·subst Uq;rw[hb];obtain⟨c',e1,e2,e3⟩:=S.ex;refine⟨c',e1,e2,λj hj=>?_⟩;rw[e3 j,A7];rintro⟨c1,c2⟩;exact hj (ht j c1 c2)
 ·rw[S.rest b' Uq];exact X3.refl _ _
section
variable {X:Type}{C:Ba}{R:O9}{o:Oper}{st:St}{k:St->Option X}{x:X}{E:Env}{a:Act}{w:World}{K:Act->World->Prop}{Q:Exit->Act->World->Prop}
def Zn.write{tg:Tag}{p q b:Nat}{cs xs:List (DV×F4)}(B:Zn E w.heap tg p q b cs)(hb:w.heap[b]?=some (.cells c T (0,0)))(S:Zo w w' b off vs c T (0,0))(hl:xs.length=vs.length)(J5:off+xs.length<=cs.length)(hx:∀(j:Nat) r v,xs[j]?=some r->vs[j]?=some v->EH E w.heap (.sp p q (off+j)) r v)(hs:AC E.S w.heap E.S w'.heap)(hP:Pr (λt=>t=tg) E w.heap E w'.heap)(kN:∀k' a' b',tg ≠ .sp k' a' b'):Zn E w'.heap tg p q b (FF cs off xs):=by
 obtain⟨c0,T0,h1,h2,h3,h4⟩:=B;rw[hb]at h1;simp only[D8,Obj.cells.injEq]at h1;obtain⟨rfl,rfl,-⟩:=h1;obtain⟨c',e1,e2,e3⟩:=S.ex;have mono:∀{tg':Tag}{r:DV×F4}{v:Value},(∃x y z,tg'=.sp x y z)->EH E w.heap tg' r v->EH E w'.heap tg' r v:=by rintro tg' r v ⟨x1,y1,z1,rfl⟩ ⟨a1,a2,a3,a4⟩;exact⟨a1,a2,a3,a4.mono hP hs (λ_=>λh=>kN _ _ _ h.symm) λs o' hm=>by rw[hm]at a3;simp[Y8]at a3⟩
 refine⟨c',T,e1,by rw[e2,h2,Ma J5],λo'=>?_,λj r v hr hv=>?_⟩
 ·rcases h3 o' with h5 | h5
  ·exact .inl h5
  ·exact .inr (by omega)
 ·rw[Pz J5]at hr;rw[e3 j]at hv;by_cases hc:off<=j/\j<off+xs.length
  ·rw[C9 hc]at hr;rw[C9 (by omega)]at hv;have:=hx (j-off) r v hr hv;rw[show off+(j-off)=j from by omega]at this;exact mono ⟨_,_,_,rfl⟩ this
  ·rw[A7 hc]at hr;rw[A7 (by omega)]at hv;exact mono ⟨_,_,_,rfl⟩ (h4 j r v hr hv)
def K9.A32{s:Nat}{cs xs:List (DV×F4)}(Rl:K9 E st a w.heap)(hbx:st.bx.getD s none=some cs)(hb:w.heap[E.blk s]?=some (.cells c T (0,0)))(S:Zo w w' (E.blk s) off vs c T (0,0))(hl:xs.length=vs.length)(J5:off+xs.length<=cs.length)(hx:∀(j:Nat) r v,xs[j]?=some r->vs[j]?=some v->EH E w.heap (.sp 1 s (off+j)) r v):
 K9 E { st with bx:=st.bx.set s (some (FF cs off xs)) } a w'.heap/\Pr (λt=>t=.Sm s) E w.heap E w'.heap:=by
 have B:=Rl.Z7 s cs hbx;have Ca:c.size=cs.length:=by obtain⟨c0,T0,h1,h2,-⟩:=B;rw[hb]at h1;simp only[D8,Obj.cells.injEq]at h1;rw[h1.1];exact h2
 have hP:Pr (λt=>t=.Sm s) E w.heap E w'.heap:=S.Pr hb λj h1 h2=>by
  obtain⟨c1,T1,g1,g2,g3,-⟩:=B;rw[hb]at g1;simp only[D8,Obj.cells.injEq]at g1;rcases g3 j with h6 | h6
  ·exact h6
  ·rw[<- g1.1]at h6;omega
 have hs:=hP.Q6 (by simp) Rl.fresh;refine⟨⟨Rl.size,Rl.Ac,by simpa using Rl.CY,Rl.n,λt v hv=>?_,λs' cs' EM=>?_,λi ob hi=>(Rl.U7 i ob hi).mono hP hs (CK Rl hi) (by simp) (by simp),λb o' Mr=>Rl.fresh b o' (by rw[<- S.size];exact Mr)⟩,hP⟩
 ·have h0:=Rl.Bi t v hv;cases hm:(st.get t).2
  case loc s' o'=>show RR E w'.heap 0 t (st.get t).1 (st.get t).2 v;rw[hm]at h0 ⊢;exact h0
  all_goals
   show RR E w'.heap 0 t (st.get t).1 (st.get t).2 v;exact h0.mono hP hs (by simp) (by rw[hm];simp)
 ·have zS:s<st.bx.length:=by
   rcases zuq s st.bx.length with h1 | h1
   ·exact h1
   ·simp[z3q,z8q h1]at hbx
  by_cases aj:s=s'
  ·subst aj;simp only[z3q,z2q zS,zsq,D8]at EM;subst EM;exact B.write hb S hl J5 hx hs hP (by simp)
  ·simp only[z3q,z1q aj]at EM;exact(Rl.Z7 s' cs' (by simpa[z3q]using EM)).mono hP hs (by simp;exact λh=>aj h.symm) (by simp)
def K9.A33{i:Nat}{cs xs:List (DV×F4)}(Rl:K9 E st a w.heap)(hsg:st.sg[i]?=some (.box cs))(hb:w.heap[E.obj i]?=some (.cells c T (0,0)))(S:Zo w w' (E.obj i) off vs c T (0,0))(hl:xs.length=vs.length)(J5:off+xs.length<=cs.length)(hx:∀(j:Nat) r v,xs[j]?=some r->vs[j]?=some v->EH E w.heap (.sp 2 i (off+j)) r v):
 K9 E { st with sg:=st.sg.set i (.box (FF cs off xs)) } a w'.heap/\Pr (λt=>t=.obj i) E w.heap E w'.heap:=by
 have B:=Rl.U7 i _ hsg;simp only[RO]at B;have Ca:c.size=cs.length:=by obtain⟨c0,T0,h1,h2,-⟩:=B;rw[hb]at h1;simp only[D8,Obj.cells.injEq]at h1;rw[h1.1];exact h2
 have hP:Pr (λt=>t=.obj i) E w.heap E w'.heap:=S.Pr hb λj h1 h2=>by
  obtain⟨c1,T1,g1,g2,g3,-⟩:=B;rw[hb]at g1;simp only[D8,Obj.cells.injEq]at g1;rcases g3 j with h6 | h6
  ·exact h6
  ·rw[<- g1.1]at h6;omega
 have hs:=hP.Q6 (by simp) Rl.fresh;have IY:=(z0q.1 hsg).1;refine⟨⟨Rl.size,Rl.Ac,Rl.CY,by simpa using Rl.n,λt v hv=>(Rl.Bi t v hv).mono hP hs (by simp) (by simp),λs' cs' EM=>(Rl.Z7 s' cs' EM).mono hP hs (by simp) (by simp),λi' ob hi=>?_,λb o' Mr=>Rl.fresh b o' (by rw[<- S.size];exact Mr)⟩,hP⟩;by_cases Cf:i=i'
 ·subst Cf;simp only[z2q IY,D8]at hi;subst hi;exact B.write hb S hl J5 hx hs hP (by simp)
 ·simp only[z1q Cf]at hi;exact(Rl.U7 i' ob hi).mono hP hs (CK Rl hi) (by simp;exact λh=>Cf h.symm) (by simp)
def Ck(y:Operand)(p s off:Nat)(T:Tag):Tag :=
 match y,T with
 |.tmp t,.sp 0 t' 0=>if t=t' then .sp p s off else .sp 0 t' 0
 |_,T=>T
variable {y:Operand}
theorem Gl{p s:Nat}{T:Tag}(h:∀t b,y=.tmp t->T ≠ .sp 0 t b):Ck y p s off T=T:=by
 unfold Ck;split
 ·split
  ·rename_i hx;subst hx;exact absurd rfl (h _ _ rfl)
  ·rfl
 ·rfl
def A9k{r:DV×F4}(hs:src P t st y=some r){p s:Nat}{c:DV×F4}(hm:c.2=r.2)(hc:EH E w.heap (.sp 0 (fA y) 0) c (a.eval y)):
 EH (E.re (Ck y p s off)) w.heap (.sp p s off) c (a.eval y):=by
 obtain⟨a1,a2,a3,a4⟩:=hc;refine⟨a1,a2,a3,?_⟩;by_cases hy:∃i,y=.tmp i
 ·obtain⟨i,rfl⟩:=hy;exact a4.re (Gl (by simp)) (by simp[Ck,fA])
 ·have Yi:c.2.owns=false:=by
   rw[hm];cases y with
   |tmp i=>exact absurd ⟨i,rfl⟩ hy
   |const v=>exact B4e hs
   |func f=>simp only[src,D8]at hs;subst hs;rfl
   |global g=>simp[src]at hs
  have a5:L8 (E.re (Ck y p s off)) w.heap .other c.1 c.2 (a.eval y):=(a4.tag (tg':=.other) Yi).re (Gl (by simp)) (Gl (by simp));exact a5.tag Yi
def JS{v:Operand}{b:Nat}(F7:o.op=.store t y v)(he:a.eval y=.pointer (some ⟨b,off,none⟩))(h:(storeVar t ⟨b,off,none⟩ (a.eval v)).run C.P w=.ok () w'):
 (execOp a.eval o).run C.P w=.ok .skip w':=by
 simp only[execOp,F7];refine B54 ?_;simp only[Instr.storeAt,he,Instr.sureAddr,Sem.run_bind,Sem.run_pure,Result.andThen_ok,h]
def cells_one(h:v.oneCell'=true):v.cells=#[v]:=by cases v<;>first | rfl | (simp[Value.oneCell']at h)
def A3K{α : Type}{l:List α}{o:Nat}{y : α}(h:o<l.length):FF l o [y]=l.set o y:=by
 apply zDq;intro j;rw[Pz (by simp;omega)];by_cases hj:o=j
 ·subst hj;rw[C9 (by simp),z2q h];simp
 ·rw[A7 (by simp;omega),z1q hj]
def L8.dat{E:Env}{h:Heap}{tg:Tag}{d:DV}{m:F4}(hm:K6 m=true)(R:L8 E h tg d m v):RV E.S h d v:=by
 cases m<;>simp only[K6]at hm<;>simp only[L8]at R<;>try contradiction
 ·exact R
 ·exact R.1
 ·exact R.1
 ·obtain⟨rfl,rfl⟩:=R;simp only[RV]
def A31{z:Nat×Bool}(hz:tz P t=some z)(Rl:K9 E st a w.heap){i n sz idx:Nat}{ds:List DV}{d e:DV}(hp:st.sg[i]?=some (.Q0 n sz ds))(hd:ds[idx]?=some d)(Pm:v.cells.size=z.1){xs:List (DV×F4)}(hl:xs.length=v.cells.size){tg:Nat->Tag}(Ao:∀(j:Nat) r v',xs[j]?=some r->v.cells.toList[j]?=some v'->N8 r.1=true/\v'.oneCell'=true/\L8 E w.heap (tg j) r.1 r.2 v')(he:KQ sz off d xs=some e):
 ∃w',(storeVar t ⟨E.obj i,E.base i+idx * sz+off,none⟩ v).run P w=.ok () w'/\K9 E { st with sg:=st.sg.set i (.Q0 n sz (ds.set idx e)) } a w'.heap/\Pr (λt=>t=.obj i) E w.heap E w'.heap/\Y7 w w':=by
 obtain⟨WL,hRC⟩:off+xs.length<=sz/\∀us:List Value,us.length=sz->RC E.S w.heap d us->RC E.S w.heap e (FF us off v.cells.toList):=by
  have TL:v.cells.toList.length=xs.length:=by simp[hl]
  unfold KQ at he;split at he
  ·rename_i cs;obtain⟨⟨uK,GZ,WL⟩,he⟩:=L9 he;simp only[D8]at he;subst he;refine⟨WL,λus u1 u3=>?_⟩;have Ut:off+v.cells.toList.length<=us.length:=by omega
   simp only[RC]at u3 ⊢;obtain⟨k1,k2⟩:=CU.1 u3;have hpc:off+(xs.map (·.1)).length<=cs.length:=by simp;omega
   refine CU.2 ⟨by rw[Ma Ut,Ma hpc,k1],λy q u hq hu=>?_⟩;rw[Pz Ut]at hu;rw[Pz hpc]at hq;by_cases hy:off<=y/\y<off+v.cells.toList.length
   ·rw[C9 hy]at hu;rw[C9 (by simp only[zUq];omega),zxq,znq]at hq;obtain⟨r,hr,rfl⟩:=hq;obtain⟨g1,g2,g3⟩:=Ao _ r u hr hu;have g4:=zlq.1 uK r (zkq hr);rw[zaq]at g4;exact⟨g1,M_ g1 g2 (g3.dat g4.1)⟩
   ·rw[A7 hy]at hu;rw[A7 (by simp only[zUq];omega)]at hq;exact k2 y q u hq hu
  ·split at he
   ·rename_i c;obtain⟨⟨hd0,hc,CL,ho⟩,he⟩:=L9 he;simp only[D8]at he;subst he;subst CL;subst ho;refine⟨by simp,λus u1 u3=>?_⟩;rw[zaq]at hc;simp only[zzq,y5q]at TL;obtain⟨u,hu⟩:=zpq.1 TL;have e0:FF us 0 v.cells.toList=[u]:=by rw[hu];simp[FF,List.drop_of_length_le (show us.length<=1 by omega)]
    rw[e0];obtain⟨g1,g2,g3⟩:=Ao 0 c u rfl (by rw[hu];rfl);exact M_ g1 g2 (g3.dat hc.1)
   ·cases he
 have B:=Rl.U7 i _ hp;simp only[RO]at B;obtain⟨bv,b0,b3,B⟩:=B;have hne:ds≠[]:=by intro h;rw[h]at hd;simp at hd
 obtain⟨c,TT,f,b1,b2,b2',b4,b5⟩:=B.resolve_left λh=>hne h.1;have hidx:idx<ds.length:=(z0q.1 hd).1;have BQ:idx * sz+sz<=ds.length * sz:=by rw[<- zAq];exact z9q _ hidx
 have TL:v.cells.toList.length=xs.length:=by simp[hl]
 have Gv:∀u∈v.cells.toList,u.oneCell'=true:=by intro q hq;obtain⟨j,hj,uN⟩:=ztq.1 hq;exact(Ao j _ q (z5q (by omega)) (by rw[z5q hj,uN])).2.1
 obtain⟨w',hw,S⟩:=Jn (P:=P) hz (off:=E.base i+idx * sz+off) b1 Pm (by omega) Gv (λo h1 h2=>(b4 o (by omega) (by omega)).2);have P1:Pr (λt=>t=.obj i) E w.heap E w'.heap:=S.Pr b1 λj h1 h2=>(b4 j (by omega) (by simp at h2;omega)).1;have hs:=P1.Q6 (by simp) Rl.fresh;have IY:=(z0q.1 hp).1;refine⟨w',hw,?_,P1,S.out⟩;refine⟨Rl.size,Rl.Ac,Rl.CY,by simpa using Rl.n,λt v hv=>(Rl.Bi t v hv).mono P1 hs (by simp) (by simp),λs' cs' EM=>(Rl.Z7 s' cs' EM).mono P1 hs (by simp) (by simp),λi' ob hi=>?_,λb o' Mr=>Rl.fresh b o' (by rw[<- S.size];exact Mr)⟩;by_cases Cf:i=i'
 ·subst Cf;simp only[z2q IY,D8]at hi;subst hi;simp only[RO];obtain⟨c',Ie,e2',e3'⟩:=S.ex;refine⟨bv,b0,b3,.inr ⟨c',TT,f,Ie,by rw[zyq];exact b2,by rw[e2'];exact b2',b4,λj d' Ep=>?_⟩⟩;by_cases hj:idx=j
  ·subst hj;rw[z2q hidx]at Ep;simp only[D8]at Ep;subst Ep;obtain⟨us,u1,u2,u3⟩:=b5 idx _ hd;have Ut:off+v.cells.toList.length<=us.length:=by omega
   refine⟨FF us off v.cells.toList,by rw[Ma Ut,u1],λy q hq=>?_,?_⟩
   ·rw[Pz Ut]at hq;by_cases hy:off<=y/\y<off+v.cells.toList.length
    ·rw[C9 hy]at hq;rw[e3',C9 (by omega),<- hq];congr 1;omega
    ·rw[A7 hy]at hq;rw[e3',A7 (by omega),u2 y q hq]
   ·exact(hRC us u1 u3).mono hs
  ·rw[z1q hj]at Ep;obtain⟨us,u1,u2,u3⟩:=b5 j d' Ep;refine⟨us,u1,λy q hq=>?_,u3.mono hs⟩;have hy:y<sz:=by have:=(z0q.1 hq).1;omega
   rw[e3',A7,u2 y q hq];rintro⟨c1,c2⟩;have:=A1C (sz:=sz) (i:=idx) (i':=j) (j:=j * sz+y-idx * sz) (j':=y) (by omega) hy (by omega);omega
 ·simp only[z1q Cf]at hi;exact(Rl.U7 i' ob hi).mono P1 hs (CK Rl hi) (by simp;exact λh=>Cf h.symm) (by simp)
def B3s{v:Operand}(F7:o.op=.store t y v)(H:Dk C o t y v st k=some x)(Rl:K9 E st a w.heap)(T:Then E w k x K):Gp C.P o a w K:=by
 unfold Dk at H;obtain⟨r,h1,H⟩:=D6 H;obtain⟨u,h2,H⟩:=D6 H;obtain⟨z,hz,H⟩:=D6 H;have e1:=Rl.src h1;have e2:=Rl.src h2;have Hg:z.2=false->z.1=1:=by obtain⟨i,d,-,-,-,h4⟩:=IU hz;exact h4
 have uR:∀{E':Env}{h':Heap}(t0:Nat),RR E' h' 0 t0 (.J8 []) .val undef:=by intro E' h' t0;simp only[RR,L8,RV];exact⟨#[],rfl,by simp[RY]⟩
 split at H
 ·-- a private variable
  rename_i s off hm;rw[hm]at e1;simp only[RR,L8]at e1;obtain⟨cs,hb,H⟩:=D6 H;have B:=Rl.Z7 s cs hb;obtain⟨c,TT,Gm,Ca,hO,-⟩:=B;split at H
  ·obtain⟨xs,H,hl,Ao,Yi⟩:=xw hz e2 H;obtain⟨J5,H⟩:=L9 H;obtain⟨w',hw,S⟩:=Jn (P:=C.P) hz (off:=off) Gm (v:=a.eval v) (by have:=Ao.1;simp at this;omega) (by omega) (λu hu=>by obtain⟨j,hj,uN⟩:=ztq.1 hu;have yM:=Ao.1;exact(Ao.2 j _ u (z5q (by omega)) (by rw[z5q hj,uN])).2.1) (λo _ _=>by simp)
   have R0:=Rl.release (x:=v) (f:=RZ v s off) λT hT=>PN hT;have Kq:(st.release v).bx=st.bx:=by cases v<;>rfl
   obtain⟨R1,P1⟩:=R0.A32 (by rw[Kq];exact hb) Gm S Ao.1 J5 λj r' v' hr hv=>(Ao.2 j r' v' hr hv).box λhy=>Yi (A3C h2 hy) r' (zkq hr)
   rw[Kq]at R1;have Q9:({ st with bx:=st.bx.set s (some (FF cs off xs)) }.release v)={ st.release v with bx:=st.bx.set s (some (FF cs off xs)) }:=by cases v<;>rfl
   rw[Q9]at H;have P0:Pr P9 E w.heap (E.re (RZ v s off)) w.heap:=Pr.re λT hT=>PN λt b _ he=>hT (by rw[he];simp[P9]);exact Nb (JS F7 e1.2 hw) (T (E.re (RZ v s off)) _ _ w' H (R1.put λt0 _=>uR t0) (P0.trans (P1.Z9 (by rintro T rfl;simp[P9]))) S.out)
  ·rename_i uS;have nS:=Hg (by simpa using uS);obtain⟨cc,H,hmm,Ao⟩:=XU e2 H;obtain⟨P8,H⟩:=L9 H;have Xn:=cells_one Ao.2.1;obtain⟨w',hw,S⟩:=Jn (P:=C.P) hz (off:=off) Gm (v:=a.eval v) (by rw[Xn,nS];rfl) (by omega) (λu hu=>by rw[Xn]at hu;simp at hu;subst hu;exact Ao.2.1) (λo _ _=>by simp)
   rw[Xn]at S;have R0:=Rl.release (x:=v) (f:=Ck v 1 s off) λT hT=>Gl hT;have Gv:=A9k h2 (p:=1) (s:=s) (off:=off) hmm Ao;have Kq:(st.release v).bx=st.bx:=by cases v<;>rfl
   obtain⟨R1,P1⟩:=R0.A32 (xs:=[cc]) (by rw[Kq];exact hb) Gm S rfl (by simp;omega) λj r' v' hr hv=>by
    cases j with
    |succ j=>simp at hr
    |zero=>
      have Ab:r'=cc:=by simpa using hr.symm
      have RD:v'=a.eval v:=by simpa using hv.symm
      rw[Ab,RD];exact Gv
   rw[A3K P8,Kq]at R1;have Q9:({ st with bx:=st.bx.set s (some (cs.set off cc)) }.release v)={ st.release v with bx:=st.bx.set s (some (cs.set off cc)) }:=by cases v<;>rfl
   rw[Q9]at H;have P0:Pr P9 E w.heap (E.re (Ck v 1 s off)) w.heap:=Pr.re λT hT=>Gl λt b _ he=>hT (by rw[he];simp[P9]);exact Nb (JS F7 e1.2 hw) (T (E.re (Ck v 1 s off)) _ _ w' H (R1.put λt0 _=>uR t0) (P0.trans (P1.Z9 (by rintro T rfl;simp[P9]))) S.out)
 ·-- a shared variable
  rename_i i off hm;rw[hm]at e1;simp only[RR,L8]at e1;obtain⟨cs,hb,H⟩:=D6 H;have hb:=ZQ hb;have B:=Rl.U7 i _ hb;simp only[RO]at B;obtain⟨c,TT,Gm,Ca,hO,-⟩:=B;split at H
  ·obtain⟨xs,H,hl,Ao⟩:=Yx hz e2 H;obtain⟨J5,H⟩:=L9 H;obtain⟨w',hw,S⟩:=Jn (P:=C.P) hz (off:=off) Gm (v:=a.eval v) (by have:=Ao.1;simp at this;omega) (by omega) (λu hu=>by obtain⟨j,hj,uN⟩:=ztq.1 hu;have yM:=Ao.1;obtain⟨⟨-,q,-,-⟩,-⟩:=Ao.2 j _ u (z5q (by omega)) (by rw[z5q hj,uN]);exact q) (λo _ _=>by simp)
   obtain⟨R1,P1⟩:=Rl.A33 hb Gm S Ao.1 J5 λj r' v' hr hv=>let⟨q1,q2⟩:=Ao.2 j r' v' hr hv;⟨q1.1,q1.2.1,q1.2.2.1,q1.2.2.2.tag (Qf q1.2.2.1 q2)⟩
   exact Nb (JS F7 e1.2 hw) (T E _ _ w' H (R1.put λt0 _=>uR t0) (P1.Z9 (by rintro T rfl;simp[P9])) S.out)
  ·rename_i uS;have nS:=Hg (by simpa using uS);obtain⟨cc,H,hmm,Ao⟩:=XU e2 H;obtain⟨c0,uL,H⟩:=D6 H;have P8:off<cs.length:=(z0q.1 uL).1;have Xn:=cells_one Ao.2.1;obtain⟨w',hw,S⟩:=Jn (P:=C.P) hz (off:=off) Gm (v:=a.eval v) (by rw[Xn,nS];rfl) (by omega) (λu hu=>by rw[Xn]at hu;simp at hu;subst hu;exact Ao.2.1) (λo _ _=>by simp)
   rw[Xn]at S;have R0:=Rl.release (x:=v) (f:=Ck v 2 i off) λT hT=>Gl hT;have Gv:=A9k h2 (p:=2) (s:=i) (off:=off) hmm Ao;have Kq:(st.release v).sg=st.sg:=by cases v<;>rfl
   obtain⟨R1,P1⟩:=R0.A33 (xs:=[cc]) (by rw[Kq];exact hb) Gm S rfl (by simp;omega) λj r' v' hr hv=>by
    cases j with
    |succ j=>simp at hr
    |zero=>
      have Ab:r'=cc:=by simpa using hr.symm
      have RD:v'=a.eval v:=by simpa using hv.symm
      rw[Ab,RD];exact Gv
   rw[A3K P8,Kq]at R1;have Q9:({ st with sg:=st.sg.set i (.box (cs.set off cc)) }.release v)={ st.release v with sg:=st.sg.set i (.box (cs.set off cc)) }:=by cases v<;>rfl
   rw[Q9]at H;have P0:Pr P9 E w.heap (E.re (Ck v 2 i off)) w.heap:=Pr.re λT hT=>Gl λt b _ he=>hT (by rw[he];simp[P9]);exact Nb (JS F7 e1.2 hw) (T (E.re (Ck v 2 i off)) _ _ w' H (R1.put λt0 _=>uR t0) (P0.trans (P1.Z9 (by rintro T rfl;simp[P9]))) S.out)
 ·-- an element of a writable array
  rename_i i sz idx off hm;rw[hm]at e1;simp only[RR,L8]at e1;obtain⟨p,hp,H⟩:=D6 H;obtain⟨d,hd,H⟩:=D6 H;obtain⟨H,Pm,hRC⟩:=l_ Hg e2 H;obtain⟨Ca,H⟩:=H6 H;obtain⟨⟨hzz,WL⟩,H9⟩:=L9 H;clear H;subst WL;have hp:=oN hp;have Ca:p.1=sz:=by simpa using Ca
  rw[Ca]at hp;have B:=Rl.U7 i _ hp;simp only[RO]at B;have hne:p.2≠[]:=by intro h;rw[h]at hd;simp at hd
  obtain⟨c,TT,b1,b2,b3,b4,b5⟩:=B hne;have hidx:idx<p.2.length:=(z0q.1 hd).1;have BQ:idx * sz+sz<=p.2.length * sz:=by rw[<- zAq];exact z9q _ hidx
  have Gv:∀u∈(a.eval v).cells.toList,u.oneCell'=true:=by intro q hq;obtain⟨j,hj,uN⟩:=ztq.1 hq;obtain⟨q1,q2⟩:=Ns hRC (j:=j) (v:=q) (by rw[z5q hj,uN]);exact Jg q1 q2
  obtain⟨w',hw,S⟩:=Jn (P:=C.P) hz (off:=E.base i+idx * sz) b1 (v:=a.eval v) Pm (by omega) Gv (λo _ _=>by simp);have P1:Pr (λt=>t=.obj i) E w.heap E w'.heap:=S.Pr b1 λj h1 h2=>b4 j (by omega) (by simp at h2;omega);have hs:=P1.Q6 (by simp) Rl.fresh;have IY:=(z0q.1 hp).1;have R1:K9 E { st with sg:=st.sg.set i (.arr sz (p.2.set idx u.1)) } a w'.heap:=by
   refine⟨Rl.size,Rl.Ac,Rl.CY,by simpa using Rl.n,λt v hv=>(Rl.Bi t v hv).mono P1 hs (by simp) (by simp),λs' cs' EM=>(Rl.Z7 s' cs' EM).mono P1 hs (by simp) (by simp),λi' ob hi=>?_,λb o' Mr=>Rl.fresh b o' (by rw[<- S.size];exact Mr)⟩;by_cases Cf:i=i'
   ·subst Cf;simp only[z2q IY,D8]at hi;subst hi;simp only[RO];intro _;obtain⟨c',Ie,e2',e3'⟩:=S.ex;refine⟨c',TT,Ie,by rw[zyq,e2'];exact b2,b3,by rw[zyq];exact b4,λj d' Ep=>?_⟩;by_cases hj:idx=j
    ·subst hj;rw[z2q hidx]at Ep;simp only[D8]at Ep;subst Ep;refine⟨(a.eval v).cells.toList,by simp;omega,λy q hq=>?_,hRC.mono hs⟩;have hy:y<sz:=by have:=(z0q.1 hq).1;simp at this;omega
     rw[e3',C9 (by simp;omega),<- hq];congr 1;omega
    ·rw[z1q hj]at Ep;obtain⟨us,u1,u2,u3⟩:=b5 j d' Ep;refine⟨us,u1,λy q hq=>?_,u3.mono hs⟩;have hy:y<sz:=by have:=(z0q.1 hq).1;omega
     rw[e3',A7,u2 y q hq];rintro⟨c1,c2⟩;simp at c2;exact hj (A1C (sz:=sz) (j:=j * sz+y-idx * sz) (j':=y) (by omega) hy (by omega))
   ·simp only[z1q Cf]at hi;exact(Rl.U7 i' ob hi).mono P1 hs (CK Rl hi) (by simp;exact λh=>Cf h.symm) (by simp)
  exact Nb (JS F7 (by rw[e1.2];rfl) hw) (T E _ _ w' H9 (R1.put λt0 _=>uR t0) (P1.Z9 (by rintro T rfl;simp[P9])) S.out)
 ·-- an open element
  rename_i i sz idx hm;rw[hm]at e1;simp only[RR,L8]at e1;obtain⟨q,hq,H⟩:=D6 H;obtain⟨H,Pm,hRC⟩:=l_ Hg e2 H;obtain⟨Ca,H⟩:=H6 H;obtain⟨ob1,hx,H9⟩:=D6 H;clear H;simp only[zaq,beq_iff_eq]at Ca;obtain⟨CL,hs2⟩:=Ca;obtain⟨sz',pre,ds⟩:=q;simp only at CL;subst CL;have hq:=oO hq;simp only[Zd]at hx;obtain⟨⟨Mt,uM⟩,hx⟩:=L9 hx;simp only[D8]at hx;subst hx;have B:=Rl.U7 i _ hq;simp only[RO]at B;obtain⟨c,TT,f,b1,b2,b2',b3,b4,b5,b6⟩:=B;have B0R:pre.length * sz'<=idx * sz':=z9q _ Mt;have BQ:idx * sz'+sz'<=(pre.length+ds.length) * sz':=by rw[<- zAq];exact z9q _ (by omega)
  have Gv:∀u∈(a.eval v).cells.toList,u.oneCell'=true:=by intro q hq;obtain⟨j,hj,uN⟩:=ztq.1 hq;obtain⟨q1,q2⟩:=Ns hRC (j:=j) (v:=q) (by rw[z5q hj,uN]);exact Jg q1 q2
  obtain⟨w',hw,S⟩:=Jn (P:=C.P) hz (off:=E.base i+idx * sz') b1 (v:=a.eval v) Pm (by omega) Gv (λo h1 h2=>(b4 o (by omega) (by omega)).2);have P1:Pr (λt=>t=.obj i) E w.heap E w'.heap:=S.Pr b1 λj h1 h2=>(b4 j (by omega) (by simp at h2;omega)).1;have hs:=P1.Q6 (by simp) Rl.fresh;have IY:=(z0q.1 hq).1;have R1:K9 E { st with sg:=st.sg.set i (.opn sz' pre (ds.set (idx-pre.length) u.1)) } a w'.heap:=by
   refine⟨Rl.size,Rl.Ac,Rl.CY,by simpa using Rl.n,λt v hv=>(Rl.Bi t v hv).mono P1 hs (by simp) (by simp),λs' cs' EM=>(Rl.Z7 s' cs' EM).mono P1 hs (by simp) (by simp),λi' ob hi=>?_,λb o' Mr=>Rl.fresh b o' (by rw[<- S.size];exact Mr)⟩;by_cases Cf:i=i'
   ·subst Cf;simp only[z2q IY,D8]at hi;subst hi;simp only[RO];obtain⟨c',Ie,e2',e3'⟩:=S.ex;refine⟨c',TT,f,Ie,by rw[zyq];exact b2,by rw[e2'];exact b2',b3,b4,λj d' Ep=>(b5 j d' Ep).mono hs,λj d' Ep=>?_⟩;by_cases hj:idx-pre.length=j
    ·subst hj;rw[z2q uM]at Ep;simp only[D8]at Ep;subst Ep;have e4:pre.length+(idx-pre.length)=idx:=by omega
     refine⟨(a.eval v).cells.toList,by simp;omega,λy q hq=>?_,hRC.mono hs⟩;have hy:y<sz':=by have:=(z0q.1 hq).1;simp at this;omega
     rw[e4,e3',C9 (by simp;omega),<- hq];congr 1;omega
    ·rw[z1q hj]at Ep;obtain⟨us,u1,u2,u3⟩:=b6 j d' Ep;refine⟨us,u1,λy q hq=>?_,u3.mono hs⟩;have hy:y<sz':=by have:=(z0q.1 hq).1;omega
     rw[e3',A7,u2 y q hq];rintro⟨c1,c2⟩;simp at c2;have:=A1C (sz:=sz') (i:=idx) (i':=pre.length+j) (j:=(pre.length+j) * sz'+y-idx * sz') (j':=y) (by omega) hy (by omega);omega
   ·simp only[z1q Cf]at hi;exact(Rl.U7 i' ob hi).mono P1 hs (CK Rl hi) (by simp;exact λh=>Cf h.symm) (by simp)
  exact Nb (JS F7 (by rw[e1.2]) hw) (T E _ _ w' H9 (R1.put λt0 _=>uR t0) (P1.Z9 (by rintro T rfl;simp[P9])) S.out)
 ·-- an element of a vector
  rename_i i n sz idx off hm;rw[hm]at e1;simp only[RR,L8]at e1;obtain⟨p,hp,H⟩:=D6 H;obtain⟨d,hd,H⟩:=D6 H;obtain⟨Ca,H⟩:=H6 H;have hp:=ZT hp;have Ca:p.1=sz:=by simpa using Ca
  rw[Ca]at hp;obtain⟨-,-,-,eb,ep,ev,ex⟩:=e1;have B:=Rl.U7 i _ hp;simp only[RO]at B;obtain⟨rfl,rfl⟩:=ex B.1;split at H
  ·obtain⟨xs,H,hl,Ao⟩:=Yx hz e2 H;obtain⟨e,he,H9⟩:=D6 H;obtain⟨w',hw,R1,P1,ho⟩:=A31 (P:=C.P) hz Rl hp hd (v:=a.eval v) (by have:=Ao.1;simp at this;omega) (xs:=xs) (by have:=Ao.1;simpa using this) (λj r' v' hr hv=>let⟨q1,q2⟩:=Ao.2 j r' v' hr hv;⟨q1.1,q1.2.1,q1.2.2.2⟩) he;exact Nb (JS F7 ev hw) (T E _ _ w' H9 (R1.put λt0 _=>uR t0) (P1.Z9 (by rintro T rfl;simp[P9])) ho)
  ·rename_i uS;have nS:=Hg (by simpa using uS);obtain⟨cc,H,hmm,Ao⟩:=XU e2 H;obtain⟨e,he,H9⟩:=D6 H;have Xn:=cells_one Ao.2.1;obtain⟨w',hw,R1,P1,ho⟩:=A31 (P:=C.P) hz Rl hp hd (v:=a.eval v) (by rw[Xn,nS];rfl) (xs:=[cc]) (by rw[Xn];rfl) (λj r' v' hr hv=>by
    rw[Xn]at hv;cases j with
    |succ j=>simp at hr
    |zero=>
      have Ab:r'=cc:=by simpa using hr.symm
      have RD:v'=a.eval v:=by simpa using hv.symm
      rw[Ab,RD];exact⟨Ao.1,Ao.2.1,Ao.2.2.2⟩) he
   exact Nb (JS F7 ev hw) (T E _ _ w' H9 (R1.put λt0 _=>uR t0) (P1.Z9 (by rintro T rfl;simp[P9])) ho)
 ·simp at H
end
end Go.Su

/-
 THE DATA MACHINE, part 15: maps read and written; parts of results.
-/
namespace Go.Su
set_option linter.defProp false
variable {P:Program}{t:TypeId}
def uY{q:Bool×TypeId}(h:mapKeys P t=some q):∃kt,P.underlying t=some (.map kt q.2)/\((q.1=false/\P.underlying kt=some (.int .i64))\/(q.1=true/\P.underlying kt=some .string)):=by
 unfold mapKeys at h;split at h
 ·rename_i kt et hu;split at h<;>simp only[D8,reduceCtorEq]at h<;>subst h
  ·exact⟨kt,hu,.inl ⟨rfl,‹_›⟩⟩
  ·exact⟨kt,hu,.inr ⟨rfl,‹_›⟩⟩
 ·simp at h
def B39(a b:ByteArray):(a.toList==b.toList)=(a==b):=(beq_toListBytes a b).symm
variable {kd:TypeDesc}
def A8I{S:AU}{h:Heap}{ks:Bool}(hk:(ks=false/\kd=.int .i64)\/(ks=true/\kd=.string)){d e:DV}{v u:Value}(hd:j4 ks d=true)(he:j4 ks e=true)(rv:RV S h d v)(ru:RV S h e u):
 Instr.sameNow kd v u=some (FT d e)/\(FT d e=true->v=u/\d=e):=by
 rcases hk with⟨rfl,rfl⟩ | ⟨rfl,rfl⟩
 ·cases d<;>simp only[j4,z7q,ydq,zVq,beq_iff_eq]at hd;cases e<;>simp only[j4,z7q,ydq,zVq,beq_iff_eq]at he;rw[CQ]at rv ru;subst rv ru hd he;refine⟨by simp[Instr.sameNow,FT],λhq=>?_⟩;simp only[FT,beq_iff_eq]at hq;subst hq;exact⟨rfl,rfl⟩
 ·cases d<;>simp only[j4,z7q,yiq,yeq]at hd;cases e<;>simp only[j4,z7q,yiq,yeq]at he;rw[XR]at rv ru;subst rv ru;rename_i p q;refine⟨?_,λhq=>?_⟩
  ·simp only[Instr.sameNow,FT,B39]
  ·simp only[FT,beq_iff_eq,ByteArray.toList_eq]at hq;have uO:p=q:=by obtain⟨⟨p⟩⟩:=p;obtain⟨⟨q⟩⟩:=q;simpa using hq
   subst uO;exact⟨rfl,rfl⟩
def mg{S:AU}{h:Heap}{ks:Bool}{kd:TypeDesc}(hk:(ks=false/\kd=.int .i64)\/(ks=true/\kd=.string)){d:DV}{v:Value}(hd:j4 ks d=true)(rv:RV S h d v)(val:DV):∀(es:List (DV×DV))(l:List MapEntry)(i:Nat),
 es.length=l.length->(∀(j:Nat) e n,es[j]?=some e->l[j]?=some n->j4 ks e.1=true/\RV S h e.1 n.key/\RV S h e.2 n.val)->
 (Instr.findNow kd v l i=some none/\Y0 es d=none/\Bz es d val=es++[(d,val)]) \/
 ∃j e n,es[j]?=some e/\l[j]?=some n/\Instr.findNow kd v l i=some (some (i+j,n.val))/\Y0 es d=some e.2/\Bz es d val=es.set j (e.1,val)/\n.key=v/\e.1=d
 |[],[],i,_,_=>.inl ⟨rfl,rfl,rfl⟩
 |[],_::_,_,hl,_=>by simp at hl
 |_::_,[],_,hl,_=>by simp at hl
 |e::es,n::l,i,hl,uK=>by
   obtain⟨k1,k2,k3⟩:=uK 0 e n rfl rfl;obtain⟨s1,s2⟩:=A8I hk hd k1 rv k2;cases hq:FT d e.1 with
   |true=>rw[hq]at s1;obtain⟨q1,q2⟩:=s2 hq;exact .inr ⟨0,e,n,rfl,rfl,by simp[Instr.findNow,s1],by simp[Y0,hq],by simp[Bz,hq],q1.symm,q2.symm⟩
   |false=>
     rw[hq]at s1;have ih:=mg hk hd rv val es l (i+1) (by simpa using hl) (λj e' n' h1 h2=>uK (j+1) e' n' (by simpa using h1) (by simpa using h2));have f1:Instr.findNow kd v (n::l) i=Instr.findNow kd v l (i+1):=by simp[Instr.findNow,s1]
     have f2:Y0 (e::es) d=Y0 es d:=by simp[Y0,hq]
     have f3:Bz (e::es) d val=e::Bz es d val:=by simp[Bz,hq]
     rcases ih with⟨g1,g2,g3⟩ | ⟨j,e',n',g1,g2,g3,g4,g5,g6,g7⟩
     ·exact .inl ⟨by rw[f1,g1],by rw[f2,g2],by rw[f3,g3];rfl⟩
     ·refine .inr ⟨j+1,e',n',by simpa using g1,by simpa using g2,by rw[f1,g3];congr 3;omega,by rw[f2,g4],by rw[f3,g5];rfl,g6,g7⟩
theorem run_checkKey{kt:TypeId}(hu:P.underlying kt=some kd)(hk:kd=.int .i64\/kd=.string)(b:Bool)(v:Value)(n:Nat)(w:World):(Instr.checkKey b (n+1) kt v).run P w=.ok () w:=by unfold Instr.checkKey;simp only[Sem.run_bind,run_underlying hu,Result.andThen_ok];rcases hk with rfl | rfl<;>rfl
section
variable {X:Type}{C:Ba}{R:O9}{o:Oper}{st:St}{k:St->Option X}{x:X}{E:Env}{a:Act}{w:World}{K:Act->World->Prop}{Q:Exit->Act->World->Prop}
def B1A{y v:Operand}{ok:Bool}(F7:o.op=.lookup t y v ok)(H:(ob (src C.P t st y) λr=>ob (src C.P 0 st v) λkey=>ob (mapKeys C.P t) λq=>
 ob (A0f C.P q.2) λze=>
  og (j4 q.1 key.1&&K6 key.2)
   (match r.2 with
     |.map i=>ob (R9 st.sg i) λp=>og (p.1==q.1)
       (if ok then k (st.put o.dst (.J8 [(Y0 p.2 key.1).getD ze,.bool (Y0 p.2 key.1).isSome]) .val)
       else k (st.put o.dst ((Y0 p.2 key.1).getD ze) .val))
     |_=>none))=some x)(Rl:K9 E st a w.heap)(T:Then E w k x K):Gp C.P o a w K:=by
 obtain⟨r,h1,H⟩:=D6 H;obtain⟨key,h2,H⟩:=D6 H;obtain⟨q,hq,H⟩:=D6 H;obtain⟨ze,Np,H⟩:=D6 H;obtain⟨hc,H⟩:=H6 H;simp only[zaq]at hc;obtain⟨ae,hkd⟩:=hc;have e1:=Rl.src h1;have e2:=(Rl.src h2).data hkd;split at H
 ·rename_i i hm;rw[hm]at e1;simp only[RR,L8]at e1;obtain⟨p,hp,H⟩:=D6 H;obtain⟨uO,H⟩:=H6 H;have uO:p.1=q.1:=by simpa using uO
  have hp:=A1E hp;rw[uO]at hp;obtain⟨ens,clk,b1,b2,⟨b3,b4⟩,-⟩:=Rl.U7 i _ hp;obtain⟨kt,hu,af⟩:=uY hq;unfold A0f at Np;obtain⟨inf,Ap,Np⟩:=D6 Np;obtain⟨zv,RF,Np⟩:=D6 Np;have hz0:RV E.S w.heap ze zv:=by
   split at Np
   ·obtain⟨ts,h1,Np⟩:=D6 Np;obtain⟨rs,h2,Np⟩:=D6 Np;obtain⟨hd,Np⟩:=H6 Np;simp only[D8]at Np;subst Np;exact A25 h2 hd
   ·obtain⟨zr,hzr,Np⟩:=D6 Np;obtain⟨hzd,Np⟩:=H6 Np;simp only[D8]at Np;rw[<- Np];exact(A0J (E:=E) (h:=w.heap) hzr 0 0).data hzd
  have iH:∃kd,C.P.underlying kt=some kd/\((q.1=false/\kd=.int .i64)\/(q.1=true/\kd=.string)):=by
   rcases af with⟨h3,h4⟩ | ⟨h3,h4⟩
   ·exact⟨_,h4,.inl ⟨h3,rfl⟩⟩
   ·exact⟨_,h4,.inr ⟨h3,rfl⟩⟩
  obtain⟨kd,hku,iH⟩:=iH;have F:=mg iH ae e2 .undef p.2 ens.toList 0 (by simpa using b3) (λj e n g1 g2=>b4 j e n g1 (by simpa using g2));have fin:∀(d:DV)(vv:Value)(bb:Bool),(Y0 p.2 key.1).getD ze=d->(Y0 p.2 key.1).isSome=bb->RV E.S w.heap d vv->(Instr.lookup t (a.eval y) (a.eval v) ok).run C.P w=.ok (if ok then .tuple #[vv,.bool bb]else vv) w->Gp C.P o a w K:=by
   intro d vv bb hd hb hR V3;rw[hd,hb]at H;have A41:(execOp a.eval o).run C.P w=.ok (.value (if ok then .tuple #[vv,.bool bb]else vv)) w:=by simp only[execOp,F7];exact CO V3
   cases ok with
   |true=>
     simp only[F5]at H A41;refine Ak A41 H Rl ?_ @T;simp only[RV];exact⟨_,rfl,Vv.2 ⟨by simp,λi d' v' g1 g2=>by
      match i with
      |0=>simp at g1 g2;subst g1 g2;exact hR
      |1=>simp at g1 g2;subst g1 g2;rw[Nt]
      |n+2=>simp at g1⟩⟩
   |false=>simp only[z7q,G8]at H A41;exact Ak A41 H Rl hR @T
  have hgo:(getObj (E.obj i)).run C.P w=.ok (.map ens clk) w:=by simp[getObj,Sem.run,b1]
  have A6y:kd=.int .i64\/kd=.string:=by rcases iH with h3 | h3<;>simp[h3.2]
  rcases F with⟨g1,g2,-⟩ | ⟨j,e,n,g0,g0',g1,g2,-,-,-⟩
  ·refine fin ze zv false (by rw[g2];rfl) (by rw[g2];rfl) hz0 ?_;unfold Instr.lookup;rw[e1.2];have B9C:(zeroValue q.2).run C.P w=.ok zv w:=by simp[zeroValue,typeInfo,Ap,RF]
   simp only[Sem.run_bind,run_underlying hu,Result.andThen_ok,hgo,Sem.run_pure,run_checkKey hku A6y,Instr.findKey,run_underlying hku,g1,B9C]
  ·obtain⟨-,-,rv⟩:=b4 j e n g0 (by simpa using g0');refine fin e.2 n.val true (by rw[g2];rfl) (by rw[g2];rfl) rv ?_;unfold Instr.lookup;rw[e1.2];simp only[Sem.run_bind,run_underlying hu,Result.andThen_ok,hgo,Sem.run_pure,run_checkKey hku A6y,Instr.findKey,run_underlying hku,g1]
 ·simp at H
def A1o{α : Type}(xs:Array α)(j i:Nat)(f : α -> α):(xs.modify j f)[i]?=if j=i then xs[i]?.map f else xs[i]?:=by rw[y4q]
variable {ens:Array MapEntry}{clk:Nat}
def fP.push(h:fP ens clk)(e:MapEntry)(he:e.born=clk):fP (ens.push e) (clk+1):=by
 refine⟨λj n hn=>?_,λi j m n hm hn hb=>?_⟩
 ·rw[zHq]at hn;split at hn
  ·simp only[D8]at hn;subst hn;omega
  ·have:=h.1 j n hn;omega
 ·rw[zHq]at hm hn;split at hm<;>split at hn
  ·omega
  ·simp only[D8]at hm;subst hm;have:=h.1 j n hn;omega
  ·simp only[D8]at hn;subst hn;have:=h.1 i m hm;omega
  ·exact h.2 i j m n hm hn hb
def fP.modify(h:fP ens clk)(j:Nat){f:MapEntry->MapEntry}(hf:∀e,(f e).born=e.born):fP (ens.modify j f) clk:=by
 have key:∀(i:Nat) n,(ens.modify j f)[i]?=some n->∃m,ens[i]?=some m/\m.born=n.born:=by
  intro i n hn;rw[A1o]at hn;split at hn
  ·cases hm:ens[i]? with
   |none=>rw[hm]at hn;cases hn
   |some m=>rw[hm]at hn;simp only[yjq,D8]at hn;subst hn;exact⟨m,rfl,(hf m).symm⟩
  ·exact⟨n,hn,rfl⟩
 refine⟨λi n hn=>?_,λi k m n hm hn hb=>?_⟩
 ·obtain⟨m,h1,h2⟩:=key i n hn;have:=h.1 i m h1;omega
 ·obtain⟨m',h1,h2⟩:=key i m hm;obtain⟨n',h3,h4⟩:=key k n hn;exact h.2 i k m' n' h1 h3 (by omega)
def A4H{y v u:Operand}(F7:o.op=.mapUpdate t y v u)(H:(ob (src C.P t st y) λr=>ob (src C.P 0 st v) λkey=>ob (src C.P 0 st u) λval=>ob (mapKeys C.P t) λq=>
 og (j4 q.1 key.1&&K6 key.2&&K6 val.2)
  (match r.2 with
    |.map i=>ob (R9 st.sg i) λp=>og (p.1==q.1) (k ({ st with sg:=st.sg.set i (.map q.1 (Bz p.2 key.1 val.1)) }.put o.dst (.J8 []) .val))
    |_=>none))=some x)(Rl:K9 E st a w.heap)(T:Then E w k x K):Gp C.P o a w K:=by
 obtain⟨r,h1,H⟩:=D6 H;obtain⟨key,h2,H⟩:=D6 H;obtain⟨val,h3,H⟩:=D6 H;obtain⟨q,hq,H⟩:=D6 H;obtain⟨hc,H⟩:=H6 H;simp only[zaq]at hc;obtain⟨⟨ae,hkd⟩,hvd⟩:=hc;have e1:=Rl.src h1;have e2:=(Rl.src h2).data hkd;have e3:=(Rl.src h3).data hvd;split at H
 ·rename_i i hm;rw[hm]at e1;simp only[RR,L8]at e1;obtain⟨p,hp,H⟩:=D6 H;obtain⟨uO,H⟩:=H6 H;have uO:p.1=q.1:=by simpa using uO
  have hp:=A1E hp;rw[uO]at hp;obtain⟨ens,clk,b1,b2,⟨b3,b4⟩,b5⟩:=Rl.U7 i _ hp;obtain⟨kt,hu,af⟩:=uY hq;have iH:∃kd,C.P.underlying kt=some kd/\((q.1=false/\kd=.int .i64)\/(q.1=true/\kd=.string)):=by
   rcases af with⟨h3,h4⟩ | ⟨h3,h4⟩
   ·exact⟨_,h4,.inl ⟨h3,rfl⟩⟩
   ·exact⟨_,h4,.inr ⟨h3,rfl⟩⟩
  obtain⟨kd,hku,iH⟩:=iH;have A6y:kd=.int .i64\/kd=.string:=by rcases iH with h3 | h3<;>simp[h3.2]
  have F:=mg iH ae e2 val.1 p.2 ens.toList 0 (by simpa using b3) (λj e n g1 g2=>b4 j e n g1 (by simpa using g2));have hgo:(getObj (E.obj i)).run C.P w=.ok (.map ens clk) w:=by simp[getObj,Sem.run,b1]
  have B4x:E.obj i<w.heap.size:=(zdq.1 b1).1;have IY:=(z0q.1 hp).1;have fin:∀(ens':Array MapEntry)(clk':Nat),B7C E.S w.heap q.1 (Bz p.2 key.1 val.1) ens'->fP ens' clk'->(Instr.mapUpdate t (a.eval y) (a.eval v) (a.eval u)).run C.P w=.ok () { w with heap:=w.heap.setIfInBounds (E.obj i) (.map ens' clk') }->Gp C.P o a w K:=by
   intro ens' clk' hR hB V3;have B0S:(w.heap.setIfInBounds (E.obj i) (.map ens' clk'))[E.obj i]?=some (.map ens' clk'):=ziq B4x;have hold:∀b,b≠E.obj i->(w.heap.setIfInBounds (E.obj i) (.map ens' clk'))[b]?=w.heap[b]?:=λb hb=>zjq (Ne.symm hb);have P1:Pr (λt=>t=.obj i) E w.heap E (w.heap.setIfInBounds (E.obj i) (.map ens' clk')):=by
    refine⟨by simp,λb hb=>?_,λ_ _ _ _=>rfl,zbq _,λ_ _ _=>⟨rfl,rfl,rfl⟩,λ_ _=>rfl,D_ rfl⟩;by_cases Uq:b=E.obj i
    ·subst Uq;rw[b1];intro h0;exact absurd (b2 0) h0
    ·rw[hold b Uq];exact X3.refl _ _
   have hs:=P1.Q6 (by simp) Rl.fresh;have R1:K9 E { st with sg:=st.sg.set i (.map q.1 (Bz p.2 key.1 val.1)) } a (w.heap.setIfInBounds (E.obj i) (.map ens' clk')):=by
    refine⟨Rl.size,Rl.Ac,Rl.CY,by simpa using Rl.n,λt v hv=>(Rl.Bi t v hv).mono P1 hs (by simp) (by simp),λs' cs' EM=>(Rl.Z7 s' cs' EM).mono P1 hs (by simp) (by simp),λi' ob hi=>?_,λb o' Mr=>Rl.fresh b o' (by simpa using Mr)⟩;by_cases Cf:i=i'
    ·subst Cf;simp only[z2q IY,D8]at hi;subst hi;refine⟨ens',clk',B0S,b2,⟨hR.1,λj e n g1 g2=>?_⟩,hB⟩;obtain⟨c1,c2,c3⟩:=hR.2 j e n g1 g2;exact⟨c1,c2.mono hs,c3.mono hs⟩
    ·simp only[z1q Cf]at hi;exact(Rl.U7 i' ob hi).mono P1 hs (CK Rl hi) (by simp;exact λh=>Cf h.symm) (by simp)
   refine Nb (w':={ w with heap:=w.heap.setIfInBounds (E.obj i) (.map ens' clk') }) ?_ (T E _ _ { w with heap:=w.heap.setIfInBounds (E.obj i) (.map ens' clk') } H (R1.put λt0 _=>?_) (P1.Z9 (by rintro T rfl;simp[P9])))
   ·simp only[execOp,F7]
    exact B54 V3
   ·simp only[RR,L8,RV]
    exact⟨#[],rfl,by simp[RY]⟩
  have B8k:∀(ens':Array MapEntry)(clk':Nat),(setObj (E.obj i) (.map ens' clk')).run C.P w=.ok () { w with heap:=w.heap.setIfInBounds (E.obj i) (.map ens' clk') }:=by intro ens' clk';simp[setObj,Sem.run,b1]
  rcases F with⟨g1,g2,g3⟩ | ⟨j,e,n,g0,g0',g1,g2,g3,g4,g5⟩
  ·refine fin (ens.push { key:=a.eval v,val:=a.eval u,born:=clk }) (clk+1) ?_ (b5.push _ rfl) ?_
   ·rw[g3];refine⟨by simp[b3],λj e n h1 h2=>?_⟩;by_cases hj:j<p.2.length
    ·rw[z4q hj]at h1;rw[zHq,A7 (by omega)]at h2;exact b4 j e n h1 h2
    ·have hj1:j=p.2.length:=by have:=(z0q.1 h1).1;simp at this;omega
     subst hj1;rw[z6q (zbq _)]at h1;simp only[y0q,zgq,D8]at h1;rw[zHq,C9 b3]at h2;simp only[D8]at h2;subst h1 h2;exact⟨ae,e2,e3⟩
   ·unfold Instr.mapUpdate;rw[e1.2];simp only[Sem.run_bind,run_underlying hu,Result.andThen_ok,hgo,run_checkKey hku A6y,Instr.findKey,run_underlying hku,g1,Sem.run_pure];exact B8k _ _
  ·have aa:j<ens.size:=by have:=(z0q.1 g0').1;simpa using this
   have hn:ens[j]?=some n:=by simpa using g0'
   refine fin (ens.modify j λe=>{ e with key:=a.eval v,val:=a.eval u }) clk ?_ (b5.modify j λ_=>rfl) ?_
   ·rw[g3];refine⟨by simp[b3],λj' e' n' h1 h2=>?_⟩;rw[A1o]at h2;by_cases hjj:j=j'
    ·subst hjj;rw[C9 rfl,hn]at h2;simp only[yjq,D8]at h2;rw[z2q (z0q.1 g0).1]at h1;simp only[D8]at h1;subst h1 h2;exact⟨by rw[g5];exact ae,by rw[g5];exact e2,e3⟩
    ·rw[A7 hjj]at h2;rw[z1q hjj]at h1;exact b4 j' e' n' h1 h2
   ·unfold Instr.mapUpdate;rw[e1.2];have B9B:(Instr.keyThatStays n.key (a.eval v)).run C.P w=.ok (a.eval v) w:=by
     unfold Instr.keyThatStays;have:Instr.sameBits 10000 n.key (a.eval v)=true:=by
      rw[g4];rcases iH with⟨h3,-⟩ | ⟨h3,-⟩
      ·rw[h3]at ae;cases hk1:key.1<;>rw[hk1]at ae e2<;>simp only[j4,z7q,ydq,zVq]at ae;rw[CQ]at e2;rw[e2];simp[Instr.sameBits]
      ·rw[h3]at ae;cases hk1:key.1<;>rw[hk1]at ae e2<;>simp only[j4,z7q,yiq,yeq]at ae;rw[XR]at e2;rw[e2];simp only[Instr.sameBits];rw[beq_toListBytes];simp
     rw[C9 this];rfl
    simp only[Sem.run_bind,run_underlying hu,Result.andThen_ok,hgo,run_checkKey hku A6y,Instr.findKey,run_underlying hku,g1,Sem.run_pure,zfq,hn,yjq,zsq,B9B];exact B8k _ _
 ·simp at H
def K9.pI(Rl:K9 E st a w.heap){t i:Nat}{ms:List F4}(hm:(st.get t).2=.Cj ms)(ah:ms[i]?=some .own)(P8:t<st.mt.length){f:Tag->Tag}(hf:∀T,T ≠ .sp 0 t (i+1)->f T=T):
 K9 (E.re f) { st with mt:=st.mt.set t (.Cj (ms.set i .val)) } a w.heap:=by
 have Gw:f .Q6=.Q6:=hf _ (by simp);have Pi:f .other=.other:=hf _ (by simp);have P:Pr (λT=>T=.sp 0 t (i+1)) E w.heap (E.re f) w.heap:=Pr.re λT hT=>hf T hT;have J5:AC E.S w.heap (E.re f).S w.heap:=LA Gw;refine⟨Rl.size,by simpa using Rl.Ac,Rl.CY,Rl.n,λu v hu=>?_,λs cs hs=>(Rl.Z7 s cs hs).mono P J5 (by simp) (by simp),λj ob hj=>(Rl.U7 j ob hj).mono P J5 (CK Rl hj) (by simp) (by simp),λb o hb=>?_⟩
 ·have h0:=Rl.Bi u v hu;by_cases hut:t=u
  ·subst hut;have hg:St.get { st with mt:=st.mt.set t (.Cj (ms.set i .val)) } t=((st.get t).1,.Cj (ms.set i .val)):=by simp[St.get,z3q,z2q P8]
   rw[hg];rw[hm]at h0;simp only[RR]at h0 ⊢;obtain⟨ds,vs,h1,h2,h3,h4,h5⟩:=h0;refine⟨ds,vs,h1,h2,by simpa using h3,by simpa using h4,λj m' d' u' e1 e2 e3=>?_⟩;by_cases hj:i=j
   ·subst hj;have hil:i<ms.length:=by have:=(z0q.1 e1).1;simpa using this
    rw[z2q hil]at e1;simp only[D8]at e1;subst e1;obtain⟨a0,a4⟩:=h5 i _ d' u' ah e2 e3;exact⟨rfl,RV.mono J5 _ a4.1⟩
   ·rw[z1q hj]at e1;obtain⟨a0,a4⟩:=h5 j m' d' u' e1 e2 e3;exact⟨a0,a4.re Gw (hf _ (by simp;exact λh=>hj h.symm))⟩
  ·have hg:St.get { st with mt:=st.mt.set t (.Cj (ms.set i .val)) } u=st.get u:=by simp[St.get,z3q,z1q hut]
   rw[hg];exact h0.re Gw Pi λb=>hf _ (by simp;intro h;exact absurd h.symm hut)
 ·simp only[Env.re];rw[Rl.fresh b o hb,Pi]
def A8L{fl:H8}{y:Operand}{i:Nat}(F7:o.op=.extract y i)(H:(ob (src C.P 0 st y) λr=>
 match r.2 with
 |.val=>ob (Q4 i r.1) λd=>k (st.put o.dst d .val)
 |.Cj ms=>ob (Q4 i r.1) λd=>
   match ms.getD i .val with
   |.own=>if I9 fl.Q3 o.dst then k ((st.pI y (.Cj (ms.set i .val))).put o.dst d .own)else k (st.put o.dst d .val)
   |.val=>k (st.put o.dst d .val)
   |_=>none
 |_=>none)=some x)(Rl:K9 E st a w.heap)(T:Then E w k x K):Gp C.P o a w K:=by
 obtain⟨r,h1,H⟩:=D6 H;split at H
 ·rename_i hm;obtain⟨d,hd,H⟩:=D6 H;exact B65 F7 h1 hm hd rfl H Rl @T
 ·rename_i ms hm;obtain⟨d,hd,H⟩:=D6 H;have e1:=Rl.src h1;rw[hm]at e1;simp only[RR]at e1;obtain⟨ds,vs,hr,hv,l1,l2,l3⟩:=e1;obtain⟨cs,Ab,hdi⟩:=A3f hd;rw[hr]at Ab;simp only[DV.J8.injEq]at Ab;subst Ab;have hi:i<ds.length:=(z0q.1 hdi).1;have hmi:ms[i]?=some (ms.getD i .val):=by simp[z3q,z5q (by omega:i<ms.length)]
  have hvi:vs[i]?=some (vs[i]'(by omega)):=zEq (by omega);obtain⟨a0,a4⟩:=l3 i _ d _ hmi hdi hvi;have V3:(execOp a.eval o).run C.P w=.ok (.value (vs[i]'(by omega))) w:=by simp only[execOp,F7];refine CO ?_;simp only[Instr.extract,hv,hvi,Sem.run_pure]
  split at H
  ·rename_i hmo;rw[hmo]at a4;by_cases Q9:I9 fl.Q3 o.dst=true
   ·rw[C9 Q9]at H;have H2:=H;clear H;have hy:∃t,y=.tmp t:=by
     cases y with
     |tmp t=>exact⟨t,rfl⟩
     |const v=>exact absurd hm (λh=>(dI h1).2 ms h)
     |func f=>simp only[src,D8]at h1;subst h1;simp at hm
     |global g=>simp[src]at h1
    obtain⟨t,rfl⟩:=hy;simp only[src,D8]at h1;subst h1;simp only[fA]at a4;cases EL:o.dst with
    |none=>rw[EL]at Q9;simp[I9]at Q9
    |some t0=>
      rw[EL]at H2;refine A_ V3 ?_;rw[EL];have htl:t<st.mt.length:=by
       rcases zuq t st.mt.length with h1 | h1
       ·exact h1
       ·rw[Xl (by rw[<- Rl.Ac];exact h1) Rl.Ac]at hm;simp at hm
      refine T (E.re (Qd (.sp 0 t (i+1)) t0)) _ _ w H2 ((Rl.pI hm (by rw[hmi,hmo]) htl λT hT=>I_ hT).put λt1 ht=>?_) (Pr.re λT hT=>I_ λhe=>hT (by rw[he];simp[P9]));simp only[D8]at ht;subst ht;exact RR.AJ (a4.re (I_ (by simp)) (by simp[Qd]))
   ·rw[A7 Q9]at H;exact Ak V3 H Rl a4.1 @T
  ·rename_i hmo;rw[hmo]at a4;exact Ak V3 H Rl a4 @T
  ·simp at H
 ·simp at H
end
end Go.Su

/-
 THE DATA MACHINE, part 16: append.
-/
namespace Go.Su
set_option linter.defProp false
def Ia(S:AU)(h:Heap)(sz:Nat)(ds:List DV)(all:List Value):Prop :=all.length=ds.length * sz/\∀(i:Nat) d,ds[i]?=some d->∃vs:List Value,vs.length=sz/\(∀(j:Nat) u,vs[j]?=some u->all[i * sz+j]?=some u)/\RC S h d vs
variable {S:AU}{h:Heap}{sz:Nat}{ds:List DV}{all:List Value}
def Ia.mono{S':AU}{h':Heap}(J5:AC S h S' h')(H:Ia S h sz ds all):Ia S' h' sz ds all :=⟨H.1,λi d hd=>let⟨vs,v1,v2,v3⟩:=H.2 i d hd;⟨vs,v1,v2,v3.mono J5⟩⟩
def qK{S:AU}{h:Heap}{sz b:Nat}:∀{ds:List DV}{o:Nat},Em S h sz b o ds->∃all,Ia S h sz ds all/\∀(j:Nat) u,all[j]?=some u->hc h b (o+j)=some u/\S b (o+j)
 |[],o,_=>⟨[],⟨by simp,by simp⟩,by simp⟩
 |d::ds,o,H=>by
   simp only[Em]at H;obtain⟨⟨vs,v1,v2,v3⟩,H⟩:=H;obtain⟨all,⟨l1,l2⟩,l3⟩:=qK H;refine⟨vs++all,⟨by simp[l1,v1,zAq];omega,λi d' hd=>?_⟩,λj u hu=>?_⟩
   ·cases i with
    |zero=>simp only[zgq,D8]at hd;subst hd;refine⟨vs,v1,λj u hu=>?_,v3⟩;rw[zKq,zfq,z4q (z0q.1 hu).1];exact hu
    |succ i=>simp only[zrq]at hd;obtain⟨us,u1,u2,u3⟩:=l2 i d' hd;refine⟨us,u1,λj u hu=>?_,u3⟩;rw[z6q (by rw[v1,zAq];omega),v1];rw[show(i+1) * sz+j-sz=i * sz+j from by rw[zAq];omega];exact u2 j u hu
   ·by_cases hj:j<vs.length
    ·rw[z4q hj]at hu;exact v2 j u hu
    ·rw[z6q (by omega)]at hu;have:=l3 _ u hu
     rwa [show o+sz+(j-vs.length)=o+j from by omega]at this
def SQ{b o:Nat}(H:Ia S h sz ds all)(hc:∀(j:Nat) u,all[j]?=some u->Su.hc h b (o+j)=some u/\S b (o+j)):Em S h sz b o ds:=by
 refine EW.2 λi d hd=>?_;obtain⟨vs,v1,v2,v3⟩:=H.2 i d hd;refine⟨vs,v1,λj u hu=>?_,v3⟩;have:=hc _ u (v2 j u hu)
 rwa [<- zQq]at this
def Ia.append{es:List DV}{A B:List Value}(H:Ia S h sz ds A)(G:Ia S h sz es B):Ia S h sz (ds++es) (A++B):=by
 refine⟨by simp[H.1,G.1,zqq],λi d hd=>?_⟩;by_cases hi:i<ds.length
 ·rw[z4q hi]at hd;obtain⟨vs,v1,v2,v3⟩:=H.2 i d hd;refine⟨vs,v1,λj u hu=>?_,v3⟩;have hj:j<sz:=by have:=(z0q.1 hu).1;omega
  have:=seg_lt hi hj;rw[z4q (by rw[H.1];exact this)];exact v2 j u hu
 ·rw[z6q (by omega)]at hd;obtain⟨vs,v1,v2,v3⟩:=G.2 _ d hd;refine⟨vs,v1,λj u hu=>?_,v3⟩;have e:i * sz+j=ds.length * sz+((i-ds.length) * sz+j):=by rw[<- zQq,<- zqq];congr 2;omega
  rw[e,<- H.1,z6q (by omega),Nat.add_sub_cancel_left];exact v2 j u hu
def Ia.one(hs:0<sz)(H:Ia S h sz ds all):∀u∈all,u.oneCell'=true:=by
 intro u hu;obtain⟨j,hj,uN⟩:=ztq.1 hu;have P8:j<ds.length * sz:=by rw[<- H.1];exact hj
 have hi:j / sz<ds.length:=(Nat.div_lt_iff_lt_mul hs).2 P8;obtain⟨vs,v1,v2,v3⟩:=H.2 (j / sz) _ (z5q hi);have hm:j % sz<vs.length:=by rw[v1];exact Nat.mod_lt _ hs
 have h1:=v2 (j % sz) _ (z5q hm);rw[Nat.mul_comm,Nat.div_add_mod,z5q hj,uN]at h1;simp only[D8]at h1;obtain⟨q1,q2⟩:=Ns v3 (z5q hm);rw[h1];exact Jg q1 q2
def A3s(n:Nat):∀(r c:Nat),c<n+1->Builtin.growBy n r c<=2 * n+192
 |0,c,h=>by simp[Builtin.growBy];omega
 |r+1,c,h=>by
   simp only[Builtin.growBy]
   split
   ·omega
   ·rename_i P8;by_cases h2:c+(c+768) / 4<n+1
    ·exact A3s n r _ h2
    ·cases r with
     |zero=>simp only[Builtin.growBy];omega
     |succ r=>simp only[Builtin.growBy];rw[C9 (by omega)];omega
def B1a{need old:Nat}(h:old<need):Builtin.nextslicecap need old<=2 * need+192:=by
 unfold Builtin.nextslicecap;split
 ·omega
 ·split
  ·omega
  ·exact A3s need 4 old (by omega)
variable {P:Program}
def UN{t u:TypeId}(h:ve P t u=some sz):∃e e' z i zv,P.underlying t=some (.slice e)/\P.underlying u=some (.slice e')/\tz P e=some z/\z.1=sz/\0<sz/\P.info? e=some i/\i.bytes<=2 ^ 14/\i.zero=some zv/\zv.cells.size=sz:=by
 unfold ve at h;obtain⟨e,he,h⟩:=D6 h;obtain⟨e',he',h⟩:=D6 h;obtain⟨z,hz,h⟩:=D6 h;obtain⟨i,hi,h⟩:=D6 h;obtain⟨zs,Vn,h⟩:=D6 h;obtain⟨⟨h1,h2,h3⟩,h⟩:=L9 h;simp only[D8]at h;have ht:∀{t e:TypeId},Iq P t=some e->P.underlying t=some (.slice e):=by
  intro t e he;unfold Iq at he;split at he
  ·simp only[D8]at he;subst he;assumption
  ·simp at he
 obtain⟨inf,zv,Ap,RF,Ao⟩:=XB Vn;rw[hi]at Ap;simp only[D8]at Ap;subst Ap;have:=(Ao ⟨λ_=>0,λ_=>0,λ_=>0,λ_=>0,λ_ _=>.other,0,λ_=>0⟩ #[]).1;simp only[yfq]at this;exact⟨e,e',z,i,zv,ht he,ht he',hz,h,by omega,hi,h2,RF,by omega⟩
def B2g{d e r:DV}(h:Di sz d e=some r):∃ds es,d=.list sz ds/\e=.list sz es/\ds.length+es.length<=Q8/\r=.list sz (ds++es):=by
 unfold Di at h;split at h
 ·obtain⟨⟨⟨h1,h2⟩,h3⟩,h⟩:=L9 h;simp only[D8]at h;subst h1 h2;exact⟨_,_,rfl,rfl,h3,h.symm⟩
 ·simp at h
def B6Y(st:St)(t:Nat)(d d':DV)(m m':F4):(st.put (some t) d m).put (some t) d' m'=st.put (some t) d' m':=by simp[St.put,ynq]
def xg(a:Act)(t:Nat)(v v':Value):(a.put (some t) v).put (some t) v'=a.put (some t) v':=by
 have:(a.tmps.setIfInBounds t v).setIfInBounds t v'=a.tmps.setIfInBounds t v':=by
  apply Array.ext_getElem?;intro i;by_cases h:t=i
  ·subst h;by_cases hl:t<a.tmps.size
   ·rw[ziq (by simpa using hl),ziq hl]
   ·rw[y1q (by simpa using hl),y1q (by simpa using hl)]
  ·rw[zjq h,zjq h,zjq h]
 simp[Act.put,this]
section
variable {P:Program}{t u ty e e':TypeId}{inf:TypeInfo}{w:World}{b:Option Addr}{len cap n sz:Nat}{v:Value}{all':List Value}
theorem yQ(b:Option Addr)(n c:Nat):Builtin.lenOf (.slice b n c)=pure n:=rfl
def A1A(hu:P.underlying t=some (.slice e))(CR:P.underlying u=some (.slice e'))(Ap:P.info? e=some inf)(hn:Builtin.lenOf v=pure n)(hv:(Builtin.firstCells inf.size n v).run P w=.ok all'.toArray w)(BQ:len+n<=cap):(Builtin.append_ #[t,u] ty #[.slice none len cap,v]).run P w=.ok (.slice none (len+n) cap) w:=by unfold Builtin.append_;simp[run_underlying hu,run_underlying CR,sizeOf,typeInfo,Ap,hn,BQ,hv]
def IP{y:Addr}{w':World}(hu:P.underlying t=some (.slice e))(CR:P.underlying u=some (.slice e'))(Ap:P.info? e=some inf)(hn:Builtin.lenOf v=pure n)(hv:(Builtin.firstCells inf.size n v).run P w=.ok all'.toArray w)(BQ:len+n<=cap)(Q9:(storeCells (y.add (len * inf.size)) all').run P w=.ok () w'):(Builtin.append_ #[t,u] ty #[.slice (some y) len cap,v]).run P w=.ok (.slice (some y) (len+n) cap) w':=by unfold Builtin.append_;simp[run_underlying hu,run_underlying CR,sizeOf,typeInfo,Ap,hn,BQ,hv,Q9]
def run_append_grow{zv:Value}(hu:P.underlying t=some (.slice e))(CR:P.underlying u=some (.slice e'))(Ap:P.info? e=some inf)(hn:Builtin.lenOf v=pure n)(hv:∀w':World,w'.heap=w.heap->(Builtin.firstCells inf.size n v).run P w'=.ok all'.toArray w')(hs:∀w':World,w'.heap=w.heap->(Builtin.firstCells inf.size len (.slice b len cap)).run P w'=.ok all.toArray w')(RF:inf.zero=some zv)(BQ:¬len+n<=cap)(B2E:len+n<=4294967296)(hb:inf.bytes<=2 ^ 14):
 ∃nc,len+n<=nc/\(Builtin.append_ #[t,u] ty #[.slice b len cap,v]).run P w=.ok (.slice (some ⟨w.heap.size,0,none⟩) (len+n) nc) (w.drew.alloc (.cells (all++all'++(Builtin.zeroCells zv.cells (nc-(len+n))).toList).toArray e)):=by
 refine⟨(Question.appendCap (len+n) cap e).cut (w.tape w.drawn (Question.appendCap (len+n) cap e)),by simp only[Question.cut];omega,?_⟩;have A2r:Builtin.nextslicecap (len+n) cap * inf.bytes<=2 ^ 48:=by
  have h1:=B1a (need:=len+n) (old:=cap) (by omega)
  calc Builtin.nextslicecap (len+n) cap * inf.bytes<=(2 * 4294967296+192) * 2 ^ 14:=Nat.mul_le_mul (by omega) hb
   _<=2 ^ 48:=by decide
 have C0X:¬(((len+n:Nat):Int)>IntKind.i64.max):=by rw[IntKind.max_i64];omega
 have B9t:¬(Builtin.nextslicecap (len+n) cap * inf.bytes>2 ^ 48):=by omega
 have q1:=hs w.drew rfl;have q2:=hv w.drew rfl;unfold Builtin.append_;have B9x:¬((9223372036854775807:Int)<(len:Int)+(n:Int)):=by omega
 simp[run_underlying hu,run_underlying CR,sizeOf,typeInfo,Ap,hn,BQ,B9x,B9t,Question.forced,q1,q2,zeroValue,RF,newRow];refine congrArg (λz=>w.drew.alloc (.cells z e)) (Array.toList_inj.1 ?_);simp
end
section
variable {X:Type}{C:Ba}{R:O9}{o:Oper}{st:St}{k:St->Option X}{x:X}{E:Env}{a:Act}{w:World}{K:Act->World->Prop}{Q:Exit->Act->World->Prop}
def WO{b o':Nat}(H:∀(j:Nat) u,all[j]?=some u->hc w.heap b (o'+j)=some u):(loadCells ⟨b,o',none⟩ all.length).run P w=.ok all.toArray w:=by refine run_loadCells_list w _ all λj v hv=>?_;rw[Addr.add_lit,ME];exact H j v hv
theorem Kk{v:Value}(H:RV S w.heap (.list sz ds) v):∃b len cap all,v=.slice b len cap/\len=ds.length/\len<=cap/\(b=none->cap=0)/\Ia S w.heap sz ds all /\
 (∀y,b=some y->(0<cap->y=⟨y.block,y.off,none⟩)/\∀(j:Nat) u,all[j]?=some u->hc w.heap y.block (y.off+j)=some u/\S y.block (y.off+j))/\(b=none->all=[]) /\
 ∀w':World,w'.heap=w.heap->(Builtin.firstCells sz len v).run P w'=.ok all.toArray w':=by
 obtain⟨b,len,cap,rfl,h1,h2,h3,h4,h5⟩:=KM H;cases b with
 |none=>have h0:=h3 rfl;have Yg:ds=[]:=zhq (by omega);subst Yg;exact⟨none,len,cap,[],rfl,h1,h2,h3,⟨by simp,by simp⟩,by simp,λ_=>rfl,λw' _=>rfl⟩
 |some y=>
   obtain⟨s1,s2⟩:=h5 y rfl;obtain⟨all,f1,f2⟩:=qK s2;have hy:0<cap->y=⟨y.block,y.off,none⟩:=λhc=>by have s1:=s1 hc;cases y;simp only at s1;subst s1;rfl
   refine⟨some y,len,cap,all,rfl,h1,h2,h3,f1,λz hz=>?_,by simp,λw' hw=>?_⟩
   ·simp only[D8]at hz;subst hz;exact⟨hy,f2⟩
   ·have hl:len * sz=all.length:=by rw[f1.1,h1]
    show(loadCells y (len * sz)).run P w'=_;by_cases hc:0<cap
    ·rw[hl,hy hc];exact WO (λj u hu=>by rw[hw];exact(f2 j u hu).1)
    ·have h0:len=0:=by omega
     have h9:all=[]:=zhq (by rw[<- hl,h0];simp);rw[h9,h0,zKq];rfl
def Env.WW(E:Env)(b lo hi:Nat):Env:={ E with O:=λb' o=>if b'=b/\lo<=o/\o<hi then .Q6 else E.O b' o }
def Env.newRow(E:Env)(b lo hi:Nat)(tg:Tag):Env:={ E with O:=λb' o=>if b'=b then(if o<lo then .Q6 else if o<hi then tg else .other)else E.O b' o }
def B1y{fl:H8}{c:Call}{y v:Operand}{t u:TypeId}(F7:o.op=.call c)(zP:c.callee=.builtin .append)(ha:c.args.toList=[y,v])(ht:c.argTypes.toList=[t,u])(d_:I9 fl.opn o.dst=false)(Ph:I9 fl.OO o.dst=false)(Ot:I9 fl.Dl o.dst=false)(H:Dx C fl o y v t u st k=some x)(Rl:K9 E st a w.heap)(T:Then E w k x K):Gp C.P o a w K:=by
 unfold Dx at H;rw[A7 (by rw[Ph];simp),A7 (by rw[Ot];simp)]at H;obtain⟨r,h1,H⟩:=D6 H;obtain⟨s,h2,H⟩:=D6 H;obtain⟨sz,Ca,H⟩:=D6 H;obtain⟨hc,H⟩:=H6 H;rw[A7 (by rw[d_];simp)]at H;obtain⟨d,hd,H⟩:=D6 H;simp only[zaq]at hc;obtain⟨⟨NH,Us⟩,EL⟩:=hc;obtain⟨t0,EL⟩:=zwq.1 EL;obtain⟨e,e',z,inf,zv,hu,CR,hz,Hg,hpos,Ap,Ur,RF,Vn⟩:=UN Ca;obtain⟨ds,es,hr,hs,YK,rfl⟩:=B2g hd;have e1:=Rl.src h1;have e2:=(Rl.src h2).data Us;have e1d:RV E.S w.heap r.1 (a.eval y):=e1.data (by revert NH;cases r.2<;>simp[MR,K6]);rw[hr]at e1d;rw[hs]at e2;obtain⟨b,len,cap,all,ev,f1,f2,f3,f4,f5,f6,f7⟩:=Kk (P:=C.P) e1d;obtain⟨b',len',cap',all',ev',g1,g2,g3,g4,g5,g6,g7⟩:=Kk (P:=C.P) e2;have Cz:inf.size=sz:=by obtain⟨i',d',q1,-,q2,-⟩:=IU hz;rw[Ap]at q1;simp only[D8]at q1;rw[<- Hg,q2,q1]
 have V3:∀v' w',(Builtin.append_ #[t,u] o.type #[a.eval y,a.eval v]).run C.P w=.ok v' w'->(execOp a.eval o).run C.P w=.ok (.value v') w':=by intro v' w' hv;refine Hd F7 zP ?_;rw[Nu ht,show c.args.map a.eval=#[a.eval y,a.eval v]from by rw[Nu ha];simp];exact CO hv
 rw[EL]at H;have MQ:Builtin.lenOf (a.eval v)=pure len':=by rw[ev'];rfl
 have B2E:ds.length+es.length<=4294967296:=YK;have nR:=g4.one hpos;by_cases BQ:len+len'<=cap
 ·-- it fits: the slice's own memory is written
  have R0:=Rl.release (x:=y) (f:=Ck y 0 t0 0) λT hT=>Gl hT;have P0:Pr P9 E w.heap (E.re (Ck y 0 t0 0)) w.heap:=Pr.re λT hT=>Gl λt b _ he=>hT (by rw[he];simp[P9]);have nQ:AC E.S w.heap (E.re (Ck y 0 t0 0)).S w.heap:=LA (Gl (by simp));have hsp:∀p,b=some p->len<cap->∃cc TT f,w.heap[p.block]?=some (.cells cc TT f)/\p.off+cap * sz<=cc.size /\
   ∀o',p.off+len * sz<=o'->o'<p.off+cap * sz->(E.re (Ck y 0 t0 0)).O p.block o'=.sp 0 t0 0/\¬(f.1<=o'/\o'<f.2):=by
   intro p hp P8;subst hp;have ah:r.2=.own:=by
    revert NH e1;cases r.2<;>intro NH e1<;>simp only[MR,z7q]at NH
    ·simp only[RR,L8]at e1;obtain⟨-,⟨q,n,hq⟩,-⟩:=e1;rw[ev]at hq;simp only[Value.slice.injEq]at hq;omega
    ·rfl
   rw[ah]at e1;simp only[RR,L8]at e1;obtain⟨-,sz',ds',hl,hS⟩:=e1;rw[hr]at hl;simp only[DV.list.injEq]at hl;obtain⟨cc,TT,f,c1,c2,c3⟩:=hS p len cap ev P8;rw[<- hl.1]at c2 c3;refine⟨cc,TT,f,c1,c2,λo' h3 h4=>?_⟩;obtain⟨c4,c5⟩:=c3 o' h3 h4;refine⟨?_,c5⟩;have hy:∃i,y=.tmp i:=by
    cases y with
    |tmp i=>exact⟨i,rfl⟩
    |const v=>exact absurd ah (dI h1).1
    |func f=>simp only[src,D8]at h1;subst h1;simp at ah
    |global g=>simp[src]at h1
   obtain⟨i,rfl⟩:=hy;simp only[Env.re];rw[c4];simp[Ck,fA]
  by_cases hn:len'=0
  ·-- nothing is appended
   have hes:es=[]:=zhq (by omega);have B9q:all'=[]:=zhq (by rw[g4.1,hes];simp);have Ab:(Builtin.append_ #[t,u] o.type #[a.eval y,a.eval v]).run C.P w=.ok (.slice b (len+len') cap) w:=by
    rw[ev];cases b with
    |none=>exact A1A hu CR Ap MQ (by rw[Cz];exact g7 w rfl) BQ
    |some p=>exact IP hu CR Ap MQ (by rw[Cz];exact g7 w rfl) BQ (by rw[B9q];rfl)
   refine A_ (V3 _ _ Ab) (T _ _ _ w H ?_ P0);rw[EL];refine R0.put λt1 eG=>?_;simp only[D8]at eG;subst eG;rw[hes,zWq,hn,zBq,<- ev];refine RR.AJ ⟨e1d.mono nQ,_,_,rfl,λp len1 cap1 hq P8=>?_⟩;rw[ev]at hq;simp only[Value.slice.injEq]at hq;obtain⟨rfl,rfl,rfl⟩:=hq;exact hsp p rfl P8
  ·-- the cells behind are written, and sealed
   cases b with
   |none=>have:=f3 rfl;omega
   |some p=>
     obtain⟨hp,-⟩:=f5 p rfl;have hp:=hp (by omega);obtain⟨cc,TT,f,c1,c2,c3⟩:=hsp p rfl (by omega);have B9w:all'.length=len' * sz:=by rw[g4.1,g1]
     have hmul:(len+len') * sz<=cap * sz:=z9q _ BQ;have wH:(len+len') * sz=len * sz+len' * sz:=zqq _ _ _;have B9A:0<len' * sz:=y8q (by omega) hpos;obtain⟨w',hw,S⟩:=Jb (P:=C.P) (b:=p.block) (T:=TT) (f:=f) (p.off+len * sz) all' cc 0 w c1 (by omega) nR (λo' h3 h4=>(c3 o' (by omega) (by omega)).2);have Ab:(Builtin.append_ #[t,u] o.type #[a.eval y,a.eval v]).run C.P w=.ok (.slice (some p) (len+len') cap) w':=by rw[ev];refine IP hu CR Ap MQ (by rw[Cz];exact g7 w rfl) BQ ?_;rw[Cz,hp,Addr.add_lit];exact hw
     simp only[zBq]at S;have R1:K9 (E.re (Ck y 0 t0 0)) ((st.release y).put (some t0) .undef .val) (a.put (some t0) (.slice (some p) (len+len') cap)) w.heap:=R0.put λt1 _=>by simp only[RR,L8,RV]
     have PS:Pr (λT=>T=.sp 0 t0 0) (E.re (Ck y 0 t0 0)) w.heap ((E.re (Ck y 0 t0 0)).WW p.block (p.off+len * sz) (p.off+len * sz+len' * sz)) w'.heap:=by
      refine⟨zJq S.size.symm,λb1 Ko=>?_,λb1 o1 Ko hT=>?_,zbq _,λ_ _ _=>⟨rfl,rfl,rfl⟩,λ_ _=>rfl,D_ rfl⟩
      ·by_cases Uq:b1=p.block
       ·subst Uq;rw[c1];obtain⟨c',q1,q2,q3⟩:=S.ex;refine⟨c',q1,q2,λj hj=>?_⟩;rw[q3 j,A7];rintro⟨q4,q5⟩;exact hj (c3 j q4 (by omega)).1
       ·rw[S.rest b1 Uq];exact X3.refl _ _
      ·simp only[Env.WW]
       rw[A7];rintro⟨rfl,q4,q5⟩;exact hT (c3 o1 q4 (by omega)).1
     have CL:=PS.Q6 (by simp) R1.fresh;have R2:K9 ((E.re (Ck y 0 t0 0)).WW p.block (p.off+len * sz) (p.off+len * sz+len' * sz)) ((st.release y).put (some t0) .undef .val) (a.put (some t0) (.slice (some p) (len+len') cap)) w'.heap:=by
      refine⟨R1.size,R1.Ac,R1.CY,R1.n,λq vq hq=>?_,λs' cs' EM=>(R1.Z7 s' cs' EM).mono PS CL (by simp) (by simp),λi' ob hi=>(R1.U7 i' ob hi).mono PS CL (by rw[<- R1.n];exact(z0q.1 hi).1) (by simp) (by simp),λb1 o1 Ko=>?_⟩
      ·have h0:=R1.Bi q vq hq;by_cases hqt:t0=q
       ·subst hqt;have B4A:t0<(st.release y).tm.length:=by have:=(zdq.1 hq).1;rw[Zp]at this;rw[<- R0.size];exact this
        rw[P_ B4A R0.Ac];simp only[RR,L8,RV]
       ·exact h0.mono PS CL (by simp;exact λhh=>absurd hh.symm hqt) (by simp)
      ·have qL:w.heap.size<=b1:=by rw[<- S.size];exact Ko
       simp only[Env.WW];rw[A7]
       ·exact R1.fresh b1 o1 qL
       ·rintro⟨rfl,-⟩;have:=(zdq.1 c1).1;omega
     have B8a:RR ((E.re (Ck y 0 t0 0)).WW p.block (p.off+len * sz) (p.off+len * sz+len' * sz)) w'.heap 0 t0 (.list sz (ds++es)) .own (.slice (some p) (len+len') cap):=by
      refine RR.AJ ⟨?_,_,_,rfl,λp1 len1 cap1 hq P8=>?_⟩
      ·have C0H:=nQ;refine NA (by simp;omega) BQ (by simp) (λ_=>hpos) λp1 kP=>?_;simp only[D8]at kP;subst kP;refine⟨λ_=>by rw[hp],SQ (((f4.mono nQ).mono CL).append ((g4.mono nQ).mono CL)) λj q hq=>?_⟩;by_cases hj:j<all.length
       ·rw[z4q hj]at hq;obtain⟨q1,q2⟩:=(f5 p rfl).2 j q hq;exact⟨CL.c _ _ _ (nQ.s _ _ q2) q1,CL.s _ _ (nQ.s _ _ q2)⟩
       ·rw[z6q (by omega)]at hq;have hal:all.length=len * sz:=by rw[f4.1,f1]
        have aa:j-all.length<all'.length:=(z0q.1 hq).1;obtain⟨c',q1,q2,q3⟩:=S.ex;constructor
        ·unfold hc;rw[q1];show c'[p.off+j]?=some q;rw[q3,C9 (by omega),<- hq];congr 1;omega
        ·simp only[Env.S,Env.WW]
         rw[C9 (by refine⟨trivial,?_,?_⟩<;>omega)]
      ·simp only[Value.slice.injEq,D8]at hq;obtain⟨rfl,rfl,rfl⟩:=hq;obtain⟨c',q1,q2,q3⟩:=S.ex;refine⟨c',TT,f,q1,by rw[q2];exact c2,λo' h3 h4=>?_⟩;rw[wH]at h3;obtain⟨c4,c5⟩:=c3 o' (by omega) h4;refine⟨?_,c5⟩;simp only[Env.WW];rw[A7 (by omega)];exact c4
     refine A_ (V3 _ _ Ab) (T _ _ _ w' H ?_ (P0.trans (PS.Z9 (by rintro T rfl;simp[P9]))) S.out);rw[EL];have R3:=R2.put (dst:=some t0) (d:=.list sz (ds++es)) (m:=.own) (v:=.slice (some p) (len+len') cap) λt1 eG=>by simp only[D8]at eG;subst eG;exact B8a
     rwa [B6Y,xg]at R3
 ·-- a new block
  obtain⟨nc,hnc,Ab⟩:=run_append_grow (ty:=o.type) (b:=b) hu CR Ap MQ (by rw[Cz];exact g7) (by rw[Cz,<- ev];exact f7) RF BQ (by omega) Ur;rw[<- ev]at Ab;have hal:all.length=len * sz:=by rw[f4.1,f1]
  have B4w:all'.length=len' * sz:=by rw[g4.1,g1]
  have Po:(Builtin.zeroCells zv.cells (nc-(len+len'))).toList.length=(nc-(len+len')) * sz:=by simp[Builtin.zeroCells,Vn]
  have B4G:(len+len') * sz+(nc-(len+len')) * sz=nc * sz:=by rw[<- zqq];congr 1;omega
  have wH:(len+len') * sz=len * sz+len' * sz:=zqq _ _ _;generalize hzc:(Builtin.zeroCells zv.cells (nc-(len+len'))).toList=zc at Ab Po;have P1:Pr (λ_=>False) E w.heap (E.newRow w.heap.size ((len+len') * sz) (nc * sz) (.sp 0 t0 0)) (w.heap.push (.cells (all++all'++zc).toArray e)):=by refine Pr.push (λb1 o1 Ko _=>?_) (zbq _) (λ_ _ _=>⟨rfl,rfl,rfl⟩) (λ_ _=>rfl) (D_ rfl);simp only[Env.newRow];rw[A7 (by omega)]
  have CL:=P1.Q6 (by simp) Rl.fresh;have R0:K9 E (st.release y) a w.heap:=Rl.release (x:=y) (f:=id) λ_ _=>rfl;have R1:=R0.push P1 rfl λb1 o1 Ko=>by simp only[zXq]at Ko;simp only[Env.newRow];rw[A7 (by omega)];exact Rl.fresh b1 o1 (by omega)
  refine A_ (V3 _ _ Ab) (T _ _ _ (w.drew.alloc (.cells (all++all'++zc).toArray e)) H ?_ (P1.Z9 (by simp)));rw[EL];refine R1.put λt1 eG=>?_;simp only[D8]at eG;subst eG;have Gv:∀(j:Nat),hc (w.heap.push (.cells (all++all'++zc).toArray e)) w.heap.size j=(all++all'++zc)[j]?:=λj=>by rw[kJ];simp
  refine RR.AJ ⟨?_,_,_,rfl,λp1 len1 cap1 hq P8=>?_⟩
  ·refine NA (by simp;omega) hnc (by simp) (λ_=>hpos) λp1 kP=>?_;simp only[D8]at kP;subst kP;refine⟨λ_=>rfl,SQ ((f4.mono CL).append (g4.mono CL)) λj q hq=>?_⟩;have hj:j<(all++all').length:=(z0q.1 hq).1;have O8:j<(len+len') * sz:=by simp at hj;omega
   constructor
   ·show hc _ w.heap.size (0+j)=_;rw[zfq,Gv,z4q hj];exact hq
   ·simp only[Env.S,Env.newRow,zfq,F5]
    rw[C9 O8]
  ·simp only[Value.slice.injEq,D8]at hq;obtain⟨rfl,rfl,rfl⟩:=hq;refine⟨_,e,(0,0),Jm,by simp;omega,λo' h3 h4=>⟨?_,by simp⟩⟩;simp only[zfq]at h3 h4;simp only[Env.newRow,F5];rw[A7 (by omega),C9 h4]
end
end Go.Su

/-
 THE DATA MACHINE: slices whose last elements are open.
-/
namespace Go.Su
set_option linter.defProp false
variable {sz:Nat}
def lq{d e:DV}{p:List DV×List DV}(h:Jy sz d e=some p):∃ds es,d=.list sz ds/\e=.list sz es/\ds.length+es.length<=Q8/\0<es.length/\p=(ds,es):=by
 unfold Jy at h;split at h
 ·obtain⟨⟨⟨h1,h2⟩,h3,h4⟩,h9⟩:=L9 h;simp only[D8]at h9;subst h1 h2;exact⟨_,_,rfl,rfl,h3,h4,h9.symm⟩
 ·simp at h
variable (E:Env)
def Env.B8J(b off lo hi:Nat):Env :={ E with obj:=λi=>if i=E.n then b else E.obj i,base:=λi=>if i=E.n then off else E.base i,top:=λi=>if i=E.n then hi else E.top i,n:=E.n+1,Q7:=λi=>if i=E.n then 0 else E.Q7 i,O:=λb' o=>if b'=b/\lo<=o/\o<hi then .obj E.n else E.O b' o }
def Env.B8I(b lo hi:Nat):Env :={ E with obj:=λi=>if i=E.n then b else E.obj i,base:=λi=>if i=E.n then 0 else E.base i,top:=λi=>if i=E.n then hi else E.top i,n:=E.n+1,Q7:=λi=>if i=E.n then 0 else E.Q7 i,O:=λb' o=>if b'=b then(if o<lo then .Q6 else if o<hi then .obj E.n else .other)else E.O b' o }
section
variable {X:Type}{C:Ba}{R:O9}{o:Oper}{st:St}{k:St->Option X}{x:X}{E:Env}{a:Act}{w:World}{K:Act->World->Prop}{Q:Exit->Act->World->Prop}{h:Heap}
def B23{E:Env}{i b off cap:Nat}{ds es:List DV}{all':List Value}{c:Array Value}{T:TypeId}{f:Nat×Nat}(ho:E.obj i=b)(hb:E.base i=off)(ht:E.top i=off+cap * sz)(hpos:0<sz)(hc:h[b]?=some (.cells c T f))(BQ:ds.length+es.length<=cap)(IK:off+cap * sz<=c.size)(tags:∀o,off+ds.length * sz<=o->o<off+cap * sz->E.O b o=.obj i/\¬(f.1<=o/\o<f.2))(pre:∀(j:Nat) d,ds[j]?=some d->Elem E.S h sz b (off+j * sz) d)(G:Ia E.S h sz es all')(cells:∀(j:Nat) u,all'[j]?=some u->c[off+ds.length * sz+j]?=some u):RO E h i (.opn sz ds es):=by
 simp only[RO];rw[ho,hb,ht];refine⟨c,T,f,hc,?_,IK,hpos,tags,pre,λj d hd=>?_⟩
 ·have:=z9q sz BQ;omega
 ·obtain⟨vs,v1,v2,v3⟩:=G.2 j d hd;refine⟨vs,v1,λy u hu=>?_,v3⟩;have:=cells _ u (v2 y u hu);rw[zqq]
  rwa [show off+(ds.length * sz+j * sz)+y=off+ds.length * sz+(j * sz+y)by omega]
variable {fl:H8}
def A2O{c:Call}{y v:Operand}{t u:TypeId}(F7:o.op=.call c)(zP:c.callee=.builtin .append)(ha:c.args.toList=[y,v])(ht:c.argTypes.toList=[t,u])(d_:I9 fl.opn o.dst=true)(Ph:I9 fl.OO o.dst=false)(Ot:I9 fl.Dl o.dst=false)(H:Dx C fl o y v t u st k=some x)(Rl:K9 E st a w.heap)(T:Then E w k x K):Gp C.P o a w K:=by
 unfold Dx at H;rw[A7 (by rw[Ph];simp),A7 (by rw[Ot];simp)]at H;obtain⟨r,h1,H⟩:=D6 H;obtain⟨s,h2,H⟩:=D6 H;obtain⟨sz,Ca,H⟩:=D6 H;obtain⟨hc,H⟩:=H6 H;rw[C9 d_]at H;obtain⟨d2,hd,H⟩:=D6 H;simp only[zaq]at hc;obtain⟨⟨NH,Us⟩,EL⟩:=hc;obtain⟨t0,EL⟩:=zwq.1 EL;obtain⟨e,e',z,inf,zv,hu,CR,hz,Hg,hpos,Ap,Ur,RF,Vn⟩:=UN Ca;obtain⟨ds,es,hr,hs,YK,hne,rfl⟩:=lq hd;simp only at H;have e1:=Rl.src h1;have e2:=(Rl.src h2).data Us;have e1d:RV E.S w.heap r.1 (a.eval y):=e1.data (by revert NH;cases r.2<;>simp[MR,K6]);rw[hr]at e1d;rw[hs]at e2;obtain⟨b,len,cap,all,ev,f1,f2,f3,f4,f5,f6,f7⟩:=Kk (P:=C.P) e1d;obtain⟨b',len',cap',all',ev',g1,g2,g3,g4,g5,g6,g7⟩:=Kk (P:=C.P) e2;have Cz:inf.size=sz:=by obtain⟨i',d',q1,-,q2,-⟩:=IU hz;rw[Ap]at q1;simp only[D8]at q1;rw[<- Hg,q2,q1]
 have V3:∀v' w',(Builtin.append_ #[t,u] o.type #[a.eval y,a.eval v]).run C.P w=.ok v' w'->(execOp a.eval o).run C.P w=.ok (.value v') w':=by intro v' w' hv;refine Hd F7 zP ?_;rw[Nu ht,show c.args.map a.eval=#[a.eval y,a.eval v]from by rw[Nu ha];simp];exact CO hv
 rw[EL]at H;have MQ:Builtin.lenOf (a.eval v)=pure len':=by rw[ev'];rfl
 have B2E:ds.length+es.length<=4294967296:=YK;have nR:=g4.one hpos;have hn:=Rl.n;by_cases BQ:len+len'<=cap
 ·-- it fits: the slice's own memory is written
  have R0:=Rl.release (x:=y) (f:=Ck y 0 t0 0) λT hT=>Gl hT;have P0:Pr P9 E w.heap (E.re (Ck y 0 t0 0)) w.heap:=Pr.re λT hT=>Gl λt b _ he=>hT (by rw[he];simp[P9]);have nQ:AC E.S w.heap (E.re (Ck y 0 t0 0)).S w.heap:=LA (Gl (by simp));have hsp:∀p,b=some p->len<cap->∃cc TT f,w.heap[p.block]?=some (.cells cc TT f)/\p.off+cap * sz<=cc.size /\
   ∀o',p.off+len * sz<=o'->o'<p.off+cap * sz->(E.re (Ck y 0 t0 0)).O p.block o'=.sp 0 t0 0/\¬(f.1<=o'/\o'<f.2):=by
   intro p hp P8;subst hp;have ah:r.2=.own:=by
    revert NH e1;cases r.2<;>intro NH e1<;>simp only[MR,z7q]at NH
    ·simp only[RR,L8]at e1;obtain⟨-,⟨q,n,hq⟩,-⟩:=e1;rw[ev]at hq;simp only[Value.slice.injEq]at hq;omega
    ·rfl
   rw[ah]at e1;simp only[RR,L8]at e1;obtain⟨-,sz',ds',hl,hS⟩:=e1;rw[hr]at hl;simp only[DV.list.injEq]at hl;obtain⟨cc,TT,f,c1,c2,c3⟩:=hS p len cap ev P8;rw[<- hl.1]at c2 c3;refine⟨cc,TT,f,c1,c2,λo' h3 h4=>?_⟩;obtain⟨c4,c5⟩:=c3 o' h3 h4;refine⟨?_,c5⟩;have hy:∃i,y=.tmp i:=by
    cases y with
    |tmp i=>exact⟨i,rfl⟩
    |const v=>exact absurd ah (dI h1).1
    |func f=>simp only[src,D8]at h1;subst h1;simp at ah
    |global g=>simp[src]at h1
   obtain⟨i,rfl⟩:=hy;simp only[Env.re];rw[c4];simp[Ck,fA]
  have hln:0<len':=by omega
  cases b with
  |none=>have:=f3 rfl;omega
  |some p=>
    obtain⟨hp,f5'⟩:=f5 p rfl;have hp:=hp (by omega);obtain⟨cc,TT,f,c1,c2,c3⟩:=hsp p rfl (by omega);have B9w:all'.length=len' * sz:=by rw[g4.1,g1]
    have hmul:(len+len') * sz<=cap * sz:=z9q _ BQ;have wH:(len+len') * sz=len * sz+len' * sz:=zqq _ _ _;have B9A:0<len' * sz:=y8q hln hpos;obtain⟨w',hw,S⟩:=Jb (P:=C.P) (b:=p.block) (T:=TT) (f:=f) (p.off+len * sz) all' cc 0 w c1 (by omega) nR (λo' h3 h4=>(c3 o' (by omega) (by omega)).2);have Ab:(Builtin.append_ #[t,u] o.type #[a.eval y,a.eval v]).run C.P w=.ok (.slice (some p) (len+len') cap) w':=by rw[ev];refine IP hu CR Ap MQ (by rw[Cz];exact g7 w rfl) BQ ?_;rw[Cz,hp,Addr.add_lit];exact hw
    simp only[zBq]at S;have R1:K9 (E.re (Ck y 0 t0 0)) ((st.release y).put (some t0) .undef .val) (a.put (some t0) (.slice (some p) (len+len') cap)) w.heap:=R0.put λt1 _=>by simp only[RR,L8,RV]
    let E2:=(E.re (Ck y 0 t0 0)).B8J p.block p.off (p.off+len * sz) (p.off+cap * sz)
    have A6r:E2.n=E.n+1:=rfl;have PS:Pr (λT=>T=.sp 0 t0 0) (E.re (Ck y 0 t0 0)) w.heap E2 w'.heap:=by
     refine⟨zJq S.size.symm,λb1 Ko=>?_,λb1 o1 Ko hT=>?_,y9q _,λi hi _=>?_,λ_ _=>rfl,Wh rfl⟩
     ·by_cases Uq:b1=p.block
      ·subst Uq;rw[c1];obtain⟨c',q1,q2,q3⟩:=S.ex;refine⟨c',q1,q2,λj hj=>?_⟩;rw[q3 j,A7];rintro⟨q4,q5⟩;exact hj (c3 j q4 (by omega)).1
      ·rw[S.rest b1 Uq];exact X3.refl _ _
     ·show(if _ then _ else _)=_;rw[A7];rintro⟨rfl,q4,q5⟩;exact hT (c3 o1 q4 q5).1
     ·have hi':i≠(E.re (Ck y 0 t0 0)).n:=y2q hi;refine⟨?_,?_,?_⟩<;>(show(if _ then _ else _)=_;rw[A7 hi'])
    have CL:=PS.Q6 (by simp) R1.fresh;have oE:E2.obj E.n=p.block:=C9 rfl;have bE:E2.base E.n=p.off:=C9 rfl;have tE:E2.top E.n=p.off+cap * sz:=C9 rfl;have R2:K9 E2 { (st.release y).put (some t0) .undef .val with sg:=st.sg++[E5.opn sz ds es] } (a.put (some t0) (.slice (some p) (len+len') cap)) w'.heap:=by
     have sgR:(st.release y).sg=st.sg:=by cases y<;>rfl
     refine⟨R1.size,R1.Ac,R1.CY,by simp[A6r,hn],λq vq hq=>?_,λs' cs' EM=>(R1.Z7 s' cs' EM).mono PS CL (by simp) (by simp),λi' ob hi=>?_,λb1 o1 Ko=>?_⟩
     ·have h0:=R1.Bi q vq hq;by_cases hqt:t0=q
      ·subst hqt;have B4A:t0<(st.release y).tm.length:=by have:=(zdq.1 hq).1;rw[Zp]at this;rw[<- R0.size];exact this
       have hg:(St.get { (st.release y).put (some t0) .undef .val with sg:=st.sg++[E5.opn sz ds es] } t0)=(.undef,.val):=P_ B4A R0.Ac;rw[hg];simp only[RR,L8,RV]
      ·exact h0.mono PS CL (by simp;exact λhh=>absurd hh.symm hqt) (by simp)
     ·by_cases P8:i'<st.sg.length
      ·have hi:((st.release y).put (some t0) .undef .val).sg[i']?=some ob:=by have hi:(st.sg++[E5.opn sz ds es])[i']?=some ob:=hi;rw[z4q P8]at hi;rw[k_,sgR];exact hi
       exact(R1.U7 i' ob hi).mono PS CL (by rw[<- R1.n];exact(z0q.1 hi).1) (by simp) (by simp)
      ·have hi:(st.sg++[E5.opn sz ds es])[i']?=some ob:=hi;have Mt:i'=st.sg.length:=by have:=(z0q.1 hi).1;simp at this;omega
       subst Mt;simp only[z6q (zbq _),y0q,zgq,D8]at hi;subst hi;rw[hn];obtain⟨c',q1,q2,q3⟩:=S.ex;have hf1:=f1;have hg1:=g1;subst hf1;refine B23 (cap:=cap) (all':=all') oE bE tE hpos q1 (by omega) (by rw[q2];exact c2) (λo' h3 h4=>⟨?_,(c3 o' h3 h4).2⟩) (λj d hd=>?_) ((g4.mono nQ).mono CL) λj u hu=>?_
       ·show(if _ then _ else _)=_;rw[C9 ⟨rfl,h3,h4⟩];rfl
       ·obtain⟨b0,len0,cap0,Pj,-,-,-,yL⟩:=KM e1d;rw[ev]at Pj;simp only[Value.slice.injEq]at Pj;obtain⟨rfl,-,-⟩:=Pj;exact((EW.1 (yL.2 p rfl).2 j d hd).mono nQ).mono CL
       ·have aa:j<all'.length:=(z0q.1 hu).1;rw[q3,C9 (by omega),<- hu];congr 1;omega
     ·have qL:w.heap.size<=b1:=by rw[<- S.size];exact Ko
      show(if _ then _ else _)=_;rw[A7]
      ·exact R1.fresh b1 o1 qL
      ·rintro⟨rfl,-⟩;have:=(zdq.1 c1).1;omega
    refine A_ (V3 _ _ Ab) (T _ _ _ w' H ?_ (P0.trans (PS.Z9 (by rintro T rfl;simp[P9]))) S.out);rw[EL];have R3:=R2.put (dst:=some t0) (d:=.undef) (m:=.arr st.sg.length sz 0 (ds.length+es.length)) (v:=.slice (some p) (len+len') cap) λt1 eG=>by
     refine RR.AJ ⟨⟨by rw[A6r,hn];omega,by rw[hn];exact C9 rfl⟩,some p,cap,by rw[f1,g1],λ_=>?_,by omega,by simp,λq hq=>?_,λ_=>?_⟩
     ·rw[hn,oE,bE,zKq,zBq,<- hp]
     ·simp only[D8]at hq;rw[<- hq,hp]
     ·rw[hn,bE,tE,zfq];exact zbq _
    rw[xg]at R3;have e3:St.put { (st.release y).put (some t0) .undef .val with sg:=st.sg++[E5.opn sz ds es] } (some t0) .undef (.arr st.sg.length sz 0 (ds.length+es.length))=St.put { st.release y with sg:=st.sg++[E5.opn sz ds es] } (some t0) .undef (.arr st.sg.length sz 0 (ds.length+es.length)):=by simp[St.put,ynq]
    rwa [e3]at R3
 ·-- a new block
  obtain⟨nc,hnc,Ab⟩:=run_append_grow (ty:=o.type) (b:=b) hu CR Ap MQ (by rw[Cz];exact g7) (by rw[Cz,<- ev];exact f7) RF BQ (by omega) Ur;rw[<- ev]at Ab;have hal:all.length=len * sz:=by rw[f4.1,f1]
  have B4w:all'.length=len' * sz:=by rw[g4.1,g1]
  have Po:(Builtin.zeroCells zv.cells (nc-(len+len'))).toList.length=(nc-(len+len')) * sz:=by simp[Builtin.zeroCells,Vn]
  have B4G:(len+len') * sz+(nc-(len+len')) * sz=nc * sz:=by rw[<- zqq];congr 1;omega
  have wH:(len+len') * sz=len * sz+len' * sz:=zqq _ _ _;generalize hzc:(Builtin.zeroCells zv.cells (nc-(len+len'))).toList=zc at Ab Po
  let E2:=E.B8I w.heap.size (len * sz) (nc * sz)
  have A6r:E2.n=E.n+1:=rfl;have oE:E2.obj E.n=w.heap.size:=C9 rfl;have bE:E2.base E.n=0:=C9 rfl;have tE:E2.top E.n=nc * sz:=C9 rfl;have P1:Pr (λ_=>False) E w.heap E2 (w.heap.push (.cells (all++all'++zc).toArray e)):=by
   refine Pr.push (λb1 o1 Ko _=>?_) (y9q _) (λi hi _=>?_) (λ_ _=>rfl) (Wh rfl)
   ·show(if _ then _ else _)=_;rw[A7 (by omega)]
   ·have hi':i≠E.n:=y2q hi;refine⟨?_,?_,?_⟩<;>(show(if _ then _ else _)=_;rw[A7 hi'])
  have CL:=P1.Q6 (by simp) Rl.fresh;have R0:K9 E (st.release y) a w.heap:=Rl.release (x:=y) (f:=id) λ_ _=>rfl;have sgR:(st.release y).sg=st.sg:=by cases y<;>rfl
  have Gv:∀(j:Nat),hc (w.heap.push (.cells (all++all'++zc).toArray e)) w.heap.size j=(all++all'++zc)[j]?:=λj=>by rw[kJ];simp
  have R2:K9 E2 { st.release y with sg:=st.sg++[E5.opn sz ds es] } a (w.heap.push (.cells (all++all'++zc).toArray e)):=by
   refine⟨R0.size,R0.Ac,R0.CY,by simp[A6r,hn],λq vq hq=>(R0.Bi q vq hq).mono P1 CL (by simp) (by simp),λs' cs' EM=>(R0.Z7 s' cs' EM).mono P1 CL (by simp) (by simp),λi' ob hi=>?_,λb1 o1 Ko=>?_⟩
   ·by_cases P8:i'<st.sg.length
    ·have hi:(st.release y).sg[i']?=some ob:=by have hi:(st.sg++[E5.opn sz ds es])[i']?=some ob:=hi;rw[z4q P8]at hi;rw[sgR];exact hi
     exact(R0.U7 i' ob hi).mono P1 CL (by rw[<- R0.n];exact(z0q.1 hi).1) (by simp) (by simp)
    ·have hi:(st.sg++[E5.opn sz ds es])[i']?=some ob:=hi;have Mt:i'=st.sg.length:=by have:=(z0q.1 hi).1;simp at this;omega
     subst Mt;simp only[z6q (zbq _),y0q,zgq,D8]at hi;subst hi;rw[hn];have hf1:=f1;subst hf1;refine B23 (cap:=nc) (all':=all') oE bE (by rw[tE,zfq]) hpos Jm (by omega) (by simp;omega) (λo' h3 h4=>⟨?_,by simp⟩) (λj d hd=>?_) (g4.mono CL) λj u hu=>?_
     ·show(if _ then _ else _)=_;rw[C9 rfl,A7 (by omega),C9 (by omega)]
     ·obtain⟨vs,v1,v2,v3⟩:=f4.2 j d hd;refine⟨vs,v1,λy' u hu=>?_,v3.mono CL⟩;have hy':y'<sz:=by have:=(z0q.1 hu).1;omega
      have h5:=v2 y' u hu;have h6:j * sz+y'<all.length:=(z0q.1 h5).1;refine⟨?_,?_⟩
      ·rw[zfq,Gv,zLq,z4q h6];exact h5
      ·show(if _ then _ else _)=_;rw[C9 rfl,zfq,C9 (by omega)]
     ·have aa:j<all'.length:=(z0q.1 hu).1;rw[zfq,zMq,zLq,z6q (by omega),z4q (by omega),<- hu];congr 1;omega
   ·simp only[zXq]at Ko;show(if _ then _ else _)=_;rw[A7 (by omega)];exact Rl.fresh b1 o1 (by omega)
  refine A_ (V3 _ _ Ab) (T _ _ _ (w.drew.alloc (.cells (all++all'++zc).toArray e)) H ?_ (P1.Z9 (by simp)));rw[EL];refine R2.put λt1 eG=>?_;refine RR.AJ ⟨⟨by rw[A6r,hn];omega,by rw[hn];exact C9 rfl⟩,some ⟨w.heap.size,0,none⟩,nc,by rw[f1,g1],λ_=>?_,by omega,by simp,λq hq=>?_,λ_=>?_⟩
  ·rw[hn,oE,bE,zKq,zBq]
  ·simp only[D8]at hq;rw[<- hq]
  ·rw[hn,bE,tE,zfq,zfq];exact zbq _
def Env.lI(E:Env)(i lo:Nat)(tg:Tag):Env:={ E with O:=λb o=>if E.O b o=.obj i then(if o<lo then .Q6 else tg)else E.O b o }
def oU(E:Env)(h:Heap)(i lo:Nat)(tg:Tag):Pr (λT=>T=.obj i) E h (E.lI i lo tg) h:=by refine⟨zbq _,λ_ _=>X3.refl _ _,λb o _ hT=>?_,zbq _,λ_ _ _=>⟨rfl,rfl,rfl⟩,λ_ _=>rfl,D_ rfl⟩;show(if _ then _ else _)=_;rw[A7 hT]
def vH{i:Nat}{pre ds:List DV}{tg:Tag}{v:Value}(hf:∀b o,h.size<=b->E.O b o=.other)(H:RO E h i (.opn sz pre ds))(G:L8 E h tg .undef (.arr i sz 0 (pre.length+ds.length)) v)(hne:0<pre.length+ds.length)(tg':Tag):
 L8 (E.lI i (E.base i+(pre.length+ds.length) * sz) tg') h tg' (.list sz (pre++ds)) .own v:=by
 have P:=oU E h i (E.base i+(pre.length+ds.length) * sz) tg';have J5:=P.Q6 (by simp) hf;simp only[RO]at H;obtain⟨c,T,f,h1,h2,Qz,hz,h3,h4,h5⟩:=H;simp only[L8]at G;obtain⟨g1,b,cap,rfl,g2,g3,g4,g5,g6⟩:=G;have g2:=g2 hne;have g6:=g6 hne;subst g2;simp only[zKq,zBq,zfq]at g6 ⊢;have q0:(pre.length+ds.length) * sz<=cap * sz:=z9q _ g3;refine⟨?_,sz,pre++ds,rfl,λp len1 cap1 hq P8=>?_⟩
 ·refine NA (by simp) g3 (by simp) (λ_=>hz) λp hp=>?_;simp only[D8]at hp;subst hp;refine⟨λ_=>rfl,EW.2 λj d hd=>?_⟩;by_cases hj:j<pre.length
  ·rw[z4q hj]at hd;exact(h4 j d hd).mono J5
  ·rw[z6q (by omega)]at hd;have hjd:j-pre.length<ds.length:=(z0q.1 hd).1;obtain⟨vs,v1,v2,v3⟩:=h5 _ d hd;have ej:pre.length+(j-pre.length)=j:=by omega
   rw[ej]at v2;refine⟨vs,v1,λy u hu=>?_,v3.mono J5⟩;have hy:y<sz:=by have:=(z0q.1 hu).1;omega
   have q1:pre.length * sz<=j * sz:=z9q _ (by omega);have q2:j * sz+y<(pre.length+ds.length) * sz:=by
    calc j * sz+y<j * sz+sz:=by omega
     _=(j+1) * sz:=by rw[zAq]
     _<=(pre.length+ds.length) * sz:=z9q _ (by omega)
   refine⟨?_,?_⟩
   ·unfold hc;rw[h1];exact v2 y u hu
   ·have e0:(E.lI i (E.base i+(pre.length+ds.length) * sz) tg').O (E.obj i) (E.base i+j * sz+y)=.Q6:=by show(if _ then _ else _)=_;rw[C9 (h3 (E.base i+j * sz+y) (by omega) (by omega)).1,C9 (by omega)]
    exact e0
 ·simp only[Value.slice.injEq,D8]at hq;obtain⟨rfl,rfl,rfl⟩:=hq;refine⟨c,T,f,h1,by simp only;omega,λo' h6 h7=>?_⟩;simp only at h6 h7;have q1:pre.length * sz<=(pre.length+ds.length) * sz:=z9q _ (by omega);obtain⟨q2,q3⟩:=h3 o' (by omega) (by omega);refine⟨?_,q3⟩;show(if _ then _ else _)=_;rw[C9 q2,A7 (by omega)]
def p_{q:Nat×List DV×List DV}{len:Nat}{d:DV}(h:Sd q sz len=some d):q.1=sz/\q.2.1.length+q.2.2.length=len/\0<len/\d=.list sz (q.2.1++q.2.2):=by unfold Sd at h;obtain⟨⟨h1,h2,h3⟩,h⟩:=L9 h;simp only[D8]at h;exact⟨h1,h2,h3,h.symm⟩
def B0n{r:Nat}(H:ZW r st k=some x)(Rl:K9 E st a h):∃E' st',k st'=some x/\K9 E' st' a h/\Pr P9 E h E' h:=by
 unfold ZW at H;split at H
 ·rename_i i sz len hm;obtain⟨q,hq,H1⟩:=D6 H;obtain⟨d,hd,H9⟩:=D6 H1;clear H H1;obtain⟨sz',pre,ds⟩:=q;obtain⟨c1,c2,c3,rfl⟩:=p_ hd;simp only at c1 c2;subst c1 c2;have hq:=oO hq;have B:=Rl.U7 i _ hq;have hi:i<E.n:=by rw[<- Rl.n];exact(z0q.1 hq).1
  have IY:=(z0q.1 hq).1
  let E':=E.lI i (E.base i+(pre.length+ds.length) * sz') (.sp 0 r 0)
  have P:Pr (λT=>T=.obj i) E h E' h:=oU E h i _ _;have J5:=P.Q6 (by simp) Rl.fresh;refine⟨E',_,H9,?_,P.Z9 (by rintro T rfl;simp[P9])⟩;refine⟨by rw[VG];exact Rl.size,by rw[VG,A7b];exact Rl.Ac,by rw[VG,ku];exact Rl.CY,?_,λt v hv=>?_,λs cs hs=>?_,λj ob hj=>?_,λb o hb=>?_⟩
  ·rw[k_,zyq];exact Rl.n
  ·have h0:=Rl.Bi t v hv;by_cases ht:r=t
   ·subst ht;have P8:r<st.tm.length:=by have:=(zdq.1 hv).1;rw[<- Rl.size];exact this
    rw[P_ (st:={ st with sg:=st.sg.set i (.arr 1 []) }) P8 Rl.Ac];rw[hm]at h0;simp only[RR]at h0;exact RR.AJ (vH (tg:=.sp 0 r 0) Rl.fresh B (by simpa only[L8]using h0) c3 _)
   ·rw[YO ht];exact h0.mono P J5 (by simp) (by simp)
  ·rw[ku]at hs;exact(Rl.Z7 s cs hs).mono P J5 (by simp) (by simp)
  ·rw[k_]at hj;by_cases Q_:i=j
   ·subst Q_;rw[z2q IY]at hj;simp only[D8]at hj;subst hj;exact λhne=>absurd rfl hne
   ·rw[z1q Q_]at hj;exact(Rl.U7 j ob hj).mono P J5 (by rw[<- Rl.n];exact(z0q.1 hj).1) (by simp;exact λh=>Q_ h.symm) (by simp)
  ·show(if _ then _ else _)=_;rw[Rl.fresh b o hb,A7 (by simp)]
 ·rename_i b off hm;obtain⟨cs,IK,H1⟩:=D6 H;obtain⟨q0,hca,H2⟩:=D6 H1;obtain⟨q,hq,H3⟩:=D6 H2;obtain⟨d,hd,H9⟩:=D6 H3;clear H H1 H2 H3;obtain⟨i,sz,len⟩:=q0;obtain⟨sz',pre,ds⟩:=q;obtain⟨c1,c2,c3,rfl⟩:=p_ hd;simp only at c1 c2 H9 hq;subst c1 c2;have hq:=oO hq;have IK:=ZQ IK;have B:=Rl.U7 i _ hq;have BX:=Rl.U7 b _ IK;have IY:=(z0q.1 hq).1;have B4x:=(z0q.1 IK).1;have hib:i≠b:=by rintro rfl;rw[hq]at IK;cases IK
  obtain⟨d0,WL⟩:∃d0,cs[off]?=some (d0,.arr i sz' 0 (pre.length+ds.length)):=by
   unfold vw at hca;split at hca
   ·rename_i d0 i0 sz0 len0 heq;simp only[D8,Prod.mk.injEq]at hca;obtain⟨rfl,rfl,rfl⟩:=hca;exact⟨d0,heq⟩
   ·cases hca
  let E':=E.lI i (E.base i+(pre.length+ds.length) * sz') (.sp 2 b off)
  have P:Pr (λT=>T=.obj i) E h E' h:=oU E h i _ _;have J5:=P.Q6 (by simp) Rl.fresh;refine⟨E',_,H9,?_,P.Z9 (by rintro T rfl;simp[P9])⟩;refine⟨Rl.size,Rl.Ac,Rl.CY,?_,λt v hv=>(Rl.Bi t v hv).mono P J5 (by simp) (by simp),λs cs' hs=>(Rl.Z7 s cs' hs).mono P J5 (by simp) (by simp),λj ob hj=>?_,λb' o hb=>?_⟩
  ·simp only[zyq];exact Rl.n
  ·by_cases Q_:i=j
   ·subst Q_;rw[z2q (by simpa using IY)]at hj;simp only[D8]at hj;subst hj;exact λhne=>absurd rfl hne
   ·rw[z1q Q_]at hj;by_cases hbj:b=j
    ·subst hbj;rw[z2q B4x]at hj;simp only[D8]at hj;subst hj;simp only[RO]at BX ⊢;have B8i:=(z0q.1 WL).1;obtain⟨c,T,e1,e2,e3,e4⟩:=BX.mono P J5 (by simp;exact λh=>hib h.symm) (by simp);refine⟨c,T,e1,by simpa using e2,e3,λy r' v hr hv=>?_⟩;by_cases hy:off=y
     ·subst hy;rw[z2q B8i]at hr;simp only[D8]at hr;subst hr;obtain⟨c0,T0,f1,f2,f3,f4⟩:=BX;have MN:c0=c:=by have Ie:h[E.obj b]?=some (.cells c T (0,0)):=e1;rw[f1]at Ie;simp only[D8,Obj.cells.injEq]at Ie;exact Ie.1
      subst MN;obtain⟨g1,g2,g3,g4⟩:=f4 off _ v WL hv;exact⟨rfl,g2,rfl,vH (tg:=.sp 2 b off) Rl.fresh B (by simpa only[L8]using g4) c3 _⟩
     ·rw[z1q hy]at hr;exact e4 y r' v hr hv
    ·rw[z1q hbj]at hj;exact(Rl.U7 j ob hj).mono P J5 (by rw[<- Rl.n];exact(z0q.1 hj).1) (by simp;exact λh=>Q_ h.symm) (by simp)
  ·show(if _ then _ else _)=_;rw[Rl.fresh b' o hb,A7 (by simp)]
 ·cases H
def K9.B8E(Rl:K9 E st a h){i off:Nat}{cs:List (DV×F4)}(hb:st.sg[i]?=some (.box cs))(MN:cs[off]?=some (.list sz [],.full))(hpos:0<sz):
 K9 E.Es { st with sg:=st.sg.set i (.box (cs.set off (.list sz [],.U3 st.sg.length 1 sz)))++[.U3 1 sz 0] } a h/\Pr P9 E h E.Es h:=by
 have hn:=Rl.n;have vE:E.Es.Q7 E.n=1:=C9 rfl;have P1:Pr (λ_=>False) E h E.Es h:=by
  refine⟨zbq _,λ_ _=>X3.refl _ _,λ_ _ _ _=>rfl,y9q _,λj hj _=>?_,λ_ _=>rfl,λj hj=>?_⟩
  ·have O8:j≠E.n:=y2q hj;refine⟨rfl,?_,?_⟩<;>(show(if _ then _ else _)=_;rw[A7 O8])
  ·have:E.Es.Q7 j=E.Q7 j:=A7 (y2q hj);rw[this];exact⟨id,zbq _,λ_=>rfl⟩
 have J5:=P1.Q6 (by simp) Rl.fresh;have IY:=(z0q.1 hb).1;refine⟨⟨Rl.size,Rl.Ac,Rl.CY,by simp[Env.Es,hn],λu v hu=>(Rl.Bi u v hu).mono P1 J5 (by simp) (by simp),λs' cs' hs=>(Rl.Z7 s' cs' hs).mono P1 J5 (by simp) (by simp),λi' ob hi=>?_,Rl.fresh⟩,P1.Z9 (by simp)⟩;by_cases P8:i'<st.sg.length
 ·rw[z4q (by simpa using P8)]at hi;by_cases Cf:i=i'
  ·subst Cf;simp only[z2q IY,D8]at hi;subst hi;obtain⟨cv,T,h1,h2,h3,h4⟩:=(Rl.U7 i _ hb:RO E h i (.box cs)).mono P1 J5 (by rw[<- hn];exact P8) (by simp) (by simp);refine⟨cv,T,h1,by simpa using h2,h3,λj r v' hr RD=>?_⟩;by_cases hj:off=j
   ·subst hj;have B4B:=(z0q.1 MN).1;rw[z2q B4B]at hr;simp only[D8]at hr;subst hr;obtain⟨a1,a2,a3,a4⟩:=h4 off _ v' MN RD;refine⟨rfl,a2,rfl,?_⟩;simp only[L8]at a4 ⊢;obtain⟨k1,⟨x,m,rfl⟩,-⟩:=a4;have k2:=k1;obtain⟨b0,len0,cap0,Pj,q1,-,q3,-⟩:=KM k2;simp only[Value.slice.injEq]at Pj;obtain⟨rfl,rfl,rfl⟩:=Pj;have hm0:m=0:=by simpa using q1
    subst hm0;exact⟨k1,⟨[],rfl⟩,by rw[hn];exact ykq _,by omega,by rw[hn,vE];exact zbq _,x,0,0,rfl,λ_ h=>by omega⟩
   ·rw[z1q hj]at hr;exact h4 j r v' hr RD
  ·rw[z1q Cf]at hi;exact(Rl.U7 i' ob hi).mono P1 J5 (by rw[<- hn];exact P8) (by simp) (by simp)
 ·have Mt:i'=st.sg.length:=by have:=(z0q.1 hi).1;simp at this;omega
  subst Mt;rw[z6q (by simp)]at hi;simp only[zyq,y0q,zgq,D8]at hi;subst hi;have e1:E.Es.top E.n=0:=C9 rfl;have e2:E.Es.base E.n=0:=C9 rfl;refine⟨by rw[hn];exact vE,Nat.one_pos,hpos,.inl ⟨rfl,?_⟩⟩;rw[hn,e1,e2]
def A3t{h:Heap}{b:Nat}:∀{os:List Nat}{st:St}{E:Env}{g:List E5},Pe st.sg b os=some g->K9 E st a h->∃E',K9 E' { st with sg:=g } a h/\Pr P9 E h E' h
 |[],st,E,g,H,Rl=>by simp only[Pe,D8]at H;subst H;exact⟨E,Rl,Pr.refl _ _ _⟩
 |o::os,st,E,g,H,Rl=>by
   simp only[Pe]at H;obtain⟨cs,hb,H⟩:=D6 H;split at H
   ·rename_i sz hc;obtain⟨hpos,H⟩:=L9 H;obtain⟨R1,P1⟩:=Rl.B8E (ZQ hb) hc hpos;obtain⟨E2,R2,P2⟩:=A3t H R1;exact⟨E2,R2,P1.trans P2⟩
   ·cases H
def A3r{id:Nat}(H:Un fl id st k=some x)(Rl:K9 E st a h):∃E' st',k st'=some x/\K9 E' st' a h/\Pr P9 E h E' h:=by
 unfold Un at H;split at H
 ·unfold A1b at H;split at H
  ·obtain⟨g,hg,H⟩:=D6 H;obtain⟨E2,R2,P2⟩:=A3t hg Rl;exact⟨E2,_,H,R2,P2⟩
  ·cases H
 ·exact⟨E,st,H,Rl,Pr.refl _ _ _⟩
def A0H{id:Nat}(H:IC fl id st k=some x)(Rl:K9 E st a h):∃E' st',k st'=some x/\K9 E' st' a h/\Pr P9 E h E' h:=by
 unfold IC at H;split at H
 ·obtain⟨E1,st1,H1,R1,P1⟩:=B0n H Rl;obtain⟨E2,st2,H2,R2,P2⟩:=A3r H1 R1;exact⟨E2,st2,H2,R2,P1.trans P2⟩
 ·exact A3r H Rl
end
end Go.Su

/-
 THE DATA MACHINE, part 17: calls.
-/
namespace Go.Su
set_option linter.defProp false
structure Ext(S:AU)(h:Heap)(S':AU)(h':Heap):Prop where
 size:h.size<=h'.size
 blk:∀b,b<h.size->h'[b]?=h[b]?
 s:∀b o,b<h.size->(S' b o↔S b o)
 fresh:∀b o,h'.size<=b->¬S' b o
variable (P:Program)(f:FuncId)(ds:List DV)
def B1V(d:DV):Prop :=∀(S:AU)(w:World)(vs:List Value),(∀b o,w.heap.size<=b->¬S b o)->RY S w.heap ds vs->Calls P f vs.toArray w λe w'=>∃v S',e=.returned v/\Ext S w.heap S' w'.heap/\RV S' w'.heap d v/\Y7 w w'
def B0b(E:Env)(h:Heap)(i:Nat)(k:MK)(d:DV)(v:Value):Prop :=
 match k with
 |.val=>RV E.S h d v
 |.own=>L8 E h (.sp 3 i 0) d .own v
 |.ptr=>L8 E h .other (Mc .ptr d).1 (Mc .ptr d).2 v
 |.YC n os=>RR E h 3 i d (.Eb ((List.range n).map λi=>if os.contains i then .own else .val)) v
def B0a(E:Env)(h:Heap)(ks:List MK)(ds:List DV)(v:Value):Prop :=ds.length=ks.length/\∃vs:List Value,vs.length=ks.length/\v=(match vs with | [u]=>u | _=>.tuple vs.toArray) /\∀(i:Nat) k d u,ks[i]?=some k->ds[i]?=some d->vs[i]?=some u->B0b E h i k d u
def B5A(s:Z8)(rs:List (DV×F4))(sg:List E5)(q:List DV×List E5):Prop :=
 ∀(E:Env)(w:World)(vs:List Value),(∀b o,w.heap.size<=b->E.O b o=.other)->sg.length=E.n->(∀(i:Nat) ob,sg[i]?=some ob->RO E w.heap i ob)->vs.length=rs.length->
   (∀(i:Nat) r v,rs[i]?=some r->vs[i]?=some v->RR E w.heap 0 i r.1 r.2 v)->
   Calls P f vs.toArray w λe w'=>Y7 w w'/\∃v E',e=.returned v/\Pr P9 E w.heap E' w'.heap/\(∀b o,w'.heap.size<=b->E'.O b o=.other)/\q.2.length=E'.n/\(∀(i:Nat) ob,q.2[i]?=some ob->RO E' w'.heap i ob)/\B0a E' w'.heap s.results q.1 v
def isGo:Bool :=
 match P.funcs[f]? with
 |some fn=>fn.name != "runtime.NumGoroutine"&&fn.body.isSome
 |none=>false
def vW(sz:Nat):Prop :=∀(S:AU)(w:World)(v:Value)(ds:List DV),ds.length<=Q8->(∀b o,w.heap.size<=b->¬S b o)->RV S w.heap (.list sz ds) v->Calls P f #[v] w λe w'=>∃(a:Option Addr)(b off cap:Nat),e=.returned (.slice a ds.length cap)/\(ds≠[]->a=some ⟨b,off,none⟩)/\ds.length<=cap/\(a=none->cap=0)/\(∀x,a=some x->x.spot=none)/\w.heap.size<=w'.heap.size/\Y7 w w'/\(∀b',b'<w.heap.size->w'.heap[b']?=w.heap[b']?) /\(ds≠[]->w.heap.size<=b/\∃c T,w'.heap[b]?=some (.cells c T (0,0))/\off+ds.length * sz<=c.size/\0<sz /\∀(j:Nat) d,ds[j]?=some d->∃vs:List Value,vs.length=sz/\(∀(x:Nat) u,vs[x]?=some u->c[off+j * sz+x]?=some u)/\RC S w'.heap d vs)
def A99(g:FuncId)(n:Nat):Prop :=∀(w:World)(vs:Array Value),vs.size=n->Calls P f #[.agg vs] w λe w'=>e=.returned (.func (.func g) #[] #[.pointer (some ⟨w.heap.size,0,none⟩)])/\∃T,w'=w.alloc (.cells vs T)
structure PD(n:Nat)(E:Env)(w w':World):Prop where
 size:w.heap.size<=w'.heap.size
 blk:∀b,b<w.heap.size->w'.heap[b]?=w.heap[b]?\/(n<=b/\(∃c T f c',w.heap[b]?=some (.cells c T f)/\w'.heap[b]?=some (.cells c' T f)/\c'.size=c.size)/\∀o,E.O b o=.other)
 out:Y7 w w'
def A0i(g:FuncId)(it:List DV->Option (List DV)):Prop :=
 ∀(cs ds:List DV),it cs=some ds->∀(n l b:Nat)(c:Array Value)(T0:TypeId)(J:Nat->Env->World->Prop)(Jx:World->Prop)(E:Env)(W:World),
   W.heap[b]?=some (.cells c T0 (0,0))->(∀o,o<c.size->E.O b o=.other)->FM E.S W.heap cs c.toList->
   (∀k E' W',J k E' W'->∀b o,W'.heap.size<=b->E'.O b o=.other)->
   (∀k E' W1 W2,J k E' W1->PD W.heap.size E' W1 W2->J k E' W2)->
   (∀k E' W1 d v,J k E' W1->ds[k]?=some d->RV E'.S W1.heap d v->YieldAt Fence.wide n P l #[v] W1 λe W2=>(e=.returned (.bool true)/\∃E2,J (k+1) E2 W2/\Pr P9 E' W1.heap E2 W2.heap)\/(e=.returned (.bool false)/\Jx W2))->
   J 0 E W->CallsIn Fence.wide n P g #[.func (.yield l) #[] #[],.pointer (some ⟨b,0,none⟩)] W λe W'=>(∃v,e=.returned v)/\((∃E',J ds.length E' W')\/Jx W')
structure Im(C:Ba)(R:O9):Prop where
 p:∀f ds d,R.p f ds=some d->isGo C.P f=true/\B1V C.P f ds d
 r:∀f rs sg q,R.r f rs sg=some q->∃s,C.sig f=some s/\isGo C.P f=true/\B5A C.P f s rs sg q
 c:∀f,C.clone f=true->isGo C.P f=true/\vW C.P f (C.jD f)
 m:∀f g,C.eQ f=some g->isGo C.P f=true/\A99 C.P f g (C.jD f)
 i:∀g it,C.iter g=some it->isGo C.P g=true/\A0i C.P g it
structure vZ(E E':Env)(tg tg':Tag):Prop where
 hs:∀b o,E.O b o=.Q6->E'.O b o=.Q6
 ht:∀b o,E.O b o=tg->E'.O b o=tg'
 obj:E'.obj=E.obj
 base:E'.base=E.base
 n:E'.n=E.n
 top:E'.top=E.top
 Q7:E'.Q7=E.Q7
variable {E:Env}{E':Env}{tg:Tag}{h:Heap}
def vZ.le{tg':Tag}(T:vZ E E' tg tg'):AC E.S h E'.S h:=⟨λb o hs=>T.hs b o hs,λ_ _ _ _ hv=>hv⟩
variable {d:DV}{m:F4}{v:Value}
def L8.to{tg':Tag}(T:vZ E E' tg tg')(hl:∀s o,m ≠ .loc s o)(R:L8 E h tg d m v):L8 E' h tg' d m v:=by
 have J5:=T.le (h:=h);have hI:E'.In=E.In:=by funext i;simp only[Env.In,T.n,T.Q7]
 cases m<;>simp only[L8]at R ⊢
 case val=>exact R.mono J5
 case full=>exact⟨R.1.mono J5,R.2⟩
 case own=>obtain⟨r1,sz,ds,r2,r3⟩:=R;refine⟨r1.mono J5,sz,ds,r2,λx len cap hv P8=>?_⟩;obtain⟨c,T',g,e1,e2,e3⟩:=r3 x len cap hv P8;refine⟨c,T',g,e1,e2,λo ho ho'=>?_⟩;obtain⟨e4,e5⟩:=e3 o ho ho';exact⟨T.ht _ _ e4,e5⟩
 case loc s o=>exact absurd rfl (hl s o)
 case QA ag sz o=>obtain⟨b,o0,r1,r2,r3⟩:=R;exact⟨b,o0,r1,r2.mono J5,r3⟩
 case ptr i o=>rw[T.obj,hI];exact R
 case KG=>exact R
 case map i=>rw[T.obj,hI];exact R
 case RL=>exact R
 case arr i sz off len=>rw[T.obj,hI,T.base,T.top];exact R
 case opt i sz idx=>rw[T.obj,hI,T.base];exact R
 case XY i sz idx o=>rw[T.obj,hI,T.base];exact R
 case Q0 i n sz len=>rw[T.obj,T.n,T.base,T.top,T.Q7];exact R
 case fO i n sz idx o=>rw[T.obj,T.n,T.base,T.Q7];exact R
 case fn f caps=>rw[T.obj,hI];exact R
 case U3 i n sz=>rw[T.obj,T.n,T.base,T.top,T.Q7];exact⟨R.1.mono J5,R.2⟩
 case Hl ks=>obtain⟨r0,b,clk,r1,r2,r3⟩:=R;exact⟨r0,b,clk,r1,r2,λo=>T.ht _ _ (r3 o)⟩
def RO.to{i:Nat}{ob:E5}(T:vZ E E' (.obj i) (.obj i))(hs:∀j b o,E.O b o=.sp 2 i j->E'.O b o=.sp 2 i j)(R:RO E h i ob):RO E' h i ob:=by
 have J5:=T.le (h:=h);cases ob with
 |box cs=>
   simp only[RO]at R ⊢;obtain⟨c,T0,h1,h2,h3,h4⟩:=R;rw[T.obj];refine⟨c,T0,h1,h2,λo=>?_,λj r v hr hv=>?_⟩
   ·rcases h3 o with h5 | h5
    ·exact .inl (T.ht _ _ h5)
    ·exact .inr h5
   ·obtain⟨a1,a2,a3,a4⟩:=h4 j r v hr hv;exact⟨a1,a2,a3,a4.to ⟨T.hs,hs j,T.obj,T.base,T.n,T.top,T.Q7⟩ λs o hm=>by rw[hm]at a3;simp[Y8]at a3⟩
 |arr sz ds=>simp only[RO]at R ⊢;intro hne;obtain⟨c,T0,h1,h2,h3,h4,h5⟩:=R hne;rw[T.obj,T.base];refine⟨c,T0,h1,h2,h3,λo q1 q2=>T.ht _ _ (h4 o q1 q2),λj d hd=>?_⟩;obtain⟨vs,v1,v2,v3⟩:=h5 j d hd;exact⟨vs,v1,v2,v3.mono J5⟩
 |opn sz pre ds=>simp only[RO]at R ⊢;obtain⟨c,T0,f,h1,h2,Qz,hz,h3,h4,h5⟩:=R;rw[T.obj,T.base,T.top];refine⟨c,T0,f,h1,h2,Qz,hz,λo q1 q2=>⟨T.ht _ _ (h3 o q1 q2).1,(h3 o q1 q2).2⟩,λj d hd=>(h4 j d hd).mono J5,λj d hd=>?_⟩;obtain⟨vs,v1,v2,v3⟩:=h5 j d hd;exact⟨vs,v1,v2,v3.mono J5⟩
 |Q0 n sz ds=>
   simp only[RO]at R ⊢;obtain⟨hv,hn,hz,R⟩:=R;rw[T.obj,T.base,T.top,T.Q7];refine⟨hv,hn,hz,?_⟩;rcases R with R | ⟨c,T0,f,h1,h2,Qz,h3,h5⟩
   ·exact .inl R
   right;refine⟨c,T0,f,h1,h2,Qz,λo q1 q2=>⟨T.ht _ _ (h3 o q1 q2).1,(h3 o q1 q2).2⟩,λj d hd=>?_⟩;obtain⟨vs,v1,v2,v3⟩:=h5 j d hd;exact⟨vs,v1,v2,v3.mono J5⟩
 |U3 n sz len=>
   simp only[RO]at R ⊢;obtain⟨hv,hn,hz,R⟩:=R;rw[T.obj,T.base,T.top,T.Q7];refine⟨hv,hn,hz,?_⟩;rcases R with R | ⟨c,T0,f,h1,h2,Qz,h3⟩
   ·exact .inl R
   ·exact .inr ⟨c,T0,f,h1,h2,Qz,λo q1 q2=>⟨T.ht _ _ (h3 o q1 q2).1,(h3 o q1 q2).2⟩⟩
 |map ks es=>simp only[RO]at R ⊢;obtain⟨ens,clk,h1,h2,⟨h3,h4⟩,h5⟩:=R;rw[T.obj];exact⟨ens,clk,h1,λo=>T.ht _ _ (h2 o),⟨h3,λj e n g1 g2=>let⟨a1,a2,a3⟩:=h4 j e n g1 g2;⟨a1,a2.mono J5,a3.mono J5⟩⟩,h5⟩
def St.FX(st:St)(sg:List E5):St:={ st with sg }
section
variable {X:Type}{C:Ba}{R:O9}{o:Oper}{st:St}{k:St->Option X}{x:X}{E:Env}{a:Act}{w:World}{K:Act->World->Prop}{Q:Exit->Act->World->Prop}{h':Heap}
def K9.ext(Rl:K9 E st a h)(P:Pr (λ_=>False) E h E' h')(hn:E'.n=E.n)(hf:∀b o,h'.size<=b->E'.O b o=.other):K9 E' st a h':=by have J5:=P.Q6 (by simp) Rl.fresh;exact⟨Rl.size,Rl.Ac,Rl.CY,by rw[hn];exact Rl.n,λt v hv=>(Rl.Bi t v hv).mono P J5 (by simp) (by simp),λs cs hs=>by rw[P.gJ s (by simp)];exact(Rl.Z7 s cs hs).mono P J5 (by simp) (by simp),λi ob hi=>(Rl.U7 i ob hi).mono P J5 (by rw[<- Rl.n];exact(z0q.1 hi).1) (by simp) (by simp),hf⟩
open Classical in
noncomputable def Env.after(E:Env)(n:Nat)(S':AU):Env:={ E with O:=λb o=>if b<n then E.O b o else if S' b o then .Q6 else .other }
variable {S':AU}
def B3U(H:Ext E.S h S' h'):Pr (λ_=>False) E h (E.after h.size S') h':=by refine⟨H.size,λb hb=>by rw[H.blk b hb];exact X3.refl _ _,λb o hb _=>?_,zbq _,λ_ _ _=>⟨rfl,rfl,rfl⟩,λ_ _=>rfl,D_ rfl⟩;simp only[Env.after];rw[C9 hb]
def B3V(H:Ext E.S h S' h'):AC S' h' (E.after h.size S').S h':=by
 refine⟨λb o hs=>?_,λ_ _ _ _ hv=>hv⟩;simp only[Env.S,Env.after]
 by_cases hb:b<h.size
 ·rw[C9 hb];exact(H.s b o hb).1 hs
 ·rw[A7 hb,C9 hs]
variable {f:FuncId}
def pM{args:Array Value}(hr:(execOp a.eval o).run C.P w=.ok (.enter f args) w)(hc:Calls C.P f args w λe w'=>∃v,e=.returned v/\K (a.put o.dst v) w'):Gp C.P o a w K :=.inr (.inr ⟨f,args,hr,hc⟩)
variable {P:Program}
def vF(h:isGo P f=true)(args:Array Value)(w:World):(callFunc f args).run P w=.ok (.enter f args) w:=by
 unfold isGo at h;split at h
 ·rename_i fn hf;simp only[zaq,bne_iff_ne,ne_eq]at h;unfold callFunc;obtain⟨c,hc⟩:=zwq.1 h.2;simp[hf,h.1,hc]
 ·simp at h
variable {ts:List TypeId}{xs:List Operand}{rs:List (DV×F4)}
def A3W(Rl:K9 E st a w.heap)(h:KI P st ts xs=some rs):rs.length=xs.length/\∀(i:Nat) r v,rs[i]?=some r->(xs.map a.eval)[i]?=some v->
 ∃y t,xs[i]?=some y/\v=a.eval y/\src P t st y=some r/\RR E w.heap 0 (fA y) r.1 r.2 v:=by
 obtain⟨l1,l2⟩:=fH h;refine⟨l1,λi r v hr hv=>?_⟩;simp only[zxq,znq]at hv;obtain⟨y,hy,rfl⟩:=hv;obtain⟨t,ht⟩:=l2 i y r hy hr;exact⟨y,t,hy,rfl,ht,Rl.src ht⟩
def B5i{vs:List Value}(hO:Im C R)(V3:(execOp a.eval o).run C.P w=.ok (.enter f vs.toArray) w)(hl:rs.length=vs.length)(hrs:∀(i:Nat) r v,rs[i]?=some r->vs[i]?=some v->∃p q,RR E w.heap p q r.1 r.2 v)(H:og (rs.all λr=>K6 r.2) (ob (R.p f (rs.map (·.1))) λd=>k (st.put o.dst d .val))=some x)(Rl:K9 E st a w.heap)(T:Then E w k x K):Gp C.P o a w K:=by
 obtain⟨hd,H⟩:=H6 H;obtain⟨d,Pf,H⟩:=D6 H;refine pM V3 (((hO.p f _ d Pf).2 E.S w vs (λb o hb hs=>by have h9:=Rl.fresh b o hb;rw[show E.O b o=Tag.Q6 from hs]at h9;cases h9) (Vv.2 ⟨by simpa using hl,λi d' v Ep hv=>?_⟩)).mono ?_)
 ·simp only[zxq,znq]at Ep;obtain⟨r,hr,rfl⟩:=Ep;obtain⟨p,q,h⟩:=hrs i r v hr hv;exact h.data (zlq.1 hd r (zkq hr))
 ·rintro e w' ⟨v,S',he,hE,hR,WM⟩;have P1:=B3U hE;refine⟨v,he,T _ _ _ w' H ((Rl.ext P1 rfl λb o hb=>?_).put λt0 _=>?_) (P1.Z9 (by simp)) WM⟩
  ·simp only[Env.after]
   have:=hE.size;rw[A7 (by omega),A7 (hE.fresh b o hb)]
  ·exact RR.val (hR.mono (B3V hE))
def Bp:Tag->Tag
 |.Q6=>.Q6
 |.obj i=>.obj i
 |.sp 2 i j=>.sp 2 i j
 |.sp 4 i b=>.sp 0 i b
 |_=>.other
def Vy(t:Nat)(one:Bool):Tag->Tag
 |.Q6=>.Q6
 |.obj i=>.obj i
 |.sp 2 i j=>.sp 2 i j
 |.sp 3 i 0=>.sp 0 t (if one then 0 else i+1)
 |.sp 3 _ (b+1)=>if one then .sp 0 t (b+1)else .other
 |_=>.other
open Classical in
noncomputable def Env.back(E E1:Env)(n:Nat)(t:Nat)(one:Bool):Env :={ E1 with blk:=E.blk,O:=λb o=>if b<n/\Bp (E.O b o)=.other then E.O b o else Vy t one (E1.O b o) }
def Zt(g:Option (Nat×Operand))(T:Tag):Tag :=
 match g with
 |some p=>eT p.2 4 p.1 T
 |none=>T
def qR:∀{ks:List MK}{xs:List Operand}{i0:Nat}{p:Nat×Operand},Gg i0 ks xs=some p->i0<=p.1/\(∃k,ks[p.1-i0]?=some k/\EA k=true)/\xs[p.1-i0]?=some p.2
 |[],xs,i0,p,h=>by simp[Gg]at h
 |k::ks,[],i0,p,h=>by simp[Gg]at h
 |k::ks,y::xs,i0,p,h=>by
   simp only[Gg]at h;split at h
   ·rename_i hk;simp only[D8]at h;subst h;exact⟨zbq _,⟨k,by simp,hk⟩,by simp⟩
   ·obtain⟨h1,h2,h3⟩:=qR h;have:p.1-i0=(p.1-(i0+1))+1:=by omega
    exact⟨by omega,by rw[this];simpa using h2,by rw[this];simpa using h3⟩
def ko:∀{ks:List MK}{xs:List Operand}{i0 i:Nat}{k:MK}{y:Operand},(ks.filter EA).length<=1->ks[i]?=some k->EA k=true->xs[i]?=some y->Gg i0 ks xs=some (i0+i,y)
 |[],xs,i0,i,k,y,_,h,_,_=>by simp at h
 |k0::ks,[],i0,i,k,y,_,_,_,h=>by simp at h
 |k0::ks,z::xs,i0,0,k,y,_,h,hk,h2=>by simp only[zgq,D8]at h h2;subst h h2;simp[Gg,hk]
 |k0::ks,z::xs,i0,i+1,k,y,hl,h,hk,h2=>by
   simp only[zrq]at h h2;have C0h:k∈ks.filter EA:=List.mem_filter.2 ⟨zkq h,hk⟩;have hpos:0<(ks.filter EA).length:=List.length_pos_of_mem C0h;have hk0:¬EA k0=true:=by intro h0;simp only[ylq,h0,F5,zzq]at hl;omega
   have:=ko (i0:=i0+1) (xs:=xs) (by simpa[ylq,hk0]using hl) h hk h2;simp only[Gg,A7 hk0];rw[this];congr 2;omega
def yZ:∀{ks:List MK}{rs:List (DV×F4)}{i:Nat}{r:DV×F4},(Jc ks rs)[i]?=some r->∃r0,rs[i]?=some r0/\r.1=r0.1/\((∃k,ks[i]?=some k/\EA k=true/\r.2=Xx r0.2 k)\/((∀k,ks[i]?=some k->EA k=false)/\r.2=YY r0.2))
 |[],rs,i,r,h=>by simp only[Jc,zxq,znq]at h;obtain⟨r0,h1,rfl⟩:=h;exact⟨r0,h1,rfl,.inr ⟨by simp,rfl⟩⟩
 |k::ks,[],i,r,h=>by simp[Jc]at h
 |k::ks,r0::rs,0,r,h=>by
   simp only[Jc,zgq,D8]at h;subst h;refine⟨r0,rfl,rfl,?_⟩;cases k
   ·exact .inr ⟨by simp[EA],rfl⟩
   ·exact .inl ⟨_,rfl,rfl,rfl⟩
   ·exact .inr ⟨by simp[EA],rfl⟩
   ·exact .inl ⟨_,rfl,rfl,rfl⟩
 |k::ks,r0::rs,i+1,r,h=>by simp only[Jc,zrq]at h;obtain⟨q,h1,h2,h3⟩:=yZ h;exact⟨q,by simpa using h1,h2,by simpa using h3⟩
def lJ:∀{ks:List MK}{rs:List (DV×F4)},(Jc ks rs).length=rs.length
 |[],rs=>by simp[Jc]
 |k::ks,[]=>by simp[Jc]
 |k::ks,r::rs=>by simp[Jc,lJ]
def B0a.back{E1:Env}{ks:List MK}{ds:List DV}{t:Nat}(R:B0a E1 h ks ds v)(Ao:A43 ks=true)(T:∀i,vZ E1 E' (.sp 3 i 0) (.sp 0 t (if ks.length=1 then 0 else i+1)))(T2:ks.length=1->∀b,vZ E1 E' (.sp 3 0 (b+1)) (.sp 0 t (b+1))):
 RR E' h 0 t (OA ks ds).1 (OA ks ds).2 v:=by
 obtain⟨hl,vs,hv,rfl,H⟩:=R;unfold OA;split
 ·rename_i k;simp only[zzq,y5q,zfq]at hl hv T T2;obtain⟨d,rfl⟩:=zpq.1 hl;obtain⟨u,rfl⟩:=zpq.1 hv;have:=H 0 k d u rfl rfl rfl;simp only[List.getD_cons_zero];cases k with
  |val=>exact RV.mono (T 0).le d this
  |own=>exact RR.AJ (L8.to (T 0) (m:=.own) (by simp) this)
  |ptr=>
    have key:∀m:F4,m.owns=false->(∀s o,m ≠ .loc s o)->L8 E1 h .other (Mc .ptr d).1 m u->L8 E' h (.sp 0 t 0) (Mc .ptr d).1 m u:=by intro m h1 h2 h3;exact L8.to (T 0) h2 (h3.tag h1)
    have hm:(Mc .ptr d).2.owns=false/\∀s o,(Mc .ptr d).2 ≠ .loc s o:=by
     unfold Mc;constructor
     ·simp only;split<;>simp[F4.owns]
     ·intro s o;simp only;split<;>simp
    exact RR.AJ (key _ hm.1 hm.2 this)
  |YC n os=>simp only[B0b,RR,Mc]at this ⊢;obtain⟨ds,us,h1,h2,h3,h4,h5⟩:=this;refine⟨ds,us,h1,h2,h3,h4,λi m' d' u' e1 e2 e3=>?_⟩;obtain⟨a1,a2,a3,a4⟩:=h5 i m' d' u' e1 e2 e3;exact⟨a1,a2,a3,L8.to (T2 trivial i) (λs o hm=>by rw[hm]at a3;simp[Y8]at a3) a4⟩
 ·rename_i hne;have B4C:ks.length≠1:=λh=>by obtain⟨k,hk⟩:=zpq.1 h;exact hne k hk
  have uK:∀k∈ks,k=.val\/k=.own:=by intro k hk;unfold A43 at Ao;simp only[ypq,beq_iff_eq,B4C,false_or]at Ao;have:=zlq.1 Ao k hk;cases k<;>simp_all
  have hvt:(match vs with | [u]=>u | _=>Value.tuple vs.toArray)=.tuple vs.toArray:=by
   split
   ·simp only[zzq,y5q,zfq]at hv;exact absurd hv.symm B4C
   ·rfl
  rw[hvt];simp only[RR];refine⟨ds,vs.toArray,rfl,rfl,by simp[hl],by simp[hv],λi m' d' u e1 e2 e3=>?_⟩;simp only[zxq,znq]at e1;obtain⟨k,hk,rfl⟩:=e1;have:=H i k d' u hk e2 (by simpa using e3);have T1:=T i;rw[A7 B4C]at T1;rcases uK k (zkq hk)with rfl | rfl
  ·exact⟨rfl,RV.mono T1.le d' this⟩
  ·exact⟨rfl,L8.to T1 (m:=.own) (by simp) this⟩
variable {g:Option (Nat×Operand)}
theorem En{T:Tag}(h:∀p s b,g=some p->p.2=.tmp s->T ≠ .sp 0 s b):Zt g T=T:=by
 unfold Zt;split
 ·rename_i p;exact Px λs b hs=>h p s b rfl hs
 ·rfl
def A8B(Rl:K9 E st a h):K9 (E.re (Zt g)) (st.JZ g) a h:=by
 cases g with
 |none=>simp only[St.JZ];exact(Rl.release (x:=.const .nilIface) (f:=Zt none) λT _=>rfl)
 |some p=>exact Rl.release λT hT=>En λp' s b hp hs=>by simp only[D8]at hp;subst hp;exact hT s b hs
def B6p(h:K6 m=true):K6 (dm m)=true:=by
 cases m<;>first | rfl | (simp[K6]at h;done) | skip
 rename_i ms;simp only[K6,dm,List.all_map]at h ⊢;refine zlq.2 λm hm=>?_;have:=zlq.1 h m hm;cases m<;>simp_all[XX]
def B7U{E:Env}{k a:Nat}(R:RR E h k a d m v):RR E h k a d (YY m) v:=by
 unfold YY;split
 ·rename_i hd;exact RR.val (R.data hd)
 ·exact R.dm
def A3I:∀{os:List Nat}{ms:List F4}{i0 i:Nat}{m:F4},(eZ os i0 ms)[i]?=some m->∃m0,ms[i]?=some m0/\m=if os.contains (i0+i)then Ow m0 else YY m0
 |os,[],i0,i,m,h=>by simp[eZ]at h
 |os,m0::ms,i0,0,m,h=>by simp only[eZ,zgq,D8]at h;exact⟨m0,rfl,h.symm⟩
 |os,m0::ms,i0,i+1,m,h=>by simp only[eZ,zrq]at h;obtain⟨m1,h1,h2⟩:=A3I h;exact⟨m1,by simpa using h1,by rw[h2,zQq,Nat.add_comm 1 i]⟩
def bH:∀{os:List Nat}{ms:List F4}{i0:Nat},(eZ os i0 ms).length=ms.length
 |os,[],i0=>rfl
 |os,m::ms,i0=>by simp[eZ,bH]
def L8.Ow{E:Env}(R:L8 E h tg d m v):L8 E h tg d (Su.Ow m) v:=by cases m<;>first | exact R | exact R.nN
def L8.YY{E:Env}(hm:Y8 m=true)(R:L8 E h tg d m v):L8 E h tg d (Su.YY m) v/\Y8 (Su.YY m)=true:=by
 unfold Su.YY;split
 ·rename_i hd;refine⟨?_,rfl⟩;have Ep:Xo m=true:=by cases m<;>simp_all[K6,Y8,Xo]
  exact ic Ep R
 ·exact⟨R.Bg hm,(Su.Bg hm).2.1⟩
def A3H{E:Env}{k a:Nat}{q:MK}(hq:EA q=true)(R:RR E h k a d m v):RR E h k a d (Xx m q) v:=by
 cases q with
 |val=>cases hq
 |ptr=>cases hq
 |own=>
   by_cases hm:m=.full
   ·subst hm;exact RR.AJ (L8.nN (RR.vR (by simp) (by simp) R))
   ·have:Xx m .own=m:=by unfold Xx;split<;>simp_all
    rw[this];exact R
 |YC n os=>
   by_cases hm:∃ms,m=.Eb ms
   ·obtain⟨ms,rfl⟩:=hm;simp only[Xx,RR]at R ⊢;obtain⟨ds,vs,h1,h2,h3,h4,h5⟩:=R;refine⟨ds,vs,h1,h2,by rw[bH];exact h3,by rw[bH];exact h4,λi m' d' u e1 e2 e3=>?_⟩;obtain⟨m0,g1,rfl⟩:=A3I e1;obtain⟨a1,a2,a3,a4⟩:=h5 i m0 d' u g1 e2 e3;split
    ·exact⟨a1,a2,by cases m0<;>simp_all[Su.Ow,Y8],a4.Ow⟩
    ·exact⟨a1,a2,(a4.YY a3).2,(a4.YY a3).1⟩
   ·have:Xx m (.YC n os)=YY m:=by unfold Xx;split<;>first | rfl | (rename_i h1 h2;simp_all)
    rw[this];exact B7U R
def B7a{s:Z8}{extra:List (DV×F4)}{ev:List Value}(hO:Im C R)(hs:C.sig f=some s)(V3:(execOp a.eval o).run C.P w=.ok (.enter f (xs.map a.eval++ev).toArray) w)(hsr:KI C.P st ts xs=some rs)(yL:extra.length=ev.length)(IL:∀(i:Nat) r v,extra[i]?=some r->ev[i]?=some v->∀p q,RR E w.heap p q r.1 r.2 v/\r.2 ≠ .own/\r.2 ≠ .full)(H:og (((rs++extra).all λr=>B5T r.2)&&decide ((s.params.filter EA).length<=1)&&A43 s.results)
   (ob (R.r f (Jc s.params (rs++extra)) st.sg) λq=>bJ s.results q.1 λr=>k (({ st with sg:=q.2 }.JZ (Gg 0 s.params xs)).put o.dst r.1 r.2))=some x)(Rl:K9 E st a w.heap)(T:Then E w k x K):Gp C.P o a w K:=by
 obtain⟨hg,H⟩:=H6 H;obtain⟨q,hq,H⟩:=D6 H;have H:=(yX H).1;simp only[zaq,I4]at hg;obtain⟨⟨hgo,ah⟩,C0l⟩:=hg;obtain⟨s',EM,C0V,hR⟩:=hO.r f _ _ q hq;rw[hs]at EM;cases EM;generalize hgd:Gg 0 s.params xs=g at H;have xf:K9 (E.re (Zt g)) (st.JZ g) a w.heap:=A8B Rl;have sg0:(st.JZ g).sg=st.sg:=by
  cases g with
  |none=>rfl
  |some p=>simp only[St.JZ];cases p.2<;>rfl
 generalize hE0:E.re (Zt g)=E0 at xf;have E0n:E0.n=E.n:=by rw[<- hE0];rfl
 obtain⟨l1,l2⟩:=A3W Rl hsr;have GZ:(xs.map a.eval++ev).length=(Jc s.params (rs++extra)).length:=by rw[lJ];simp[l1,yL]
 have cs:Bp .Q6=.Q6:=rfl;have co:Bp .other=.other:=rfl;refine pM V3 ((hR (E0.re Bp) w (xs.map a.eval++ev) (λb o hb=>?_) ?_ (λi ob hi=>?_) GZ (λi r v hr hv=>?_)).mono ?_)
 ·simp only[Env.re];rw[xf.fresh b o hb];rfl
 ·rw[<- sg0];exact xf.n
 ·have:=xf.U7 i ob (by rw[sg0];exact hi);exact RO.to (E:=E0) ⟨λb o h=>by simp only[Env.re];rw[h];rfl,λb o h=>by simp only[Env.re];rw[h];rfl,rfl,rfl,rfl,rfl,rfl⟩ (λj b o h=>by simp only[Env.re];rw[h];rfl) this
 ·obtain⟨r0,h1,h2,h3⟩:=yZ hr;have B8F:∀(p q:Nat)(m:F4),RR E w.heap p q r0.1 m v->RR (E0.re Bp) w.heap 0 i r0.1 (dm m) v:=by
   intro p q m hh;have h1:RR E w.heap 2 0 r0.1 (dm m) v:=hh.dm;have h2:RR E0 w.heap 2 0 r0.1 (dm m) v:=by rw[<- hE0];exact h1.re (En (by simp)) (En (by simp)) λb=>En (by simp)
   have h3:RR (E0.re Bp) w.heap 2 0 r0.1 (dm m) v:=h2.re rfl rfl λb=>rfl;exact h3.A5r
  have B5U:∀(p q:Nat)(m:F4),RR E w.heap p q r0.1 m v->RR (E0.re Bp) w.heap 0 i r0.1 (YY m) v:=by
   intro p q m hh;have h0:=B8F p q m hh;unfold YY;split
   ·rename_i hd;exact RR.val (RR.data (B6p hd) h0)
   ·exact h0
  rw[h2];by_cases hi:i<rs.length
  ·rw[z4q hi]at h1;have RD:(xs.map a.eval)[i]?=some v:=by rwa [z4q (by simpa[l1]using hi)]at hv
   obtain⟨y,t,hy,rfl,hsy,hRy⟩:=l2 i r0 v h1 RD;rcases h3 with⟨kk,h4,af,h5⟩ | ⟨h4,h5⟩
   ·rw[h5];have hp:Gg 0 s.params xs=some (0+i,y):=ko ah h4 af hy;rw[zfq,hgd]at hp;subst hp;have h6:RR E0 w.heap 4 i r0.1 r0.2 (a.eval y):=by
     rw[<- hE0];by_cases hyt:∃j,y=.tmp j
     ·obtain⟨j,rfl⟩:=hyt;exact hRy.re (En (by simp)) (En (by simp)) λb=>by simp[Zt,eT,fA]
     ·exact(K9.A9Z hsy (λj hj=>hyt ⟨j,hj⟩) 4 i).re (En (by simp)) (En (by simp)) λb=>En (by simp)
    have h7:RR (E0.re Bp) w.heap 0 i r0.1 r0.2 (a.eval y):=h6.re rfl rfl λb=>rfl;exact A3H af h7
   ·rw[h5];exact B5U _ _ _ hRy
  ·have hge:rs.length<=i:=zNq hi;rw[z6q hge]at h1;rw[z6q (by simpa[l1]using hge)]at hv;simp only[zUq,<- l1]at hv;obtain⟨h6,h7,h8⟩:=IL _ r0 v h1 hv 2 0;have h9:=B5U 2 0 _ h6;rcases h3 with⟨kk,h4,af,h5⟩ | ⟨h4,h5⟩
   ·rw[h5];have Yf:RR E0 w.heap 4 i r0.1 r0.2 v:=by rw[<- hE0];exact(IL _ r0 v h1 hv 4 i).1.re (En (by simp)) (En (by simp)) λb=>En (by simp)
    exact A3H af (Yf.re rfl rfl λb=>rfl)
   ·rw[h5];exact h9
 ·rintro e w' ⟨WM,v,E1,he,P1,hf1,hn1,ho1,B4E⟩;subst he;generalize ht:o.dst.getD 0=t
  let one:Bool:=decide (s.results.length=1)
  have nR:∀i:Nat,(if one=true then 0 else i+1)=(if s.results.length=1 then 0 else i+1):=λi=>by simp[one]
  let E':Env:=E0.back E1 w.heap.size t one
  have B8G:∀b o,E1.O b o ≠ .other->¬(b<w.heap.size/\Bp (E0.O b o)=.other):=by rintro b o h1 ⟨h2,h3⟩;have:=P1.tags b o h2 (by simp only[Env.re];rw[h3];simp[P9]);simp only[Env.re]at this;rw[h3]at this;exact h1 this
  have hO':∀b o T,E1.O b o=T->T ≠ .other->E'.O b o=Vy t one T:=by intro b o T h1 h2;show(if b<w.heap.size/\Bp (E0.O b o)=.other then E0.O b o else Vy t one (E1.O b o))=_;rw[A7 (B8G b o (by rw[h1];exact h2)),h1]
  have Pc:Pr (λT=>P9 (Bp T)) E0 w.heap E' w'.heap:=by
   refine⟨P1.size,λb hb=>P1.blk b hb,λb o hb hn=>?_,P1.n,λi hi hv=>P1.U7 i hi hv,λ_ _=>rfl,λi hi=>P1.Na i hi⟩;show(if b<w.heap.size/\Bp (E0.O b o)=.other then E0.O b o else Vy t one (E1.O b o))=_;by_cases hc:Bp (E0.O b o)=.other
   ·rw[C9 ⟨hb,hc⟩]
   ·rw[A7 λh=>hc h.2];have hsh:Bp (E0.O b o)=.Q6:=by
     by_cases hs:Bp (E0.O b o)=.Q6
     ·exact hs
     ·exact absurd ⟨hc,hs⟩ hn
    have h2:=P1.tags b o hb (by simp only[Env.re];exact hn);simp only[Env.re]at h2;rw[h2,hsh];have:E0.O b o=.Q6:=by revert hsh;unfold Bp;split<;>simp_all
    rw[this];rfl
  have J5:=Pc.Q6 (by simp[P9,Bp]) xf.fresh;have R2:K9 E' ((st.JZ g).FX q.2) a w'.heap:=by
   refine⟨xf.size,xf.Ac,xf.CY,hn1,λu v' hu=>?_,λs' cs' EM=>?_,λi ob hi=>?_,λb o hb=>?_⟩
   ·exact(xf.Bi u v' hu).mono Pc J5 (λb=>by simp[P9,Bp]) (λs o _=>by simp[P9,Bp])
   ·exact(xf.Z7 s' cs' EM).mono Pc J5 (by simp[P9,Bp]) (λj=>by simp[P9,Bp])
   ·exact(ho1 i ob hi).to ⟨λb o h=>hO' b o _ h (by simp),λb o h=>hO' b o _ h (by simp),rfl,rfl,rfl,rfl,rfl⟩ λj b o h=>hO' b o _ h (by simp)
   ·show(if b<w.heap.size/\Bp (E0.O b o)=.other then E0.O b o else Vy t one (E1.O b o))=_;have:=P1.size;rw[A7 (by omega),hf1 b o hb];rfl
  refine⟨v,rfl,T E' _ _ w' ?_ (R2.put (dst:=o.dst) (d:=(OA s.results q.1).1) (m:=(OA s.results q.1).2) (v:=v) λt0 ht0=>?_) ?_ WM⟩
  ·rw[<- H];congr 1;cases g with
   |none=>rfl
   |some p=>simp only[St.JZ];cases p.2<;>rfl
  ·have htt:t=t0:=by rw[<- ht,ht0];rfl
   rw[<- htt];exact B4E.back C0l (λi=>⟨λb o h=>hO' b o _ h (by simp),λb o h=>by rw[hO' b o _ h (by simp)];simp only[Vy];rw[nR],rfl,rfl,rfl,rfl,rfl⟩)
    λh1 i=>⟨λb o h=>hO' b o _ h (by simp),λb o h=>by rw[hO' b o _ h (by simp)];simp[Vy,one,h1],rfl,rfl,rfl,rfl,rfl⟩
  ·have P0:Pr P9 E w.heap E0 w.heap:=by rw[<- hE0];exact Pr.re λT hT=>En λp s b _ _ he=>hT (by rw[he];simp[P9])
   refine P0.trans (Pc.Z9 λT hT=>⟨λh=>?_,λh=>?_⟩)
   ·rw[h]at hT;simp[P9,Bp]at hT
   ·rw[h]at hT;simp[P9,Bp]at hT
end
end Go.Su

/-
 THE DATA MACHINE: a writable array's elements are cleared.
-/
namespace Go.Su
section
variable {X:Type}{C:Ba}{R:O9}{o:Oper}{st:St}{k:St->Option X}{x:X}{E:Env}{a:Act}{w:World}{K:Act->World->Prop}
end
end Go.Su

/-
 THE DATA MACHINE, part 14: vectors grow.
-/
namespace Go.Su
set_option linter.defProp false
section
variable {X:Type}{C:Ba}{R:O9}{o:Oper}{st:St}{k:St->Option X}{x:X}{E:Env}{a:Act}{w:World}{K:Act->World->Prop}{Q:Exit->Act->World->Prop}
def Env.A1Q(E:Env)(i n:Nat):Env:={ E with Q7:=λj=>if j=i then n else E.Q7 j }
def Env.A97(E:Env)(i n b hi:Nat):Env :={ E with obj:=λj=>if j=i then b else E.obj j,base:=λj=>if j=i then 0 else E.base j,top:=λj=>if j=i then hi else E.top j,Q7:=λj=>if j=i then n else E.Q7 j,O:=λb' o=>if b'=b then(if o<hi then .obj i else .other)else if E.O b' o=.obj i then .other else E.O b' o }
def B3M{E:Env}{h:Heap}{i b off top n sz:Nat}{ds es:List DV}{all all':List Value}{c:Array Value}{T:TypeId}{f:Nat×Nat}(ho:E.obj i=b)(hb:E.base i=off)(ht:E.top i=top)(hv:E.Q7 i=n)(hn:0<n)(hpos:0<sz)(hc:h[b]?=some (.cells c T f))(BQ:off+(ds.length+es.length) * sz<=top)(IK:top<=c.size)(tags:∀o,off<=o->o<top->E.O b o=.obj i/\¬(f.1<=o/\o<f.2))(F:Ia E.S h sz ds all)(G:Ia E.S h sz es all')(cells:∀(j:Nat) u,all[j]?=some u->c[off+j]?=some u)(cells':∀(j:Nat) u,all'[j]?=some u->c[off+ds.length * sz+j]?=some u):RO E h i (.Q0 n sz (ds++es)):=by
 simp only[RO];rw[ho,hb,ht];refine⟨hv,hn,hpos,.inr ⟨c,T,f,hc,by rw[ygq];exact BQ,IK,tags,λj d hd=>?_⟩⟩;by_cases hj:j<ds.length
 ·rw[z4q hj]at hd;obtain⟨vs,v1,v2,v3⟩:=F.2 j d hd;exact⟨vs,v1,λy u hu=>by rw[zQq];exact cells _ u (v2 y u hu),v3⟩
 ·rw[z6q (by omega)]at hd;obtain⟨vs,v1,v2,v3⟩:=G.2 _ d hd;refine⟨vs,v1,λy u hu=>?_,v3⟩;have:=cells' _ u (v2 y u hu);have e:j * sz=ds.length * sz+(j-ds.length) * sz:=by rw[<- zqq];congr 1;omega
  rw[e]
  rwa [show off+(ds.length * sz+(j-ds.length) * sz)+y=off+ds.length * sz+((j-ds.length) * sz+y)by omega]
def B5x{E:Env}{h:Heap}{i n sz m:Nat}{ds:List DV}(H:RO E h i (.Q0 n sz ds))(hm:m<=ds.length):∃all,Ia E.S h sz (ds.take m) all/\∀(j:Nat) u,all[j]?=some u->hc h (E.obj i) (E.base i+j)=some u:=by
 simp only[RO]at H;obtain⟨-,-,hz,H⟩:=H;rcases H with⟨rfl,-⟩ | ⟨c,T,f,h1,h2,Qz,h3,h5⟩
 ·have:m=0:=by simpa using hm
  subst this;exact⟨[],⟨by simp,by simp⟩,by simp⟩
 have hmul:m * sz<=ds.length * sz:=z9q _ hm;have Ca:(c.toList.drop (E.base i)).take (m * sz)=(c.toList.drop (E.base i)).take (m * sz):=rfl;refine⟨(c.toList.drop (E.base i)).take (m * sz),⟨?_,λj d hd=>?_⟩,λj u hu=>?_⟩
 ·simp only[zTq,List.length_drop,yfq]
  rw[ymq (by omega),ymq hm]
 ·have hj:j<m:=by have:=(z0q.1 hd).1;simp only[zTq]at this;omega
  rw[zFq hj]at hd;obtain⟨vs,v1,v2,v3⟩:=h5 j d hd;refine⟨vs,v1,λy u hu=>?_,v3⟩;have hy:y<sz:=by have:=(z0q.1 hu).1;omega
  have P8:j * sz+y<m * sz:=by
   calc j * sz+y<j * sz+sz:=by omega
    _=(j+1) * sz:=by rw[zAq]
    _<=m * sz:=z9q _ hj
  rw[zFq P8,yhq,<- zQq,y6q];exact v2 y u hu
 ·have hj:j<m * sz:=by have:=(z0q.1 hu).1;simp only[zTq]at this;omega
  rw[zFq hj,yhq,y6q]at hu;unfold hc;rw[h1];exact hu
variable {fl:H8}
def B5k{c:Call}{y v:Operand}{t u:TypeId}(F7:o.op=.call c)(zP:c.callee=.builtin .append)(ha:c.args.toList=[y,v])(ht:c.argTypes.toList=[t,u])(Ph:I9 fl.OO o.dst=false)(Ot:I9 fl.Dl o.dst=true)(H:Dx C fl o y v t u st k=some x)(Rl:K9 E st a w.heap)(T:Then E w k x K):Gp C.P o a w K:=by
 unfold Dx at H;rw[A7 (by rw[Ph];simp),C9 Ot]at H;unfold A0Z at H;obtain⟨r,h1,H⟩:=D6 H;obtain⟨s,h2,H⟩:=D6 H;obtain⟨sz,Ca,H⟩:=D6 H;obtain⟨yJ,H⟩:=H6 H;simp only[zaq]at yJ;obtain⟨Us,EL⟩:=yJ;obtain⟨t0,EL⟩:=zwq.1 EL;obtain⟨e,e',z,inf,zv,hu,CR,hz,Hg,hpos,Ap,Ur,RF,Vn⟩:=UN Ca;have e1:=Rl.src h1;have e2:=(Rl.src h2).data Us;have Cz:inf.size=sz:=by obtain⟨i',d',q1,-,q2,-⟩:=IU hz;rw[Ap]at q1;simp only[D8]at q1;rw[<- Hg,q2,q1]
 have V3:∀v' w',(Builtin.append_ #[t,u] o.type #[a.eval y,a.eval v]).run C.P w=.ok v' w'->(execOp a.eval o).run C.P w=.ok (.value v') w':=by intro v' w' hv;refine Hd F7 zP ?_;rw[Nu ht,show c.args.map a.eval=#[a.eval y,a.eval v]from by rw[Nu ha];simp];exact CO hv
 rw[EL]at H;have hn:=Rl.n;obtain⟨q,hq,H⟩:=D6 H
 ·have hm:=A1P hq;rw[hm]at e1;simp only[RR,L8]at e1;obtain⟨p,hp,H⟩:=D6 H;obtain⟨hg,H⟩:=H6 H;obtain⟨d2,hd,H⟩:=D6 H;simp only[zaq,beq_iff_eq,I4]at hg;obtain⟨⟨g1,g2⟩,g3⟩:=hg;have hpv:=ZT hp;clear hp;obtain⟨i,n,sz',len⟩:=q;obtain⟨psz,ds⟩:=p;simp only at g1 g2 g3 hpv e1 H;have g1:=g1.symm;have g2:=g2.symm;subst g1;subst g2;obtain⟨ds',es,hr,hs,YK,hne,rfl⟩:=lq hd;simp only[DV.list.injEq,true_and]at hr;subst hr;simp only at H;rw[hs]at e2;obtain⟨b',len',cap',all',ev',k1,k2,k3,k4,k5,k6,k7⟩:=Kk (P:=C.P) e2;obtain⟨r1,r2,r3,b,cap,ev,f2,f3,f4,f5⟩:=e1;have B:=Rl.U7 i _ hpv;have BB:=B;simp only[RO]at BB;obtain⟨bv,b0,-,BB⟩:=BB;have f5:=f5 bv;obtain⟨all,F,Fc⟩:=B5x B g3;have P8:(ds.take len).length=len:=by rw[zTq];omega
  have MQ:Builtin.lenOf (a.eval v)=pure len':=by rw[ev'];rfl
  have nR:=k4.one hpos;have hal:all.length=len * sz:=by rw[F.1,P8]
  have B4w:all'.length=len' * sz:=by rw[k4.1,k1]
  have IY:=(z0q.1 hpv).1;have hln:0<len':=by omega
  have wH:(len+len') * sz=len * sz+len' * sz:=zqq _ _ _;by_cases BQ:len+len'<=cap
  ·obtain⟨hb,zT⟩:=f5 (by omega);subst hb;have uL:0<cap * sz:=y8q (by omega) hpos;obtain⟨cc,TT,f,c1,c2,c2',c3,c5⟩:=BB.resolve_left λh=>by have:=h.2;omega
   have hmul:(len+len') * sz<=cap * sz:=z9q _ BQ;obtain⟨w',hw,S⟩:=Jb (P:=C.P) (b:=E.obj i) (T:=TT) (f:=f) (E.base i+len * sz) all' cc 0 w c1 (by omega) nR (λo' h3 h4=>(c3 o' (by omega) (by omega)).2);have Ab:(Builtin.append_ #[t,u] o.type #[a.eval y,a.eval v]).run C.P w=.ok (.slice (some ⟨E.obj i,E.base i,none⟩) (len+len') cap) w':=by rw[ev];refine IP hu CR Ap MQ (by rw[Cz];exact k7 w rfl) BQ ?_;rw[Cz,Addr.add_lit];exact hw
   simp only[zBq]at S;have vE:(E.A1Q i (n+1)).Q7 i=n+1:=C9 rfl;have PS:Pr (λT=>T=.obj i) E w.heap (E.A1Q i (n+1)) w'.heap:=by
    refine⟨zJq S.size.symm,λb1 Ko=>?_,λb1 o1 Ko hT=>rfl,zbq _,λj hj _=>⟨rfl,rfl,rfl⟩,λ_ _=>rfl,λj hj=>?_⟩
    ·by_cases Uq:b1=E.obj i
     ·subst Uq;rw[c1];obtain⟨c',q1,q2,q3⟩:=S.ex;refine⟨c',q1,q2,λj hj=>?_⟩;rw[q3 j,A7];rintro⟨q4,q5⟩;exact hj (c3 j (by omega) (by omega)).1
     ·rw[S.rest b1 Uq];exact X3.refl _ _
    ·by_cases Vl:j=i
     ·subst Vl;rw[vE];exact⟨λh=>by omega,by omega,λh=>absurd rfl h⟩
     ·have:(E.A1Q i (n+1)).Q7 j=E.Q7 j:=A7 Vl;rw[this];exact⟨id,zbq _,λ_=>rfl⟩
   have CL:=PS.Q6 (by simp) Rl.fresh;have R2:K9 (E.A1Q i (n+1)) { st with sg:=st.sg.set i (.Q0 (n+1) sz (ds.take len++es)) } a w'.heap:=by
    refine⟨Rl.size,Rl.Ac,Rl.CY,by simpa[Env.A1Q]using hn,λq vq hq=>(Rl.Bi q vq hq).mono PS CL (by simp) (by simp),λs' cs' EM=>(Rl.Z7 s' cs' EM).mono PS CL (by simp) (by simp),λi' ob hi=>?_,λb1 o1 Ko=>Rl.fresh b1 o1 (by rw[<- S.size];exact Ko)⟩;by_cases Cf:i=i'
    ·subst Cf;simp only[z2q IY,D8]at hi;subst hi;obtain⟨c',q1,q2,q3⟩:=S.ex;refine B3M (all:=all) (all':=all') (off:=E.base i) (top:=E.top i) rfl rfl rfl vE (zCq _) hpos q1 (by rw[P8];rw[<- k1];omega) (by rw[q2];exact c2') (λo' h3 h4=>c3 o' h3 h4) (F.mono CL) (k4.mono CL) (λj u hu=>?_) λj u hu=>?_
     ·have aa:j<all.length:=(z0q.1 hu).1;have:=Fc j u hu;unfold Su.hc at this;rw[c1]at this;rw[q3,A7 (by omega)];exact this
     ·have aa:j<all'.length:=(z0q.1 hu).1;rw[P8,q3,C9 (by omega),<- hu];congr 1;omega
    ·simp only[z1q Cf]at hi;exact(Rl.U7 i' ob hi).mono PS CL (CK Rl hi) (by simp;exact λh=>Cf h.symm) (by simp)
   refine A_ (V3 _ _ Ab) (T _ _ _ w' H ?_ (PS.Z9 (by rintro T rfl;simp[P9])) S.out);rw[EL];refine R2.put λt1 eG=>?_;refine RR.AJ ⟨r1,zCq _,by rw[vE];exact zbq _,some ⟨E.obj i,E.base i,none⟩,cap,by rw[P8,k1],by rw[P8,<- k1];exact BQ,by simp,λ_ q hq=>?_,λ_ _=>⟨rfl,zT⟩⟩;simp only[D8]at hq;rw[<- hq]
  ·-- a new block
   have B8b:∀w':World,w'.heap=w.heap->(Builtin.firstCells inf.size len (.slice b len cap)).run C.P w'=.ok all.toArray w':=by
    intro w' hw';cases b with
    |none=>have h0:=f3 rfl;have h9:all=[]:=zhq (by rw[hal,show len=0 by omega];simp);rw[h9,show len=0 by omega];rfl
    |some y'=>
      show(loadCells y' (len * inf.size)).run C.P w'=_;rw[Cz];by_cases h0:0<cap
      ·obtain⟨hb,-⟩:=f5 h0;simp only[D8]at hb;rw[<- hal,hb];exact WO (λj u hu=>by rw[hw'];exact Fc j u hu)
      ·have h9:all=[]:=zhq (by rw[hal,show len=0 by omega];simp);rw[h9,show len=0 by omega,zKq];rfl
   obtain⟨nc,hnc,Ab⟩:=run_append_grow (ty:=o.type) (b:=b) hu CR Ap MQ (by rw[Cz];exact k7) B8b RF BQ (by unfold Q8 at YK;rw[P8]at YK;omega) Ur;rw[<- ev]at Ab;have Po:(Builtin.zeroCells zv.cells (nc-(len+len'))).toList.length=(nc-(len+len')) * sz:=by simp[Builtin.zeroCells,Vn]
   have B4G:(len+len') * sz+(nc-(len+len')) * sz=nc * sz:=by rw[<- zqq];congr 1;omega
   generalize hzc:(Builtin.zeroCells zv.cells (nc-(len+len'))).toList=zc at Ab Po
   let E2:=E.A97 i (n+1) w.heap.size (nc * sz)
   have vE:E2.Q7 i=n+1:=C9 rfl;have oE:E2.obj i=w.heap.size:=C9 rfl;have bE:E2.base i=0:=C9 rfl;have tE:E2.top i=nc * sz:=C9 rfl;have PS:Pr (λT=>T=.obj i) E w.heap E2 (w.heap.push (.cells (all++all'++zc).toArray e)):=by
    refine Pr.push (λb1 o1 Ko hT=>?_) (zbq _) (λj hj hvj=>?_) (λ_ _=>rfl) (λj hj=>?_)
    ·show(if _ then _ else _)=_;rw[A7 (by omega),A7 hT]
    ·have Vl:j≠i:=λh=>by subst h;rw[vE]at hvj;omega
     refine⟨?_,?_,?_⟩<;>(show(if _ then _ else _)=_;rw[A7 Vl])
    ·by_cases Vl:j=i
     ·subst Vl;rw[vE];exact⟨λh=>by omega,by omega,λh=>absurd rfl h⟩
     ·have:E2.Q7 j=E.Q7 j:=A7 Vl;rw[this];exact⟨id,zbq _,λ_=>rfl⟩
   have CL:=PS.Q6 (by simp) Rl.fresh;have Gv:∀(j:Nat),hc (w.heap.push (.cells (all++all'++zc).toArray e)) w.heap.size j=(all++all'++zc)[j]?:=λj=>by rw[kJ];simp
   have R2:K9 E2 { st with sg:=st.sg.set i (.Q0 (n+1) sz (ds.take len++es)) } a (w.heap.push (.cells (all++all'++zc).toArray e)):=by
    refine⟨Rl.size,Rl.Ac,Rl.CY,by simpa[E2,Env.A97]using hn,λq vq hq=>(Rl.Bi q vq hq).mono PS CL (by simp) (by simp),λs' cs' EM=>(Rl.Z7 s' cs' EM).mono PS CL (by simp) (by simp),λi' ob hi=>?_,λb1 o1 Ko=>?_⟩
    ·by_cases Cf:i=i'
     ·subst Cf;simp only[z2q IY,D8]at hi;subst hi;refine B3M (all:=all) (all':=all') oE bE tE vE (zCq _) hpos Jm (by rw[P8,<- k1];omega) (by simp;omega) (λo' h3 h4=>⟨?_,by simp⟩) (F.mono CL) (k4.mono CL) (λj u hu=>?_) λj u hu=>?_
      ·show(if _ then _ else _)=_;rw[C9 rfl,C9 h4]
      ·have aa:j<all.length:=(z0q.1 hu).1;rw[zfq,zMq,zLq,z4q aa];exact hu
      ·have aa:j<all'.length:=(z0q.1 hu).1;rw[P8,zfq,zMq,zLq,z6q (by omega),z4q (by omega),<- hu];congr 1;omega
     ·simp only[z1q Cf]at hi;exact(Rl.U7 i' ob hi).mono PS CL (CK Rl hi) (by simp;exact λh=>Cf h.symm) (by simp)
    ·simp only[zXq]at Ko;show(if _ then _ else _)=_;rw[A7 (by omega),A7]
     ·exact Rl.fresh b1 o1 (by omega)
     ·rw[Rl.fresh b1 o1 (by omega)];simp
   refine A_ (V3 _ _ Ab) (T _ _ _ (w.drew.alloc (.cells (all++all'++zc).toArray e)) H ?_ (PS.Z9 (by rintro T rfl;simp[P9])));rw[EL];refine R2.put λt1 eG=>?_;refine RR.AJ ⟨r1,zCq _,by rw[vE];exact zbq _,some ⟨w.heap.size,0,none⟩,nc,by rw[P8,k1],by rw[P8,<- k1];exact hnc,by simp,λ_ q hq=>?_,λ_ _=>⟨by rw[oE,bE],by rw[bE,tE,zfq];exact zbq _⟩⟩;simp only[D8]at hq;rw[<- hq]
def Env.B5J(E:Env)(i n b lo hi:Nat):Env:={ E with Q7:=λj=>if j=i then n else E.Q7 j,O:=λb' o=>if b'=b/\lo<=o/\o<hi then .Q6 else E.O b' o }
def Env.A9v(E:Env)(i n b lo hi:Nat):Env :={ E with obj:=λj=>if j=i then b else E.obj j,base:=λj=>if j=i then 0 else E.base j,top:=λj=>if j=i then hi else E.top j,Q7:=λj=>if j=i then n else E.Q7 j,O:=λb' o=>if b'=b then(if o<lo then .Q6 else if o<hi then .obj i else .other)else if E.O b' o=.obj i then .other else E.O b' o }
def A8C{sg:List E5}{i n sz:Nat}{d s:DV}{p:DV×List E5}(h:Ro sg i n sz d s=some p):∃ds es,d=.list sz ds/\s=.list sz es/\sg[i]?=some (.U3 n sz ds.length)/\ds.length+es.length<=Q8/\es≠[]/\p=(.list sz (ds++es),sg.set i (.U3 (n+1) sz (ds.length+es.length))):=by
 unfold Ro at h;split at h
 ·rename_i n' sz' len hg;obtain⟨⟨h1,h2⟩,h⟩:=L9 h;subst h1 h2;obtain⟨q,hq,h⟩:=D6 h;obtain⟨ds,es,q1,q2,q3,q4,rfl⟩:=lq hq;obtain⟨h3,h5⟩:=L9 h;have h3:len=ds.length:=h3;have h5:=Option.some.inj h5;rw[h3]at hg;exact⟨ds,es,q1,q2,hg,q3,yaq.1 q4,h5.symm⟩
 ·cases h
theorem B0N{m:F4}{q:Nat×Nat×Nat}(h:B0M m=some q):m=.U3 q.1 q.2.1 q.2.2:=by cases m<;>simp only[B0M,D8,reduceCtorEq]at h;subst h;rfl
def B5f{c:Call}{y v:Operand}{t u:TypeId}(F7:o.op=.call c)(zP:c.callee=.builtin .append)(ha:c.args.toList=[y,v])(ht:c.argTypes.toList=[t,u])(Ph:I9 fl.OO o.dst=true)(H:Dx C fl o y v t u st k=some x)(Rl:K9 E st a w.heap)(T:Then E w k x K):Gp C.P o a w K:=by
 unfold Dx at H;rw[C9 Ph]at H;unfold A0W at H;obtain⟨r,h1,H⟩:=D6 H;obtain⟨s,h2,H⟩:=D6 H;obtain⟨sz,Ca,H⟩:=D6 H;obtain⟨yJ,H⟩:=H6 H;simp only[zaq]at yJ;obtain⟨Us,EL⟩:=yJ;obtain⟨t0,EL⟩:=zwq.1 EL;obtain⟨e,e',z,inf,zv,hu,CR,hz,Hg,hpos,Ap,Ur,RF,Vn⟩:=UN Ca;have e1:=Rl.src h1;have e2:=(Rl.src h2).data Us;have Cz:inf.size=sz:=by obtain⟨i',d',q1,-,q2,-⟩:=IU hz;rw[Ap]at q1;simp only[D8]at q1;rw[<- Hg,q2,q1]
 have V3:∀v' w',(Builtin.append_ #[t,u] o.type #[a.eval y,a.eval v]).run C.P w=.ok v' w'->(execOp a.eval o).run C.P w=.ok (.value v') w':=by intro v' w' hv;refine Hd F7 zP ?_;rw[Nu ht,show c.args.map a.eval=#[a.eval y,a.eval v]from by rw[Nu ha];simp];exact CO hv
 rw[EL]at H;have hn:=Rl.n;obtain⟨q,hq,H⟩:=D6 H;obtain⟨hg,H⟩:=H6 H;obtain⟨p,hp,H⟩:=D6 H;have hm:=B0N hq;clear hq;obtain⟨i,n,sz'⟩:=q;simp only[beq_iff_eq]at hg;subst hg;simp only at hm hp H;obtain⟨ds,es,hr,hs,hpv,YK,hne,rfl⟩:=A8C hp;clear hp;simp only at H;rw[hm,hr]at e1;rw[hs]at e2;have e1:L8 E w.heap (.sp 0 (fA y) 0) (.list sz' ds) (.U3 i n sz') (a.eval y):=e1;simp only[L8]at e1;obtain⟨e1d,-,r1,r2,r3,b0,len0,cap0,ev0,f5⟩:=e1;obtain⟨b,len,cap,all,ev,f1,f2,f3,f4,f5',f6,f7⟩:=Kk (P:=C.P) e1d;rw[ev]at ev0;simp only[Value.slice.injEq]at ev0;obtain⟨rfl,rfl,rfl⟩:=ev0;obtain⟨b',len',cap',all',ev',g1,g2,g3,g4,g5,g6,g7⟩:=Kk (P:=C.P) e2;have B:=Rl.U7 i _ hpv;simp only[RO]at B;obtain⟨bv,bn,-,BB⟩:=B;have f5:=f5 bv;have MQ:Builtin.lenOf (a.eval v)=pure len':=by rw[ev'];rfl
 have nR:=g4.one hpos;have hal:all.length=len * sz':=by rw[f4.1,f1]
 have B4w:all'.length=len' * sz':=by rw[g4.1,g1]
 have IY:=(z0q.1 hpv).1;have hln:0<len':=by rw[g1];exact yaq.2 hne
 have wH:(len+len') * sz'=len * sz'+len' * sz':=zqq _ _ _;by_cases BQ:len+len'<=cap
 ·obtain⟨hb,zT⟩:=f5 (by omega);subst hb;have uL:0<cap * sz':=y8q (by omega) hpos;obtain⟨cc,TT,f,c1,c2,c2',c3⟩:=BB.resolve_left λh=>by have:=h.2;omega
  rw[<- f1]at c2 c3;have hmul:(len+len') * sz'<=cap * sz':=z9q _ BQ;obtain⟨w',hw,S⟩:=Jb (P:=C.P) (b:=E.obj i) (T:=TT) (f:=f) (E.base i+len * sz') all' cc 0 w c1 (by omega) nR (λo' h3 h4=>(c3 o' (by omega) (by omega)).2);have Ab:(Builtin.append_ #[t,u] o.type #[a.eval y,a.eval v]).run C.P w=.ok (.slice (some ⟨E.obj i,E.base i,none⟩) (len+len') cap) w':=by rw[ev];refine IP hu CR Ap MQ (by rw[Cz];exact g7 w rfl) BQ ?_;rw[Cz,Addr.add_lit];exact hw
  simp only[zBq]at S
  let E2:=E.B5J i (n+1) (E.obj i) (E.base i+len * sz') (E.base i+len * sz'+len' * sz')
  have vE:E2.Q7 i=n+1:=C9 rfl;have PS:Pr (λT=>T=.obj i) E w.heap E2 w'.heap:=by
   refine⟨zJq S.size.symm,λb1 Ko=>?_,λb1 o1 Ko hT=>?_,zbq _,λj hj _=>⟨rfl,rfl,rfl⟩,λ_ _=>rfl,λj hj=>?_⟩
   ·by_cases Uq:b1=E.obj i
    ·subst Uq;rw[c1];obtain⟨c',q1,q2,q3⟩:=S.ex;refine⟨c',q1,q2,λj hj=>?_⟩;rw[q3 j,A7];rintro⟨q4,q5⟩;exact hj (c3 j (by omega) (by omega)).1
    ·rw[S.rest b1 Uq];exact X3.refl _ _
   ·show(if _ then _ else _)=_;rw[A7];rintro⟨rfl,q4,q5⟩;exact hT (c3 o1 q4 (by omega)).1
   ·by_cases Vl:j=i
    ·subst Vl;rw[vE];exact⟨λh=>by omega,by omega,λh=>absurd rfl h⟩
    ·have:E2.Q7 j=E.Q7 j:=A7 Vl;rw[this];exact⟨id,zbq _,λ_=>rfl⟩
  have CL:=PS.Q6 (by simp) Rl.fresh;have R2:K9 E2 { st with sg:=st.sg.set i (.U3 (n+1) sz' (ds.length+es.length)) } a w'.heap:=by
   refine⟨Rl.size,Rl.Ac,Rl.CY,by simpa[E2,Env.B5J]using hn,λq vq hq=>(Rl.Bi q vq hq).mono PS CL (by simp) (by simp),λs' cs' EM=>(Rl.Z7 s' cs' EM).mono PS CL (by simp) (by simp),λi' ob hi=>?_,λb1 o1 Ko=>?_⟩
   ·by_cases Cf:i=i'
    ·subst Cf;simp only[z2q IY,D8]at hi;subst hi;obtain⟨c',q1,q2,q3⟩:=S.ex;refine⟨vE,zCq _,hpos,.inr ⟨c',TT,f,q1,?_,?_,λo' h3 h4=>?_⟩⟩
     ·show E.base i+_<=E.top i;rw[<- f1,<- g1];omega
     ·show E.top i<=_;rw[q2];exact c2'
     ·have h3:E.base i+(len+len') * sz'<=o':=by rw[f1,g1];exact h3
      have h4:o'<E.top i:=h4;obtain⟨c4,c5⟩:=c3 o' (by omega) h4;refine⟨?_,c5⟩;show(if _ then _ else _)=_;rw[A7 (by omega)];exact c4
    ·simp only[z1q Cf]at hi;exact(Rl.U7 i' ob hi).mono PS CL (CK Rl hi) (by simp;exact λh=>Cf h.symm) (by simp)
   ·have qL:w.heap.size<=b1:=by rw[<- S.size];exact Ko
    show(if _ then _ else _)=_;rw[A7]
    ·exact Rl.fresh b1 o1 qL
    ·rintro⟨rfl,-⟩;have:=(zdq.1 c1).1;omega
  refine A_ (V3 _ _ Ab) (T _ _ _ w' H ?_ (PS.Z9 (by rintro T rfl;simp[P9])) S.out);rw[EL];refine R2.put λt1 eG=>?_;refine RR.AJ ⟨?_,⟨_,rfl⟩,r1,zCq _,by rw[vE];exact zbq _,some ⟨E.obj i,E.base i,none⟩,len+len',cap,rfl,λ_ _=>⟨rfl,zT⟩⟩;refine NA (by simp;omega) BQ (by simp) (λ_=>hpos) λp1 kP=>?_;simp only[D8]at kP;subst kP;refine⟨λ_=>rfl,SQ ((f4.mono CL).append (g4.mono CL)) λj q hq=>?_⟩;by_cases hj:j<all.length
  ·rw[z4q hj]at hq;obtain⟨q1,q2⟩:=(f5' _ rfl).2 j q hq;exact⟨CL.c _ _ _ q2 q1,CL.s _ _ q2⟩
  ·rw[z6q (by omega)]at hq;have aa:j-all.length<all'.length:=(z0q.1 hq).1;obtain⟨c',q1,q2,q3⟩:=S.ex;constructor
   ·unfold hc;rw[q1];show c'[E.base i+j]?=some q;rw[q3,C9 (by omega),<- hq];congr 1;omega
   ·show(if _ then _ else _)=_;rw[C9 (by refine⟨rfl,?_,?_⟩<;>(simp only;omega))]
 ·-- a new block
  obtain⟨nc,hnc,Ab⟩:=run_append_grow (ty:=o.type) (b:=b) hu CR Ap MQ (by rw[Cz];exact g7) (by rw[Cz,<- ev];exact f7) RF BQ (by unfold Q8 at YK;omega) Ur;rw[<- ev]at Ab;have Po:(Builtin.zeroCells zv.cells (nc-(len+len'))).toList.length=(nc-(len+len')) * sz':=by simp[Builtin.zeroCells,Vn]
  have B4G:(len+len') * sz'+(nc-(len+len')) * sz'=nc * sz':=by rw[<- zqq];congr 1;omega
  generalize hzc:(Builtin.zeroCells zv.cells (nc-(len+len'))).toList=zc at Ab Po
  let E2:=E.A9v i (n+1) w.heap.size ((len+len') * sz') (nc * sz')
  have vE:E2.Q7 i=n+1:=C9 rfl;have oE:E2.obj i=w.heap.size:=C9 rfl;have bE:E2.base i=0:=C9 rfl;have tE:E2.top i=nc * sz':=C9 rfl;have PS:Pr (λT=>T=.obj i) E w.heap E2 (w.heap.push (.cells (all++all'++zc).toArray e)):=by
   refine Pr.push (λb1 o1 Ko hT=>?_) (zbq _) (λj hj hvj=>?_) (λ_ _=>rfl) (λj hj=>?_)
   ·show(if _ then _ else _)=_;rw[A7 (by omega),A7 hT]
   ·have Vl:j≠i:=λh=>by subst h;rw[vE]at hvj;omega
    refine⟨?_,?_,?_⟩<;>(show(if _ then _ else _)=_;rw[A7 Vl])
   ·by_cases Vl:j=i
    ·subst Vl;rw[vE];exact⟨λh=>by omega,by omega,λh=>absurd rfl h⟩
    ·have:E2.Q7 j=E.Q7 j:=A7 Vl;rw[this];exact⟨id,zbq _,λ_=>rfl⟩
  have CL:=PS.Q6 (by simp) Rl.fresh;have Gv:∀(j:Nat),hc (w.heap.push (.cells (all++all'++zc).toArray e)) w.heap.size j=(all++all'++zc)[j]?:=λj=>by rw[kJ];simp
  have C0N:(all++all').length=(len+len') * sz':=by rw[ygq];omega
  have R2:K9 E2 { st with sg:=st.sg.set i (.U3 (n+1) sz' (ds.length+es.length)) } a (w.heap.push (.cells (all++all'++zc).toArray e)):=by
   refine⟨Rl.size,Rl.Ac,Rl.CY,by simpa[E2,Env.A9v]using hn,λq vq hq=>(Rl.Bi q vq hq).mono PS CL (by simp) (by simp),λs' cs' EM=>(Rl.Z7 s' cs' EM).mono PS CL (by simp) (by simp),λi' ob hi=>?_,λb1 o1 Ko=>?_⟩
   ·by_cases Cf:i=i'
    ·subst Cf;simp only[z2q IY,D8]at hi;subst hi;refine⟨vE,zCq _,hpos,.inr ⟨_,e,(0,0),by rw[oE];exact Jm,?_,?_,λo' h3 h4=>⟨?_,by simp⟩⟩⟩
     ·rw[bE,tE,<- f1,<- g1];omega
     ·rw[tE];simp;omega
     ·rw[oE];show(if _ then _ else _)=_;rw[bE,<- f1,<- g1]at h3;rw[tE]at h4;rw[C9 rfl,A7 (by omega),C9 h4]
    ·simp only[z1q Cf]at hi;exact(Rl.U7 i' ob hi).mono PS CL (CK Rl hi) (by simp;exact λh=>Cf h.symm) (by simp)
   ·simp only[zXq]at Ko;show(if _ then _ else _)=_;rw[A7 (by omega),A7]
    ·exact Rl.fresh b1 o1 (by omega)
    ·rw[Rl.fresh b1 o1 (by omega)];simp
  refine A_ (V3 _ _ Ab) (T _ _ _ (w.drew.alloc (.cells (all++all'++zc).toArray e)) H ?_ (PS.Z9 (by rintro T rfl;simp[P9])));rw[EL];refine R2.put λt1 eG=>?_;refine RR.AJ ⟨?_,⟨_,rfl⟩,r1,zCq _,by rw[vE];exact zbq _,some ⟨w.heap.size,0,none⟩,len+len',nc,rfl,λ_ _=>⟨by rw[oE,bE],by rw[bE,tE,zfq];exact zbq _⟩⟩;refine NA (by simp;omega) hnc (by simp) (λ_=>hpos) λp1 kP=>?_;simp only[D8]at kP;subst kP;refine⟨λ_=>rfl,SQ ((f4.mono CL).append (g4.mono CL)) λj q hq=>?_⟩;have aa:j<(all++all').length:=(z0q.1 hq).1;constructor
  ·rw[zfq,Gv,z4q aa];exact hq
  ·show(if _ then _ else _)=_;rw[C9 rfl,C9 (by simp only;omega)]
end
end Go.Su

/-
 THE DATA MACHINE, part 18: one operation, whichever it is.
-/
namespace Go.Su
set_option linter.defProp false
section
variable {X:Type}{C:Ba}{R:O9}{o:Oper}{st:St}{k:St->Option X}{x:X}{E:Env}{a:Act}{w:World}{K:Act->World->Prop}{Q:Exit->Act->World->Prop}
open Classical in
noncomputable def Env.B8D(E:Env)(n b off m tp:Nat):Env :={ E with obj:=λi=>if i=E.n then b else E.obj i,base:=λi=>if i=E.n then off else E.base i,top:=λi=>if i=E.n then tp else E.top i,n:=E.n+1,Q7:=λi=>if i=E.n then 0 else E.Q7 i,O:=λb' o=>if b'<n then E.O b' o else if b'=b/\off<=o/\o<off+m then .obj E.n else .other }
variable {f:FuncId}{v:Value}
def B3p{r:DV×F4}{sz:Nat}{ds:List DV}(hO:Im C R)(hc:C.clone f=true)(V3:(execOp a.eval o).run C.P w=.ok (.enter f #[v]) w)(hd:K6 r.2=true)(C0n:sz=C.jD f)(hl0:ds.length<=Q8)(hr:r.1=.list sz ds){p q:Nat}(hv:RR E w.heap p q r.1 r.2 v)(H:k ({ st with sg:=st.sg++[E5.arr sz ds] }.put o.dst .undef (.arr st.sg.length sz 0 ds.length))=some x)(Rl:K9 E st a w.heap)(T:Then E w k x K):Gp C.P o a w K:=by
 have hS:∀b o,w.heap.size<=b->¬E.S b o:=λb o hb hs=>by have h9:=Rl.fresh b o hb;rw[show E.O b o=Tag.Q6 from hs]at h9;cases h9
 have TL:=(hO.c f hc).2;rw[<- C0n]at TL;refine pM V3 ((TL E.S w v ds hl0 hS (by rw[<- hr];exact hv.data hd)).mono ?_);rintro e w' ⟨a0,b,off,cap,he,ha0,A2r,B0O,B0U,Ca,WM,hblk,B0S⟩;subst he
 let E':=E.B8D w.heap.size b off (ds.length * sz) (off+cap * sz)
 have Pc:Pr (λ_=>False) E w.heap E' w'.heap:=by
  refine⟨Ca,λb' hb=>by rw[hblk b' hb];exact X3.refl _ _,λb' o hb _=>?_,y9q _,λi hi _=>?_,λ_ _=>rfl,Wh rfl⟩
  ·show(if b'<w.heap.size then E.O b' o else _)=_;rw[C9 hb]
  ·have:i≠E.n:=by omega
   exact⟨A7 this,A7 this,A7 this⟩
 have J5:=Pc.Q6 (by simp) Rl.fresh;have n0:st.sg.length=E.n:=Rl.n;have R2:K9 E' { st with sg:=st.sg++[E5.arr sz ds] } a w'.heap:=by
  refine⟨Rl.size,Rl.Ac,Rl.CY,by simp[n0];rfl,λt v hv=>(Rl.Bi t v hv).mono Pc J5 (by simp) (by simp),λs cs hs=>(Rl.Z7 s cs hs).mono Pc J5 (by simp) (by simp),λi ob hi=>?_,λb' o hb=>?_⟩
  ·by_cases MP:i<st.sg.length
   ·rw[z4q MP]at hi;exact(Rl.U7 i ob hi).mono Pc J5 (by rw[<- n0];exact MP) (by simp) (by simp)
   ·rw[z6q (zNq MP)]at hi;have hi0:i-st.sg.length=0:=by have:=(z0q.1 hi).1;simpa using this
    have hie:i=E.n:=by omega
    rw[hi0]at hi;simp only[zgq,D8]at hi;subst hi hie;simp only[RO];intro hne;obtain⟨hb,c,T0,h1,h2,h3,h4⟩:=B0S hne;have e1:E'.obj E.n=b:=C9 rfl;have e2:E'.base E.n=off:=C9 rfl;rw[e1,e2];refine⟨c,T0,h1,h2,h3,λo ho1 ho2=>?_,λj d hj=>?_⟩
    ·show(if b<w.heap.size then E.O b o else if b=b/\off<=o/\o<off+ds.length * sz then Tag.obj E.n else .other)=_;rw[A7 (by omega),C9 ⟨rfl,ho1,ho2⟩]
    ·obtain⟨vs,v1,v2,v3⟩:=h4 j d hj;refine⟨vs,v1,v2,v3.mono ⟨λb' o hs=>?_,λ_ _ _ _ hv=>hv⟩⟩;exact J5.s b' o hs
  ·show(if b'<w.heap.size then E.O b' o else if b'=b/\off<=o/\o<off+ds.length * sz then Tag.obj E.n else .other)=_;rw[A7 (by omega)];split
   ·rename_i h;by_cases hne:ds=[]
    ·subst hne;simp at h;omega
    ·obtain⟨-,c,T0,h1,-⟩:=B0S hne;have:=(zdq.1 h1).1;omega
   ·rfl
 refine⟨_,rfl,T E' _ _ w' H (R2.put λt _=>?_) (Pc.Z9 (by simp)) WM⟩;simp only[RR,L8];refine⟨⟨by rw[n0];exact ykq _,by rw[n0];exact C9 rfl⟩,_,_,rfl,λhpos=>?_,A2r,B0O,B0U,λ_=>by rw[n0,zfq];exact zJq ((congrArg (· + cap * sz) (C9 rfl)).trans (C9 rfl).symm)⟩;rw[n0,ha0 (λh=>by rw[h]at hpos;exact Nat.lt_irrefl 0 hpos)];have e1:E'.obj E.n=b:=C9 rfl;have e2:E'.base E.n=off:=C9 rfl;rw[e1,e2];simp
variable {cs:List DV}
def B1Y{d:DV}(h:B3W d=some cs):d=.agg cs:=by cases d<;>simp only[B3W,reduceCtorEq,D8]at h;rw[h]
def B69{g:FuncId}{r:DV×F4}(hO:Im C R)(hc:C.eQ f=some g)(V3:(execOp a.eval o).run C.P w=.ok (.enter f #[v]) w)(hd:K6 r.2=true)(hr:r.1=.agg cs)(hl:cs.length=C.jD f){p q:Nat}(hv:RR E w.heap p q r.1 r.2 v)(H:k ({ st with sg:=st.sg++[E5.box (cs.map λd=>(d,.val))] }.put o.dst .undef (.fn g [(st.sg.length,0)]))=some x)(Rl:K9 E st a w.heap)(T:Then E w k x K):Gp C.P o a w K:=by
 have h1:=hv.data hd;rw[hr]at h1;simp only[RV]at h1;obtain⟨vs,rfl,h2⟩:=h1;obtain⟨l1,h3⟩:=CU.1 h2;have l2:vs.size=C.jD f:=by rw[<- hl,l1];simp
 refine pM V3 (((hO.m f g hc).2 w vs l2).mono ?_);rintro e w' ⟨rfl,T0,rfl⟩;have cok:Hr E w.heap (cs.map λd=>(d,F4.val)) vs.toList:=by refine⟨by simp[l1],λj r' u hj hu=>?_⟩;simp only[zxq,znq]at hj;obtain⟨d,Ep,rfl⟩:=hj;obtain⟨a1,a2⟩:=h3 j d u Ep hu;exact⟨⟨a1,Jg a1 a2,rfl,PL a1 a2⟩,by simp⟩
 obtain⟨R1,P1⟩:=Rl.newObj (T0:=T0) cok;refine⟨_,rfl,T _ _ _ (w.alloc (.cells vs T0)) H (R1.put λt0 _=>?_) (P1.Z9 (by simp)) ⟨rfl,rfl,rfl⟩⟩;have hn:=Rl.n;simp only[RR,L8,Env.newObj];refine⟨?_,λc hc=>?_⟩
 ·simp[hn]
 ·simp only[zoq]at hc;subst hc;simp[Env.In,hn]
def B3o{ts:List TypeId}{xs:List Operand}{rs extra:List (DV×F4)}{ev:List Value}(hO:Im C R)(V3:isGo C.P f=true->(execOp a.eval o).run C.P w=.ok (.enter f (xs.map a.eval++ev).toArray) w)(hsr:KI C.P st ts xs=some rs)(yL:extra.length=ev.length)(IL:∀(i:Nat) r v,extra[i]?=some r->ev[i]?=some v->∀p q,RR E w.heap p q r.1 r.2 v/\r.2 ≠ .own/\r.2 ≠ .full)(H:Kg C R o f xs (rs++extra) st k=some x)(Rl:K9 E st a w.heap)(T:Then E w k x K):Gp C.P o a w K:=by
 obtain⟨l1,l2⟩:=A3W Rl hsr;have all:∀(i:Nat) r v,(rs++extra)[i]?=some r->(xs.map a.eval++ev)[i]?=some v->∃p q,RR E w.heap p q r.1 r.2 v:=by
  intro i r v hr hv;by_cases hi:i<rs.length
  ·rw[z4q hi]at hr;rw[z4q (by simpa[l1]using hi)]at hv;obtain⟨y,t,hy,rfl,hsy,hRy⟩:=l2 i r v hr hv;exact⟨_,_,hRy⟩
  ·have hge:rs.length<=i:=zNq hi;rw[z6q hge]at hr;rw[z6q (by simpa[l1]using hge)]at hv;simp only[zUq,<- l1]at hv;exact⟨0,0,(IL _ r v hr hv 0 0).1⟩
 have GZ:(rs++extra).length=(xs.map a.eval++ev).length:=by simp[l1,yL]
 unfold Kg at H;split at H
 ·rename_i hc;split at H
  ·rename_i r hrs
   ·obtain⟨p,hp,H⟩:=D6 H;obtain⟨sz,ds⟩:=p;have hr1:r.1=.list sz ds:=by cases hr:r.1<;>rw[hr]at hp<;>simp only[A4U,reduceCtorEq,D8,Prod.mk.injEq]at hp;obtain⟨rfl,rfl⟩:=hp;rfl
    obtain⟨hd,H9⟩:=H6 H;simp only[zaq,beq_iff_eq,I4]at hd;obtain⟨⟨hd,hz⟩,hl0⟩:=hd;simp only[<- hz]at H9;rw[hrs]at GZ;obtain⟨v,hv⟩:=zpq.1 (GZ.symm:(xs.map a.eval++ev).length=1);obtain⟨p,q,hR⟩:=all 0 r v (by rw[hrs];rfl) (by rw[hv];rfl);have:=V3 (hO.c f hc).1;rw[hv]at this;exact B3p hO hc this hd hz hl0 hr1 hR H9 Rl @T
  ·simp at H
 ·split at H
  ·rename_i g hg;split at H
   ·rename_i r hrs;obtain⟨cs,IK,H⟩:=D6 H;obtain⟨hd,H9⟩:=H6 H;simp only[zaq,beq_iff_eq]at hd;rw[hrs]at GZ;obtain⟨v,hv⟩:=zpq.1 (GZ.symm:(xs.map a.eval++ev).length=1);obtain⟨p,q,hR⟩:=all 0 r v (by rw[hrs];rfl) (by rw[hv];rfl);have:=V3 (hO.m f g hg).1;rw[hv]at this;exact B69 hO hg this hd.1 (B1Y IK) hd.2 hR H9 Rl @T
   ·simp at H
  split at H
  ·have hp:isGo C.P f=true:=by obtain⟨_,H1⟩:=H6 H;obtain⟨d,hd,_⟩:=D6 H1;exact(hO.p f _ d hd).1
   exact B5i hO (V3 hp) GZ all H Rl @T
  ·rename_i s hs;have hp:isGo C.P f=true:=by obtain⟨_,H1⟩:=H6 H;obtain⟨d,hd,_⟩:=D6 H1;obtain⟨_,_,h,_⟩:=hO.r f _ _ d hd;exact h
   exact B7a hO hs (V3 hp) hsr yL IL H Rl @T
variable {fl:H8}
def B5c{c:Call}(hO:Im C R)(F7:o.op=.call c)(H:He C R fl o c st k=some x)(Rl:K9 E st a w.heap)(T:Then E w k x K):Gp C.P o a w K:=by
 unfold He at H;split at H
 ·rename_i b hb;split at H
  ·rename_i h1 h2;exact B66 F7 hb h1 h2 H Rl @T
  ·rename_i h1 h2;cases Ph:I9 fl.OO o.dst
   ·cases Ot:I9 fl.Dl o.dst
    ·cases d_:I9 fl.opn o.dst
     ·exact B1y F7 hb h1 h2 d_ Ph Ot H Rl @T
     ·exact A2O F7 hb h1 h2 d_ Ph Ot H Rl @T
    ·exact B5k F7 hb h1 h2 Ph Ot H Rl @T
   ·exact B5f F7 hb h1 h2 Ph H Rl @T
  ·rename_i h1 h2;exact B67 F7 hb h1 H Rl @T
  ·rename_i h1 h2;exact B68 F7 hb h1 H Rl @T
  ·simp at H
 ·rename_i fv hfv;obtain⟨r,h1,H1⟩:=D6 H;obtain⟨rs,h2,H2⟩:=D6 H1;split at H2
  ·rename_i f caps hr;have kL:=Rl.src h1;rw[hr]at kL;simp only[RR,L8]at kL;refine B3o (ts:=c.argTypes.toList) (ev:=caps.map λc=>Value.pointer (some ⟨E.obj c.1,c.2,none⟩)) hO (λhg=>?_) h2 (by simp) (λi r' v Ab hv p q=>?_) H2 Rl @T
   ·simp only[execOp,F7,resolve,hfv,kL.1,Deferred.ofValue,Sem.run_bind,Sem.run_pure,Result.andThen_ok,invoke]
    rw[vF hg];congr 2;apply Array.ext';simp
   ·simp only[zxq,znq]at Ab hv;obtain⟨m,hm,rfl⟩:=Ab;obtain⟨m',RB,rfl⟩:=hv;rw[hm]at RB;cases RB;refine⟨?_,by simp,by simp⟩;simp only[RR,L8];exact⟨kL.2 m (zkq hm),trivial⟩
  ·simp at H2
 ·simp at H
def B8X(hO:Im C R)(H:J4 C R fl o st k=some x)(Rl:K9 E st a w.heap)(T:Then E w k x K):Gp C.P o a w K:=by
 unfold J4 at H;split at H
 ·rename_i y F7;exact A7v (by simp[execOp,F7]) H Rl @T
 ·rename_i y F7;exact A7v (by simp[execOp,F7]) H Rl @T
 ·rename_i F7;exact B5h F7 H Rl @T
 ·rename_i F7;exact B3m F7 H Rl @T
 ·rename_i F7;exact B64 F7 H Rl @T
 ·rename_i F7;exact B3n F7 H Rl @T
 ·rename_i F7;exact A2P F7 H Rl @T
 ·rename_i F7;exact B5g F7 H Rl @T
 ·rename_i F7;exact B3s F7 H Rl @T
 ·rename_i F7;exact A7w F7 H Rl @T
 ·rename_i F7;exact B63 F7 H Rl @T
 ·rename_i F7;exact B8Y F7 H Rl @T
 ·rename_i F7;exact B5d F7 H Rl @T
 ·rename_i F7;exact A4F F7 H Rl @T
 ·rename_i F7;exact A4G F7 H Rl @T
 ·rename_i F7;exact B3q F7 H Rl @T
 ·rename_i F7;exact B3r F7 H Rl @T
 ·rename_i F7;exact A7u F7 H Rl @T
 ·rename_i F7;obtain⟨q,_,H9⟩:=D6 H;by_cases eF:I9 fl.Hl o.dst=true
  ·rw[C9 eF]at H9;cases hd:o.dst with
   |none=>rw[hd]at eF;simp[I9]at eF
   |some t0=>exact B1B F7 hd H9 Rl @T
  ·rw[A7 eF]at H9;exact A8M F7 H9 Rl @T
 ·rename_i F7;exact B1A F7 H Rl @T
 ·rename_i F7;exact A4H F7 H Rl @T
 ·rename_i F7;exact A8L F7 H Rl @T
 ·rename_i F7;exact B5c hO F7 H Rl @T
 ·simp at H
end
end Go.Su

/-
 THE DATA MACHINE, part 19: an operation sees what its footprint says, and writes what it says.
-/
namespace Go.Su
set_option linter.defProp false
theorem M8{α β : Type}(a : α)(g : α->Option β):ob (some a) g=g a:=rfl
theorem X8{β : Type}(y:Option β):og true y=y:=rfl
structure FH(f:Fp)(st st':St):Prop where
 lt:st'.tm.length=st.tm.length
 lm:st'.mt.length=st.mt.length
 lb:st'.bx.length=st.bx.length
 t:∀i∈f.rt,st'.tm[i]?=st.tm[i]?/\st'.mt[i]?=st.mt[i]?
 b:∀i∈f.rb,st'.bx[i]?=st.bx[i]?
 s:f.rs=true->st'.sg=st.sg
 n:∀t,f.nb=some t->Ll t st'.mt=true
 l:∀j,f.ld=some j->st'.sg[j]?=st.sg[j]?
structure Two(f:Fp)(st st' s s':St):Prop where
 l:st'.tm.length=st.tm.length/\st'.mt.length=st.mt.length/\st'.bx.length=st.bx.length
 ls:s.tm.length=st.tm.length/\s.mt.length=st.mt.length/\s.bx.length=st.bx.length
 ls':s'.tm.length=st.tm.length/\s'.mt.length=st.mt.length/\s'.bx.length=st.bx.length
 t:∀i:Nat,(i∈f.wt/\s'.tm[i]?=s.tm[i]?/\s'.mt[i]?=s.mt[i]?)\/((s'.tm[i]?=st'.tm[i]?/\s'.mt[i]?=st'.mt[i]?)/\s.tm[i]?=st.tm[i]?/\s.mt[i]?=st.mt[i]?)
 b:∀i:Nat,(i∈f.wb/\s'.bx[i]?=s.bx[i]?)\/(s'.bx[i]?=st'.bx[i]?/\s.bx[i]?=st.bx[i]?)
 s:(f.ws=true/\s'.sg=s.sg)\/(s'.sg=st'.sg/\s.sg=st.sg)
variable {f:Fp}{st:St}{st':St}
def Two.refl(A:FH f st st'):Two f st st' st st' :=⟨⟨A.lt,A.lm,A.lb⟩,⟨rfl,rfl,rfl⟩,⟨A.lt,A.lm,A.lb⟩,λ_=>.inr ⟨⟨rfl,rfl⟩,rfl,rfl⟩,λ_=>.inr ⟨rfl,rfl⟩,.inr ⟨rfl,rfl⟩⟩
def Two.put{s s':St}(A:Two f st st' s s'){dst:Option Nat}(hd:∀t∈dst.toList,t∈f.wt)(d:DV)(m:F4):Two f st st' (s.put dst d m) (s'.put dst d m):=by
 cases dst with
 |none=>exact A
 |some t=>
   have ht:t∈f.wt:=hd t (by simp);obtain⟨l,ls,ls',a1,a2,a3⟩:=A;refine⟨l,by simpa[St.put]using ls,by simpa[St.put]using ls',λi=>?_,a2,a3⟩;by_cases hi:t=i
   ·subst hi;refine .inl ⟨ht,?_,?_⟩
    ·simp only[St.put,zmq]
     rcases zuq t st.tm.length with h | h
     ·rw[z5q (by omega),z5q (by omega)];rfl
     ·rw[z8q (by omega),z8q (by omega)]
    ·simp only[St.put,zmq]
     rcases zuq t st.mt.length with h | h
     ·rw[z5q (by omega),z5q (by omega)];rfl
     ·rw[z8q (by omega),z8q (by omega)]
   ·simp only[St.put,z1q hi]
    exact a1 i
variable {t:Nat}
def Two.B56{s s':St}(A:Two f st st' s s')(ht:t∈f.wt)(he:s'.tm[t]?=s.tm[t]?)(m:F4):Two f st st' { s with mt:=s.mt.set t m } { s' with mt:=s'.mt.set t m }:=by
 obtain⟨l,ls,ls',a1,a2,a3⟩:=A;refine⟨l,by simpa using ls,by simpa using ls',λi=>?_,a2,a3⟩;by_cases hi:t=i
 ·subst hi;refine .inl ⟨ht,he,?_⟩;simp only[zmq];rcases zuq t st.mt.length with h | h
  ·rw[z5q (by omega),z5q (by omega)];rfl
  ·rw[z8q (by omega),z8q (by omega)]
 ·simp only[z1q hi]
  exact a1 i
variable {i:Nat}
def KN{α : Type}{l l':List α}(h:l'[i]?=l[i]?)(d : α):l'.getD i d=l.getD i d:=by simp only[z3q,h]
variable {x:Operand}
def Two.release{s s':St}(A:Two f st st' s s')(hx:∀t∈O5 x,t∈f.wt)(he:∀t∈O5 x,s'.tm[t]?=s.tm[t]?/\s'.mt[t]?=s.mt[t]?):Two f st st' (s.release x) (s'.release x):=by
 cases x with
 |tmp t=>have:=A.B56 (hx t (by simp[O5])) (he t (by simp[O5])).1 (dm (s.mt.getD t .val));simp only[St.release];rw[KN (he t (by simp[O5])).2];exact this
 |_=>exact A
variable {mt:List F4}
def oK{u:Nat}(h:u∈FW mt x):u∈O5 x:=by
 cases x<;>simp only[FW]at h
 ·split at h
  ·cases h
  ·cases h
  ·exact h
 all_goals cases h
theorem lD{mt':List F4}(h:∀u∈O5 x,mt'[u]?=mt[u]?):FW mt' x=FW mt x:=by
 cases x with
 |tmp t=>simp only[FW];rw[KN (h t (by simp[O5]))]
 |_=>rfl
def A1D{m:F4}(h:mt.getD t .val=m)(hd:dm m=m):mt.set t (dm (mt.getD t .val))=mt:=by
 refine zDq λj=>?_;by_cases hj:t=j
 ·subst hj;rw[z3q]at h;cases hm:mt[t]? with
  |none=>rw[z8q (by simpa using hm)]
  |some m=>
    rw[hm]at h;simp only[zsq]at h;have hl:t<mt.length:=by
     rcases zuq t mt.length with g | g
     ·exact g
     ·rw[z8q g]at hm;cases hm
    rw[z2q hl,z3q,hm,zsq,h,hd]
 ·rw[z1q hj]
def A7e:FW mt (.tmp t)=[t]\/mt.set t (dm (mt.getD t .val))=mt:=by
 cases h:mt.getD t .val
 case arr i sz a n=>exact .inr (by have:=A1D h rfl;rw[h]at this;exact this)
 case Q0 i sz a n=>exact .inr (by have:=A1D h rfl;rw[h]at this;exact this)
 all_goals (refine .inl ?_;simp only[FW,h])
def Two.z_{s s':St}(A:Two f st st' s s')(hx:∀t∈FW s.mt x,t∈f.wt)(he:∀t∈O5 x,s'.tm[t]?=s.tm[t]?/\s'.mt[t]?=s.mt[t]?):Two f st st' (s.release x) (s'.release x):=by
 cases x with
 |tmp t=>
   have em:s'.mt.getD t .val=s.mt.getD t .val:=KN (he t (by simp[O5])).2 _;rcases A7e (mt:=s.mt) (t:=t)with h | h
   ·exact A.release (λu hu=>hx u (by rw[h];simpa[O5]using hu)) he
   ·have h':s'.mt.set t (dm (s'.mt.getD t .val))=s'.mt:=by
     refine zDq λj=>?_;by_cases hj:t=j
     ·subst hj;have e:=(he t (by simp[O5])).2;have q:(s.mt.set t (dm (s.mt.getD t .val)))[t]?=s.mt[t]?:=by rw[h]
      rw[em];rcases zuq t s'.mt.length with g | g
      ·rcases zuq t s.mt.length with g' | g'
       ·rw[z2q g,e,<- q,z2q g']
       ·rw[z8q g',List.getElem?_eq_none_iff]at e;omega
      ·rw[z8q g,z8q (by simpa using g)]
     ·rw[z1q hj]
    have e1:s.release (.tmp t)=s:=by simp only[St.release,h]
    have e2:s'.release (.tmp t)=s':=by simp only[St.release,h']
    rw[e1,e2];exact A
 |_=>exact A
def Two.wU{s s':St}(A:Two f st st' s s')(ht:t∈f.wb)(c:Option (List (DV×F4))):Two f st st' { s with bx:=s.bx.set t c } { s' with bx:=s'.bx.set t c }:=by
 obtain⟨l,ls,ls',a1,a2,a3⟩:=A;refine⟨l,by simpa using ls,by simpa using ls',a1,λi=>?_,a3⟩;by_cases hi:t=i
 ·subst hi;refine .inl ⟨ht,?_⟩;simp only[zmq];rcases zuq t st.bx.length with h | h
  ·rw[z5q (by omega),z5q (by omega)];rfl
  ·rw[z8q (by omega),z8q (by omega)]
 ·simp only[z1q hi]
  exact a2 i
def Two.FX{s s':St}(A:Two f st st' s s')(hs:f.ws=true)(g:List E5):Two f st st' { s with sg:=g } { s' with sg:=g } :=⟨A.l,A.ls,A.ls',A.t,A.b,.inl ⟨hs,rfl⟩⟩
def M7(a b:List Nat):Prop:=∀t∈a,t∈b
theorem FH.src(A:FH f st st')(P:Program)(t:TypeId)(h:M7 (O5 x) f.rt):src P t st' x=src P t st x:=by
 cases x with
 |tmp i=>obtain⟨h1,h2⟩:=A.t i (h i (by simp[O5]));simp only[Su.src,St.get,KN h1,KN h2]
 |_=>rfl
theorem FH.KI{f:Fp}{st st':St}(A:FH f st st')(P:Program):∀{ts:List TypeId}{xs:List Operand},M7 (J9 xs) f.rt->KI P st' ts xs=KI P st ts xs
 |t::ts,x::xs,h=>by simp only[Su.KI];rw[A.src P t (λi hi=>h i (by simp[J9,hi])),FH.KI A P λi hi=>h i (by simp only[J9,zeq,zcq];exact .inr hi)]
 |[],x::xs,h=>by simp only[Su.KI];rw[A.src P 0 (λi hi=>h i (by simp[J9,hi])),FH.KI A P λi hi=>h i (by simp only[J9,zeq,zcq];exact .inr hi)]
 |[],[],_=>rfl
 |_::_,[],_=>rfl
def FH.opt(A:FH f st st')(P:Program){x:Option Operand}(h:M7 (J9 x.toList) f.rt):Xw P st' x=Xw P st x:=by
 cases x with
 |none=>rfl
 |some x=>simp only[Xw];rw[A.src P 0 λi hi=>h i (by simp[J9,hi])]
def FH.bx(A:FH f st st')(h:i∈f.rb):st'.bx.getD i none=st.bx.getD i none:=KN (A.b i h) none
variable {y:Operand}
def QF{r:List Nat}(h:M7 (J9 [x,y]) r):M7 (O5 x) r/\M7 (O5 y) r :=⟨λi hi=>h i (by simp[J9,hi]),λi hi=>h i (by simp[J9,hi])⟩
section
variable {X:Type}{C:Ba}{R:O9}{fl:H8}{o:Oper}{st:St}{k:St->Option X}{x:X}{f:Fp}
def Fr(C:Ba)(R:O9)(fl:H8)(o:Oper)(st:St)(k:St->Option X)(x:X)(f:Fp):Prop :=∃s,k s=some x/\(∀t,f.nb=some t->Ll t st.mt=true)/\∀st',FH f st st'->∃s',Two f st st' s s'/\∀(Y:Type)(k':St->Option Y),J4 C R fl o st' k'=k' s'
def O0{d:DV}{m:F4}(hk:k (st.put o.dst d m)=some x)(hw:M7 o.dst.toList f.wt)(hn:f.nb=none)(h:∀st',FH f st st'->∀(Y:Type)(k':St->Option Y),J4 C R fl o st' k'=k' (st'.put o.dst d m)):Fr C R fl o st k x f :=⟨_,hk,by rw[hn];simp,λst' A=>⟨_,(Two.refl A).put hw d m,λY k'=>h st' A Y k'⟩⟩
def A9t(F7:o.op=.move y\/o.op=.assign y)(H:J4 C R fl o st k=some x)(hr:M7 (O5 y) f.rt)(hw:M7 o.dst.toList f.wt)(hs:I9 fl.Q3 o.dst=true->M7 (O5 y) f.wt)(hn:f.nb=none):
 Fr C R fl o st k x f:=by
 have IL:∀(Y:Type)(st:St)(k:St->Option Y),J4 C R fl o st k=ob (src C.P o.type st y) λr=>if I9 fl.Q3 o.dst then k ((st.release y).put o.dst r.1 r.2)else k (st.put o.dst r.1 (dm r.2)):=by intro Y st k;rcases F7 with h | h<;>simp only[J4,h]
 rw[IL]at H;obtain⟨r,h1,H⟩:=D6 H;by_cases Q9:I9 fl.Q3 o.dst=true
 ·rw[C9 Q9]at H;refine⟨_,H,by rw[hn];simp,λst' A=>⟨_,((Two.refl A).release (hs Q9) λt ht=>A.t t (hr t ht)).put hw r.1 r.2,λY k'=>?_⟩⟩;rw[IL,A.src _ _ hr,h1];simp only[ob,C9 Q9]
 ·rw[A7 Q9]at H;refine O0 H hw hn λst' A Y k'=>?_;rw[IL,A.src _ _ hr,h1];simp only[ob,A7 Q9]
def B6x{c z:Operand}(F7:o.op=.pick c y z)(H:J4 C R fl o st k=some x)(hr:M7 (J9 [c,y,z]) f.rt)(hw:M7 o.dst.toList f.wt)(hn:f.nb=none):Fr C R fl o st k x f:=by simp only[J4,F7]at H;obtain⟨rc,h1,H⟩:=D6 H;obtain⟨ra,h2,H⟩:=D6 H;obtain⟨rb,h3,H⟩:=D6 H;obtain⟨h4,H⟩:=H6 H;obtain⟨d,h5,H⟩:=D6 H;have r1:M7 (O5 c) f.rt:=λi hi=>hr i (by simp[J9,hi]);have r2:M7 (O5 y) f.rt:=λi hi=>hr i (by simp[J9,hi]);have r3:M7 (O5 z) f.rt:=λi hi=>hr i (by simp[J9,hi]);refine O0 H hw hn λst' A Y k'=>?_;simp only[J4,F7,A.src _ _ r1,A.src _ _ r2,A.src _ _ r3,h1,h2,h3,ob,h4,og,h5]
variable {t:TypeId}
def B9o{op:UnOp}(F7:o.op=.unOp op t y)(H:J4 C R fl o st k=some x)(hr:M7 (O5 y) f.rt)(hw:M7 o.dst.toList f.wt)(hn:f.nb=none):Fr C R fl o st k x f:=by simp only[J4,F7]at H;obtain⟨r,h1,H⟩:=D6 H;obtain⟨h4,H⟩:=H6 H;obtain⟨d,h5,H⟩:=D6 H;refine O0 H hw hn λst' A Y k'=>?_;simp only[J4,F7,A.src _ _ hr,h1,ob,h4,og,h5]
def B6w{u:TypeId}(F7:o.op=.convert t u y)(H:J4 C R fl o st k=some x)(hr:M7 (O5 y) f.rt)(hw:M7 o.dst.toList f.wt)(hn:f.nb=none):Fr C R fl o st k x f:=by
 simp only[J4,F7]at H;obtain⟨r,h1,H⟩:=D6 H;split at H
 ·rename_i kd hk;obtain⟨h4,H⟩:=H6 H;obtain⟨d,h5,H⟩:=D6 H;refine O0 H hw hn λst' A Y k'=>?_;simp only[J4,F7,A.src _ _ hr,h1,ob,hk,h4,og,h5]
 ·simp at H
def A6o(F7:o.op=.fieldAddr t y i)(H:J4 C R fl o st k=some x)(hr:M7 (O5 y) f.rt)(hw:M7 o.dst.toList f.wt)(hn:f.nb=none):Fr C R fl o st k x f:=by
 simp only[J4,F7,Rm]at H;obtain⟨r,h1,H⟩:=D6 H;obtain⟨fd,h2,H⟩:=D6 H;obtain⟨z,h3,H⟩:=D6 H;by_cases h0:z.1=0
 ·rw[C9 h0]at H;simp at H
 ·rw[A7 h0]at H;split at H
  all_goals first
   | (rename_i hm
      refine O0 H hw hn λst' A Y k'=>?_;simp only[J4,F7,Rm,A.src _ _ hr,h1,h2,h3,ob,A7 h0,hm])
   |simp at H
def A6p{i:Operand}(F7:o.op=.indexAddr t y i)(H:J4 C R fl o st k=some x)(hr:M7 (J9 [y,i]) f.rt)(hw:M7 o.dst.toList f.wt)(hn:f.nb=none):Fr C R fl o st k x f:=by
 obtain⟨q1,q2⟩:=QF hr;simp only[J4,F7,Gt]at H;obtain⟨r,h1,H⟩:=D6 H;obtain⟨j,h2,H⟩:=D6 H;cases h3:Iq C.P t with
 |none=>
   rw[h3]at H;simp only[mX]at H;obtain⟨q,h4,H⟩:=D6 H;obtain⟨z,h5,H⟩:=D6 H;split at H
   ·rename_i hm;obtain⟨h6,H⟩:=H6 H;obtain⟨n,h7,H⟩:=D6 H;refine O0 H hw hn λst' A Y k'=>?_;simp only[J4,F7,Gt,A.src _ _ q1,A.src _ _ q2,h1,h2,h3,mX,h4,h5,ob,hm,h6,og,h7]
   ·cases H
 |some e=>
 rw[h3]at H;simp only at H;obtain⟨z,h4,H⟩:=D6 H;split at H
 ·rename_i hm;obtain⟨h5,H⟩:=H6 H;obtain⟨n,h6,H⟩:=D6 H;refine O0 H hw hn λst' A Y k'=>?_;simp only[J4,F7,Gt,A.src _ _ q1,A.src _ _ q2,h1,h2,h3,h4,ob,hm,h5,og,h6]
 ·rename_i hm;obtain⟨h5,H⟩:=H6 H;obtain⟨n,h6,H⟩:=D6 H;refine O0 H hw hn λst' A Y k'=>?_;simp only[J4,F7,Gt,A.src _ _ q1,A.src _ _ q2,h1,h2,h3,h4,ob,hm,h5,og,h6]
 ·rename_i m hm;obtain⟨h5,H⟩:=H6 H;obtain⟨d,h6,H⟩:=D6 H;by_cases hz:z.2=true
  ·rw[C9 hz]at H;refine O0 H hw hn λst' A Y k'=>?_;simp only[J4,F7,Gt,A.src _ _ q1,A.src _ _ q2,h1,h2,h3,h4,ob,h5,og,h6,C9 hz]
  ·rw[A7 hz]at H;obtain⟨h8,H⟩:=H6 H;refine O0 H hw hn λst' A Y k'=>?_;simp only[J4,F7,Gt,A.src _ _ q1,A.src _ _ q2,h1,h2,h3,h4,ob,h5,og,h6,A7 hz,h8]
def B4s{i:Operand}(F7:o.op=.index t y i)(H:J4 C R fl o st k=some x)(hr:M7 (J9 [y,i]) f.rt)(hw:M7 o.dst.toList f.wt)(hn:f.nb=none):Fr C R fl o st k x f:=by
 obtain⟨q1,q2⟩:=QF hr;simp only[J4,F7]at H;obtain⟨r,h1,H⟩:=D6 H;obtain⟨j,h2,H⟩:=D6 H;split at H
 ·rename_i hu;obtain⟨h5,H⟩:=H6 H;obtain⟨d,h6,H⟩:=D6 H;refine O0 H hw hn λst' A Y k'=>?_;simp only[J4,F7,A.src _ _ q1,A.src _ _ q2,h1,h2,ob,hu,h5,og,h6]
 ·simp at H
def B4t{lo hi mx:Option Operand}(F7:o.op=.slice t y lo hi mx)(H:J4 C R fl o st k=some x)(hr:M7 (J9 (y::(lo.toList++hi.toList++mx.toList))) f.rt)(hw:M7 o.dst.toList f.wt)(hn:f.nb=none):
 Fr C R fl o st k x f:=by
 have q1:M7 (O5 y) f.rt:=λi h=>hr i (by simp only[J9,zeq,zcq];exact .inl h);have q2:M7 (J9 lo.toList) f.rt:=λi h=>hr i (by simp only[J9,zeq,zGq,zcq]at h ⊢;exact .inr (.inl (.inl h)));have q3:M7 (J9 hi.toList) f.rt:=λi h=>hr i (by simp only[J9,zeq,zGq,zcq]at h ⊢;exact .inr (.inl (.inr h)));have q4:M7 (J9 mx.toList) f.rt:=λi h=>hr i (by simp only[J9,zeq,zGq,zcq]at h ⊢;exact .inr (.inr h));simp only[J4,F7,Qa]at H;obtain⟨r,h1,H⟩:=D6 H;obtain⟨l,h2,H⟩:=D6 H;obtain⟨h,h3,H⟩:=D6 H;obtain⟨m,h4,H⟩:=D6 H;split at H
 ·rename_i q hq;obtain⟨e,g1,H⟩:=D6 H;obtain⟨z,g2,H⟩:=D6 H;obtain⟨g3,H⟩:=H6 H;obtain⟨hh,g4,H⟩:=D6 H;obtain⟨ll,g5,H⟩:=D6 H;obtain⟨g6,H⟩:=L9 H;refine O0 H hw hn λst' A Y k'=>?_;simp only[J4,F7,Qa,A.src _ _ q1,A.opt _ q2,A.opt _ q3,A.opt _ q4,h1,h2,h3,h4,M8,hq,g1,g2,g3,X8,g4,g5,C9 g6]
 rename_i hq;split at H
 ·rename_i q Uu;obtain⟨e,g1,H⟩:=D6 H;obtain⟨z,g2,H⟩:=D6 H;obtain⟨g3,H⟩:=H6 H;obtain⟨hh,g4,H⟩:=D6 H;obtain⟨g6,H⟩:=L9 H;refine O0 H hw hn λst' A Y k'=>?_;simp only[J4,F7,Qa,A.src _ _ q1,A.opt _ q2,A.opt _ q3,A.opt _ q4,h1,h2,h3,h4,M8,hq,Uu,g1,g2,g3,X8,g4,C9 g6]
 rename_i Uu;obtain⟨h5,H⟩:=H6 H;split at H
 ·rename_i e hu;obtain⟨z,h6,H⟩:=D6 H;split at H
  ·obtain⟨d,h7,H⟩:=D6 H;refine O0 H hw hn λst' A Y k'=>?_;simp only[J4,F7,Qa,A.src _ _ q1,A.opt _ q2,A.opt _ q3,A.opt _ q4,h1,h2,h3,h4,M8,hq,Uu,h5,X8,hu,h7,h6]
  ·obtain⟨d,h7,H⟩:=D6 H;refine O0 H hw hn λst' A Y k'=>?_;simp only[J4,F7,Qa,A.src _ _ q1,A.opt _ q2,A.opt _ q3,A.opt _ q4,h1,h2,h3,h4,M8,hq,Uu,h5,X8,hu,h7,h6]
  ·simp at H
 ·rename_i hu;split at H
  ·obtain⟨d,h7,H⟩:=D6 H;refine O0 H hw hn λst' A Y k'=>?_;simp only[J4,F7,Qa,A.src _ _ q1,A.opt _ q2,A.opt _ q3,A.opt _ q4,h1,h2,h3,h4,M8,hq,Uu,h5,X8,hu,h7]
  ·simp at H
 ·simp at H
def A8A(F7:o.op=.nilCheck y)(H:J4 C R fl o st k=some x)(hr:M7 (O5 y) f.rt)(hw:M7 o.dst.toList f.wt)(hn:f.nb=none):Fr C R fl o st k x f:=by
 simp only[J4,F7]at H;obtain⟨r,h1,H⟩:=D6 H;split at H
 all_goals first
  | (rename_i hm
     refine O0 H hw hn λst' A Y k'=>?_;simp only[J4,F7,A.src _ _ hr,h1,ob,hm];done)
  | (simp at H;done)
  |skip
 rename_i hm;obtain⟨q,h2,H⟩:=D6 H;obtain⟨d,h3,H⟩:=D6 H;refine O0 H hw hn λst' A Y k'=>?_;simp only[J4,F7,A.src _ _ hr,h1,ob,hm,h2,h3]
def A8z{g:FuncId}{first caps:Array Operand}(F7:o.op=.makeFunc (.func g) first caps)(H:J4 C R fl o st k=some x)(hr:M7 (J9 caps.toList) f.rt)(hw:M7 o.dst.toList f.wt)(hn:f.nb=none):Fr C R fl o st k x f:=by simp only[J4,F7]at H;obtain⟨h0,H⟩:=L9 H;obtain⟨rs,h1,H⟩:=D6 H;obtain⟨ms,h2,H⟩:=D6 H;refine O0 H hw hn λst' A Y k'=>?_;simp only[J4,F7,A.KI _ hr,h1,ob,h2,C9 h0]
def B73{op:BinOp}{z:Operand}{yt:TypeId}(F7:o.op=.binOp op t y z yt)(H:J4 C R fl o st k=some x)(hr:M7 (J9 [y,z]) f.rt)(hw:M7 o.dst.toList f.wt)(hn:f.nb=none):Fr C R fl o st k x f:=by
 obtain⟨q1,q2⟩:=QF hr;simp only[J4,F7,Yw]at H;obtain⟨r,h1,H⟩:=D6 H;obtain⟨s,h2,H⟩:=D6 H;split at H
 ·rename_i hb;obtain⟨h3,H⟩:=H6 H;obtain⟨d,h4,H⟩:=D6 H;refine O0 H hw hn λst' A Y k'=>?_;simp only[J4,F7,Yw,A.src _ _ q1,A.src _ _ q2,h1,h2,ob,hb,h3,og,h4]
 ·rename_i hb;obtain⟨h3,H⟩:=H6 H;obtain⟨d,h4,H⟩:=D6 H;obtain⟨e,h5,H⟩:=D6 H;refine O0 H hw hn λst' A Y k'=>?_;simp only[J4,F7,Yw,A.src _ _ q1,A.src _ _ q2,h1,h2,ob,hb,h3,og,h4,h5]
 ·rename_i hb;obtain⟨h3,H⟩:=H6 H;obtain⟨d,h4,H⟩:=D6 H;obtain⟨e,h5,H⟩:=D6 H;refine O0 H hw hn λst' A Y k'=>?_;simp only[J4,F7,Yw,A.src _ _ q1,A.src _ _ q2,h1,h2,ob,hb,h3,og,h4,h5]
 ·rename_i hb;obtain⟨d,h4,H⟩:=D6 H;obtain⟨e,h5,H⟩:=D6 H;refine O0 H hw hn λst' A Y k'=>?_;simp only[J4,F7,Yw,A.src _ _ q1,A.src _ _ q2,h1,h2,ob,hb,h4,h5]
 ·rename_i hb;obtain⟨d,h4,H⟩:=D6 H;obtain⟨e,h5,H⟩:=D6 H;refine O0 H hw hn λst' A Y k'=>?_;simp only[J4,F7,Yw,A.src _ _ q1,A.src _ _ q2,h1,h2,ob,hb,h4,h5]
 ·simp at H
end
end Go.Su

/-
 THE DATA MACHINE, part 20: footprints, the operations that look at memory.
-/
namespace Go.Su
set_option linter.defProp false
variable {X:Type}{x:X}
def ND{r:DV×F4}{K:DV×F4->Option X}(H:cellOf r K=some x):∃c,K c=some x/\∀(Y:Type)(K':DV×F4->Option Y),cellOf r K'=K' c:=by
 unfold cellOf at H;split at H
 ·rename_i hm;obtain⟨h,H⟩:=H6 H;exact⟨_,H,λY K'=>by simp only[cellOf,hm,h,X8]⟩
 ·rename_i hm;exact⟨_,H,λY K'=>by simp only[cellOf,hm]⟩
 ·rename_i hm;exact⟨_,H,λY K'=>by simp only[cellOf,hm]⟩
 ·rename_i hm;exact⟨_,H,λY K'=>by simp only[cellOf,hm]⟩
 ·rename_i hm;exact⟨_,H,λY K'=>by simp only[cellOf,hm]⟩
 ·rename_i h1 h2 h3 h4 h5;obtain⟨h,H⟩:=H6 H;refine⟨_,H,λY K'=>?_⟩;unfold cellOf;split<;>simp_all[X8]
variable {P:Program}{t:TypeId}
def Ny{r:DV×F4}{K:List (DV×F4)->Option X}(H:II P t r K=some x):
 ∃cs,K cs=some x/\∀(Y:Type)(K':List (DV×F4)->Option Y),II P t r K'=K' cs:=by
 unfold II at H;obtain⟨z,hz,H⟩:=D6 H;split at H
 ·rename_i h2;obtain⟨h3,H⟩:=H6 H;obtain⟨cs,h4,H⟩:=D6 H;exact⟨_,H,λY K'=>by simp only[II,hz,M8,C9 h2,h3,X8,h4]⟩
 ·rename_i h2;obtain⟨c,h3,h4⟩:=ND H;exact⟨_,h3,λY K'=>by simp only[II,hz,M8,A7 h2,h4]⟩
def tZ{r:DV×F4}{K:List (DV×F4)->Option X}(H:Ji P t r K=some x):
 ∃cs,K cs=some x/\∀(Y:Type)(K':List (DV×F4)->Option Y),Ji P t r K'=K' cs:=by
 unfold Ji at H;obtain⟨z,hz,H⟩:=D6 H;split at H
 ·rename_i h2;obtain⟨h3,H⟩:=H6 H;obtain⟨cs,h4,H⟩:=D6 H;exact⟨cs,H,λY K'=>by simp only[Ji,hz,M8,C9 h2,h3,X8,h4]⟩
 ·rename_i h2;obtain⟨c,h3,h4⟩:=ND H;exact⟨_,h3,λY K'=>by simp only[Ji,hz,M8,A7 h2,h4]⟩
def Wu{z:Nat×Bool}{r:DV×F4}{K:DV->Option X}(H:Nw z r K=some x):K r.1=some x/\∀(Y:Type)(K':DV->Option Y),Nw z r K'=K' r.1:=by
 unfold Nw at H;obtain⟨h1,H⟩:=H6 H;split at H
 ·rename_i h2;obtain⟨h3,H⟩:=H6 H;exact⟨H,λY K'=>by simp only[Nw,h1,X8,C9 h2,h3]⟩
 ·rename_i h2;obtain⟨h3,H⟩:=H6 H;exact⟨H,λY K'=>by simp only[Nw,h1,X8,A7 h2,h3]⟩
def i_{X:Type}{P:Program}{t:TypeId}{st:St}{x:X}{rt:List Nat}:∀{ps:List (Nat×Operand)}{cs:List (DV×F4)}{k:List (DV×F4)->Option X},Gs P t st ps cs k=some x->M7 (J9 (ps.map (·.2))) rt->
 ∃cs',k cs'=some x/\∀(f:Fp) st',FH f st st'->M7 rt f.rt->∀(Y:Type)(k':List (DV×F4)->Option Y),Gs P t st' ps cs k'=k' cs'
 |[],cs,k,H,_=>⟨cs,H,λ_ _ _ _ _ _=>rfl⟩
 | (i,y)::ps,cs,k,H,hs=>by
   simp only[Gs]at H;obtain⟨fd,h1,H⟩:=D6 H;obtain⟨r,h2,H⟩:=D6 H;obtain⟨xs,H,h3⟩:=Ny H;obtain⟨h4,H⟩:=L9 H;have s1:M7 (O5 y) rt:=λi h=>hs i (by simp only[y3q,J9,zeq,zcq];exact .inl h);have s2:M7 (J9 (ps.map (·.2))) rt:=λi h=>hs i (by simp only[y3q,J9,zeq,zcq]at h ⊢;exact .inr h);obtain⟨cs',h5,h6⟩:=i_ H s2;refine⟨cs',h5,λf st' A hr Y k'=>?_⟩;simp only[Gs,h1,M8,A.src P fd.1 (λi h=>hr i (s1 i h)),h2,h3,C9 h4]
   exact h6 f st' A hr Y k'
variable {x:Operand}
def FH.iP{f:Fp}{st st':St}(A:FH f st st')(P:Program)(t:TypeId)(h:M7 (O5 x) f.rt):iP P t st' x=iP P t st x:=by
 have e:=A.src P t h;unfold Su.iP;split
 ·rfl
 ·exact e
def lK{X:Type}{P:Program}{e:TypeId}{z:Nat×Bool}{st:St}{x:X}{rt:List Nat}:∀{ps:List (Nat×Operand)}{ds:List DV}{k:List DV->Option X},JJ P e z st ps ds k=some x->M7 (J9 (ps.map (·.2))) rt->
 ∃ds',k ds'=some x/\∀(f:Fp) st',FH f st st'->M7 rt f.rt->∀(Y:Type)(k':List DV->Option Y),JJ P e z st' ps ds k'=k' ds'
 |[],ds,k,H,_=>⟨ds,H,λ_ _ _ _ _ _=>rfl⟩
 | (i,y)::ps,ds,k,H,hs=>by
   simp only[JJ]at H;obtain⟨r,h2,H⟩:=D6 H;obtain⟨H,h3⟩:=Wu H;obtain⟨h4,H⟩:=L9 H;have s1:M7 (O5 y) rt:=λi h=>hs i (by simp only[y3q,J9,zeq,zcq];exact .inl h);have s2:M7 (J9 (ps.map (·.2))) rt:=λi h=>hs i (by simp only[y3q,J9,zeq,zcq]at h ⊢;exact .inr h);obtain⟨ds',h5,h6⟩:=lK H s2;refine⟨ds',h5,λf st' A hr Y k'=>?_⟩;simp only[JJ,M8,A.iP P e (λi h=>hr i (s1 i h)),h2,h3,C9 h4]
   exact h6 f st' A hr Y k'
section
variable {X:Type}{C:Ba}{R:O9}{fl:H8}{o:Oper}{st:St}{k:St->Option X}{x:X}{f:Fp}
def B1m{ts:List Nat}:∀{st0 st st' s:St},Py ts st=some s->(∀t∈ts,t∈f.rt/\t∈f.wt)->(ts≠[]->f.rs=true/\f.ws=true)->f.nb=none->∀st0',FH f st st'->Two f st0 st0' st st'->
 ∃s',Py ts st'=some s'/\FH f s s'/\Two f st0 st0' s s':=by
 induction ts with
 |nil=>intro st0 st st' s H _ _ _ st0' A B;simp only[Py,D8]at H;subst H;exact⟨st',rfl,A,B⟩
 |cons t ts ih=>
   intro st0 st st' s H h1 h2 h3 st0' A B;simp only[Py]at H;split at H
   ·rename_i ks hm;obtain⟨q1,q2⟩:=h1 t (zIq ..);obtain⟨q3,q4⟩:=h2 (by simp);obtain⟨a1,a2⟩:=A.t t q1;have RB:(st'.get t).2=.Hl ks:=by rw[<- hm];simp only[St.get,KN a2]
    have es:=A.s q3;have C0m:∀(l l':List E5),l'=l->(∀(i:Nat),i∈f.rt->((St.put { st' with sg:=l' } (some t) .undef (.map st'.sg.length)).tm[i]?=(St.put { st with sg:=l } (some t) .undef (.map st.sg.length)).tm[i]?/\(St.put { st' with sg:=l' } (some t) .undef (.map st'.sg.length)).mt[i]?=(St.put { st with sg:=l } (some t) .undef (.map st.sg.length)).mt[i]?)):=by
     intro l l' _ i hi;obtain⟨b1,b2⟩:=A.t i hi;simp only[St.put,es]
     by_cases hti:t=i
     ·subst hti;simp only[zmq];rw[b1,b2];exact⟨rfl,rfl⟩
     ·rw[z1q hti,z1q hti,z1q hti,z1q hti];exact⟨b1,b2⟩
    have A1:FH f ({ st with sg:=st.sg++[E5.map ks []] }.put (some t) .undef (.map st.sg.length)) ({ st' with sg:=st'.sg++[E5.map ks []] }.put (some t) .undef (.map st'.sg.length)):=by refine⟨by simpa[St.put]using A.lt,by simpa[St.put]using A.lm,A.lb,C0m _ _ (by rw[es]),A.b,λ_=>(by simp only[St.put,es]),λt h=>(by rw[h3]at h;cases h),λj _=>(by simp only[St.put,es])⟩
    have B1:Two f st0 st0' ({ st with sg:=st.sg++[E5.map ks []] }.put (some t) .undef (.map st.sg.length)) ({ st' with sg:=st'.sg++[E5.map ks []] }.put (some t) .undef (.map st'.sg.length)):=by rw[es];exact(B.FX q4 _).put (by simpa using q2) _ _
    obtain⟨s',e1,e2,e3⟩:=ih H (λu hu=>h1 u (zRq _ hu)) (λ_=>⟨q3,q4⟩) h3 st0' A1 B1;exact⟨s',by simp only[Py,RB];exact e1,e2,e3⟩
   ·cases H
variable {ps:Array (Nat×Operand)}
def B4r(F7:o.op=.build t ps)(H:J4 C R fl o st k=some x)(hr:M7 (J9 (ps.toList.map (·.2))) f.rt)(hw:M7 o.dst.toList f.wt)(hn:f.nb=none)(hp:∀t∈Ja fl o.dst,t∈f.rt/\t∈f.wt)(hq:Ja fl o.dst≠[]->f.rs=true/\f.ws=true):Fr C R fl o st k x f:=by simp only[J4,F7]at H;obtain⟨s0,h0,H⟩:=D6 H;obtain⟨zs,h1,H⟩:=D6 H;obtain⟨pl,h2,H⟩:=D6 H;obtain⟨cs,H,h3⟩:=i_ H hr;refine⟨_,H,by rw[hn];simp,λst' A=>?_⟩;obtain⟨s',e1,e2,e3⟩:=B1m h0 hp hq hn st' A (Two.refl A);refine⟨_,e3.put hw _ _,λY k'=>?_⟩;simp only[J4,F7,e1,h1,h2,M8];exact h3 f s' e2 (λ_ h=>h) Y _
def A4E{n:Nat}(F7:o.op=.buildSlice t n ps)(H:J4 C R fl o st k=some x)(hr:M7 (J9 (ps.toList.map (·.2))) f.rt)(hw:M7 o.dst.toList f.wt)(hn:f.nb=none)(hv:I9 fl.Dl o.dst=true->f.rs=true/\f.ws=true):Fr C R fl o st k x f:=by
 simp only[J4,F7]at H;obtain⟨e,h1,H⟩:=D6 H;obtain⟨z,h2,H⟩:=D6 H;obtain⟨zs,h3,H⟩:=D6 H;obtain⟨ze,h4,H⟩:=D6 H;obtain⟨h5,H⟩:=L9 H;obtain⟨ds,H,h6⟩:=lK H hr;by_cases hq:I9 fl.Dl o.dst=true
 ·rw[C9 hq]at H;obtain⟨hrs,hws⟩:=hv hq;refine⟨_,H,by rw[hn];simp,λst' A=>⟨_,((Two.refl A).FX hws _).put hw _ _,λY k'=>?_⟩⟩;simp only[J4,F7,h1,h2,h3,h4,M8,C9 h5];rw[h6 f st' A (λ_ h=>h) Y _,C9 hq,A.s hrs]
 ·rw[A7 hq]at H;refine O0 H hw hn λst' A Y k'=>?_;simp only[J4,F7,h1,h2,h3,h4,M8,C9 h5];rw[h6 f st' A (λ_ h=>h) Y _,A7 hq]
def A3q{cs:List (DV×F4)}{sh:Bool}(hk:k (st.FV sh o.dst cs)=some x)(hb:QV sh o.dst st=true)(hw:M7 o.dst.toList f.wt)(h1:sh=true->f.nb=none/\f.rs=true/\f.ws=true)(h2:sh=false->f.nb=o.dst/\M7 o.dst.toList f.wb)(h:∀st',FH f st st'->∀(Y:Type)(k':St->Option Y),J4 C R fl o st' k'=og (QV sh o.dst st') (k' (st'.FV sh o.dst cs))):Fr C R fl o st k x f:=by
 cases hd:o.dst with
 |none=>
   rw[hd]at hk;refine⟨_,hk,?_,λst' A=>⟨_,Two.refl A,λY k'=>by rw[h st' A Y k',hd];rfl⟩⟩;cases sh
   ·rw[(h2 rfl).1,hd];simp
   ·rw[(h1 rfl).1];simp
 |some t=>
   rw[hd]at hk hb;have hw':∀u∈(some t:Option Nat).toList,u∈f.wt:=by rw[<- hd];exact hw
   cases sh
   ·obtain⟨q1,q2⟩:=h2 rfl;have eD:Ll t st.mt=true:=by simpa[QV]using hb
    have cl:∀mt,Ll t mt=true->mt.map (LH t)=mt:=by
     intro mt hh;simp only[Ll,zlq]at hh
     conv=>rhs;rw[<- List.map_id mt]
     refine ybq λm hm=>?_;have:=hh m hm;unfold LH;split
     ·rename_i s' o';simp only[bne_iff_ne,ne_eq]at this;rw[A7 this];rfl
     ·rfl
    refine⟨_,hk,λu hu=>?_,λst' A=>⟨st'.FV false (some t) cs,?_,λY k'=>?_⟩⟩
    ·rw[q1,hd]at hu;cases hu;exact eD
    ·have zR:=A.n t (by rw[q1,hd]);simp only[St.FV,z7q,G8];rw[cl _ eD,cl _ zR];exact((Two.refl A).wU (q2 t (by rw[hd];simp)) (some cs)).put hw' _ _
    ·rw[h st' A Y k',hd];have zR:=A.n t (by rw[q1,hd]);simp only[QV,zR,yoq,X8]
   ·obtain⟨q1,q2,q3⟩:=h1 rfl;refine⟨_,hk,by rw[q1];simp,λst' A=>⟨st'.FV true (some t) cs,?_,λY k'=>?_⟩⟩
    ·simp only[St.FV,F5]
     rw[A.s q2];exact((Two.refl A).FX q3 _).put hw' _ _
    ·rw[h st' A Y k',hd];simp only[QV,Bool.true_or,X8]
def A6n(F7:o.op=.alloc t)(H:J4 C R fl o st k=some x)(hw:M7 o.dst.toList f.wt)(h1:I9 fl.shared o.dst=true->f.nb=none/\f.rs=true/\f.ws=true)(h2:I9 fl.shared o.dst=false->f.nb=o.dst/\M7 o.dst.toList f.wb):Fr C R fl o st k x f:=by simp only[J4,F7]at H;obtain⟨cs,h3,H⟩:=D6 H;obtain⟨h4,H⟩:=H6 H;exact A3q H h4 hw h1 h2 λst' A Y k'=>by simp only[J4,F7,h3,M8]
variable {t:Nat}
theorem B4Q{m:F4}(h:(match m with | .loc s _=>s != t | _=>true)=true):(match dm m with | .loc s _=>s != t | _=>true)=true:=by cases m<;>first | exact h | rfl
variable {y:Operand}
def qQ{st:St}(h:Ll t st.mt=true):Ll t (st.release y).mt=true:=by
 cases y with
 |tmp u=>
   simp only[St.release,Ll,zlq]at h ⊢;intro m hm;rcases List.mem_or_eq_of_mem_set hm with h1 | rfl
   ·exact h m h1
   ·rcases zuq u st.mt.length with hu | hu
    ·refine B4Q ?_;rw[z3q,z5q hu];exact h _ (List.getElem_mem hu)
    ·rw[z3q,z8q hu];rfl
 |_=>exact h
theorem xh{mt:List F4}(hh:Ll t mt=true):mt.map (LH t)=mt:=by
 simp only[Ll,zlq]at hh
 conv=>rhs;rw[<- List.map_id mt]
 refine ybq λm hm=>?_;have:=hh m hm;unfold LH;split
 ·rename_i s' o';simp only[bne_iff_ne,ne_eq]at this;rw[A7 this];rfl
 ·rfl
variable {t:TypeId}
def A1a(F7:o.op=.box t y)(H:J4 C R fl o st k=some x)(hr:M7 (O5 y) f.rt)(hw:M7 o.dst.toList f.wt)(h0:I9 fl.YP o.dst=true->f.nb=none)(hs:I9 fl.YP o.dst=false->I9 fl.Q3 o.dst=true->M7 (O5 y) f.wt/\f.nb=o.dst/\M7 o.dst.toList f.wb)(h1:I9 fl.YP o.dst=false->I9 fl.Q3 o.dst=false->I9 fl.shared o.dst=true->f.nb=none/\f.rs=true/\f.ws=true)(h2:I9 fl.YP o.dst=false->I9 fl.Q3 o.dst=false->I9 fl.shared o.dst=false->f.nb=o.dst/\M7 o.dst.toList f.wb):Fr C R fl o st k x f:=by
 simp only[J4,F7]at H;obtain⟨r,h3,H⟩:=D6 H;by_cases Kq:I9 fl.YP o.dst=true
 ·rw[C9 Kq]at H;obtain⟨z,h4,H⟩:=D6 H;obtain⟨h5,H⟩:=H6 H;exact O0 H hw (h0 Kq) λst' A Y k'=>by simp only[J4,F7,A.src _ _ hr,h3,M8,C9 Kq,h4,h5,X8]
 rw[A7 Kq]at H;have B4D:I9 fl.YP o.dst=false:=by simpa using Kq
 by_cases Q9:I9 fl.Q3 o.dst=true
 ·rw[C9 Q9]at H;obtain⟨q1,q2,q3⟩:=hs B4D Q9;obtain⟨cs,H,h4⟩:=tZ H;obtain⟨h5,H⟩:=H6 H;cases hd:o.dst with
  |none=>rw[hd]at Q9;simp[I9]at Q9
  |some t0=>
    rw[hd]at H h5 q2;have eD:Ll t0 st.mt=true:=by simpa[QV]using h5
    have hw':∀u∈(some t0:Option Nat).toList,u∈f.wt:=by rw[<- hd];exact hw
    refine⟨_,H,λu hu=>?_,λst' A=>⟨(st'.release y).FV false (some t0) cs,?_,λY k'=>?_⟩⟩
    ·rw[q2]at hu;cases hu;exact eD
    ·have zR:=A.n t0 q2;simp only[St.FV,z7q,G8];rw[xh (qQ eD),xh (qQ zR)];exact(((Two.refl A).release q1 λi hi=>A.t i (hr i hi)).wU (q3 t0 (by rw[hd];simp)) (some cs)).put hw' _ _
    ·have zR:=A.n t0 q2;rw[hd]at Kq Q9;simp only[J4,F7,A.src _ _ hr,h3,M8,hd,A7 Kq,C9 Q9,h4,QV,zR,yoq,X8]
 rw[A7 Q9]at H;have B8l:I9 fl.Q3 o.dst=false:=by simpa using Q9
 obtain⟨cs,H,h4⟩:=Ny H;obtain⟨h5,H⟩:=H6 H;exact A3q H h5 hw (h1 B4D B8l) (h2 B4D B8l) λst' A Y k'=>by simp only[J4,F7,A.src _ _ hr,h3,M8,A7 Kq,A7 Q9,h4]
def A7W(P P':Program){x:Operand}{r:DV×F4}(h:src P 0 st x=some r):∃r',src P' 0 st x=some r'/\r'.2=r.2:=by
 cases x with
 |const v=>simp only[src]at h ⊢;unfold cst at h ⊢;split at h<;>simp only[D8,reduceCtorEq]at h<;>subst h<;>exact⟨_,rfl,rfl⟩
 |tmp t=>exact⟨r,h,rfl⟩
 |func f=>exact⟨r,h,rfl⟩
 |global g=>simp[src]at h
def A9s(F7:o.op=.load t y)(H:J4 C R fl o st k=some x)(hr:M7 (O5 y) f.rt)(hw:M7 o.dst.toList f.wt)(hn:f.nb=none)(hb:∀r,src C.P 0 st y=some r->M7 (Ee r.2).1 f.rb/\((Ee r.2).2=true->f.rs=true\/∃j,f.ld=some j/\A60 r.2=some j/\I9 fl.Q3 o.dst=false/\I9 fl.Dl o.dst=false)/\(I9 fl.Q3 o.dst=true->M7 (Ee r.2).1 f.wb/\((Ee r.2).2=true->f.ws=true))/\(I9 fl.Dl o.dst=true->(Ee r.2).2=true->f.ws=true)):
 Fr C R fl o st k x f:=by
 simp only[J4,F7,Ce]at H;obtain⟨r,h1,H⟩:=D6 H;obtain⟨z,h2,H⟩:=D6 H;obtain⟨b1,b2,b3,b4⟩:=hb r h1;split at H
 ·rename_i s off hm;rw[hm]at b1 b2 b3 b4;have hs:s∈f.rb:=b1 s (by simp[Ee]);obtain⟨cs,h3,H⟩:=D6 H;obtain⟨h4,H⟩:=L9 H;by_cases hz:z.2=true
  ·rw[C9 hz]at H;by_cases Q9:I9 fl.Q3 o.dst=true
   ·rw[C9 Q9]at H;refine⟨_,H,by rw[hn];simp,λst' A=>⟨_,((Two.refl A).wU ((b3 Q9).1 s (by simp[Ee])) _).put hw _ _,λY k'=>?_⟩⟩;simp only[J4,F7,Ce,A.src _ _ hr,h1,h2,M8,hm,A.bx hs,h3,C9 h4,C9 hz,C9 Q9]
   rw[A7 Q9]at H;refine O0 H hw hn λst' A Y k'=>?_;simp only[J4,F7,Ce,A.src _ _ hr,h1,h2,M8,hm,A.bx hs,h3,C9 h4,C9 hz,A7 Q9]
  ·rw[A7 hz]at H;by_cases Q9:I9 fl.Q3 o.dst=true
   ·rw[C9 Q9]at H;refine⟨_,H,by rw[hn];simp,λst' A=>⟨_,((Two.refl A).wU ((b3 Q9).1 s (by simp[Ee])) _).put hw _ _,λY k'=>?_⟩⟩;simp only[J4,F7,Ce,A.src _ _ hr,h1,h2,M8,hm,A.bx hs,h3,C9 h4,A7 hz,C9 Q9]
   ·rw[A7 Q9]at H;refine O0 H hw hn λst' A Y k'=>?_;simp only[J4,F7,Ce,A.src _ _ hr,h1,h2,M8,hm,A.bx hs,h3,C9 h4,A7 hz,A7 Q9]
 ·rename_i ag sz off hm;obtain⟨h4,H⟩:=L9 H;by_cases hz:z.2=true
  ·rw[C9 hz]at H;obtain⟨h5,H⟩:=H6 H;refine O0 H hw hn λst' A Y k'=>?_;simp only[J4,F7,Ce,A.src _ _ hr,h1,h2,M8,hm,C9 h4,C9 hz,h5,X8]
  ·rw[A7 hz]at H;refine O0 H hw hn λst' A Y k'=>?_;simp only[J4,F7,Ce,A.src _ _ hr,h1,h2,M8,hm,C9 h4,A7 hz]
 ·rename_i i off hm;rw[hm]at b1 b2 b3 b4;have hs2:(I9 fl.Q3 o.dst=true\/I9 fl.Dl o.dst=true)->f.rs=true:=λh=>by
   rcases b2 rfl with g | ⟨j,_,_,g1,g2⟩
   ·exact g
   ·rcases h with h | h
    ·rw[g1]at h;cases h
    ·rw[g2]at h;cases h
  have hs:∀st',FH f st st'->H5 st'.sg i=H5 st.sg i:=λst' A=>by
   rcases b2 rfl with g | ⟨j,g1,g2,-⟩
   ·rw[A.s g]
   ·cases g2;unfold H5;rw[A.l _ g1]
  obtain⟨cs,h3,H⟩:=D6 H;by_cases hz:z.2=true
  ·rw[C9 hz]at H;obtain⟨h5,H⟩:=H6 H;obtain⟨ds,h6,H⟩:=D6 H;refine O0 H hw hn λst' A Y k'=>?_;simp only[J4,F7,Ce,A.src _ _ hr,h1,h2,M8,hm,hs _ A,h3,C9 hz,h5,X8,h6]
  ·rw[A7 hz]at H;split at H
   ·rename_i hc;obtain⟨j,h6,H⟩:=D6 H;refine O0 H hw hn λst' A Y k'=>?_;simp only[J4,F7,Ce,A.src _ _ hr,h1,h2,M8,hm,hs _ A,h3,A7 hz,hc,h6]
   ·rename_i hc;obtain⟨j,h6,H⟩:=D6 H;refine O0 H hw hn λst' A Y k'=>?_;simp only[J4,F7,Ce,A.src _ _ hr,h1,h2,M8,hm,hs _ A,h3,A7 hz,hc,h6]
   ·rename_i hc;by_cases hg0:I9 fl.OO o.dst=true
    ·rw[C9 hg0]at H;obtain⟨e,h6,H⟩:=D6 H;obtain⟨ze,h7,H⟩:=D6 H;obtain⟨q,h8,H⟩:=D6 H;refine O0 H hw hn λst' A Y k'=>?_;simp only[J4,F7,Ce,A.src _ _ hr,h1,h2,M8,hm,hs _ A,h3,A7 hz,hc,C9 hg0,h6,h7,h8]
    rw[A7 hg0]at H;by_cases uQ:I9 fl.OW o.dst=true
    ·rw[C9 uQ]at H;obtain⟨e,h6,H⟩:=D6 H;obtain⟨ze,h7,H⟩:=D6 H;obtain⟨q,h8,H⟩:=D6 H;refine O0 H hw hn λst' A Y k'=>?_;simp only[J4,F7,Ce,A.src _ _ hr,h1,h2,M8,hm,hs _ A,h3,A7 hz,hc,A7 hg0,C9 uQ,h6,h7,h8]
    rw[A7 uQ]at H;by_cases hq:I9 fl.Dl o.dst=true
    ·rw[C9 hq]at H;obtain⟨e,h6,H⟩:=D6 H;obtain⟨ze,h7,H⟩:=D6 H;obtain⟨q,h8,H⟩:=D6 H;refine⟨_,H,by rw[hn];simp,λst' A=>⟨_,((Two.refl A).FX (b4 hq rfl) _).put hw _ _,λY k'=>?_⟩⟩;simp only[J4,F7,Ce,A.src _ _ hr,h1,h2,M8,hm,A.s (hs2 (.inr hq)),h3,A7 hz,hc,A7 hg0,A7 uQ,C9 hq,h6,h7,h8]
    ·rw[A7 hq]at H;by_cases Q9:I9 fl.Q3 o.dst=true
     ·rw[C9 Q9]at H;obtain⟨d,h6,H⟩:=D6 H;refine⟨_,H,by rw[hn];simp,λst' A=>⟨_,((Two.refl A).FX ((b3 Q9).2 rfl) _).put hw _ _,λY k'=>?_⟩⟩;simp only[J4,F7,Ce,A.src _ _ hr,h1,h2,M8,hm,A.s (hs2 (.inl Q9)),h3,A7 hz,hc,A7 hg0,A7 uQ,A7 hq,C9 Q9,h6]
     ·rw[A7 Q9]at H;obtain⟨d,h6,H⟩:=D6 H;refine O0 H hw hn λst' A Y k'=>?_;simp only[J4,F7,Ce,A.src _ _ hr,h1,h2,M8,hm,hs _ A,h3,A7 hz,hc,A7 hg0,A7 uQ,A7 hq,A7 Q9,h6]
 ·rename_i i sz idx off hm;rw[hm]at b1 b2 b3 b4;have hs:∀st',FH f st st'->Ql st'.sg i=Ql st.sg i:=λst' A=>by
   rcases b2 rfl with g | ⟨j,g1,g2,-⟩
   ·rw[A.s g]
   ·cases g2;unfold Ql;rw[A.l _ g1]
  obtain⟨a,h3,H⟩:=D6 H;obtain⟨d,h4,H⟩:=D6 H;obtain⟨h5,H⟩:=H6 H;obtain⟨h6,H⟩:=L9 H;by_cases hz:z.2=true
  ·rw[C9 hz]at H;refine O0 H hw hn λst' A Y k'=>?_;simp only[J4,F7,Ce,A.src _ _ hr,h1,h2,M8,hm,hs _ A,h3,h4,h5,X8,C9 h6,C9 hz]
  ·rw[A7 hz]at H;by_cases h7:sz=1
   ·rw[C9 h7]at H;obtain⟨h8,H⟩:=H6 H;refine O0 H hw hn λst' A Y k'=>?_;simp only[J4,F7,Ce,A.src _ _ hr,h1,h2,M8,hm,hs _ A,h3,h4,h5,X8,C9 h6,A7 hz,C9 h7,h8]
   ·rw[A7 h7]at H;refine O0 H hw hn λst' A Y k'=>?_;simp only[J4,F7,Ce,A.src _ _ hr,h1,h2,M8,hm,hs _ A,h3,h4,h5,X8,C9 h6,A7 hz,A7 h7]
 ·rename_i i n sz idx off hm;rw[hm]at b1 b2 b3 b4;have hs:∀st',FH f st st'->V5 st'.sg i n=V5 st.sg i n:=λst' A=>by
   rcases b2 rfl with g | ⟨j,g1,g2,-⟩
   ·rw[A.s g]
   ·cases g2;unfold V5;rw[A.l _ g1]
  obtain⟨a,h3,H⟩:=D6 H;obtain⟨d,h4,H⟩:=D6 H;obtain⟨h5,H⟩:=H6 H;obtain⟨h6,H⟩:=L9 H;by_cases hz:z.2=true
  ·rw[C9 hz]at H;refine O0 H hw hn λst' A Y k'=>?_;simp only[J4,F7,Ce,A.src _ _ hr,h1,h2,M8,hm,hs _ A,h3,h4,h5,X8,C9 h6,C9 hz]
  ·rw[A7 hz]at H;by_cases h7:sz=1
   ·rw[C9 h7]at H;obtain⟨h8,H⟩:=H6 H;refine O0 H hw hn λst' A Y k'=>?_;simp only[J4,F7,Ce,A.src _ _ hr,h1,h2,M8,hm,hs _ A,h3,h4,h5,X8,C9 h6,A7 hz,C9 h7,h8]
   ·rw[A7 h7]at H;refine O0 H hw hn λst' A Y k'=>?_;simp only[J4,F7,Ce,A.src _ _ hr,h1,h2,M8,hm,hs _ A,h3,h4,h5,X8,C9 h6,A7 hz,A7 h7]
 ·simp at H
def B4u{v:Operand}(F7:o.op=.store t y v)(H:J4 C R fl o st k=some x)(hr:M7 (J9 [y,v]) f.rt)(hw:M7 o.dst.toList f.wt)(hwv:M7 (FW st.mt v) f.wt)(hn:f.nb=none)(hb:∀r,src C.P 0 st y=some r->M7 (Ee r.2).1 f.rb/\((Ee r.2).2=true->f.rs=true)/\M7 (Ee r.2).1 f.wb/\((Ee r.2).2=true->f.ws=true)):
 Fr C R fl o st k x f:=by
 obtain⟨q1,q2⟩:=QF hr;simp only[J4,F7,Dk]at H;obtain⟨r,h1,H⟩:=D6 H;obtain⟨u,h2,H⟩:=D6 H;obtain⟨z,h3,H⟩:=D6 H;obtain⟨b1,b2,b3,b4⟩:=hb r h1;split at H
 ·rename_i s off hm;rw[hm]at b1 b2 b3 b4;have hs:s∈f.rb:=b1 s (by simp[Ee]);have EM:s∈f.wb:=b3 s (by simp[Ee]);obtain⟨cs,h4,H⟩:=D6 H;by_cases hz:z.2=true
  ·rw[C9 hz]at H;obtain⟨xs,H,h5⟩:=tZ H;obtain⟨h6,H⟩:=L9 H;refine⟨_,H,by rw[hn];simp,λst' A=>⟨_,(((Two.refl A).wU EM _).z_ hwv λi hi=>A.t i (q2 i hi)).put hw _ _,λY k'=>?_⟩⟩;simp only[J4,F7,Dk,A.src _ _ q1,A.src _ _ q2,h1,h2,h3,M8,hm,A.bx hs,h4,C9 hz,h5,C9 h6]
  ·rw[A7 hz]at H;obtain⟨c,H,h5⟩:=ND H;obtain⟨h6,H⟩:=L9 H;refine⟨_,H,by rw[hn];simp,λst' A=>⟨_,(((Two.refl A).wU EM _).z_ hwv λi hi=>A.t i (q2 i hi)).put hw _ _,λY k'=>?_⟩⟩;simp only[J4,F7,Dk,A.src _ _ q1,A.src _ _ q2,h1,h2,h3,M8,hm,A.bx hs,h4,A7 hz,h5,C9 h6]
 ·rename_i i off hm;rw[hm]at b1 b2 b3 b4;obtain⟨cs,h4,H⟩:=D6 H;by_cases hz:z.2=true
  ·rw[C9 hz]at H;obtain⟨xs,H,h5⟩:=Ny H;obtain⟨h6,H⟩:=L9 H;refine⟨_,H,by rw[hn];simp,λst' A=>⟨_,((Two.refl A).FX (b4 rfl) _).put hw _ _,λY k'=>?_⟩⟩;simp only[J4,F7,Dk,A.src _ _ q1,A.src _ _ q2,h1,h2,h3,M8,hm,A.s (b2 rfl),h4,C9 hz,h5,C9 h6]
  ·rw[A7 hz]at H;obtain⟨c,H,h5⟩:=ND H;obtain⟨c0,h6,H⟩:=D6 H;refine⟨_,H,by rw[hn];simp,λst' A=>⟨_,(((Two.refl A).FX (b4 rfl) (st.sg.set i (.box (cs.set off c)))).z_ hwv λi hi=>A.t i (q2 i hi)).put hw (.J8 []) .val,λY k'=>?_⟩⟩;simp only[J4,F7,Dk,A.src _ _ q1,A.src _ _ q2,h1,h2,h3,M8,hm,A.s (b2 rfl),h4,A7 hz,h5,h6]
 ·rename_i i sz idx off hm;rw[hm]at b1 b2 b3 b4;obtain⟨a,h4,H⟩:=D6 H;obtain⟨d,h5,H⟩:=D6 H;obtain⟨H,h6⟩:=Wu H;obtain⟨h7,H⟩:=H6 H;obtain⟨h8,H⟩:=L9 H;refine⟨_,H,by rw[hn];simp,λst' A=>⟨_,((Two.refl A).FX (b4 rfl) _).put hw _ _,λY k'=>?_⟩⟩;simp only[J4,F7,Dk,A.src _ _ q1,A.src _ _ q2,h1,h2,h3,M8,hm,A.s (b2 rfl),h4,h5,h6,h7,X8,C9 h8]
 ·rename_i i sz idx hm;rw[hm]at b1 b2 b3 b4;obtain⟨q,h4,H⟩:=D6 H;obtain⟨H,h6⟩:=Wu H;obtain⟨h7,H⟩:=H6 H;obtain⟨x',h8,H⟩:=D6 H;refine⟨_,H,by rw[hn];simp,λst' A=>⟨_,((Two.refl A).FX (b4 rfl) _).put hw _ _,λY k'=>?_⟩⟩;simp only[J4,F7,Dk,A.src _ _ q1,A.src _ _ q2,h1,h2,h3,M8,hm,A.s (b2 rfl),h4,h6,h7,X8,h8]
 ·rename_i i n sz idx off hm;rw[hm]at b1 b2 b3 b4;obtain⟨a,h4,H⟩:=D6 H;obtain⟨d,h5,H⟩:=D6 H;obtain⟨h7,H⟩:=H6 H;by_cases hz:z.2=true
  ·rw[C9 hz]at H;obtain⟨xs,H,h6⟩:=Ny H;obtain⟨e,h8,H⟩:=D6 H;refine⟨_,H,by rw[hn];simp,λst' A=>⟨_,((Two.refl A).FX (b4 rfl) _).put hw _ _,λY k'=>?_⟩⟩;simp only[J4,F7,Dk,A.src _ _ q1,A.src _ _ q2,h1,h2,h3,M8,hm,A.s (b2 rfl),h4,h5,h7,X8,C9 hz,h6,h8]
  ·rw[A7 hz]at H;obtain⟨c,H,h6⟩:=ND H;obtain⟨e,h8,H⟩:=D6 H;refine⟨_,H,by rw[hn];simp,λst' A=>⟨_,((Two.refl A).FX (b4 rfl) _).put hw _ _,λY k'=>?_⟩⟩;simp only[J4,F7,Dk,A.src _ _ q1,A.src _ _ q2,h1,h2,h3,M8,hm,A.s (b2 rfl),h4,h5,h7,X8,A7 hz,h6,h8]
 ·simp at H
def B0J(F7:o.op=.makeMap t none)(H:J4 C R fl o st k=some x)(hw:M7 o.dst.toList f.wt)(hn:f.nb=none)(hq:I9 fl.Hl o.dst=false->f.rs=true/\f.ws=true):Fr C R fl o st k x f:=by
 simp only[J4,F7]at H;obtain⟨q,h1,H⟩:=D6 H;cases eF:I9 fl.Hl o.dst with
 |true=>rw[eF,C9 rfl]at H;refine O0 H hw hn λst' A Y k'=>?_;simp only[J4,F7,h1,M8,eF,C9]
 |false=>rw[eF,A7 (by simp)]at H;obtain⟨hrs,hws⟩:=hq eF;refine⟨_,H,by rw[hn];simp,λst' A=>⟨_,((Two.refl A).FX hws _).put hw _ _,λY k'=>?_⟩⟩;simp only[J4,F7,h1,M8,A.s hrs,eF,z7q,G8]
def B2D{v:Operand}{ok:Bool}(F7:o.op=.lookup t y v ok)(H:J4 C R fl o st k=some x)(hr:M7 (J9 [y,v]) f.rt)(hw:M7 o.dst.toList f.wt)(hn:f.nb=none)(hrs:f.rs=true):Fr C R fl o st k x f:=by
 obtain⟨q1,q2⟩:=QF hr;simp only[J4,F7]at H;obtain⟨r,h1,H⟩:=D6 H;obtain⟨key,h2,H⟩:=D6 H;obtain⟨q,h3,H⟩:=D6 H;obtain⟨ze,h4,H⟩:=D6 H;obtain⟨h5,H⟩:=H6 H;split at H
 ·rename_i i hm;obtain⟨p,h6,H⟩:=D6 H;obtain⟨h7,H⟩:=H6 H;by_cases Ao:ok=true
  ·rw[C9 Ao]at H;refine O0 H hw hn λst' A Y k'=>?_;simp only[J4,F7,A.src _ _ q1,A.src _ _ q2,h1,h2,h3,h4,M8,h5,X8,hm,A.s hrs,h6,h7,C9 Ao]
  ·rw[A7 Ao]at H;refine O0 H hw hn λst' A Y k'=>?_;simp only[J4,F7,A.src _ _ q1,A.src _ _ q2,h1,h2,h3,h4,M8,h5,X8,hm,A.s hrs,h6,h7,A7 Ao]
 ·simp at H
def A6q{v u:Operand}(F7:o.op=.mapUpdate t y v u)(H:J4 C R fl o st k=some x)(hr:M7 (J9 [y,v,u]) f.rt)(hw:M7 o.dst.toList f.wt)(hn:f.nb=none)(hrs:f.rs=true)(hws:f.ws=true):Fr C R fl o st k x f:=by
 have q1:M7 (O5 y) f.rt:=λi hi=>hr i (by simp[J9,hi]);have q2:M7 (O5 v) f.rt:=λi hi=>hr i (by simp[J9,hi]);have q3:M7 (O5 u) f.rt:=λi hi=>hr i (by simp[J9,hi]);simp only[J4,F7]at H;obtain⟨r,h1,H⟩:=D6 H;obtain⟨key,h2,H⟩:=D6 H;obtain⟨val,h3,H⟩:=D6 H;obtain⟨q,h4,H⟩:=D6 H;obtain⟨h5,H⟩:=H6 H;split at H
 ·rename_i i hm;obtain⟨p,h6,H⟩:=D6 H;obtain⟨h7,H⟩:=H6 H;refine⟨_,H,by rw[hn];simp,λst' A=>⟨_,((Two.refl A).FX hws _).put hw _ _,λY k'=>?_⟩⟩;simp only[J4,F7,A.src _ _ q1,A.src _ _ q2,A.src _ _ q3,h1,h2,h3,h4,M8,h5,X8,hm,A.s hrs,h6,h7]
 ·simp at H
def B0I{i:Nat}(F7:o.op=.extract y i)(H:J4 C R fl o st k=some x)(hr:M7 (O5 y) f.rt)(hw:M7 o.dst.toList f.wt)(hs:I9 fl.Q3 o.dst=true->M7 (O5 y) f.wt)(hn:f.nb=none):Fr C R fl o st k x f:=by
 simp only[J4,F7]at H;obtain⟨r,h1,H⟩:=D6 H;split at H
 ·rename_i hm;obtain⟨d,h2,H⟩:=D6 H;refine O0 H hw hn λst' A Y k'=>?_;simp only[J4,F7,A.src _ _ hr,h1,M8,hm,h2]
 ·rename_i ms hm;obtain⟨d,h2,H⟩:=D6 H;split at H
  ·rename_i hg;by_cases Q9:I9 fl.Q3 o.dst=true
   ·rw[C9 Q9]at H;refine⟨_,H,by rw[hn];simp,λst' A=>⟨(st'.pI y (.Cj (ms.set i .val))).put o.dst d .own,Two.put ?_ hw _ _,λY k'=>?_⟩⟩
    ·cases y with
     |tmp t=>
       have ht:t∈O5 (.tmp t):=by simp[O5]
       exact(Two.refl A).B56 (hs Q9 t ht) (A.t t (hr t ht)).1 _
     |_=>exact Two.refl A
    ·simp only[J4,F7,A.src _ _ hr,h1,M8,hm,h2,hg,C9 Q9]
   ·rw[A7 Q9]at H;refine O0 H hw hn λst' A Y k'=>?_;simp only[J4,F7,A.src _ _ hr,h1,M8,hm,h2,hg,A7 Q9]
  ·rename_i hg;refine O0 H hw hn λst' A Y k'=>?_;simp only[J4,F7,A.src _ _ hr,h1,M8,hm,h2,hg]
  ·simp at H
 ·simp at H
end
end Go.Su

/-
 THE DATA MACHINE, part 21: footprints, calls; every operation.
-/
namespace Go.Su
set_option linter.defProp false
section
variable {X:Type}{C:Ba}{R:O9}{fl:H8}{o:Oper}{st:St}{k:St->Option X}{x:X}{f:Fp}{c:Call}{y:Operand}
def B74{t:TypeId}(F7:o.op=.call c)(hc:c.callee=.builtin .len)(ha:c.args.toList=[y])(ht:c.argTypes.toList=[t])(H:UX C o y t st k=some x)(hr:M7 (O5 y) f.rt)(hw:M7 o.dst.toList f.wt)(hn:f.nb=none)(hrs:f.rs=true):Fr C R fl o st k x f:=by
 have IL:∀(Y:Type)(st:St)(k:St->Option Y),J4 C R fl o st k=UX C o y t st k:=λY st k=>by simp only[J4,F7,He,hc,ha,ht]
 unfold UX at H;obtain⟨r,h1,H⟩:=D6 H;split at H
 ·rename_i hu;split at H
  ·rename_i hm;refine O0 H hw hn λst' A Y k'=>?_;rw[IL];simp only[UX,A.src _ _ hr,h1,M8,hu,hm]
  ·rename_i hm;rw[We]at H;refine O0 H hw hn λst' A Y k'=>?_;rw[IL];simp only[UX,A.src _ _ hr,h1,M8,hu,hm,We]
  ·rename_i hm;obtain⟨h2,H⟩:=H6 H;obtain⟨d,h3,H⟩:=D6 H;refine O0 H hw hn λst' A Y k'=>?_;rw[IL];simp only[UX,A.src _ _ hr,h1,M8,hu,h2,X8,h3]
 ·rename_i hu;obtain⟨h2,H⟩:=H6 H;obtain⟨d,h3,H⟩:=D6 H;refine O0 H hw hn λst' A Y k'=>?_;rw[IL];simp only[UX,A.src _ _ hr,h1,M8,hu,h2,X8,h3]
 ·rename_i hu;obtain⟨d,h3,H⟩:=D6 H;rw[We]at H;refine O0 H hw hn λst' A Y k'=>?_;rw[IL];simp only[UX,A.src _ _ hr,h1,M8,hu,A.s hrs,h3,We]
 ·simp at H
def B2C{v:Operand}{t u:TypeId}(F7:o.op=.call c)(hc:c.callee=.builtin .append)(ha:c.args.toList=[y,v])(ht:c.argTypes.toList=[t,u])(H:Dx C fl o y v t u st k=some x)(hr:M7 (J9 [y,v]) f.rt)(hw:M7 o.dst.toList f.wt)(hwy:M7 (O5 y) f.wt)(hn:f.nb=none)(hos:(I9 fl.opn o.dst||(I9 fl.Dl o.dst||I9 fl.OO o.dst))=true->f.rs=true/\f.ws=true):Fr C R fl o st k x f:=by
 obtain⟨q1,q2⟩:=QF hr;have IL:∀(Y:Type)(st:St)(k:St->Option Y),J4 C R fl o st k=Dx C fl o y v t u st k:=λY st k=>by simp only[J4,F7,He,hc,ha,ht]
 unfold Dx at H;by_cases Ph:I9 fl.OO o.dst=true
 ·rw[C9 Ph]at H;unfold A0W at H;obtain⟨o1,o2⟩:=hos (by rw[Ph];simp);obtain⟨r,h1,H⟩:=D6 H;obtain⟨s,h2,H⟩:=D6 H;obtain⟨sz,h3,H⟩:=D6 H;obtain⟨h4,H⟩:=H6 H;obtain⟨q,hq,H⟩:=D6 H;obtain⟨h6,H⟩:=H6 H;obtain⟨p,h5,H⟩:=D6 H;refine⟨_,H,by rw[hn];simp,λst' A=>⟨_,((Two.refl A).FX o2 _).put hw _ _,λY k'=>?_⟩⟩;rw[IL];simp only[Dx,C9 Ph,A0W,A.src _ _ q1,A.src _ _ q2,h1,h2,h3,M8,h4,X8,hq,A.s o1,h5,h6]
 rw[A7 Ph]at H;by_cases Ot:I9 fl.Dl o.dst=true
 ·rw[C9 Ot]at H;unfold A0Z at H;obtain⟨o1,o2⟩:=hos (by rw[Ot];simp);obtain⟨r,h1,H⟩:=D6 H;obtain⟨s,h2,H⟩:=D6 H;obtain⟨sz,h3,H⟩:=D6 H;obtain⟨h4,H⟩:=H6 H;obtain⟨q,hq,H⟩:=D6 H;obtain⟨p,h5,H⟩:=D6 H;obtain⟨h6,H⟩:=H6 H;obtain⟨d,h7,H⟩:=D6 H;refine⟨_,H,by rw[hn];simp,λst' A=>⟨_,((Two.refl A).FX o2 _).put hw _ _,λY k'=>?_⟩⟩;rw[IL];simp only[Dx,A7 Ph,C9 Ot,A0Z,A.src _ _ q1,A.src _ _ q2,h1,h2,h3,M8,h4,X8,hq,A.s o1,h5,h6,h7]
 rw[A7 Ot]at H;obtain⟨r,h1,H⟩:=D6 H;obtain⟨s,h2,H⟩:=D6 H;obtain⟨sz,h3,H⟩:=D6 H;obtain⟨h4,H⟩:=H6 H;by_cases d_:I9 fl.opn o.dst=true
 ·rw[C9 d_]at H;obtain⟨p,h5,H⟩:=D6 H;obtain⟨o1,o2⟩:=hos (by rw[d_];simp);refine⟨_,H,by rw[hn];simp,λst' A=>⟨_,(((Two.refl A).release hwy λi hi=>A.t i (q1 i hi)).FX o2 (st.sg++[E5.opn sz p.1 p.2])).put hw _ _,λY k'=>?_⟩⟩;rw[IL];simp only[Dx,A7 Ph,A7 Ot,A.src _ _ q1,A.src _ _ q2,h1,h2,h3,M8,h4,X8,C9 d_,h5,A.s o1]
 rw[A7 d_]at H;obtain⟨d,h5,H⟩:=D6 H;refine⟨_,H,by rw[hn];simp,λst' A=>⟨_,((Two.refl A).release hwy λi hi=>A.t i (q1 i hi)).put hw _ _,λY k'=>?_⟩⟩;rw[IL];simp only[Dx,A7 Ph,A7 Ot,A.src _ _ q1,A.src _ _ q2,h1,h2,h3,M8,h4,X8,A7 d_,h5]
def B75{v:Operand}{t u:TypeId}(F7:o.op=.call c)(hc:c.callee=.builtin .max)(ha:c.args.toList=[y,v])(ht:c.argTypes.toList=[t,u])(H:J4 C R fl o st k=some x)(hr:M7 (J9 [y,v]) f.rt)(hw:M7 o.dst.toList f.wt)(hn:f.nb=none):Fr C R fl o st k x f:=by obtain⟨q1,q2⟩:=QF hr;simp only[J4,F7,He,hc,ha,ht]at H;obtain⟨r,h1,H⟩:=D6 H;obtain⟨s,h2,H⟩:=D6 H;obtain⟨h4,H⟩:=H6 H;obtain⟨d,h5,H⟩:=D6 H;refine O0 H hw hn λst' A Y k'=>?_;simp only[J4,F7,He,hc,ha,ht,A.src _ _ q1,A.src _ _ q2,h1,h2,M8,h4,X8,h5]
def B76{v:Operand}{t u:TypeId}(F7:o.op=.call c)(hc:c.callee=.builtin .min)(ha:c.args.toList=[y,v])(ht:c.argTypes.toList=[t,u])(H:J4 C R fl o st k=some x)(hr:M7 (J9 [y,v]) f.rt)(hw:M7 o.dst.toList f.wt)(hn:f.nb=none):Fr C R fl o st k x f:=by obtain⟨q1,q2⟩:=QF hr;simp only[J4,F7,He,hc,ha,ht]at H;obtain⟨r,h1,H⟩:=D6 H;obtain⟨s,h2,H⟩:=D6 H;obtain⟨h4,H⟩:=H6 H;obtain⟨d,h5,H⟩:=D6 H;refine O0 H hw hn λst' A Y k'=>?_;simp only[J4,F7,He,hc,ha,ht,A.src _ _ q1,A.src _ _ q2,h1,h2,M8,h4,X8,h5]
def B6y{g:FuncId}(F7:o.op=.call c)(hc:c.callee=.value (.func g))(h1:C.clone g=false)(h0:C.eQ g=none)(h2:C.sig g=none)(H:J4 C R fl o st k=some x)(hr:M7 (J9 c.args.toList) f.rt)(hw:M7 o.dst.toList f.wt)(hn:f.nb=none):Fr C R fl o st k x f:=by
 have h1':¬(C.clone g=true):=by rw[h1];simp
 simp only[J4,F7,He,hc,src,M8,Kg,A7 h1',h0,h2,List.map_nil,zWq]at H;obtain⟨rs,h3,H⟩:=D6 H;obtain⟨h4,H⟩:=H6 H;obtain⟨d,h5,H⟩:=D6 H;refine O0 H hw hn λst' A Y k'=>?_;simp only[J4,F7,He,hc,src,M8,Kg,A7 h1',h0,h2,List.map_nil,zWq,A.KI _ hr,h3,h4,X8,h5]
def Two.JZ{st' s s':St}(A:Two f st st' s s'){g:Option (Nat×Operand)}(hx:∀p,g=some p->M7 (O5 p.2) f.wt)(he:∀p,g=some p->∀t∈O5 p.2,s'.tm[t]?=s.tm[t]?/\s'.mt[t]?=s.mt[t]?):
 Two f st st' (s.JZ g) (s'.JZ g):=by
 cases g with
 |none=>exact A
 |some p=>exact A.release (hx p rfl) (he p rfl)
def B72(F7:o.op=.call c)(hc:c.callee=.value y)(H:J4 C R fl o st k=some x)(hr:M7 (J9 (y::c.args.toList)) f.rt)(hw:M7 o.dst.toList f.wt)(hwa:M7 (J9 c.args.toList) f.wt)(hn:f.nb=none)(hrs:f.rs=true)(hws:f.ws=true):Fr C R fl o st k x f:=by
 have q1:M7 (O5 y) f.rt:=λi h=>hr i (by simp only[J9,zeq,zcq];exact .inl h);have q2:M7 (J9 c.args.toList) f.rt:=λi h=>hr i (by simp only[J9,zeq,zcq]at h ⊢;exact .inr h);simp only[J4,F7,He,hc]at H;obtain⟨r,h1,H⟩:=D6 H;obtain⟨rs,h2,H⟩:=D6 H;split at H
 ·rename_i g caps hm;have IL:∀st',FH f st st'->∀(Y:Type)(k':St->Option Y),J4 C R fl o st' k'=Kg C R o g c.args.toList (rs++caps.map λm=>(.undef,.ptr m.1 m.2)) st' k':=by intro st' A Y k';simp only[J4,F7,He,hc,A.src _ _ q1,A.KI _ q2,h1,h2,M8,hm]
  generalize rs++caps.map (λm=>((.undef,.ptr m.1 m.2):DV×F4))=rs' at H IL;unfold Kg at H;by_cases TL:C.clone g=true
  ·rw[C9 TL]at H;split at H
   ·rename_i r' 
    ·obtain⟨p,hd,H⟩:=D6 H;obtain⟨h3,H⟩:=H6 H;refine⟨_,H,by rw[hn];simp,λst' A=>⟨_,((Two.refl A).FX hws _).put hw _ _,λY k'=>?_⟩⟩;rw[IL st' A];simp only[Kg,C9 TL,hd,M8,h3,X8,A.s hrs]
   ·simp at H
  ·rw[A7 TL]at H;cases yN:C.eQ g with
   |some g'=>
     rw[yN]at H;simp only at H;split at H
     ·rename_i r';obtain⟨p,hd,H⟩:=D6 H;obtain⟨h3,H⟩:=H6 H;refine⟨_,H,by rw[hn];simp,λst' A=>⟨_,((Two.refl A).FX hws _).put hw _ _,λY k'=>?_⟩⟩;rw[IL st' A];simp only[Kg,A7 TL,yN,hd,M8,h3,X8,A.s hrs]
     ·simp at H
   |none=>
   rw[yN]at H;simp only at H;split at H
   ·rename_i hs;obtain⟨h3,H⟩:=H6 H;obtain⟨d,h4,H⟩:=D6 H;refine O0 H hw hn λst' A Y k'=>?_;rw[IL st' A];simp only[Kg,A7 TL,yN,hs,h3,X8,h4,M8]
   ·rename_i s hs;obtain⟨h3,H⟩:=H6 H;obtain⟨q,h4,H⟩:=D6 H;obtain⟨H,h6⟩:=yX H;have EO:∀p,Gg 0 s.params c.args.toList=some p->M7 (O5 p.2) (J9 c.args.toList):=by intro p hp i hi;obtain⟨_,_,h5⟩:=qR hp;exact zZq.2 ⟨p.2,zkq h5,hi⟩
    refine⟨_,H,by rw[hn];simp,λst' A=>⟨_,(((Two.refl A).FX hws q.2).JZ (λp hp i hi=>hwa i (EO p hp i hi)) λp hp i hi=>A.t i (q2 i (EO p hp i hi))).put hw _ _,λY k'=>?_⟩⟩;rw[IL st' A];simp only[Kg,A7 TL,yN,hs,h3,X8,A.s hrs,h4,M8];exact h6 _ _
 ·simp at H
def Z5(C:Ba)(fl:H8)(o:Oper)(st:St):Fp :=if Xp C o then{ rt:=J9 o.op.operands.toList,wt:=o.dst.toList }else FP fl o st
def M7.refl(a:List Nat):M7 a a:=λ_ h=>h
def Sr(a b:List Nat):M7 a (a++b):=λ_ h=>zcq.2 (.inl h)
def oz(a b:List Nat):M7 b (a++b):=λ_ h=>zcq.2 (.inr h)
def A2Y{c:Prop}[Decidable c](a b:List Nat)(h:c):M7 b (a++(if c then b else[])):=by rw[C9 h];exact oz _ _
def mY(H:J4 C R fl o st k=some x):Fr C R fl o st k x (Z5 C fl o st):=by
 have np:∀op,o.op=op->(∀c,op ≠ .call c)->Xp C o=false:=by
  intro op h1 h2;unfold Xp;split
  ·rename_i c hc;exact absurd (h1.symm.trans hc) (h2 c)
  ·rfl
 have H0:=H;unfold J4 at H;split at H
 ·rename_i y F7;have e:Z5 C fl o st={ rt:=O5 y,wt:=o.dst.toList++(if I9 fl.Q3 o.dst then O5 y else[]) }:=by simp[Z5,np _ F7 (by simp),FP,F7]
  rw[e];exact A9t (.inl F7) H0 (M7.refl _) (Sr _ _) (λh=>A2Y _ _ h) rfl
 ·rename_i y F7;have e:Z5 C fl o st={ rt:=O5 y,wt:=o.dst.toList++(if I9 fl.Q3 o.dst then O5 y else[]) }:=by simp[Z5,np _ F7 (by simp),FP,F7]
  rw[e];exact A9t (.inr F7) H0 (M7.refl _) (Sr _ _) (λh=>A2Y _ _ h) rfl
 ·rename_i c y z F7;have e:Z5 C fl o st={ rt:=J9 [c,y,z],wt:=o.dst.toList }:=by simp[Z5,np _ F7 (by simp),FP,F7]
  rw[e];exact B6x F7 H0 (M7.refl _) (M7.refl _) rfl
 ·rename_i t F7;have e:Z5 C fl o st=if I9 fl.shared o.dst then{ wt:=o.dst.toList,rs:=true,ws:=true }else{ wt:=o.dst.toList,wb:=o.dst.toList,nb:=o.dst }:=by simp[Z5,np _ F7 (by simp),FP,F7]
  rw[e];by_cases hs:I9 fl.shared o.dst=true
  ·rw[C9 hs];exact A6n F7 H0 (M7.refl _) (λ_=>⟨rfl,rfl,rfl⟩) (λh=>by rw[hs]at h;cases h)
  ·rw[A7 hs];exact A6n F7 H0 (M7.refl _) (λh=>absurd h hs) (λh=>⟨rfl,M7.refl _⟩)
 ·rename_i t y F7;have e:Z5 C fl o st=if I9 fl.YP o.dst then{ rt:=O5 y,wt:=o.dst.toList }else if I9 fl.Q3 o.dst then{ rt:=O5 y,wt:=o.dst.toList++O5 y,wb:=o.dst.toList,nb:=o.dst }else if I9 fl.shared o.dst then{ rt:=O5 y,wt:=o.dst.toList,rs:=true,ws:=true }else{ rt:=O5 y,wt:=o.dst.toList,wb:=o.dst.toList,nb:=o.dst }:=by simp[Z5,np _ F7 (by simp),FP,F7]
  rw[e];by_cases Kq:I9 fl.YP o.dst=true
  ·rw[C9 Kq];exact A1a F7 H0 (M7.refl _) (M7.refl _) (λ_=>rfl) (λh=>by rw[Kq]at h;cases h) (λh=>by rw[Kq]at h;cases h) (λh=>by rw[Kq]at h;cases h)
  rw[A7 Kq];by_cases Q9:I9 fl.Q3 o.dst=true
  ·rw[C9 Q9];exact A1a F7 H0 (M7.refl _) (λt ht=>zSq _ ht) (λh=>absurd h Kq) (λ_ _=>⟨λt ht=>zOq _ ht,rfl,M7.refl _⟩) (λ_ h=>by rw[Q9]at h;cases h) (λ_ h=>by rw[Q9]at h;cases h)
  rw[A7 Q9];by_cases hs:I9 fl.shared o.dst=true
  ·rw[C9 hs];exact A1a F7 H0 (M7.refl _) (M7.refl _) (λh=>absurd h Kq) (λ_ h=>absurd h Q9) (λ_ _ _=>⟨rfl,rfl,rfl⟩) (λ_ _ h=>by rw[hs]at h;cases h)
  ·rw[A7 hs];exact A1a F7 H0 (M7.refl _) (M7.refl _) (λh=>absurd h Kq) (λ_ h=>absurd h Q9) (λ_ _ h=>absurd h hs) (λ_ _ h=>⟨rfl,M7.refl _⟩)
 ·rename_i t ps F7;have e:Z5 C fl o st={ rt:=J9 (ps.toList.map (·.2))++Ja fl o.dst,wt:=o.dst.toList++Ja fl o.dst,rs := !(Ja fl o.dst).isEmpty,ws := !(Ja fl o.dst).isEmpty }:=by simp[Z5,np _ F7 (by simp),FP,F7]
  rw[e];refine B4r F7 H0 (λt ht=>zSq _ ht) (λt ht=>zSq _ ht) rfl (λt ht=>⟨zOq _ ht,zOq _ ht⟩) λh=>?_;have:(Ja fl o.dst).isEmpty=false:=by cases hx:Ja fl o.dst<;>simp_all
  simp[this]
 ·rename_i t n ps F7;have e:Z5 C fl o st={ rt:=J9 (ps.toList.map (·.2)),wt:=o.dst.toList,rs:=I9 fl.Dl o.dst,ws:=I9 fl.Dl o.dst }:=by simp[Z5,np _ F7 (by simp),FP,F7]
  rw[e];exact A4E F7 H0 (M7.refl _) (M7.refl _) rfl λh=>⟨h,h⟩
 ·rename_i t y F7;have hsr:∃r,src C.P 0 st y=some r:=by unfold Ce at H;obtain⟨r,h,_⟩:=D6 H;exact⟨r,h⟩
  obtain⟨r,hr⟩:=hsr;obtain⟨r',Ab,hm⟩:=A7W C.P default hr;cases hq:(if (I9 fl.Q3 o.dst||I9 fl.Dl o.dst)=true then none else A60 r'.2)with
  |some jj=>
    have e:Z5 C fl o st={ rt:=O5 y,wt:=o.dst.toList,ld:=some jj }:=by simp only[Z5,np _ F7 (by simp),FP,F7,Ab,U_,hq,z7q,G8]
    rw[e];have kN:I9 fl.Q3 o.dst=false/\I9 fl.Dl o.dst=false/\A60 r'.2=some jj:=by
     split at hq
     ·cases hq
     ·rename_i hn;simp only[ypq,not_or,Bool.not_eq_true]at hn;exact⟨hn.1,hn.2,hq⟩
    refine A9s F7 H0 (M7.refl _) (M7.refl _) rfl λr0 h0=>?_;rw[hr]at h0;cases h0;rw[hm]at kN;have e1:(Ee r.2).1=[]:=by
     have:=kN.2.2;unfold A60 at this;split at this
     all_goals first
      | (rename_i h;rw[h];rfl)
      |cases this
    refine⟨by rw[e1];exact M7.refl _,λ_=>.inr ⟨jj,rfl,kN.2.2,kN.1,kN.2.1⟩,λQ9=>?_,λOt h=>?_⟩
    ·rw[kN.1]at Q9;cases Q9
    ·rw[kN.2.1]at Ot;cases Ot
  |none=>
    have e:Z5 C fl o st={ rt:=O5 y,wt:=o.dst.toList,rb:=(Ee r'.2).1,wb:=if I9 fl.Q3 o.dst then(Ee r'.2).1 else[],rs:=(Ee r'.2).2,ws:=(I9 fl.Q3 o.dst||I9 fl.Dl o.dst)&&(Ee r'.2).2 }:=by simp only[Z5,np _ F7 (by simp),FP,F7,Ab,U_,hq,z7q,G8]
    rw[e];refine A9s F7 H0 (M7.refl _) (M7.refl _) rfl λr0 h0=>?_;rw[hr]at h0;cases h0;rw[hm];refine⟨M7.refl _,.inl,λQ9=>⟨?_,λh=>?_⟩,λOt h=>?_⟩
    ·simp only[Q9,F5];exact M7.refl _
    ·simp only[Q9,Bool.true_or,zVq];exact h
    ·simp only[Ot,yoq,zVq];exact h
 ·rename_i t y v F7;have hsr:∃r,src C.P 0 st y=some r:=by unfold Dk at H;obtain⟨r,h,_⟩:=D6 H;exact⟨r,h⟩
  obtain⟨r,hr⟩:=hsr;obtain⟨r',Ab,hm⟩:=A7W C.P default hr;have e:Z5 C fl o st={ rt:=J9 [y,v],wt:=o.dst.toList++FW st.mt v,rb:=(Ee r'.2).1,wb:=(Ee r'.2).1,rs:=(Ee r'.2).2,ws:=(Ee r'.2).2,so:=if o.dst.isNone then ZO r'.2 else none }:=by simp[Z5,np _ F7 (by simp),FP,F7,Ab]
  rw[e];refine B4u F7 H0 (M7.refl _) (Sr _ _) (oz _ _) rfl λr0 h0=>?_;rw[hr]at h0;cases h0;rw[hm];exact⟨M7.refl _,id,M7.refl _,id⟩
 ·rename_i y F7;have e:Z5 C fl o st={ rt:=O5 y,wt:=o.dst.toList }:=by simp[Z5,np _ F7 (by simp),FP,F7]
  rw[e];exact A8A F7 H0 (M7.refl _) (M7.refl _) rfl
 ·rename_i op t y z yt F7;have e:Z5 C fl o st={ rt:=J9 [y,z],wt:=o.dst.toList }:=by simp[Z5,np _ F7 (by simp),FP,F7]
  rw[e];exact B73 F7 H0 (M7.refl _) (M7.refl _) rfl
 ·rename_i op t y F7;have e:Z5 C fl o st={ rt:=O5 y,wt:=o.dst.toList }:=by simp[Z5,np _ F7 (by simp),FP,F7]
  rw[e];exact B9o F7 H0 (M7.refl _) (M7.refl _) rfl
 ·rename_i t u y F7;have e:Z5 C fl o st={ rt:=O5 y,wt:=o.dst.toList }:=by simp[Z5,np _ F7 (by simp),FP,F7]
  rw[e];exact B6w F7 H0 (M7.refl _) (M7.refl _) rfl
 ·rename_i t y i F7;have e:Z5 C fl o st={ rt:=O5 y,wt:=o.dst.toList }:=by simp[Z5,np _ F7 (by simp),FP,F7]
  rw[e];exact A6o F7 H0 (M7.refl _) (M7.refl _) rfl
 ·rename_i t y i F7;have e:Z5 C fl o st={ rt:=J9 [y,i],wt:=o.dst.toList }:=by simp[Z5,np _ F7 (by simp),FP,F7]
  rw[e];exact A6p F7 H0 (M7.refl _) (M7.refl _) rfl
 ·rename_i t y i F7;have e:Z5 C fl o st={ rt:=J9 [y,i],wt:=o.dst.toList }:=by simp[Z5,np _ F7 (by simp),FP,F7]
  rw[e];exact B4s F7 H0 (M7.refl _) (M7.refl _) rfl
 ·rename_i t y lo hi mx F7;have e:Z5 C fl o st={ rt:=J9 (y::(lo.toList++hi.toList++mx.toList)),wt:=o.dst.toList }:=by simp[Z5,np _ F7 (by simp),FP,F7]
  rw[e];exact B4t F7 H0 (M7.refl _) (M7.refl _) rfl
 ·rename_i g first caps F7
  have e:Z5 C fl o st={ rt:=J9 caps.toList,wt:=o.dst.toList }:=by simp[Z5,np _ F7 (by simp),FP,F7]
  rw[e];exact A8z F7 H0 (M7.refl _) (M7.refl _) rfl
 ·rename_i t F7;have e:Z5 C fl o st={ wt:=o.dst.toList,rs := !I9 fl.Hl o.dst,ws := !I9 fl.Hl o.dst }:=by simp[Z5,np _ F7 (by simp),FP,F7]
  rw[e];exact B0J F7 H0 (M7.refl _) rfl λh=>by simp[h]
 ·rename_i t y v ok F7;have e:Z5 C fl o st={ rt:=J9 [y,v],wt:=o.dst.toList,rs:=true }:=by simp[Z5,np _ F7 (by simp),FP,F7]
  rw[e];exact B2D F7 H0 (M7.refl _) (M7.refl _) rfl rfl
 ·rename_i t y v u F7;have e:Z5 C fl o st={ rt:=J9 [y,v,u],wt:=o.dst.toList++J9 [y,v,u],rs:=true,ws:=true }:=by simp[Z5,np _ F7 (by simp),FP,F7,Op.operands]
  rw[e];exact A6q F7 H0 (M7.refl _) (Sr _ _) rfl rfl rfl
 ·rename_i y i F7;have e:Z5 C fl o st={ rt:=O5 y,wt:=o.dst.toList++(if I9 fl.Q3 o.dst then O5 y else[]),ex:=B4m y i o.dst }:=by simp[Z5,np _ F7 (by simp),FP,F7]
  rw[e];exact B0I F7 H0 (M7.refl _) (Sr _ _) (λh=>A2Y _ _ h) rfl
 ·rename_i c F7;unfold He at H;split at H
  ·rename_i b hb;have np':Xp C o=false:=by simp[Xp,F7,hb]
   split at H
   ·rename_i h1 h2;have e:Z5 C fl o st={ rt:=J9 c.args.toList,wt:=o.dst.toList,rs:=true }:=by simp[Z5,np',FP,F7,hb]
    rw[e];exact B74 F7 hb h1 h2 H (by rw[h1];simp only[J9,zeq,List.flatMap_nil,zWq];exact M7.refl _) (M7.refl _) rfl rfl
   ·rename_i y v t u h1 h2;have e:Z5 C fl o st={ rt:=J9 c.args.toList,wt:=o.dst.toList++J9 c.args.toList,rs:=I9 fl.opn o.dst||(I9 fl.Dl o.dst||I9 fl.OO o.dst),ws:=I9 fl.opn o.dst||(I9 fl.Dl o.dst||I9 fl.OO o.dst) }:=by simp[Z5,np',FP,F7,hb]
    rw[e];refine B2C F7 hb h1 h2 H (by rw[h1];exact M7.refl _) (Sr _ _) ?_ rfl λh=>⟨h,h⟩;intro i hi;refine oz _ _ i ?_;rw[h1];simp only[J9,zeq,zcq];exact .inl hi
   ·rename_i h1 h2;have e:Z5 C fl o st={ rt:=J9 c.args.toList,wt:=o.dst.toList }:=by simp[Z5,np',FP,F7,hb]
    rw[e];exact B75 F7 hb h1 h2 H0 (by rw[h1];exact M7.refl _) (M7.refl _) rfl
   ·rename_i h1 h2;have e:Z5 C fl o st={ rt:=J9 c.args.toList,wt:=o.dst.toList }:=by simp[Z5,np',FP,F7,hb]
    rw[e];exact B76 F7 hb h1 h2 H0 (by rw[h1];exact M7.refl _) (M7.refl _) rfl
   ·simp at H
  ·rename_i y hy;by_cases hp:Xp C o=true
   ·have e:Z5 C fl o st={ rt:=J9 o.op.operands.toList,wt:=o.dst.toList }:=by simp[Z5,hp]
    rw[e];unfold Xp at hp;rw[F7]at hp;simp only[hy]at hp;split at hp
    ·rename_i g hg;simp only[Callee.value.injEq]at hg;subst hg;simp only[zaq,zPq,zYq]at hp;refine B6y F7 hy hp.1.1 hp.1.2 hp.2 H0 (λi hi=>?_) (M7.refl _) rfl;simp only[F7,Op.operands,Call.operands,hy,Array.toList_append,J9,zGq,zcq]at hi ⊢;exact .inr hi
    ·simp at hp
   ·have e:Z5 C fl o st={ rt:=J9 (y::c.args.toList),wt:=o.dst.toList++J9 c.args.toList,rs:=true,ws:=true }:=by simp[Z5,hp,FP,F7,hy]
    rw[e];exact B72 F7 hy H0 (M7.refl _) (Sr _ _) (oz _ _) rfl rfl rfl
  ·simp at H
 ·simp at H
end
end Go.Su

/-
 THE DATA MACHINE, part 22: regions, in the text's order and in any.
-/
namespace Go.Su
set_option linter.defProp false
def MV{α : Type}{l l':List α}(h:∀i:Nat,l'[i]?=l[i]?):l'=l:=zDq h
variable {f:Fp}{st:St}{s:St}
def Two.same{s':St}(T:Two f st st s s'):s'=s:=by
 have h1:s'.tm=s.tm:=MV λi=>by
  rcases T.t i with⟨_,h,_⟩ | ⟨⟨h,_⟩,h',_⟩
  ·exact h
  ·rw[h,h']
 have h2:s'.mt=s.mt:=MV λi=>by
  rcases T.t i with⟨_,_,h⟩ | ⟨⟨_,h⟩,_,h'⟩
  ·exact h
  ·rw[h,h']
 have h3:s'.bx=s.bx:=MV λi=>by
  rcases T.b i with⟨_,h⟩ | ⟨h,h'⟩
  ·exact h
  ·rw[h,h']
 have h4:s'.sg=s.sg:=by
  rcases T.s with⟨_,h⟩ | ⟨h,h'⟩
  ·exact h
  ·rw[h,h']
 cases s;cases s';simp_all
def FH.refl(h:∀t,f.nb=some t->Ll t st.mt=true):FH f st st:=⟨rfl,rfl,rfl,λ_ _=>⟨rfl,rfl⟩,λ_ _=>rfl,λ_=>rfl,h,λ_ _=>rfl⟩
variable {o:Oper}
def mZ{X:Type}{C:Ba}{R:O9}{fl:H8}{k:St->Option X}{x:X}(H:J4 C R fl o st k=some x):
 ∃s,k s=some x/\∀(Y:Type)(k':St->Option Y),J4 C R fl o st k'=k' s:=by
 obtain⟨s,h1,h2,h3⟩:=mY H;obtain⟨s',h4,h5⟩:=h3 st (FH.refl h2);rw[h4.same]at h5;exact⟨s,h1,h5⟩
variable {t:Nat}{d:DV}
def JR(h:(st.get t).1=d)(hd:d ≠ .undef):st.know t d=st:=by
 unfold St.know;have ht:st.tm[t]?=some d:=by
  simp only[St.get,z3q]at h;cases hx:st.tm[t]? with
  |none=>rw[hx]at h;exact absurd h.symm hd
  |some e=>rw[hx]at h;simp only[zsq]at h;rw[h]
 have:st.tm.set t d=st.tm:=by
  apply zDq;intro i;by_cases hi:t=i
  ·subst hi;rw[zmq ];rw[ht];rfl
  ·rw[z1q hi]
 rw[this]
def A62{β : Type}{a b c:Option β}{x : β}(h:M9 d a b c=some x):(d=.bool true/\a=some x)\/(d=.bool false/\b=some x)\/(d=.J8 []/\c=some x):=by
 unfold M9 at h;split at h
 ·exact .inl ⟨rfl,h⟩
 ·exact .inr (.inl ⟨rfl,h⟩)
 ·exact .inr (.inr ⟨rfl,h⟩)
 ·simp at h
section
variable (C:Ba)(R:O9)(fl:H8)(ops:List Oper)
def AL(o:Oper)(s s1:St):Prop :=
 match o.guard with
 |none=>J4 C R fl o s some=some s1
 |some (g,want)=>∃t,LM ops g=some t/\K6 (s.get t).2=true /\(((s.get t).1=.bool want/\J4 C R fl o s some=some s1)\/(((s.get t).1=.bool !want\/(s.get t).1=.J8 [])/\s1=s.put o.dst (.J8 []) .val))
def eH(want:Bool):DV->Bool
 |.bool b=>b==want
 |_=>false
def Bl(o:Oper)(s:St):Fp :=
 match o.guard with
 |none=>Z5 C fl o s
 |some (g,want)=>
   match LM ops g with
   |none=>{}
   |some t=>if eH want (s.get t).1 then(Z5 C fl o s).look t else{ rt:=[t],wt:=o.dst.toList }
end
section
variable {C:Ba}{R:O9}{fl:H8}{ops:List Oper}{o:Oper}
def FH.Z9{g:Fp}{st':St}(A:FH f st st')(h1:M7 g.rt f.rt)(h2:M7 g.rb f.rb)(h3:g.rs=true->f.rs=true)(h4:∀t,g.nb=some t->f.nb=some t)(h5:∀j,g.ld=some j->f.ld=some j):FH g st st' :=⟨A.lt,A.lm,A.lb,λi hi=>A.t i (h1 i hi),λi hi=>A.b i (h2 i hi),λh=>A.s (h3 h),λt h=>A.n t (h4 t h),λj h=>A.l j (h5 j h)⟩
def FH.get{st':St}(A:FH f st st')(h:t∈f.rt):st'.get t=st.get t:=by obtain⟨h1,h2⟩:=A.t t h;simp only[St.get,KN h1,KN h2]
def A9r{st':St}(A:FH (Z5 C fl o st) st st'):Z5 C fl o st'=Z5 C fl o st:=by
 unfold Z5 at A ⊢;split
 ·rfl
 ·rename_i hp;rw[A7 hp]at A;unfold FP at A ⊢;split<;>rename_i F7
  all_goals first
   |rfl
   | (rename_i y
      cases y with
      |tmp t=>rw[F7]at A;simp only[src]at A ⊢;rw[A.get (t:=t) (by simp[O5])]
      |_=>rfl)
   | (rename_i y v
      rw[F7]at A;simp only at A ⊢;have Ru:∀r,src default 0 st y=some r->∀u∈O5 v,st'.mt[u]?=st.mt[u]?:=λr hr u hu=>by rw[hr]at A;exact(A.t u (by simp[J9,hu])).2
      cases y with
      |tmp t=>simp only[src]at A Ru ⊢;rw[A.get (t:=t) (by simp[O5,J9])];rw[lD (Ru _ rfl)]
      |const c=>
        simp only[src]at A Ru ⊢;cases hc:cst default 0 c with
        |none=>rfl
        |some r=>rw[lD (Ru _ hc)]
      |func f=>simp only[src]at A Ru ⊢;rw[lD (Ru _ rfl)]
      |global g=>rfl)
def ZY{want:Bool}:eH want d=true↔d=.bool want:=by
 unfold eH;split
 ·simp
 ·rename_i h;simp only[z7q,false_iff];intro hd;exact h _ hd
variable {s1:St}
def A1L(H:AL C R fl ops o s s1):(∀t,(Bl C fl ops o s).nb=some t->Ll t s.mt=true) /\
 ∀s',FH (Bl C fl ops o s) s s'->Bl C fl ops o s'=Bl C fl ops o s/\∃s1',Two (Bl C fl ops o s) s s' s1 s1'/\AL C R fl ops o s' s1':=by
 unfold AL at H;unfold Bl AL;split at H
 ·rename_i hg;obtain⟨s0,h1,h2,h3⟩:=mY H;simp only[D8]at h1;subst h1;refine⟨h2,λs' A=>⟨A9r A,?_⟩⟩;obtain⟨s1',h4,h5⟩:=h3 s' A;exact⟨s1',h4,h5 _ some⟩
 ·rename_i g want hg;obtain⟨t,ht,hd,H⟩:=H;simp only[ht];rcases H with⟨hb,H⟩ | ⟨hb,H⟩
  ·have hB:eH want (s.get t).1=true:=ZY.2 hb;rw[C9 hB];obtain⟨s0,h1,h2,h3⟩:=mY H;simp only[D8]at h1;subst h1;refine⟨h2,λs' A=>?_⟩;have A':FH (Z5 C fl o s) s s':=A.Z9 (λi hi=>zRq _ hi) (λ_ h=>h) id (λ_ h=>h) λ_ h=>h;have zQ:s'.get t=s.get t:=A.get (zIq ..);rw[zQ,C9 hB,A9r A'];refine⟨rfl,?_⟩;obtain⟨s1',h4,h5⟩:=h3 s' A';refine⟨s1',⟨h4.l,h4.ls,h4.ls',h4.t,h4.b,h4.s⟩,t,rfl,by rw[zQ];exact hd,.inl ⟨by rw[zQ];exact hb,h5 _ some⟩⟩
  ·have hB:¬(eH want (s.get t).1=true):=by rw[ZY];rcases hb with h | h<;>rw[h]<;>cases want<;>simp
   rw[A7 hB];refine⟨by simp,λs' A=>?_⟩;have zQ:s'.get t=s.get t:=A.get (zIq ..);rw[zQ,A7 hB];refine⟨rfl,s'.put o.dst (.J8 []) .val,?_,t,rfl,by rw[zQ];exact hd,.inr ⟨by rw[zQ];exact hb,rfl⟩⟩;rw[H];exact(Two.refl A).put (λ_ h=>h) _ _
def AL.det{s2:St}(H1:AL C R fl ops o s s1)(H2:AL C R fl ops o s s2):s1=s2:=by
 unfold AL at H1 H2;split at H1
 ·rename_i hg;simp only[hg]at H2;rw[H1]at H2;simpa using H2
 ·rename_i g want hg;simp only[hg]at H2;obtain⟨t,ht,hd,H1⟩:=H1;obtain⟨t',ht',Ep,H2⟩:=H2;rw[ht]at ht';cases ht';rcases H1 with⟨a,b⟩ | ⟨a,b⟩<;>rcases H2 with⟨c,d⟩ | ⟨c,d⟩
  ·rw[b]at d;simpa using d
  ·rw[a]at c;cases want<;>simp at c
  ·rw[c]at a;cases want<;>simp at a
  ·rw[b,d]
def Kh{a b:List Nat}(h:gK a b=true):∀i,i∈a->i∉b:=by intro i hi hb;have:=zlq.1 h i hi;simp[hb]at this
variable {mt:List F4}{i:Nat}
def Gc{mt':List F4}(h:mt'[i]?=mt[i]?):FU mt' i=FU mt i:=by unfold FU;rw[KN h]
def BG{α β : Type}{l:List α}{f g : α->List β}(h:∀x∈l,f x=g x):l.flatMap f=l.flatMap g:=by
 induction l with
 |nil=>rfl
 |cons a l ih=>rw[zeq,zeq,h a (zIq ..),ih λx hx=>h x (zRq _ hx)]
theorem ZL:Ll t mt=true↔∀(i:Nat) s o,mt[i]?=some (.loc s o)->s≠t:=by
 unfold Ll;rw[zlq];constructor
 ·intro h i s o hi;have:=h _ (zkq hi);simpa using this
 ·intro h m hm;obtain⟨i,hi⟩:=List.mem_iff_getElem?.1 hm;split
  ·rename_i s o;simpa using h i s o hi
  ·rfl
def Calm(f g:Fp):Prop:=∀q∈wP f g++wP g f,q.2.1[q.2.2]?=q.1[q.2.2]?
variable {j:Nat}{q:List E5×List E5}
def Calm.one{g:Fp}(h:Calm f g)(hl:g.ld=some j)(hq:f.ch=some q):q.2[j]?=q.1[j]? :=h (q.1,q.2,j) (zcq.2 (.inl (by unfold wP;rw[hl];simp only;rw[hq];exact zoq.2 rfl)))
def Calm.two{g:Fp}(h:Calm f g)(hl:f.ld=some j)(hq:g.ch=some q):q.2[j]?=q.1[j]? :=h (q.1,q.2,j) (zcq.2 (.inr (by unfold wP;rw[hl];simp only;rw[hq];exact zoq.2 rfl)))
def A9A(h:f.turns=true):(f.l7 s s1).ch=some (s.sg,s1.sg):=by simp only[Fp.l7,h]
theorem Za{t t1:St}(h1:f.wt.flatMap (FU s.mt)=f.wt.flatMap (FU t.mt))(h2:f.wt.flatMap (FU s1.mt)=f.wt.flatMap (FU t1.mt))(h3:f.turns=true->s.sg=t.sg/\s1.sg=t1.sg):f.l7 s s1=f.l7 t t1:=by
 unfold Fp.l7;rw[h1,h2];cases h:f.turns with
 |true=>obtain⟨a,b⟩:=h3 h;rw[a,b]
 |false=>rfl
variable {x:Nat}{d:Nat}
def B4n{o:Oper}(F7:o.op=.extract (.tmp x) i)(hd:o.dst=some d):J4 C R fl o s some=some s1 ↔
 ∃dv,Q4 i (s.get x).1=some dv/\(((s.get x).2=.val/\s1=s.put (some d) dv .val)\/∃ms,(s.get x).2=.Cj ms /\((ms.getD i .val=.own/\I9 fl.Q3 (some d)=true/\s1={ s with mt:=s.mt.set x (.Cj (ms.set i .val)) }.put (some d) dv .own) \/((ms.getD i .val=.val\/(ms.getD i .val=.own/\I9 fl.Q3 (some d)=false))/\s1=s.put (some d) dv .val))):=by
 simp only[J4,F7,hd,src,M8];generalize s.get x=r;obtain⟨r1,r2⟩:=r;simp only;constructor
 ·intro H;split at H
  ·obtain⟨dv,h1,H⟩:=D6 H;simp only[D8]at H;exact⟨dv,h1,.inl ⟨rfl,H.symm⟩⟩
  ·rename_i ms;obtain⟨dv,h1,H⟩:=D6 H;refine⟨dv,h1,.inr ⟨ms,rfl,?_⟩⟩;split at H
   ·rename_i hm;split at H
    ·rename_i Q9;simp only[D8,St.pI]at H;exact .inl ⟨hm,Q9,H.symm⟩
    ·rename_i Q9;simp only[D8]at H;exact .inr ⟨.inr ⟨hm,by simpa using Q9⟩,H.symm⟩
   ·rename_i hm;simp only[D8]at H;exact .inr ⟨.inl hm,H.symm⟩
   ·simp at H
  ·simp at H
 ·rintro⟨dv,h1,⟨h2,rfl⟩ | ⟨ms,h2,⟨h3,h4,rfl⟩ | ⟨h3 | ⟨h3,h4⟩,rfl⟩⟩⟩
  ·subst h2;simp only[h1,M8]
  ·subst h2;simp only[h1,M8,h3,h4,F5,St.pI]
  ·subst h2;simp only[h1,M8,h3]
  ·subst h2;simp only[h1,M8,h3,h4,z7q,G8]
def B5H(h:(Bl C fl ops o s).ex=some (x,i,d)):o.guard=none/\o.op=.extract (.tmp x) i/\o.dst=some d /\
 (∀s',Bl C fl ops o s'=Bl C fl ops o s)/\(∀u∈(Bl C fl ops o s).wt,u=d\/u=x)/\(Bl C fl ops o s).ws=false:=by
 unfold Bl at h;split at h
 ·rename_i hg;unfold Z5 at h;split at h
  ·simp at h
  ·rename_i hp;unfold FP at h;split at h
   all_goals first
    | (simp at h;done)
    | (split at h<;>simp at h;done)
    | (split at h<;>(try (simp at h;done))<;>split at h<;>(try (simp at h;done))<;>split at h<;>simp at h;done)
    |skip
   ·rename_i y j F7;simp only[B4m]at h;split at h
    ·rename_i t u hd;simp only[D8,Prod.mk.injEq]at h;obtain⟨rfl,rfl,rfl⟩:=h;refine⟨hg,F7,hd,λs'=>?_,λu hu=>?_,?_⟩;rotate_left 2
     ·unfold Bl Z5 FP;simp only[hg,F7,hp,z7q,G8]
     ·unfold Bl Z5 FP;simp only[hg,F7,hp,z7q,G8]
     ·unfold Bl Z5 FP at hu;simp only[hg,F7,hp,z7q,G8,hd,Option.toList_some,zcq,zoq]at hu;rcases hu with hu | hu
      ·exact .inl hu
      ·split at hu
       ·simp only[O5,zoq]at hu;exact .inr hu
       ·simp at hu
    ·simp at h
   all_goals (split at h<;>(try simp at h)<;>(try (split at h<;>simp at h)))
 ·split at h
  ·simp at h
  ·split at h<;>simp[Fp.look]at h
variable {m:F4}
def Um{v:DV}(h:d≠x):(s.put (some d) v m).get x=s.get x:=by simp only[St.get,St.put,z3q,z1q h]
def taken(s:St)(x i d:Nat)(dv:DV)(own:Bool):St :=if own then{ s with mt:=s.mt.set x (match (s.get x).2 with | .Cj ms=>.Cj (ms.set i .val) | m=>m) }.put (some d) dv .own else s.put (some d) dv .val
def ways(fl:H8)(d i:Nat)(m:F4)(own:Bool):Prop :=(m=.val/\own=false)\/∃ms,m=.Cj ms/\((ms.getD i .val=.own/\I9 fl.Q3 (some d)=true/\own=true)\/((ms.getD i .val=.val\/(ms.getD i .val=.own/\I9 fl.Q3 (some d)=false))/\own=false))
def df{o:Oper}(F7:o.op=.extract (.tmp x) i)(hd:o.dst=some d):J4 C R fl o s some=some s1 ↔
 ∃dv own,Q4 i (s.get x).1=some dv/\ways fl d i (s.get x).2 own/\s1=taken s x i d dv own:=by
 rw[B4n F7 hd];constructor
 ·rintro⟨dv,h1,⟨h2,rfl⟩ | ⟨ms,h2,⟨h3,h4,rfl⟩ | ⟨h3,rfl⟩⟩⟩
  ·exact⟨dv,false,h1,.inl ⟨h2,rfl⟩,rfl⟩
  ·exact⟨dv,true,h1,.inr ⟨ms,h2,.inl ⟨h3,h4,rfl⟩⟩,by simp only[taken,F5,h2]⟩
  ·exact⟨dv,false,h1,.inr ⟨ms,h2,.inr ⟨h3,rfl⟩⟩,rfl⟩
 ·rintro⟨dv,own,h1,⟨h2,rfl⟩ | ⟨ms,h2,⟨h3,h4,rfl⟩ | ⟨h3,rfl⟩⟩,rfl⟩
  ·exact⟨dv,h1,.inl ⟨h2,rfl⟩⟩
  ·exact⟨dv,h1,.inr ⟨ms,h2,.inl ⟨h3,h4,by simp only[taken,F5,h2]⟩⟩⟩
  ·exact⟨dv,h1,.inr ⟨ms,h2,.inr ⟨h3,rfl⟩⟩⟩
def bY(h:ways fl d i m true):∃ms,m=.Cj ms:=by
 rcases h with⟨_,h⟩ | ⟨ms,h,_⟩
 ·cases h
 ·exact⟨ms,h⟩
variable {own:Bool}
def Sv{tm:List DV}{bx sg}(h:ways fl d i ((⟨tm,mt,bx,sg⟩:St).get x).2 own):FU mt x=[]:=by unfold FU;rcases h with⟨h,_⟩ | ⟨ms,h,_⟩<;>simp only[St.get]at h<;>rw[h]
variable {dv:DV}
def o_{u:Nat}(h1:u≠d)(h2:u≠x):(taken s x i d dv own).mt[u]?=s.mt[u]?:=by
 unfold taken;split
 ·simp only[St.put,z1q (Ne.symm h1),z1q (Ne.symm h2)]
 ·simp only[St.put,z1q (Ne.symm h1)]
def zU{ms:List F4}(h:(s.get x).2=.Cj ms):x<s.mt.length:=by
 by_cases hx:x<s.mt.length
 ·exact hx
 ·simp[St.get,z3q,z8q (zNq hx)]at h
def A3Y{e:Nat}{own':Bool}(Q_:i≠j)(Xm:d≠x)(hw:ways fl d i (s.get x).2 own):
 ((taken s x i d dv own).get x).1=(s.get x).1/\(ways fl e j ((taken s x i d dv own).get x).2 own'↔ways fl e j (s.get x).2 own'):=by
 unfold taken;split
 ·rename_i ho;subst ho;obtain⟨ms,hm⟩:=bY hw;have hx:=zU hm;have e1:(({ s with mt:=s.mt.set x (match (s.get x).2 with | .Cj ms=>.Cj (ms.set i .val) | m=>m) }:St).put (some d) dv .own).get x=((s.get x).1,.Cj (ms.set i .val)):=by rw[Um Xm];simp only[St.get,z3q,z2q hx,zsq]at hm ⊢;rw[hm]
  rw[e1];refine⟨rfl,?_⟩;unfold ways;rw[hm];simp only[reduceCtorEq,false_and,false_or,F4.Cj.injEq,exists_eq_left',z3q,z1q Q_]
 ·rw[Um Xm];exact⟨rfl,Iff.rfl⟩
def A3Z(Xm:d≠x)(hw:ways fl d i (s.get x).2 own):FU (taken s x i d dv own).mt x=[]:=by
 unfold taken;split
 ·rename_i ho;subst ho;obtain⟨ms,hm⟩:=bY hw;have hx:=zU hm;simp only[FU,St.put,z3q,z1q Xm,z2q hx,zsq,hm]
 ·have:=Sv (tm:=s.tm) (mt:=s.mt) (bx:=s.bx) (sg:=s.sg) hw;rw[<- this];exact Gc (by simp only[St.put,z1q Xm])
def B1N{e:Nat}{ev:DV}{o1 o2:Bool}(Q_:i≠j)(yK:d≠e)(Xm:d≠x)(hex:e≠x)(h1:ways fl d i (s.get x).2 o1)(h2:ways fl e j (s.get x).2 o2):
 taken (taken s x i d dv o1) x j e ev o2=taken (taken s x j e ev o2) x i d dv o1:=by
 cases o1<;>cases o2
 ·simp only[taken,z7q,G8,St.put,zvq _ _ yK]
 ·obtain⟨ms,hm⟩:=bY h2;simp only[taken,z7q,G8,F5,Um Xm,hm];simp only[St.put,zvq _ _ yK,zvq _ _ Xm]
 ·obtain⟨ms,hm⟩:=bY h1;simp only[taken,z7q,G8,F5,Um hex,hm];simp only[St.put,zvq _ _ yK,zvq _ _ hex]
 ·obtain⟨ms,hm⟩:=bY h1;have hx:=zU hm;have g1:∀(k f:Nat)(fv:DV),f≠x->(({ s with mt:=s.mt.set x (.Cj (ms.set k .val)) }:St).put (some f) fv .own).get x=((s.get x).1,.Cj (ms.set k .val)):=by intro k f fv hf;rw[Um hf];simp only[St.get,z3q,z2q hx,zsq]
  simp only[taken,F5,hm,g1 i d dv Xm,g1 j e ev hex];simp only[St.put,zvq _ _ yK,zvq _ _ hex,zvq _ _ Xm,ynq,zvq _ _ Q_]
def B4o{oi oj:Oper}{e:Nat}{s2:St}(gi:oi.guard=none)(gj:oj.guard=none)(pi:oi.op=.extract (.tmp x) i)(pj:oj.op=.extract (.tmp x) j)(di:oi.dst=some d)(dj:oj.dst=some e)(Q_:i≠j)(yK:d≠e)(Xm:d≠x)(hex:e≠x)(Hj:AL C R fl ops oj s s1)(Hi:AL C R fl ops oi s1 s2):
 ∃s1',AL C R fl ops oi s s1'/\AL C R fl ops oj s1' s2/\(∀u,u=d\/u=x->FU s1'.mt u=FU s2.mt u/\FU s.mt u=FU s1.mt u)/\(∀u,u=e\/u=x->FU s1'.mt u=FU s.mt u/\FU s2.mt u=FU s1.mt u):=by
 unfold AL at Hi Hj ⊢;simp only[gi,gj]at Hi Hj ⊢;obtain⟨dvj,oj1,hj1,FQ,rfl⟩:=(df pj dj).1 Hj;obtain⟨dvi,oi1,Mt,uM,rfl⟩:=(df pi di).1 Hi;have tj:=A3Y (s:=s) (x:=x) (i:=j) (j:=i) (d:=e) (e:=d) (dv:=dvj) (own':=oi1) (Ne.symm Q_) hex FQ;rw[tj.1]at Mt;have hi0:=tj.2.1 uM;have ti:=A3Y (s:=s) (x:=x) (i:=i) (j:=j) (d:=d) (e:=e) (dv:=dvi) (own':=oj1) Q_ Xm hi0;have hj3:=ti.2.2 FQ;have cm:=B1N (s:=s) (dv:=dvi) (ev:=dvj) Q_ yK Xm hex hi0 FQ;refine⟨taken s x i d dvi oi1,(df pi di).2 ⟨dvi,oi1,Mt,hi0,rfl⟩,(df pj dj).2 ⟨dvj,oj1,by rw[ti.1];exact hj1,hj3,cm.symm⟩,?_,?_⟩
 ·rintro u (rfl | rfl)
  ·refine⟨?_,?_⟩
   ·rw[<- cm];exact Gc (o_ yK Xm).symm
   ·exact Gc (o_ yK Xm).symm
  ·refine⟨(Sv hj3).trans ?_,(Sv hi0).trans (Sv uM).symm⟩;exact(A3Z Xm uM).symm
 ·rintro u (rfl | rfl)
  ·refine⟨?_,?_⟩
   ·exact Gc (o_ (Ne.symm yK) hex)
   ·exact Gc (o_ (Ne.symm yK) hex)
  ·exact⟨(Sv hj3).trans (Sv hi0).symm,(A3Z Xm uM).trans (Sv uM).symm⟩
def A6Z{k:Bool}(h:ZO m=some k):∃i,ZN m=some i:=by cases m<;>simp[ZO]at h<;>exact⟨_,rfl⟩
def wI:E5->Bool
 |.opn _ _ _=>true
 |.Q0 _ _ _=>true
 |_=>false
variable {t:TypeId}
theorem B2f{P:Program}{v:Value}{r:DV×F4}(H:cst P t v=some r):ZN r.2=none:=by unfold cst at H;split at H<;>simp only[D8,reduceCtorEq]at H<;>subst H<;>rfl
variable (s:St)(i:Nat)(ob:E5)(rl:Option Operand)
def Z6:St :=
 match rl with
 |some v=>St.release { s with sg:=s.sg.set i ob } v
 |none=>{ s with sg:=s.sg.set i ob }
theorem fI:(Z6 s i ob rl).sg=s.sg.set i ob:=by
 unfold Z6;cases rl with
 |none=>rfl
 |some v=>cases v<;>rfl
theorem vQ:(Z6 s i ob rl).tm=s.tm:=by
 unfold Z6;cases rl with
 |none=>rfl
 |some v=>cases v<;>rfl
theorem B3F:(Z6 s i ob rl).bx=s.bx:=by
 unfold Z6;cases rl with
 |none=>rfl
 |some v=>cases v<;>rfl
def ZP(mt:List F4)(rl:Option Operand):List F4 :=
 match rl with
 |some (.tmp t)=>mt.set t (dm (mt.getD t .val))
 |_=>mt
theorem QE:(Z6 s i ob rl).mt=ZP s.mt rl:=by
 unfold Z6 ZP;cases rl with
 |none=>rfl
 |some v=>cases v<;>rfl
theorem WT{rl:Option Operand}{u:Nat}(h:∀v,rl=some v->u∉FW mt v):(ZP mt rl)[u]?=mt[u]?:=by
 unfold ZP;split
 ·rename_i t;have:=h _ rfl;rcases A7e (mt:=mt) (t:=t)with e | e
  ·rw[e]at this;simp only[zoq]at this;rw[z1q (Ne.symm this)]
  ·rw[e]
 ·rfl
def B1q{r1 r2:Option Operand}:ZP (ZP mt r1) r2=ZP (ZP mt r2) r1:=by
 cases r1 with
 |none=>rfl
 |some v1=>
   cases r2 with
   |none=>rfl
   |some v2=>
     cases v1<;>cases v2<;>try rfl
     rename_i t t';by_cases hne:t=t'
     ·subst hne;rfl
     ·simp only[ZP,z3q,z1q hne,z1q (Ne.symm hne)]
      rw[zvq _ _ hne]
variable {i:Nat}
def Jo{g g':List E5}(h:g'[i]?=g[i]?):H5 g' i=H5 g i:=by unfold H5;rw[h]
def oQ{g g':List E5}{n:Nat}(h:g'[i]?=g[i]?):V5 g' i n=V5 g i n:=by unfold V5;rw[h]
def B5b{g g':List E5}(h:g'[i]?=g[i]?):LB g' i=LB g i:=by unfold LB;rw[h]
def A1M{y v:Operand}{s:St}(F7:o.op=.store t y v)(hd:o.dst=none){r:DV×F4}(hr:src C.P 0 s y=some r)(hi:ZN r.2=some i){kd:Bool}(hk:ZO r.2=some kd)(H:J4 C R fl o s some=some s1):
 ∃ob rl,(rl=none\/rl=some v)/\(wI ob=kd/\∃old,s.sg[i]?=some old/\wI old=kd)/\s1=Z6 s i ob rl/\∀s',src C.P 0 s' y=src C.P 0 s y->src C.P t s' v=src C.P t s v->s'.sg[i]?=s.sg[i]?->J4 C R fl o s' some=some (Z6 s' i ob rl):=by
 simp only[J4,F7,Dk]at H;obtain⟨r0,h1,H⟩:=D6 H;rw[hr]at h1;simp only[D8]at h1;subst h1;obtain⟨u,h2,H⟩:=D6 H;obtain⟨z,h3,H⟩:=D6 H;have pn:∀s:St,s.put o.dst (.J8 []) .val=s:=λs=>by rw[hd];rfl
 split at H
 ·rename_i hm;rw[hm]at hi;simp[ZN]at hi
 ·rename_i i' off hm;rw[hm]at hi;simp only[ZN,D8]at hi;subst hi;rw[hm]at hk;simp only[ZO,D8]at hk;subst hk;obtain⟨cs,h4,H⟩:=D6 H;have ho:∃old,s.sg[i']?=some old/\wI old=false:=by
   unfold H5 at h4;split at h4
   ·rename_i hq;exact⟨_,hq,rfl⟩
   ·cases h4
  by_cases hz:z.2=true
  ·rw[C9 hz]at H;obtain⟨xs,H,h5⟩:=Ny H;obtain⟨h6,H⟩:=L9 H;rw[pn]at H;simp only[D8]at H;refine⟨_,none,.inl rfl,⟨rfl,ho⟩,H.symm,λs' a1 a2 a3=>?_⟩;simp only[J4,F7,Dk,a1,hr,a2,h2,h3,M8,hm,Jo a3,h4,C9 hz,h5,C9 h6,pn];rfl
  ·rw[A7 hz]at H;obtain⟨c,H,h5⟩:=ND H;obtain⟨c0,h6,H⟩:=D6 H;rw[pn]at H;simp only[D8]at H;refine⟨_,some v,.inr rfl,⟨rfl,ho⟩,H.symm,λs' a1 a2 a3=>?_⟩;simp only[J4,F7,Dk,a1,hr,a2,h2,h3,M8,hm,Jo a3,h4,A7 hz,h5,h6,pn];rfl
 ·rename_i hm;rw[hm]at hi;simp[ZN]at hi
 ·rename_i i' sz idx hm;rw[hm]at hi;simp only[ZN,D8]at hi;subst hi;rw[hm]at hk;simp only[ZO,D8]at hk;subst hk;obtain⟨q,h4,H⟩:=D6 H;have ho:∃old,s.sg[i']?=some old/\wI old=true:=by
   unfold LB at h4;split at h4
   ·rename_i hq;exact⟨_,hq,rfl⟩
   ·cases h4
  obtain⟨H,h6⟩:=Wu H;obtain⟨h7,H⟩:=H6 H;obtain⟨x',h8,H⟩:=D6 H;rw[pn]at H;simp only[D8]at H;have hx:wI x'=true:=by
   unfold Zd at h8;split at h8
   ·simp only[D8]at h8;subst h8;rfl
   ·cases h8
  refine⟨x',none,.inl rfl,⟨hx,ho⟩,H.symm,λs' a1 a2 a3=>?_⟩;simp only[J4,F7,Dk,a1,hr,a2,h2,h3,M8,hm,B5b a3,h4,h6,h7,X8,h8,pn];rfl
 ·rename_i i' n sz idx off hm;rw[hm]at hi;simp only[ZN,D8]at hi;subst hi;rw[hm]at hk;simp only[ZO,D8]at hk;subst hk;obtain⟨q,h4,H⟩:=D6 H;have ho:∃old,s.sg[i']?=some old/\wI old=true:=⟨_,ZT h4,rfl⟩;obtain⟨d,h5,H⟩:=D6 H;obtain⟨h6,H⟩:=H6 H;by_cases hz:z.2=true
  ·rw[C9 hz]at H;obtain⟨xs,H,h7⟩:=Ny H;obtain⟨e,h8,H⟩:=D6 H;rw[pn]at H;simp only[D8]at H;refine⟨_,none,.inl rfl,⟨rfl,ho⟩,H.symm,λs' a1 a2 a3=>?_⟩;simp only[J4,F7,Dk,a1,hr,a2,h2,h3,M8,hm,oQ a3,h4,h5,h6,X8,C9 hz,h7,h8,pn];rfl
  ·rw[A7 hz]at H;obtain⟨c,H,h7⟩:=ND H;obtain⟨e,h8,H⟩:=D6 H;rw[pn]at H;simp only[D8]at H;refine⟨_,none,.inl rfl,⟨rfl,ho⟩,H.symm,λs' a1 a2 a3=>?_⟩;simp only[J4,F7,Dk,a1,hr,a2,h2,h3,M8,hm,oQ a3,h4,h5,h6,X8,A7 hz,h7,h8,pn];rfl
 ·simp at H
def B58{s:St}{i:Bool}(h:(Bl C fl ops o s).so=some i):o.guard=none/\o.dst=none/\∃t y v r,o.op=.store t y v/\src default 0 s y=some r/\ZO r.2=some i /\
 (Bl C fl ops o s).rt=J9 [y,v]/\(Bl C fl ops o s).wt=FW s.mt v/\∀s',src default 0 s' y=src default 0 s y->FW s'.mt v=FW s.mt v->Bl C fl ops o s'=Bl C fl ops o s:=by
 unfold Bl at h ⊢;split at h
 ·rename_i hg;simp only[hg];unfold Z5 at h ⊢;split at h
  ·simp at h
  ·rename_i hp;unfold FP at h;split at h
   all_goals first
    | (simp at h;done)
    | (split at h<;>simp at h;done)
    | (split at h<;>(try (simp at h;done))<;>split at h<;>(try (simp at h;done))<;>split at h<;>simp at h;done)
    |skip
   ·rename_i t y v F7;split at h
    ·rename_i r hr;simp only at h;by_cases hd:o.dst.isNone=true
     ·rw[C9 hd]at h;have Ep:o.dst=none:=zYq.1 hd;refine⟨trivial,Ep,t,y,v,r,F7,hr,h,?_,?_,λs' hs hs2=>?_⟩
      ·rw[A7 hp];unfold FP;simp only[F7,hr]
      ·rw[A7 hp];unfold FP;simp only[F7,hr,Ep,Option.toList_none,List.nil_append]
      ·rw[A7 hp,A7 hp];unfold FP;simp only[F7,hr,hs,hs2]
     ·rw[A7 hd]at h;cases h
    ·simp at h
   all_goals (split at h<;>(try simp at h)<;>(try (split at h<;>simp at h)))
 ·split at h
  ·simp at h
  ·split at h<;>simp[Fp.look]at h
def B7e{oi oj:Oper}{s s2:St}(Hj:AL C R fl ops oj s s1)(Hi:AL C R fl ops oi s1 s2)(hc:A7C ((Bl C fl ops oj s).l7 s s1) ((Bl C fl ops oi s1).l7 s1 s2)=true):
 ∃s1',AL C R fl ops oi s s1'/\AL C R fl ops oj s1' s2/\(Bl C fl ops oi s).l7 s s1'=(Bl C fl ops oi s1).l7 s1 s2/\(Bl C fl ops oj s1').l7 s1' s2=(Bl C fl ops oj s).l7 s s1:=by
 unfold A7C at hc;split at hc
 ·rename_i ka kb ha hb;simp only[Fp.l7]at ha hb;simp only[Fp.l7,zaq,bne_iff_ne,ne_eq]at hc;obtain⟨⟨⟨C0e,c1⟩,c2⟩,c3⟩:=hc;have c1:=Kh c1;have c2:=Kh c2;have c3:=Kh c3;obtain⟨gj,dj,tj,yj,vj,rj,pj,sj,bj,ej,wj,fj⟩:=B58 ha;obtain⟨gi,di,ti,yi,vi,ri,pi,si,bi,ei,wi,fi⟩:=B58 hb;obtain⟨a,ja⟩:=A6Z bj;obtain⟨b,jb⟩:=A6Z bi;rw[ei,wj]at c1;rw[wi,wj]at c2;rw[ej,wi]at c3;unfold AL at Hi Hj;simp only[gi,gj]at Hi Hj;have real:∀{s:St}{y:Operand}{r:DV×F4}{n:Nat},src default 0 s y=some r->ZN r.2=some n->src C.P 0 s y=some r:=by
   intro s y r n h1 h2;cases y with
   |tmp t=>exact h1
   |const v=>simp only[src]at h1;have:=B2f h1;rw[this]at h2;cases h2
   |func f=>exact h1
   |global g=>cases h1
  obtain⟨obj,rlj,qj,⟨oj1,old1,oj2,oj3⟩,e1,Gj⟩:=A1M pj dj (real sj ja) ja bj Hj;obtain⟨obi,rli,qi,⟨oi1,old2,oi2,oi3⟩,e2,Gi⟩:=A1M pi di (real si jb) jb bi Hi;have uJ:a≠b:=by
   rintro rfl;have hl:a<s.sg.length:=by
    rcases zuq a s.sg.length with h | h
    ·exact h
    ·rw[z8q h]at oj2;cases oj2
   rw[e1,fI,z2q hl]at oi2;simp only[D8]at oi2;subst oi2;exact C0e (oj1.symm.trans oi3)
  have sj':∀v,rlj=some v->v=vj:=λv h=>by rcases qj with q | q<;>rw[q]at h<;>simp at h;exact h.symm
  have si':∀v,rli=some v->v=vi:=λv h=>by rcases qi with q | q<;>rw[q]at h<;>simp at h;exact h.symm
  have B59:∀{P:Program}{t:TypeId}{st st':St}{y:Operand},(∀u∈O5 y,st'.tm[u]?=st.tm[u]?/\st'.mt[u]?=st.mt[u]?)->src P t st' y=src P t st y:=by
   intro P t st st' y h;cases y with
   |tmp u=>obtain⟨h1,h2⟩:=h u (by simp[O5]);simp only[src,St.get,KN h1,KN h2]
   |_=>rfl
  have k1:∀{P:Program}{t:TypeId}{y:Operand},(∀u∈O5 y,u∉FW s.mt vj)->src P t s1 y=src P t s y:=by intro P t y h;rw[e1];exact B59 λu hu=>⟨by rw[vQ],by rw[QE,WT λv hv=>by rw[sj' v hv];exact h u hu]⟩
  have y1:∀u∈O5 yi,u∉FW s.mt vj:=λu hu hv=>c1 u hv (by simp[J9,hu]);have y2:∀u∈O5 vi,u∉FW s.mt vj:=λu hu hv=>c1 u hv (by simp[J9,hu]);have mtj:∀u,u∉FW s.mt vj->s1.mt[u]?=s.mt[u]?:=λu hu=>by rw[e1,QE,WT λv hv=>by rw[sj' v hv];exact hu]
  have ri1:FW s1.mt vi=FW s.mt vi:=lD λu hu=>mtj u (y2 u hu);rw[ri1]at wi c2 c3;have k2:∀{P:Program}{t:TypeId}{y:Operand},(∀u∈O5 y,u∉FW s.mt vi)->src P t (Z6 s b obi rli) y=src P t s y:=by intro P t y h;exact B59 λu hu=>⟨by rw[vQ],by rw[QE,WT λv hv=>by rw[si' v hv];exact h u hu]⟩
  have y3:∀u∈O5 yj,u∉FW s.mt vi:=λu hu hv=>c3 u hv (by simp[J9,hu]);have y4:∀u∈O5 vj,u∉FW s.mt vi:=λu hu hv=>c3 u hv (by simp[J9,hu]);have A1:=Gi s (k1 y1).symm (k1 y2).symm (by rw[e1,fI,z1q uJ]);have A2:=Gj (Z6 s b obi rli) (k2 y3) (k2 y4) (by rw[fI,z1q (Ne.symm uJ)]);have B79:Z6 (Z6 s b obi rli) a obj rlj=s2:=by
   rw[e2,e1];have h1:(Z6 (Z6 s b obi rli) a obj rlj).mt=(Z6 (Z6 s a obj rlj) b obi rli).mt:=by simp only[QE];exact B1q
   have h2:(Z6 (Z6 s b obi rli) a obj rlj).sg=(Z6 (Z6 s a obj rlj) b obi rli).sg:=by simp only[fI];rw[zvq _ _ (Ne.symm uJ)]
   have h3:(Z6 (Z6 s b obi rli) a obj rlj).tm=(Z6 (Z6 s a obj rlj) b obi rli).tm:=by simp only[vQ]
   have h4:(Z6 (Z6 s b obi rli) a obj rlj).bx=(Z6 (Z6 s a obj rlj) b obi rli).bx:=by simp only[B3F]
   generalize Z6 (Z6 s b obi rli) a obj rlj=A at *;generalize Z6 (Z6 s a obj rlj) b obi rli=B at *;cases A;cases B;simp_all
  rw[B79]at A2;have B8B:∀u,u∉FW s.mt vi->(Z6 s b obi rli).mt[u]?=s.mt[u]?:=λu hu=>by rw[QE,WT λv hv=>by rw[si' v hv];exact hu]
  have rj1:FW (Z6 s b obi rli).mt vj=FW s.mt vj:=lD λu hu=>B8B u (y4 u hu);have fi':=fi s (k1 y1).symm ri1.symm;have fj':=fj (Z6 s b obi rli) (k2 y3) rj1;have mti:∀u,u∉FW s.mt vi->s2.mt[u]?=s1.mt[u]?:=λu hu=>by rw[e2,QE,WT λv hv=>by rw[si' v hv,ri1];exact hu]
  have C0u:∀u,u∉FW s.mt vj->s2.mt[u]?=(Z6 s b obi rli).mt[u]?:=λu hu=>by rw[<- B79,QE,WT λv hv=>by rw[sj' v hv,rj1];exact hu]
  refine⟨Z6 s b obi rli,?_,?_,?_,?_⟩
  ·unfold AL;simp only[gi];exact A1
  ·unfold AL;simp only[gj];exact A2
  ·rw[fi'];refine Za ?_ ?_ λht=>?_
   ·rw[wi];exact BG λu hu=>(Gc (mtj u (y2 u (oK hu)))).symm
   ·rw[wi];exact BG λu hu=>(Gc (C0u u (y2 u (oK hu)))).symm
   ·unfold Fp.turns at ht;simp[hb]at ht
  ·rw[fj'];refine Za ?_ ?_ λht=>?_
   ·rw[wj];exact BG λu hu=>Gc (B8B u (y4 u (oK hu)))
   ·rw[wj];exact BG λu hu=>Gc (mti u (y4 u (oK hu)))
   ·unfold Fp.turns at ht;simp[ha]at ht
 ·cases hc
def B1J{oi oj:Oper}{s s2:St}(Hj:AL C R fl ops oj s s1)(Hi:AL C R fl ops oi s1 s2)(hc:B0o ((Bl C fl ops oj s).l7 s s1) ((Bl C fl ops oi s1).l7 s1 s2)=true)(hq:Calm ((Bl C fl ops oj s).l7 s s1) ((Bl C fl ops oi s1).l7 s1 s2)):
 ∃s1',AL C R fl ops oi s s1'/\AL C R fl ops oj s1' s2/\(Bl C fl ops oi s).l7 s s1'=(Bl C fl ops oi s1).l7 s1 s2/\(Bl C fl ops oj s1').l7 s1' s2=(Bl C fl ops oj s).l7 s s1:=by
 obtain⟨nj,Fj⟩:=A1L Hj;obtain⟨ni,Fi⟩:=A1L Hi;generalize hfj:Bl C fl ops oj s=f at *;generalize hfi:Bl C fl ops oi s1=g at *;simp only[B0o,Fp.l7,zaq,zPq,Bool.and_eq_false_imp,Bool.or_eq_false_iff]at hc;obtain⟨⟨⟨⟨⟨⟨⟨⟨⟨⟨⟨c1,c2⟩,c3⟩,c4⟩,c5⟩,c6⟩,c7⟩,c8⟩,c9⟩,c10⟩,c11⟩,c12⟩:=hc;have c1:=Kh c1;have c2:=Kh c2;have c3:=Kh c3;have c4:=Kh c4;have c5:=Kh c5;have c6:=Kh c6;obtain⟨-,Tj⟩:=Fj s (FH.refl nj);obtain⟨s1x,Tj,Rj⟩:=Tj;obtain rfl:=Rj.det Hj;obtain⟨-,Ti⟩:=Fi s1x (FH.refl ni);obtain⟨s2x,Ti,Ri⟩:=Ti;obtain rfl:=Ri.det Hi;have B1h:∀u:Nat,u∉f.wt->s1x.tm[u]?=s.tm[u]?/\s1x.mt[u]?=s.mt[u]?:=λu hu=>by
  rcases Tj.t u with⟨h,_⟩ | ⟨h,_⟩
  ·exact absurd h hu
  ·exact h
 have C0z:∀u:Nat,u∉g.wt->s2x.tm[u]?=s1x.tm[u]?/\s2x.mt[u]?=s1x.mt[u]?:=λu hu=>by
  rcases Ti.t u with⟨h,_⟩ | ⟨h,_⟩
  ·exact absurd h hu
  ·exact h
 have B9J:∀u:Nat,u∉f.wb->s1x.bx[u]?=s.bx[u]?:=λu hu=>by
  rcases Tj.b u with⟨h,_⟩ | ⟨h,_⟩
  ·exact absurd h hu
  ·exact h
 have Ai:FH g s1x s:=by
  refine⟨Tj.ls.1.symm,Tj.ls.2.1.symm,Tj.ls.2.2.symm,λu hu=>?_,λu hu=>?_,λhr=>?_,λt ht=>?_,λj hj=>?_⟩
  ·have:=B1h u λh=>c1 u h hu;exact⟨this.1.symm,this.2.symm⟩
  ·exact(B9J u λh=>c4 u h hu).symm
  ·rcases Tj.s with⟨h,_⟩ | ⟨h,_⟩
   ·rw[(c7 h).1]at hr;cases hr
   ·exact h.symm
  ·rw[ZL];intro u s0 o0 hu Q9;by_cases hw:u∈f.wt
   ·have Yf:wM g (f.l7 s s1x)=true:=c10;simp only[wM,ht,zPq,y7q,PP,Fp.l7,zcq,not_or]at Yf;refine Yf.1 (zZq.2 ⟨u,hw,?_⟩);simp only[FU,z3q,hu,zsq,zoq];exact Q9.symm
   ·have:=ZL.1 (ni t ht) u s0 o0 (by rw[(B1h u hw).2];exact hu);exact this Q9
  ·rcases Tj.s with⟨h,_⟩ | ⟨h,_⟩
   ·have ht:f.turns=true:=by have h11:A2w f (g.l7 s1x s2x)=true:=c11;unfold A2w at h11;rw[show(g.l7 s1x s2x).ld=some j from hj]at h11;simpa[h]using h11
    exact(hq.one (j:=j) hj (A9A ht)).symm
   ·rw[h]
 obtain⟨ei,s1',Ti',Ri'⟩:=Fi s Ai;have Aj:FH f s s1':=by
  refine⟨Ti'.ls'.1.trans Tj.ls.1,Ti'.ls'.2.1.trans Tj.ls.2.1,Ti'.ls'.2.2.trans Tj.ls.2.2,λu hu=>?_,λu hu=>?_,λhr=>?_,λt ht=>?_,λj hj=>?_⟩
  ·rcases Ti'.t u with⟨h,_⟩ | ⟨h,_⟩
   ·exact absurd hu (c3 u h)
   ·exact h
  ·rcases Ti'.b u with⟨h,_⟩ | ⟨h,_⟩
   ·exact absurd hu (c6 u h)
   ·exact h
  ·rcases Ti'.s with⟨h,_⟩ | ⟨h,_⟩
   ·rw[(c8 h).1]at hr;cases hr
   ·exact h
  ·rw[ZL];intro u s0 o0 hu Q9;rcases Ti'.t u with⟨hw,_,h⟩ | ⟨⟨_,h⟩,_⟩
   ·have h9:wM f (g.l7 s1x s2x)=true:=c9;simp only[wM,ht,zPq,y7q,PP,Fp.l7,zcq,not_or]at h9;refine h9.2 (zZq.2 ⟨u,hw,?_⟩);rw[h]at hu;simp only[FU,z3q,hu,zsq,zoq];exact Q9.symm
   ·exact ZL.1 (nj t ht) u s0 o0 (by rw[<- h];exact hu) Q9
  ·rcases Ti'.s with⟨h,h'⟩ | ⟨h,_⟩
   ·have ht:g.turns=true:=by have h12:A2w g (f.l7 s s1x)=true:=c12;unfold A2w at h12;rw[show(f.l7 s s1x).ld=some j from hj]at h12;simpa[h]using h12
    have e:=hq.two (j:=j) hj (A9A ht);simp only at e;rw[h',e];rcases Tj.s with⟨h5,_⟩ | ⟨h5,_⟩
    ·have:=(c8 h).2;rw[h5]at this;cases this
    ·rw[h5]
   ·rw[h]
 obtain⟨ej,s2',Tj',Rj'⟩:=Fj s1' Aj;have hs:s2'=s2x:=by
  have tt:∀u:Nat,s2'.tm[u]?=s2x.tm[u]?/\s2'.mt[u]?=s2x.mt[u]?:=λu=>by
   rcases Ti'.t u with⟨hi,h1,h2⟩ | ⟨⟨h1,h2⟩,h3,h4⟩<;>rcases Tj'.t u with⟨hj,h5,h6⟩ | ⟨⟨h5,h6⟩,h7,h8⟩
   ·exact absurd hi (c2 u hj)
   ·exact⟨h5.trans h1,h6.trans h2⟩
   ·exact⟨h5.trans h3.symm,h6.trans h4.symm⟩
   ·exact⟨by rw[h5,h1,h3,h7],by rw[h6,h2,h4,h8]⟩
  have bb:∀u:Nat,s2'.bx[u]?=s2x.bx[u]?:=λu=>by
   rcases Ti'.b u with⟨hi,h1⟩ | ⟨h1,h3⟩<;>rcases Tj'.b u with⟨hj,h5⟩ | ⟨h5,h7⟩
   ·exact absurd hi (c5 u hj)
   ·exact h5.trans h1
   ·exact h5.trans h3.symm
   ·rw[h5,h1,h3,h7]
  have ss:s2'.sg=s2x.sg:=by
   rcases Ti'.s with⟨hi,h1⟩ | ⟨h1,h3⟩<;>rcases Tj'.s with⟨hj,h5⟩ | ⟨h5,h7⟩
   ·have:=(c7 hj).2;rw[hi]at this;cases this
   ·exact h5.trans h1
   ·exact h5.trans h3.symm
   ·rw[h5,h1,h3,h7]
  have h1:s2'.tm=s2x.tm:=MV λi=>(tt i).1;have h2:s2'.mt=s2x.mt:=MV λi=>(tt i).2;have h3:s2'.bx=s2x.bx:=MV bb;cases s2';cases s2x;simp_all
 subst hs;refine⟨s1',Ri',Rj',?_,?_⟩
 ·rw[ei];refine Za ?_ ?_ λht=>?_
  ·exact BG λu hu=>(Gc (B1h u λh=>c2 u h hu).2).symm
  ·refine BG λu hu=>Gc ?_;rcases Ti'.t u with⟨_,_,h⟩ | ⟨⟨_,h2⟩,_,h4⟩
   ·exact h
   ·rw[h2,h4,(B1h u λh=>c2 u h hu).2]
  ·have hg:g.ws=true:=by unfold Fp.turns at ht;simp only[zaq]at ht;exact ht.2.2
   have e1:s1x.sg=s.sg:=by
    rcases Tj.s with⟨h5,_⟩ | ⟨h5,_⟩
    ·have:=(c8 hg).2;rw[h5]at this;cases this
    ·exact h5
   refine⟨e1.symm,?_⟩;rcases Ti'.s with⟨_,h⟩ | ⟨h,h'⟩
   ·exact h
   ·rw[h,h',e1]
 ·rw[ej];refine Za ?_ ?_ λht=>?_
  ·refine BG λu hu=>Gc ?_;rcases Ti'.t u with⟨h,_⟩ | ⟨⟨_,h⟩,_⟩
   ·exact absurd h (c2 u hu)
   ·exact h
  ·exact BG λu hu=>Gc (C0z u λh=>c2 u hu h).2
  ·have hf:f.ws=true:=by unfold Fp.turns at ht;simp only[zaq]at ht;exact ht.2.2
   have hg:g.ws=false:=(c7 hf).2;refine⟨?_,?_⟩
   ·rcases Ti'.s with⟨h,_⟩ | ⟨h,_⟩
    ·rw[hg]at h;cases h
    ·exact h
   ·rcases Ti.s with⟨h,_⟩ | ⟨_,h⟩
    ·rw[hg]at h;cases h
    ·exact h
def B3E{oi oj:Oper}{s s2:St}(Hj:AL C R fl ops oj s s1)(Hi:AL C R fl ops oi s1 s2)(hc:comm ((Bl C fl ops oj s).l7 s s1) ((Bl C fl ops oi s1).l7 s1 s2)=true)(hq:Calm ((Bl C fl ops oj s).l7 s s1) ((Bl C fl ops oi s1).l7 s1 s2)):
 ∃s1',AL C R fl ops oi s s1'/\AL C R fl ops oj s1' s2/\(Bl C fl ops oi s).l7 s s1'=(Bl C fl ops oi s1).l7 s1 s2/\(Bl C fl ops oj s1').l7 s1' s2=(Bl C fl ops oj s).l7 s s1:=by
 unfold comm at hc;rcases ycq.1 hc with hc | hc;rotate_left
 ·exact B7e Hj Hi hc
 rcases ycq.1 hc with hc | hc
 ·exact B1J Hj Hi hc hq
 ·unfold B2v at hc;split at hc
  ·rename_i x j e y i d h1 h2;simp only[Fp.l7]at h1 h2;simp only[zaq,beq_iff_eq,bne_iff_ne,ne_eq]at hc;obtain⟨⟨⟨⟨rfl,c2⟩,c3⟩,c4⟩,c5⟩:=hc;obtain⟨gj,pj,dj,fj,wj,nj⟩:=B5H h1;obtain⟨gi,pi,di,fi,wi,ni⟩:=B5H h2;obtain⟨s1',k1,k2,k3,k4⟩:=B4o gi gj pi pj di dj (Ne.symm c2) (Ne.symm c3) c5 c4 Hj Hi;refine⟨s1',k1,k2,?_,?_⟩
   ·rw[fi s];refine Za ?_ ?_ λht=>?_
    ·exact BG λu hu=>(k3 u (wi u hu)).2
    ·exact BG λu hu=>(k3 u (wi u hu)).1
    ·unfold Fp.turns at ht;simp[ni]at ht
   ·rw[fj s1'];refine Za ?_ ?_ λht=>?_
    ·exact BG λu hu=>(k4 u (wj u hu)).1
    ·exact BG λu hu=>(k4 u (wj u hu)).2
    ·unfold Fp.turns at ht;simp[nj]at ht
  ·cases hc
end
end Go.Su
