/-
  Parts of the proof, merged: SuOp9, SuOp10, SuOp11, SuOp12, SuCall, SuOp13, SuOp14, SuSim, SuFrame, SuFrame2, SuFrame3, SuDraw.
-/
import Derived.RangeFuncLeaves
import Derived.RangeFuncNested
import Derived.Test.YtfcklgngoefgmaaGreatQ1
set_option linter.defProp false
set_option linter.unusedSectionVars false
set_option linter.unusedSimpArgs false
set_option linter.unusedVariables false
open Array renaming getElem?_eq_some_iff → zdq, getElem?_setIfInBounds_self_of_lt → ziq, getElem?_setIfInBounds_ne → zjq, getElem?_eq_getElem → zEq, getElem?_push → zHq, size_push → zXq, getElem?_eq_none → y1q, getElem?_modify → y4q, getElem?_toList → y6q, length_toList → yfq
open Bool renaming false_eq_true → z7q, and_eq_true → zaq, not_eq_true' → zPq, true_and → zVq, or_eq_true_iff → ycq, not_false → ydq, false_and → yeq, not_true → yiq, or_true → yoq, or_eq_true → ypq
open List renaming getElem?_eq_some_iff → z0q, getElem?_set_ne → z1q, getElem?_set_self → z2q, getD_eq_getElem?_getD → z3q, getElem?_append_left → z4q, getElem?_eq_getElem → z5q, getElem?_append_right → z6q, getElem?_eq_none → z8q, mem_append → zcq, flatMap_cons → zeq, getElem?_cons_zero → zgq, eq_nil_of_length_eq_zero → zhq, mem_of_getElem? → zkq, all_eq_true → zlq, getElem?_set_self' → zmq, mem_singleton → zoq, length_eq_one_iff → zpq, getElem?_cons_succ → zrq, mem_iff_getElem → ztq, set_comm → zvq, getElem?_map → zxq, length_set → zyq, length_cons → zzq, ext_getElem? → zDq, getElem?_take_of_lt → zFq, flatMap_append → zGq, mem_cons_self → zIq, append_assoc → zLq, getElem?_toArray → zMq, mem_append_right → zOq, mem_cons_of_mem → zRq, mem_append_left → zSq, length_take → zTq, length_map → zUq, append_nil → zWq, mem_flatMap → zZq, map_cons → y3q, length_nil → y5q, contains_eq_mem → y7q, length_pos_iff → yaq, map_congr_left → ybq, length_append → ygq, getElem?_drop → yhq, filter_cons → ylq, set_set → ynq
open Nat renaming mul_le_mul_right → z9q, le_refl → zbq, zero_add → zfq, add_mul → zqq, lt_or_ge → zuq, succ_mul → zAq, add_zero → zBq, succ_pos → zCq, le_of_eq → zJq, zero_mul → zKq, le_of_not_lt → zNq, add_assoc → zQq, sub_self → y0q, ne_of_lt → y2q, mul_pos → y8q, le_succ → y9q, lt_succ_self → ykq, min_eq_left → ymq
open Option renaming map_eq_some_iff → znq, getD_some → zsq, isSome_iff_exists → zwq, isNone_iff_eq_none → zYq, map_some → yjq
namespace Go.Su
section
variable {c:Array Value}{T:TypeId}
def A7z(w:World){b o:Nat}{f:Nat×Nat}(h:w.heap[b]?=some (.cells c T f))(v:Value):
 (w.setCell ⟨b,o,none⟩ v).heap[b]?=some (.cells (c.setIfInBounds o v) T f)/\(∀b',b'≠b->(w.setCell ⟨b,o,none⟩ v).heap[b']?=w.heap[b']?)/\(w.setCell ⟨b,o,none⟩ v).heap.size=w.heap.size:=by
 have P6:b<w.heap.size:=(zdq.1 h).1;have hv:w.heap[b]=.cells c T f:=(zdq.1 h).2;refine⟨?_,λb' hb=>?_,by simp⟩
 ·unfold World.setCell;rw[zEq (by simpa using P6),Array.getElem_modify];simp[hv]
 ·simp[World.setCell,y4q,Ne.symm hb]
structure aR(w w':World)(b o:Nat)(vs:List Value)(c:Array Value)(T:TypeId)(f:Nat×Nat):Prop where
 ex:∃c',w'.heap[b]?=some (.cells c' T f)/\c'.size=c.size/\∀j,c'[j]?=if o<=j/\j<o+vs.length then vs[j-o]? else c[j]?
 rest:∀b',b'≠b->w'.heap[b']?=w.heap[b']?
 size:w'.heap.size=w.heap.size
 out:Y9 w w'
def Jh{P:Program}{b T:Nat}{f:Nat×Nat}(off:Nat):∀(vs:List Value)(c:Array Value)(i:Nat)(w:World),w.heap[b]?=some (.cells c T f)->off+i+vs.length<=c.size->(∀v∈vs,v.oneCell'=true)->
 (∀o,off+i<=o->o<off+i+vs.length->¬(f.1<=o/\o<f.2))->∃w',(storeCells ⟨b,off,none⟩ vs i).run P w=.ok () w'/\aR w w' b (off+i) vs c T f
 |[],c,i,w,h,_,_,_=>⟨w,rfl,⟨c,h,rfl,λj=>by rw[A7 (by rintro⟨h1,h2⟩;simp at h2;omega)]⟩,λ_ _=>rfl,rfl,Y9.refl _⟩
 |v::vs,c,i,w,h,hn,ho,hf=>by
   simp only[zzq]at hn hf;have Gz:w.cell? ⟨b,off+i,none⟩=some (c[off+i]'(by omega)):=by rw[Me];unfold hc;rw[h];exact zEq (by omega)
   have hfr:w.frozen? ⟨b,off+i,none⟩=false:=by unfold World.frozen?;simp only[h];have:=hf (off+i) (zbq _) (by omega);simpa using this
   have h1:(store ((⟨b,off,none⟩:Addr).add i) v).run P w=.ok () (w.setCell ⟨b,off+i,none⟩ v):=by rw[Addr.add_lit,run_store P w _ v _ (ho v (by simp)),Gz];simp[hfr]
   obtain⟨s1,s2,s3⟩:=A7z w (o:=off+i) h v;obtain⟨w',r1,⟨c',e1,e2,e3⟩,e4,e5,e6⟩:=Jh off vs _ (i+1) _ s1 (by simp;omega) (λu hu=>ho u (by simp[hu])) (λo h1 h2=>hf o (by omega) (by omega));refine⟨w',?_,⟨c',e1,by simpa using e2,λj=>?_⟩,λb' hb=>(e4 b' hb).trans (s2 b' hb),e5.trans s3,Y9.trans (b:=w.setCell ⟨b,off+i,none⟩ v) ⟨rfl,rfl,rfl⟩ e6⟩
   ·unfold storeCells;simp only[Sem.run_bind,h1,Result.andThen_ok];exact r1
   ·rw[e3 j,zzq];by_cases hj:j=off+i
    ·subst hj;rw[A7 (by omega),A9 (by omega),ziq (by omega)];simp
    ·rw[zjq (Ne.symm hj)];by_cases hc:off+(i+1)<=j/\j<off+(i+1)+vs.length
     ·rw[A9 hc,A9 (by omega),show j-(off+i)=(j-(off+(i+1)))+1 from by omega,zrq]
     ·rw[A7 hc,A7 (by omega)]
variable {P:Program}{t:TypeId}{off:Nat}{v:Value}
def Jw{z:Nat×Bool}(hz:tz P t=some z){w:World}{b T:Nat}{f:Nat×Nat}(h:w.heap[b]?=some (.cells c T f))(hs:v.cells.size=z.1)(hn:off+z.1<=c.size)(ho:∀u∈v.cells.toList,u.oneCell'=true)(hf:∀o,off<=o->o<off+z.1->¬(f.1<=o/\o<f.2)):∃w',(storeVar t ⟨b,off,none⟩ v).run P w=.ok () w'/\aR w w' b off v.cells.toList c T f:=by obtain⟨w',r,s⟩:=Jh (P:=P) off v.cells.toList c 0 w h (by simp;omega) ho (λo h1 h2=>hf o (by omega) (by simp at h2;omega));refine⟨w',?_,by simpa using s⟩;unfold storeVar;simp only[Sem.run_bind,NQ hz,Result.andThen_ok,Sem.run_ite];rw[A7 (by omega)];exact r
variable {w':World}{vs:List Value}
def aR.Pr{E:Env}{w:World}{b o:Nat}{f:Nat×Nat}(S:aR w w' b o vs c T f){ch:Tag->Prop}(hb:w.heap[b]?=some (.cells c T f))(ht:∀j,o<=j->j<o+vs.length->ch (E.O b j)):
 Pr ch E w.heap E w'.heap:=by
 refine⟨zJq S.size.symm,λb' QS=>?_,λ_ _ _ _=>rfl,zbq _,λ_ _ _=>⟨rfl,rfl,rfl⟩,λ_ _=>rfl,EA rfl⟩;by_cases VM:b'=b
 ·subst VM;rw[hb];obtain⟨c',e1,e2,e3⟩:=S.ex;refine⟨c',e1,e2,λj hj=>?_⟩;rw[e3 j,A7];rintro⟨c1,c2⟩;exact hj (ht j c1 c2)
 ·rw[S.rest b' VM];exact X4.refl _ _
section
variable {X:Type}{C:BQ}{R:O8}{o:Oper}{st:St}{k:St->Option X}{x:X}{E:Env}{a:Act}{w:World}{K:Act->World->Prop}{Q:Exit->Act->World->Prop}
def aQ.write{tg:Tag}{p q b:Nat}{cs xs:List (DV×F4)}(B:aQ E w.heap tg p q b cs)(hb:w.heap[b]?=some (.cells c T (0,0)))(S:aR w w' b off vs c T (0,0))(hl:xs.length=vs.length)(J4:off+xs.length<=cs.length)(hx:∀(j:Nat) r v,xs[j]?=some r->vs[j]?=some v->EJ E w.heap (.sp p q (off+j)) r v)(hs:AJ E.S w.heap E.S w'.heap)(hP:Pr (λt=>t=tg) E w.heap E w'.heap)(kX:∀k' a' b',tg ≠ .sp k' a' b'):aQ E w'.heap tg p q b (FC cs off xs):=by
 obtain⟨c0,T0,h1,h2,h3,h4⟩:=B;rw[hb]at h1;simp only[D8,Obj.cells.injEq]at h1;obtain⟨rfl,rfl,-⟩:=h1;obtain⟨c',e1,e2,e3⟩:=S.ex;have mono:∀{tg':Tag}{r:DV×F4}{v:Value},(∃x y z,tg'=.sp x y z)->EJ E w.heap tg' r v->EJ E w'.heap tg' r v:=by rintro tg' r v ⟨x1,y1,z1,rfl⟩ ⟨a1,a2,a3,a4⟩;exact⟨a1,a2,a3,a4.mono hP hs (λ_=>λh=>kX _ _ _ h.symm) λs o' hm=>by rw[hm]at a3;simp[Z0]at a3⟩
 refine⟨c',T,e1,by rw[e2,h2,Mw J4],λo'=>?_,λj r v hr hv=>?_⟩
 ·rcases h3 o' with h5 | h5
  ·exact .inl h5
  ·exact .inr (by omega)
 ·rw[Qd J4]at hr;rw[e3 j]at hv;by_cases hc:off<=j/\j<off+xs.length
  ·rw[A9 hc]at hr;rw[A9 (by omega)]at hv;have:=hx (j-off) r v hr hv;rw[show off+(j-off)=j from by omega]at this;exact mono ⟨_,_,_,rfl⟩ this
  ·rw[A7 hc]at hr;rw[A7 (by omega)]at hv;exact mono ⟨_,_,_,rfl⟩ (h4 j r v hr hv)
def L6.A4k{s:Nat}{cs xs:List (DV×F4)}(Rl:L6 E st a w.heap)(hbx:st.bx.getD s none=some cs)(hb:w.heap[E.blk s]?=some (.cells c T (0,0)))(S:aR w w' (E.blk s) off vs c T (0,0))(hl:xs.length=vs.length)(J4:off+xs.length<=cs.length)(hx:∀(j:Nat) r v,xs[j]?=some r->vs[j]?=some v->EJ E w.heap (.sp 1 s (off+j)) r v):
 L6 E { st with bx:=st.bx.set s (some (FC cs off xs)) } a w'.heap/\Pr (λt=>t=.TR s) E w.heap E w'.heap:=by
 have B:=Rl.j4 s cs hbx;have Cz:c.size=cs.length:=by obtain⟨c0,T0,h1,h2,-⟩:=B;rw[hb]at h1;simp only[D8,Obj.cells.injEq]at h1;rw[h1.1];exact h2
 have hP:Pr (λt=>t=.TR s) E w.heap E w'.heap:=S.Pr hb λj h1 h2=>by
  obtain⟨c1,T1,g1,g2,g3,-⟩:=B;rw[hb]at g1;simp only[D8,Obj.cells.injEq]at g1;rcases g3 j with h6 | h6
  ·exact h6
  ·rw[<- g1.1]at h6;omega
 have hs:=hP.Q8 (by simp) Rl.fresh;refine⟨⟨Rl.size,Rl.AZ,by simpa using Rl.CW,Rl.n,λt v hv=>?_,λs' cs' Db=>?_,λi ob hi=>(Rl.U5 i ob hi).mono hP hs (CE Rl hi) (by simp) (by simp),λb o' QS=>Rl.fresh b o' (by rw[<- S.size];exact QS)⟩,hP⟩
 ·have h0:=Rl.Be t v hv;cases hm:(st.get t).2
  case loc s' o'=>show RR E w'.heap 0 t (st.get t).1 (st.get t).2 v;rw[hm]at h0 ⊢;exact h0
  all_goals
   show RR E w'.heap 0 t (st.get t).1 (st.get t).2 v;exact h0.mono hP hs (by simp) (by rw[hm];simp)
 ·have zt:s<st.bx.length:=by
   rcases zuq s st.bx.length with h1 | h1
   ·exact h1
   ·simp[z3q,z8q h1]at hbx
  by_cases bX:s=s'
  ·subst bX;simp only[z3q,z2q zt,zsq,D8]at Db;subst Db;exact B.write hb S hl J4 hx hs hP (by simp)
  ·simp only[z3q,z1q bX]at Db;exact(Rl.j4 s' cs' (by simpa[z3q]using Db)).mono hP hs (by simp;exact λh=>bX h.symm) (by simp)
def L6.A4l{i:Nat}{cs xs:List (DV×F4)}(Rl:L6 E st a w.heap)(hsg:st.sg[i]?=some (.box cs))(hb:w.heap[E.obj i]?=some (.cells c T (0,0)))(S:aR w w' (E.obj i) off vs c T (0,0))(hl:xs.length=vs.length)(J4:off+xs.length<=cs.length)(hx:∀(j:Nat) r v,xs[j]?=some r->vs[j]?=some v->EJ E w.heap (.sp 2 i (off+j)) r v):
 L6 E { st with sg:=st.sg.set i (.box (FC cs off xs)) } a w'.heap/\Pr (λt=>t=.obj i) E w.heap E w'.heap:=by
 have B:=Rl.U5 i _ hsg;simp only[RO]at B;have Cz:c.size=cs.length:=by obtain⟨c0,T0,h1,h2,-⟩:=B;rw[hb]at h1;simp only[D8,Obj.cells.injEq]at h1;rw[h1.1];exact h2
 have hP:Pr (λt=>t=.obj i) E w.heap E w'.heap:=S.Pr hb λj h1 h2=>by
  obtain⟨c1,T1,g1,g2,g3,-⟩:=B;rw[hb]at g1;simp only[D8,Obj.cells.injEq]at g1;rcases g3 j with h6 | h6
  ·exact h6
  ·rw[<- g1.1]at h6;omega
 have hs:=hP.Q8 (by simp) Rl.fresh;have Ig:=(z0q.1 hsg).1;refine⟨⟨Rl.size,Rl.AZ,Rl.CW,by simpa using Rl.n,λt v hv=>(Rl.Be t v hv).mono hP hs (by simp) (by simp),λs' cs' Db=>(Rl.j4 s' cs' Db).mono hP hs (by simp) (by simp),λi' ob hi=>?_,λb o' QS=>Rl.fresh b o' (by rw[<- S.size];exact QS)⟩,hP⟩;by_cases Ce:i=i'
 ·subst Ce;simp only[z2q Ig,D8]at hi;subst hi;exact B.write hb S hl J4 hx hs hP (by simp)
 ·simp only[z1q Ce]at hi;exact(Rl.U5 i' ob hi).mono hP hs (CE Rl hi) (by simp;exact λh=>Ce h.symm) (by simp)
def Cj(y:Operand)(p s off:Nat)(T:Tag):Tag :=
 match y,T with
 |.tmp t,.sp 0 t' 0=>if t=t' then .sp p s off else .sp 0 t' 0
 |_,T=>T
variable {y:Operand}
theorem Gn{p s:Nat}{T:Tag}(h:∀t b,y=.tmp t->T ≠ .sp 0 t b):Cj y p s off T=T:=by
 unfold Cj;split
 ·split
  ·rename_i hx;subst hx;exact absurd rfl (h _ _ rfl)
  ·rfl
 ·rfl
def A9g{r:DV×F4}(hs:src P t st y=some r){p s:Nat}{c:DV×F4}(hm:c.2=r.2)(hc:EJ E w.heap (.sp 0 (fo y) 0) c (a.eval y)):
 EJ (E.re (Cj y p s off)) w.heap (.sp p s off) c (a.eval y):=by
 obtain⟨a1,a2,a3,a4⟩:=hc;refine⟨a1,a2,a3,?_⟩;by_cases hy:∃i,y=.tmp i
 ·obtain⟨i,rfl⟩:=hy;exact a4.re (Gn (by simp)) (by simp[Cj,fo])
 ·have ZJ:c.2.owns=false:=by
   rw[hm];cases y with
   |tmp i=>exact absurd ⟨i,rfl⟩ hy
   |const v=>exact B4b hs
   |func f=>simp only[src,D8]at hs;subst hs;rfl
   |global g=>simp[src]at hs
  have a5:M4 (E.re (Cj y p s off)) w.heap .other c.1 c.2 (a.eval y):=(a4.tag (tg':=.other) ZJ).re (Gn (by simp)) (Gn (by simp));exact a5.tag ZJ
def Ja{v:Operand}{b:Nat}(F7:o.op=.store t y v)(he:a.eval y=.pointer (some ⟨b,off,none⟩))(h:(storeVar t ⟨b,off,none⟩ (a.eval v)).run C.P w=.ok () w'):
 (execOp a.eval o).run C.P w=.ok .skip w':=by
 simp only[execOp,F7];refine B51 ?_;simp only[Instr.storeAt,he,Instr.sureAddr,Sem.run_bind,Sem.run_pure,Result.andThen_ok,h]
def cells_one(h:v.oneCell'=true):v.cells=#[v]:=by cases v<;>first | rfl | (simp[Value.oneCell']at h)
def A30{α : Type}{l:List α}{o:Nat}{y : α}(h:o<l.length):FC l o [y]=l.set o y:=by
 apply zDq;intro j;rw[Qd (by simp;omega)];by_cases hj:o=j
 ·subst hj;rw[A9 (by simp),z2q h];simp
 ·rw[A7 (by simp;omega),z1q hj]
def M4.dat{E:Env}{h:Heap}{tg:Tag}{d:DV}{m:F4}(hm:K6 m=true)(R:M4 E h tg d m v):RV E.S h d v:=by
 cases m<;>simp only[K6]at hm<;>simp only[M4]at R<;>try contradiction
 ·exact R
 ·exact R.1
 ·exact R.1
 ·obtain⟨rfl,rfl⟩:=R;simp only[RV]
def A4j{z:Nat×Bool}(hz:tz P t=some z)(Rl:L6 E st a w.heap){i n sz idx:Nat}{ds:List DV}{d e:DV}(hp:st.sg[i]?=some (.P9 n sz ds))(hd:ds[idx]?=some d)(QX:v.cells.size=z.1){xs:List (DV×F4)}(hl:xs.length=v.cells.size){tg:Nat->Tag}(Ak:∀(j:Nat) r v',xs[j]?=some r->v.cells.toList[j]?=some v'->M8 r.1=true/\v'.oneCell'=true/\M4 E w.heap (tg j) r.1 r.2 v')(he:Kj sz off d xs=some e):
 ∃w',(storeVar t ⟨E.obj i,E.base i+idx * sz+off,none⟩ v).run P w=.ok () w'/\L6 E { st with sg:=st.sg.set i (.P9 n sz (ds.set idx e)) } a w'.heap/\Pr (λt=>t=.obj i) E w.heap E w'.heap/\Y9 w w':=by
 obtain⟨Wy,hRC⟩:off+xs.length<=sz/\∀us:List Value,us.length=sz->RC E.S w.heap d us->RC E.S w.heap e (FC us off v.cells.toList):=by
  have Tx:v.cells.toList.length=xs.length:=by simp[hl]
  unfold Kj at he;split at he
  ·rename_i cs;obtain⟨⟨bQ,FD,Wy⟩,he⟩:=M5 he;simp only[D8]at he;subst he;refine⟨Wy,λus u1 u3=>?_⟩;have VP:off+v.cells.toList.length<=us.length:=by omega
   simp only[RC]at u3 ⊢;obtain⟨k1,k2⟩:=CS.1 u3;have hpc:off+(xs.map (·.1)).length<=cs.length:=by simp;omega
   refine CS.2 ⟨by rw[Mw VP,Mw hpc,k1],λy q u hq hu=>?_⟩;rw[Qd VP]at hu;rw[Qd hpc]at hq;by_cases hy:off<=y/\y<off+v.cells.toList.length
   ·rw[A9 hy]at hu;rw[A9 (by simp only[zUq];omega),zxq,znq]at hq;obtain⟨r,hr,rfl⟩:=hq;obtain⟨g1,g2,g3⟩:=Ak _ r u hr hu;have g4:=zlq.1 bQ r (zkq hr);rw[zaq]at g4;exact⟨g1,NW g1 g2 (g3.dat g4.1)⟩
   ·rw[A7 hy]at hu;rw[A7 (by simp only[zUq];omega)]at hq;exact k2 y q u hq hu
  ·split at he
   ·rename_i c;obtain⟨⟨hd0,hc,CQ,ho⟩,he⟩:=M5 he;simp only[D8]at he;subst he;subst CQ;subst ho;refine⟨by simp,λus u1 u3=>?_⟩;rw[zaq]at hc;simp only[zzq,y5q]at Tx;obtain⟨u,hu⟩:=zpq.1 Tx;have e0:FC us 0 v.cells.toList=[u]:=by rw[hu];simp[FC,List.drop_of_length_le (show us.length<=1 by omega)]
    rw[e0];obtain⟨g1,g2,g3⟩:=Ak 0 c u rfl (by rw[hu];rfl);exact NW g1 g2 (g3.dat hc.1)
   ·cases he
 have B:=Rl.U5 i _ hp;simp only[RO]at B;obtain⟨bv,b0,b3,B⟩:=B;have hne:ds≠[]:=by intro h;rw[h]at hd;simp at hd
 obtain⟨c,TT,f,b1,b2,b2',b4,b5⟩:=B.resolve_left λh=>hne h.1;have hidx:idx<ds.length:=(z0q.1 hd).1;have BN:idx * sz+sz<=ds.length * sz:=by rw[<- zAq];exact z9q _ hidx
 have Tx:v.cells.toList.length=xs.length:=by simp[hl]
 have Gz:∀u∈v.cells.toList,u.oneCell'=true:=by intro q hq;obtain⟨j,hj,ui⟩:=ztq.1 hq;exact(Ak j _ q (z5q (by omega)) (by rw[z5q hj,ui])).2.1
 obtain⟨w',hw,S⟩:=Jw (P:=P) hz (off:=E.base i+idx * sz+off) b1 QX (by omega) Gz (λo h1 h2=>(b4 o (by omega) (by omega)).2);have P1:Pr (λt=>t=.obj i) E w.heap E w'.heap:=S.Pr b1 λj h1 h2=>(b4 j (by omega) (by simp at h2;omega)).1;have hs:=P1.Q8 (by simp) Rl.fresh;have Ig:=(z0q.1 hp).1;refine⟨w',hw,?_,P1,S.out⟩;refine⟨Rl.size,Rl.AZ,Rl.CW,by simpa using Rl.n,λt v hv=>(Rl.Be t v hv).mono P1 hs (by simp) (by simp),λs' cs' Db=>(Rl.j4 s' cs' Db).mono P1 hs (by simp) (by simp),λi' ob hi=>?_,λb o' QS=>Rl.fresh b o' (by rw[<- S.size];exact QS)⟩;by_cases Ce:i=i'
 ·subst Ce;simp only[z2q Ig,D8]at hi;subst hi;simp only[RO];obtain⟨c',Im,e2',e3'⟩:=S.ex;refine⟨bv,b0,b3,.inr ⟨c',TT,f,Im,by rw[zyq];exact b2,by rw[e2'];exact b2',b4,λj d' Eo=>?_⟩⟩;by_cases hj:idx=j
  ·subst hj;rw[z2q hidx]at Eo;simp only[D8]at Eo;subst Eo;obtain⟨us,u1,u2,u3⟩:=b5 idx _ hd;have VP:off+v.cells.toList.length<=us.length:=by omega
   refine⟨FC us off v.cells.toList,by rw[Mw VP,u1],λy q hq=>?_,?_⟩
   ·rw[Qd VP]at hq;by_cases hy:off<=y/\y<off+v.cells.toList.length
    ·rw[A9 hy]at hq;rw[e3',A9 (by omega),<- hq];congr 1;omega
    ·rw[A7 hy]at hq;rw[e3',A7 (by omega),u2 y q hq]
   ·exact(hRC us u1 u3).mono hs
  ·rw[z1q hj]at Eo;obtain⟨us,u1,u2,u3⟩:=b5 j d' Eo;refine⟨us,u1,λy q hq=>?_,u3.mono hs⟩;have hy:y<sz:=by have:=(z0q.1 hq).1;omega
   rw[e3',A7,u2 y q hq];rintro⟨c1,c2⟩;have:=A1T (sz:=sz) (i:=idx) (i':=j) (j:=j * sz+y-idx * sz) (j':=y) (by omega) hy (by omega);omega
 ·simp only[z1q Ce]at hi;exact(Rl.U5 i' ob hi).mono P1 hs (CE Rl hi) (by simp;exact λh=>Ce h.symm) (by simp)
def B3r{v:Operand}(F7:o.op=.store t y v)(H:Dj C o t y v st k=some x)(Rl:L6 E st a w.heap)(T:Then E w k x K):Gp C.P o a w K:=by
 unfold Dj at H;obtain⟨r,h1,H⟩:=D6 H;obtain⟨u,h2,H⟩:=D6 H;obtain⟨z,hz,H⟩:=D6 H;have e1:=Rl.src h1;have e2:=Rl.src h2;have Hq:z.2=false->z.1=1:=by obtain⟨i,d,-,-,-,h4⟩:=Ib hz;exact h4
 have uq:∀{E':Env}{h':Heap}(t0:Nat),RR E' h' 0 t0 (.J6 []) .val undef:=by intro E' h' t0;simp only[RR,M4,RV];exact⟨#[],rfl,by simp[SH]⟩
 split at H
 ·-- a private variable
  rename_i s off hm;rw[hm]at e1;simp only[RR,M4]at e1;obtain⟨cs,hb,H⟩:=D6 H;have B:=Rl.j4 s cs hb;obtain⟨c,TT,Gr,Cz,hO,-⟩:=B;split at H
  ·obtain⟨xs,H,hl,Ak,ZJ⟩:=yL hz e2 H;obtain⟨J4,H⟩:=M5 H;obtain⟨w',hw,S⟩:=Jw (P:=C.P) hz (off:=off) Gr (v:=a.eval v) (by have:=Ak.1;simp at this;omega) (by omega) (λu hu=>by obtain⟨j,hj,ui⟩:=ztq.1 hu;have yc:=Ak.1;exact(Ak.2 j _ u (z5q (by omega)) (by rw[z5q hj,ui])).2.1) (λo _ _=>by simp)
   have R0:=Rl.release (x:=v) (f:=SI v s off) λT hT=>QB hT;have LP:(st.release v).bx=st.bx:=by cases v<;>rfl
   obtain⟨R1,P1⟩:=R0.A4k (by rw[LP];exact hb) Gr S Ak.1 J4 λj r' v' hr hv=>(Ak.2 j r' v' hr hv).box λhy=>ZJ (A3R h2 hy) r' (zkq hr)
   rw[LP]at R1;have R8:({ st with bx:=st.bx.set s (some (FC cs off xs)) }.release v)={ st.release v with bx:=st.bx.set s (some (FC cs off xs)) }:=by cases v<;>rfl
   rw[R8]at H;have P0:Pr P8 E w.heap (E.re (SI v s off)) w.heap:=Pr.re λT hT=>QB λt b _ he=>hT (by rw[he];simp[P8]);exact OG (Ja F7 e1.2 hw) (T (E.re (SI v s off)) _ _ w' H (R1.put λt0 _=>uq t0) (P0.trans (P1.j6 (by rintro T rfl;simp[P8]))) S.out)
  ·rename_i ut;have oF:=Hq (by simpa using ut);obtain⟨cc,H,hmm,Ak⟩:=Xv e2 H;obtain⟨P6,H⟩:=M5 H;have YN:=cells_one Ak.2.1;obtain⟨w',hw,S⟩:=Jw (P:=C.P) hz (off:=off) Gr (v:=a.eval v) (by rw[YN,oF];rfl) (by omega) (λu hu=>by rw[YN]at hu;simp at hu;subst hu;exact Ak.2.1) (λo _ _=>by simp)
   rw[YN]at S;have R0:=Rl.release (x:=v) (f:=Cj v 1 s off) λT hT=>Gn hT;have Gz:=A9g h2 (p:=1) (s:=s) (off:=off) hmm Ak;have LP:(st.release v).bx=st.bx:=by cases v<;>rfl
   obtain⟨R1,P1⟩:=R0.A4k (xs:=[cc]) (by rw[LP];exact hb) Gr S rfl (by simp;omega) λj r' v' hr hv=>by
    cases j with
    |succ j=>simp at hr
    |zero=>
      have AV:r'=cc:=by simpa using hr.symm
      have Pf:v'=a.eval v:=by simpa using hv.symm
      rw[AV,Pf];exact Gz
   rw[A30 P6,LP]at R1;have R8:({ st with bx:=st.bx.set s (some (cs.set off cc)) }.release v)={ st.release v with bx:=st.bx.set s (some (cs.set off cc)) }:=by cases v<;>rfl
   rw[R8]at H;have P0:Pr P8 E w.heap (E.re (Cj v 1 s off)) w.heap:=Pr.re λT hT=>Gn λt b _ he=>hT (by rw[he];simp[P8]);exact OG (Ja F7 e1.2 hw) (T (E.re (Cj v 1 s off)) _ _ w' H (R1.put λt0 _=>uq t0) (P0.trans (P1.j6 (by rintro T rfl;simp[P8]))) S.out)
 ·-- a shared variable
  rename_i i off hm;rw[hm]at e1;simp only[RR,M4]at e1;obtain⟨cs,hb,H⟩:=D6 H;have hb:=Zr hb;have B:=Rl.U5 i _ hb;simp only[RO]at B;obtain⟨c,TT,Gr,Cz,hO,-⟩:=B;split at H
  ·obtain⟨xs,H,hl,Ak⟩:=Za hz e2 H;obtain⟨J4,H⟩:=M5 H;obtain⟨w',hw,S⟩:=Jw (P:=C.P) hz (off:=off) Gr (v:=a.eval v) (by have:=Ak.1;simp at this;omega) (by omega) (λu hu=>by obtain⟨j,hj,ui⟩:=ztq.1 hu;have yc:=Ak.1;obtain⟨⟨-,q,-,-⟩,-⟩:=Ak.2 j _ u (z5q (by omega)) (by rw[z5q hj,ui]);exact q) (λo _ _=>by simp)
   obtain⟨R1,P1⟩:=Rl.A4l hb Gr S Ak.1 J4 λj r' v' hr hv=>let⟨q1,q2⟩:=Ak.2 j r' v' hr hv;⟨q1.1,q1.2.1,q1.2.2.1,q1.2.2.2.tag (RD q1.2.2.1 q2)⟩
   exact OG (Ja F7 e1.2 hw) (T E _ _ w' H (R1.put λt0 _=>uq t0) (P1.j6 (by rintro T rfl;simp[P8])) S.out)
  ·rename_i ut;have oF:=Hq (by simpa using ut);obtain⟨cc,H,hmm,Ak⟩:=Xv e2 H;obtain⟨c0,ug,H⟩:=D6 H;have P6:off<cs.length:=(z0q.1 ug).1;have YN:=cells_one Ak.2.1;obtain⟨w',hw,S⟩:=Jw (P:=C.P) hz (off:=off) Gr (v:=a.eval v) (by rw[YN,oF];rfl) (by omega) (λu hu=>by rw[YN]at hu;simp at hu;subst hu;exact Ak.2.1) (λo _ _=>by simp)
   rw[YN]at S;have R0:=Rl.release (x:=v) (f:=Cj v 2 i off) λT hT=>Gn hT;have Gz:=A9g h2 (p:=2) (s:=i) (off:=off) hmm Ak;have LP:(st.release v).sg=st.sg:=by cases v<;>rfl
   obtain⟨R1,P1⟩:=R0.A4l (xs:=[cc]) (by rw[LP];exact hb) Gr S rfl (by simp;omega) λj r' v' hr hv=>by
    cases j with
    |succ j=>simp at hr
    |zero=>
      have AV:r'=cc:=by simpa using hr.symm
      have Pf:v'=a.eval v:=by simpa using hv.symm
      rw[AV,Pf];exact Gz
   rw[A30 P6,LP]at R1;have R8:({ st with sg:=st.sg.set i (.box (cs.set off cc)) }.release v)={ st.release v with sg:=st.sg.set i (.box (cs.set off cc)) }:=by cases v<;>rfl
   rw[R8]at H;have P0:Pr P8 E w.heap (E.re (Cj v 2 i off)) w.heap:=Pr.re λT hT=>Gn λt b _ he=>hT (by rw[he];simp[P8]);exact OG (Ja F7 e1.2 hw) (T (E.re (Cj v 2 i off)) _ _ w' H (R1.put λt0 _=>uq t0) (P0.trans (P1.j6 (by rintro T rfl;simp[P8]))) S.out)
 ·-- an element of a writable array
  rename_i i sz idx off hm;rw[hm]at e1;simp only[RR,M4]at e1;obtain⟨p,hp,H⟩:=D6 H;obtain⟨d,hd,H⟩:=D6 H;obtain⟨H,QX,hRC⟩:=mR Hq e2 H;obtain⟨Cz,H⟩:=H6 H;obtain⟨⟨hzz,Wy⟩,H9⟩:=M5 H;clear H;subst Wy;have hp:=pK hp;have Cz:p.1=sz:=by simpa using Cz
  rw[Cz]at hp;have B:=Rl.U5 i _ hp;simp only[RO]at B;have hne:p.2≠[]:=by intro h;rw[h]at hd;simp at hd
  obtain⟨c,TT,b1,b2,b3,b4,b5⟩:=B hne;have hidx:idx<p.2.length:=(z0q.1 hd).1;have BN:idx * sz+sz<=p.2.length * sz:=by rw[<- zAq];exact z9q _ hidx
  have Gz:∀u∈(a.eval v).cells.toList,u.oneCell'=true:=by intro q hq;obtain⟨j,hj,ui⟩:=ztq.1 hq;obtain⟨q1,q2⟩:=Oa hRC (j:=j) (v:=q) (by rw[z5q hj,ui]);exact Jm q1 q2
  obtain⟨w',hw,S⟩:=Jw (P:=C.P) hz (off:=E.base i+idx * sz) b1 (v:=a.eval v) QX (by omega) Gz (λo _ _=>by simp);have P1:Pr (λt=>t=.obj i) E w.heap E w'.heap:=S.Pr b1 λj h1 h2=>b4 j (by omega) (by simp at h2;omega);have hs:=P1.Q8 (by simp) Rl.fresh;have Ig:=(z0q.1 hp).1;have R1:L6 E { st with sg:=st.sg.set i (.arr sz (p.2.set idx u.1)) } a w'.heap:=by
   refine⟨Rl.size,Rl.AZ,Rl.CW,by simpa using Rl.n,λt v hv=>(Rl.Be t v hv).mono P1 hs (by simp) (by simp),λs' cs' Db=>(Rl.j4 s' cs' Db).mono P1 hs (by simp) (by simp),λi' ob hi=>?_,λb o' QS=>Rl.fresh b o' (by rw[<- S.size];exact QS)⟩;by_cases Ce:i=i'
   ·subst Ce;simp only[z2q Ig,D8]at hi;subst hi;simp only[RO];intro _;obtain⟨c',Im,e2',e3'⟩:=S.ex;refine⟨c',TT,Im,by rw[zyq,e2'];exact b2,b3,by rw[zyq];exact b4,λj d' Eo=>?_⟩;by_cases hj:idx=j
    ·subst hj;rw[z2q hidx]at Eo;simp only[D8]at Eo;subst Eo;refine⟨(a.eval v).cells.toList,by simp;omega,λy q hq=>?_,hRC.mono hs⟩;have hy:y<sz:=by have:=(z0q.1 hq).1;simp at this;omega
     rw[e3',A9 (by simp;omega),<- hq];congr 1;omega
    ·rw[z1q hj]at Eo;obtain⟨us,u1,u2,u3⟩:=b5 j d' Eo;refine⟨us,u1,λy q hq=>?_,u3.mono hs⟩;have hy:y<sz:=by have:=(z0q.1 hq).1;omega
     rw[e3',A7,u2 y q hq];rintro⟨c1,c2⟩;simp at c2;exact hj (A1T (sz:=sz) (j:=j * sz+y-idx * sz) (j':=y) (by omega) hy (by omega))
   ·simp only[z1q Ce]at hi;exact(Rl.U5 i' ob hi).mono P1 hs (CE Rl hi) (by simp;exact λh=>Ce h.symm) (by simp)
  exact OG (Ja F7 (by rw[e1.2];rfl) hw) (T E _ _ w' H9 (R1.put λt0 _=>uq t0) (P1.j6 (by rintro T rfl;simp[P8])) S.out)
 ·-- an open element
  rename_i i sz idx hm;rw[hm]at e1;simp only[RR,M4]at e1;obtain⟨q,hq,H⟩:=D6 H;obtain⟨H,QX,hRC⟩:=mR Hq e2 H;obtain⟨Cz,H⟩:=H6 H;obtain⟨ob1,hx,H9⟩:=D6 H;clear H;simp only[zaq,beq_iff_eq]at Cz;obtain⟨CQ,hs2⟩:=Cz;obtain⟨sz',pre,ds⟩:=q;simp only at CQ;subst CQ;have hq:=pM hq;simp only[aG]at hx;obtain⟨⟨NL,uh⟩,hx⟩:=M5 hx;simp only[D8]at hx;subst hx;have B:=Rl.U5 i _ hq;simp only[RO]at B;obtain⟨c,TT,f,b1,b2,b2',b3,b4,b5,b6⟩:=B;have B0R:pre.length * sz'<=idx * sz':=z9q _ NL;have BN:idx * sz'+sz'<=(pre.length+ds.length) * sz':=by rw[<- zAq];exact z9q _ (by omega)
  have Gz:∀u∈(a.eval v).cells.toList,u.oneCell'=true:=by intro q hq;obtain⟨j,hj,ui⟩:=ztq.1 hq;obtain⟨q1,q2⟩:=Oa hRC (j:=j) (v:=q) (by rw[z5q hj,ui]);exact Jm q1 q2
  obtain⟨w',hw,S⟩:=Jw (P:=C.P) hz (off:=E.base i+idx * sz') b1 (v:=a.eval v) QX (by omega) Gz (λo h1 h2=>(b4 o (by omega) (by omega)).2);have P1:Pr (λt=>t=.obj i) E w.heap E w'.heap:=S.Pr b1 λj h1 h2=>(b4 j (by omega) (by simp at h2;omega)).1;have hs:=P1.Q8 (by simp) Rl.fresh;have Ig:=(z0q.1 hq).1;have R1:L6 E { st with sg:=st.sg.set i (.opn sz' pre (ds.set (idx-pre.length) u.1)) } a w'.heap:=by
   refine⟨Rl.size,Rl.AZ,Rl.CW,by simpa using Rl.n,λt v hv=>(Rl.Be t v hv).mono P1 hs (by simp) (by simp),λs' cs' Db=>(Rl.j4 s' cs' Db).mono P1 hs (by simp) (by simp),λi' ob hi=>?_,λb o' QS=>Rl.fresh b o' (by rw[<- S.size];exact QS)⟩;by_cases Ce:i=i'
   ·subst Ce;simp only[z2q Ig,D8]at hi;subst hi;simp only[RO];obtain⟨c',Im,e2',e3'⟩:=S.ex;refine⟨c',TT,f,Im,by rw[zyq];exact b2,by rw[e2'];exact b2',b3,b4,λj d' Eo=>(b5 j d' Eo).mono hs,λj d' Eo=>?_⟩;by_cases hj:idx-pre.length=j
    ·subst hj;rw[z2q uh]at Eo;simp only[D8]at Eo;subst Eo;have e4:pre.length+(idx-pre.length)=idx:=by omega
     refine⟨(a.eval v).cells.toList,by simp;omega,λy q hq=>?_,hRC.mono hs⟩;have hy:y<sz':=by have:=(z0q.1 hq).1;simp at this;omega
     rw[e4,e3',A9 (by simp;omega),<- hq];congr 1;omega
    ·rw[z1q hj]at Eo;obtain⟨us,u1,u2,u3⟩:=b6 j d' Eo;refine⟨us,u1,λy q hq=>?_,u3.mono hs⟩;have hy:y<sz':=by have:=(z0q.1 hq).1;omega
     rw[e3',A7,u2 y q hq];rintro⟨c1,c2⟩;simp at c2;have:=A1T (sz:=sz') (i:=idx) (i':=pre.length+j) (j:=(pre.length+j) * sz'+y-idx * sz') (j':=y) (by omega) hy (by omega);omega
   ·simp only[z1q Ce]at hi;exact(Rl.U5 i' ob hi).mono P1 hs (CE Rl hi) (by simp;exact λh=>Ce h.symm) (by simp)
  exact OG (Ja F7 (by rw[e1.2]) hw) (T E _ _ w' H9 (R1.put λt0 _=>uq t0) (P1.j6 (by rintro T rfl;simp[P8])) S.out)
 ·-- an element of a vector
  rename_i i n sz idx off hm;rw[hm]at e1;simp only[RR,M4]at e1;obtain⟨p,hp,H⟩:=D6 H;obtain⟨d,hd,H⟩:=D6 H;obtain⟨Cz,H⟩:=H6 H;have hp:=Zu hp;have Cz:p.1=sz:=by simpa using Cz
  rw[Cz]at hp;obtain⟨-,-,-,eb,ep,ev,ex⟩:=e1;have B:=Rl.U5 i _ hp;simp only[RO]at B;obtain⟨rfl,rfl⟩:=ex B.1;split at H
  ·obtain⟨xs,H,hl,Ak⟩:=Za hz e2 H;obtain⟨e,he,H9⟩:=D6 H;obtain⟨w',hw,R1,P1,ho⟩:=A4j (P:=C.P) hz Rl hp hd (v:=a.eval v) (by have:=Ak.1;simp at this;omega) (xs:=xs) (by have:=Ak.1;simpa using this) (λj r' v' hr hv=>let⟨q1,q2⟩:=Ak.2 j r' v' hr hv;⟨q1.1,q1.2.1,q1.2.2.2⟩) he;exact OG (Ja F7 ev hw) (T E _ _ w' H9 (R1.put λt0 _=>uq t0) (P1.j6 (by rintro T rfl;simp[P8])) ho)
  ·rename_i ut;have oF:=Hq (by simpa using ut);obtain⟨cc,H,hmm,Ak⟩:=Xv e2 H;obtain⟨e,he,H9⟩:=D6 H;have YN:=cells_one Ak.2.1;obtain⟨w',hw,R1,P1,ho⟩:=A4j (P:=C.P) hz Rl hp hd (v:=a.eval v) (by rw[YN,oF];rfl) (xs:=[cc]) (by rw[YN];rfl) (λj r' v' hr hv=>by
    rw[YN]at hv;cases j with
    |succ j=>simp at hr
    |zero=>
      have AV:r'=cc:=by simpa using hr.symm
      have Pf:v'=a.eval v:=by simpa using hv.symm
      rw[AV,Pf];exact⟨Ak.1,Ak.2.1,Ak.2.2.2⟩) he
   exact OG (Ja F7 ev hw) (T E _ _ w' H9 (R1.put λt0 _=>uq t0) (P1.j6 (by rintro T rfl;simp[P8])) ho)
 ·simp at H
end
end
section
variable {P:Program}{t:TypeId}
def uz{q:Bool×TypeId}(h:mapKeys P t=some q):∃kt,P.underlying t=some (.map kt q.2)/\((q.1=false/\P.underlying kt=some (.int .i64))\/(q.1=true/\P.underlying kt=some .string)):=by
 unfold mapKeys at h;split at h
 ·rename_i kt et hu;split at h<;>simp only[D8,reduceCtorEq]at h<;>subst h
  ·exact⟨kt,hu,.inl ⟨rfl,‹_›⟩⟩
  ·exact⟨kt,hu,.inr ⟨rfl,‹_›⟩⟩
 ·simp at h
def B35(a b:ByteArray):(a.toList==b.toList)=(a==b):=(beq_toListBytes a b).symm
variable {kd:TypeDesc}
def A8L{S:AY}{h:Heap}{ks:Bool}(hk:(ks=false/\kd=.int .i64)\/(ks=true/\kd=.string)){d e:DV}{v u:Value}(hd:Z4 ks d=true)(he:Z4 ks e=true)(rv:RV S h d v)(ru:RV S h e u):
 Instr.sameNow kd v u=some (FV d e)/\(FV d e=true->v=u/\d=e):=by
 rcases hk with⟨rfl,rfl⟩ | ⟨rfl,rfl⟩
 ·cases d<;>simp only[Z4,z7q,ydq,zVq,beq_iff_eq]at hd;cases e<;>simp only[Z4,z7q,ydq,zVq,beq_iff_eq]at he;rw[CO]at rv ru;subst rv ru hd he;refine⟨by simp[Instr.sameNow,FV],λhq=>?_⟩;simp only[FV,beq_iff_eq]at hq;subst hq;exact⟨rfl,rfl⟩
 ·cases d<;>simp only[Z4,z7q,yiq,yeq]at hd;cases e<;>simp only[Z4,z7q,yiq,yeq]at he;rw[Xt]at rv ru;subst rv ru;rename_i p q;refine⟨?_,λhq=>?_⟩
  ·simp only[Instr.sameNow,FV,B35]
  ·simp only[FV,beq_iff_eq,ByteArray.toList_eq]at hq;have uk:p=q:=by obtain⟨⟨p⟩⟩:=p;obtain⟨⟨q⟩⟩:=q;simpa using hq
   subst uk;exact⟨rfl,rfl⟩
def nL{S:AY}{h:Heap}{ks:Bool}{kd:TypeDesc}(hk:(ks=false/\kd=.int .i64)\/(ks=true/\kd=.string)){d:DV}{v:Value}(hd:Z4 ks d=true)(rv:RV S h d v)(val:DV):∀(es:List (DV×DV))(l:List MapEntry)(i:Nat),
 es.length=l.length->(∀(j:Nat) e n,es[j]?=some e->l[j]?=some n->Z4 ks e.1=true/\RV S h e.1 n.key/\RV S h e.2 n.val)->
 (Instr.findNow kd v l i=some none/\V7 es d=none/\Bb es d val=es++[(d,val)]) \/
 ∃j e n,es[j]?=some e/\l[j]?=some n/\Instr.findNow kd v l i=some (some (i+j,n.val))/\V7 es d=some e.2/\Bb es d val=es.set j (e.1,val)/\n.key=v/\e.1=d
 |[],[],i,_,_=>.inl ⟨rfl,rfl,rfl⟩
 |[],_::_,_,hl,_=>by simp at hl
 |_::_,[],_,hl,_=>by simp at hl
 |e::es,n::l,i,hl,bQ=>by
   obtain⟨k1,k2,k3⟩:=bQ 0 e n rfl rfl;obtain⟨s1,s2⟩:=A8L hk hd k1 rv k2;cases hq:FV d e.1 with
   |true=>rw[hq]at s1;obtain⟨q1,q2⟩:=s2 hq;exact .inr ⟨0,e,n,rfl,rfl,by simp[Instr.findNow,s1],by simp[V7,hq],by simp[Bb,hq],q1.symm,q2.symm⟩
   |false=>
     rw[hq]at s1;have ih:=nL hk hd rv val es l (i+1) (by simpa using hl) (λj e' n' h1 h2=>bQ (j+1) e' n' (by simpa using h1) (by simpa using h2));have f1:Instr.findNow kd v (n::l) i=Instr.findNow kd v l (i+1):=by simp[Instr.findNow,s1]
     have f2:V7 (e::es) d=V7 es d:=by simp[V7,hq]
     have f3:Bb (e::es) d val=e::Bb es d val:=by simp[Bb,hq]
     rcases ih with⟨g1,g2,g3⟩ | ⟨j,e',n',g1,g2,g3,g4,g5,g6,g7⟩
     ·exact .inl ⟨by rw[f1,g1],by rw[f2,g2],by rw[f3,g3];rfl⟩
     ·refine .inr ⟨j+1,e',n',by simpa using g1,by simpa using g2,by rw[f1,g3];congr 3;omega,by rw[f2,g4],by rw[f3,g5];rfl,g6,g7⟩
theorem run_checkKey{kt:TypeId}(hu:P.underlying kt=some kd)(hk:kd=.int .i64\/kd=.string)(b:Bool)(v:Value)(n:Nat)(w:World):(Instr.checkKey b (n+1) kt v).run P w=.ok () w:=by unfold Instr.checkKey;simp only[Sem.run_bind,run_underlying hu,Result.andThen_ok];rcases hk with rfl | rfl<;>rfl
section
variable {X:Type}{C:BQ}{R:O8}{o:Oper}{st:St}{k:St->Option X}{x:X}{E:Env}{a:Act}{w:World}{K:Act->World->Prop}{Q:Exit->Act->World->Prop}
def B1z{y v:Operand}{ok:Bool}(F7:o.op=.lookup t y v ok)(H:(ob (src C.P t st y) λr=>ob (src C.P 0 st v) λkey=>ob (mapKeys C.P t) λq=>
 ob (A0x C.P q.2) λze=>
  og (Z4 q.1 key.1&&K6 key.2)
   (match r.2 with
     |.map i=>ob (Q5 st.sg i) λp=>og (p.1==q.1)
       (if ok then k (st.put o.dst (.J6 [(V7 p.2 key.1).getD ze,.bool (V7 p.2 key.1).isSome]) .val)
       else k (st.put o.dst ((V7 p.2 key.1).getD ze) .val))
     |_=>none))=some x)(Rl:L6 E st a w.heap)(T:Then E w k x K):Gp C.P o a w K:=by
 obtain⟨r,h1,H⟩:=D6 H;obtain⟨key,h2,H⟩:=D6 H;obtain⟨q,hq,H⟩:=D6 H;obtain⟨ze,OU,H⟩:=D6 H;obtain⟨hc,H⟩:=H6 H;simp only[zaq]at hc;obtain⟨bU,hkd⟩:=hc;have e1:=Rl.src h1;have e2:=(Rl.src h2).data hkd;split at H
 ·rename_i i hm;rw[hm]at e1;simp only[RR,M4]at e1;obtain⟨p,hp,H⟩:=D6 H;obtain⟨uk,H⟩:=H6 H;have uk:p.1=q.1:=by simpa using uk
  have hp:=A1V hp;rw[uk]at hp;obtain⟨ens,clk,b1,b2,⟨b3,b4⟩,-⟩:=Rl.U5 i _ hp;obtain⟨kt,hu,bV⟩:=uz hq;unfold A0x at OU;obtain⟨inf,Am,OU⟩:=D6 OU;obtain⟨zv,Ro,OU⟩:=D6 OU;have hz0:RV E.S w.heap ze zv:=by
   split at OU
   ·obtain⟨ts,h1,OU⟩:=D6 OU;obtain⟨rs,h2,OU⟩:=D6 OU;obtain⟨hd,OU⟩:=H6 OU;simp only[D8]at OU;subst OU;exact A3i h2 hd
   ·obtain⟨zr,hzr,OU⟩:=D6 OU;obtain⟨hzd,OU⟩:=H6 OU;simp only[D8]at OU;rw[<- OU];exact(A0Z (E:=E) (h:=w.heap) hzr 0 0).data hzd
  have iZ:∃kd,C.P.underlying kt=some kd/\((q.1=false/\kd=.int .i64)\/(q.1=true/\kd=.string)):=by
   rcases bV with⟨h3,h4⟩ | ⟨h3,h4⟩
   ·exact⟨_,h4,.inl ⟨h3,rfl⟩⟩
   ·exact⟨_,h4,.inr ⟨h3,rfl⟩⟩
  obtain⟨kd,hku,iZ⟩:=iZ;have F:=nL iZ bU e2 .undef p.2 ens.toList 0 (by simpa using b3) (λj e n g1 g2=>b4 j e n g1 (by simpa using g2));have fin:∀(d:DV)(vv:Value)(bb:Bool),(V7 p.2 key.1).getD ze=d->(V7 p.2 key.1).isSome=bb->RV E.S w.heap d vv->(Instr.lookup t (a.eval y) (a.eval v) ok).run C.P w=.ok (if ok then .tuple #[vv,.bool bb]else vv) w->Gp C.P o a w K:=by
   intro d vv bb hd hb hR V4;rw[hd,hb]at H;have A5f:(execOp a.eval o).run C.P w=.ok (.value (if ok then .tuple #[vv,.bool bb]else vv)) w:=by simp only[execOp,F7];exact CL V4
   cases ok with
   |true=>
     simp only[F6]at H A5f;refine Ag A5f H Rl ?_ @T;simp only[RV];exact⟨_,rfl,Wh.2 ⟨by simp,λi d' v' g1 g2=>by
      match i with
      |0=>simp at g1 g2;subst g1 g2;exact hR
      |1=>simp at g1 g2;subst g1 g2;rw[Ob]
      |n+2=>simp at g1⟩⟩
   |false=>simp only[z7q,G9]at H A5f;exact Ag A5f H Rl hR @T
  have hgo:(getObj (E.obj i)).run C.P w=.ok (.map ens clk) w:=by simp[getObj,Sem.run,b1]
  have A6E:kd=.int .i64\/kd=.string:=by rcases iZ with h3 | h3<;>simp[h3.2]
  rcases F with⟨g1,g2,-⟩ | ⟨j,e,n,g0,g0',g1,g2,-,-,-⟩
  ·refine fin ze zv false (by rw[g2];rfl) (by rw[g2];rfl) hz0 ?_;unfold Instr.lookup;rw[e1.2];have B9B:(zeroValue q.2).run C.P w=.ok zv w:=by simp[zeroValue,typeInfo,Am,Ro]
   simp only[Sem.run_bind,run_underlying hu,Result.andThen_ok,hgo,Sem.run_pure,run_checkKey hku A6E,Instr.findKey,run_underlying hku,g1,B9B]
  ·obtain⟨-,-,rv⟩:=b4 j e n g0 (by simpa using g0');refine fin e.2 n.val true (by rw[g2];rfl) (by rw[g2];rfl) rv ?_;unfold Instr.lookup;rw[e1.2];simp only[Sem.run_bind,run_underlying hu,Result.andThen_ok,hgo,Sem.run_pure,run_checkKey hku A6E,Instr.findKey,run_underlying hku,g1]
 ·simp at H
def A1D{α : Type}(xs:Array α)(j i:Nat)(f : α -> α):(xs.modify j f)[i]?=if j=i then xs[i]?.map f else xs[i]?:=by rw[y4q]
variable {ens:Array MapEntry}{clk:Nat}
def gL.push(h:gL ens clk)(e:MapEntry)(he:e.born=clk):gL (ens.push e) (clk+1):=by
 refine⟨λj n hn=>?_,λi j m n hm hn hb=>?_⟩
 ·rw[zHq]at hn;split at hn
  ·simp only[D8]at hn;subst hn;omega
  ·have:=h.1 j n hn;omega
 ·rw[zHq]at hm hn;split at hm<;>split at hn
  ·omega
  ·simp only[D8]at hm;subst hm;have:=h.1 j n hn;omega
  ·simp only[D8]at hn;subst hn;have:=h.1 i m hm;omega
  ·exact h.2 i j m n hm hn hb
def gL.modify(h:gL ens clk)(j:Nat){f:MapEntry->MapEntry}(hf:∀e,(f e).born=e.born):gL (ens.modify j f) clk:=by
 have key:∀(i:Nat) n,(ens.modify j f)[i]?=some n->∃m,ens[i]?=some m/\m.born=n.born:=by
  intro i n hn;rw[A1D]at hn;split at hn
  ·cases hm:ens[i]? with
   |none=>rw[hm]at hn;cases hn
   |some m=>rw[hm]at hn;simp only[yjq,D8]at hn;subst hn;exact⟨m,rfl,(hf m).symm⟩
  ·exact⟨n,hn,rfl⟩
 refine⟨λi n hn=>?_,λi k m n hm hn hb=>?_⟩
 ·obtain⟨m,h1,h2⟩:=key i n hn;have:=h.1 i m h1;omega
 ·obtain⟨m',h1,h2⟩:=key i m hm;obtain⟨n',h3,h4⟩:=key k n hn;exact h.2 i k m' n' h1 h3 (by omega)
def A4V{y v u:Operand}(F7:o.op=.mapUpdate t y v u)(H:(ob (src C.P t st y) λr=>ob (src C.P 0 st v) λkey=>ob (src C.P 0 st u) λval=>ob (mapKeys C.P t) λq=>
 og (Z4 q.1 key.1&&K6 key.2&&K6 val.2)
  (match r.2 with
    |.map i=>ob (Q5 st.sg i) λp=>og (p.1==q.1) (k ({ st with sg:=st.sg.set i (.map q.1 (Bb p.2 key.1 val.1)) }.put o.dst (.J6 []) .val))
    |_=>none))=some x)(Rl:L6 E st a w.heap)(T:Then E w k x K):Gp C.P o a w K:=by
 obtain⟨r,h1,H⟩:=D6 H;obtain⟨key,h2,H⟩:=D6 H;obtain⟨val,h3,H⟩:=D6 H;obtain⟨q,hq,H⟩:=D6 H;obtain⟨hc,H⟩:=H6 H;simp only[zaq]at hc;obtain⟨⟨bU,hkd⟩,hvd⟩:=hc;have e1:=Rl.src h1;have e2:=(Rl.src h2).data hkd;have e3:=(Rl.src h3).data hvd;split at H
 ·rename_i i hm;rw[hm]at e1;simp only[RR,M4]at e1;obtain⟨p,hp,H⟩:=D6 H;obtain⟨uk,H⟩:=H6 H;have uk:p.1=q.1:=by simpa using uk
  have hp:=A1V hp;rw[uk]at hp;obtain⟨ens,clk,b1,b2,⟨b3,b4⟩,b5⟩:=Rl.U5 i _ hp;obtain⟨kt,hu,bV⟩:=uz hq;have iZ:∃kd,C.P.underlying kt=some kd/\((q.1=false/\kd=.int .i64)\/(q.1=true/\kd=.string)):=by
   rcases bV with⟨h3,h4⟩ | ⟨h3,h4⟩
   ·exact⟨_,h4,.inl ⟨h3,rfl⟩⟩
   ·exact⟨_,h4,.inr ⟨h3,rfl⟩⟩
  obtain⟨kd,hku,iZ⟩:=iZ;have A6E:kd=.int .i64\/kd=.string:=by rcases iZ with h3 | h3<;>simp[h3.2]
  have F:=nL iZ bU e2 val.1 p.2 ens.toList 0 (by simpa using b3) (λj e n g1 g2=>b4 j e n g1 (by simpa using g2));have hgo:(getObj (E.obj i)).run C.P w=.ok (.map ens clk) w:=by simp[getObj,Sem.run,b1]
  have B4u:E.obj i<w.heap.size:=(zdq.1 b1).1;have Ig:=(z0q.1 hp).1;have fin:∀(ens':Array MapEntry)(clk':Nat),B7y E.S w.heap q.1 (Bb p.2 key.1 val.1) ens'->gL ens' clk'->(Instr.mapUpdate t (a.eval y) (a.eval v) (a.eval u)).run C.P w=.ok () { w with heap:=w.heap.setIfInBounds (E.obj i) (.map ens' clk') }->Gp C.P o a w K:=by
   intro ens' clk' hR hB V4;have B0S:(w.heap.setIfInBounds (E.obj i) (.map ens' clk'))[E.obj i]?=some (.map ens' clk'):=ziq B4u;have hold:∀b,b≠E.obj i->(w.heap.setIfInBounds (E.obj i) (.map ens' clk'))[b]?=w.heap[b]?:=λb hb=>zjq (Ne.symm hb);have P1:Pr (λt=>t=.obj i) E w.heap E (w.heap.setIfInBounds (E.obj i) (.map ens' clk')):=by
    refine⟨by simp,λb hb=>?_,λ_ _ _ _=>rfl,zbq _,λ_ _ _=>⟨rfl,rfl,rfl⟩,λ_ _=>rfl,EA rfl⟩;by_cases VM:b=E.obj i
    ·subst VM;rw[b1];intro h0;exact absurd (b2 0) h0
    ·rw[hold b VM];exact X4.refl _ _
   have hs:=P1.Q8 (by simp) Rl.fresh;have R1:L6 E { st with sg:=st.sg.set i (.map q.1 (Bb p.2 key.1 val.1)) } a (w.heap.setIfInBounds (E.obj i) (.map ens' clk')):=by
    refine⟨Rl.size,Rl.AZ,Rl.CW,by simpa using Rl.n,λt v hv=>(Rl.Be t v hv).mono P1 hs (by simp) (by simp),λs' cs' Db=>(Rl.j4 s' cs' Db).mono P1 hs (by simp) (by simp),λi' ob hi=>?_,λb o' QS=>Rl.fresh b o' (by simpa using QS)⟩;by_cases Ce:i=i'
    ·subst Ce;simp only[z2q Ig,D8]at hi;subst hi;refine⟨ens',clk',B0S,b2,⟨hR.1,λj e n g1 g2=>?_⟩,hB⟩;obtain⟨c1,c2,c3⟩:=hR.2 j e n g1 g2;exact⟨c1,c2.mono hs,c3.mono hs⟩
    ·simp only[z1q Ce]at hi;exact(Rl.U5 i' ob hi).mono P1 hs (CE Rl hi) (by simp;exact λh=>Ce h.symm) (by simp)
   refine OG (w':={ w with heap:=w.heap.setIfInBounds (E.obj i) (.map ens' clk') }) ?_ (T E _ _ { w with heap:=w.heap.setIfInBounds (E.obj i) (.map ens' clk') } H (R1.put λt0 _=>?_) (P1.j6 (by rintro T rfl;simp[P8])))
   ·simp only[execOp,F7]
    exact B51 V4
   ·simp only[RR,M4,RV]
    exact⟨#[],rfl,by simp[SH]⟩
  have B8f:∀(ens':Array MapEntry)(clk':Nat),(setObj (E.obj i) (.map ens' clk')).run C.P w=.ok () { w with heap:=w.heap.setIfInBounds (E.obj i) (.map ens' clk') }:=by intro ens' clk';simp[setObj,Sem.run,b1]
  rcases F with⟨g1,g2,g3⟩ | ⟨j,e,n,g0,g0',g1,g2,g3,g4,g5⟩
  ·refine fin (ens.push { key:=a.eval v,val:=a.eval u,born:=clk }) (clk+1) ?_ (b5.push _ rfl) ?_
   ·rw[g3];refine⟨by simp[b3],λj e n h1 h2=>?_⟩;by_cases hj:j<p.2.length
    ·rw[z4q hj]at h1;rw[zHq,A7 (by omega)]at h2;exact b4 j e n h1 h2
    ·have hj1:j=p.2.length:=by have:=(z0q.1 h1).1;simp at this;omega
     subst hj1;rw[z6q (zbq _)]at h1;simp only[y0q,zgq,D8]at h1;rw[zHq,A9 b3]at h2;simp only[D8]at h2;subst h1 h2;exact⟨bU,e2,e3⟩
   ·unfold Instr.mapUpdate;rw[e1.2];simp only[Sem.run_bind,run_underlying hu,Result.andThen_ok,hgo,run_checkKey hku A6E,Instr.findKey,run_underlying hku,g1,Sem.run_pure];exact B8f _ _
  ·have bT:j<ens.size:=by have:=(z0q.1 g0').1;simpa using this
   have hn:ens[j]?=some n:=by simpa using g0'
   refine fin (ens.modify j λe=>{ e with key:=a.eval v,val:=a.eval u }) clk ?_ (b5.modify j λ_=>rfl) ?_
   ·rw[g3];refine⟨by simp[b3],λj' e' n' h1 h2=>?_⟩;rw[A1D]at h2;by_cases hjj:j=j'
    ·subst hjj;rw[A9 rfl,hn]at h2;simp only[yjq,D8]at h2;rw[z2q (z0q.1 g0).1]at h1;simp only[D8]at h1;subst h1 h2;exact⟨by rw[g5];exact bU,by rw[g5];exact e2,e3⟩
    ·rw[A7 hjj]at h2;rw[z1q hjj]at h1;exact b4 j' e' n' h1 h2
   ·unfold Instr.mapUpdate;rw[e1.2];have B9A:(Instr.keyThatStays n.key (a.eval v)).run C.P w=.ok (a.eval v) w:=by
     unfold Instr.keyThatStays;have:Instr.sameBits 10000 n.key (a.eval v)=true:=by
      rw[g4];rcases iZ with⟨h3,-⟩ | ⟨h3,-⟩
      ·rw[h3]at bU;cases hk1:key.1<;>rw[hk1]at bU e2<;>simp only[Z4,z7q,ydq,zVq]at bU;rw[CO]at e2;rw[e2];simp[Instr.sameBits]
      ·rw[h3]at bU;cases hk1:key.1<;>rw[hk1]at bU e2<;>simp only[Z4,z7q,yiq,yeq]at bU;rw[Xt]at e2;rw[e2];simp only[Instr.sameBits];rw[beq_toListBytes];simp
     rw[A9 this];rfl
    simp only[Sem.run_bind,run_underlying hu,Result.andThen_ok,hgo,run_checkKey hku A6E,Instr.findKey,run_underlying hku,g1,Sem.run_pure,zfq,hn,yjq,zsq,B9A];exact B8f _ _
 ·simp at H
def L6.qB(Rl:L6 E st a w.heap){t i:Nat}{ms:List F4}(hm:(st.get t).2=.Cg ms)(bW:ms[i]?=some .own)(P6:t<st.mt.length){f:Tag->Tag}(hf:∀T,T ≠ .sp 0 t (i+1)->f T=T):
 L6 (E.re f) { st with mt:=st.mt.set t (.Cg (ms.set i .val)) } a w.heap:=by
 have G_:f .Q8=.Q8:=hf _ (by simp);have QV:f .other=.other:=hf _ (by simp);have P:Pr (λT=>T=.sp 0 t (i+1)) E w.heap (E.re f) w.heap:=Pr.re λT hT=>hf T hT;have J4:AJ E.S w.heap (E.re f).S w.heap:=Lb G_;refine⟨Rl.size,by simpa using Rl.AZ,Rl.CW,Rl.n,λu v hu=>?_,λs cs hs=>(Rl.j4 s cs hs).mono P J4 (by simp) (by simp),λj ob hj=>(Rl.U5 j ob hj).mono P J4 (CE Rl hj) (by simp) (by simp),λb o hb=>?_⟩
 ·have h0:=Rl.Be u v hu;by_cases hut:t=u
  ·subst hut;have hg:St.get { st with mt:=st.mt.set t (.Cg (ms.set i .val)) } t=((st.get t).1,.Cg (ms.set i .val)):=by simp[St.get,z3q,z2q P6]
   rw[hg];rw[hm]at h0;simp only[RR]at h0 ⊢;obtain⟨ds,vs,h1,h2,h3,h4,h5⟩:=h0;refine⟨ds,vs,h1,h2,by simpa using h3,by simpa using h4,λj m' d' u' e1 e2 e3=>?_⟩;by_cases hj:i=j
   ·subst hj;have hil:i<ms.length:=by have:=(z0q.1 e1).1;simpa using this
    rw[z2q hil]at e1;simp only[D8]at e1;subst e1;obtain⟨a0,a4⟩:=h5 i _ d' u' bW e2 e3;exact⟨rfl,RV.mono J4 _ a4.1⟩
   ·rw[z1q hj]at e1;obtain⟨a0,a4⟩:=h5 j m' d' u' e1 e2 e3;exact⟨a0,a4.re G_ (hf _ (by simp;exact λh=>hj h.symm))⟩
  ·have hg:St.get { st with mt:=st.mt.set t (.Cg (ms.set i .val)) } u=st.get u:=by simp[St.get,z3q,z1q hut]
   rw[hg];exact h0.re G_ QV λb=>hf _ (by simp;intro h;exact absurd h.symm hut)
 ·simp only[Env.re];rw[Rl.fresh b o hb,QV]
def A8O{fl:H8}{y:Operand}{i:Nat}(F7:o.op=.extract y i)(H:(ob (src C.P 0 st y) λr=>
 match r.2 with
 |.val=>ob (Q0 i r.1) λd=>k (st.put o.dst d .val)
 |.Cg ms=>ob (Q0 i r.1) λd=>
   match ms.getD i .val with
   |.own=>if I8 fl.Q4 o.dst then k ((st.qB y (.Cg (ms.set i .val))).put o.dst d .own)else k (st.put o.dst d .val)
   |.val=>k (st.put o.dst d .val)
   |_=>none
 |_=>none)=some x)(Rl:L6 E st a w.heap)(T:Then E w k x K):Gp C.P o a w K:=by
 obtain⟨r,h1,H⟩:=D6 H;split at H
 ·rename_i hm;obtain⟨d,hd,H⟩:=D6 H;exact B61 F7 h1 hm hd rfl H Rl @T
 ·rename_i ms hm;obtain⟨d,hd,H⟩:=D6 H;have e1:=Rl.src h1;rw[hm]at e1;simp only[RR]at e1;obtain⟨ds,vs,hr,hv,l1,l2,l3⟩:=e1;obtain⟨cs,AV,hdi⟩:=A3r hd;rw[hr]at AV;simp only[DV.J6.injEq]at AV;subst AV;have hi:i<ds.length:=(z0q.1 hdi).1;have hmi:ms[i]?=some (ms.getD i .val):=by simp[z3q,z5q (by omega:i<ms.length)]
  have hvi:vs[i]?=some (vs[i]'(by omega)):=zEq (by omega);obtain⟨a0,a4⟩:=l3 i _ d _ hmi hdi hvi;have V4:(execOp a.eval o).run C.P w=.ok (.value (vs[i]'(by omega))) w:=by simp only[execOp,F7];refine CL ?_;simp only[Instr.extract,hv,hvi,Sem.run_pure]
  split at H
  ·rename_i hmo;rw[hmo]at a4;by_cases R8:I8 fl.Q4 o.dst=true
   ·rw[A9 R8]at H;have H2:=H;clear H;have hy:∃t,y=.tmp t:=by
     cases y with
     |tmp t=>exact⟨t,rfl⟩
     |const v=>exact absurd hm (λh=>(eG h1).2 ms h)
     |func f=>simp only[src,D8]at h1;subst h1;simp at hm
     |global g=>simp[src]at h1
    obtain⟨t,rfl⟩:=hy;simp only[src,D8]at h1;subst h1;simp only[fo]at a4;cases EO:o.dst with
    |none=>rw[EO]at R8;simp[I8]at R8
    |some t0=>
      rw[EO]at H2;refine Au V4 ?_;rw[EO];have htl:t<st.mt.length:=by
       rcases zuq t st.mt.length with h1 | h1
       ·exact h1
       ·rw[YK (by rw[<- Rl.AZ];exact h1) Rl.AZ]at hm;simp at hm
      refine T (E.re (Qz (.sp 0 t (i+1)) t0)) _ _ w H2 ((Rl.qB hm (by rw[hmi,hmo]) htl λT hT=>JH hT).put λt1 ht=>?_) (Pr.re λT hT=>JH λhe=>hT (by rw[he];simp[P8]));simp only[D8]at ht;subst ht;exact RR.AL (a4.re (JH (by simp)) (by simp[Qz]))
   ·rw[A7 R8]at H;exact Ag V4 H Rl a4.1 @T
  ·rename_i hmo;rw[hmo]at a4;exact Ag V4 H Rl a4 @T
  ·simp at H
 ·simp at H
end
end
section
def Ij(S:AY)(h:Heap)(sz:Nat)(ds:List DV)(all:List Value):Prop :=all.length=ds.length * sz/\∀(i:Nat) d,ds[i]?=some d->∃vs:List Value,vs.length=sz/\(∀(j:Nat) u,vs[j]?=some u->all[i * sz+j]?=some u)/\RC S h d vs
variable {S:AY}{h:Heap}{sz:Nat}{ds:List DV}{all:List Value}
def Ij.mono{S':AY}{h':Heap}(J4:AJ S h S' h')(H:Ij S h sz ds all):Ij S' h' sz ds all :=⟨H.1,λi d hd=>let⟨vs,v1,v2,v3⟩:=H.2 i d hd;⟨vs,v1,v2,v3.mono J4⟩⟩
def qc{S:AY}{h:Heap}{sz b:Nat}:∀{ds:List DV}{o:Nat},El S h sz b o ds->∃all,Ij S h sz ds all/\∀(j:Nat) u,all[j]?=some u->hc h b (o+j)=some u/\S b (o+j)
 |[],o,_=>⟨[],⟨by simp,by simp⟩,by simp⟩
 |d::ds,o,H=>by
   simp only[El]at H;obtain⟨⟨vs,v1,v2,v3⟩,H⟩:=H;obtain⟨all,⟨l1,l2⟩,l3⟩:=qc H;refine⟨vs++all,⟨by simp[l1,v1,zAq];omega,λi d' hd=>?_⟩,λj u hu=>?_⟩
   ·cases i with
    |zero=>simp only[zgq,D8]at hd;subst hd;refine⟨vs,v1,λj u hu=>?_,v3⟩;rw[zKq,zfq,z4q (z0q.1 hu).1];exact hu
    |succ i=>simp only[zrq]at hd;obtain⟨us,u1,u2,u3⟩:=l2 i d' hd;refine⟨us,u1,λj u hu=>?_,u3⟩;rw[z6q (by rw[v1,zAq];omega),v1];rw[show(i+1) * sz+j-sz=i * sz+j from by rw[zAq];omega];exact u2 j u hu
   ·by_cases hj:j<vs.length
    ·rw[z4q hj]at hu;exact v2 j u hu
    ·rw[z6q (by omega)]at hu;have:=l3 _ u hu
     rwa [show o+sz+(j-vs.length)=o+j from by omega]at this
def TA{b o:Nat}(H:Ij S h sz ds all)(hc:∀(j:Nat) u,all[j]?=some u->Su.hc h b (o+j)=some u/\S b (o+j)):El S h sz b o ds:=by
 refine EW.2 λi d hd=>?_;obtain⟨vs,v1,v2,v3⟩:=H.2 i d hd;refine⟨vs,v1,λj u hu=>?_,v3⟩;have:=hc _ u (v2 j u hu)
 rwa [<- zQq]at this
def Ij.append{es:List DV}{A B:List Value}(H:Ij S h sz ds A)(G:Ij S h sz es B):Ij S h sz (ds++es) (A++B):=by
 refine⟨by simp[H.1,G.1,zqq],λi d hd=>?_⟩;by_cases hi:i<ds.length
 ·rw[z4q hi]at hd;obtain⟨vs,v1,v2,v3⟩:=H.2 i d hd;refine⟨vs,v1,λj u hu=>?_,v3⟩;have hj:j<sz:=by have:=(z0q.1 hu).1;omega
  have:=seg_lt hi hj;rw[z4q (by rw[H.1];exact this)];exact v2 j u hu
 ·rw[z6q (by omega)]at hd;obtain⟨vs,v1,v2,v3⟩:=G.2 _ d hd;refine⟨vs,v1,λj u hu=>?_,v3⟩;have e:i * sz+j=ds.length * sz+((i-ds.length) * sz+j):=by rw[<- zQq,<- zqq];congr 2;omega
  rw[e,<- H.1,z6q (by omega),Nat.add_sub_cancel_left];exact v2 j u hu
def Ij.one(hs:0<sz)(H:Ij S h sz ds all):∀u∈all,u.oneCell'=true:=by
 intro u hu;obtain⟨j,hj,ui⟩:=ztq.1 hu;have P6:j<ds.length * sz:=by rw[<- H.1];exact hj
 have hi:j / sz<ds.length:=(Nat.div_lt_iff_lt_mul hs).2 P6;obtain⟨vs,v1,v2,v3⟩:=H.2 (j / sz) _ (z5q hi);have hm:j % sz<vs.length:=by rw[v1];exact Nat.mod_lt _ hs
 have h1:=v2 (j % sz) _ (z5q hm);rw[Nat.mul_comm,Nat.div_add_mod,z5q hj,ui]at h1;simp only[D8]at h1;obtain⟨q1,q2⟩:=Oa v3 (z5q hm);rw[h1];exact Jm q1 q2
def A3G(n:Nat):∀(r c:Nat),c<n+1->Builtin.growBy n r c<=2 * n+192
 |0,c,h=>by simp[Builtin.growBy];omega
 |r+1,c,h=>by
   simp only[Builtin.growBy]
   split
   ·omega
   ·rename_i P6;by_cases h2:c+(c+768) / 4<n+1
    ·exact A3G n r _ h2
    ·cases r with
     |zero=>simp only[Builtin.growBy];omega
     |succ r=>simp only[Builtin.growBy];rw[A9 (by omega)];omega
def B09{need old:Nat}(h:old<need):Builtin.nextslicecap need old<=2 * need+192:=by
 unfold Builtin.nextslicecap;split
 ·omega
 ·split
  ·omega
  ·exact A3G need 4 old (by omega)
variable {P:Program}
def Ui{t u:TypeId}(h:wN P t u=some sz):∃e e' z i zv,P.underlying t=some (.slice e)/\P.underlying u=some (.slice e')/\tz P e=some z/\z.1=sz/\0<sz/\P.info? e=some i/\i.bytes<=2 ^ 14/\i.zero=some zv/\zv.cells.size=sz:=by
 unfold wN at h;obtain⟨e,he,h⟩:=D6 h;obtain⟨e',he',h⟩:=D6 h;obtain⟨z,hz,h⟩:=D6 h;obtain⟨i,hi,h⟩:=D6 h;obtain⟨zs,WT,h⟩:=D6 h;obtain⟨⟨h1,h2,h3⟩,h⟩:=M5 h;simp only[D8]at h;have ht:∀{t e:TypeId},JB P t=some e->P.underlying t=some (.slice e):=by
  intro t e he;unfold JB at he;split at he
  ·simp only[D8]at he;subst he;assumption
  ·simp at he
 obtain⟨inf,zv,Am,Ro,Ak⟩:=Xb WT;rw[hi]at Am;simp only[D8]at Am;subst Am;have:=(Ak ⟨λ_=>0,λ_=>0,λ_=>0,λ_=>0,λ_ _=>.other,0,λ_=>0⟩ #[]).1;simp only[yfq]at this;exact⟨e,e',z,i,zv,ht he,ht he',hz,h,by omega,hi,h2,Ro,by omega⟩
def B2a{d e r:DV}(h:Dh sz d e=some r):∃ds es,d=.list sz ds/\e=.list sz es/\ds.length+es.length<=R6/\r=.list sz (ds++es):=by
 unfold Dh at h;split at h
 ·obtain⟨⟨⟨h1,h2⟩,h3⟩,h⟩:=M5 h;simp only[D8]at h;subst h1 h2;exact⟨_,_,rfl,rfl,h3,h.symm⟩
 ·simp at h
def B6T(st:St)(t:Nat)(d d':DV)(m m':F4):(st.put (some t) d m).put (some t) d' m'=st.put (some t) d' m':=by simp[St.put,ynq]
def yF(a:Act)(t:Nat)(v v':Value):(a.put (some t) v).put (some t) v'=a.put (some t) v':=by
 have:(a.tmps.setIfInBounds t v).setIfInBounds t v'=a.tmps.setIfInBounds t v':=by
  apply Array.ext_getElem?;intro i;by_cases h:t=i
  ·subst h;by_cases hl:t<a.tmps.size
   ·rw[ziq (by simpa using hl),ziq hl]
   ·rw[y1q (by simpa using hl),y1q (by simpa using hl)]
  ·rw[zjq h,zjq h,zjq h]
 simp[Act.put,this]
section
variable {P:Program}{t u ty e e':TypeId}{inf:TypeInfo}{w:World}{b:Option Addr}{len cap n sz:Nat}{v:Value}{all':List Value}
theorem yh(b:Option Addr)(n c:Nat):Builtin.lenOf (.slice b n c)=pure n:=rfl
def A1R(hu:P.underlying t=some (.slice e))(Du:P.underlying u=some (.slice e'))(Am:P.info? e=some inf)(hn:Builtin.lenOf v=pure n)(hv:(Builtin.firstCells inf.size n v).run P w=.ok all'.toArray w)(BN:len+n<=cap):(Builtin.append_ #[t,u] ty #[.slice none len cap,v]).run P w=.ok (.slice none (len+n) cap) w:=by unfold Builtin.append_;simp[run_underlying hu,run_underlying Du,sizeOf,typeInfo,Am,hn,BN,hv]
def IY{y:Addr}{w':World}(hu:P.underlying t=some (.slice e))(Du:P.underlying u=some (.slice e'))(Am:P.info? e=some inf)(hn:Builtin.lenOf v=pure n)(hv:(Builtin.firstCells inf.size n v).run P w=.ok all'.toArray w)(BN:len+n<=cap)(R8:(storeCells (y.add (len * inf.size)) all').run P w=.ok () w'):(Builtin.append_ #[t,u] ty #[.slice (some y) len cap,v]).run P w=.ok (.slice (some y) (len+n) cap) w':=by unfold Builtin.append_;simp[run_underlying hu,run_underlying Du,sizeOf,typeInfo,Am,hn,BN,hv,R8]
def run_append_grow{zv:Value}(hu:P.underlying t=some (.slice e))(Du:P.underlying u=some (.slice e'))(Am:P.info? e=some inf)(hn:Builtin.lenOf v=pure n)(hv:∀w':World,w'.heap=w.heap->(Builtin.firstCells inf.size n v).run P w'=.ok all'.toArray w')(hs:∀w':World,w'.heap=w.heap->(Builtin.firstCells inf.size len (.slice b len cap)).run P w'=.ok all.toArray w')(Ro:inf.zero=some zv)(BN:¬len+n<=cap)(B2y:len+n<=4294967296)(hb:inf.bytes<=2 ^ 14):
 ∃nc,len+n<=nc/\(Builtin.append_ #[t,u] ty #[.slice b len cap,v]).run P w=.ok (.slice (some ⟨w.heap.size,0,none⟩) (len+n) nc) (w.drew.alloc (.cells (all++all'++(Builtin.zeroCells zv.cells (nc-(len+n))).toList).toArray e)):=by
 refine⟨(Question.appendCap (len+n) cap e).cut (w.tape w.drawn (Question.appendCap (len+n) cap e)),by simp only[Question.cut];omega,?_⟩;have A2G:Builtin.nextslicecap (len+n) cap * inf.bytes<=2 ^ 48:=by
  have h1:=B09 (need:=len+n) (old:=cap) (by omega)
  calc Builtin.nextslicecap (len+n) cap * inf.bytes<=(2 * 4294967296+192) * 2 ^ 14:=Nat.mul_le_mul (by omega) hb
   _<=2 ^ 48:=by decide
 have C02:¬(((len+n:Nat):Int)>IntKind.i64.max):=by rw[IntKind.max_i64];omega
 have B9s:¬(Builtin.nextslicecap (len+n) cap * inf.bytes>2 ^ 48):=by omega
 have q1:=hs w.drew rfl;have q2:=hv w.drew rfl;unfold Builtin.append_;have B9w:¬((9223372036854775807:Int)<(len:Int)+(n:Int)):=by omega
 simp[run_underlying hu,run_underlying Du,sizeOf,typeInfo,Am,hn,BN,B9w,B9s,Question.forced,q1,q2,zeroValue,Ro,newRow];refine congrArg (λz=>w.drew.alloc (.cells z e)) (Array.toList_inj.1 ?_);simp
end
section
variable {X:Type}{C:BQ}{R:O8}{o:Oper}{st:St}{k:St->Option X}{x:X}{E:Env}{a:Act}{w:World}{K:Act->World->Prop}{Q:Exit->Act->World->Prop}
def W_{b o':Nat}(H:∀(j:Nat) u,all[j]?=some u->hc w.heap b (o'+j)=some u):(loadCells ⟨b,o',none⟩ all.length).run P w=.ok all.toArray w:=by refine run_loadCells_list w _ all λj v hv=>?_;rw[Addr.add_lit,Me];exact H j v hv
theorem LH{v:Value}(H:RV S w.heap (.list sz ds) v):∃b len cap all,v=.slice b len cap/\len=ds.length/\len<=cap/\(b=none->cap=0)/\Ij S w.heap sz ds all /\
 (∀y,b=some y->(0<cap->y=⟨y.block,y.off,none⟩)/\∀(j:Nat) u,all[j]?=some u->hc w.heap y.block (y.off+j)=some u/\S y.block (y.off+j))/\(b=none->all=[]) /\
 ∀w':World,w'.heap=w.heap->(Builtin.firstCells sz len v).run P w'=.ok all.toArray w':=by
 obtain⟨b,len,cap,rfl,h1,h2,h3,h4,h5⟩:=Kg H;cases b with
 |none=>have h0:=h3 rfl;have ZH:ds=[]:=zhq (by omega);subst ZH;exact⟨none,len,cap,[],rfl,h1,h2,h3,⟨by simp,by simp⟩,by simp,λ_=>rfl,λw' _=>rfl⟩
 |some y=>
   obtain⟨s1,s2⟩:=h5 y rfl;obtain⟨all,f1,f2⟩:=qc s2;have hy:0<cap->y=⟨y.block,y.off,none⟩:=λhc=>by have s1:=s1 hc;cases y;simp only at s1;subst s1;rfl
   refine⟨some y,len,cap,all,rfl,h1,h2,h3,f1,λz hz=>?_,by simp,λw' hw=>?_⟩
   ·simp only[D8]at hz;subst hz;exact⟨hy,f2⟩
   ·have hl:len * sz=all.length:=by rw[f1.1,h1]
    show(loadCells y (len * sz)).run P w'=_;by_cases hc:0<cap
    ·rw[hl,hy hc];exact W_ (λj u hu=>by rw[hw];exact(f2 j u hu).1)
    ·have h0:len=0:=by omega
     have h9:all=[]:=zhq (by rw[<- hl,h0];simp);rw[h9,h0,zKq];rfl
def Env.XH(E:Env)(b lo hi:Nat):Env:={ E with O:=λb' o=>if b'=b/\lo<=o/\o<hi then .Q8 else E.O b' o }
def Env.newRow(E:Env)(b lo hi:Nat)(tg:Tag):Env:={ E with O:=λb' o=>if b'=b then(if o<lo then .Q8 else if o<hi then tg else .other)else E.O b' o }
def B1x{fl:H8}{c:Call}{y v:Operand}{t u:TypeId}(F7:o.op=.call c)(zm:c.callee=.builtin .append)(ha:c.args.toList=[y,v])(ht:c.argTypes.toList=[t,u])(fE:I8 fl.opn o.dst=false)(QU:I8 fl.Oy o.dst=false)(Ph:I8 fl.Dn o.dst=false)(H:D_ C fl o y v t u st k=some x)(Rl:L6 E st a w.heap)(T:Then E w k x K):Gp C.P o a w K:=by
 unfold D_ at H;rw[A7 (by rw[QU];simp),A7 (by rw[Ph];simp)]at H;obtain⟨r,h1,H⟩:=D6 H;obtain⟨s,h2,H⟩:=D6 H;obtain⟨sz,Cz,H⟩:=D6 H;obtain⟨hc,H⟩:=H6 H;rw[A7 (by rw[fE];simp)]at H;obtain⟨d,hd,H⟩:=D6 H;simp only[zaq]at hc;obtain⟨⟨Nk,VO⟩,EO⟩:=hc;obtain⟨t0,EO⟩:=zwq.1 EO;obtain⟨e,e',z,inf,zv,hu,Du,hz,Hq,hpos,Am,VN,Ro,WT⟩:=Ui Cz;obtain⟨ds,es,hr,hs,Yj,rfl⟩:=B2a hd;have e1:=Rl.src h1;have e2:=(Rl.src h2).data VO;have e1d:RV E.S w.heap r.1 (a.eval y):=e1.data (by revert Nk;cases r.2<;>simp[Mr,K6]);rw[hr]at e1d;rw[hs]at e2;obtain⟨b,len,cap,all,ev,f1,f2,f3,f4,f5,f6,f7⟩:=LH (P:=C.P) e1d;obtain⟨b',len',cap',all',ev',g1,g2,g3,g4,g5,g6,g7⟩:=LH (P:=C.P) e2;have Cy:inf.size=sz:=by obtain⟨i',d',q1,-,q2,-⟩:=Ib hz;rw[Am]at q1;simp only[D8]at q1;rw[<- Hq,q2,q1]
 have V4:∀v' w',(Builtin.append_ #[t,u] o.type #[a.eval y,a.eval v]).run C.P w=.ok v' w'->(execOp a.eval o).run C.P w=.ok (.value v') w':=by intro v' w' hv;refine Hg F7 zm ?_;rw[Oc ht,show c.args.map a.eval=#[a.eval y,a.eval v]from by rw[Oc ha];simp];exact CL hv
 rw[EO]at H;have Mq:Builtin.lenOf (a.eval v)=pure len':=by rw[ev'];rfl
 have B2y:ds.length+es.length<=4294967296:=Yj;have oD:=g4.one hpos;by_cases BN:len+len'<=cap
 ·-- it fits: the slice's own memory is written
  have R0:=Rl.release (x:=y) (f:=Cj y 0 t0 0) λT hT=>Gn hT;have P0:Pr P8 E w.heap (E.re (Cj y 0 t0 0)) w.heap:=Pr.re λT hT=>Gn λt b _ he=>hT (by rw[he];simp[P8]);have oC:AJ E.S w.heap (E.re (Cj y 0 t0 0)).S w.heap:=Lb (Gn (by simp));have hsp:∀p,b=some p->len<cap->∃cc TT f,w.heap[p.block]?=some (.cells cc TT f)/\p.off+cap * sz<=cc.size /\
   ∀o',p.off+len * sz<=o'->o'<p.off+cap * sz->(E.re (Cj y 0 t0 0)).O p.block o'=.sp 0 t0 0/\¬(f.1<=o'/\o'<f.2):=by
   intro p hp P6;subst hp;have bW:r.2=.own:=by
    revert Nk e1;cases r.2<;>intro Nk e1<;>simp only[Mr,z7q]at Nk
    ·simp only[RR,M4]at e1;obtain⟨-,⟨q,n,hq⟩,-⟩:=e1;rw[ev]at hq;simp only[Value.slice.injEq]at hq;omega
    ·rfl
   rw[bW]at e1;simp only[RR,M4]at e1;obtain⟨-,sz',ds',hl,hS⟩:=e1;rw[hr]at hl;simp only[DV.list.injEq]at hl;obtain⟨cc,TT,f,c1,c2,c3⟩:=hS p len cap ev P6;rw[<- hl.1]at c2 c3;refine⟨cc,TT,f,c1,c2,λo' h3 h4=>?_⟩;obtain⟨c4,c5⟩:=c3 o' h3 h4;refine⟨?_,c5⟩;have hy:∃i,y=.tmp i:=by
    cases y with
    |tmp i=>exact⟨i,rfl⟩
    |const v=>exact absurd bW (eG h1).1
    |func f=>simp only[src,D8]at h1;subst h1;simp at bW
    |global g=>simp[src]at h1
   obtain⟨i,rfl⟩:=hy;simp only[Env.re];rw[c4];simp[Cj,fo]
  by_cases hn:len'=0
  ·-- nothing is appended
   have hes:es=[]:=zhq (by omega);have B9p:all'=[]:=zhq (by rw[g4.1,hes];simp);have AV:(Builtin.append_ #[t,u] o.type #[a.eval y,a.eval v]).run C.P w=.ok (.slice b (len+len') cap) w:=by
    rw[ev];cases b with
    |none=>exact A1R hu Du Am Mq (by rw[Cy];exact g7 w rfl) BN
    |some p=>exact IY hu Du Am Mq (by rw[Cy];exact g7 w rfl) BN (by rw[B9p];rfl)
   refine Au (V4 _ _ AV) (T _ _ _ w H ?_ P0);rw[EO];refine R0.put λt1 ZL=>?_;simp only[D8]at ZL;subst ZL;rw[hes,zWq,hn,zBq,<- ev];refine RR.AL ⟨e1d.mono oC,_,_,rfl,λp len1 cap1 hq P6=>?_⟩;rw[ev]at hq;simp only[Value.slice.injEq]at hq;obtain⟨rfl,rfl,rfl⟩:=hq;exact hsp p rfl P6
  ·-- the cells behind are written, and sealed
   cases b with
   |none=>have:=f3 rfl;omega
   |some p=>
     obtain⟨hp,-⟩:=f5 p rfl;have hp:=hp (by omega);obtain⟨cc,TT,f,c1,c2,c3⟩:=hsp p rfl (by omega);have B9v:all'.length=len' * sz:=by rw[g4.1,g1]
     have hmul:(len+len') * sz<=cap * sz:=z9q _ BN;have wX:(len+len') * sz=len * sz+len' * sz:=zqq _ _ _;have B9z:0<len' * sz:=y8q (by omega) hpos;obtain⟨w',hw,S⟩:=Jh (P:=C.P) (b:=p.block) (T:=TT) (f:=f) (p.off+len * sz) all' cc 0 w c1 (by omega) oD (λo' h3 h4=>(c3 o' (by omega) (by omega)).2);have AV:(Builtin.append_ #[t,u] o.type #[a.eval y,a.eval v]).run C.P w=.ok (.slice (some p) (len+len') cap) w':=by rw[ev];refine IY hu Du Am Mq (by rw[Cy];exact g7 w rfl) BN ?_;rw[Cy,hp,Addr.add_lit];exact hw
     simp only[zBq]at S;have R1:L6 (E.re (Cj y 0 t0 0)) ((st.release y).put (some t0) .undef .val) (a.put (some t0) (.slice (some p) (len+len') cap)) w.heap:=R0.put λt1 _=>by simp only[RR,M4,RV]
     have PS:Pr (λT=>T=.sp 0 t0 0) (E.re (Cj y 0 t0 0)) w.heap ((E.re (Cj y 0 t0 0)).XH p.block (p.off+len * sz) (p.off+len * sz+len' * sz)) w'.heap:=by
      refine⟨zJq S.size.symm,λb1 LM=>?_,λb1 o1 LM hT=>?_,zbq _,λ_ _ _=>⟨rfl,rfl,rfl⟩,λ_ _=>rfl,EA rfl⟩
      ·by_cases VM:b1=p.block
       ·subst VM;rw[c1];obtain⟨c',q1,q2,q3⟩:=S.ex;refine⟨c',q1,q2,λj hj=>?_⟩;rw[q3 j,A7];rintro⟨q4,q5⟩;exact hj (c3 j q4 (by omega)).1
       ·rw[S.rest b1 VM];exact X4.refl _ _
      ·simp only[Env.XH]
       rw[A7];rintro⟨rfl,q4,q5⟩;exact hT (c3 o1 q4 (by omega)).1
     have CQ:=PS.Q8 (by simp) R1.fresh;have R2:L6 ((E.re (Cj y 0 t0 0)).XH p.block (p.off+len * sz) (p.off+len * sz+len' * sz)) ((st.release y).put (some t0) .undef .val) (a.put (some t0) (.slice (some p) (len+len') cap)) w'.heap:=by
      refine⟨R1.size,R1.AZ,R1.CW,R1.n,λq vq hq=>?_,λs' cs' Db=>(R1.j4 s' cs' Db).mono PS CQ (by simp) (by simp),λi' ob hi=>(R1.U5 i' ob hi).mono PS CQ (by rw[<- R1.n];exact(z0q.1 hi).1) (by simp) (by simp),λb1 o1 LM=>?_⟩
      ·have h0:=R1.Be q vq hq;by_cases hqt:t0=q
       ·subst hqt;have B4x:t0<(st.release y).tm.length:=by have:=(zdq.1 hq).1;rw[aS]at this;rw[<- R0.size];exact this
        rw[Qe B4x R0.AZ];simp only[RR,M4,RV]
       ·exact h0.mono PS CQ (by simp;exact λhh=>absurd hh.symm hqt) (by simp)
      ·have qd:w.heap.size<=b1:=by rw[<- S.size];exact LM
       simp only[Env.XH];rw[A7]
       ·exact R1.fresh b1 o1 qd
       ·rintro⟨rfl,-⟩;have:=(zdq.1 c1).1;omega
     have B74:RR ((E.re (Cj y 0 t0 0)).XH p.block (p.off+len * sz) (p.off+len * sz+len' * sz)) w'.heap 0 t0 (.list sz (ds++es)) .own (.slice (some p) (len+len') cap):=by
      refine RR.AL ⟨?_,_,_,rfl,λp1 len1 cap1 hq P6=>?_⟩
      ·have C0M:=oC;refine NY (by simp;omega) BN (by simp) (λ_=>hpos) λp1 ZK=>?_;simp only[D8]at ZK;subst ZK;refine⟨λ_=>by rw[hp],TA (((f4.mono oC).mono CQ).append ((g4.mono oC).mono CQ)) λj q hq=>?_⟩;by_cases hj:j<all.length
       ·rw[z4q hj]at hq;obtain⟨q1,q2⟩:=(f5 p rfl).2 j q hq;exact⟨CQ.c _ _ _ (oC.s _ _ q2) q1,CQ.s _ _ (oC.s _ _ q2)⟩
       ·rw[z6q (by omega)]at hq;have hal:all.length=len * sz:=by rw[f4.1,f1]
        have bT:j-all.length<all'.length:=(z0q.1 hq).1;obtain⟨c',q1,q2,q3⟩:=S.ex;constructor
        ·unfold hc;rw[q1];show c'[p.off+j]?=some q;rw[q3,A9 (by omega),<- hq];congr 1;omega
        ·simp only[Env.S,Env.XH]
         rw[A9 (by refine⟨trivial,?_,?_⟩<;>omega)]
      ·simp only[Value.slice.injEq,D8]at hq;obtain⟨rfl,rfl,rfl⟩:=hq;obtain⟨c',q1,q2,q3⟩:=S.ex;refine⟨c',TT,f,q1,by rw[q2];exact c2,λo' h3 h4=>?_⟩;rw[wX]at h3;obtain⟨c4,c5⟩:=c3 o' (by omega) h4;refine⟨?_,c5⟩;simp only[Env.XH];rw[A7 (by omega)];exact c4
     refine Au (V4 _ _ AV) (T _ _ _ w' H ?_ (P0.trans (PS.j6 (by rintro T rfl;simp[P8]))) S.out);rw[EO];have R3:=R2.put (dst:=some t0) (d:=.list sz (ds++es)) (m:=.own) (v:=.slice (some p) (len+len') cap) λt1 ZL=>by simp only[D8]at ZL;subst ZL;exact B74
     rwa [B6T,yF]at R3
 ·-- a new block
  obtain⟨nc,hnc,AV⟩:=run_append_grow (ty:=o.type) (b:=b) hu Du Am Mq (by rw[Cy];exact g7) (by rw[Cy,<- ev];exact f7) Ro BN (by omega) VN;rw[<- ev]at AV;have hal:all.length=len * sz:=by rw[f4.1,f1]
  have B4t:all'.length=len' * sz:=by rw[g4.1,g1]
  have QY:(Builtin.zeroCells zv.cells (nc-(len+len'))).toList.length=(nc-(len+len')) * sz:=by simp[Builtin.zeroCells,WT]
  have B4D:(len+len') * sz+(nc-(len+len')) * sz=nc * sz:=by rw[<- zqq];congr 1;omega
  have wX:(len+len') * sz=len * sz+len' * sz:=zqq _ _ _;generalize hzc:(Builtin.zeroCells zv.cells (nc-(len+len'))).toList=zc at AV QY;have P1:Pr (λ_=>False) E w.heap (E.newRow w.heap.size ((len+len') * sz) (nc * sz) (.sp 0 t0 0)) (w.heap.push (.cells (all++all'++zc).toArray e)):=by refine Pr.push (λb1 o1 LM _=>?_) (zbq _) (λ_ _ _=>⟨rfl,rfl,rfl⟩) (λ_ _=>rfl) (EA rfl);simp only[Env.newRow];rw[A7 (by omega)]
  have CQ:=P1.Q8 (by simp) Rl.fresh;have R0:L6 E (st.release y) a w.heap:=Rl.release (x:=y) (f:=id) λ_ _=>rfl;have R1:=R0.push P1 rfl λb1 o1 LM=>by simp only[zXq]at LM;simp only[Env.newRow];rw[A7 (by omega)];exact Rl.fresh b1 o1 (by omega)
  refine Au (V4 _ _ AV) (T _ _ _ (w.drew.alloc (.cells (all++all'++zc).toArray e)) H ?_ (P1.j6 (by simp)));rw[EO];refine R1.put λt1 ZL=>?_;simp only[D8]at ZL;subst ZL;have Gz:∀(j:Nat),hc (w.heap.push (.cells (all++all'++zc).toArray e)) w.heap.size j=(all++all'++zc)[j]?:=λj=>by rw[kU];simp
  refine RR.AL ⟨?_,_,_,rfl,λp1 len1 cap1 hq P6=>?_⟩
  ·refine NY (by simp;omega) hnc (by simp) (λ_=>hpos) λp1 ZK=>?_;simp only[D8]at ZK;subst ZK;refine⟨λ_=>rfl,TA ((f4.mono CQ).append (g4.mono CQ)) λj q hq=>?_⟩;have hj:j<(all++all').length:=(z0q.1 hq).1;have O9:j<(len+len') * sz:=by simp at hj;omega
   constructor
   ·show hc _ w.heap.size (0+j)=_;rw[zfq,Gz,z4q hj];exact hq
   ·simp only[Env.S,Env.newRow,zfq,F6]
    rw[A9 O9]
  ·simp only[Value.slice.injEq,D8]at hq;obtain⟨rfl,rfl,rfl⟩:=hq;refine⟨_,e,(0,0),Jv,by simp;omega,λo' h3 h4=>⟨?_,by simp⟩⟩;simp only[zfq]at h3 h4;simp only[Env.newRow,F6];rw[A7 (by omega),A9 h4]
end
end
section
variable {sz:Nat}
def mP{d e:DV}{p:List DV×List DV}(h:KJ sz d e=some p):∃ds es,d=.list sz ds/\e=.list sz es/\ds.length+es.length<=R6/\0<es.length/\p=(ds,es):=by
 unfold KJ at h;split at h
 ·obtain⟨⟨⟨h1,h2⟩,h3,h4⟩,h9⟩:=M5 h;simp only[D8]at h9;subst h1 h2;exact⟨_,_,rfl,rfl,h3,h4,h9.symm⟩
 ·simp at h
variable (E:Env)
def Env.B8G(b off lo hi:Nat):Env :={ E with obj:=λi=>if i=E.n then b else E.obj i,base:=λi=>if i=E.n then off else E.base i,top:=λi=>if i=E.n then hi else E.top i,n:=E.n+1,Q9:=λi=>if i=E.n then 0 else E.Q9 i,O:=λb' o=>if b'=b/\lo<=o/\o<hi then .obj E.n else E.O b' o }
def Env.B8F(b lo hi:Nat):Env :={ E with obj:=λi=>if i=E.n then b else E.obj i,base:=λi=>if i=E.n then 0 else E.base i,top:=λi=>if i=E.n then hi else E.top i,n:=E.n+1,Q9:=λi=>if i=E.n then 0 else E.Q9 i,O:=λb' o=>if b'=b then(if o<lo then .Q8 else if o<hi then .obj E.n else .other)else E.O b' o }
section
variable {X:Type}{C:BQ}{R:O8}{o:Oper}{st:St}{k:St->Option X}{x:X}{E:Env}{a:Act}{w:World}{K:Act->World->Prop}{Q:Exit->Act->World->Prop}{h:Heap}
def B2U{E:Env}{i b off cap:Nat}{ds es:List DV}{all':List Value}{c:Array Value}{T:TypeId}{f:Nat×Nat}(ho:E.obj i=b)(hb:E.base i=off)(ht:E.top i=off+cap * sz)(hpos:0<sz)(hc:h[b]?=some (.cells c T f))(BN:ds.length+es.length<=cap)(IU:off+cap * sz<=c.size)(tags:∀o,off+ds.length * sz<=o->o<off+cap * sz->E.O b o=.obj i/\¬(f.1<=o/\o<f.2))(pre:∀(j:Nat) d,ds[j]?=some d->Elem E.S h sz b (off+j * sz) d)(G:Ij E.S h sz es all')(cells:∀(j:Nat) u,all'[j]?=some u->c[off+ds.length * sz+j]?=some u):RO E h i (.opn sz ds es):=by
 simp only[RO];rw[ho,hb,ht];refine⟨c,T,f,hc,?_,IU,hpos,tags,pre,λj d hd=>?_⟩
 ·have:=z9q sz BN;omega
 ·obtain⟨vs,v1,v2,v3⟩:=G.2 j d hd;refine⟨vs,v1,λy u hu=>?_,v3⟩;have:=cells _ u (v2 y u hu);rw[zqq]
  rwa [show off+(ds.length * sz+j * sz)+y=off+ds.length * sz+(j * sz+y)by omega]
variable {fl:H8}
def A20{c:Call}{y v:Operand}{t u:TypeId}(F7:o.op=.call c)(zm:c.callee=.builtin .append)(ha:c.args.toList=[y,v])(ht:c.argTypes.toList=[t,u])(fE:I8 fl.opn o.dst=true)(QU:I8 fl.Oy o.dst=false)(Ph:I8 fl.Dn o.dst=false)(H:D_ C fl o y v t u st k=some x)(Rl:L6 E st a w.heap)(T:Then E w k x K):Gp C.P o a w K:=by
 unfold D_ at H;rw[A7 (by rw[QU];simp),A7 (by rw[Ph];simp)]at H;obtain⟨r,h1,H⟩:=D6 H;obtain⟨s,h2,H⟩:=D6 H;obtain⟨sz,Cz,H⟩:=D6 H;obtain⟨hc,H⟩:=H6 H;rw[A9 fE]at H;obtain⟨d2,hd,H⟩:=D6 H;simp only[zaq]at hc;obtain⟨⟨Nk,VO⟩,EO⟩:=hc;obtain⟨t0,EO⟩:=zwq.1 EO;obtain⟨e,e',z,inf,zv,hu,Du,hz,Hq,hpos,Am,VN,Ro,WT⟩:=Ui Cz;obtain⟨ds,es,hr,hs,Yj,hne,rfl⟩:=mP hd;simp only at H;have e1:=Rl.src h1;have e2:=(Rl.src h2).data VO;have e1d:RV E.S w.heap r.1 (a.eval y):=e1.data (by revert Nk;cases r.2<;>simp[Mr,K6]);rw[hr]at e1d;rw[hs]at e2;obtain⟨b,len,cap,all,ev,f1,f2,f3,f4,f5,f6,f7⟩:=LH (P:=C.P) e1d;obtain⟨b',len',cap',all',ev',g1,g2,g3,g4,g5,g6,g7⟩:=LH (P:=C.P) e2;have Cy:inf.size=sz:=by obtain⟨i',d',q1,-,q2,-⟩:=Ib hz;rw[Am]at q1;simp only[D8]at q1;rw[<- Hq,q2,q1]
 have V4:∀v' w',(Builtin.append_ #[t,u] o.type #[a.eval y,a.eval v]).run C.P w=.ok v' w'->(execOp a.eval o).run C.P w=.ok (.value v') w':=by intro v' w' hv;refine Hg F7 zm ?_;rw[Oc ht,show c.args.map a.eval=#[a.eval y,a.eval v]from by rw[Oc ha];simp];exact CL hv
 rw[EO]at H;have Mq:Builtin.lenOf (a.eval v)=pure len':=by rw[ev'];rfl
 have B2y:ds.length+es.length<=4294967296:=Yj;have oD:=g4.one hpos;have hn:=Rl.n;by_cases BN:len+len'<=cap
 ·-- it fits: the slice's own memory is written
  have R0:=Rl.release (x:=y) (f:=Cj y 0 t0 0) λT hT=>Gn hT;have P0:Pr P8 E w.heap (E.re (Cj y 0 t0 0)) w.heap:=Pr.re λT hT=>Gn λt b _ he=>hT (by rw[he];simp[P8]);have oC:AJ E.S w.heap (E.re (Cj y 0 t0 0)).S w.heap:=Lb (Gn (by simp));have hsp:∀p,b=some p->len<cap->∃cc TT f,w.heap[p.block]?=some (.cells cc TT f)/\p.off+cap * sz<=cc.size /\
   ∀o',p.off+len * sz<=o'->o'<p.off+cap * sz->(E.re (Cj y 0 t0 0)).O p.block o'=.sp 0 t0 0/\¬(f.1<=o'/\o'<f.2):=by
   intro p hp P6;subst hp;have bW:r.2=.own:=by
    revert Nk e1;cases r.2<;>intro Nk e1<;>simp only[Mr,z7q]at Nk
    ·simp only[RR,M4]at e1;obtain⟨-,⟨q,n,hq⟩,-⟩:=e1;rw[ev]at hq;simp only[Value.slice.injEq]at hq;omega
    ·rfl
   rw[bW]at e1;simp only[RR,M4]at e1;obtain⟨-,sz',ds',hl,hS⟩:=e1;rw[hr]at hl;simp only[DV.list.injEq]at hl;obtain⟨cc,TT,f,c1,c2,c3⟩:=hS p len cap ev P6;rw[<- hl.1]at c2 c3;refine⟨cc,TT,f,c1,c2,λo' h3 h4=>?_⟩;obtain⟨c4,c5⟩:=c3 o' h3 h4;refine⟨?_,c5⟩;have hy:∃i,y=.tmp i:=by
    cases y with
    |tmp i=>exact⟨i,rfl⟩
    |const v=>exact absurd bW (eG h1).1
    |func f=>simp only[src,D8]at h1;subst h1;simp at bW
    |global g=>simp[src]at h1
   obtain⟨i,rfl⟩:=hy;simp only[Env.re];rw[c4];simp[Cj,fo]
  have hln:0<len':=by omega
  cases b with
  |none=>have:=f3 rfl;omega
  |some p=>
    obtain⟨hp,f5'⟩:=f5 p rfl;have hp:=hp (by omega);obtain⟨cc,TT,f,c1,c2,c3⟩:=hsp p rfl (by omega);have B9v:all'.length=len' * sz:=by rw[g4.1,g1]
    have hmul:(len+len') * sz<=cap * sz:=z9q _ BN;have wX:(len+len') * sz=len * sz+len' * sz:=zqq _ _ _;have B9z:0<len' * sz:=y8q hln hpos;obtain⟨w',hw,S⟩:=Jh (P:=C.P) (b:=p.block) (T:=TT) (f:=f) (p.off+len * sz) all' cc 0 w c1 (by omega) oD (λo' h3 h4=>(c3 o' (by omega) (by omega)).2);have AV:(Builtin.append_ #[t,u] o.type #[a.eval y,a.eval v]).run C.P w=.ok (.slice (some p) (len+len') cap) w':=by rw[ev];refine IY hu Du Am Mq (by rw[Cy];exact g7 w rfl) BN ?_;rw[Cy,hp,Addr.add_lit];exact hw
    simp only[zBq]at S;have R1:L6 (E.re (Cj y 0 t0 0)) ((st.release y).put (some t0) .undef .val) (a.put (some t0) (.slice (some p) (len+len') cap)) w.heap:=R0.put λt1 _=>by simp only[RR,M4,RV]
    let E2:=(E.re (Cj y 0 t0 0)).B8G p.block p.off (p.off+len * sz) (p.off+cap * sz)
    have A6x:E2.n=E.n+1:=rfl;have PS:Pr (λT=>T=.sp 0 t0 0) (E.re (Cj y 0 t0 0)) w.heap E2 w'.heap:=by
     refine⟨zJq S.size.symm,λb1 LM=>?_,λb1 o1 LM hT=>?_,y9q _,λi hi _=>?_,λ_ _=>rfl,XM rfl⟩
     ·by_cases VM:b1=p.block
      ·subst VM;rw[c1];obtain⟨c',q1,q2,q3⟩:=S.ex;refine⟨c',q1,q2,λj hj=>?_⟩;rw[q3 j,A7];rintro⟨q4,q5⟩;exact hj (c3 j q4 (by omega)).1
      ·rw[S.rest b1 VM];exact X4.refl _ _
     ·show(if _ then _ else _)=_;rw[A7];rintro⟨rfl,q4,q5⟩;exact hT (c3 o1 q4 q5).1
     ·have hi':i≠(E.re (Cj y 0 t0 0)).n:=y2q hi;refine⟨?_,?_,?_⟩<;>(show(if _ then _ else _)=_;rw[A7 hi'])
    have CQ:=PS.Q8 (by simp) R1.fresh;have oE:E2.obj E.n=p.block:=A9 rfl;have bE:E2.base E.n=p.off:=A9 rfl;have tE:E2.top E.n=p.off+cap * sz:=A9 rfl;have R2:L6 E2 { (st.release y).put (some t0) .undef .val with sg:=st.sg++[E5.opn sz ds es] } (a.put (some t0) (.slice (some p) (len+len') cap)) w'.heap:=by
     have sgR:(st.release y).sg=st.sg:=by cases y<;>rfl
     refine⟨R1.size,R1.AZ,R1.CW,by simp[A6x,hn],λq vq hq=>?_,λs' cs' Db=>(R1.j4 s' cs' Db).mono PS CQ (by simp) (by simp),λi' ob hi=>?_,λb1 o1 LM=>?_⟩
     ·have h0:=R1.Be q vq hq;by_cases hqt:t0=q
      ·subst hqt;have B4x:t0<(st.release y).tm.length:=by have:=(zdq.1 hq).1;rw[aS]at this;rw[<- R0.size];exact this
       have hg:(St.get { (st.release y).put (some t0) .undef .val with sg:=st.sg++[E5.opn sz ds es] } t0)=(.undef,.val):=Qe B4x R0.AZ;rw[hg];simp only[RR,M4,RV]
      ·exact h0.mono PS CQ (by simp;exact λhh=>absurd hh.symm hqt) (by simp)
     ·by_cases P6:i'<st.sg.length
      ·have hi:((st.release y).put (some t0) .undef .val).sg[i']?=some ob:=by have hi:(st.sg++[E5.opn sz ds es])[i']?=some ob:=hi;rw[z4q P6]at hi;rw[lN,sgR];exact hi
       exact(R1.U5 i' ob hi).mono PS CQ (by rw[<- R1.n];exact(z0q.1 hi).1) (by simp) (by simp)
      ·have hi:(st.sg++[E5.opn sz ds es])[i']?=some ob:=hi;have NL:i'=st.sg.length:=by have:=(z0q.1 hi).1;simp at this;omega
       subst NL;simp only[z6q (zbq _),y0q,zgq,D8]at hi;subst hi;rw[hn];obtain⟨c',q1,q2,q3⟩:=S.ex;have hf1:=f1;have hg1:=g1;subst hf1;refine B2U (cap:=cap) (all':=all') oE bE tE hpos q1 (by omega) (by rw[q2];exact c2) (λo' h3 h4=>⟨?_,(c3 o' h3 h4).2⟩) (λj d hd=>?_) ((g4.mono oC).mono CQ) λj u hu=>?_
       ·show(if _ then _ else _)=_;rw[A9 ⟨rfl,h3,h4⟩];rfl
       ·obtain⟨b0,len0,cap0,QW,-,-,-,yZ⟩:=Kg e1d;rw[ev]at QW;simp only[Value.slice.injEq]at QW;obtain⟨rfl,-,-⟩:=QW;exact((EW.1 (yZ.2 p rfl).2 j d hd).mono oC).mono CQ
       ·have bT:j<all'.length:=(z0q.1 hu).1;rw[q3,A9 (by omega),<- hu];congr 1;omega
     ·have qd:w.heap.size<=b1:=by rw[<- S.size];exact LM
      show(if _ then _ else _)=_;rw[A7]
      ·exact R1.fresh b1 o1 qd
      ·rintro⟨rfl,-⟩;have:=(zdq.1 c1).1;omega
    refine Au (V4 _ _ AV) (T _ _ _ w' H ?_ (P0.trans (PS.j6 (by rintro T rfl;simp[P8]))) S.out);rw[EO];have R3:=R2.put (dst:=some t0) (d:=.undef) (m:=.arr st.sg.length sz 0 (ds.length+es.length)) (v:=.slice (some p) (len+len') cap) λt1 ZL=>by
     refine RR.AL ⟨⟨by rw[A6x,hn];omega,by rw[hn];exact A9 rfl⟩,some p,cap,by rw[f1,g1],λ_=>?_,by omega,by simp,λq hq=>?_,λ_=>?_⟩
     ·rw[hn,oE,bE,zKq,zBq,<- hp]
     ·simp only[D8]at hq;rw[<- hq,hp]
     ·rw[hn,bE,tE,zfq];exact zbq _
    rw[yF]at R3;have e3:St.put { (st.release y).put (some t0) .undef .val with sg:=st.sg++[E5.opn sz ds es] } (some t0) .undef (.arr st.sg.length sz 0 (ds.length+es.length))=St.put { st.release y with sg:=st.sg++[E5.opn sz ds es] } (some t0) .undef (.arr st.sg.length sz 0 (ds.length+es.length)):=by simp[St.put,ynq]
    rwa [e3]at R3
 ·-- a new block
  obtain⟨nc,hnc,AV⟩:=run_append_grow (ty:=o.type) (b:=b) hu Du Am Mq (by rw[Cy];exact g7) (by rw[Cy,<- ev];exact f7) Ro BN (by omega) VN;rw[<- ev]at AV;have hal:all.length=len * sz:=by rw[f4.1,f1]
  have B4t:all'.length=len' * sz:=by rw[g4.1,g1]
  have QY:(Builtin.zeroCells zv.cells (nc-(len+len'))).toList.length=(nc-(len+len')) * sz:=by simp[Builtin.zeroCells,WT]
  have B4D:(len+len') * sz+(nc-(len+len')) * sz=nc * sz:=by rw[<- zqq];congr 1;omega
  have wX:(len+len') * sz=len * sz+len' * sz:=zqq _ _ _;generalize hzc:(Builtin.zeroCells zv.cells (nc-(len+len'))).toList=zc at AV QY
  let E2:=E.B8F w.heap.size (len * sz) (nc * sz)
  have A6x:E2.n=E.n+1:=rfl;have oE:E2.obj E.n=w.heap.size:=A9 rfl;have bE:E2.base E.n=0:=A9 rfl;have tE:E2.top E.n=nc * sz:=A9 rfl;have P1:Pr (λ_=>False) E w.heap E2 (w.heap.push (.cells (all++all'++zc).toArray e)):=by
   refine Pr.push (λb1 o1 LM _=>?_) (y9q _) (λi hi _=>?_) (λ_ _=>rfl) (XM rfl)
   ·show(if _ then _ else _)=_;rw[A7 (by omega)]
   ·have hi':i≠E.n:=y2q hi;refine⟨?_,?_,?_⟩<;>(show(if _ then _ else _)=_;rw[A7 hi'])
  have CQ:=P1.Q8 (by simp) Rl.fresh;have R0:L6 E (st.release y) a w.heap:=Rl.release (x:=y) (f:=id) λ_ _=>rfl;have sgR:(st.release y).sg=st.sg:=by cases y<;>rfl
  have Gz:∀(j:Nat),hc (w.heap.push (.cells (all++all'++zc).toArray e)) w.heap.size j=(all++all'++zc)[j]?:=λj=>by rw[kU];simp
  have R2:L6 E2 { st.release y with sg:=st.sg++[E5.opn sz ds es] } a (w.heap.push (.cells (all++all'++zc).toArray e)):=by
   refine⟨R0.size,R0.AZ,R0.CW,by simp[A6x,hn],λq vq hq=>(R0.Be q vq hq).mono P1 CQ (by simp) (by simp),λs' cs' Db=>(R0.j4 s' cs' Db).mono P1 CQ (by simp) (by simp),λi' ob hi=>?_,λb1 o1 LM=>?_⟩
   ·by_cases P6:i'<st.sg.length
    ·have hi:(st.release y).sg[i']?=some ob:=by have hi:(st.sg++[E5.opn sz ds es])[i']?=some ob:=hi;rw[z4q P6]at hi;rw[sgR];exact hi
     exact(R0.U5 i' ob hi).mono P1 CQ (by rw[<- R0.n];exact(z0q.1 hi).1) (by simp) (by simp)
    ·have hi:(st.sg++[E5.opn sz ds es])[i']?=some ob:=hi;have NL:i'=st.sg.length:=by have:=(z0q.1 hi).1;simp at this;omega
     subst NL;simp only[z6q (zbq _),y0q,zgq,D8]at hi;subst hi;rw[hn];have hf1:=f1;subst hf1;refine B2U (cap:=nc) (all':=all') oE bE (by rw[tE,zfq]) hpos Jv (by omega) (by simp;omega) (λo' h3 h4=>⟨?_,by simp⟩) (λj d hd=>?_) (g4.mono CQ) λj u hu=>?_
     ·show(if _ then _ else _)=_;rw[A9 rfl,A7 (by omega),A9 (by omega)]
     ·obtain⟨vs,v1,v2,v3⟩:=f4.2 j d hd;refine⟨vs,v1,λy' u hu=>?_,v3.mono CQ⟩;have hy':y'<sz:=by have:=(z0q.1 hu).1;omega
      have h5:=v2 y' u hu;have h6:j * sz+y'<all.length:=(z0q.1 h5).1;refine⟨?_,?_⟩
      ·rw[zfq,Gz,zLq,z4q h6];exact h5
      ·show(if _ then _ else _)=_;rw[A9 rfl,zfq,A9 (by omega)]
     ·have bT:j<all'.length:=(z0q.1 hu).1;rw[zfq,zMq,zLq,z6q (by omega),z4q (by omega),<- hu];congr 1;omega
   ·simp only[zXq]at LM;show(if _ then _ else _)=_;rw[A7 (by omega)];exact Rl.fresh b1 o1 (by omega)
  refine Au (V4 _ _ AV) (T _ _ _ (w.drew.alloc (.cells (all++all'++zc).toArray e)) H ?_ (P1.j6 (by simp)));rw[EO];refine R2.put λt1 ZL=>?_;refine RR.AL ⟨⟨by rw[A6x,hn];omega,by rw[hn];exact A9 rfl⟩,some ⟨w.heap.size,0,none⟩,nc,by rw[f1,g1],λ_=>?_,by omega,by simp,λq hq=>?_,λ_=>?_⟩
  ·rw[hn,oE,bE,zKq,zBq]
  ·simp only[D8]at hq;rw[<- hq]
  ·rw[hn,bE,tE,zfq,zfq];exact zbq _
def Env.lX(E:Env)(i lo:Nat)(tg:Tag):Env:={ E with O:=λb o=>if E.O b o=.obj i then(if o<lo then .Q8 else tg)else E.O b o }
def pR(E:Env)(h:Heap)(i lo:Nat)(tg:Tag):Pr (λT=>T=.obj i) E h (E.lX i lo tg) h:=by refine⟨zbq _,λ_ _=>X4.refl _ _,λb o _ hT=>?_,zbq _,λ_ _ _=>⟨rfl,rfl,rfl⟩,λ_ _=>rfl,EA rfl⟩;show(if _ then _ else _)=_;rw[A7 hT]
def vX{i:Nat}{pre ds:List DV}{tg:Tag}{v:Value}(hf:∀b o,h.size<=b->E.O b o=.other)(H:RO E h i (.opn sz pre ds))(G:M4 E h tg .undef (.arr i sz 0 (pre.length+ds.length)) v)(hne:0<pre.length+ds.length)(tg':Tag):
 M4 (E.lX i (E.base i+(pre.length+ds.length) * sz) tg') h tg' (.list sz (pre++ds)) .own v:=by
 have P:=pR E h i (E.base i+(pre.length+ds.length) * sz) tg';have J4:=P.Q8 (by simp) hf;simp only[RO]at H;obtain⟨c,T,f,h1,h2,Pd,hz,h3,h4,h5⟩:=H;simp only[M4]at G;obtain⟨g1,b,cap,rfl,g2,g3,g4,g5,g6⟩:=G;have g2:=g2 hne;have g6:=g6 hne;subst g2;simp only[zKq,zBq,zfq]at g6 ⊢;have q0:(pre.length+ds.length) * sz<=cap * sz:=z9q _ g3;refine⟨?_,sz,pre++ds,rfl,λp len1 cap1 hq P6=>?_⟩
 ·refine NY (by simp) g3 (by simp) (λ_=>hz) λp hp=>?_;simp only[D8]at hp;subst hp;refine⟨λ_=>rfl,EW.2 λj d hd=>?_⟩;by_cases hj:j<pre.length
  ·rw[z4q hj]at hd;exact(h4 j d hd).mono J4
  ·rw[z6q (by omega)]at hd;have hjd:j-pre.length<ds.length:=(z0q.1 hd).1;obtain⟨vs,v1,v2,v3⟩:=h5 _ d hd;have ej:pre.length+(j-pre.length)=j:=by omega
   rw[ej]at v2;refine⟨vs,v1,λy u hu=>?_,v3.mono J4⟩;have hy:y<sz:=by have:=(z0q.1 hu).1;omega
   have q1:pre.length * sz<=j * sz:=z9q _ (by omega);have q2:j * sz+y<(pre.length+ds.length) * sz:=by
    calc j * sz+y<j * sz+sz:=by omega
     _=(j+1) * sz:=by rw[zAq]
     _<=(pre.length+ds.length) * sz:=z9q _ (by omega)
   refine⟨?_,?_⟩
   ·unfold hc;rw[h1];exact v2 y u hu
   ·have e0:(E.lX i (E.base i+(pre.length+ds.length) * sz) tg').O (E.obj i) (E.base i+j * sz+y)=.Q8:=by show(if _ then _ else _)=_;rw[A9 (h3 (E.base i+j * sz+y) (by omega) (by omega)).1,A9 (by omega)]
    exact e0
 ·simp only[Value.slice.injEq,D8]at hq;obtain⟨rfl,rfl,rfl⟩:=hq;refine⟨c,T,f,h1,by simp only;omega,λo' h6 h7=>?_⟩;simp only at h6 h7;have q1:pre.length * sz<=(pre.length+ds.length) * sz:=z9q _ (by omega);obtain⟨q2,q3⟩:=h3 o' (by omega) (by omega);refine⟨?_,q3⟩;show(if _ then _ else _)=_;rw[A9 q2,A7 (by omega)]
def qQ{q:Nat×List DV×List DV}{len:Nat}{d:DV}(h:TJ q sz len=some d):q.1=sz/\q.2.1.length+q.2.2.length=len/\0<len/\d=.list sz (q.2.1++q.2.2):=by unfold TJ at h;obtain⟨⟨h1,h2,h3⟩,h⟩:=M5 h;simp only[D8]at h;exact⟨h1,h2,h3,h.symm⟩
def B0n{r:Nat}(H:Zy r st k=some x)(Rl:L6 E st a h):∃E' st',k st'=some x/\L6 E' st' a h/\Pr P8 E h E' h:=by
 unfold Zy at H;split at H
 ·rename_i i sz len hm;obtain⟨q,hq,H1⟩:=D6 H;obtain⟨d,hd,H9⟩:=D6 H1;clear H H1;obtain⟨sz',pre,ds⟩:=q;obtain⟨c1,c2,c3,rfl⟩:=qQ hd;simp only at c1 c2;subst c1 c2;have hq:=pM hq;have B:=Rl.U5 i _ hq;have hi:i<E.n:=by rw[<- Rl.n];exact(z0q.1 hq).1
  have Ig:=(z0q.1 hq).1
  let E':=E.lX i (E.base i+(pre.length+ds.length) * sz') (.sp 0 r 0)
  have P:Pr (λT=>T=.obj i) E h E' h:=pR E h i _ _;have J4:=P.Q8 (by simp) Rl.fresh;refine⟨E',_,H9,?_,P.j6 (by rintro T rfl;simp[P8])⟩;refine⟨by rw[Vj];exact Rl.size,by rw[Vj,A7i];exact Rl.AZ,by rw[Vj,lM];exact Rl.CW,?_,λt v hv=>?_,λs cs hs=>?_,λj ob hj=>?_,λb o hb=>?_⟩
  ·rw[lN,zyq];exact Rl.n
  ·have h0:=Rl.Be t v hv;by_cases ht:r=t
   ·subst ht;have P6:r<st.tm.length:=by have:=(zdq.1 hv).1;rw[<- Rl.size];exact this
    rw[Qe (st:={ st with sg:=st.sg.set i (.arr 1 []) }) P6 Rl.AZ];rw[hm]at h0;simp only[RR]at h0;exact RR.AL (vX (tg:=.sp 0 r 0) Rl.fresh B (by simpa only[M4]using h0) c3 _)
   ·rw[Yn ht];exact h0.mono P J4 (by simp) (by simp)
  ·rw[lM]at hs;exact(Rl.j4 s cs hs).mono P J4 (by simp) (by simp)
  ·rw[lN]at hj;by_cases Rn:i=j
   ·subst Rn;rw[z2q Ig]at hj;simp only[D8]at hj;subst hj;exact λhne=>absurd rfl hne
   ·rw[z1q Rn]at hj;exact(Rl.U5 j ob hj).mono P J4 (by rw[<- Rl.n];exact(z0q.1 hj).1) (by simp;exact λh=>Rn h.symm) (by simp)
  ·show(if _ then _ else _)=_;rw[Rl.fresh b o hb,A7 (by simp)]
 ·rename_i b off hm;obtain⟨cs,IU,H1⟩:=D6 H;obtain⟨q0,hca,H2⟩:=D6 H1;obtain⟨q,hq,H3⟩:=D6 H2;obtain⟨d,hd,H9⟩:=D6 H3;clear H H1 H2 H3;obtain⟨i,sz,len⟩:=q0;obtain⟨sz',pre,ds⟩:=q;obtain⟨c1,c2,c3,rfl⟩:=qQ hd;simp only at c1 c2 H9 hq;subst c1 c2;have hq:=pM hq;have IU:=Zr IU;have B:=Rl.U5 i _ hq;have BX:=Rl.U5 b _ IU;have Ig:=(z0q.1 hq).1;have B4u:=(z0q.1 IU).1;have hib:i≠b:=by rintro rfl;rw[hq]at IU;cases IU
  obtain⟨d0,Wy⟩:∃d0,cs[off]?=some (d0,.arr i sz' 0 (pre.length+ds.length)):=by
   unfold wP at hca;split at hca
   ·rename_i d0 i0 sz0 len0 heq;simp only[D8,Prod.mk.injEq]at hca;obtain⟨rfl,rfl,rfl⟩:=hca;exact⟨d0,heq⟩
   ·cases hca
  let E':=E.lX i (E.base i+(pre.length+ds.length) * sz') (.sp 2 b off)
  have P:Pr (λT=>T=.obj i) E h E' h:=pR E h i _ _;have J4:=P.Q8 (by simp) Rl.fresh;refine⟨E',_,H9,?_,P.j6 (by rintro T rfl;simp[P8])⟩;refine⟨Rl.size,Rl.AZ,Rl.CW,?_,λt v hv=>(Rl.Be t v hv).mono P J4 (by simp) (by simp),λs cs' hs=>(Rl.j4 s cs' hs).mono P J4 (by simp) (by simp),λj ob hj=>?_,λb' o hb=>?_⟩
  ·simp only[zyq];exact Rl.n
  ·by_cases Rn:i=j
   ·subst Rn;rw[z2q (by simpa using Ig)]at hj;simp only[D8]at hj;subst hj;exact λhne=>absurd rfl hne
   ·rw[z1q Rn]at hj;by_cases hbj:b=j
    ·subst hbj;rw[z2q B4u]at hj;simp only[D8]at hj;subst hj;simp only[RO]at BX ⊢;have B8d:=(z0q.1 Wy).1;obtain⟨c,T,e1,e2,e3,e4⟩:=BX.mono P J4 (by simp;exact λh=>hib h.symm) (by simp);refine⟨c,T,e1,by simpa using e2,e3,λy r' v hr hv=>?_⟩;by_cases hy:off=y
     ·subst hy;rw[z2q B8d]at hr;simp only[D8]at hr;subst hr;obtain⟨c0,T0,f1,f2,f3,f4⟩:=BX;have Mm:c0=c:=by have Im:h[E.obj b]?=some (.cells c T (0,0)):=e1;rw[f1]at Im;simp only[D8,Obj.cells.injEq]at Im;exact Im.1
      subst Mm;obtain⟨g1,g2,g3,g4⟩:=f4 off _ v Wy hv;exact⟨rfl,g2,rfl,vX (tg:=.sp 2 b off) Rl.fresh B (by simpa only[M4]using g4) c3 _⟩
     ·rw[z1q hy]at hr;exact e4 y r' v hr hv
    ·rw[z1q hbj]at hj;exact(Rl.U5 j ob hj).mono P J4 (by rw[<- Rl.n];exact(z0q.1 hj).1) (by simp;exact λh=>Rn h.symm) (by simp)
  ·show(if _ then _ else _)=_;rw[Rl.fresh b' o hb,A7 (by simp)]
 ·cases H
def L6.B8z(Rl:L6 E st a h){i off:Nat}{cs:List (DV×F4)}(hb:st.sg[i]?=some (.box cs))(Mm:cs[off]?=some (.list sz [],.full))(hpos:0<sz):
 L6 E.Er { st with sg:=st.sg.set i (.box (cs.set off (.list sz [],.U0 st.sg.length 1 sz)))++[.U0 1 sz 0] } a h/\Pr P8 E h E.Er h:=by
 have hn:=Rl.n;have vE:E.Er.Q9 E.n=1:=A9 rfl;have P1:Pr (λ_=>False) E h E.Er h:=by
  refine⟨zbq _,λ_ _=>X4.refl _ _,λ_ _ _ _=>rfl,y9q _,λj hj _=>?_,λ_ _=>rfl,λj hj=>?_⟩
  ·have O9:j≠E.n:=y2q hj;refine⟨rfl,?_,?_⟩<;>(show(if _ then _ else _)=_;rw[A7 O9])
  ·have:E.Er.Q9 j=E.Q9 j:=A7 (y2q hj);rw[this];exact⟨id,zbq _,λ_=>rfl⟩
 have J4:=P1.Q8 (by simp) Rl.fresh;have Ig:=(z0q.1 hb).1;refine⟨⟨Rl.size,Rl.AZ,Rl.CW,by simp[Env.Er,hn],λu v hu=>(Rl.Be u v hu).mono P1 J4 (by simp) (by simp),λs' cs' hs=>(Rl.j4 s' cs' hs).mono P1 J4 (by simp) (by simp),λi' ob hi=>?_,Rl.fresh⟩,P1.j6 (by simp)⟩;by_cases P6:i'<st.sg.length
 ·rw[z4q (by simpa using P6)]at hi;by_cases Ce:i=i'
  ·subst Ce;simp only[z2q Ig,D8]at hi;subst hi;obtain⟨cv,T,h1,h2,h3,h4⟩:=(Rl.U5 i _ hb:RO E h i (.box cs)).mono P1 J4 (by rw[<- hn];exact P6) (by simp) (by simp);refine⟨cv,T,h1,by simpa using h2,h3,λj r v' hr Pf=>?_⟩;by_cases hj:off=j
   ·subst hj;have B4y:=(z0q.1 Mm).1;rw[z2q B4y]at hr;simp only[D8]at hr;subst hr;obtain⟨a1,a2,a3,a4⟩:=h4 off _ v' Mm Pf;refine⟨rfl,a2,rfl,?_⟩;simp only[M4]at a4 ⊢;obtain⟨k1,⟨x,m,rfl⟩,-⟩:=a4;have k2:=k1;obtain⟨b0,len0,cap0,QW,q1,-,q3,-⟩:=Kg k2;simp only[Value.slice.injEq]at QW;obtain⟨rfl,rfl,rfl⟩:=QW;have hm0:m=0:=by simpa using q1
    subst hm0;exact⟨k1,⟨[],rfl⟩,by rw[hn];exact ykq _,by omega,by rw[hn,vE];exact zbq _,x,0,0,rfl,λ_ h=>by omega⟩
   ·rw[z1q hj]at hr;exact h4 j r v' hr Pf
  ·rw[z1q Ce]at hi;exact(Rl.U5 i' ob hi).mono P1 J4 (by rw[<- hn];exact P6) (by simp) (by simp)
 ·have NL:i'=st.sg.length:=by have:=(z0q.1 hi).1;simp at this;omega
  subst NL;rw[z6q (by simp)]at hi;simp only[zyq,y0q,zgq,D8]at hi;subst hi;have e1:E.Er.top E.n=0:=A9 rfl;have e2:E.Er.base E.n=0:=A9 rfl;refine⟨by rw[hn];exact vE,Nat.one_pos,hpos,.inl ⟨rfl,?_⟩⟩;rw[hn,e1,e2]
def A3H{h:Heap}{b:Nat}:∀{os:List Nat}{st:St}{E:Env}{g:List E5},QR st.sg b os=some g->L6 E st a h->∃E',L6 E' { st with sg:=g } a h/\Pr P8 E h E' h
 |[],st,E,g,H,Rl=>by simp only[QR,D8]at H;subst H;exact⟨E,Rl,Pr.refl _ _ _⟩
 |o::os,st,E,g,H,Rl=>by
   simp only[QR]at H;obtain⟨cs,hb,H⟩:=D6 H;split at H
   ·rename_i sz hc;obtain⟨hpos,H⟩:=M5 H;obtain⟨R1,P1⟩:=Rl.B8z (Zr hb) hc hpos;obtain⟨E2,R2,P2⟩:=A3H H R1;exact⟨E2,R2,P1.trans P2⟩
   ·cases H
def A3F{id:Nat}(H:VJ fl id st k=some x)(Rl:L6 E st a h):∃E' st',k st'=some x/\L6 E' st' a h/\Pr P8 E h E' h:=by
 unfold VJ at H;split at H
 ·unfold A1q at H;split at H
  ·obtain⟨g,hg,H⟩:=D6 H;obtain⟨E2,R2,P2⟩:=A3H hg Rl;exact⟨E2,_,H,R2,P2⟩
  ·cases H
 ·exact⟨E,st,H,Rl,Pr.refl _ _ _⟩
def A0X{id:Nat}(H:IK fl id st k=some x)(Rl:L6 E st a h):∃E' st',k st'=some x/\L6 E' st' a h/\Pr P8 E h E' h:=by
 unfold IK at H;split at H
 ·obtain⟨E1,st1,H1,R1,P1⟩:=B0n H Rl;obtain⟨E2,st2,H2,R2,P2⟩:=A3F H1 R1;exact⟨E2,st2,H2,R2,P1.trans P2⟩
 ·exact A3F H Rl
end
end
section
structure Ext(S:AY)(h:Heap)(S':AY)(h':Heap):Prop where
 size:h.size<=h'.size
 blk:∀b,b<h.size->h'[b]?=h[b]?
 s:∀b o,b<h.size->(S' b o↔S b o)
 fresh:∀b o,h'.size<=b->¬S' b o
variable (P:Program)(f:FuncId)(ds:List DV)
def B1S(d:DV):Prop :=∀(S:AY)(w:World)(vs:List Value),(∀b o,w.heap.size<=b->¬S b o)->SH S w.heap ds vs->Calls P f vs.toArray w λe w'=>∃v S',e=.returned v/\Ext S w.heap S' w'.heap/\RV S' w'.heap d v/\Y9 w w'
def B0a(E:Env)(h:Heap)(i:Nat)(k:MK)(d:DV)(v:Value):Prop :=
 match k with
 |.val=>RV E.S h d v
 |.own=>M4 E h (.sp 3 i 0) d .own v
 |.ptr=>M4 E h .other (Mx .ptr d).1 (Mx .ptr d).2 v
 |.Yb n os=>RR E h 3 i d (.EZ ((List.range n).map λi=>if os.contains i then .own else .val)) v
def A99(E:Env)(h:Heap)(ks:List MK)(ds:List DV)(v:Value):Prop :=ds.length=ks.length/\∃vs:List Value,vs.length=ks.length/\v=(match vs with | [u]=>u | _=>.tuple vs.toArray) /\∀(i:Nat) k d u,ks[i]?=some k->ds[i]?=some d->vs[i]?=some u->B0a E h i k d u
def B5y(s:j3)(rs:List (DV×F4))(sg:List E5)(q:List DV×List E5):Prop :=
 ∀(E:Env)(w:World)(vs:List Value),(∀b o,w.heap.size<=b->E.O b o=.other)->sg.length=E.n->(∀(i:Nat) ob,sg[i]?=some ob->RO E w.heap i ob)->vs.length=rs.length->
   (∀(i:Nat) r v,rs[i]?=some r->vs[i]?=some v->RR E w.heap 0 i r.1 r.2 v)->
   Calls P f vs.toArray w λe w'=>Y9 w w'/\∃v E',e=.returned v/\Pr P8 E w.heap E' w'.heap/\(∀b o,w'.heap.size<=b->E'.O b o=.other)/\q.2.length=E'.n/\(∀(i:Nat) ob,q.2[i]?=some ob->RO E' w'.heap i ob)/\A99 E' w'.heap s.results q.1 v
def isGo:Bool :=
 match P.funcs[f]? with
 |some fn=>fn.name != "runtime.NumGoroutine"&&fn.body.isSome
 |none=>false
def wI(sz:Nat):Prop :=∀(S:AY)(w:World)(v:Value)(ds:List DV),ds.length<=R6->(∀b o,w.heap.size<=b->¬S b o)->RV S w.heap (.list sz ds) v->Calls P f #[v] w λe w'=>∃(a:Option Addr)(b off cap:Nat),e=.returned (.slice a ds.length cap)/\(ds≠[]->a=some ⟨b,off,none⟩)/\ds.length<=cap/\(a=none->cap=0)/\(∀x,a=some x->x.spot=none)/\w.heap.size<=w'.heap.size/\Y9 w w'/\(∀b',b'<w.heap.size->w'.heap[b']?=w.heap[b']?) /\(ds≠[]->w.heap.size<=b/\∃c T,w'.heap[b]?=some (.cells c T (0,0))/\off+ds.length * sz<=c.size/\0<sz /\∀(j:Nat) d,ds[j]?=some d->∃vs:List Value,vs.length=sz/\(∀(x:Nat) u,vs[x]?=some u->c[off+j * sz+x]?=some u)/\RC S w'.heap d vs)
def A98(g:FuncId)(n:Nat):Prop :=∀(w:World)(vs:Array Value),vs.size=n->Calls P f #[.agg vs] w λe w'=>e=.returned (.func (.func g) #[] #[.pointer (some ⟨w.heap.size,0,none⟩)])/\∃T,w'=w.alloc (.cells vs T)
structure Pt(n:Nat)(E:Env)(w w':World):Prop where
 size:w.heap.size<=w'.heap.size
 blk:∀b,b<w.heap.size->w'.heap[b]?=w.heap[b]?\/(n<=b/\(∃c T f c',w.heap[b]?=some (.cells c T f)/\w'.heap[b]?=some (.cells c' T f)/\c'.size=c.size)/\∀o,E.O b o=.other)
 out:Y9 w w'
def A0A(g:FuncId)(it:List DV->Option (List DV)):Prop :=
 ∀(cs ds:List DV),it cs=some ds->∀(n l b:Nat)(c:Array Value)(T0:TypeId)(J:Nat->Env->World->Prop)(Jx:World->Prop)(E:Env)(W:World),
   W.heap[b]?=some (.cells c T0 (0,0))->(∀o,o<c.size->E.O b o=.other)->FM E.S W.heap cs c.toList->
   (∀k E' W',J k E' W'->∀b o,W'.heap.size<=b->E'.O b o=.other)->
   (∀k E' W1 W2,J k E' W1->Pt W.heap.size E' W1 W2->J k E' W2)->
   (∀k E' W1 d v,J k E' W1->ds[k]?=some d->RV E'.S W1.heap d v->YieldAt Fence.wide n P l #[v] W1 λe W2=>(e=.returned (.bool true)/\∃E2,J (k+1) E2 W2/\Pr P8 E' W1.heap E2 W2.heap)\/(e=.returned (.bool false)/\Jx W2))->
   J 0 E W->CallsIn Fence.wide n P g #[.func (.yield l) #[] #[],.pointer (some ⟨b,0,none⟩)] W λe W'=>(∃v,e=.returned v)/\((∃E',J ds.length E' W')\/Jx W')
structure Iz(C:BQ)(R:O8):Prop where
 p:∀f ds d,R.p f ds=some d->isGo C.P f=true/\B1S C.P f ds d
 r:∀f rs sg q,R.r f rs sg=some q->∃s,C.sig f=some s/\isGo C.P f=true/\B5y C.P f s rs sg q
 c:∀f,C.clone f=true->isGo C.P f=true/\wI C.P f (C.jO f)
 m:∀f g,C.fO f=some g->isGo C.P f=true/\A98 C.P f g (C.jO f)
 i:∀g it,C.iter g=some it->isGo C.P g=true/\A0A C.P g it
structure wM(E E':Env)(tg tg':Tag):Prop where
 hs:∀b o,E.O b o=.Q8->E'.O b o=.Q8
 ht:∀b o,E.O b o=tg->E'.O b o=tg'
 obj:E'.obj=E.obj
 base:E'.base=E.base
 n:E'.n=E.n
 top:E'.top=E.top
 Q9:E'.Q9=E.Q9
variable {E:Env}{E':Env}{tg:Tag}{h:Heap}
def wM.le{tg':Tag}(T:wM E E' tg tg'):AJ E.S h E'.S h:=⟨λb o hs=>T.hs b o hs,λ_ _ _ _ hv=>hv⟩
variable {d:DV}{m:F4}{v:Value}
def M4.to{tg':Tag}(T:wM E E' tg tg')(hl:∀s o,m ≠ .loc s o)(R:M4 E h tg d m v):M4 E' h tg' d m v:=by
 have J4:=T.le (h:=h);have hI:E'.In=E.In:=by funext i;simp only[Env.In,T.n,T.Q9]
 cases m<;>simp only[M4]at R ⊢
 case val=>exact R.mono J4
 case full=>exact⟨R.1.mono J4,R.2⟩
 case own=>obtain⟨r1,sz,ds,r2,r3⟩:=R;refine⟨r1.mono J4,sz,ds,r2,λx len cap hv P6=>?_⟩;obtain⟨c,T',g,e1,e2,e3⟩:=r3 x len cap hv P6;refine⟨c,T',g,e1,e2,λo ho ho'=>?_⟩;obtain⟨e4,e5⟩:=e3 o ho ho';exact⟨T.ht _ _ e4,e5⟩
 case loc s o=>exact absurd rfl (hl s o)
 case Qg ag sz o=>obtain⟨b,o0,r1,r2,r3⟩:=R;exact⟨b,o0,r1,r2.mono J4,r3⟩
 case ptr i o=>rw[T.obj,hI];exact R
 case KX=>exact R
 case map i=>rw[T.obj,hI];exact R
 case Rz=>exact R
 case arr i sz off len=>rw[T.obj,hI,T.base,T.top];exact R
 case opt i sz idx=>rw[T.obj,hI,T.base];exact R
 case Xz i sz idx o=>rw[T.obj,hI,T.base];exact R
 case P9 i n sz len=>rw[T.obj,T.n,T.base,T.top,T.Q9];exact R
 case gK i n sz idx o=>rw[T.obj,T.n,T.base,T.Q9];exact R
 case fn f caps=>rw[T.obj,hI];exact R
 case U0 i n sz=>rw[T.obj,T.n,T.base,T.top,T.Q9];exact⟨R.1.mono J4,R.2⟩
 case Hr ks=>obtain⟨r0,b,clk,r1,r2,r3⟩:=R;exact⟨r0,b,clk,r1,r2,λo=>T.ht _ _ (r3 o)⟩
def RO.to{i:Nat}{ob:E5}(T:wM E E' (.obj i) (.obj i))(hs:∀j b o,E.O b o=.sp 2 i j->E'.O b o=.sp 2 i j)(R:RO E h i ob):RO E' h i ob:=by
 have J4:=T.le (h:=h);cases ob with
 |box cs=>
   simp only[RO]at R ⊢;obtain⟨c,T0,h1,h2,h3,h4⟩:=R;rw[T.obj];refine⟨c,T0,h1,h2,λo=>?_,λj r v hr hv=>?_⟩
   ·rcases h3 o with h5 | h5
    ·exact .inl (T.ht _ _ h5)
    ·exact .inr h5
   ·obtain⟨a1,a2,a3,a4⟩:=h4 j r v hr hv;exact⟨a1,a2,a3,a4.to ⟨T.hs,hs j,T.obj,T.base,T.n,T.top,T.Q9⟩ λs o hm=>by rw[hm]at a3;simp[Z0]at a3⟩
 |arr sz ds=>simp only[RO]at R ⊢;intro hne;obtain⟨c,T0,h1,h2,h3,h4,h5⟩:=R hne;rw[T.obj,T.base];refine⟨c,T0,h1,h2,h3,λo q1 q2=>T.ht _ _ (h4 o q1 q2),λj d hd=>?_⟩;obtain⟨vs,v1,v2,v3⟩:=h5 j d hd;exact⟨vs,v1,v2,v3.mono J4⟩
 |opn sz pre ds=>simp only[RO]at R ⊢;obtain⟨c,T0,f,h1,h2,Pd,hz,h3,h4,h5⟩:=R;rw[T.obj,T.base,T.top];refine⟨c,T0,f,h1,h2,Pd,hz,λo q1 q2=>⟨T.ht _ _ (h3 o q1 q2).1,(h3 o q1 q2).2⟩,λj d hd=>(h4 j d hd).mono J4,λj d hd=>?_⟩;obtain⟨vs,v1,v2,v3⟩:=h5 j d hd;exact⟨vs,v1,v2,v3.mono J4⟩
 |P9 n sz ds=>
   simp only[RO]at R ⊢;obtain⟨hv,hn,hz,R⟩:=R;rw[T.obj,T.base,T.top,T.Q9];refine⟨hv,hn,hz,?_⟩;rcases R with R | ⟨c,T0,f,h1,h2,Pd,h3,h5⟩
   ·exact .inl R
   right;refine⟨c,T0,f,h1,h2,Pd,λo q1 q2=>⟨T.ht _ _ (h3 o q1 q2).1,(h3 o q1 q2).2⟩,λj d hd=>?_⟩;obtain⟨vs,v1,v2,v3⟩:=h5 j d hd;exact⟨vs,v1,v2,v3.mono J4⟩
 |U0 n sz len=>
   simp only[RO]at R ⊢;obtain⟨hv,hn,hz,R⟩:=R;rw[T.obj,T.base,T.top,T.Q9];refine⟨hv,hn,hz,?_⟩;rcases R with R | ⟨c,T0,f,h1,h2,Pd,h3⟩
   ·exact .inl R
   ·exact .inr ⟨c,T0,f,h1,h2,Pd,λo q1 q2=>⟨T.ht _ _ (h3 o q1 q2).1,(h3 o q1 q2).2⟩⟩
 |map ks es=>simp only[RO]at R ⊢;obtain⟨ens,clk,h1,h2,⟨h3,h4⟩,h5⟩:=R;rw[T.obj];exact⟨ens,clk,h1,λo=>T.ht _ _ (h2 o),⟨h3,λj e n g1 g2=>let⟨a1,a2,a3⟩:=h4 j e n g1 g2;⟨a1,a2.mono J4,a3.mono J4⟩⟩,h5⟩
def St.Fb(st:St)(sg:List E5):St:={ st with sg }
section
variable {X:Type}{C:BQ}{R:O8}{o:Oper}{st:St}{k:St->Option X}{x:X}{E:Env}{a:Act}{w:World}{K:Act->World->Prop}{Q:Exit->Act->World->Prop}{h':Heap}
def L6.ext(Rl:L6 E st a h)(P:Pr (λ_=>False) E h E' h')(hn:E'.n=E.n)(hf:∀b o,h'.size<=b->E'.O b o=.other):L6 E' st a h':=by have J4:=P.Q8 (by simp) Rl.fresh;exact⟨Rl.size,Rl.AZ,Rl.CW,by rw[hn];exact Rl.n,λt v hv=>(Rl.Be t v hv).mono P J4 (by simp) (by simp),λs cs hs=>by rw[P.gy s (by simp)];exact(Rl.j4 s cs hs).mono P J4 (by simp) (by simp),λi ob hi=>(Rl.U5 i ob hi).mono P J4 (by rw[<- Rl.n];exact(z0q.1 hi).1) (by simp) (by simp),hf⟩
open Classical in
noncomputable def Env.after(E:Env)(n:Nat)(S':AY):Env:={ E with O:=λb o=>if b<n then E.O b o else if S' b o then .Q8 else .other }
variable {S':AY}
def B3Q(H:Ext E.S h S' h'):Pr (λ_=>False) E h (E.after h.size S') h':=by refine⟨H.size,λb hb=>by rw[H.blk b hb];exact X4.refl _ _,λb o hb _=>?_,zbq _,λ_ _ _=>⟨rfl,rfl,rfl⟩,λ_ _=>rfl,EA rfl⟩;simp only[Env.after];rw[A9 hb]
def B3R(H:Ext E.S h S' h'):AJ S' h' (E.after h.size S').S h':=by
 refine⟨λb o hs=>?_,λ_ _ _ _ hv=>hv⟩;simp only[Env.S,Env.after]
 by_cases hb:b<h.size
 ·rw[A9 hb];exact(H.s b o hb).1 hs
 ·rw[A7 hb,A9 hs]
variable {f:FuncId}
def qE{args:Array Value}(hr:(execOp a.eval o).run C.P w=.ok (.enter f args) w)(hc:Calls C.P f args w λe w'=>∃v,e=.returned v/\K (a.put o.dst v) w'):Gp C.P o a w K :=.inr (.inr ⟨f,args,hr,hc⟩)
variable {P:Program}
def vV(h:isGo P f=true)(args:Array Value)(w:World):(callFunc f args).run P w=.ok (.enter f args) w:=by
 unfold isGo at h;split at h
 ·rename_i fn hf;simp only[zaq,bne_iff_ne,ne_eq]at h;unfold callFunc;obtain⟨c,hc⟩:=zwq.1 h.2;simp[hf,h.1,hc]
 ·simp at h
variable {ts:List TypeId}{xs:List Operand}{rs:List (DV×F4)}
def A4d(Rl:L6 E st a w.heap)(h:Ka P st ts xs=some rs):rs.length=xs.length/\∀(i:Nat) r v,rs[i]?=some r->(xs.map a.eval)[i]?=some v->
 ∃y t,xs[i]?=some y/\v=a.eval y/\src P t st y=some r/\RR E w.heap 0 (fo y) r.1 r.2 v:=by
 obtain⟨l1,l2⟩:=gF h;refine⟨l1,λi r v hr hv=>?_⟩;simp only[zxq,znq]at hv;obtain⟨y,hy,rfl⟩:=hv;obtain⟨t,ht⟩:=l2 i y r hy hr;exact⟨y,t,hy,rfl,ht,Rl.src ht⟩
def B5h{vs:List Value}(hO:Iz C R)(V4:(execOp a.eval o).run C.P w=.ok (.enter f vs.toArray) w)(hl:rs.length=vs.length)(hrs:∀(i:Nat) r v,rs[i]?=some r->vs[i]?=some v->∃p q,RR E w.heap p q r.1 r.2 v)(H:og (rs.all λr=>K6 r.2) (ob (R.p f (rs.map (·.1))) λd=>k (st.put o.dst d .val))=some x)(Rl:L6 E st a w.heap)(T:Then E w k x K):Gp C.P o a w K:=by
 obtain⟨hd,H⟩:=H6 H;obtain⟨d,QT,H⟩:=D6 H;refine qE V4 (((hO.p f _ d QT).2 E.S w vs (λb o hb hs=>by have h9:=Rl.fresh b o hb;rw[show E.O b o=Tag.Q8 from hs]at h9;cases h9) (Wh.2 ⟨by simpa using hl,λi d' v Eo hv=>?_⟩)).mono ?_)
 ·simp only[zxq,znq]at Eo;obtain⟨r,hr,rfl⟩:=Eo;obtain⟨p,q,h⟩:=hrs i r v hr hv;exact h.data (zlq.1 hd r (zkq hr))
 ·rintro e w' ⟨v,S',he,hE,hR,Wz⟩;have P1:=B3Q hE;refine⟨v,he,T _ _ _ w' H ((Rl.ext P1 rfl λb o hb=>?_).put λt0 _=>?_) (P1.j6 (by simp)) Wz⟩
  ·simp only[Env.after]
   have:=hE.size;rw[A7 (by omega),A7 (hE.fresh b o hb)]
  ·exact RR.val (hR.mono (B3R hE))
def Bl:Tag->Tag
 |.Q8=>.Q8
 |.obj i=>.obj i
 |.sp 2 i j=>.sp 2 i j
 |.sp 4 i b=>.sp 0 i b
 |_=>.other
def Wi(t:Nat)(one:Bool):Tag->Tag
 |.Q8=>.Q8
 |.obj i=>.obj i
 |.sp 2 i j=>.sp 2 i j
 |.sp 3 i 0=>.sp 0 t (if one then 0 else i+1)
 |.sp 3 _ (b+1)=>if one then .sp 0 t (b+1)else .other
 |_=>.other
open Classical in
noncomputable def Env.back(E E1:Env)(n:Nat)(t:Nat)(one:Bool):Env :={ E1 with blk:=E.blk,O:=λb o=>if b<n/\Bl (E.O b o)=.other then E.O b o else Wi t one (E1.O b o) }
def aW(g:Option (Nat×Operand))(T:Tag):Tag :=
 match g with
 |some p=>fP p.2 4 p.1 T
 |none=>T
def qw:∀{ks:List MK}{xs:List Operand}{i0:Nat}{p:Nat×Operand},Gg i0 ks xs=some p->i0<=p.1/\(∃k,ks[p.1-i0]?=some k/\EC k=true)/\xs[p.1-i0]?=some p.2
 |[],xs,i0,p,h=>by simp[Gg]at h
 |k::ks,[],i0,p,h=>by simp[Gg]at h
 |k::ks,y::xs,i0,p,h=>by
   simp only[Gg]at h;split at h
   ·rename_i hk;simp only[D8]at h;subst h;exact⟨zbq _,⟨k,by simp,hk⟩,by simp⟩
   ·obtain⟨h1,h2,h3⟩:=qw h;have:p.1-i0=(p.1-(i0+1))+1:=by omega
    exact⟨by omega,by rw[this];simpa using h2,by rw[this];simpa using h3⟩
def lI:∀{ks:List MK}{xs:List Operand}{i0 i:Nat}{k:MK}{y:Operand},(ks.filter EC).length<=1->ks[i]?=some k->EC k=true->xs[i]?=some y->Gg i0 ks xs=some (i0+i,y)
 |[],xs,i0,i,k,y,_,h,_,_=>by simp at h
 |k0::ks,[],i0,i,k,y,_,_,_,h=>by simp at h
 |k0::ks,z::xs,i0,0,k,y,_,h,hk,h2=>by simp only[zgq,D8]at h h2;subst h h2;simp[Gg,hk]
 |k0::ks,z::xs,i0,i+1,k,y,hl,h,hk,h2=>by
   simp only[zrq]at h h2;have A2H:k∈ks.filter EC:=List.mem_filter.2 ⟨zkq h,hk⟩;have hpos:0<(ks.filter EC).length:=List.length_pos_of_mem A2H;have hk0:¬EC k0=true:=by intro h0;simp only[ylq,h0,F6,zzq]at hl;omega
   have:=lI (i0:=i0+1) (xs:=xs) (by simpa[ylq,hk0]using hl) h hk h2;simp only[Gg,A7 hk0];rw[this];congr 2;omega
def y_:∀{ks:List MK}{rs:List (DV×F4)}{i:Nat}{r:DV×F4},(Ji ks rs)[i]?=some r->∃r0,rs[i]?=some r0/\r.1=r0.1/\((∃k,ks[i]?=some k/\EC k=true/\r.2=YV r0.2 k)\/((∀k,ks[i]?=some k->EC k=false)/\r.2=Yz r0.2))
 |[],rs,i,r,h=>by simp only[Ji,zxq,znq]at h;obtain⟨r0,h1,rfl⟩:=h;exact⟨r0,h1,rfl,.inr ⟨by simp,rfl⟩⟩
 |k::ks,[],i,r,h=>by simp[Ji]at h
 |k::ks,r0::rs,0,r,h=>by
   simp only[Ji,zgq,D8]at h;subst h;refine⟨r0,rfl,rfl,?_⟩;cases k
   ·exact .inr ⟨by simp[EC],rfl⟩
   ·exact .inl ⟨_,rfl,rfl,rfl⟩
   ·exact .inr ⟨by simp[EC],rfl⟩
   ·exact .inl ⟨_,rfl,rfl,rfl⟩
 |k::ks,r0::rs,i+1,r,h=>by simp only[Ji,zrq]at h;obtain⟨q,h1,h2,h3⟩:=y_ h;exact⟨q,by simpa using h1,h2,by simpa using h3⟩
def lY:∀{ks:List MK}{rs:List (DV×F4)},(Ji ks rs).length=rs.length
 |[],rs=>by simp[Ji]
 |k::ks,[]=>by simp[Ji]
 |k::ks,r::rs=>by simp[Ji,lY]
def A99.back{E1:Env}{ks:List MK}{ds:List DV}{t:Nat}(R:A99 E1 h ks ds v)(Ak:A5h ks=true)(T:∀i,wM E1 E' (.sp 3 i 0) (.sp 0 t (if ks.length=1 then 0 else i+1)))(T2:ks.length=1->∀b,wM E1 E' (.sp 3 0 (b+1)) (.sp 0 t (b+1))):
 RR E' h 0 t (Oj ks ds).1 (Oj ks ds).2 v:=by
 obtain⟨hl,vs,hv,rfl,H⟩:=R;unfold Oj;split
 ·rename_i k;simp only[zzq,y5q,zfq]at hl hv T T2;obtain⟨d,rfl⟩:=zpq.1 hl;obtain⟨u,rfl⟩:=zpq.1 hv;have:=H 0 k d u rfl rfl rfl;simp only[List.getD_cons_zero];cases k with
  |val=>exact RV.mono (T 0).le d this
  |own=>exact RR.AL (M4.to (T 0) (m:=.own) (by simp) this)
  |ptr=>
    have key:∀m:F4,m.owns=false->(∀s o,m ≠ .loc s o)->M4 E1 h .other (Mx .ptr d).1 m u->M4 E' h (.sp 0 t 0) (Mx .ptr d).1 m u:=by intro m h1 h2 h3;exact M4.to (T 0) h2 (h3.tag h1)
    have hm:(Mx .ptr d).2.owns=false/\∀s o,(Mx .ptr d).2 ≠ .loc s o:=by
     unfold Mx;constructor
     ·simp only;split<;>simp[F4.owns]
     ·intro s o;simp only;split<;>simp
    exact RR.AL (key _ hm.1 hm.2 this)
  |Yb n os=>simp only[B0a,RR,Mx]at this ⊢;obtain⟨ds,us,h1,h2,h3,h4,h5⟩:=this;refine⟨ds,us,h1,h2,h3,h4,λi m' d' u' e1 e2 e3=>?_⟩;obtain⟨a1,a2,a3,a4⟩:=h5 i m' d' u' e1 e2 e3;exact⟨a1,a2,a3,M4.to (T2 trivial i) (λs o hm=>by rw[hm]at a3;simp[Z0]at a3) a4⟩
 ·rename_i hne;have B4z:ks.length≠1:=λh=>by obtain⟨k,hk⟩:=zpq.1 h;exact hne k hk
  have bQ:∀k∈ks,k=.val\/k=.own:=by intro k hk;unfold A5h at Ak;simp only[ypq,beq_iff_eq,B4z,false_or]at Ak;have:=zlq.1 Ak k hk;cases k<;>simp_all
  have hvt:(match vs with | [u]=>u | _=>Value.tuple vs.toArray)=.tuple vs.toArray:=by
   split
   ·simp only[zzq,y5q,zfq]at hv;exact absurd hv.symm B4z
   ·rfl
  rw[hvt];simp only[RR];refine⟨ds,vs.toArray,rfl,rfl,by simp[hl],by simp[hv],λi m' d' u e1 e2 e3=>?_⟩;simp only[zxq,znq]at e1;obtain⟨k,hk,rfl⟩:=e1;have:=H i k d' u hk e2 (by simpa using e3);have T1:=T i;rw[A7 B4z]at T1;rcases bQ k (zkq hk)with rfl | rfl
  ·exact⟨rfl,RV.mono T1.le d' this⟩
  ·exact⟨rfl,M4.to T1 (m:=.own) (by simp) this⟩
variable {g:Option (Nat×Operand)}
theorem Em{T:Tag}(h:∀p s b,g=some p->p.2=.tmp s->T ≠ .sp 0 s b):aW g T=T:=by
 unfold aW;split
 ·rename_i p;exact Qb λs b hs=>h p s b rfl hs
 ·rfl
def A8F(Rl:L6 E st a h):L6 (E.re (aW g)) (st.Jf g) a h:=by
 cases g with
 |none=>simp only[St.Jf];exact(Rl.release (x:=.const .nilIface) (f:=aW none) λT _=>rfl)
 |some p=>exact Rl.release λT hT=>Em λp' s b hp hs=>by simp only[D8]at hp;subst hp;exact hT s b hs
def B6k(h:K6 m=true):K6 (dm m)=true:=by
 cases m<;>first | rfl | (simp[K6]at h;done) | skip
 rename_i ms;simp only[K6,dm,List.all_map]at h ⊢;refine zlq.2 λm hm=>?_;have:=zlq.1 h m hm;cases m<;>simp_all[Xy]
def B7Q{E:Env}{k a:Nat}(R:RR E h k a d m v):RR E h k a d (Yz m) v:=by
 unfold Yz;split
 ·rename_i hd;exact RR.val (R.data hd)
 ·exact R.dm
def A3Y:∀{os:List Nat}{ms:List F4}{i0 i:Nat}{m:F4},(fV os i0 ms)[i]?=some m->∃m0,ms[i]?=some m0/\m=if os.contains (i0+i)then Pj m0 else Yz m0
 |os,[],i0,i,m,h=>by simp[fV]at h
 |os,m0::ms,i0,0,m,h=>by simp only[fV,zgq,D8]at h;exact⟨m0,rfl,h.symm⟩
 |os,m0::ms,i0,i+1,m,h=>by simp only[fV,zrq]at h;obtain⟨m1,h1,h2⟩:=A3Y h;exact⟨m1,by simpa using h1,by rw[h2,zQq,Nat.add_comm 1 i]⟩
def cO:∀{os:List Nat}{ms:List F4}{i0:Nat},(fV os i0 ms).length=ms.length
 |os,[],i0=>rfl
 |os,m::ms,i0=>by simp[fV,cO]
def M4.Pj{E:Env}(R:M4 E h tg d m v):M4 E h tg d (Su.Pj m) v:=by cases m<;>first | exact R | exact R.nu
def M4.Yz{E:Env}(hm:Z0 m=true)(R:M4 E h tg d m v):M4 E h tg d (Su.Yz m) v/\Z0 (Su.Yz m)=true:=by
 unfold Su.Yz;split
 ·rename_i hd;refine⟨?_,rfl⟩;have Eo:YO m=true:=by cases m<;>simp_all[K6,Z0,YO]
  exact jF Eo R
 ·exact⟨R.Bc hm,(Su.Bc hm).2.1⟩
def A3X{E:Env}{k a:Nat}{q:MK}(hq:EC q=true)(R:RR E h k a d m v):RR E h k a d (YV m q) v:=by
 cases q with
 |val=>cases hq
 |ptr=>cases hq
 |own=>
   by_cases hm:m=.full
   ·subst hm;exact RR.AL (M4.nu (RR.wD (by simp) (by simp) R))
   ·have:YV m .own=m:=by unfold YV;split<;>simp_all
    rw[this];exact R
 |Yb n os=>
   by_cases hm:∃ms,m=.EZ ms
   ·obtain⟨ms,rfl⟩:=hm;simp only[YV,RR]at R ⊢;obtain⟨ds,vs,h1,h2,h3,h4,h5⟩:=R;refine⟨ds,vs,h1,h2,by rw[cO];exact h3,by rw[cO];exact h4,λi m' d' u e1 e2 e3=>?_⟩;obtain⟨m0,g1,rfl⟩:=A3Y e1;obtain⟨a1,a2,a3,a4⟩:=h5 i m0 d' u g1 e2 e3;split
    ·exact⟨a1,a2,by cases m0<;>simp_all[Su.Pj,Z0],a4.Pj⟩
    ·exact⟨a1,a2,(a4.Yz a3).2,(a4.Yz a3).1⟩
   ·have:YV m (.Yb n os)=Yz m:=by unfold YV;split<;>first | rfl | (rename_i h1 h2;simp_all)
    rw[this];exact B7Q R
def B66{s:j3}{extra:List (DV×F4)}{ev:List Value}(hO:Iz C R)(hs:C.sig f=some s)(V4:(execOp a.eval o).run C.P w=.ok (.enter f (xs.map a.eval++ev).toArray) w)(hsr:Ka C.P st ts xs=some rs)(yZ:extra.length=ev.length)(IV:∀(i:Nat) r v,extra[i]?=some r->ev[i]?=some v->∀p q,RR E w.heap p q r.1 r.2 v/\r.2 ≠ .own/\r.2 ≠ .full)(H:og (((rs++extra).all λr=>B5P r.2)&&decide ((s.params.filter EC).length<=1)&&A5h s.results)
   (ob (R.r f (Ji s.params (rs++extra)) st.sg) λq=>cZ s.results q.1 λr=>k (({ st with sg:=q.2 }.Jf (Gg 0 s.params xs)).put o.dst r.1 r.2))=some x)(Rl:L6 E st a w.heap)(T:Then E w k x K):Gp C.P o a w K:=by
 obtain⟨hg,H⟩:=H6 H;obtain⟨q,hq,H⟩:=D6 H;have H:=(yx H).1;simp only[zaq,I6]at hg;obtain⟨⟨hgo,bW⟩,C0m⟩:=hg;obtain⟨s',Db,C00,hR⟩:=hO.r f _ _ q hq;rw[hs]at Db;cases Db;generalize hgd:Gg 0 s.params xs=g at H;have yE:L6 (E.re (aW g)) (st.Jf g) a w.heap:=A8F Rl;have sg0:(st.Jf g).sg=st.sg:=by
  cases g with
  |none=>rfl
  |some p=>simp only[St.Jf];cases p.2<;>rfl
 generalize hE0:E.re (aW g)=E0 at yE;have E0n:E0.n=E.n:=by rw[<- hE0];rfl
 obtain⟨l1,l2⟩:=A4d Rl hsr;have FD:(xs.map a.eval++ev).length=(Ji s.params (rs++extra)).length:=by rw[lY];simp[l1,yZ]
 have cs:Bl .Q8=.Q8:=rfl;have co:Bl .other=.other:=rfl;refine qE V4 ((hR (E0.re Bl) w (xs.map a.eval++ev) (λb o hb=>?_) ?_ (λi ob hi=>?_) FD (λi r v hr hv=>?_)).mono ?_)
 ·simp only[Env.re];rw[yE.fresh b o hb];rfl
 ·rw[<- sg0];exact yE.n
 ·have:=yE.U5 i ob (by rw[sg0];exact hi);exact RO.to (E:=E0) ⟨λb o h=>by simp only[Env.re];rw[h];rfl,λb o h=>by simp only[Env.re];rw[h];rfl,rfl,rfl,rfl,rfl,rfl⟩ (λj b o h=>by simp only[Env.re];rw[h];rfl) this
 ·obtain⟨r0,h1,h2,h3⟩:=y_ hr;have B8A:∀(p q:Nat)(m:F4),RR E w.heap p q r0.1 m v->RR (E0.re Bl) w.heap 0 i r0.1 (dm m) v:=by
   intro p q m hh;have h1:RR E w.heap 2 0 r0.1 (dm m) v:=hh.dm;have h2:RR E0 w.heap 2 0 r0.1 (dm m) v:=by rw[<- hE0];exact h1.re (Em (by simp)) (Em (by simp)) λb=>Em (by simp)
   have h3:RR (E0.re Bl) w.heap 2 0 r0.1 (dm m) v:=h2.re rfl rfl λb=>rfl;exact h3.A5E
  have B5Q:∀(p q:Nat)(m:F4),RR E w.heap p q r0.1 m v->RR (E0.re Bl) w.heap 0 i r0.1 (Yz m) v:=by
   intro p q m hh;have h0:=B8A p q m hh;unfold Yz;split
   ·rename_i hd;exact RR.val (RR.data (B6k hd) h0)
   ·exact h0
  rw[h2];by_cases hi:i<rs.length
  ·rw[z4q hi]at h1;have Pf:(xs.map a.eval)[i]?=some v:=by rwa [z4q (by simpa[l1]using hi)]at hv
   obtain⟨y,t,hy,rfl,hsy,hRy⟩:=l2 i r0 v h1 Pf;rcases h3 with⟨kk,h4,bV,h5⟩ | ⟨h4,h5⟩
   ·rw[h5];have hp:Gg 0 s.params xs=some (0+i,y):=lI bW h4 bV hy;rw[zfq,hgd]at hp;subst hp;have h6:RR E0 w.heap 4 i r0.1 r0.2 (a.eval y):=by
     rw[<- hE0];by_cases hyt:∃j,y=.tmp j
     ·obtain⟨j,rfl⟩:=hyt;exact hRy.re (Em (by simp)) (Em (by simp)) λb=>by simp[aW,fP,fo]
     ·exact(L6.A9X hsy (λj hj=>hyt ⟨j,hj⟩) 4 i).re (Em (by simp)) (Em (by simp)) λb=>Em (by simp)
    have h7:RR (E0.re Bl) w.heap 0 i r0.1 r0.2 (a.eval y):=h6.re rfl rfl λb=>rfl;exact A3X bV h7
   ·rw[h5];exact B5Q _ _ _ hRy
  ·have hge:rs.length<=i:=zNq hi;rw[z6q hge]at h1;rw[z6q (by simpa[l1]using hge)]at hv;simp only[zUq,<- l1]at hv;obtain⟨h6,h7,h8⟩:=IV _ r0 v h1 hv 2 0;have h9:=B5Q 2 0 _ h6;rcases h3 with⟨kk,h4,bV,h5⟩ | ⟨h4,h5⟩
   ·rw[h5];have ZG:RR E0 w.heap 4 i r0.1 r0.2 v:=by rw[<- hE0];exact(IV _ r0 v h1 hv 4 i).1.re (Em (by simp)) (Em (by simp)) λb=>Em (by simp)
    exact A3X bV (ZG.re rfl rfl λb=>rfl)
   ·rw[h5];exact h9
 ·rintro e w' ⟨Wz,v,E1,he,P1,hf1,hn1,ho1,B4B⟩;subst he;generalize ht:o.dst.getD 0=t
  let one:Bool:=decide (s.results.length=1)
  have oD:∀i:Nat,(if one=true then 0 else i+1)=(if s.results.length=1 then 0 else i+1):=λi=>by simp[one]
  let E':Env:=E0.back E1 w.heap.size t one
  have B8B:∀b o,E1.O b o ≠ .other->¬(b<w.heap.size/\Bl (E0.O b o)=.other):=by rintro b o h1 ⟨h2,h3⟩;have:=P1.tags b o h2 (by simp only[Env.re];rw[h3];simp[P8]);simp only[Env.re]at this;rw[h3]at this;exact h1 this
  have hO':∀b o T,E1.O b o=T->T ≠ .other->E'.O b o=Wi t one T:=by intro b o T h1 h2;show(if b<w.heap.size/\Bl (E0.O b o)=.other then E0.O b o else Wi t one (E1.O b o))=_;rw[A7 (B8B b o (by rw[h1];exact h2)),h1]
  have Pc:Pr (λT=>P8 (Bl T)) E0 w.heap E' w'.heap:=by
   refine⟨P1.size,λb hb=>P1.blk b hb,λb o hb hn=>?_,P1.n,λi hi hv=>P1.U5 i hi hv,λ_ _=>rfl,λi hi=>P1.OE i hi⟩;show(if b<w.heap.size/\Bl (E0.O b o)=.other then E0.O b o else Wi t one (E1.O b o))=_;by_cases hc:Bl (E0.O b o)=.other
   ·rw[A9 ⟨hb,hc⟩]
   ·rw[A7 λh=>hc h.2];have hsh:Bl (E0.O b o)=.Q8:=by
     by_cases hs:Bl (E0.O b o)=.Q8
     ·exact hs
     ·exact absurd ⟨hc,hs⟩ hn
    have h2:=P1.tags b o hb (by simp only[Env.re];exact hn);simp only[Env.re]at h2;rw[h2,hsh];have:E0.O b o=.Q8:=by revert hsh;unfold Bl;split<;>simp_all
    rw[this];rfl
  have J4:=Pc.Q8 (by simp[P8,Bl]) yE.fresh;have R2:L6 E' ((st.Jf g).Fb q.2) a w'.heap:=by
   refine⟨yE.size,yE.AZ,yE.CW,hn1,λu v' hu=>?_,λs' cs' Db=>?_,λi ob hi=>?_,λb o hb=>?_⟩
   ·exact(yE.Be u v' hu).mono Pc J4 (λb=>by simp[P8,Bl]) (λs o _=>by simp[P8,Bl])
   ·exact(yE.j4 s' cs' Db).mono Pc J4 (by simp[P8,Bl]) (λj=>by simp[P8,Bl])
   ·exact(ho1 i ob hi).to ⟨λb o h=>hO' b o _ h (by simp),λb o h=>hO' b o _ h (by simp),rfl,rfl,rfl,rfl,rfl⟩ λj b o h=>hO' b o _ h (by simp)
   ·show(if b<w.heap.size/\Bl (E0.O b o)=.other then E0.O b o else Wi t one (E1.O b o))=_;have:=P1.size;rw[A7 (by omega),hf1 b o hb];rfl
  refine⟨v,rfl,T E' _ _ w' ?_ (R2.put (dst:=o.dst) (d:=(Oj s.results q.1).1) (m:=(Oj s.results q.1).2) (v:=v) λt0 ht0=>?_) ?_ Wz⟩
  ·rw[<- H];congr 1;cases g with
   |none=>rfl
   |some p=>simp only[St.Jf];cases p.2<;>rfl
  ·have htt:t=t0:=by rw[<- ht,ht0];rfl
   rw[<- htt];exact B4B.back C0m (λi=>⟨λb o h=>hO' b o _ h (by simp),λb o h=>by rw[hO' b o _ h (by simp)];simp only[Wi];rw[oD],rfl,rfl,rfl,rfl,rfl⟩)
    λh1 i=>⟨λb o h=>hO' b o _ h (by simp),λb o h=>by rw[hO' b o _ h (by simp)];simp[Wi,one,h1],rfl,rfl,rfl,rfl,rfl⟩
  ·have P0:Pr P8 E w.heap E0 w.heap:=by rw[<- hE0];exact Pr.re λT hT=>Em λp s b _ _ he=>hT (by rw[he];simp[P8])
   refine P0.trans (Pc.j6 λT hT=>⟨λh=>?_,λh=>?_⟩)
   ·rw[h]at hT;simp[P8,Bl]at hT
   ·rw[h]at hT;simp[P8,Bl]at hT
end
end
section
variable {X:Type}{C:BQ}{R:O8}{o:Oper}{st:St}{k:St->Option X}{x:X}{E:Env}{a:Act}{w:World}{K:Act->World->Prop}
end
section
variable {X:Type}{C:BQ}{R:O8}{o:Oper}{st:St}{k:St->Option X}{x:X}{E:Env}{a:Act}{w:World}{K:Act->World->Prop}{Q:Exit->Act->World->Prop}
def Env.A2a(E:Env)(i n:Nat):Env:={ E with Q9:=λj=>if j=i then n else E.Q9 j }
def Env.A95(E:Env)(i n b hi:Nat):Env :={ E with obj:=λj=>if j=i then b else E.obj j,base:=λj=>if j=i then 0 else E.base j,top:=λj=>if j=i then hi else E.top j,Q9:=λj=>if j=i then n else E.Q9 j,O:=λb' o=>if b'=b then(if o<hi then .obj i else .other)else if E.O b' o=.obj i then .other else E.O b' o }
def B3J{E:Env}{h:Heap}{i b off top n sz:Nat}{ds es:List DV}{all all':List Value}{c:Array Value}{T:TypeId}{f:Nat×Nat}(ho:E.obj i=b)(hb:E.base i=off)(ht:E.top i=top)(hv:E.Q9 i=n)(hn:0<n)(hpos:0<sz)(hc:h[b]?=some (.cells c T f))(BN:off+(ds.length+es.length) * sz<=top)(IU:top<=c.size)(tags:∀o,off<=o->o<top->E.O b o=.obj i/\¬(f.1<=o/\o<f.2))(F:Ij E.S h sz ds all)(G:Ij E.S h sz es all')(cells:∀(j:Nat) u,all[j]?=some u->c[off+j]?=some u)(cells':∀(j:Nat) u,all'[j]?=some u->c[off+ds.length * sz+j]?=some u):RO E h i (.P9 n sz (ds++es)):=by
 simp only[RO];rw[ho,hb,ht];refine⟨hv,hn,hpos,.inr ⟨c,T,f,hc,by rw[ygq];exact BN,IU,tags,λj d hd=>?_⟩⟩;by_cases hj:j<ds.length
 ·rw[z4q hj]at hd;obtain⟨vs,v1,v2,v3⟩:=F.2 j d hd;exact⟨vs,v1,λy u hu=>by rw[zQq];exact cells _ u (v2 y u hu),v3⟩
 ·rw[z6q (by omega)]at hd;obtain⟨vs,v1,v2,v3⟩:=G.2 _ d hd;refine⟨vs,v1,λy u hu=>?_,v3⟩;have:=cells' _ u (v2 y u hu);have e:j * sz=ds.length * sz+(j-ds.length) * sz:=by rw[<- zqq];congr 1;omega
  rw[e]
  rwa [show off+(ds.length * sz+(j-ds.length) * sz)+y=off+ds.length * sz+((j-ds.length) * sz+y)by omega]
def B5v{E:Env}{h:Heap}{i n sz m:Nat}{ds:List DV}(H:RO E h i (.P9 n sz ds))(hm:m<=ds.length):∃all,Ij E.S h sz (ds.take m) all/\∀(j:Nat) u,all[j]?=some u->hc h (E.obj i) (E.base i+j)=some u:=by
 simp only[RO]at H;obtain⟨-,-,hz,H⟩:=H;rcases H with⟨rfl,-⟩ | ⟨c,T,f,h1,h2,Pd,h3,h5⟩
 ·have:m=0:=by simpa using hm
  subst this;exact⟨[],⟨by simp,by simp⟩,by simp⟩
 have hmul:m * sz<=ds.length * sz:=z9q _ hm;have Cz:(c.toList.drop (E.base i)).take (m * sz)=(c.toList.drop (E.base i)).take (m * sz):=rfl;refine⟨(c.toList.drop (E.base i)).take (m * sz),⟨?_,λj d hd=>?_⟩,λj u hu=>?_⟩
 ·simp only[zTq,List.length_drop,yfq]
  rw[ymq (by omega),ymq hm]
 ·have hj:j<m:=by have:=(z0q.1 hd).1;simp only[zTq]at this;omega
  rw[zFq hj]at hd;obtain⟨vs,v1,v2,v3⟩:=h5 j d hd;refine⟨vs,v1,λy u hu=>?_,v3⟩;have hy:y<sz:=by have:=(z0q.1 hu).1;omega
  have P6:j * sz+y<m * sz:=by
   calc j * sz+y<j * sz+sz:=by omega
    _=(j+1) * sz:=by rw[zAq]
    _<=m * sz:=z9q _ hj
  rw[zFq P6,yhq,<- zQq,y6q];exact v2 y u hu
 ·have hj:j<m * sz:=by have:=(z0q.1 hu).1;simp only[zTq]at this;omega
  rw[zFq hj,yhq,y6q]at hu;unfold hc;rw[h1];exact hu
variable {fl:H8}
def B5j{c:Call}{y v:Operand}{t u:TypeId}(F7:o.op=.call c)(zm:c.callee=.builtin .append)(ha:c.args.toList=[y,v])(ht:c.argTypes.toList=[t,u])(QU:I8 fl.Oy o.dst=false)(Ph:I8 fl.Dn o.dst=true)(H:D_ C fl o y v t u st k=some x)(Rl:L6 E st a w.heap)(T:Then E w k x K):Gp C.P o a w K:=by
 unfold D_ at H;rw[A7 (by rw[QU];simp),A9 Ph]at H;unfold A1e at H;obtain⟨r,h1,H⟩:=D6 H;obtain⟨s,h2,H⟩:=D6 H;obtain⟨sz,Cz,H⟩:=D6 H;obtain⟨yX,H⟩:=H6 H;simp only[zaq]at yX;obtain⟨VO,EO⟩:=yX;obtain⟨t0,EO⟩:=zwq.1 EO;obtain⟨e,e',z,inf,zv,hu,Du,hz,Hq,hpos,Am,VN,Ro,WT⟩:=Ui Cz;have e1:=Rl.src h1;have e2:=(Rl.src h2).data VO;have Cy:inf.size=sz:=by obtain⟨i',d',q1,-,q2,-⟩:=Ib hz;rw[Am]at q1;simp only[D8]at q1;rw[<- Hq,q2,q1]
 have V4:∀v' w',(Builtin.append_ #[t,u] o.type #[a.eval y,a.eval v]).run C.P w=.ok v' w'->(execOp a.eval o).run C.P w=.ok (.value v') w':=by intro v' w' hv;refine Hg F7 zm ?_;rw[Oc ht,show c.args.map a.eval=#[a.eval y,a.eval v]from by rw[Oc ha];simp];exact CL hv
 rw[EO]at H;have hn:=Rl.n;obtain⟨q,hq,H⟩:=D6 H
 ·have hm:=A19 hq;rw[hm]at e1;simp only[RR,M4]at e1;obtain⟨p,hp,H⟩:=D6 H;obtain⟨hg,H⟩:=H6 H;obtain⟨d2,hd,H⟩:=D6 H;simp only[zaq,beq_iff_eq,I6]at hg;obtain⟨⟨g1,g2⟩,g3⟩:=hg;have hpv:=Zu hp;clear hp;obtain⟨i,n,sz',len⟩:=q;obtain⟨psz,ds⟩:=p;simp only at g1 g2 g3 hpv e1 H;have g1:=g1.symm;have g2:=g2.symm;subst g1;subst g2;obtain⟨ds',es,hr,hs,Yj,hne,rfl⟩:=mP hd;simp only[DV.list.injEq,true_and]at hr;subst hr;simp only at H;rw[hs]at e2;obtain⟨b',len',cap',all',ev',k1,k2,k3,k4,k5,k6,k7⟩:=LH (P:=C.P) e2;obtain⟨r1,r2,r3,b,cap,ev,f2,f3,f4,f5⟩:=e1;have B:=Rl.U5 i _ hpv;have BB:=B;simp only[RO]at BB;obtain⟨bv,b0,-,BB⟩:=BB;have f5:=f5 bv;obtain⟨all,F,Fc⟩:=B5v B g3;have P6:(ds.take len).length=len:=by rw[zTq];omega
  have Mq:Builtin.lenOf (a.eval v)=pure len':=by rw[ev'];rfl
  have oD:=k4.one hpos;have hal:all.length=len * sz:=by rw[F.1,P6]
  have B4t:all'.length=len' * sz:=by rw[k4.1,k1]
  have Ig:=(z0q.1 hpv).1;have hln:0<len':=by omega
  have wX:(len+len') * sz=len * sz+len' * sz:=zqq _ _ _;by_cases BN:len+len'<=cap
  ·obtain⟨hb,zu⟩:=f5 (by omega);subst hb;have ug:0<cap * sz:=y8q (by omega) hpos;obtain⟨cc,TT,f,c1,c2,c2',c3,c5⟩:=BB.resolve_left λh=>by have:=h.2;omega
   have hmul:(len+len') * sz<=cap * sz:=z9q _ BN;obtain⟨w',hw,S⟩:=Jh (P:=C.P) (b:=E.obj i) (T:=TT) (f:=f) (E.base i+len * sz) all' cc 0 w c1 (by omega) oD (λo' h3 h4=>(c3 o' (by omega) (by omega)).2);have AV:(Builtin.append_ #[t,u] o.type #[a.eval y,a.eval v]).run C.P w=.ok (.slice (some ⟨E.obj i,E.base i,none⟩) (len+len') cap) w':=by rw[ev];refine IY hu Du Am Mq (by rw[Cy];exact k7 w rfl) BN ?_;rw[Cy,Addr.add_lit];exact hw
   simp only[zBq]at S;have vE:(E.A2a i (n+1)).Q9 i=n+1:=A9 rfl;have PS:Pr (λT=>T=.obj i) E w.heap (E.A2a i (n+1)) w'.heap:=by
    refine⟨zJq S.size.symm,λb1 LM=>?_,λb1 o1 LM hT=>rfl,zbq _,λj hj _=>⟨rfl,rfl,rfl⟩,λ_ _=>rfl,λj hj=>?_⟩
    ·by_cases VM:b1=E.obj i
     ·subst VM;rw[c1];obtain⟨c',q1,q2,q3⟩:=S.ex;refine⟨c',q1,q2,λj hj=>?_⟩;rw[q3 j,A7];rintro⟨q4,q5⟩;exact hj (c3 j (by omega) (by omega)).1
     ·rw[S.rest b1 VM];exact X4.refl _ _
    ·by_cases WP:j=i
     ·subst WP;rw[vE];exact⟨λh=>by omega,by omega,λh=>absurd rfl h⟩
     ·have:(E.A2a i (n+1)).Q9 j=E.Q9 j:=A7 WP;rw[this];exact⟨id,zbq _,λ_=>rfl⟩
   have CQ:=PS.Q8 (by simp) Rl.fresh;have R2:L6 (E.A2a i (n+1)) { st with sg:=st.sg.set i (.P9 (n+1) sz (ds.take len++es)) } a w'.heap:=by
    refine⟨Rl.size,Rl.AZ,Rl.CW,by simpa[Env.A2a]using hn,λq vq hq=>(Rl.Be q vq hq).mono PS CQ (by simp) (by simp),λs' cs' Db=>(Rl.j4 s' cs' Db).mono PS CQ (by simp) (by simp),λi' ob hi=>?_,λb1 o1 LM=>Rl.fresh b1 o1 (by rw[<- S.size];exact LM)⟩;by_cases Ce:i=i'
    ·subst Ce;simp only[z2q Ig,D8]at hi;subst hi;obtain⟨c',q1,q2,q3⟩:=S.ex;refine B3J (all:=all) (all':=all') (off:=E.base i) (top:=E.top i) rfl rfl rfl vE (zCq _) hpos q1 (by rw[P6];rw[<- k1];omega) (by rw[q2];exact c2') (λo' h3 h4=>c3 o' h3 h4) (F.mono CQ) (k4.mono CQ) (λj u hu=>?_) λj u hu=>?_
     ·have bT:j<all.length:=(z0q.1 hu).1;have:=Fc j u hu;unfold Su.hc at this;rw[c1]at this;rw[q3,A7 (by omega)];exact this
     ·have bT:j<all'.length:=(z0q.1 hu).1;rw[P6,q3,A9 (by omega),<- hu];congr 1;omega
    ·simp only[z1q Ce]at hi;exact(Rl.U5 i' ob hi).mono PS CQ (CE Rl hi) (by simp;exact λh=>Ce h.symm) (by simp)
   refine Au (V4 _ _ AV) (T _ _ _ w' H ?_ (PS.j6 (by rintro T rfl;simp[P8])) S.out);rw[EO];refine R2.put λt1 ZL=>?_;refine RR.AL ⟨r1,zCq _,by rw[vE];exact zbq _,some ⟨E.obj i,E.base i,none⟩,cap,by rw[P6,k1],by rw[P6,<- k1];exact BN,by simp,λ_ q hq=>?_,λ_ _=>⟨rfl,zu⟩⟩;simp only[D8]at hq;rw[<- hq]
  ·-- a new block
   have B75:∀w':World,w'.heap=w.heap->(Builtin.firstCells inf.size len (.slice b len cap)).run C.P w'=.ok all.toArray w':=by
    intro w' hw';cases b with
    |none=>have h0:=f3 rfl;have h9:all=[]:=zhq (by rw[hal,show len=0 by omega];simp);rw[h9,show len=0 by omega];rfl
    |some y'=>
      show(loadCells y' (len * inf.size)).run C.P w'=_;rw[Cy];by_cases h0:0<cap
      ·obtain⟨hb,-⟩:=f5 h0;simp only[D8]at hb;rw[<- hal,hb];exact W_ (λj u hu=>by rw[hw'];exact Fc j u hu)
      ·have h9:all=[]:=zhq (by rw[hal,show len=0 by omega];simp);rw[h9,show len=0 by omega,zKq];rfl
   obtain⟨nc,hnc,AV⟩:=run_append_grow (ty:=o.type) (b:=b) hu Du Am Mq (by rw[Cy];exact k7) B75 Ro BN (by unfold R6 at Yj;rw[P6]at Yj;omega) VN;rw[<- ev]at AV;have QY:(Builtin.zeroCells zv.cells (nc-(len+len'))).toList.length=(nc-(len+len')) * sz:=by simp[Builtin.zeroCells,WT]
   have B4D:(len+len') * sz+(nc-(len+len')) * sz=nc * sz:=by rw[<- zqq];congr 1;omega
   generalize hzc:(Builtin.zeroCells zv.cells (nc-(len+len'))).toList=zc at AV QY
   let E2:=E.A95 i (n+1) w.heap.size (nc * sz)
   have vE:E2.Q9 i=n+1:=A9 rfl;have oE:E2.obj i=w.heap.size:=A9 rfl;have bE:E2.base i=0:=A9 rfl;have tE:E2.top i=nc * sz:=A9 rfl;have PS:Pr (λT=>T=.obj i) E w.heap E2 (w.heap.push (.cells (all++all'++zc).toArray e)):=by
    refine Pr.push (λb1 o1 LM hT=>?_) (zbq _) (λj hj hvj=>?_) (λ_ _=>rfl) (λj hj=>?_)
    ·show(if _ then _ else _)=_;rw[A7 (by omega),A7 hT]
    ·have WP:j≠i:=λh=>by subst h;rw[vE]at hvj;omega
     refine⟨?_,?_,?_⟩<;>(show(if _ then _ else _)=_;rw[A7 WP])
    ·by_cases WP:j=i
     ·subst WP;rw[vE];exact⟨λh=>by omega,by omega,λh=>absurd rfl h⟩
     ·have:E2.Q9 j=E.Q9 j:=A7 WP;rw[this];exact⟨id,zbq _,λ_=>rfl⟩
   have CQ:=PS.Q8 (by simp) Rl.fresh;have Gz:∀(j:Nat),hc (w.heap.push (.cells (all++all'++zc).toArray e)) w.heap.size j=(all++all'++zc)[j]?:=λj=>by rw[kU];simp
   have R2:L6 E2 { st with sg:=st.sg.set i (.P9 (n+1) sz (ds.take len++es)) } a (w.heap.push (.cells (all++all'++zc).toArray e)):=by
    refine⟨Rl.size,Rl.AZ,Rl.CW,by simpa[E2,Env.A95]using hn,λq vq hq=>(Rl.Be q vq hq).mono PS CQ (by simp) (by simp),λs' cs' Db=>(Rl.j4 s' cs' Db).mono PS CQ (by simp) (by simp),λi' ob hi=>?_,λb1 o1 LM=>?_⟩
    ·by_cases Ce:i=i'
     ·subst Ce;simp only[z2q Ig,D8]at hi;subst hi;refine B3J (all:=all) (all':=all') oE bE tE vE (zCq _) hpos Jv (by rw[P6,<- k1];omega) (by simp;omega) (λo' h3 h4=>⟨?_,by simp⟩) (F.mono CQ) (k4.mono CQ) (λj u hu=>?_) λj u hu=>?_
      ·show(if _ then _ else _)=_;rw[A9 rfl,A9 h4]
      ·have bT:j<all.length:=(z0q.1 hu).1;rw[zfq,zMq,zLq,z4q bT];exact hu
      ·have bT:j<all'.length:=(z0q.1 hu).1;rw[P6,zfq,zMq,zLq,z6q (by omega),z4q (by omega),<- hu];congr 1;omega
     ·simp only[z1q Ce]at hi;exact(Rl.U5 i' ob hi).mono PS CQ (CE Rl hi) (by simp;exact λh=>Ce h.symm) (by simp)
    ·simp only[zXq]at LM;show(if _ then _ else _)=_;rw[A7 (by omega),A7]
     ·exact Rl.fresh b1 o1 (by omega)
     ·rw[Rl.fresh b1 o1 (by omega)];simp
   refine Au (V4 _ _ AV) (T _ _ _ (w.drew.alloc (.cells (all++all'++zc).toArray e)) H ?_ (PS.j6 (by rintro T rfl;simp[P8])));rw[EO];refine R2.put λt1 ZL=>?_;refine RR.AL ⟨r1,zCq _,by rw[vE];exact zbq _,some ⟨w.heap.size,0,none⟩,nc,by rw[P6,k1],by rw[P6,<- k1];exact hnc,by simp,λ_ q hq=>?_,λ_ _=>⟨by rw[oE,bE],by rw[bE,tE,zfq];exact zbq _⟩⟩;simp only[D8]at hq;rw[<- hq]
def Env.B5G(E:Env)(i n b lo hi:Nat):Env:={ E with Q9:=λj=>if j=i then n else E.Q9 j,O:=λb' o=>if b'=b/\lo<=o/\o<hi then .Q8 else E.O b' o }
def Env.A9s(E:Env)(i n b lo hi:Nat):Env :={ E with obj:=λj=>if j=i then b else E.obj j,base:=λj=>if j=i then 0 else E.base j,top:=λj=>if j=i then hi else E.top j,Q9:=λj=>if j=i then n else E.Q9 j,O:=λb' o=>if b'=b then(if o<lo then .Q8 else if o<hi then .obj i else .other)else if E.O b' o=.obj i then .other else E.O b' o }
def A8G{sg:List E5}{i n sz:Nat}{d s:DV}{p:DV×List E5}(h:Sb sg i n sz d s=some p):∃ds es,d=.list sz ds/\s=.list sz es/\sg[i]?=some (.U0 n sz ds.length)/\ds.length+es.length<=R6/\es≠[]/\p=(.list sz (ds++es),sg.set i (.U0 (n+1) sz (ds.length+es.length))):=by
 unfold Sb at h;split at h
 ·rename_i n' sz' len hg;obtain⟨⟨h1,h2⟩,h⟩:=M5 h;subst h1 h2;obtain⟨q,hq,h⟩:=D6 h;obtain⟨ds,es,q1,q2,q3,q4,rfl⟩:=mP hq;obtain⟨h3,h5⟩:=M5 h;have h3:len=ds.length:=h3;have h5:=Option.some.inj h5;rw[h3]at hg;exact⟨ds,es,q1,q2,hg,q3,yaq.1 q4,h5.symm⟩
 ·cases h
theorem B0N{m:F4}{q:Nat×Nat×Nat}(h:B0M m=some q):m=.U0 q.1 q.2.1 q.2.2:=by cases m<;>simp only[B0M,D8,reduceCtorEq]at h;subst h;rfl
def B5e{c:Call}{y v:Operand}{t u:TypeId}(F7:o.op=.call c)(zm:c.callee=.builtin .append)(ha:c.args.toList=[y,v])(ht:c.argTypes.toList=[t,u])(QU:I8 fl.Oy o.dst=true)(H:D_ C fl o y v t u st k=some x)(Rl:L6 E st a w.heap)(T:Then E w k x K):Gp C.P o a w K:=by
 unfold D_ at H;rw[A9 QU]at H;unfold A1b at H;obtain⟨r,h1,H⟩:=D6 H;obtain⟨s,h2,H⟩:=D6 H;obtain⟨sz,Cz,H⟩:=D6 H;obtain⟨yX,H⟩:=H6 H;simp only[zaq]at yX;obtain⟨VO,EO⟩:=yX;obtain⟨t0,EO⟩:=zwq.1 EO;obtain⟨e,e',z,inf,zv,hu,Du,hz,Hq,hpos,Am,VN,Ro,WT⟩:=Ui Cz;have e1:=Rl.src h1;have e2:=(Rl.src h2).data VO;have Cy:inf.size=sz:=by obtain⟨i',d',q1,-,q2,-⟩:=Ib hz;rw[Am]at q1;simp only[D8]at q1;rw[<- Hq,q2,q1]
 have V4:∀v' w',(Builtin.append_ #[t,u] o.type #[a.eval y,a.eval v]).run C.P w=.ok v' w'->(execOp a.eval o).run C.P w=.ok (.value v') w':=by intro v' w' hv;refine Hg F7 zm ?_;rw[Oc ht,show c.args.map a.eval=#[a.eval y,a.eval v]from by rw[Oc ha];simp];exact CL hv
 rw[EO]at H;have hn:=Rl.n;obtain⟨q,hq,H⟩:=D6 H;obtain⟨hg,H⟩:=H6 H;obtain⟨p,hp,H⟩:=D6 H;have hm:=B0N hq;clear hq;obtain⟨i,n,sz'⟩:=q;simp only[beq_iff_eq]at hg;subst hg;simp only at hm hp H;obtain⟨ds,es,hr,hs,hpv,Yj,hne,rfl⟩:=A8G hp;clear hp;simp only at H;rw[hm,hr]at e1;rw[hs]at e2;have e1:M4 E w.heap (.sp 0 (fo y) 0) (.list sz' ds) (.U0 i n sz') (a.eval y):=e1;simp only[M4]at e1;obtain⟨e1d,-,r1,r2,r3,b0,len0,cap0,ev0,f5⟩:=e1;obtain⟨b,len,cap,all,ev,f1,f2,f3,f4,f5',f6,f7⟩:=LH (P:=C.P) e1d;rw[ev]at ev0;simp only[Value.slice.injEq]at ev0;obtain⟨rfl,rfl,rfl⟩:=ev0;obtain⟨b',len',cap',all',ev',g1,g2,g3,g4,g5,g6,g7⟩:=LH (P:=C.P) e2;have B:=Rl.U5 i _ hpv;simp only[RO]at B;obtain⟨bv,bn,-,BB⟩:=B;have f5:=f5 bv;have Mq:Builtin.lenOf (a.eval v)=pure len':=by rw[ev'];rfl
 have oD:=g4.one hpos;have hal:all.length=len * sz':=by rw[f4.1,f1]
 have B4t:all'.length=len' * sz':=by rw[g4.1,g1]
 have Ig:=(z0q.1 hpv).1;have hln:0<len':=by rw[g1];exact yaq.2 hne
 have wX:(len+len') * sz'=len * sz'+len' * sz':=zqq _ _ _;by_cases BN:len+len'<=cap
 ·obtain⟨hb,zu⟩:=f5 (by omega);subst hb;have ug:0<cap * sz':=y8q (by omega) hpos;obtain⟨cc,TT,f,c1,c2,c2',c3⟩:=BB.resolve_left λh=>by have:=h.2;omega
  rw[<- f1]at c2 c3;have hmul:(len+len') * sz'<=cap * sz':=z9q _ BN;obtain⟨w',hw,S⟩:=Jh (P:=C.P) (b:=E.obj i) (T:=TT) (f:=f) (E.base i+len * sz') all' cc 0 w c1 (by omega) oD (λo' h3 h4=>(c3 o' (by omega) (by omega)).2);have AV:(Builtin.append_ #[t,u] o.type #[a.eval y,a.eval v]).run C.P w=.ok (.slice (some ⟨E.obj i,E.base i,none⟩) (len+len') cap) w':=by rw[ev];refine IY hu Du Am Mq (by rw[Cy];exact g7 w rfl) BN ?_;rw[Cy,Addr.add_lit];exact hw
  simp only[zBq]at S
  let E2:=E.B5G i (n+1) (E.obj i) (E.base i+len * sz') (E.base i+len * sz'+len' * sz')
  have vE:E2.Q9 i=n+1:=A9 rfl;have PS:Pr (λT=>T=.obj i) E w.heap E2 w'.heap:=by
   refine⟨zJq S.size.symm,λb1 LM=>?_,λb1 o1 LM hT=>?_,zbq _,λj hj _=>⟨rfl,rfl,rfl⟩,λ_ _=>rfl,λj hj=>?_⟩
   ·by_cases VM:b1=E.obj i
    ·subst VM;rw[c1];obtain⟨c',q1,q2,q3⟩:=S.ex;refine⟨c',q1,q2,λj hj=>?_⟩;rw[q3 j,A7];rintro⟨q4,q5⟩;exact hj (c3 j (by omega) (by omega)).1
    ·rw[S.rest b1 VM];exact X4.refl _ _
   ·show(if _ then _ else _)=_;rw[A7];rintro⟨rfl,q4,q5⟩;exact hT (c3 o1 q4 (by omega)).1
   ·by_cases WP:j=i
    ·subst WP;rw[vE];exact⟨λh=>by omega,by omega,λh=>absurd rfl h⟩
    ·have:E2.Q9 j=E.Q9 j:=A7 WP;rw[this];exact⟨id,zbq _,λ_=>rfl⟩
  have CQ:=PS.Q8 (by simp) Rl.fresh;have R2:L6 E2 { st with sg:=st.sg.set i (.U0 (n+1) sz' (ds.length+es.length)) } a w'.heap:=by
   refine⟨Rl.size,Rl.AZ,Rl.CW,by simpa[E2,Env.B5G]using hn,λq vq hq=>(Rl.Be q vq hq).mono PS CQ (by simp) (by simp),λs' cs' Db=>(Rl.j4 s' cs' Db).mono PS CQ (by simp) (by simp),λi' ob hi=>?_,λb1 o1 LM=>?_⟩
   ·by_cases Ce:i=i'
    ·subst Ce;simp only[z2q Ig,D8]at hi;subst hi;obtain⟨c',q1,q2,q3⟩:=S.ex;refine⟨vE,zCq _,hpos,.inr ⟨c',TT,f,q1,?_,?_,λo' h3 h4=>?_⟩⟩
     ·show E.base i+_<=E.top i;rw[<- f1,<- g1];omega
     ·show E.top i<=_;rw[q2];exact c2'
     ·have h3:E.base i+(len+len') * sz'<=o':=by rw[f1,g1];exact h3
      have h4:o'<E.top i:=h4;obtain⟨c4,c5⟩:=c3 o' (by omega) h4;refine⟨?_,c5⟩;show(if _ then _ else _)=_;rw[A7 (by omega)];exact c4
    ·simp only[z1q Ce]at hi;exact(Rl.U5 i' ob hi).mono PS CQ (CE Rl hi) (by simp;exact λh=>Ce h.symm) (by simp)
   ·have qd:w.heap.size<=b1:=by rw[<- S.size];exact LM
    show(if _ then _ else _)=_;rw[A7]
    ·exact Rl.fresh b1 o1 qd
    ·rintro⟨rfl,-⟩;have:=(zdq.1 c1).1;omega
  refine Au (V4 _ _ AV) (T _ _ _ w' H ?_ (PS.j6 (by rintro T rfl;simp[P8])) S.out);rw[EO];refine R2.put λt1 ZL=>?_;refine RR.AL ⟨?_,⟨_,rfl⟩,r1,zCq _,by rw[vE];exact zbq _,some ⟨E.obj i,E.base i,none⟩,len+len',cap,rfl,λ_ _=>⟨rfl,zu⟩⟩;refine NY (by simp;omega) BN (by simp) (λ_=>hpos) λp1 ZK=>?_;simp only[D8]at ZK;subst ZK;refine⟨λ_=>rfl,TA ((f4.mono CQ).append (g4.mono CQ)) λj q hq=>?_⟩;by_cases hj:j<all.length
  ·rw[z4q hj]at hq;obtain⟨q1,q2⟩:=(f5' _ rfl).2 j q hq;exact⟨CQ.c _ _ _ q2 q1,CQ.s _ _ q2⟩
  ·rw[z6q (by omega)]at hq;have bT:j-all.length<all'.length:=(z0q.1 hq).1;obtain⟨c',q1,q2,q3⟩:=S.ex;constructor
   ·unfold hc;rw[q1];show c'[E.base i+j]?=some q;rw[q3,A9 (by omega),<- hq];congr 1;omega
   ·show(if _ then _ else _)=_;rw[A9 (by refine⟨rfl,?_,?_⟩<;>(simp only;omega))]
 ·-- a new block
  obtain⟨nc,hnc,AV⟩:=run_append_grow (ty:=o.type) (b:=b) hu Du Am Mq (by rw[Cy];exact g7) (by rw[Cy,<- ev];exact f7) Ro BN (by unfold R6 at Yj;omega) VN;rw[<- ev]at AV;have QY:(Builtin.zeroCells zv.cells (nc-(len+len'))).toList.length=(nc-(len+len')) * sz':=by simp[Builtin.zeroCells,WT]
  have B4D:(len+len') * sz'+(nc-(len+len')) * sz'=nc * sz':=by rw[<- zqq];congr 1;omega
  generalize hzc:(Builtin.zeroCells zv.cells (nc-(len+len'))).toList=zc at AV QY
  let E2:=E.A9s i (n+1) w.heap.size ((len+len') * sz') (nc * sz')
  have vE:E2.Q9 i=n+1:=A9 rfl;have oE:E2.obj i=w.heap.size:=A9 rfl;have bE:E2.base i=0:=A9 rfl;have tE:E2.top i=nc * sz':=A9 rfl;have PS:Pr (λT=>T=.obj i) E w.heap E2 (w.heap.push (.cells (all++all'++zc).toArray e)):=by
   refine Pr.push (λb1 o1 LM hT=>?_) (zbq _) (λj hj hvj=>?_) (λ_ _=>rfl) (λj hj=>?_)
   ·show(if _ then _ else _)=_;rw[A7 (by omega),A7 hT]
   ·have WP:j≠i:=λh=>by subst h;rw[vE]at hvj;omega
    refine⟨?_,?_,?_⟩<;>(show(if _ then _ else _)=_;rw[A7 WP])
   ·by_cases WP:j=i
    ·subst WP;rw[vE];exact⟨λh=>by omega,by omega,λh=>absurd rfl h⟩
    ·have:E2.Q9 j=E.Q9 j:=A7 WP;rw[this];exact⟨id,zbq _,λ_=>rfl⟩
  have CQ:=PS.Q8 (by simp) Rl.fresh;have Gz:∀(j:Nat),hc (w.heap.push (.cells (all++all'++zc).toArray e)) w.heap.size j=(all++all'++zc)[j]?:=λj=>by rw[kU];simp
  have C0S:(all++all').length=(len+len') * sz':=by rw[ygq];omega
  have R2:L6 E2 { st with sg:=st.sg.set i (.U0 (n+1) sz' (ds.length+es.length)) } a (w.heap.push (.cells (all++all'++zc).toArray e)):=by
   refine⟨Rl.size,Rl.AZ,Rl.CW,by simpa[E2,Env.A9s]using hn,λq vq hq=>(Rl.Be q vq hq).mono PS CQ (by simp) (by simp),λs' cs' Db=>(Rl.j4 s' cs' Db).mono PS CQ (by simp) (by simp),λi' ob hi=>?_,λb1 o1 LM=>?_⟩
   ·by_cases Ce:i=i'
    ·subst Ce;simp only[z2q Ig,D8]at hi;subst hi;refine⟨vE,zCq _,hpos,.inr ⟨_,e,(0,0),by rw[oE];exact Jv,?_,?_,λo' h3 h4=>⟨?_,by simp⟩⟩⟩
     ·rw[bE,tE,<- f1,<- g1];omega
     ·rw[tE];simp;omega
     ·rw[oE];show(if _ then _ else _)=_;rw[bE,<- f1,<- g1]at h3;rw[tE]at h4;rw[A9 rfl,A7 (by omega),A9 h4]
    ·simp only[z1q Ce]at hi;exact(Rl.U5 i' ob hi).mono PS CQ (CE Rl hi) (by simp;exact λh=>Ce h.symm) (by simp)
   ·simp only[zXq]at LM;show(if _ then _ else _)=_;rw[A7 (by omega),A7]
    ·exact Rl.fresh b1 o1 (by omega)
    ·rw[Rl.fresh b1 o1 (by omega)];simp
  refine Au (V4 _ _ AV) (T _ _ _ (w.drew.alloc (.cells (all++all'++zc).toArray e)) H ?_ (PS.j6 (by rintro T rfl;simp[P8])));rw[EO];refine R2.put λt1 ZL=>?_;refine RR.AL ⟨?_,⟨_,rfl⟩,r1,zCq _,by rw[vE];exact zbq _,some ⟨w.heap.size,0,none⟩,len+len',nc,rfl,λ_ _=>⟨by rw[oE,bE],by rw[bE,tE,zfq];exact zbq _⟩⟩;refine NY (by simp;omega) hnc (by simp) (λ_=>hpos) λp1 ZK=>?_;simp only[D8]at ZK;subst ZK;refine⟨λ_=>rfl,TA ((f4.mono CQ).append (g4.mono CQ)) λj q hq=>?_⟩;have bT:j<(all++all').length:=(z0q.1 hq).1;constructor
  ·rw[zfq,Gz,z4q bT];exact hq
  ·show(if _ then _ else _)=_;rw[A9 rfl,A9 (by simp only;omega)]
end
section
variable {X:Type}{C:BQ}{R:O8}{o:Oper}{st:St}{k:St->Option X}{x:X}{E:Env}{a:Act}{w:World}{K:Act->World->Prop}{Q:Exit->Act->World->Prop}
open Classical in
noncomputable def Env.B8y(E:Env)(n b off m tp:Nat):Env :={ E with obj:=λi=>if i=E.n then b else E.obj i,base:=λi=>if i=E.n then off else E.base i,top:=λi=>if i=E.n then tp else E.top i,n:=E.n+1,Q9:=λi=>if i=E.n then 0 else E.Q9 i,O:=λb' o=>if b'<n then E.O b' o else if b'=b/\off<=o/\o<off+m then .obj E.n else .other }
variable {f:FuncId}{v:Value}
def B3o{r:DV×F4}{sz:Nat}{ds:List DV}(hO:Iz C R)(hc:C.clone f=true)(V4:(execOp a.eval o).run C.P w=.ok (.enter f #[v]) w)(hd:K6 r.2=true)(C0o:sz=C.jO f)(hl0:ds.length<=R6)(hr:r.1=.list sz ds){p q:Nat}(hv:RR E w.heap p q r.1 r.2 v)(H:k ({ st with sg:=st.sg++[E5.arr sz ds] }.put o.dst .undef (.arr st.sg.length sz 0 ds.length))=some x)(Rl:L6 E st a w.heap)(T:Then E w k x K):Gp C.P o a w K:=by
 have hS:∀b o,w.heap.size<=b->¬E.S b o:=λb o hb hs=>by have h9:=Rl.fresh b o hb;rw[show E.O b o=Tag.Q8 from hs]at h9;cases h9
 have Tx:=(hO.c f hc).2;rw[<- C0o]at Tx;refine qE V4 ((Tx E.S w v ds hl0 hS (by rw[<- hr];exact hv.data hd)).mono ?_);rintro e w' ⟨a0,b,off,cap,he,ha0,A2G,B0O,B0U,Cz,Wz,hblk,B0S⟩;subst he
 let E':=E.B8y w.heap.size b off (ds.length * sz) (off+cap * sz)
 have Pc:Pr (λ_=>False) E w.heap E' w'.heap:=by
  refine⟨Cz,λb' hb=>by rw[hblk b' hb];exact X4.refl _ _,λb' o hb _=>?_,y9q _,λi hi _=>?_,λ_ _=>rfl,XM rfl⟩
  ·show(if b'<w.heap.size then E.O b' o else _)=_;rw[A9 hb]
  ·have:i≠E.n:=by omega
   exact⟨A7 this,A7 this,A7 this⟩
 have J4:=Pc.Q8 (by simp) Rl.fresh;have n0:st.sg.length=E.n:=Rl.n;have R2:L6 E' { st with sg:=st.sg++[E5.arr sz ds] } a w'.heap:=by
  refine⟨Rl.size,Rl.AZ,Rl.CW,by simp[n0];rfl,λt v hv=>(Rl.Be t v hv).mono Pc J4 (by simp) (by simp),λs cs hs=>(Rl.j4 s cs hs).mono Pc J4 (by simp) (by simp),λi ob hi=>?_,λb' o hb=>?_⟩
  ·by_cases Io:i<st.sg.length
   ·rw[z4q Io]at hi;exact(Rl.U5 i ob hi).mono Pc J4 (by rw[<- n0];exact Io) (by simp) (by simp)
   ·rw[z6q (zNq Io)]at hi;have hi0:i-st.sg.length=0:=by have:=(z0q.1 hi).1;simpa using this
    have hie:i=E.n:=by omega
    rw[hi0]at hi;simp only[zgq,D8]at hi;subst hi hie;simp only[RO];intro hne;obtain⟨hb,c,T0,h1,h2,h3,h4⟩:=B0S hne;have e1:E'.obj E.n=b:=A9 rfl;have e2:E'.base E.n=off:=A9 rfl;rw[e1,e2];refine⟨c,T0,h1,h2,h3,λo ho1 ho2=>?_,λj d hj=>?_⟩
    ·show(if b<w.heap.size then E.O b o else if b=b/\off<=o/\o<off+ds.length * sz then Tag.obj E.n else .other)=_;rw[A7 (by omega),A9 ⟨rfl,ho1,ho2⟩]
    ·obtain⟨vs,v1,v2,v3⟩:=h4 j d hj;refine⟨vs,v1,v2,v3.mono ⟨λb' o hs=>?_,λ_ _ _ _ hv=>hv⟩⟩;exact J4.s b' o hs
  ·show(if b'<w.heap.size then E.O b' o else if b'=b/\off<=o/\o<off+ds.length * sz then Tag.obj E.n else .other)=_;rw[A7 (by omega)];split
   ·rename_i h;by_cases hne:ds=[]
    ·subst hne;simp at h;omega
    ·obtain⟨-,c,T0,h1,-⟩:=B0S hne;have:=(zdq.1 h1).1;omega
   ·rfl
 refine⟨_,rfl,T E' _ _ w' H (R2.put λt _=>?_) (Pc.j6 (by simp)) Wz⟩;simp only[RR,M4];refine⟨⟨by rw[n0];exact ykq _,by rw[n0];exact A9 rfl⟩,_,_,rfl,λhpos=>?_,A2G,B0O,B0U,λ_=>by rw[n0,zfq];exact zJq ((congrArg (· + cap * sz) (A9 rfl)).trans (A9 rfl).symm)⟩;rw[n0,ha0 (λh=>by rw[h]at hpos;exact Nat.lt_irrefl 0 hpos)];have e1:E'.obj E.n=b:=A9 rfl;have e2:E'.base E.n=off:=A9 rfl;rw[e1,e2];simp
variable {cs:List DV}
def B1U{d:DV}(h:B3S d=some cs):d=.agg cs:=by cases d<;>simp only[B3S,reduceCtorEq,D8]at h;rw[h]
def B65{g:FuncId}{r:DV×F4}(hO:Iz C R)(hc:C.fO f=some g)(V4:(execOp a.eval o).run C.P w=.ok (.enter f #[v]) w)(hd:K6 r.2=true)(hr:r.1=.agg cs)(hl:cs.length=C.jO f){p q:Nat}(hv:RR E w.heap p q r.1 r.2 v)(H:k ({ st with sg:=st.sg++[E5.box (cs.map λd=>(d,.val))] }.put o.dst .undef (.fn g [(st.sg.length,0)]))=some x)(Rl:L6 E st a w.heap)(T:Then E w k x K):Gp C.P o a w K:=by
 have h1:=hv.data hd;rw[hr]at h1;simp only[RV]at h1;obtain⟨vs,rfl,h2⟩:=h1;obtain⟨l1,h3⟩:=CS.1 h2;have l2:vs.size=C.jO f:=by rw[<- hl,l1];simp
 refine qE V4 (((hO.m f g hc).2 w vs l2).mono ?_);rintro e w' ⟨rfl,T0,rfl⟩;have cok:H_ E w.heap (cs.map λd=>(d,F4.val)) vs.toList:=by refine⟨by simp[l1],λj r' u hj hu=>?_⟩;simp only[zxq,znq]at hj;obtain⟨d,Eo,rfl⟩:=hj;obtain⟨a1,a2⟩:=h3 j d u Eo hu;exact⟨⟨a1,Jm a1 a2,rfl,P_ a1 a2⟩,by simp⟩
 obtain⟨R1,P1⟩:=Rl.newObj (T0:=T0) cok;refine⟨_,rfl,T _ _ _ (w.alloc (.cells vs T0)) H (R1.put λt0 _=>?_) (P1.j6 (by simp)) ⟨rfl,rfl,rfl⟩⟩;have hn:=Rl.n;simp only[RR,M4,Env.newObj];refine⟨?_,λc hc=>?_⟩
 ·simp[hn]
 ·simp only[zoq]at hc;subst hc;simp[Env.In,hn]
def B3n{ts:List TypeId}{xs:List Operand}{rs extra:List (DV×F4)}{ev:List Value}(hO:Iz C R)(V4:isGo C.P f=true->(execOp a.eval o).run C.P w=.ok (.enter f (xs.map a.eval++ev).toArray) w)(hsr:Ka C.P st ts xs=some rs)(yZ:extra.length=ev.length)(IV:∀(i:Nat) r v,extra[i]?=some r->ev[i]?=some v->∀p q,RR E w.heap p q r.1 r.2 v/\r.2 ≠ .own/\r.2 ≠ .full)(H:LB C R o f xs (rs++extra) st k=some x)(Rl:L6 E st a w.heap)(T:Then E w k x K):Gp C.P o a w K:=by
 obtain⟨l1,l2⟩:=A4d Rl hsr;have all:∀(i:Nat) r v,(rs++extra)[i]?=some r->(xs.map a.eval++ev)[i]?=some v->∃p q,RR E w.heap p q r.1 r.2 v:=by
  intro i r v hr hv;by_cases hi:i<rs.length
  ·rw[z4q hi]at hr;rw[z4q (by simpa[l1]using hi)]at hv;obtain⟨y,t,hy,rfl,hsy,hRy⟩:=l2 i r v hr hv;exact⟨_,_,hRy⟩
  ·have hge:rs.length<=i:=zNq hi;rw[z6q hge]at hr;rw[z6q (by simpa[l1]using hge)]at hv;simp only[zUq,<- l1]at hv;exact⟨0,0,(IV _ r v hr hv 0 0).1⟩
 have FD:(rs++extra).length=(xs.map a.eval++ev).length:=by simp[l1,yZ]
 unfold LB at H;split at H
 ·rename_i hc;split at H
  ·rename_i r hrs
   ·obtain⟨p,hp,H⟩:=D6 H;obtain⟨sz,ds⟩:=p;have hr1:r.1=.list sz ds:=by cases hr:r.1<;>rw[hr]at hp<;>simp only[A47,reduceCtorEq,D8,Prod.mk.injEq]at hp;obtain⟨rfl,rfl⟩:=hp;rfl
    obtain⟨hd,H9⟩:=H6 H;simp only[zaq,beq_iff_eq,I6]at hd;obtain⟨⟨hd,hz⟩,hl0⟩:=hd;simp only[<- hz]at H9;rw[hrs]at FD;obtain⟨v,hv⟩:=zpq.1 (FD.symm:(xs.map a.eval++ev).length=1);obtain⟨p,q,hR⟩:=all 0 r v (by rw[hrs];rfl) (by rw[hv];rfl);have:=V4 (hO.c f hc).1;rw[hv]at this;exact B3o hO hc this hd hz hl0 hr1 hR H9 Rl @T
  ·simp at H
 ·split at H
  ·rename_i g hg;split at H
   ·rename_i r hrs;obtain⟨cs,IU,H⟩:=D6 H;obtain⟨hd,H9⟩:=H6 H;simp only[zaq,beq_iff_eq]at hd;rw[hrs]at FD;obtain⟨v,hv⟩:=zpq.1 (FD.symm:(xs.map a.eval++ev).length=1);obtain⟨p,q,hR⟩:=all 0 r v (by rw[hrs];rfl) (by rw[hv];rfl);have:=V4 (hO.m f g hg).1;rw[hv]at this;exact B65 hO hg this hd.1 (B1U IU) hd.2 hR H9 Rl @T
   ·simp at H
  split at H
  ·have hp:isGo C.P f=true:=by obtain⟨_,H1⟩:=H6 H;obtain⟨d,hd,_⟩:=D6 H1;exact(hO.p f _ d hd).1
   exact B5h hO (V4 hp) FD all H Rl @T
  ·rename_i s hs;have hp:isGo C.P f=true:=by obtain⟨_,H1⟩:=H6 H;obtain⟨d,hd,_⟩:=D6 H1;obtain⟨_,_,h,_⟩:=hO.r f _ _ d hd;exact h
   exact B66 hO hs (V4 hp) hsr yZ IV H Rl @T
variable {fl:H8}
def B5b{c:Call}(hO:Iz C R)(F7:o.op=.call c)(H:Hm C R fl o c st k=some x)(Rl:L6 E st a w.heap)(T:Then E w k x K):Gp C.P o a w K:=by
 unfold Hm at H;split at H
 ·rename_i b hb;split at H
  ·rename_i h1 h2;exact B62 F7 hb h1 h2 H Rl @T
  ·rename_i h1 h2;cases QU:I8 fl.Oy o.dst
   ·cases Ph:I8 fl.Dn o.dst
    ·cases fE:I8 fl.opn o.dst
     ·exact B1x F7 hb h1 h2 fE QU Ph H Rl @T
     ·exact A20 F7 hb h1 h2 fE QU Ph H Rl @T
    ·exact B5j F7 hb h1 h2 QU Ph H Rl @T
   ·exact B5e F7 hb h1 h2 QU H Rl @T
  ·rename_i h1 h2;exact B63 F7 hb h1 H Rl @T
  ·rename_i h1 h2;exact B64 F7 hb h1 H Rl @T
  ·simp at H
 ·rename_i fv hfv;obtain⟨r,h1,H1⟩:=D6 H;obtain⟨rs,h2,H2⟩:=D6 H1;split at H2
  ·rename_i f caps hr;have kW:=Rl.src h1;rw[hr]at kW;simp only[RR,M4]at kW;refine B3n (ts:=c.argTypes.toList) (ev:=caps.map λc=>Value.pointer (some ⟨E.obj c.1,c.2,none⟩)) hO (λhg=>?_) h2 (by simp) (λi r' v AV hv p q=>?_) H2 Rl @T
   ·simp only[execOp,F7,resolve,hfv,kW.1,Deferred.ofValue,Sem.run_bind,Sem.run_pure,Result.andThen_ok,invoke]
    rw[vV hg];congr 2;apply Array.ext';simp
   ·simp only[zxq,znq]at AV hv;obtain⟨m,hm,rfl⟩:=AV;obtain⟨m',WR,rfl⟩:=hv;rw[hm]at WR;cases WR;refine⟨?_,by simp,by simp⟩;simp only[RR,M4];exact⟨kW.2 m (zkq hm),trivial⟩
  ·simp at H2
 ·simp at H
def B8Y(hO:Iz C R)(H:J3 C R fl o st k=some x)(Rl:L6 E st a w.heap)(T:Then E w k x K):Gp C.P o a w K:=by
 unfold J3 at H;split at H
 ·rename_i y F7;exact A7G (by simp[execOp,F7]) H Rl @T
 ·rename_i y F7;exact A7G (by simp[execOp,F7]) H Rl @T
 ·rename_i F7;exact B5g F7 H Rl @T
 ·rename_i F7;exact B3l F7 H Rl @T
 ·rename_i F7;exact B60 F7 H Rl @T
 ·rename_i F7;exact B3m F7 H Rl @T
 ·rename_i F7;exact A21 F7 H Rl @T
 ·rename_i F7;exact B5f F7 H Rl @T
 ·rename_i F7;exact B3r F7 H Rl @T
 ·rename_i F7;exact A7H F7 H Rl @T
 ·rename_i F7;exact B6Z F7 H Rl @T
 ·rename_i F7;exact B8Z F7 H Rl @T
 ·rename_i F7;exact B5c F7 H Rl @T
 ·rename_i F7;exact A4T F7 H Rl @T
 ·rename_i F7;exact A4U F7 H Rl @T
 ·rename_i F7;exact B3p F7 H Rl @T
 ·rename_i F7;exact B3q F7 H Rl @T
 ·rename_i F7;exact A7F F7 H Rl @T
 ·rename_i F7;obtain⟨q,_,H9⟩:=D6 H;by_cases fH:I8 fl.Hr o.dst=true
  ·rw[A9 fH]at H9;cases hd:o.dst with
   |none=>rw[hd]at fH;simp[I8]at fH
   |some t0=>exact B1A F7 hd H9 Rl @T
  ·rw[A7 fH]at H9;exact A8P F7 H9 Rl @T
 ·rename_i F7;exact B1z F7 H Rl @T
 ·rename_i F7;exact A4V F7 H Rl @T
 ·rename_i F7;exact A8O F7 H Rl @T
 ·rename_i F7;exact B5b hO F7 H Rl @T
 ·simp at H
end
section
theorem M7{α β : Type}(a : α)(g : α->Option β):ob (some a) g=g a:=rfl
theorem X7{β : Type}(y:Option β):og true y=y:=rfl
structure FF(f:Fp)(st st':St):Prop where
 lt:st'.tm.length=st.tm.length
 lm:st'.mt.length=st.mt.length
 lb:st'.bx.length=st.bx.length
 t:∀i∈f.rt,st'.tm[i]?=st.tm[i]?/\st'.mt[i]?=st.mt[i]?
 b:∀i∈f.rb,st'.bx[i]?=st.bx[i]?
 s:f.rs=true->st'.sg=st.sg
 n:∀t,f.nb=some t->MN t st'.mt=true
 l:∀j,f.ld=some j->st'.sg[j]?=st.sg[j]?
structure Two(f:Fp)(st st' s s':St):Prop where
 l:st'.tm.length=st.tm.length/\st'.mt.length=st.mt.length/\st'.bx.length=st.bx.length
 ls:s.tm.length=st.tm.length/\s.mt.length=st.mt.length/\s.bx.length=st.bx.length
 ls':s'.tm.length=st.tm.length/\s'.mt.length=st.mt.length/\s'.bx.length=st.bx.length
 t:∀i:Nat,(i∈f.wt/\s'.tm[i]?=s.tm[i]?/\s'.mt[i]?=s.mt[i]?)\/((s'.tm[i]?=st'.tm[i]?/\s'.mt[i]?=st'.mt[i]?)/\s.tm[i]?=st.tm[i]?/\s.mt[i]?=st.mt[i]?)
 b:∀i:Nat,(i∈f.wb/\s'.bx[i]?=s.bx[i]?)\/(s'.bx[i]?=st'.bx[i]?/\s.bx[i]?=st.bx[i]?)
 s:(f.ws=true/\s'.sg=s.sg)\/(s'.sg=st'.sg/\s.sg=st.sg)
variable {f:Fp}{st:St}{st':St}
def Two.refl(A:FF f st st'):Two f st st' st st' :=⟨⟨A.lt,A.lm,A.lb⟩,⟨rfl,rfl,rfl⟩,⟨A.lt,A.lm,A.lb⟩,λ_=>.inr ⟨⟨rfl,rfl⟩,rfl,rfl⟩,λ_=>.inr ⟨rfl,rfl⟩,.inr ⟨rfl,rfl⟩⟩
def Two.put{s s':St}(A:Two f st st' s s'){dst:Option Nat}(hd:∀t∈dst.toList,t∈f.wt)(d:DV)(m:F4):Two f st st' (s.put dst d m) (s'.put dst d m):=by
 cases dst with
 |none=>exact A
 |some t=>
   have ht:t∈f.wt:=hd t (by simp);obtain⟨l,ls,ls',a1,a2,a3⟩:=A;refine⟨l,by simpa[St.put]using ls,by simpa[St.put]using ls',λi=>?_,a2,a3⟩;by_cases hi:t=i
   ·subst hi;refine .inl ⟨ht,?_,?_⟩
    ·simp only[St.put,zmq]
     rcases zuq t st.tm.length with h | h
     ·rw[z5q (by omega),z5q (by omega)];rfl
     ·rw[z8q (by omega),z8q (by omega)]
    ·simp only[St.put,zmq]
     rcases zuq t st.mt.length with h | h
     ·rw[z5q (by omega),z5q (by omega)];rfl
     ·rw[z8q (by omega),z8q (by omega)]
   ·simp only[St.put,z1q hi]
    exact a1 i
variable {t:Nat}
def Two.B53{s s':St}(A:Two f st st' s s')(ht:t∈f.wt)(he:s'.tm[t]?=s.tm[t]?)(m:F4):Two f st st' { s with mt:=s.mt.set t m } { s' with mt:=s'.mt.set t m }:=by
 obtain⟨l,ls,ls',a1,a2,a3⟩:=A;refine⟨l,by simpa using ls,by simpa using ls',λi=>?_,a2,a3⟩;by_cases hi:t=i
 ·subst hi;refine .inl ⟨ht,he,?_⟩;simp only[zmq];rcases zuq t st.mt.length with h | h
  ·rw[z5q (by omega),z5q (by omega)];rfl
  ·rw[z8q (by omega),z8q (by omega)]
 ·simp only[z1q hi]
  exact a1 i
variable {i:Nat}
def Kh{α : Type}{l l':List α}(h:l'[i]?=l[i]?)(d : α):l'.getD i d=l.getD i d:=by simp only[z3q,h]
variable {x:Operand}
def Two.release{s s':St}(A:Two f st st' s s')(hx:∀t∈O5 x,t∈f.wt)(he:∀t∈O5 x,s'.tm[t]?=s.tm[t]?/\s'.mt[t]?=s.mt[t]?):Two f st st' (s.release x) (s'.release x):=by
 cases x with
 |tmp t=>have:=A.B53 (hx t (by simp[O5])) (he t (by simp[O5])).1 (dm (s.mt.getD t .val));simp only[St.release];rw[Kh (he t (by simp[O5])).2];exact this
 |_=>exact A
variable {mt:List F4}
def o_{u:Nat}(h:u∈Fa mt x):u∈O5 x:=by
 cases x<;>simp only[Fa]at h
 ·split at h
  ·cases h
  ·cases h
  ·exact h
 all_goals cases h
theorem lT{mt':List F4}(h:∀u∈O5 x,mt'[u]?=mt[u]?):Fa mt' x=Fa mt x:=by
 cases x with
 |tmp t=>simp only[Fa];rw[Kh (h t (by simp[O5]))]
 |_=>rfl
def A1U{m:F4}(h:mt.getD t .val=m)(hd:dm m=m):mt.set t (dm (mt.getD t .val))=mt:=by
 refine zDq λj=>?_;by_cases hj:t=j
 ·subst hj;rw[z3q]at h;cases hm:mt[t]? with
  |none=>rw[z8q (by simpa using hm)]
  |some m=>
    rw[hm]at h;simp only[zsq]at h;have hl:t<mt.length:=by
     rcases zuq t mt.length with g | g
     ·exact g
     ·rw[z8q g]at hm;cases hm
    rw[z2q hl,z3q,hm,zsq,h,hd]
 ·rw[z1q hj]
def A7p:Fa mt (.tmp t)=[t]\/mt.set t (dm (mt.getD t .val))=mt:=by
 cases h:mt.getD t .val
 case arr i sz a n=>exact .inr (by have:=A1U h rfl;rw[h]at this;exact this)
 case P9 i sz a n=>exact .inr (by have:=A1U h rfl;rw[h]at this;exact this)
 all_goals (refine .inl ?_;simp only[Fa,h])
def Two.A0q{s s':St}(A:Two f st st' s s')(hx:∀t∈Fa s.mt x,t∈f.wt)(he:∀t∈O5 x,s'.tm[t]?=s.tm[t]?/\s'.mt[t]?=s.mt[t]?):Two f st st' (s.release x) (s'.release x):=by
 cases x with
 |tmp t=>
   have em:s'.mt.getD t .val=s.mt.getD t .val:=Kh (he t (by simp[O5])).2 _;rcases A7p (mt:=s.mt) (t:=t)with h | h
   ·exact A.release (λu hu=>hx u (by rw[h];simpa[O5]using hu)) he
   ·have h':s'.mt.set t (dm (s'.mt.getD t .val))=s'.mt:=by
     refine zDq λj=>?_;by_cases hj:t=j
     ·subst hj;have e:=(he t (by simp[O5])).2;have q:(s.mt.set t (dm (s.mt.getD t .val)))[t]?=s.mt[t]?:=by rw[h]
      rw[em];rcases zuq t s'.mt.length with g | g
      ·rcases zuq t s.mt.length with g' | g'
       ·rw[z2q g,e,<- q,z2q g']
       ·rw[z8q g',List.getElem?_eq_none_iff]at e;omega
      ·rw[z8q g,z8q (by simpa using g)]
     ·rw[z1q hj]
    have e1:s.release (.tmp t)=s:=by simp only[St.release,h]
    have e2:s'.release (.tmp t)=s':=by simp only[St.release,h']
    rw[e1,e2];exact A
 |_=>exact A
def Two.xH{s s':St}(A:Two f st st' s s')(ht:t∈f.wb)(c:Option (List (DV×F4))):Two f st st' { s with bx:=s.bx.set t c } { s' with bx:=s'.bx.set t c }:=by
 obtain⟨l,ls,ls',a1,a2,a3⟩:=A;refine⟨l,by simpa using ls,by simpa using ls',a1,λi=>?_,a3⟩;by_cases hi:t=i
 ·subst hi;refine .inl ⟨ht,?_⟩;simp only[zmq];rcases zuq t st.bx.length with h | h
  ·rw[z5q (by omega),z5q (by omega)];rfl
  ·rw[z8q (by omega),z8q (by omega)]
 ·simp only[z1q hi]
  exact a2 i
def Two.Fb{s s':St}(A:Two f st st' s s')(hs:f.ws=true)(g:List E5):Two f st st' { s with sg:=g } { s' with sg:=g } :=⟨A.l,A.ls,A.ls',A.t,A.b,.inl ⟨hs,rfl⟩⟩
def M6(a b:List Nat):Prop:=∀t∈a,t∈b
theorem FF.src(A:FF f st st')(P:Program)(t:TypeId)(h:M6 (O5 x) f.rt):src P t st' x=src P t st x:=by
 cases x with
 |tmp i=>obtain⟨h1,h2⟩:=A.t i (h i (by simp[O5]));simp only[Su.src,St.get,Kh h1,Kh h2]
 |_=>rfl
theorem FF.Ka{f:Fp}{st st':St}(A:FF f st st')(P:Program):∀{ts:List TypeId}{xs:List Operand},M6 (K3 xs) f.rt->Ka P st' ts xs=Ka P st ts xs
 |t::ts,x::xs,h=>by simp only[Su.Ka];rw[A.src P t (λi hi=>h i (by simp[K3,hi])),FF.Ka A P λi hi=>h i (by simp only[K3,zeq,zcq];exact .inr hi)]
 |[],x::xs,h=>by simp only[Su.Ka];rw[A.src P 0 (λi hi=>h i (by simp[K3,hi])),FF.Ka A P λi hi=>h i (by simp only[K3,zeq,zcq];exact .inr hi)]
 |[],[],_=>rfl
 |_::_,[],_=>rfl
def FF.opt(A:FF f st st')(P:Program){x:Option Operand}(h:M6 (K3 x.toList) f.rt):YU P st' x=YU P st x:=by
 cases x with
 |none=>rfl
 |some x=>simp only[YU];rw[A.src P 0 λi hi=>h i (by simp[K3,hi])]
def FF.bx(A:FF f st st')(h:i∈f.rb):st'.bx.getD i none=st.bx.getD i none:=Kh (A.b i h) none
variable {y:Operand}
def Ql{r:List Nat}(h:M6 (K3 [x,y]) r):M6 (O5 x) r/\M6 (O5 y) r :=⟨λi hi=>h i (by simp[K3,hi]),λi hi=>h i (by simp[K3,hi])⟩
section
variable {X:Type}{C:BQ}{R:O8}{fl:H8}{o:Oper}{st:St}{k:St->Option X}{x:X}{f:Fp}
def Fr(C:BQ)(R:O8)(fl:H8)(o:Oper)(st:St)(k:St->Option X)(x:X)(f:Fp):Prop :=∃s,k s=some x/\(∀t,f.nb=some t->MN t st.mt=true)/\∀st',FF f st st'->∃s',Two f st st' s s'/\∀(Y:Type)(k':St->Option Y),J3 C R fl o st' k'=k' s'
def O3{d:DV}{m:F4}(hk:k (st.put o.dst d m)=some x)(hw:M6 o.dst.toList f.wt)(hn:f.nb=none)(h:∀st',FF f st st'->∀(Y:Type)(k':St->Option Y),J3 C R fl o st' k'=k' (st'.put o.dst d m)):Fr C R fl o st k x f :=⟨_,hk,by rw[hn];simp,λst' A=>⟨_,(Two.refl A).put hw d m,λY k'=>h st' A Y k'⟩⟩
def A9q(F7:o.op=.move y\/o.op=.assign y)(H:J3 C R fl o st k=some x)(hr:M6 (O5 y) f.rt)(hw:M6 o.dst.toList f.wt)(hs:I8 fl.Q4 o.dst=true->M6 (O5 y) f.wt)(hn:f.nb=none):
 Fr C R fl o st k x f:=by
 have IV:∀(Y:Type)(st:St)(k:St->Option Y),J3 C R fl o st k=ob (src C.P o.type st y) λr=>if I8 fl.Q4 o.dst then k ((st.release y).put o.dst r.1 r.2)else k (st.put o.dst r.1 (dm r.2)):=by intro Y st k;rcases F7 with h | h<;>simp only[J3,h]
 rw[IV]at H;obtain⟨r,h1,H⟩:=D6 H;by_cases R8:I8 fl.Q4 o.dst=true
 ·rw[A9 R8]at H;refine⟨_,H,by rw[hn];simp,λst' A=>⟨_,((Two.refl A).release (hs R8) λt ht=>A.t t (hr t ht)).put hw r.1 r.2,λY k'=>?_⟩⟩;rw[IV,A.src _ _ hr,h1];simp only[ob,A9 R8]
 ·rw[A7 R8]at H;refine O3 H hw hn λst' A Y k'=>?_;rw[IV,A.src _ _ hr,h1];simp only[ob,A7 R8]
def B6r{c z:Operand}(F7:o.op=.pick c y z)(H:J3 C R fl o st k=some x)(hr:M6 (K3 [c,y,z]) f.rt)(hw:M6 o.dst.toList f.wt)(hn:f.nb=none):Fr C R fl o st k x f:=by simp only[J3,F7]at H;obtain⟨rc,h1,H⟩:=D6 H;obtain⟨ra,h2,H⟩:=D6 H;obtain⟨rb,h3,H⟩:=D6 H;obtain⟨h4,H⟩:=H6 H;obtain⟨d,h5,H⟩:=D6 H;have r1:M6 (O5 c) f.rt:=λi hi=>hr i (by simp[K3,hi]);have r2:M6 (O5 y) f.rt:=λi hi=>hr i (by simp[K3,hi]);have r3:M6 (O5 z) f.rt:=λi hi=>hr i (by simp[K3,hi]);refine O3 H hw hn λst' A Y k'=>?_;simp only[J3,F7,A.src _ _ r1,A.src _ _ r2,A.src _ _ r3,h1,h2,h3,ob,h4,og,h5]
variable {t:TypeId}
def B9n{op:UnOp}(F7:o.op=.unOp op t y)(H:J3 C R fl o st k=some x)(hr:M6 (O5 y) f.rt)(hw:M6 o.dst.toList f.wt)(hn:f.nb=none):Fr C R fl o st k x f:=by simp only[J3,F7]at H;obtain⟨r,h1,H⟩:=D6 H;obtain⟨h4,H⟩:=H6 H;obtain⟨d,h5,H⟩:=D6 H;refine O3 H hw hn λst' A Y k'=>?_;simp only[J3,F7,A.src _ _ hr,h1,ob,h4,og,h5]
def B6q{u:TypeId}(F7:o.op=.convert t u y)(H:J3 C R fl o st k=some x)(hr:M6 (O5 y) f.rt)(hw:M6 o.dst.toList f.wt)(hn:f.nb=none):Fr C R fl o st k x f:=by
 simp only[J3,F7]at H;obtain⟨r,h1,H⟩:=D6 H;split at H
 ·rename_i kd hk;obtain⟨h4,H⟩:=H6 H;obtain⟨d,h5,H⟩:=D6 H;refine O3 H hw hn λst' A Y k'=>?_;simp only[J3,F7,A.src _ _ hr,h1,ob,hk,h4,og,h5]
 ·simp at H
def A6u(F7:o.op=.fieldAddr t y i)(H:J3 C R fl o st k=some x)(hr:M6 (O5 y) f.rt)(hw:M6 o.dst.toList f.wt)(hn:f.nb=none):Fr C R fl o st k x f:=by
 simp only[J3,F7,SY]at H;obtain⟨r,h1,H⟩:=D6 H;obtain⟨fd,h2,H⟩:=D6 H;obtain⟨z,h3,H⟩:=D6 H;by_cases h0:z.1=0
 ·rw[A9 h0]at H;simp at H
 ·rw[A7 h0]at H;split at H
  all_goals first
   | (rename_i hm
      refine O3 H hw hn λst' A Y k'=>?_;simp only[J3,F7,SY,A.src _ _ hr,h1,h2,h3,ob,A7 h0,hm])
   |simp at H
def A6v{i:Operand}(F7:o.op=.indexAddr t y i)(H:J3 C R fl o st k=some x)(hr:M6 (K3 [y,i]) f.rt)(hw:M6 o.dst.toList f.wt)(hn:f.nb=none):Fr C R fl o st k x f:=by
 obtain⟨q1,q2⟩:=Ql hr;simp only[J3,F7,Gx]at H;obtain⟨r,h1,H⟩:=D6 H;obtain⟨j,h2,H⟩:=D6 H;cases h3:JB C.P t with
 |none=>
   rw[h3]at H;simp only[nH]at H;obtain⟨q,h4,H⟩:=D6 H;obtain⟨z,h5,H⟩:=D6 H;split at H
   ·rename_i hm;obtain⟨h6,H⟩:=H6 H;obtain⟨n,h7,H⟩:=D6 H;refine O3 H hw hn λst' A Y k'=>?_;simp only[J3,F7,Gx,A.src _ _ q1,A.src _ _ q2,h1,h2,h3,nH,h4,h5,ob,hm,h6,og,h7]
   ·cases H
 |some e=>
 rw[h3]at H;simp only at H;obtain⟨z,h4,H⟩:=D6 H;split at H
 ·rename_i hm;obtain⟨h5,H⟩:=H6 H;obtain⟨n,h6,H⟩:=D6 H;refine O3 H hw hn λst' A Y k'=>?_;simp only[J3,F7,Gx,A.src _ _ q1,A.src _ _ q2,h1,h2,h3,h4,ob,hm,h5,og,h6]
 ·rename_i hm;obtain⟨h5,H⟩:=H6 H;obtain⟨n,h6,H⟩:=D6 H;refine O3 H hw hn λst' A Y k'=>?_;simp only[J3,F7,Gx,A.src _ _ q1,A.src _ _ q2,h1,h2,h3,h4,ob,hm,h5,og,h6]
 ·rename_i m hm;obtain⟨h5,H⟩:=H6 H;obtain⟨d,h6,H⟩:=D6 H;by_cases hz:z.2=true
  ·rw[A9 hz]at H;refine O3 H hw hn λst' A Y k'=>?_;simp only[J3,F7,Gx,A.src _ _ q1,A.src _ _ q2,h1,h2,h3,h4,ob,h5,og,h6,A9 hz]
  ·rw[A7 hz]at H;obtain⟨h8,H⟩:=H6 H;refine O3 H hw hn λst' A Y k'=>?_;simp only[J3,F7,Gx,A.src _ _ q1,A.src _ _ q2,h1,h2,h3,h4,ob,h5,og,h6,A7 hz,h8]
def B4p{i:Operand}(F7:o.op=.index t y i)(H:J3 C R fl o st k=some x)(hr:M6 (K3 [y,i]) f.rt)(hw:M6 o.dst.toList f.wt)(hn:f.nb=none):Fr C R fl o st k x f:=by
 obtain⟨q1,q2⟩:=Ql hr;simp only[J3,F7]at H;obtain⟨r,h1,H⟩:=D6 H;obtain⟨j,h2,H⟩:=D6 H;split at H
 ·rename_i hu;obtain⟨h5,H⟩:=H6 H;obtain⟨d,h6,H⟩:=D6 H;refine O3 H hw hn λst' A Y k'=>?_;simp only[J3,F7,A.src _ _ q1,A.src _ _ q2,h1,h2,ob,hu,h5,og,h6]
 ·simp at H
def B4q{lo hi mx:Option Operand}(F7:o.op=.slice t y lo hi mx)(H:J3 C R fl o st k=some x)(hr:M6 (K3 (y::(lo.toList++hi.toList++mx.toList))) f.rt)(hw:M6 o.dst.toList f.wt)(hn:f.nb=none):
 Fr C R fl o st k x f:=by
 have q1:M6 (O5 y) f.rt:=λi h=>hr i (by simp only[K3,zeq,zcq];exact .inl h);have q2:M6 (K3 lo.toList) f.rt:=λi h=>hr i (by simp only[K3,zeq,zGq,zcq]at h ⊢;exact .inr (.inl (.inl h)));have q3:M6 (K3 hi.toList) f.rt:=λi h=>hr i (by simp only[K3,zeq,zGq,zcq]at h ⊢;exact .inr (.inl (.inr h)));have q4:M6 (K3 mx.toList) f.rt:=λi h=>hr i (by simp only[K3,zeq,zGq,zcq]at h ⊢;exact .inr (.inr h));simp only[J3,F7,Qx]at H;obtain⟨r,h1,H⟩:=D6 H;obtain⟨l,h2,H⟩:=D6 H;obtain⟨h,h3,H⟩:=D6 H;obtain⟨m,h4,H⟩:=D6 H;split at H
 ·rename_i q hq;obtain⟨e,g1,H⟩:=D6 H;obtain⟨z,g2,H⟩:=D6 H;obtain⟨g3,H⟩:=H6 H;obtain⟨hh,g4,H⟩:=D6 H;obtain⟨ll,g5,H⟩:=D6 H;obtain⟨g6,H⟩:=M5 H;refine O3 H hw hn λst' A Y k'=>?_;simp only[J3,F7,Qx,A.src _ _ q1,A.opt _ q2,A.opt _ q3,A.opt _ q4,h1,h2,h3,h4,M7,hq,g1,g2,g3,X7,g4,g5,A9 g6]
 rename_i hq;split at H
 ·rename_i q VQ;obtain⟨e,g1,H⟩:=D6 H;obtain⟨z,g2,H⟩:=D6 H;obtain⟨g3,H⟩:=H6 H;obtain⟨hh,g4,H⟩:=D6 H;obtain⟨g6,H⟩:=M5 H;refine O3 H hw hn λst' A Y k'=>?_;simp only[J3,F7,Qx,A.src _ _ q1,A.opt _ q2,A.opt _ q3,A.opt _ q4,h1,h2,h3,h4,M7,hq,VQ,g1,g2,g3,X7,g4,A9 g6]
 rename_i VQ;obtain⟨h5,H⟩:=H6 H;split at H
 ·rename_i e hu;obtain⟨z,h6,H⟩:=D6 H;split at H
  ·obtain⟨d,h7,H⟩:=D6 H;refine O3 H hw hn λst' A Y k'=>?_;simp only[J3,F7,Qx,A.src _ _ q1,A.opt _ q2,A.opt _ q3,A.opt _ q4,h1,h2,h3,h4,M7,hq,VQ,h5,X7,hu,h7,h6]
  ·obtain⟨d,h7,H⟩:=D6 H;refine O3 H hw hn λst' A Y k'=>?_;simp only[J3,F7,Qx,A.src _ _ q1,A.opt _ q2,A.opt _ q3,A.opt _ q4,h1,h2,h3,h4,M7,hq,VQ,h5,X7,hu,h7,h6]
  ·simp at H
 ·rename_i hu;split at H
  ·obtain⟨d,h7,H⟩:=D6 H;refine O3 H hw hn λst' A Y k'=>?_;simp only[J3,F7,Qx,A.src _ _ q1,A.opt _ q2,A.opt _ q3,A.opt _ q4,h1,h2,h3,h4,M7,hq,VQ,h5,X7,hu,h7]
  ·simp at H
 ·simp at H
def A8E(F7:o.op=.nilCheck y)(H:J3 C R fl o st k=some x)(hr:M6 (O5 y) f.rt)(hw:M6 o.dst.toList f.wt)(hn:f.nb=none):Fr C R fl o st k x f:=by
 simp only[J3,F7]at H;obtain⟨r,h1,H⟩:=D6 H;split at H
 all_goals first
  | (rename_i hm
     refine O3 H hw hn λst' A Y k'=>?_;simp only[J3,F7,A.src _ _ hr,h1,ob,hm];done)
  | (simp at H;done)
  |skip
 rename_i hm;obtain⟨q,h2,H⟩:=D6 H;obtain⟨d,h3,H⟩:=D6 H;refine O3 H hw hn λst' A Y k'=>?_;simp only[J3,F7,A.src _ _ hr,h1,ob,hm,h2,h3]
def A8D{g:FuncId}{first caps:Array Operand}(F7:o.op=.makeFunc (.func g) first caps)(H:J3 C R fl o st k=some x)(hr:M6 (K3 caps.toList) f.rt)(hw:M6 o.dst.toList f.wt)(hn:f.nb=none):Fr C R fl o st k x f:=by simp only[J3,F7]at H;obtain⟨h0,H⟩:=M5 H;obtain⟨rs,h1,H⟩:=D6 H;obtain⟨ms,h2,H⟩:=D6 H;refine O3 H hw hn λst' A Y k'=>?_;simp only[J3,F7,A.Ka _ hr,h1,ob,h2,A9 h0]
def B7X{op:BinOp}{z:Operand}{yt:TypeId}(F7:o.op=.binOp op t y z yt)(H:J3 C R fl o st k=some x)(hr:M6 (K3 [y,z]) f.rt)(hw:M6 o.dst.toList f.wt)(hn:f.nb=none):Fr C R fl o st k x f:=by
 obtain⟨q1,q2⟩:=Ql hr;simp only[J3,F7,ZZ]at H;obtain⟨r,h1,H⟩:=D6 H;obtain⟨s,h2,H⟩:=D6 H;split at H
 ·rename_i hb;obtain⟨h3,H⟩:=H6 H;obtain⟨d,h4,H⟩:=D6 H;refine O3 H hw hn λst' A Y k'=>?_;simp only[J3,F7,ZZ,A.src _ _ q1,A.src _ _ q2,h1,h2,ob,hb,h3,og,h4]
 ·rename_i hb;obtain⟨h3,H⟩:=H6 H;obtain⟨d,h4,H⟩:=D6 H;obtain⟨e,h5,H⟩:=D6 H;refine O3 H hw hn λst' A Y k'=>?_;simp only[J3,F7,ZZ,A.src _ _ q1,A.src _ _ q2,h1,h2,ob,hb,h3,og,h4,h5]
 ·rename_i hb;obtain⟨h3,H⟩:=H6 H;obtain⟨d,h4,H⟩:=D6 H;obtain⟨e,h5,H⟩:=D6 H;refine O3 H hw hn λst' A Y k'=>?_;simp only[J3,F7,ZZ,A.src _ _ q1,A.src _ _ q2,h1,h2,ob,hb,h3,og,h4,h5]
 ·rename_i hb;obtain⟨d,h4,H⟩:=D6 H;obtain⟨e,h5,H⟩:=D6 H;refine O3 H hw hn λst' A Y k'=>?_;simp only[J3,F7,ZZ,A.src _ _ q1,A.src _ _ q2,h1,h2,ob,hb,h4,h5]
 ·rename_i hb;obtain⟨d,h4,H⟩:=D6 H;obtain⟨e,h5,H⟩:=D6 H;refine O3 H hw hn λst' A Y k'=>?_;simp only[J3,F7,ZZ,A.src _ _ q1,A.src _ _ q2,h1,h2,ob,hb,h4,h5]
 ·simp at H
end
end
section
variable {X:Type}{x:X}
def Nb{r:DV×F4}{K:DV×F4->Option X}(H:cellOf r K=some x):∃c,K c=some x/\∀(Y:Type)(K':DV×F4->Option Y),cellOf r K'=K' c:=by
 unfold cellOf at H;split at H
 ·rename_i hm;obtain⟨h,H⟩:=H6 H;exact⟨_,H,λY K'=>by simp only[cellOf,hm,h,X7]⟩
 ·rename_i hm;exact⟨_,H,λY K'=>by simp only[cellOf,hm]⟩
 ·rename_i hm;exact⟨_,H,λY K'=>by simp only[cellOf,hm]⟩
 ·rename_i hm;exact⟨_,H,λY K'=>by simp only[cellOf,hm]⟩
 ·rename_i hm;exact⟨_,H,λY K'=>by simp only[cellOf,hm]⟩
 ·rename_i h1 h2 h3 h4 h5;obtain⟨h,H⟩:=H6 H;refine⟨_,H,λY K'=>?_⟩;unfold cellOf;split<;>simp_all[X7]
variable {P:Program}{t:TypeId}
def Og{r:DV×F4}{K:List (DV×F4)->Option X}(H:IQ P t r K=some x):
 ∃cs,K cs=some x/\∀(Y:Type)(K':List (DV×F4)->Option Y),IQ P t r K'=K' cs:=by
 unfold IQ at H;obtain⟨z,hz,H⟩:=D6 H;split at H
 ·rename_i h2;obtain⟨h3,H⟩:=H6 H;obtain⟨cs,h4,H⟩:=D6 H;exact⟨_,H,λY K'=>by simp only[IQ,hz,M7,A9 h2,h3,X7,h4]⟩
 ·rename_i h2;obtain⟨c,h3,h4⟩:=Nb H;exact⟨_,h3,λY K'=>by simp only[IQ,hz,M7,A7 h2,h4]⟩
def uM{r:DV×F4}{K:List (DV×F4)->Option X}(H:Jp P t r K=some x):
 ∃cs,K cs=some x/\∀(Y:Type)(K':List (DV×F4)->Option Y),Jp P t r K'=K' cs:=by
 unfold Jp at H;obtain⟨z,hz,H⟩:=D6 H;split at H
 ·rename_i h2;obtain⟨h3,H⟩:=H6 H;obtain⟨cs,h4,H⟩:=D6 H;exact⟨cs,H,λY K'=>by simp only[Jp,hz,M7,A9 h2,h3,X7,h4]⟩
 ·rename_i h2;obtain⟨c,h3,h4⟩:=Nb H;exact⟨_,h3,λY K'=>by simp only[Jp,hz,M7,A7 h2,h4]⟩
def XT{z:Nat×Bool}{r:DV×F4}{K:DV->Option X}(H:Oe z r K=some x):K r.1=some x/\∀(Y:Type)(K':DV->Option Y),Oe z r K'=K' r.1:=by
 unfold Oe at H;obtain⟨h1,H⟩:=H6 H;split at H
 ·rename_i h2;obtain⟨h3,H⟩:=H6 H;exact⟨H,λY K'=>by simp only[Oe,h1,X7,A9 h2,h3]⟩
 ·rename_i h2;obtain⟨h3,H⟩:=H6 H;exact⟨H,λY K'=>by simp only[Oe,h1,X7,A7 h2,h3]⟩
def jK{X:Type}{P:Program}{t:TypeId}{st:St}{x:X}{rt:List Nat}:∀{ps:List (Nat×Operand)}{cs:List (DV×F4)}{k:List (DV×F4)->Option X},Gw P t st ps cs k=some x->M6 (K3 (ps.map (·.2))) rt->
 ∃cs',k cs'=some x/\∀(f:Fp) st',FF f st st'->M6 rt f.rt->∀(Y:Type)(k':List (DV×F4)->Option Y),Gw P t st' ps cs k'=k' cs'
 |[],cs,k,H,_=>⟨cs,H,λ_ _ _ _ _ _=>rfl⟩
 | (i,y)::ps,cs,k,H,hs=>by
   simp only[Gw]at H;obtain⟨fd,h1,H⟩:=D6 H;obtain⟨r,h2,H⟩:=D6 H;obtain⟨xs,H,h3⟩:=Og H;obtain⟨h4,H⟩:=M5 H;have s1:M6 (O5 y) rt:=λi h=>hs i (by simp only[y3q,K3,zeq,zcq];exact .inl h);have s2:M6 (K3 (ps.map (·.2))) rt:=λi h=>hs i (by simp only[y3q,K3,zeq,zcq]at h ⊢;exact .inr h);obtain⟨cs',h5,h6⟩:=jK H s2;refine⟨cs',h5,λf st' A hr Y k'=>?_⟩;simp only[Gw,h1,M7,A.src P fd.1 (λi h=>hr i (s1 i h)),h2,h3,A9 h4]
   exact h6 f st' A hr Y k'
variable {x:Operand}
def FF.iq{f:Fp}{st st':St}(A:FF f st st')(P:Program)(t:TypeId)(h:M6 (O5 x) f.rt):iq P t st' x=iq P t st x:=by
 have e:=A.src P t h;unfold Su.iq;split
 ·rfl
 ·exact e
def lZ{X:Type}{P:Program}{e:TypeId}{z:Nat×Bool}{st:St}{x:X}{rt:List Nat}:∀{ps:List (Nat×Operand)}{ds:List DV}{k:List DV->Option X},JR P e z st ps ds k=some x->M6 (K3 (ps.map (·.2))) rt->
 ∃ds',k ds'=some x/\∀(f:Fp) st',FF f st st'->M6 rt f.rt->∀(Y:Type)(k':List DV->Option Y),JR P e z st' ps ds k'=k' ds'
 |[],ds,k,H,_=>⟨ds,H,λ_ _ _ _ _ _=>rfl⟩
 | (i,y)::ps,ds,k,H,hs=>by
   simp only[JR]at H;obtain⟨r,h2,H⟩:=D6 H;obtain⟨H,h3⟩:=XT H;obtain⟨h4,H⟩:=M5 H;have s1:M6 (O5 y) rt:=λi h=>hs i (by simp only[y3q,K3,zeq,zcq];exact .inl h);have s2:M6 (K3 (ps.map (·.2))) rt:=λi h=>hs i (by simp only[y3q,K3,zeq,zcq]at h ⊢;exact .inr h);obtain⟨ds',h5,h6⟩:=lZ H s2;refine⟨ds',h5,λf st' A hr Y k'=>?_⟩;simp only[JR,M7,A.iq P e (λi h=>hr i (s1 i h)),h2,h3,A9 h4]
   exact h6 f st' A hr Y k'
section
variable {X:Type}{C:BQ}{R:O8}{fl:H8}{o:Oper}{st:St}{k:St->Option X}{x:X}{f:Fp}
def B1m{ts:List Nat}:∀{st0 st st' s:St},Qc ts st=some s->(∀t∈ts,t∈f.rt/\t∈f.wt)->(ts≠[]->f.rs=true/\f.ws=true)->f.nb=none->∀st0',FF f st st'->Two f st0 st0' st st'->
 ∃s',Qc ts st'=some s'/\FF f s s'/\Two f st0 st0' s s':=by
 induction ts with
 |nil=>intro st0 st st' s H _ _ _ st0' A B;simp only[Qc,D8]at H;subst H;exact⟨st',rfl,A,B⟩
 |cons t ts ih=>
   intro st0 st st' s H h1 h2 h3 st0' A B;simp only[Qc]at H;split at H
   ·rename_i ks hm;obtain⟨q1,q2⟩:=h1 t (zIq ..);obtain⟨q3,q4⟩:=h2 (by simp);obtain⟨a1,a2⟩:=A.t t q1;have WR:(st'.get t).2=.Hr ks:=by rw[<- hm];simp only[St.get,Kh a2]
    have es:=A.s q3;have C0n:∀(l l':List E5),l'=l->(∀(i:Nat),i∈f.rt->((St.put { st' with sg:=l' } (some t) .undef (.map st'.sg.length)).tm[i]?=(St.put { st with sg:=l } (some t) .undef (.map st.sg.length)).tm[i]?/\(St.put { st' with sg:=l' } (some t) .undef (.map st'.sg.length)).mt[i]?=(St.put { st with sg:=l } (some t) .undef (.map st.sg.length)).mt[i]?)):=by
     intro l l' _ i hi;obtain⟨b1,b2⟩:=A.t i hi;simp only[St.put,es]
     by_cases hti:t=i
     ·subst hti;simp only[zmq];rw[b1,b2];exact⟨rfl,rfl⟩
     ·rw[z1q hti,z1q hti,z1q hti,z1q hti];exact⟨b1,b2⟩
    have A1:FF f ({ st with sg:=st.sg++[E5.map ks []] }.put (some t) .undef (.map st.sg.length)) ({ st' with sg:=st'.sg++[E5.map ks []] }.put (some t) .undef (.map st'.sg.length)):=by refine⟨by simpa[St.put]using A.lt,by simpa[St.put]using A.lm,A.lb,C0n _ _ (by rw[es]),A.b,λ_=>(by simp only[St.put,es]),λt h=>(by rw[h3]at h;cases h),λj _=>(by simp only[St.put,es])⟩
    have B1:Two f st0 st0' ({ st with sg:=st.sg++[E5.map ks []] }.put (some t) .undef (.map st.sg.length)) ({ st' with sg:=st'.sg++[E5.map ks []] }.put (some t) .undef (.map st'.sg.length)):=by rw[es];exact(B.Fb q4 _).put (by simpa using q2) _ _
    obtain⟨s',e1,e2,e3⟩:=ih H (λu hu=>h1 u (zRq _ hu)) (λ_=>⟨q3,q4⟩) h3 st0' A1 B1;exact⟨s',by simp only[Qc,WR];exact e1,e2,e3⟩
   ·cases H
variable {ps:Array (Nat×Operand)}
def B4o(F7:o.op=.build t ps)(H:J3 C R fl o st k=some x)(hr:M6 (K3 (ps.toList.map (·.2))) f.rt)(hw:M6 o.dst.toList f.wt)(hn:f.nb=none)(hp:∀t∈Jg fl o.dst,t∈f.rt/\t∈f.wt)(hq:Jg fl o.dst≠[]->f.rs=true/\f.ws=true):Fr C R fl o st k x f:=by simp only[J3,F7]at H;obtain⟨s0,h0,H⟩:=D6 H;obtain⟨zs,h1,H⟩:=D6 H;obtain⟨pl,h2,H⟩:=D6 H;obtain⟨cs,H,h3⟩:=jK H hr;refine⟨_,H,by rw[hn];simp,λst' A=>?_⟩;obtain⟨s',e1,e2,e3⟩:=B1m h0 hp hq hn st' A (Two.refl A);refine⟨_,e3.put hw _ _,λY k'=>?_⟩;simp only[J3,F7,e1,h1,h2,M7];exact h3 f s' e2 (λ_ h=>h) Y _
def A4S{n:Nat}(F7:o.op=.buildSlice t n ps)(H:J3 C R fl o st k=some x)(hr:M6 (K3 (ps.toList.map (·.2))) f.rt)(hw:M6 o.dst.toList f.wt)(hn:f.nb=none)(hv:I8 fl.Dn o.dst=true->f.rs=true/\f.ws=true):Fr C R fl o st k x f:=by
 simp only[J3,F7]at H;obtain⟨e,h1,H⟩:=D6 H;obtain⟨z,h2,H⟩:=D6 H;obtain⟨zs,h3,H⟩:=D6 H;obtain⟨ze,h4,H⟩:=D6 H;obtain⟨h5,H⟩:=M5 H;obtain⟨ds,H,h6⟩:=lZ H hr;by_cases hq:I8 fl.Dn o.dst=true
 ·rw[A9 hq]at H;obtain⟨hrs,hws⟩:=hv hq;refine⟨_,H,by rw[hn];simp,λst' A=>⟨_,((Two.refl A).Fb hws _).put hw _ _,λY k'=>?_⟩⟩;simp only[J3,F7,h1,h2,h3,h4,M7,A9 h5];rw[h6 f st' A (λ_ h=>h) Y _,A9 hq,A.s hrs]
 ·rw[A7 hq]at H;refine O3 H hw hn λst' A Y k'=>?_;simp only[J3,F7,h1,h2,h3,h4,M7,A9 h5];rw[h6 f st' A (λ_ h=>h) Y _,A7 hq]
def A3E{cs:List (DV×F4)}{sh:Bool}(hk:k (st.FX sh o.dst cs)=some x)(hb:Qu sh o.dst st=true)(hw:M6 o.dst.toList f.wt)(h1:sh=true->f.nb=none/\f.rs=true/\f.ws=true)(h2:sh=false->f.nb=o.dst/\M6 o.dst.toList f.wb)(h:∀st',FF f st st'->∀(Y:Type)(k':St->Option Y),J3 C R fl o st' k'=og (Qu sh o.dst st') (k' (st'.FX sh o.dst cs))):Fr C R fl o st k x f:=by
 cases hd:o.dst with
 |none=>
   rw[hd]at hk;refine⟨_,hk,?_,λst' A=>⟨_,Two.refl A,λY k'=>by rw[h st' A Y k',hd];rfl⟩⟩;cases sh
   ·rw[(h2 rfl).1,hd];simp
   ·rw[(h1 rfl).1];simp
 |some t=>
   rw[hd]at hk hb;have hw':∀u∈(some t:Option Nat).toList,u∈f.wt:=by rw[<- hd];exact hw
   cases sh
   ·obtain⟨q1,q2⟩:=h2 rfl;have fG:MN t st.mt=true:=by simpa[Qu]using hb
    have cl:∀mt,MN t mt=true->mt.map (Lj t)=mt:=by
     intro mt hh;simp only[MN,zlq]at hh
     conv=>rhs;rw[<- List.map_id mt]
     refine ybq λm hm=>?_;have:=hh m hm;unfold Lj;split
     ·rename_i s' o';simp only[bne_iff_ne,ne_eq]at this;rw[A7 this];rfl
     ·rfl
    refine⟨_,hk,λu hu=>?_,λst' A=>⟨st'.FX false (some t) cs,?_,λY k'=>?_⟩⟩
    ·rw[q1,hd]at hu;cases hu;exact fG
    ·have zq:=A.n t (by rw[q1,hd]);simp only[St.FX,z7q,G9];rw[cl _ fG,cl _ zq];exact((Two.refl A).xH (q2 t (by rw[hd];simp)) (some cs)).put hw' _ _
    ·rw[h st' A Y k',hd];have zq:=A.n t (by rw[q1,hd]);simp only[Qu,zq,yoq,X7]
   ·obtain⟨q1,q2,q3⟩:=h1 rfl;refine⟨_,hk,by rw[q1];simp,λst' A=>⟨st'.FX true (some t) cs,?_,λY k'=>?_⟩⟩
    ·simp only[St.FX,F6]
     rw[A.s q2];exact((Two.refl A).Fb q3 _).put hw' _ _
    ·rw[h st' A Y k',hd];simp only[Qu,Bool.true_or,X7]
def A6t(F7:o.op=.alloc t)(H:J3 C R fl o st k=some x)(hw:M6 o.dst.toList f.wt)(h1:I8 fl.shared o.dst=true->f.nb=none/\f.rs=true/\f.ws=true)(h2:I8 fl.shared o.dst=false->f.nb=o.dst/\M6 o.dst.toList f.wb):Fr C R fl o st k x f:=by simp only[J3,F7]at H;obtain⟨cs,h3,H⟩:=D6 H;obtain⟨h4,H⟩:=H6 H;exact A3E H h4 hw h1 h2 λst' A Y k'=>by simp only[J3,F7,h3,M7]
variable {t:Nat}
theorem B4O{m:F4}(h:(match m with | .loc s _=>s != t | _=>true)=true):(match dm m with | .loc s _=>s != t | _=>true)=true:=by cases m<;>first | exact h | rfl
variable {y:Operand}
def qp{st:St}(h:MN t st.mt=true):MN t (st.release y).mt=true:=by
 cases y with
 |tmp u=>
   simp only[St.release,MN,zlq]at h ⊢;intro m hm;rcases List.mem_or_eq_of_mem_set hm with h1 | rfl
   ·exact h m h1
   ·rcases zuq u st.mt.length with hu | hu
    ·refine B4O ?_;rw[z3q,z5q hu];exact h _ (List.getElem_mem hu)
    ·rw[z3q,z8q hu];rfl
 |_=>exact h
theorem yG{mt:List F4}(hh:MN t mt=true):mt.map (Lj t)=mt:=by
 simp only[MN,zlq]at hh
 conv=>rhs;rw[<- List.map_id mt]
 refine ybq λm hm=>?_;have:=hh m hm;unfold Lj;split
 ·rename_i s' o';simp only[bne_iff_ne,ne_eq]at this;rw[A7 this];rfl
 ·rfl
variable {t:TypeId}
def A1p(F7:o.op=.box t y)(H:J3 C R fl o st k=some x)(hr:M6 (O5 y) f.rt)(hw:M6 o.dst.toList f.wt)(h0:I8 fl.Yo o.dst=true->f.nb=none)(hs:I8 fl.Yo o.dst=false->I8 fl.Q4 o.dst=true->M6 (O5 y) f.wt/\f.nb=o.dst/\M6 o.dst.toList f.wb)(h1:I8 fl.Yo o.dst=false->I8 fl.Q4 o.dst=false->I8 fl.shared o.dst=true->f.nb=none/\f.rs=true/\f.ws=true)(h2:I8 fl.Yo o.dst=false->I8 fl.Q4 o.dst=false->I8 fl.shared o.dst=false->f.nb=o.dst/\M6 o.dst.toList f.wb):Fr C R fl o st k x f:=by
 simp only[J3,F7]at H;obtain⟨r,h3,H⟩:=D6 H;by_cases LP:I8 fl.Yo o.dst=true
 ·rw[A9 LP]at H;obtain⟨z,h4,H⟩:=D6 H;obtain⟨h5,H⟩:=H6 H;exact O3 H hw (h0 LP) λst' A Y k'=>by simp only[J3,F7,A.src _ _ hr,h3,M7,A9 LP,h4,h5,X7]
 rw[A7 LP]at H;have B4A:I8 fl.Yo o.dst=false:=by simpa using LP
 by_cases R8:I8 fl.Q4 o.dst=true
 ·rw[A9 R8]at H;obtain⟨q1,q2,q3⟩:=hs B4A R8;obtain⟨cs,H,h4⟩:=uM H;obtain⟨h5,H⟩:=H6 H;cases hd:o.dst with
  |none=>rw[hd]at R8;simp[I8]at R8
  |some t0=>
    rw[hd]at H h5 q2;have fG:MN t0 st.mt=true:=by simpa[Qu]using h5
    have hw':∀u∈(some t0:Option Nat).toList,u∈f.wt:=by rw[<- hd];exact hw
    refine⟨_,H,λu hu=>?_,λst' A=>⟨(st'.release y).FX false (some t0) cs,?_,λY k'=>?_⟩⟩
    ·rw[q2]at hu;cases hu;exact fG
    ·have zq:=A.n t0 q2;simp only[St.FX,z7q,G9];rw[yG (qp fG),yG (qp zq)];exact(((Two.refl A).release q1 λi hi=>A.t i (hr i hi)).xH (q3 t0 (by rw[hd];simp)) (some cs)).put hw' _ _
    ·have zq:=A.n t0 q2;rw[hd]at LP R8;simp only[J3,F7,A.src _ _ hr,h3,M7,hd,A7 LP,A9 R8,h4,Qu,zq,yoq,X7]
 rw[A7 R8]at H;have B8g:I8 fl.Q4 o.dst=false:=by simpa using R8
 obtain⟨cs,H,h4⟩:=Og H;obtain⟨h5,H⟩:=H6 H;exact A3E H h5 hw (h1 B4A B8g) (h2 B4A B8g) λst' A Y k'=>by simp only[J3,F7,A.src _ _ hr,h3,M7,A7 LP,A7 R8,h4]
def A72(P P':Program){x:Operand}{r:DV×F4}(h:src P 0 st x=some r):∃r',src P' 0 st x=some r'/\r'.2=r.2:=by
 cases x with
 |const v=>simp only[src]at h ⊢;unfold cst at h ⊢;split at h<;>simp only[D8,reduceCtorEq]at h<;>subst h<;>exact⟨_,rfl,rfl⟩
 |tmp t=>exact⟨r,h,rfl⟩
 |func f=>exact⟨r,h,rfl⟩
 |global g=>simp[src]at h
def A9p(F7:o.op=.load t y)(H:J3 C R fl o st k=some x)(hr:M6 (O5 y) f.rt)(hw:M6 o.dst.toList f.wt)(hn:f.nb=none)(hb:∀r,src C.P 0 st y=some r->M6 (Ec r.2).1 f.rb/\((Ec r.2).2=true->f.rs=true\/∃j,f.ld=some j/\A67 r.2=some j/\I8 fl.Q4 o.dst=false/\I8 fl.Dn o.dst=false)/\(I8 fl.Q4 o.dst=true->M6 (Ec r.2).1 f.wb/\((Ec r.2).2=true->f.ws=true))/\(I8 fl.Dn o.dst=true->(Ec r.2).2=true->f.ws=true)):
 Fr C R fl o st k x f:=by
 simp only[J3,F7,Cc]at H;obtain⟨r,h1,H⟩:=D6 H;obtain⟨z,h2,H⟩:=D6 H;obtain⟨b1,b2,b3,b4⟩:=hb r h1;split at H
 ·rename_i s off hm;rw[hm]at b1 b2 b3 b4;have hs:s∈f.rb:=b1 s (by simp[Ec]);obtain⟨cs,h3,H⟩:=D6 H;obtain⟨h4,H⟩:=M5 H;by_cases hz:z.2=true
  ·rw[A9 hz]at H;by_cases R8:I8 fl.Q4 o.dst=true
   ·rw[A9 R8]at H;refine⟨_,H,by rw[hn];simp,λst' A=>⟨_,((Two.refl A).xH ((b3 R8).1 s (by simp[Ec])) _).put hw _ _,λY k'=>?_⟩⟩;simp only[J3,F7,Cc,A.src _ _ hr,h1,h2,M7,hm,A.bx hs,h3,A9 h4,A9 hz,A9 R8]
   rw[A7 R8]at H;refine O3 H hw hn λst' A Y k'=>?_;simp only[J3,F7,Cc,A.src _ _ hr,h1,h2,M7,hm,A.bx hs,h3,A9 h4,A9 hz,A7 R8]
  ·rw[A7 hz]at H;by_cases R8:I8 fl.Q4 o.dst=true
   ·rw[A9 R8]at H;refine⟨_,H,by rw[hn];simp,λst' A=>⟨_,((Two.refl A).xH ((b3 R8).1 s (by simp[Ec])) _).put hw _ _,λY k'=>?_⟩⟩;simp only[J3,F7,Cc,A.src _ _ hr,h1,h2,M7,hm,A.bx hs,h3,A9 h4,A7 hz,A9 R8]
   ·rw[A7 R8]at H;refine O3 H hw hn λst' A Y k'=>?_;simp only[J3,F7,Cc,A.src _ _ hr,h1,h2,M7,hm,A.bx hs,h3,A9 h4,A7 hz,A7 R8]
 ·rename_i ag sz off hm;obtain⟨h4,H⟩:=M5 H;by_cases hz:z.2=true
  ·rw[A9 hz]at H;obtain⟨h5,H⟩:=H6 H;refine O3 H hw hn λst' A Y k'=>?_;simp only[J3,F7,Cc,A.src _ _ hr,h1,h2,M7,hm,A9 h4,A9 hz,h5,X7]
  ·rw[A7 hz]at H;refine O3 H hw hn λst' A Y k'=>?_;simp only[J3,F7,Cc,A.src _ _ hr,h1,h2,M7,hm,A9 h4,A7 hz]
 ·rename_i i off hm;rw[hm]at b1 b2 b3 b4;have hs2:(I8 fl.Q4 o.dst=true\/I8 fl.Dn o.dst=true)->f.rs=true:=λh=>by
   rcases b2 rfl with g | ⟨j,_,_,g1,g2⟩
   ·exact g
   ·rcases h with h | h
    ·rw[g1]at h;cases h
    ·rw[g2]at h;cases h
  have hs:∀st',FF f st st'->H5 st'.sg i=H5 st.sg i:=λst' A=>by
   rcases b2 rfl with g | ⟨j,g1,g2,-⟩
   ·rw[A.s g]
   ·cases g2;unfold H5;rw[A.l _ g1]
  obtain⟨cs,h3,H⟩:=D6 H;by_cases hz:z.2=true
  ·rw[A9 hz]at H;obtain⟨h5,H⟩:=H6 H;obtain⟨ds,h6,H⟩:=D6 H;refine O3 H hw hn λst' A Y k'=>?_;simp only[J3,F7,Cc,A.src _ _ hr,h1,h2,M7,hm,hs _ A,h3,A9 hz,h5,X7,h6]
  ·rw[A7 hz]at H;split at H
   ·rename_i hc;obtain⟨j,h6,H⟩:=D6 H;refine O3 H hw hn λst' A Y k'=>?_;simp only[J3,F7,Cc,A.src _ _ hr,h1,h2,M7,hm,hs _ A,h3,A7 hz,hc,h6]
   ·rename_i hc;obtain⟨j,h6,H⟩:=D6 H;refine O3 H hw hn λst' A Y k'=>?_;simp only[J3,F7,Cc,A.src _ _ hr,h1,h2,M7,hm,hs _ A,h3,A7 hz,hc,h6]
   ·rename_i hc;by_cases hg0:I8 fl.Oy o.dst=true
    ·rw[A9 hg0]at H;obtain⟨e,h6,H⟩:=D6 H;obtain⟨ze,h7,H⟩:=D6 H;obtain⟨q,h8,H⟩:=D6 H;refine O3 H hw hn λst' A Y k'=>?_;simp only[J3,F7,Cc,A.src _ _ hr,h1,h2,M7,hm,hs _ A,h3,A7 hz,hc,A9 hg0,h6,h7,h8]
    rw[A7 hg0]at H;by_cases uo:I8 fl.PK o.dst=true
    ·rw[A9 uo]at H;obtain⟨e,h6,H⟩:=D6 H;obtain⟨ze,h7,H⟩:=D6 H;obtain⟨q,h8,H⟩:=D6 H;refine O3 H hw hn λst' A Y k'=>?_;simp only[J3,F7,Cc,A.src _ _ hr,h1,h2,M7,hm,hs _ A,h3,A7 hz,hc,A7 hg0,A9 uo,h6,h7,h8]
    rw[A7 uo]at H;by_cases hq:I8 fl.Dn o.dst=true
    ·rw[A9 hq]at H;obtain⟨e,h6,H⟩:=D6 H;obtain⟨ze,h7,H⟩:=D6 H;obtain⟨q,h8,H⟩:=D6 H;refine⟨_,H,by rw[hn];simp,λst' A=>⟨_,((Two.refl A).Fb (b4 hq rfl) _).put hw _ _,λY k'=>?_⟩⟩;simp only[J3,F7,Cc,A.src _ _ hr,h1,h2,M7,hm,A.s (hs2 (.inr hq)),h3,A7 hz,hc,A7 hg0,A7 uo,A9 hq,h6,h7,h8]
    ·rw[A7 hq]at H;by_cases R8:I8 fl.Q4 o.dst=true
     ·rw[A9 R8]at H;obtain⟨d,h6,H⟩:=D6 H;refine⟨_,H,by rw[hn];simp,λst' A=>⟨_,((Two.refl A).Fb ((b3 R8).2 rfl) _).put hw _ _,λY k'=>?_⟩⟩;simp only[J3,F7,Cc,A.src _ _ hr,h1,h2,M7,hm,A.s (hs2 (.inl R8)),h3,A7 hz,hc,A7 hg0,A7 uo,A7 hq,A9 R8,h6]
     ·rw[A7 R8]at H;obtain⟨d,h6,H⟩:=D6 H;refine O3 H hw hn λst' A Y k'=>?_;simp only[J3,F7,Cc,A.src _ _ hr,h1,h2,M7,hm,hs _ A,h3,A7 hz,hc,A7 hg0,A7 uo,A7 hq,A7 R8,h6]
 ·rename_i i sz idx off hm;rw[hm]at b1 b2 b3 b4;have hs:∀st',FF f st st'->RL st'.sg i=RL st.sg i:=λst' A=>by
   rcases b2 rfl with g | ⟨j,g1,g2,-⟩
   ·rw[A.s g]
   ·cases g2;unfold RL;rw[A.l _ g1]
  obtain⟨a,h3,H⟩:=D6 H;obtain⟨d,h4,H⟩:=D6 H;obtain⟨h5,H⟩:=H6 H;obtain⟨h6,H⟩:=M5 H;by_cases hz:z.2=true
  ·rw[A9 hz]at H;refine O3 H hw hn λst' A Y k'=>?_;simp only[J3,F7,Cc,A.src _ _ hr,h1,h2,M7,hm,hs _ A,h3,h4,h5,X7,A9 h6,A9 hz]
  ·rw[A7 hz]at H;by_cases h7:sz=1
   ·rw[A9 h7]at H;obtain⟨h8,H⟩:=H6 H;refine O3 H hw hn λst' A Y k'=>?_;simp only[J3,F7,Cc,A.src _ _ hr,h1,h2,M7,hm,hs _ A,h3,h4,h5,X7,A9 h6,A7 hz,A9 h7,h8]
   ·rw[A7 h7]at H;refine O3 H hw hn λst' A Y k'=>?_;simp only[J3,F7,Cc,A.src _ _ hr,h1,h2,M7,hm,hs _ A,h3,h4,h5,X7,A9 h6,A7 hz,A7 h7]
 ·rename_i i n sz idx off hm;rw[hm]at b1 b2 b3 b4;have hs:∀st',FF f st st'->V5 st'.sg i n=V5 st.sg i n:=λst' A=>by
   rcases b2 rfl with g | ⟨j,g1,g2,-⟩
   ·rw[A.s g]
   ·cases g2;unfold V5;rw[A.l _ g1]
  obtain⟨a,h3,H⟩:=D6 H;obtain⟨d,h4,H⟩:=D6 H;obtain⟨h5,H⟩:=H6 H;obtain⟨h6,H⟩:=M5 H;by_cases hz:z.2=true
  ·rw[A9 hz]at H;refine O3 H hw hn λst' A Y k'=>?_;simp only[J3,F7,Cc,A.src _ _ hr,h1,h2,M7,hm,hs _ A,h3,h4,h5,X7,A9 h6,A9 hz]
  ·rw[A7 hz]at H;by_cases h7:sz=1
   ·rw[A9 h7]at H;obtain⟨h8,H⟩:=H6 H;refine O3 H hw hn λst' A Y k'=>?_;simp only[J3,F7,Cc,A.src _ _ hr,h1,h2,M7,hm,hs _ A,h3,h4,h5,X7,A9 h6,A7 hz,A9 h7,h8]
   ·rw[A7 h7]at H;refine O3 H hw hn λst' A Y k'=>?_;simp only[J3,F7,Cc,A.src _ _ hr,h1,h2,M7,hm,hs _ A,h3,h4,h5,X7,A9 h6,A7 hz,A7 h7]
 ·simp at H
def B4r{v:Operand}(F7:o.op=.store t y v)(H:J3 C R fl o st k=some x)(hr:M6 (K3 [y,v]) f.rt)(hw:M6 o.dst.toList f.wt)(hwv:M6 (Fa st.mt v) f.wt)(hn:f.nb=none)(hb:∀r,src C.P 0 st y=some r->M6 (Ec r.2).1 f.rb/\((Ec r.2).2=true->f.rs=true)/\M6 (Ec r.2).1 f.wb/\((Ec r.2).2=true->f.ws=true)):
 Fr C R fl o st k x f:=by
 obtain⟨q1,q2⟩:=Ql hr;simp only[J3,F7,Dj]at H;obtain⟨r,h1,H⟩:=D6 H;obtain⟨u,h2,H⟩:=D6 H;obtain⟨z,h3,H⟩:=D6 H;obtain⟨b1,b2,b3,b4⟩:=hb r h1;split at H
 ·rename_i s off hm;rw[hm]at b1 b2 b3 b4;have hs:s∈f.rb:=b1 s (by simp[Ec]);have Db:s∈f.wb:=b3 s (by simp[Ec]);obtain⟨cs,h4,H⟩:=D6 H;by_cases hz:z.2=true
  ·rw[A9 hz]at H;obtain⟨xs,H,h5⟩:=uM H;obtain⟨h6,H⟩:=M5 H;refine⟨_,H,by rw[hn];simp,λst' A=>⟨_,(((Two.refl A).xH Db _).A0q hwv λi hi=>A.t i (q2 i hi)).put hw _ _,λY k'=>?_⟩⟩;simp only[J3,F7,Dj,A.src _ _ q1,A.src _ _ q2,h1,h2,h3,M7,hm,A.bx hs,h4,A9 hz,h5,A9 h6]
  ·rw[A7 hz]at H;obtain⟨c,H,h5⟩:=Nb H;obtain⟨h6,H⟩:=M5 H;refine⟨_,H,by rw[hn];simp,λst' A=>⟨_,(((Two.refl A).xH Db _).A0q hwv λi hi=>A.t i (q2 i hi)).put hw _ _,λY k'=>?_⟩⟩;simp only[J3,F7,Dj,A.src _ _ q1,A.src _ _ q2,h1,h2,h3,M7,hm,A.bx hs,h4,A7 hz,h5,A9 h6]
 ·rename_i i off hm;rw[hm]at b1 b2 b3 b4;obtain⟨cs,h4,H⟩:=D6 H;by_cases hz:z.2=true
  ·rw[A9 hz]at H;obtain⟨xs,H,h5⟩:=Og H;obtain⟨h6,H⟩:=M5 H;refine⟨_,H,by rw[hn];simp,λst' A=>⟨_,((Two.refl A).Fb (b4 rfl) _).put hw _ _,λY k'=>?_⟩⟩;simp only[J3,F7,Dj,A.src _ _ q1,A.src _ _ q2,h1,h2,h3,M7,hm,A.s (b2 rfl),h4,A9 hz,h5,A9 h6]
  ·rw[A7 hz]at H;obtain⟨c,H,h5⟩:=Nb H;obtain⟨c0,h6,H⟩:=D6 H;refine⟨_,H,by rw[hn];simp,λst' A=>⟨_,(((Two.refl A).Fb (b4 rfl) (st.sg.set i (.box (cs.set off c)))).A0q hwv λi hi=>A.t i (q2 i hi)).put hw (.J6 []) .val,λY k'=>?_⟩⟩;simp only[J3,F7,Dj,A.src _ _ q1,A.src _ _ q2,h1,h2,h3,M7,hm,A.s (b2 rfl),h4,A7 hz,h5,h6]
 ·rename_i i sz idx off hm;rw[hm]at b1 b2 b3 b4;obtain⟨a,h4,H⟩:=D6 H;obtain⟨d,h5,H⟩:=D6 H;obtain⟨H,h6⟩:=XT H;obtain⟨h7,H⟩:=H6 H;obtain⟨h8,H⟩:=M5 H;refine⟨_,H,by rw[hn];simp,λst' A=>⟨_,((Two.refl A).Fb (b4 rfl) _).put hw _ _,λY k'=>?_⟩⟩;simp only[J3,F7,Dj,A.src _ _ q1,A.src _ _ q2,h1,h2,h3,M7,hm,A.s (b2 rfl),h4,h5,h6,h7,X7,A9 h8]
 ·rename_i i sz idx hm;rw[hm]at b1 b2 b3 b4;obtain⟨q,h4,H⟩:=D6 H;obtain⟨H,h6⟩:=XT H;obtain⟨h7,H⟩:=H6 H;obtain⟨x',h8,H⟩:=D6 H;refine⟨_,H,by rw[hn];simp,λst' A=>⟨_,((Two.refl A).Fb (b4 rfl) _).put hw _ _,λY k'=>?_⟩⟩;simp only[J3,F7,Dj,A.src _ _ q1,A.src _ _ q2,h1,h2,h3,M7,hm,A.s (b2 rfl),h4,h6,h7,X7,h8]
 ·rename_i i n sz idx off hm;rw[hm]at b1 b2 b3 b4;obtain⟨a,h4,H⟩:=D6 H;obtain⟨d,h5,H⟩:=D6 H;obtain⟨h7,H⟩:=H6 H;by_cases hz:z.2=true
  ·rw[A9 hz]at H;obtain⟨xs,H,h6⟩:=Og H;obtain⟨e,h8,H⟩:=D6 H;refine⟨_,H,by rw[hn];simp,λst' A=>⟨_,((Two.refl A).Fb (b4 rfl) _).put hw _ _,λY k'=>?_⟩⟩;simp only[J3,F7,Dj,A.src _ _ q1,A.src _ _ q2,h1,h2,h3,M7,hm,A.s (b2 rfl),h4,h5,h7,X7,A9 hz,h6,h8]
  ·rw[A7 hz]at H;obtain⟨c,H,h6⟩:=Nb H;obtain⟨e,h8,H⟩:=D6 H;refine⟨_,H,by rw[hn];simp,λst' A=>⟨_,((Two.refl A).Fb (b4 rfl) _).put hw _ _,λY k'=>?_⟩⟩;simp only[J3,F7,Dj,A.src _ _ q1,A.src _ _ q2,h1,h2,h3,M7,hm,A.s (b2 rfl),h4,h5,h7,X7,A7 hz,h6,h8]
 ·simp at H
def B0J(F7:o.op=.makeMap t none)(H:J3 C R fl o st k=some x)(hw:M6 o.dst.toList f.wt)(hn:f.nb=none)(hq:I8 fl.Hr o.dst=false->f.rs=true/\f.ws=true):Fr C R fl o st k x f:=by
 simp only[J3,F7]at H;obtain⟨q,h1,H⟩:=D6 H;cases fH:I8 fl.Hr o.dst with
 |true=>rw[fH,A9 rfl]at H;refine O3 H hw hn λst' A Y k'=>?_;simp only[J3,F7,h1,M7,fH,A9]
 |false=>rw[fH,A7 (by simp)]at H;obtain⟨hrs,hws⟩:=hq fH;refine⟨_,H,by rw[hn];simp,λst' A=>⟨_,((Two.refl A).Fb hws _).put hw _ _,λY k'=>?_⟩⟩;simp only[J3,F7,h1,M7,A.s hrs,fH,z7q,G9]
def B2x{v:Operand}{ok:Bool}(F7:o.op=.lookup t y v ok)(H:J3 C R fl o st k=some x)(hr:M6 (K3 [y,v]) f.rt)(hw:M6 o.dst.toList f.wt)(hn:f.nb=none)(hrs:f.rs=true):Fr C R fl o st k x f:=by
 obtain⟨q1,q2⟩:=Ql hr;simp only[J3,F7]at H;obtain⟨r,h1,H⟩:=D6 H;obtain⟨key,h2,H⟩:=D6 H;obtain⟨q,h3,H⟩:=D6 H;obtain⟨ze,h4,H⟩:=D6 H;obtain⟨h5,H⟩:=H6 H;split at H
 ·rename_i i hm;obtain⟨p,h6,H⟩:=D6 H;obtain⟨h7,H⟩:=H6 H;by_cases Ak:ok=true
  ·rw[A9 Ak]at H;refine O3 H hw hn λst' A Y k'=>?_;simp only[J3,F7,A.src _ _ q1,A.src _ _ q2,h1,h2,h3,h4,M7,h5,X7,hm,A.s hrs,h6,h7,A9 Ak]
  ·rw[A7 Ak]at H;refine O3 H hw hn λst' A Y k'=>?_;simp only[J3,F7,A.src _ _ q1,A.src _ _ q2,h1,h2,h3,h4,M7,h5,X7,hm,A.s hrs,h6,h7,A7 Ak]
 ·simp at H
def A6w{v u:Operand}(F7:o.op=.mapUpdate t y v u)(H:J3 C R fl o st k=some x)(hr:M6 (K3 [y,v,u]) f.rt)(hw:M6 o.dst.toList f.wt)(hn:f.nb=none)(hrs:f.rs=true)(hws:f.ws=true):Fr C R fl o st k x f:=by
 have q1:M6 (O5 y) f.rt:=λi hi=>hr i (by simp[K3,hi]);have q2:M6 (O5 v) f.rt:=λi hi=>hr i (by simp[K3,hi]);have q3:M6 (O5 u) f.rt:=λi hi=>hr i (by simp[K3,hi]);simp only[J3,F7]at H;obtain⟨r,h1,H⟩:=D6 H;obtain⟨key,h2,H⟩:=D6 H;obtain⟨val,h3,H⟩:=D6 H;obtain⟨q,h4,H⟩:=D6 H;obtain⟨h5,H⟩:=H6 H;split at H
 ·rename_i i hm;obtain⟨p,h6,H⟩:=D6 H;obtain⟨h7,H⟩:=H6 H;refine⟨_,H,by rw[hn];simp,λst' A=>⟨_,((Two.refl A).Fb hws _).put hw _ _,λY k'=>?_⟩⟩;simp only[J3,F7,A.src _ _ q1,A.src _ _ q2,A.src _ _ q3,h1,h2,h3,h4,M7,h5,X7,hm,A.s hrs,h6,h7]
 ·simp at H
def B0I{i:Nat}(F7:o.op=.extract y i)(H:J3 C R fl o st k=some x)(hr:M6 (O5 y) f.rt)(hw:M6 o.dst.toList f.wt)(hs:I8 fl.Q4 o.dst=true->M6 (O5 y) f.wt)(hn:f.nb=none):Fr C R fl o st k x f:=by
 simp only[J3,F7]at H;obtain⟨r,h1,H⟩:=D6 H;split at H
 ·rename_i hm;obtain⟨d,h2,H⟩:=D6 H;refine O3 H hw hn λst' A Y k'=>?_;simp only[J3,F7,A.src _ _ hr,h1,M7,hm,h2]
 ·rename_i ms hm;obtain⟨d,h2,H⟩:=D6 H;split at H
  ·rename_i hg;by_cases R8:I8 fl.Q4 o.dst=true
   ·rw[A9 R8]at H;refine⟨_,H,by rw[hn];simp,λst' A=>⟨(st'.qB y (.Cg (ms.set i .val))).put o.dst d .own,Two.put ?_ hw _ _,λY k'=>?_⟩⟩
    ·cases y with
     |tmp t=>
       have ht:t∈O5 (.tmp t):=by simp[O5]
       exact(Two.refl A).B53 (hs R8 t ht) (A.t t (hr t ht)).1 _
     |_=>exact Two.refl A
    ·simp only[J3,F7,A.src _ _ hr,h1,M7,hm,h2,hg,A9 R8]
   ·rw[A7 R8]at H;refine O3 H hw hn λst' A Y k'=>?_;simp only[J3,F7,A.src _ _ hr,h1,M7,hm,h2,hg,A7 R8]
  ·rename_i hg;refine O3 H hw hn λst' A Y k'=>?_;simp only[J3,F7,A.src _ _ hr,h1,M7,hm,h2,hg]
  ·simp at H
 ·simp at H
end
end
section
variable {X:Type}{C:BQ}{R:O8}{fl:H8}{o:Oper}{st:St}{k:St->Option X}{x:X}{f:Fp}{c:Call}{y:Operand}
def B7Y{t:TypeId}(F7:o.op=.call c)(hc:c.callee=.builtin .len)(ha:c.args.toList=[y])(ht:c.argTypes.toList=[t])(H:Us C o y t st k=some x)(hr:M6 (O5 y) f.rt)(hw:M6 o.dst.toList f.wt)(hn:f.nb=none)(hrs:f.rs=true):Fr C R fl o st k x f:=by
 have IV:∀(Y:Type)(st:St)(k:St->Option Y),J3 C R fl o st k=Us C o y t st k:=λY st k=>by simp only[J3,F7,Hm,hc,ha,ht]
 unfold Us at H;obtain⟨r,h1,H⟩:=D6 H;split at H
 ·rename_i hu;split at H
  ·rename_i hm;refine O3 H hw hn λst' A Y k'=>?_;rw[IV];simp only[Us,A.src _ _ hr,h1,M7,hu,hm]
  ·rename_i hm;rw[XL]at H;refine O3 H hw hn λst' A Y k'=>?_;rw[IV];simp only[Us,A.src _ _ hr,h1,M7,hu,hm,XL]
  ·rename_i hm;obtain⟨h2,H⟩:=H6 H;obtain⟨d,h3,H⟩:=D6 H;refine O3 H hw hn λst' A Y k'=>?_;rw[IV];simp only[Us,A.src _ _ hr,h1,M7,hu,h2,X7,h3]
 ·rename_i hu;obtain⟨h2,H⟩:=H6 H;obtain⟨d,h3,H⟩:=D6 H;refine O3 H hw hn λst' A Y k'=>?_;rw[IV];simp only[Us,A.src _ _ hr,h1,M7,hu,h2,X7,h3]
 ·rename_i hu;obtain⟨d,h3,H⟩:=D6 H;rw[XL]at H;refine O3 H hw hn λst' A Y k'=>?_;rw[IV];simp only[Us,A.src _ _ hr,h1,M7,hu,A.s hrs,h3,XL]
 ·simp at H
def B2w{v:Operand}{t u:TypeId}(F7:o.op=.call c)(hc:c.callee=.builtin .append)(ha:c.args.toList=[y,v])(ht:c.argTypes.toList=[t,u])(H:D_ C fl o y v t u st k=some x)(hr:M6 (K3 [y,v]) f.rt)(hw:M6 o.dst.toList f.wt)(hwy:M6 (O5 y) f.wt)(hn:f.nb=none)(hos:(I8 fl.opn o.dst||(I8 fl.Dn o.dst||I8 fl.Oy o.dst))=true->f.rs=true/\f.ws=true):Fr C R fl o st k x f:=by
 obtain⟨q1,q2⟩:=Ql hr;have IV:∀(Y:Type)(st:St)(k:St->Option Y),J3 C R fl o st k=D_ C fl o y v t u st k:=λY st k=>by simp only[J3,F7,Hm,hc,ha,ht]
 unfold D_ at H;by_cases QU:I8 fl.Oy o.dst=true
 ·rw[A9 QU]at H;unfold A1b at H;obtain⟨o1,o2⟩:=hos (by rw[QU];simp);obtain⟨r,h1,H⟩:=D6 H;obtain⟨s,h2,H⟩:=D6 H;obtain⟨sz,h3,H⟩:=D6 H;obtain⟨h4,H⟩:=H6 H;obtain⟨q,hq,H⟩:=D6 H;obtain⟨h6,H⟩:=H6 H;obtain⟨p,h5,H⟩:=D6 H;refine⟨_,H,by rw[hn];simp,λst' A=>⟨_,((Two.refl A).Fb o2 _).put hw _ _,λY k'=>?_⟩⟩;rw[IV];simp only[D_,A9 QU,A1b,A.src _ _ q1,A.src _ _ q2,h1,h2,h3,M7,h4,X7,hq,A.s o1,h5,h6]
 rw[A7 QU]at H;by_cases Ph:I8 fl.Dn o.dst=true
 ·rw[A9 Ph]at H;unfold A1e at H;obtain⟨o1,o2⟩:=hos (by rw[Ph];simp);obtain⟨r,h1,H⟩:=D6 H;obtain⟨s,h2,H⟩:=D6 H;obtain⟨sz,h3,H⟩:=D6 H;obtain⟨h4,H⟩:=H6 H;obtain⟨q,hq,H⟩:=D6 H;obtain⟨p,h5,H⟩:=D6 H;obtain⟨h6,H⟩:=H6 H;obtain⟨d,h7,H⟩:=D6 H;refine⟨_,H,by rw[hn];simp,λst' A=>⟨_,((Two.refl A).Fb o2 _).put hw _ _,λY k'=>?_⟩⟩;rw[IV];simp only[D_,A7 QU,A9 Ph,A1e,A.src _ _ q1,A.src _ _ q2,h1,h2,h3,M7,h4,X7,hq,A.s o1,h5,h6,h7]
 rw[A7 Ph]at H;obtain⟨r,h1,H⟩:=D6 H;obtain⟨s,h2,H⟩:=D6 H;obtain⟨sz,h3,H⟩:=D6 H;obtain⟨h4,H⟩:=H6 H;by_cases fE:I8 fl.opn o.dst=true
 ·rw[A9 fE]at H;obtain⟨p,h5,H⟩:=D6 H;obtain⟨o1,o2⟩:=hos (by rw[fE];simp);refine⟨_,H,by rw[hn];simp,λst' A=>⟨_,(((Two.refl A).release hwy λi hi=>A.t i (q1 i hi)).Fb o2 (st.sg++[E5.opn sz p.1 p.2])).put hw _ _,λY k'=>?_⟩⟩;rw[IV];simp only[D_,A7 QU,A7 Ph,A.src _ _ q1,A.src _ _ q2,h1,h2,h3,M7,h4,X7,A9 fE,h5,A.s o1]
 rw[A7 fE]at H;obtain⟨d,h5,H⟩:=D6 H;refine⟨_,H,by rw[hn];simp,λst' A=>⟨_,((Two.refl A).release hwy λi hi=>A.t i (q1 i hi)).put hw _ _,λY k'=>?_⟩⟩;rw[IV];simp only[D_,A7 QU,A7 Ph,A.src _ _ q1,A.src _ _ q2,h1,h2,h3,M7,h4,X7,A7 fE,h5]
def B7Z{v:Operand}{t u:TypeId}(F7:o.op=.call c)(hc:c.callee=.builtin .max)(ha:c.args.toList=[y,v])(ht:c.argTypes.toList=[t,u])(H:J3 C R fl o st k=some x)(hr:M6 (K3 [y,v]) f.rt)(hw:M6 o.dst.toList f.wt)(hn:f.nb=none):Fr C R fl o st k x f:=by obtain⟨q1,q2⟩:=Ql hr;simp only[J3,F7,Hm,hc,ha,ht]at H;obtain⟨r,h1,H⟩:=D6 H;obtain⟨s,h2,H⟩:=D6 H;obtain⟨h4,H⟩:=H6 H;obtain⟨d,h5,H⟩:=D6 H;refine O3 H hw hn λst' A Y k'=>?_;simp only[J3,F7,Hm,hc,ha,ht,A.src _ _ q1,A.src _ _ q2,h1,h2,M7,h4,X7,h5]
def B70{v:Operand}{t u:TypeId}(F7:o.op=.call c)(hc:c.callee=.builtin .min)(ha:c.args.toList=[y,v])(ht:c.argTypes.toList=[t,u])(H:J3 C R fl o st k=some x)(hr:M6 (K3 [y,v]) f.rt)(hw:M6 o.dst.toList f.wt)(hn:f.nb=none):Fr C R fl o st k x f:=by obtain⟨q1,q2⟩:=Ql hr;simp only[J3,F7,Hm,hc,ha,ht]at H;obtain⟨r,h1,H⟩:=D6 H;obtain⟨s,h2,H⟩:=D6 H;obtain⟨h4,H⟩:=H6 H;obtain⟨d,h5,H⟩:=D6 H;refine O3 H hw hn λst' A Y k'=>?_;simp only[J3,F7,Hm,hc,ha,ht,A.src _ _ q1,A.src _ _ q2,h1,h2,M7,h4,X7,h5]
def B6s{g:FuncId}(F7:o.op=.call c)(hc:c.callee=.value (.func g))(h1:C.clone g=false)(h0:C.fO g=none)(h2:C.sig g=none)(H:J3 C R fl o st k=some x)(hr:M6 (K3 c.args.toList) f.rt)(hw:M6 o.dst.toList f.wt)(hn:f.nb=none):Fr C R fl o st k x f:=by
 have h1':¬(C.clone g=true):=by rw[h1];simp
 simp only[J3,F7,Hm,hc,src,M7,LB,A7 h1',h0,h2,List.map_nil,zWq]at H;obtain⟨rs,h3,H⟩:=D6 H;obtain⟨h4,H⟩:=H6 H;obtain⟨d,h5,H⟩:=D6 H;refine O3 H hw hn λst' A Y k'=>?_;simp only[J3,F7,Hm,hc,src,M7,LB,A7 h1',h0,h2,List.map_nil,zWq,A.Ka _ hr,h3,h4,X7,h5]
def Two.Jf{st' s s':St}(A:Two f st st' s s'){g:Option (Nat×Operand)}(hx:∀p,g=some p->M6 (O5 p.2) f.wt)(he:∀p,g=some p->∀t∈O5 p.2,s'.tm[t]?=s.tm[t]?/\s'.mt[t]?=s.mt[t]?):
 Two f st st' (s.Jf g) (s'.Jf g):=by
 cases g with
 |none=>exact A
 |some p=>exact A.release (hx p rfl) (he p rfl)
def B7W(F7:o.op=.call c)(hc:c.callee=.value y)(H:J3 C R fl o st k=some x)(hr:M6 (K3 (y::c.args.toList)) f.rt)(hw:M6 o.dst.toList f.wt)(hwa:M6 (K3 c.args.toList) f.wt)(hn:f.nb=none)(hrs:f.rs=true)(hws:f.ws=true):Fr C R fl o st k x f:=by
 have q1:M6 (O5 y) f.rt:=λi h=>hr i (by simp only[K3,zeq,zcq];exact .inl h);have q2:M6 (K3 c.args.toList) f.rt:=λi h=>hr i (by simp only[K3,zeq,zcq]at h ⊢;exact .inr h);simp only[J3,F7,Hm,hc]at H;obtain⟨r,h1,H⟩:=D6 H;obtain⟨rs,h2,H⟩:=D6 H;split at H
 ·rename_i g caps hm;have IV:∀st',FF f st st'->∀(Y:Type)(k':St->Option Y),J3 C R fl o st' k'=LB C R o g c.args.toList (rs++caps.map λm=>(.undef,.ptr m.1 m.2)) st' k':=by intro st' A Y k';simp only[J3,F7,Hm,hc,A.src _ _ q1,A.Ka _ q2,h1,h2,M7,hm]
  generalize rs++caps.map (λm=>((.undef,.ptr m.1 m.2):DV×F4))=rs' at H IV;unfold LB at H;by_cases Tx:C.clone g=true
  ·rw[A9 Tx]at H;split at H
   ·rename_i r' 
    ·obtain⟨p,hd,H⟩:=D6 H;obtain⟨h3,H⟩:=H6 H;refine⟨_,H,by rw[hn];simp,λst' A=>⟨_,((Two.refl A).Fb hws _).put hw _ _,λY k'=>?_⟩⟩;rw[IV st' A];simp only[LB,A9 Tx,hd,M7,h3,X7,A.s hrs]
   ·simp at H
  ·rw[A7 Tx]at H;cases fF:C.fO g with
   |some g'=>
     rw[fF]at H;simp only at H;split at H
     ·rename_i r';obtain⟨p,hd,H⟩:=D6 H;obtain⟨h3,H⟩:=H6 H;refine⟨_,H,by rw[hn];simp,λst' A=>⟨_,((Two.refl A).Fb hws _).put hw _ _,λY k'=>?_⟩⟩;rw[IV st' A];simp only[LB,A7 Tx,fF,hd,M7,h3,X7,A.s hrs]
     ·simp at H
   |none=>
   rw[fF]at H;simp only at H;split at H
   ·rename_i hs;obtain⟨h3,H⟩:=H6 H;obtain⟨d,h4,H⟩:=D6 H;refine O3 H hw hn λst' A Y k'=>?_;rw[IV st' A];simp only[LB,A7 Tx,fF,hs,h3,X7,h4,M7]
   ·rename_i s hs;obtain⟨h3,H⟩:=H6 H;obtain⟨q,h4,H⟩:=D6 H;obtain⟨H,h6⟩:=yx H;have EQ:∀p,Gg 0 s.params c.args.toList=some p->M6 (O5 p.2) (K3 c.args.toList):=by intro p hp i hi;obtain⟨_,_,h5⟩:=qw hp;exact zZq.2 ⟨p.2,zkq h5,hi⟩
    refine⟨_,H,by rw[hn];simp,λst' A=>⟨_,(((Two.refl A).Fb hws q.2).Jf (λp hp i hi=>hwa i (EQ p hp i hi)) λp hp i hi=>A.t i (q2 i (EQ p hp i hi))).put hw _ _,λY k'=>?_⟩⟩;rw[IV st' A];simp only[LB,A7 Tx,fF,hs,h3,X7,A.s hrs,h4,M7];exact h6 _ _
 ·simp at H
def Z8(C:BQ)(fl:H8)(o:Oper)(st:St):Fp :=if YP C o then{ rt:=K3 o.op.operands.toList,wt:=o.dst.toList }else FQ fl o st
def M6.refl(a:List Nat):M6 a a:=λ_ h=>h
def TU(a b:List Nat):M6 a (a++b):=λ_ h=>zcq.2 (.inl h)
def pz(a b:List Nat):M6 b (a++b):=λ_ h=>zcq.2 (.inr h)
def A3a{c:Prop}[Decidable c](a b:List Nat)(h:c):M6 b (a++(if c then b else[])):=by rw[A9 h];exact pz _ _
def nI(H:J3 C R fl o st k=some x):Fr C R fl o st k x (Z8 C fl o st):=by
 have np:∀op,o.op=op->(∀c,op ≠ .call c)->YP C o=false:=by
  intro op h1 h2;unfold YP;split
  ·rename_i c hc;exact absurd (h1.symm.trans hc) (h2 c)
  ·rfl
 have H0:=H;unfold J3 at H;split at H
 ·rename_i y F7;have e:Z8 C fl o st={ rt:=O5 y,wt:=o.dst.toList++(if I8 fl.Q4 o.dst then O5 y else[]) }:=by simp[Z8,np _ F7 (by simp),FQ,F7]
  rw[e];exact A9q (.inl F7) H0 (M6.refl _) (TU _ _) (λh=>A3a _ _ h) rfl
 ·rename_i y F7;have e:Z8 C fl o st={ rt:=O5 y,wt:=o.dst.toList++(if I8 fl.Q4 o.dst then O5 y else[]) }:=by simp[Z8,np _ F7 (by simp),FQ,F7]
  rw[e];exact A9q (.inr F7) H0 (M6.refl _) (TU _ _) (λh=>A3a _ _ h) rfl
 ·rename_i c y z F7;have e:Z8 C fl o st={ rt:=K3 [c,y,z],wt:=o.dst.toList }:=by simp[Z8,np _ F7 (by simp),FQ,F7]
  rw[e];exact B6r F7 H0 (M6.refl _) (M6.refl _) rfl
 ·rename_i t F7;have e:Z8 C fl o st=if I8 fl.shared o.dst then{ wt:=o.dst.toList,rs:=true,ws:=true }else{ wt:=o.dst.toList,wb:=o.dst.toList,nb:=o.dst }:=by simp[Z8,np _ F7 (by simp),FQ,F7]
  rw[e];by_cases hs:I8 fl.shared o.dst=true
  ·rw[A9 hs];exact A6t F7 H0 (M6.refl _) (λ_=>⟨rfl,rfl,rfl⟩) (λh=>by rw[hs]at h;cases h)
  ·rw[A7 hs];exact A6t F7 H0 (M6.refl _) (λh=>absurd h hs) (λh=>⟨rfl,M6.refl _⟩)
 ·rename_i t y F7;have e:Z8 C fl o st=if I8 fl.Yo o.dst then{ rt:=O5 y,wt:=o.dst.toList }else if I8 fl.Q4 o.dst then{ rt:=O5 y,wt:=o.dst.toList++O5 y,wb:=o.dst.toList,nb:=o.dst }else if I8 fl.shared o.dst then{ rt:=O5 y,wt:=o.dst.toList,rs:=true,ws:=true }else{ rt:=O5 y,wt:=o.dst.toList,wb:=o.dst.toList,nb:=o.dst }:=by simp[Z8,np _ F7 (by simp),FQ,F7]
  rw[e];by_cases LP:I8 fl.Yo o.dst=true
  ·rw[A9 LP];exact A1p F7 H0 (M6.refl _) (M6.refl _) (λ_=>rfl) (λh=>by rw[LP]at h;cases h) (λh=>by rw[LP]at h;cases h) (λh=>by rw[LP]at h;cases h)
  rw[A7 LP];by_cases R8:I8 fl.Q4 o.dst=true
  ·rw[A9 R8];exact A1p F7 H0 (M6.refl _) (λt ht=>zSq _ ht) (λh=>absurd h LP) (λ_ _=>⟨λt ht=>zOq _ ht,rfl,M6.refl _⟩) (λ_ h=>by rw[R8]at h;cases h) (λ_ h=>by rw[R8]at h;cases h)
  rw[A7 R8];by_cases hs:I8 fl.shared o.dst=true
  ·rw[A9 hs];exact A1p F7 H0 (M6.refl _) (M6.refl _) (λh=>absurd h LP) (λ_ h=>absurd h R8) (λ_ _ _=>⟨rfl,rfl,rfl⟩) (λ_ _ h=>by rw[hs]at h;cases h)
  ·rw[A7 hs];exact A1p F7 H0 (M6.refl _) (M6.refl _) (λh=>absurd h LP) (λ_ h=>absurd h R8) (λ_ _ h=>absurd h hs) (λ_ _ h=>⟨rfl,M6.refl _⟩)
 ·rename_i t ps F7;have e:Z8 C fl o st={ rt:=K3 (ps.toList.map (·.2))++Jg fl o.dst,wt:=o.dst.toList++Jg fl o.dst,rs := !(Jg fl o.dst).isEmpty,ws := !(Jg fl o.dst).isEmpty }:=by simp[Z8,np _ F7 (by simp),FQ,F7]
  rw[e];refine B4o F7 H0 (λt ht=>zSq _ ht) (λt ht=>zSq _ ht) rfl (λt ht=>⟨zOq _ ht,zOq _ ht⟩) λh=>?_;have:(Jg fl o.dst).isEmpty=false:=by cases hx:Jg fl o.dst<;>simp_all
  simp[this]
 ·rename_i t n ps F7;have e:Z8 C fl o st={ rt:=K3 (ps.toList.map (·.2)),wt:=o.dst.toList,rs:=I8 fl.Dn o.dst,ws:=I8 fl.Dn o.dst }:=by simp[Z8,np _ F7 (by simp),FQ,F7]
  rw[e];exact A4S F7 H0 (M6.refl _) (M6.refl _) rfl λh=>⟨h,h⟩
 ·rename_i t y F7;have hsr:∃r,src C.P 0 st y=some r:=by unfold Cc at H;obtain⟨r,h,_⟩:=D6 H;exact⟨r,h⟩
  obtain⟨r,hr⟩:=hsr;obtain⟨r',AV,hm⟩:=A72 C.P default hr;cases hq:(if (I8 fl.Q4 o.dst||I8 fl.Dn o.dst)=true then none else A67 r'.2)with
  |some jj=>
    have e:Z8 C fl o st={ rt:=O5 y,wt:=o.dst.toList,ld:=some jj }:=by simp only[Z8,np _ F7 (by simp),FQ,F7,AV,VZ,hq,z7q,G9]
    rw[e];have kX:I8 fl.Q4 o.dst=false/\I8 fl.Dn o.dst=false/\A67 r'.2=some jj:=by
     split at hq
     ·cases hq
     ·rename_i hn;simp only[ypq,not_or,Bool.not_eq_true]at hn;exact⟨hn.1,hn.2,hq⟩
    refine A9p F7 H0 (M6.refl _) (M6.refl _) rfl λr0 h0=>?_;rw[hr]at h0;cases h0;rw[hm]at kX;have e1:(Ec r.2).1=[]:=by
     have:=kX.2.2;unfold A67 at this;split at this
     all_goals first
      | (rename_i h;rw[h];rfl)
      |cases this
    refine⟨by rw[e1];exact M6.refl _,λ_=>.inr ⟨jj,rfl,kX.2.2,kX.1,kX.2.1⟩,λR8=>?_,λPh h=>?_⟩
    ·rw[kX.1]at R8;cases R8
    ·rw[kX.2.1]at Ph;cases Ph
  |none=>
    have e:Z8 C fl o st={ rt:=O5 y,wt:=o.dst.toList,rb:=(Ec r'.2).1,wb:=if I8 fl.Q4 o.dst then(Ec r'.2).1 else[],rs:=(Ec r'.2).2,ws:=(I8 fl.Q4 o.dst||I8 fl.Dn o.dst)&&(Ec r'.2).2 }:=by simp only[Z8,np _ F7 (by simp),FQ,F7,AV,VZ,hq,z7q,G9]
    rw[e];refine A9p F7 H0 (M6.refl _) (M6.refl _) rfl λr0 h0=>?_;rw[hr]at h0;cases h0;rw[hm];refine⟨M6.refl _,.inl,λR8=>⟨?_,λh=>?_⟩,λPh h=>?_⟩
    ·simp only[R8,F6];exact M6.refl _
    ·simp only[R8,Bool.true_or,zVq];exact h
    ·simp only[Ph,yoq,zVq];exact h
 ·rename_i t y v F7;have hsr:∃r,src C.P 0 st y=some r:=by unfold Dj at H;obtain⟨r,h,_⟩:=D6 H;exact⟨r,h⟩
  obtain⟨r,hr⟩:=hsr;obtain⟨r',AV,hm⟩:=A72 C.P default hr;have e:Z8 C fl o st={ rt:=K3 [y,v],wt:=o.dst.toList++Fa st.mt v,rb:=(Ec r'.2).1,wb:=(Ec r'.2).1,rs:=(Ec r'.2).2,ws:=(Ec r'.2).2,so:=if o.dst.isNone then Zp r'.2 else none }:=by simp[Z8,np _ F7 (by simp),FQ,F7,AV]
  rw[e];refine B4r F7 H0 (M6.refl _) (TU _ _) (pz _ _) rfl λr0 h0=>?_;rw[hr]at h0;cases h0;rw[hm];exact⟨M6.refl _,id,M6.refl _,id⟩
 ·rename_i y F7;have e:Z8 C fl o st={ rt:=O5 y,wt:=o.dst.toList }:=by simp[Z8,np _ F7 (by simp),FQ,F7]
  rw[e];exact A8E F7 H0 (M6.refl _) (M6.refl _) rfl
 ·rename_i op t y z yt F7;have e:Z8 C fl o st={ rt:=K3 [y,z],wt:=o.dst.toList }:=by simp[Z8,np _ F7 (by simp),FQ,F7]
  rw[e];exact B7X F7 H0 (M6.refl _) (M6.refl _) rfl
 ·rename_i op t y F7;have e:Z8 C fl o st={ rt:=O5 y,wt:=o.dst.toList }:=by simp[Z8,np _ F7 (by simp),FQ,F7]
  rw[e];exact B9n F7 H0 (M6.refl _) (M6.refl _) rfl
 ·rename_i t u y F7;have e:Z8 C fl o st={ rt:=O5 y,wt:=o.dst.toList }:=by simp[Z8,np _ F7 (by simp),FQ,F7]
  rw[e];exact B6q F7 H0 (M6.refl _) (M6.refl _) rfl
 ·rename_i t y i F7;have e:Z8 C fl o st={ rt:=O5 y,wt:=o.dst.toList }:=by simp[Z8,np _ F7 (by simp),FQ,F7]
  rw[e];exact A6u F7 H0 (M6.refl _) (M6.refl _) rfl
 ·rename_i t y i F7;have e:Z8 C fl o st={ rt:=K3 [y,i],wt:=o.dst.toList }:=by simp[Z8,np _ F7 (by simp),FQ,F7]
  rw[e];exact A6v F7 H0 (M6.refl _) (M6.refl _) rfl
 ·rename_i t y i F7;have e:Z8 C fl o st={ rt:=K3 [y,i],wt:=o.dst.toList }:=by simp[Z8,np _ F7 (by simp),FQ,F7]
  rw[e];exact B4p F7 H0 (M6.refl _) (M6.refl _) rfl
 ·rename_i t y lo hi mx F7;have e:Z8 C fl o st={ rt:=K3 (y::(lo.toList++hi.toList++mx.toList)),wt:=o.dst.toList }:=by simp[Z8,np _ F7 (by simp),FQ,F7]
  rw[e];exact B4q F7 H0 (M6.refl _) (M6.refl _) rfl
 ·rename_i g first caps F7
  have e:Z8 C fl o st={ rt:=K3 caps.toList,wt:=o.dst.toList }:=by simp[Z8,np _ F7 (by simp),FQ,F7]
  rw[e];exact A8D F7 H0 (M6.refl _) (M6.refl _) rfl
 ·rename_i t F7;have e:Z8 C fl o st={ wt:=o.dst.toList,rs := !I8 fl.Hr o.dst,ws := !I8 fl.Hr o.dst }:=by simp[Z8,np _ F7 (by simp),FQ,F7]
  rw[e];exact B0J F7 H0 (M6.refl _) rfl λh=>by simp[h]
 ·rename_i t y v ok F7;have e:Z8 C fl o st={ rt:=K3 [y,v],wt:=o.dst.toList,rs:=true }:=by simp[Z8,np _ F7 (by simp),FQ,F7]
  rw[e];exact B2x F7 H0 (M6.refl _) (M6.refl _) rfl rfl
 ·rename_i t y v u F7;have e:Z8 C fl o st={ rt:=K3 [y,v,u],wt:=o.dst.toList++K3 [y,v,u],rs:=true,ws:=true }:=by simp[Z8,np _ F7 (by simp),FQ,F7,Op.operands]
  rw[e];exact A6w F7 H0 (M6.refl _) (TU _ _) rfl rfl rfl
 ·rename_i y i F7;have e:Z8 C fl o st={ rt:=O5 y,wt:=o.dst.toList++(if I8 fl.Q4 o.dst then O5 y else[]),ex:=B4j y i o.dst }:=by simp[Z8,np _ F7 (by simp),FQ,F7]
  rw[e];exact B0I F7 H0 (M6.refl _) (TU _ _) (λh=>A3a _ _ h) rfl
 ·rename_i c F7;unfold Hm at H;split at H
  ·rename_i b hb;have np':YP C o=false:=by simp[YP,F7,hb]
   split at H
   ·rename_i h1 h2;have e:Z8 C fl o st={ rt:=K3 c.args.toList,wt:=o.dst.toList,rs:=true }:=by simp[Z8,np',FQ,F7,hb]
    rw[e];exact B7Y F7 hb h1 h2 H (by rw[h1];simp only[K3,zeq,List.flatMap_nil,zWq];exact M6.refl _) (M6.refl _) rfl rfl
   ·rename_i y v t u h1 h2;have e:Z8 C fl o st={ rt:=K3 c.args.toList,wt:=o.dst.toList++K3 c.args.toList,rs:=I8 fl.opn o.dst||(I8 fl.Dn o.dst||I8 fl.Oy o.dst),ws:=I8 fl.opn o.dst||(I8 fl.Dn o.dst||I8 fl.Oy o.dst) }:=by simp[Z8,np',FQ,F7,hb]
    rw[e];refine B2w F7 hb h1 h2 H (by rw[h1];exact M6.refl _) (TU _ _) ?_ rfl λh=>⟨h,h⟩;intro i hi;refine pz _ _ i ?_;rw[h1];simp only[K3,zeq,zcq];exact .inl hi
   ·rename_i h1 h2;have e:Z8 C fl o st={ rt:=K3 c.args.toList,wt:=o.dst.toList }:=by simp[Z8,np',FQ,F7,hb]
    rw[e];exact B7Z F7 hb h1 h2 H0 (by rw[h1];exact M6.refl _) (M6.refl _) rfl
   ·rename_i h1 h2;have e:Z8 C fl o st={ rt:=K3 c.args.toList,wt:=o.dst.toList }:=by simp[Z8,np',FQ,F7,hb]
    rw[e];exact B70 F7 hb h1 h2 H0 (by rw[h1];exact M6.refl _) (M6.refl _) rfl
   ·simp at H
  ·rename_i y hy;by_cases hp:YP C o=true
   ·have e:Z8 C fl o st={ rt:=K3 o.op.operands.toList,wt:=o.dst.toList }:=by simp[Z8,hp]
    rw[e];unfold YP at hp;rw[F7]at hp;simp only[hy]at hp;split at hp
    ·rename_i g hg;simp only[Callee.value.injEq]at hg;subst hg;simp only[zaq,zPq,zYq]at hp;refine B6s F7 hy hp.1.1 hp.1.2 hp.2 H0 (λi hi=>?_) (M6.refl _) rfl;simp only[F7,Op.operands,Call.operands,hy,Array.toList_append,K3,zGq,zcq]at hi ⊢;exact .inr hi
    ·simp at hp
   ·have e:Z8 C fl o st={ rt:=K3 (y::c.args.toList),wt:=o.dst.toList++K3 c.args.toList,rs:=true,ws:=true }:=by simp[Z8,hp,FQ,F7,hy]
    rw[e];exact B7W F7 hy H0 (M6.refl _) (TU _ _) (pz _ _) rfl rfl rfl
  ·simp at H
 ·simp at H
end
section
def Mt{α : Type}{l l':List α}(h:∀i:Nat,l'[i]?=l[i]?):l'=l:=zDq h
variable {f:Fp}{st:St}{s:St}
def Two.same{s':St}(T:Two f st st s s'):s'=s:=by
 have h1:s'.tm=s.tm:=Mt λi=>by
  rcases T.t i with⟨_,h,_⟩ | ⟨⟨h,_⟩,h',_⟩
  ·exact h
  ·rw[h,h']
 have h2:s'.mt=s.mt:=Mt λi=>by
  rcases T.t i with⟨_,_,h⟩ | ⟨⟨_,h⟩,_,h'⟩
  ·exact h
  ·rw[h,h']
 have h3:s'.bx=s.bx:=Mt λi=>by
  rcases T.b i with⟨_,h⟩ | ⟨h,h'⟩
  ·exact h
  ·rw[h,h']
 have h4:s'.sg=s.sg:=by
  rcases T.s with⟨_,h⟩ | ⟨h,h'⟩
  ·exact h
  ·rw[h,h']
 cases s;cases s';simp_all
def FF.refl(h:∀t,f.nb=some t->MN t st.mt=true):FF f st st:=⟨rfl,rfl,rfl,λ_ _=>⟨rfl,rfl⟩,λ_ _=>rfl,λ_=>rfl,h,λ_ _=>rfl⟩
variable {o:Oper}
def nJ{X:Type}{C:BQ}{R:O8}{fl:H8}{k:St->Option X}{x:X}(H:J3 C R fl o st k=some x):
 ∃s,k s=some x/\∀(Y:Type)(k':St->Option Y),J3 C R fl o st k'=k' s:=by
 obtain⟨s,h1,h2,h3⟩:=nI H;obtain⟨s',h4,h5⟩:=h3 st (FF.refl h2);rw[h4.same]at h5;exact⟨s,h1,h5⟩
variable {t:Nat}{d:DV}
def JY(h:(st.get t).1=d)(hd:d ≠ .undef):st.know t d=st:=by
 unfold St.know;have ht:st.tm[t]?=some d:=by
  simp only[St.get,z3q]at h;cases hx:st.tm[t]? with
  |none=>rw[hx]at h;exact absurd h.symm hd
  |some e=>rw[hx]at h;simp only[zsq]at h;rw[h]
 have:st.tm.set t d=st.tm:=by
  apply zDq;intro i;by_cases hi:t=i
  ·subst hi;rw[zmq ];rw[ht];rfl
  ·rw[z1q hi]
 rw[this]
def A69{β : Type}{a b c:Option β}{x : β}(h:M9 d a b c=some x):(d=.bool true/\a=some x)\/(d=.bool false/\b=some x)\/(d=.J6 []/\c=some x):=by
 unfold M9 at h;split at h
 ·exact .inl ⟨rfl,h⟩
 ·exact .inr (.inl ⟨rfl,h⟩)
 ·exact .inr (.inr ⟨rfl,h⟩)
 ·simp at h
section
variable (C:BQ)(R:O8)(fl:H8)(ops:List Oper)
def AO(o:Oper)(s s1:St):Prop :=
 match o.guard with
 |none=>J3 C R fl o s some=some s1
 |some (g,want)=>∃t,Ll ops g=some t/\K6 (s.get t).2=true /\(((s.get t).1=.bool want/\J3 C R fl o s some=some s1)\/(((s.get t).1=.bool !want\/(s.get t).1=.J6 [])/\s1=s.put o.dst (.J6 []) .val))
def fI(want:Bool):DV->Bool
 |.bool b=>b==want
 |_=>false
def Bh(o:Oper)(s:St):Fp :=
 match o.guard with
 |none=>Z8 C fl o s
 |some (g,want)=>
   match Ll ops g with
   |none=>{}
   |some t=>if fI want (s.get t).1 then(Z8 C fl o s).look t else{ rt:=[t],wt:=o.dst.toList }
end
section
variable {C:BQ}{R:O8}{fl:H8}{ops:List Oper}{o:Oper}
def FF.j6{g:Fp}{st':St}(A:FF f st st')(h1:M6 g.rt f.rt)(h2:M6 g.rb f.rb)(h3:g.rs=true->f.rs=true)(h4:∀t,g.nb=some t->f.nb=some t)(h5:∀j,g.ld=some j->f.ld=some j):FF g st st' :=⟨A.lt,A.lm,A.lb,λi hi=>A.t i (h1 i hi),λi hi=>A.b i (h2 i hi),λh=>A.s (h3 h),λt h=>A.n t (h4 t h),λj h=>A.l j (h5 j h)⟩
def FF.get{st':St}(A:FF f st st')(h:t∈f.rt):st'.get t=st.get t:=by obtain⟨h1,h2⟩:=A.t t h;simp only[St.get,Kh h1,Kh h2]
def A9o{st':St}(A:FF (Z8 C fl o st) st st'):Z8 C fl o st'=Z8 C fl o st:=by
 unfold Z8 at A ⊢;split
 ·rfl
 ·rename_i hp;rw[A7 hp]at A;unfold FQ at A ⊢;split<;>rename_i F7
  all_goals first
   |rfl
   | (rename_i y
      cases y with
      |tmp t=>rw[F7]at A;simp only[src]at A ⊢;rw[A.get (t:=t) (by simp[O5])]
      |_=>rfl)
   | (rename_i y v
      rw[F7]at A;simp only at A ⊢;have Sg:∀r,src default 0 st y=some r->∀u∈O5 v,st'.mt[u]?=st.mt[u]?:=λr hr u hu=>by rw[hr]at A;exact(A.t u (by simp[K3,hu])).2
      cases y with
      |tmp t=>simp only[src]at A Sg ⊢;rw[A.get (t:=t) (by simp[O5,K3])];rw[lT (Sg _ rfl)]
      |const c=>
        simp only[src]at A Sg ⊢;cases hc:cst default 0 c with
        |none=>rfl
        |some r=>rw[lT (Sg _ hc)]
      |func f=>simp only[src]at A Sg ⊢;rw[lT (Sg _ rfl)]
      |global g=>rfl)
def Z_{want:Bool}:fI want d=true↔d=.bool want:=by
 unfold fI;split
 ·simp
 ·rename_i h;simp only[z7q,false_iff];intro hd;exact h _ hd
variable {s1:St}
def A15(H:AO C R fl ops o s s1):(∀t,(Bh C fl ops o s).nb=some t->MN t s.mt=true) /\
 ∀s',FF (Bh C fl ops o s) s s'->Bh C fl ops o s'=Bh C fl ops o s/\∃s1',Two (Bh C fl ops o s) s s' s1 s1'/\AO C R fl ops o s' s1':=by
 unfold AO at H;unfold Bh AO;split at H
 ·rename_i hg;obtain⟨s0,h1,h2,h3⟩:=nI H;simp only[D8]at h1;subst h1;refine⟨h2,λs' A=>⟨A9o A,?_⟩⟩;obtain⟨s1',h4,h5⟩:=h3 s' A;exact⟨s1',h4,h5 _ some⟩
 ·rename_i g want hg;obtain⟨t,ht,hd,H⟩:=H;simp only[ht];rcases H with⟨hb,H⟩ | ⟨hb,H⟩
  ·have hB:fI want (s.get t).1=true:=Z_.2 hb;rw[A9 hB];obtain⟨s0,h1,h2,h3⟩:=nI H;simp only[D8]at h1;subst h1;refine⟨h2,λs' A=>?_⟩;have A':FF (Z8 C fl o s) s s':=A.j6 (λi hi=>zRq _ hi) (λ_ h=>h) id (λ_ h=>h) λ_ h=>h;have zo:s'.get t=s.get t:=A.get (zIq ..);rw[zo,A9 hB,A9o A'];refine⟨rfl,?_⟩;obtain⟨s1',h4,h5⟩:=h3 s' A';refine⟨s1',⟨h4.l,h4.ls,h4.ls',h4.t,h4.b,h4.s⟩,t,rfl,by rw[zo];exact hd,.inl ⟨by rw[zo];exact hb,h5 _ some⟩⟩
  ·have hB:¬(fI want (s.get t).1=true):=by rw[Z_];rcases hb with h | h<;>rw[h]<;>cases want<;>simp
   rw[A7 hB];refine⟨by simp,λs' A=>?_⟩;have zo:s'.get t=s.get t:=A.get (zIq ..);rw[zo,A7 hB];refine⟨rfl,s'.put o.dst (.J6 []) .val,?_,t,rfl,by rw[zo];exact hd,.inr ⟨by rw[zo];exact hb,rfl⟩⟩;rw[H];exact(Two.refl A).put (λ_ h=>h) _ _
def AO.det{s2:St}(H1:AO C R fl ops o s s1)(H2:AO C R fl ops o s s2):s1=s2:=by
 unfold AO at H1 H2;split at H1
 ·rename_i hg;simp only[hg]at H2;rw[H1]at H2;simpa using H2
 ·rename_i g want hg;simp only[hg]at H2;obtain⟨t,ht,hd,H1⟩:=H1;obtain⟨t',ht',Eo,H2⟩:=H2;rw[ht]at ht';cases ht';rcases H1 with⟨a,b⟩ | ⟨a,b⟩<;>rcases H2 with⟨c,d⟩ | ⟨c,d⟩
  ·rw[b]at d;simpa using d
  ·rw[a]at c;cases want<;>simp at c
  ·rw[c]at a;cases want<;>simp at a
  ·rw[b,d]
def LC{a b:List Nat}(h:g_ a b=true):∀i,i∈a->i∉b:=by intro i hi hb;have:=zlq.1 h i hi;simp[hb]at this
variable {mt:List F4}{i:Nat}
def Gc{mt':List F4}(h:mt'[i]?=mt[i]?):FW mt' i=FW mt i:=by unfold FW;rw[Kh h]
def A_{α β : Type}{l:List α}{f g : α->List β}(h:∀x∈l,f x=g x):l.flatMap f=l.flatMap g:=by
 induction l with
 |nil=>rfl
 |cons a l ih=>rw[zeq,zeq,h a (zIq ..),ih λx hx=>h x (zRq _ hx)]
theorem Zm:MN t mt=true↔∀(i:Nat) s o,mt[i]?=some (.loc s o)->s≠t:=by
 unfold MN;rw[zlq];constructor
 ·intro h i s o hi;have:=h _ (zkq hi);simpa using this
 ·intro h m hm;obtain⟨i,hi⟩:=List.mem_iff_getElem?.1 hm;split
  ·rename_i s o;simpa using h i s o hi
  ·rfl
def Calm(f g:Fp):Prop:=∀q∈xA f g++xA g f,q.2.1[q.2.2]?=q.1[q.2.2]?
variable {j:Nat}{q:List E5×List E5}
def Calm.one{g:Fp}(h:Calm f g)(hl:g.ld=some j)(hq:f.ch=some q):q.2[j]?=q.1[j]? :=h (q.1,q.2,j) (zcq.2 (.inl (by unfold xA;rw[hl];simp only;rw[hq];exact zoq.2 rfl)))
def Calm.two{g:Fp}(h:Calm f g)(hl:f.ld=some j)(hq:g.ch=some q):q.2[j]?=q.1[j]? :=h (q.1,q.2,j) (zcq.2 (.inr (by unfold xA;rw[hl];simp only;rw[hq];exact zoq.2 rfl)))
def A9w(h:f.turns=true):(f.AB s s1).ch=some (s.sg,s1.sg):=by simp only[Fp.AB,h]
theorem aB{t t1:St}(h1:f.wt.flatMap (FW s.mt)=f.wt.flatMap (FW t.mt))(h2:f.wt.flatMap (FW s1.mt)=f.wt.flatMap (FW t1.mt))(h3:f.turns=true->s.sg=t.sg/\s1.sg=t1.sg):f.AB s s1=f.AB t t1:=by
 unfold Fp.AB;rw[h1,h2];cases h:f.turns with
 |true=>obtain⟨a,b⟩:=h3 h;rw[a,b]
 |false=>rfl
variable {x:Nat}{d:Nat}
def B4k{o:Oper}(F7:o.op=.extract (.tmp x) i)(hd:o.dst=some d):J3 C R fl o s some=some s1 ↔
 ∃dv,Q0 i (s.get x).1=some dv/\(((s.get x).2=.val/\s1=s.put (some d) dv .val)\/∃ms,(s.get x).2=.Cg ms /\((ms.getD i .val=.own/\I8 fl.Q4 (some d)=true/\s1={ s with mt:=s.mt.set x (.Cg (ms.set i .val)) }.put (some d) dv .own) \/((ms.getD i .val=.val\/(ms.getD i .val=.own/\I8 fl.Q4 (some d)=false))/\s1=s.put (some d) dv .val))):=by
 simp only[J3,F7,hd,src,M7];generalize s.get x=r;obtain⟨r1,r2⟩:=r;simp only;constructor
 ·intro H;split at H
  ·obtain⟨dv,h1,H⟩:=D6 H;simp only[D8]at H;exact⟨dv,h1,.inl ⟨rfl,H.symm⟩⟩
  ·rename_i ms;obtain⟨dv,h1,H⟩:=D6 H;refine⟨dv,h1,.inr ⟨ms,rfl,?_⟩⟩;split at H
   ·rename_i hm;split at H
    ·rename_i R8;simp only[D8,St.qB]at H;exact .inl ⟨hm,R8,H.symm⟩
    ·rename_i R8;simp only[D8]at H;exact .inr ⟨.inr ⟨hm,by simpa using R8⟩,H.symm⟩
   ·rename_i hm;simp only[D8]at H;exact .inr ⟨.inl hm,H.symm⟩
   ·simp at H
  ·simp at H
 ·rintro⟨dv,h1,⟨h2,rfl⟩ | ⟨ms,h2,⟨h3,h4,rfl⟩ | ⟨h3 | ⟨h3,h4⟩,rfl⟩⟩⟩
  ·subst h2;simp only[h1,M7]
  ·subst h2;simp only[h1,M7,h3,h4,F6,St.qB]
  ·subst h2;simp only[h1,M7,h3]
  ·subst h2;simp only[h1,M7,h3,h4,z7q,G9]
def B5E(h:(Bh C fl ops o s).ex=some (x,i,d)):o.guard=none/\o.op=.extract (.tmp x) i/\o.dst=some d /\
 (∀s',Bh C fl ops o s'=Bh C fl ops o s)/\(∀u∈(Bh C fl ops o s).wt,u=d\/u=x)/\(Bh C fl ops o s).ws=false:=by
 unfold Bh at h;split at h
 ·rename_i hg;unfold Z8 at h;split at h
  ·simp at h
  ·rename_i hp;unfold FQ at h;split at h
   all_goals first
    | (simp at h;done)
    | (split at h<;>simp at h;done)
    | (split at h<;>(try (simp at h;done))<;>split at h<;>(try (simp at h;done))<;>split at h<;>simp at h;done)
    |skip
   ·rename_i y j F7;simp only[B4j]at h;split at h
    ·rename_i t u hd;simp only[D8,Prod.mk.injEq]at h;obtain⟨rfl,rfl,rfl⟩:=h;refine⟨hg,F7,hd,λs'=>?_,λu hu=>?_,?_⟩;rotate_left 2
     ·unfold Bh Z8 FQ;simp only[hg,F7,hp,z7q,G9]
     ·unfold Bh Z8 FQ;simp only[hg,F7,hp,z7q,G9]
     ·unfold Bh Z8 FQ at hu;simp only[hg,F7,hp,z7q,G9,hd,Option.toList_some,zcq,zoq]at hu;rcases hu with hu | hu
      ·exact .inl hu
      ·split at hu
       ·simp only[O5,zoq]at hu;exact .inr hu
       ·simp at hu
    ·simp at h
   all_goals (split at h<;>(try simp at h)<;>(try (split at h<;>simp at h)))
 ·split at h
  ·simp at h
  ·split at h<;>simp[Fp.look]at h
variable {m:F4}
def VI{v:DV}(h:d≠x):(s.put (some d) v m).get x=s.get x:=by simp only[St.get,St.put,z3q,z1q h]
def taken(s:St)(x i d:Nat)(dv:DV)(own:Bool):St :=if own then{ s with mt:=s.mt.set x (match (s.get x).2 with | .Cg ms=>.Cg (ms.set i .val) | m=>m) }.put (some d) dv .own else s.put (some d) dv .val
def ways(fl:H8)(d i:Nat)(m:F4)(own:Bool):Prop :=(m=.val/\own=false)\/∃ms,m=.Cg ms/\((ms.getD i .val=.own/\I8 fl.Q4 (some d)=true/\own=true)\/((ms.getD i .val=.val\/(ms.getD i .val=.own/\I8 fl.Q4 (some d)=false))/\own=false))
def fA{o:Oper}(F7:o.op=.extract (.tmp x) i)(hd:o.dst=some d):J3 C R fl o s some=some s1 ↔
 ∃dv own,Q0 i (s.get x).1=some dv/\ways fl d i (s.get x).2 own/\s1=taken s x i d dv own:=by
 rw[B4k F7 hd];constructor
 ·rintro⟨dv,h1,⟨h2,rfl⟩ | ⟨ms,h2,⟨h3,h4,rfl⟩ | ⟨h3,rfl⟩⟩⟩
  ·exact⟨dv,false,h1,.inl ⟨h2,rfl⟩,rfl⟩
  ·exact⟨dv,true,h1,.inr ⟨ms,h2,.inl ⟨h3,h4,rfl⟩⟩,by simp only[taken,F6,h2]⟩
  ·exact⟨dv,false,h1,.inr ⟨ms,h2,.inr ⟨h3,rfl⟩⟩,rfl⟩
 ·rintro⟨dv,own,h1,⟨h2,rfl⟩ | ⟨ms,h2,⟨h3,h4,rfl⟩ | ⟨h3,rfl⟩⟩,rfl⟩
  ·exact⟨dv,h1,.inl ⟨h2,rfl⟩⟩
  ·exact⟨dv,h1,.inr ⟨ms,h2,.inl ⟨h3,h4,by simp only[taken,F6,h2]⟩⟩⟩
  ·exact⟨dv,h1,.inr ⟨ms,h2,.inr ⟨h3,rfl⟩⟩⟩
def dL(h:ways fl d i m true):∃ms,m=.Cg ms:=by
 rcases h with⟨_,h⟩ | ⟨ms,h,_⟩
 ·cases h
 ·exact⟨ms,h⟩
variable {own:Bool}
def TV{tm:List DV}{bx sg}(h:ways fl d i ((⟨tm,mt,bx,sg⟩:St).get x).2 own):FW mt x=[]:=by unfold FW;rcases h with⟨h,_⟩ | ⟨ms,h,_⟩<;>simp only[St.get]at h<;>rw[h]
variable {dv:DV}
def p_{u:Nat}(h1:u≠d)(h2:u≠x):(taken s x i d dv own).mt[u]?=s.mt[u]?:=by
 unfold taken;split
 ·simp only[St.put,z1q (Ne.symm h1),z1q (Ne.symm h2)]
 ·simp only[St.put,z1q (Ne.symm h1)]
def zw{ms:List F4}(h:(s.get x).2=.Cg ms):x<s.mt.length:=by
 by_cases hx:x<s.mt.length
 ·exact hx
 ·simp[St.get,z3q,z8q (zNq hx)]at h
def A4g{e:Nat}{own':Bool}(Rn:i≠j)(YL:d≠x)(hw:ways fl d i (s.get x).2 own):
 ((taken s x i d dv own).get x).1=(s.get x).1/\(ways fl e j ((taken s x i d dv own).get x).2 own'↔ways fl e j (s.get x).2 own'):=by
 unfold taken;split
 ·rename_i ho;subst ho;obtain⟨ms,hm⟩:=dL hw;have hx:=zw hm;have e1:(({ s with mt:=s.mt.set x (match (s.get x).2 with | .Cg ms=>.Cg (ms.set i .val) | m=>m) }:St).put (some d) dv .own).get x=((s.get x).1,.Cg (ms.set i .val)):=by rw[VI YL];simp only[St.get,z3q,z2q hx,zsq]at hm ⊢;rw[hm]
  rw[e1];refine⟨rfl,?_⟩;unfold ways;rw[hm];simp only[reduceCtorEq,false_and,false_or,F4.Cg.injEq,exists_eq_left',z3q,z1q Rn]
 ·rw[VI YL];exact⟨rfl,Iff.rfl⟩
def A4h(YL:d≠x)(hw:ways fl d i (s.get x).2 own):FW (taken s x i d dv own).mt x=[]:=by
 unfold taken;split
 ·rename_i ho;subst ho;obtain⟨ms,hm⟩:=dL hw;have hx:=zw hm;simp only[FW,St.put,z3q,z1q YL,z2q hx,zsq,hm]
 ·have:=TV (tm:=s.tm) (mt:=s.mt) (bx:=s.bx) (sg:=s.sg) hw;rw[<- this];exact Gc (by simp only[St.put,z1q YL])
def B1K{e:Nat}{ev:DV}{o1 o2:Bool}(Rn:i≠j)(yY:d≠e)(YL:d≠x)(hex:e≠x)(h1:ways fl d i (s.get x).2 o1)(h2:ways fl e j (s.get x).2 o2):
 taken (taken s x i d dv o1) x j e ev o2=taken (taken s x j e ev o2) x i d dv o1:=by
 cases o1<;>cases o2
 ·simp only[taken,z7q,G9,St.put,zvq _ _ yY]
 ·obtain⟨ms,hm⟩:=dL h2;simp only[taken,z7q,G9,F6,VI YL,hm];simp only[St.put,zvq _ _ yY,zvq _ _ YL]
 ·obtain⟨ms,hm⟩:=dL h1;simp only[taken,z7q,G9,F6,VI hex,hm];simp only[St.put,zvq _ _ yY,zvq _ _ hex]
 ·obtain⟨ms,hm⟩:=dL h1;have hx:=zw hm;have g1:∀(k f:Nat)(fv:DV),f≠x->(({ s with mt:=s.mt.set x (.Cg (ms.set k .val)) }:St).put (some f) fv .own).get x=((s.get x).1,.Cg (ms.set k .val)):=by intro k f fv hf;rw[VI hf];simp only[St.get,z3q,z2q hx,zsq]
  simp only[taken,F6,hm,g1 i d dv YL,g1 j e ev hex];simp only[St.put,zvq _ _ yY,zvq _ _ hex,zvq _ _ YL,ynq,zvq _ _ Rn]
def B4l{oi oj:Oper}{e:Nat}{s2:St}(gi:oi.guard=none)(gj:oj.guard=none)(pi:oi.op=.extract (.tmp x) i)(pj:oj.op=.extract (.tmp x) j)(di:oi.dst=some d)(dj:oj.dst=some e)(Rn:i≠j)(yY:d≠e)(YL:d≠x)(hex:e≠x)(Hj:AO C R fl ops oj s s1)(Hi:AO C R fl ops oi s1 s2):
 ∃s1',AO C R fl ops oi s s1'/\AO C R fl ops oj s1' s2/\(∀u,u=d\/u=x->FW s1'.mt u=FW s2.mt u/\FW s.mt u=FW s1.mt u)/\(∀u,u=e\/u=x->FW s1'.mt u=FW s.mt u/\FW s2.mt u=FW s1.mt u):=by
 unfold AO at Hi Hj ⊢;simp only[gi,gj]at Hi Hj ⊢;obtain⟨dvj,oj1,hj1,FT,rfl⟩:=(fA pj dj).1 Hj;obtain⟨dvi,oi1,NL,uh,rfl⟩:=(fA pi di).1 Hi;have tj:=A4g (s:=s) (x:=x) (i:=j) (j:=i) (d:=e) (e:=d) (dv:=dvj) (own':=oi1) (Ne.symm Rn) hex FT;rw[tj.1]at NL;have hi0:=tj.2.1 uh;have ti:=A4g (s:=s) (x:=x) (i:=i) (j:=j) (d:=d) (e:=e) (dv:=dvi) (own':=oj1) Rn YL hi0;have hj3:=ti.2.2 FT;have cm:=B1K (s:=s) (dv:=dvi) (ev:=dvj) Rn yY YL hex hi0 FT;refine⟨taken s x i d dvi oi1,(fA pi di).2 ⟨dvi,oi1,NL,hi0,rfl⟩,(fA pj dj).2 ⟨dvj,oj1,by rw[ti.1];exact hj1,hj3,cm.symm⟩,?_,?_⟩
 ·rintro u (rfl | rfl)
  ·refine⟨?_,?_⟩
   ·rw[<- cm];exact Gc (p_ yY YL).symm
   ·exact Gc (p_ yY YL).symm
  ·refine⟨(TV hj3).trans ?_,(TV hi0).trans (TV uh).symm⟩;exact(A4h YL uh).symm
 ·rintro u (rfl | rfl)
  ·refine⟨?_,?_⟩
   ·exact Gc (p_ (Ne.symm yY) hex)
   ·exact Gc (p_ (Ne.symm yY) hex)
  ·exact⟨(TV hj3).trans (TV hi0).symm,(A4h YL uh).trans (TV uh).symm⟩
def A66{k:Bool}(h:Zp m=some k):∃i,Zo m=some i:=by cases m<;>simp[Zp]at h<;>exact⟨_,rfl⟩
def wY:E5->Bool
 |.opn _ _ _=>true
 |.P9 _ _ _=>true
 |_=>false
variable {t:TypeId}
theorem B19{P:Program}{v:Value}{r:DV×F4}(H:cst P t v=some r):Zo r.2=none:=by unfold cst at H;split at H<;>simp only[D8,reduceCtorEq]at H<;>subst H<;>rfl
variable (s:St)(i:Nat)(ob:E5)(rl:Option Operand)
def Z9:St :=
 match rl with
 |some v=>St.release { s with sg:=s.sg.set i ob } v
 |none=>{ s with sg:=s.sg.set i ob }
theorem gG:(Z9 s i ob rl).sg=s.sg.set i ob:=by
 unfold Z9;cases rl with
 |none=>rfl
 |some v=>cases v<;>rfl
theorem wC:(Z9 s i ob rl).tm=s.tm:=by
 unfold Z9;cases rl with
 |none=>rfl
 |some v=>cases v<;>rfl
theorem B3C:(Z9 s i ob rl).bx=s.bx:=by
 unfold Z9;cases rl with
 |none=>rfl
 |some v=>cases v<;>rfl
def Zq(mt:List F4)(rl:Option Operand):List F4 :=
 match rl with
 |some (.tmp t)=>mt.set t (dm (mt.getD t .val))
 |_=>mt
theorem Qk:(Z9 s i ob rl).mt=Zq s.mt rl:=by
 unfold Z9 Zq;cases rl with
 |none=>rfl
 |some v=>cases v<;>rfl
theorem XD{rl:Option Operand}{u:Nat}(h:∀v,rl=some v->u∉Fa mt v):(Zq mt rl)[u]?=mt[u]?:=by
 unfold Zq;split
 ·rename_i t;have:=h _ rfl;rcases A7p (mt:=mt) (t:=t)with e | e
  ·rw[e]at this;simp only[zoq]at this;rw[z1q (Ne.symm this)]
  ·rw[e]
 ·rfl
def B1q{r1 r2:Option Operand}:Zq (Zq mt r1) r2=Zq (Zq mt r2) r1:=by
 cases r1 with
 |none=>rfl
 |some v1=>
   cases r2 with
   |none=>rfl
   |some v2=>
     cases v1<;>cases v2<;>try rfl
     rename_i t t';by_cases hne:t=t'
     ·subst hne;rfl
     ·simp only[Zq,z3q,z1q hne,z1q (Ne.symm hne)]
      rw[zvq _ _ hne]
variable {i:Nat}
def Jy{g g':List E5}(h:g'[i]?=g[i]?):H5 g' i=H5 g i:=by unfold H5;rw[h]
def pQ{g g':List E5}{n:Nat}(h:g'[i]?=g[i]?):V5 g' i n=V5 g i n:=by unfold V5;rw[h]
def B5a{g g':List E5}(h:g'[i]?=g[i]?):Lc g' i=Lc g i:=by unfold Lc;rw[h]
def A16{y v:Operand}{s:St}(F7:o.op=.store t y v)(hd:o.dst=none){r:DV×F4}(hr:src C.P 0 s y=some r)(hi:Zo r.2=some i){kd:Bool}(hk:Zp r.2=some kd)(H:J3 C R fl o s some=some s1):
 ∃ob rl,(rl=none\/rl=some v)/\(wY ob=kd/\∃old,s.sg[i]?=some old/\wY old=kd)/\s1=Z9 s i ob rl/\∀s',src C.P 0 s' y=src C.P 0 s y->src C.P t s' v=src C.P t s v->s'.sg[i]?=s.sg[i]?->J3 C R fl o s' some=some (Z9 s' i ob rl):=by
 simp only[J3,F7,Dj]at H;obtain⟨r0,h1,H⟩:=D6 H;rw[hr]at h1;simp only[D8]at h1;subst h1;obtain⟨u,h2,H⟩:=D6 H;obtain⟨z,h3,H⟩:=D6 H;have pn:∀s:St,s.put o.dst (.J6 []) .val=s:=λs=>by rw[hd];rfl
 split at H
 ·rename_i hm;rw[hm]at hi;simp[Zo]at hi
 ·rename_i i' off hm;rw[hm]at hi;simp only[Zo,D8]at hi;subst hi;rw[hm]at hk;simp only[Zp,D8]at hk;subst hk;obtain⟨cs,h4,H⟩:=D6 H;have ho:∃old,s.sg[i']?=some old/\wY old=false:=by
   unfold H5 at h4;split at h4
   ·rename_i hq;exact⟨_,hq,rfl⟩
   ·cases h4
  by_cases hz:z.2=true
  ·rw[A9 hz]at H;obtain⟨xs,H,h5⟩:=Og H;obtain⟨h6,H⟩:=M5 H;rw[pn]at H;simp only[D8]at H;refine⟨_,none,.inl rfl,⟨rfl,ho⟩,H.symm,λs' a1 a2 a3=>?_⟩;simp only[J3,F7,Dj,a1,hr,a2,h2,h3,M7,hm,Jy a3,h4,A9 hz,h5,A9 h6,pn];rfl
  ·rw[A7 hz]at H;obtain⟨c,H,h5⟩:=Nb H;obtain⟨c0,h6,H⟩:=D6 H;rw[pn]at H;simp only[D8]at H;refine⟨_,some v,.inr rfl,⟨rfl,ho⟩,H.symm,λs' a1 a2 a3=>?_⟩;simp only[J3,F7,Dj,a1,hr,a2,h2,h3,M7,hm,Jy a3,h4,A7 hz,h5,h6,pn];rfl
 ·rename_i hm;rw[hm]at hi;simp[Zo]at hi
 ·rename_i i' sz idx hm;rw[hm]at hi;simp only[Zo,D8]at hi;subst hi;rw[hm]at hk;simp only[Zp,D8]at hk;subst hk;obtain⟨q,h4,H⟩:=D6 H;have ho:∃old,s.sg[i']?=some old/\wY old=true:=by
   unfold Lc at h4;split at h4
   ·rename_i hq;exact⟨_,hq,rfl⟩
   ·cases h4
  obtain⟨H,h6⟩:=XT H;obtain⟨h7,H⟩:=H6 H;obtain⟨x',h8,H⟩:=D6 H;rw[pn]at H;simp only[D8]at H;have hx:wY x'=true:=by
   unfold aG at h8;split at h8
   ·simp only[D8]at h8;subst h8;rfl
   ·cases h8
  refine⟨x',none,.inl rfl,⟨hx,ho⟩,H.symm,λs' a1 a2 a3=>?_⟩;simp only[J3,F7,Dj,a1,hr,a2,h2,h3,M7,hm,B5a a3,h4,h6,h7,X7,h8,pn];rfl
 ·rename_i i' n sz idx off hm;rw[hm]at hi;simp only[Zo,D8]at hi;subst hi;rw[hm]at hk;simp only[Zp,D8]at hk;subst hk;obtain⟨q,h4,H⟩:=D6 H;have ho:∃old,s.sg[i']?=some old/\wY old=true:=⟨_,Zu h4,rfl⟩;obtain⟨d,h5,H⟩:=D6 H;obtain⟨h6,H⟩:=H6 H;by_cases hz:z.2=true
  ·rw[A9 hz]at H;obtain⟨xs,H,h7⟩:=Og H;obtain⟨e,h8,H⟩:=D6 H;rw[pn]at H;simp only[D8]at H;refine⟨_,none,.inl rfl,⟨rfl,ho⟩,H.symm,λs' a1 a2 a3=>?_⟩;simp only[J3,F7,Dj,a1,hr,a2,h2,h3,M7,hm,pQ a3,h4,h5,h6,X7,A9 hz,h7,h8,pn];rfl
  ·rw[A7 hz]at H;obtain⟨c,H,h7⟩:=Nb H;obtain⟨e,h8,H⟩:=D6 H;rw[pn]at H;simp only[D8]at H;refine⟨_,none,.inl rfl,⟨rfl,ho⟩,H.symm,λs' a1 a2 a3=>?_⟩;simp only[J3,F7,Dj,a1,hr,a2,h2,h3,M7,hm,pQ a3,h4,h5,h6,X7,A7 hz,h7,h8,pn];rfl
 ·simp at H
def B55{s:St}{i:Bool}(h:(Bh C fl ops o s).so=some i):o.guard=none/\o.dst=none/\∃t y v r,o.op=.store t y v/\src default 0 s y=some r/\Zp r.2=some i /\
 (Bh C fl ops o s).rt=K3 [y,v]/\(Bh C fl ops o s).wt=Fa s.mt v/\∀s',src default 0 s' y=src default 0 s y->Fa s'.mt v=Fa s.mt v->Bh C fl ops o s'=Bh C fl ops o s:=by
 unfold Bh at h ⊢;split at h
 ·rename_i hg;simp only[hg];unfold Z8 at h ⊢;split at h
  ·simp at h
  ·rename_i hp;unfold FQ at h;split at h
   all_goals first
    | (simp at h;done)
    | (split at h<;>simp at h;done)
    | (split at h<;>(try (simp at h;done))<;>split at h<;>(try (simp at h;done))<;>split at h<;>simp at h;done)
    |skip
   ·rename_i t y v F7;split at h
    ·rename_i r hr;simp only at h;by_cases hd:o.dst.isNone=true
     ·rw[A9 hd]at h;have Eo:o.dst=none:=zYq.1 hd;refine⟨trivial,Eo,t,y,v,r,F7,hr,h,?_,?_,λs' hs hs2=>?_⟩
      ·rw[A7 hp];unfold FQ;simp only[F7,hr]
      ·rw[A7 hp];unfold FQ;simp only[F7,hr,Eo,Option.toList_none,List.nil_append]
      ·rw[A7 hp,A7 hp];unfold FQ;simp only[F7,hr,hs,hs2]
     ·rw[A7 hd]at h;cases h
    ·simp at h
   all_goals (split at h<;>(try simp at h)<;>(try (split at h<;>simp at h)))
 ·split at h
  ·simp at h
  ·split at h<;>simp[Fp.look]at h
def B67{oi oj:Oper}{s s2:St}(Hj:AO C R fl ops oj s s1)(Hi:AO C R fl ops oi s1 s2)(hc:A7L ((Bh C fl ops oj s).AB s s1) ((Bh C fl ops oi s1).AB s1 s2)=true):
 ∃s1',AO C R fl ops oi s s1'/\AO C R fl ops oj s1' s2/\(Bh C fl ops oi s).AB s s1'=(Bh C fl ops oi s1).AB s1 s2/\(Bh C fl ops oj s1').AB s1' s2=(Bh C fl ops oj s).AB s s1:=by
 unfold A7L at hc;split at hc
 ·rename_i ka kb ha hb;simp only[Fp.AB]at ha hb;simp only[Fp.AB,zaq,bne_iff_ne,ne_eq]at hc;obtain⟨⟨⟨C0g,c1⟩,c2⟩,c3⟩:=hc;have c1:=LC c1;have c2:=LC c2;have c3:=LC c3;obtain⟨gj,dj,tj,yj,vj,rj,pj,sj,bj,ej,wj,fj⟩:=B55 ha;obtain⟨gi,di,ti,yi,vi,ri,pi,si,bi,ei,wi,fi⟩:=B55 hb;obtain⟨a,ja⟩:=A66 bj;obtain⟨b,jb⟩:=A66 bi;rw[ei,wj]at c1;rw[wi,wj]at c2;rw[ej,wi]at c3;unfold AO at Hi Hj;simp only[gi,gj]at Hi Hj;have real:∀{s:St}{y:Operand}{r:DV×F4}{n:Nat},src default 0 s y=some r->Zo r.2=some n->src C.P 0 s y=some r:=by
   intro s y r n h1 h2;cases y with
   |tmp t=>exact h1
   |const v=>simp only[src]at h1;have:=B19 h1;rw[this]at h2;cases h2
   |func f=>exact h1
   |global g=>cases h1
  obtain⟨obj,rlj,qj,⟨oj1,old1,oj2,oj3⟩,e1,Gj⟩:=A16 pj dj (real sj ja) ja bj Hj;obtain⟨obi,rli,qi,⟨oi1,old2,oi2,oi3⟩,e2,Gi⟩:=A16 pi di (real si jb) jb bi Hi;have uf:a≠b:=by
   rintro rfl;have hl:a<s.sg.length:=by
    rcases zuq a s.sg.length with h | h
    ·exact h
    ·rw[z8q h]at oj2;cases oj2
   rw[e1,gG,z2q hl]at oi2;simp only[D8]at oi2;subst oi2;exact C0g (oj1.symm.trans oi3)
  have sj':∀v,rlj=some v->v=vj:=λv h=>by rcases qj with q | q<;>rw[q]at h<;>simp at h;exact h.symm
  have si':∀v,rli=some v->v=vi:=λv h=>by rcases qi with q | q<;>rw[q]at h<;>simp at h;exact h.symm
  have B56:∀{P:Program}{t:TypeId}{st st':St}{y:Operand},(∀u∈O5 y,st'.tm[u]?=st.tm[u]?/\st'.mt[u]?=st.mt[u]?)->src P t st' y=src P t st y:=by
   intro P t st st' y h;cases y with
   |tmp u=>obtain⟨h1,h2⟩:=h u (by simp[O5]);simp only[src,St.get,Kh h1,Kh h2]
   |_=>rfl
  have k1:∀{P:Program}{t:TypeId}{y:Operand},(∀u∈O5 y,u∉Fa s.mt vj)->src P t s1 y=src P t s y:=by intro P t y h;rw[e1];exact B56 λu hu=>⟨by rw[wC],by rw[Qk,XD λv hv=>by rw[sj' v hv];exact h u hu]⟩
  have y1:∀u∈O5 yi,u∉Fa s.mt vj:=λu hu hv=>c1 u hv (by simp[K3,hu]);have y2:∀u∈O5 vi,u∉Fa s.mt vj:=λu hu hv=>c1 u hv (by simp[K3,hu]);have mtj:∀u,u∉Fa s.mt vj->s1.mt[u]?=s.mt[u]?:=λu hu=>by rw[e1,Qk,XD λv hv=>by rw[sj' v hv];exact hu]
  have ri1:Fa s1.mt vi=Fa s.mt vi:=lT λu hu=>mtj u (y2 u hu);rw[ri1]at wi c2 c3;have k2:∀{P:Program}{t:TypeId}{y:Operand},(∀u∈O5 y,u∉Fa s.mt vi)->src P t (Z9 s b obi rli) y=src P t s y:=by intro P t y h;exact B56 λu hu=>⟨by rw[wC],by rw[Qk,XD λv hv=>by rw[si' v hv];exact h u hu]⟩
  have y3:∀u∈O5 yj,u∉Fa s.mt vi:=λu hu hv=>c3 u hv (by simp[K3,hu]);have y4:∀u∈O5 vj,u∉Fa s.mt vi:=λu hu hv=>c3 u hv (by simp[K3,hu]);have A1:=Gi s (k1 y1).symm (k1 y2).symm (by rw[e1,gG,z1q uf]);have A2:=Gj (Z9 s b obi rli) (k2 y3) (k2 y4) (by rw[gG,z1q (Ne.symm uf)]);have B73:Z9 (Z9 s b obi rli) a obj rlj=s2:=by
   rw[e2,e1];have h1:(Z9 (Z9 s b obi rli) a obj rlj).mt=(Z9 (Z9 s a obj rlj) b obi rli).mt:=by simp only[Qk];exact B1q
   have h2:(Z9 (Z9 s b obi rli) a obj rlj).sg=(Z9 (Z9 s a obj rlj) b obi rli).sg:=by simp only[gG];rw[zvq _ _ (Ne.symm uf)]
   have h3:(Z9 (Z9 s b obi rli) a obj rlj).tm=(Z9 (Z9 s a obj rlj) b obi rli).tm:=by simp only[wC]
   have h4:(Z9 (Z9 s b obi rli) a obj rlj).bx=(Z9 (Z9 s a obj rlj) b obi rli).bx:=by simp only[B3C]
   generalize Z9 (Z9 s b obi rli) a obj rlj=A at *;generalize Z9 (Z9 s a obj rlj) b obi rli=B at *;cases A;cases B;simp_all
  rw[B73]at A2;have B8w:∀u,u∉Fa s.mt vi->(Z9 s b obi rli).mt[u]?=s.mt[u]?:=λu hu=>by rw[Qk,XD λv hv=>by rw[si' v hv];exact hu]
  have rj1:Fa (Z9 s b obi rli).mt vj=Fa s.mt vj:=lT λu hu=>B8w u (y4 u hu);have fi':=fi s (k1 y1).symm ri1.symm;have fj':=fj (Z9 s b obi rli) (k2 y3) rj1;have mti:∀u,u∉Fa s.mt vi->s2.mt[u]?=s1.mt[u]?:=λu hu=>by rw[e2,Qk,XD λv hv=>by rw[si' v hv,ri1];exact hu]
  have C0v:∀u,u∉Fa s.mt vj->s2.mt[u]?=(Z9 s b obi rli).mt[u]?:=λu hu=>by rw[<- B73,Qk,XD λv hv=>by rw[sj' v hv,rj1];exact hu]
  refine⟨Z9 s b obi rli,?_,?_,?_,?_⟩
  ·unfold AO;simp only[gi];exact A1
  ·unfold AO;simp only[gj];exact A2
  ·rw[fi'];refine aB ?_ ?_ λht=>?_
   ·rw[wi];exact A_ λu hu=>(Gc (mtj u (y2 u (o_ hu)))).symm
   ·rw[wi];exact A_ λu hu=>(Gc (C0v u (y2 u (o_ hu)))).symm
   ·unfold Fp.turns at ht;simp[hb]at ht
  ·rw[fj'];refine aB ?_ ?_ λht=>?_
   ·rw[wj];exact A_ λu hu=>Gc (B8w u (y4 u (o_ hu)))
   ·rw[wj];exact A_ λu hu=>Gc (mti u (y4 u (o_ hu)))
   ·unfold Fp.turns at ht;simp[ha]at ht
 ·cases hc
def B1G{oi oj:Oper}{s s2:St}(Hj:AO C R fl ops oj s s1)(Hi:AO C R fl ops oi s1 s2)(hc:B0o ((Bh C fl ops oj s).AB s s1) ((Bh C fl ops oi s1).AB s1 s2)=true)(hq:Calm ((Bh C fl ops oj s).AB s s1) ((Bh C fl ops oi s1).AB s1 s2)):
 ∃s1',AO C R fl ops oi s s1'/\AO C R fl ops oj s1' s2/\(Bh C fl ops oi s).AB s s1'=(Bh C fl ops oi s1).AB s1 s2/\(Bh C fl ops oj s1').AB s1' s2=(Bh C fl ops oj s).AB s s1:=by
 obtain⟨nj,Fj⟩:=A15 Hj;obtain⟨ni,Fi⟩:=A15 Hi;generalize hfj:Bh C fl ops oj s=f at *;generalize hfi:Bh C fl ops oi s1=g at *;simp only[B0o,Fp.AB,zaq,zPq,Bool.and_eq_false_imp,Bool.or_eq_false_iff]at hc;obtain⟨⟨⟨⟨⟨⟨⟨⟨⟨⟨⟨c1,c2⟩,c3⟩,c4⟩,c5⟩,c6⟩,c7⟩,c8⟩,c9⟩,c10⟩,c11⟩,c12⟩:=hc;have c1:=LC c1;have c2:=LC c2;have c3:=LC c3;have c4:=LC c4;have c5:=LC c5;have c6:=LC c6;obtain⟨-,Tj⟩:=Fj s (FF.refl nj);obtain⟨s1x,Tj,Rj⟩:=Tj;obtain rfl:=Rj.det Hj;obtain⟨-,Ti⟩:=Fi s1x (FF.refl ni);obtain⟨s2x,Ti,Ri⟩:=Ti;obtain rfl:=Ri.det Hi;have B1g:∀u:Nat,u∉f.wt->s1x.tm[u]?=s.tm[u]?/\s1x.mt[u]?=s.mt[u]?:=λu hu=>by
  rcases Tj.t u with⟨h,_⟩ | ⟨h,_⟩
  ·exact absurd h hu
  ·exact h
 have C0A:∀u:Nat,u∉g.wt->s2x.tm[u]?=s1x.tm[u]?/\s2x.mt[u]?=s1x.mt[u]?:=λu hu=>by
  rcases Ti.t u with⟨h,_⟩ | ⟨h,_⟩
  ·exact absurd h hu
  ·exact h
 have B9J:∀u:Nat,u∉f.wb->s1x.bx[u]?=s.bx[u]?:=λu hu=>by
  rcases Tj.b u with⟨h,_⟩ | ⟨h,_⟩
  ·exact absurd h hu
  ·exact h
 have Ai:FF g s1x s:=by
  refine⟨Tj.ls.1.symm,Tj.ls.2.1.symm,Tj.ls.2.2.symm,λu hu=>?_,λu hu=>?_,λhr=>?_,λt ht=>?_,λj hj=>?_⟩
  ·have:=B1g u λh=>c1 u h hu;exact⟨this.1.symm,this.2.symm⟩
  ·exact(B9J u λh=>c4 u h hu).symm
  ·rcases Tj.s with⟨h,_⟩ | ⟨h,_⟩
   ·rw[(c7 h).1]at hr;cases hr
   ·exact h.symm
  ·rw[Zm];intro u s0 o0 hu R8;by_cases hw:u∈f.wt
   ·have ZG:wo g (f.AB s s1x)=true:=c10;simp only[wo,ht,zPq,y7q,QE,Fp.AB,zcq,not_or]at ZG;refine ZG.1 (zZq.2 ⟨u,hw,?_⟩);simp only[FW,z3q,hu,zsq,zoq];exact R8.symm
   ·have:=Zm.1 (ni t ht) u s0 o0 (by rw[(B1g u hw).2];exact hu);exact this R8
  ·rcases Tj.s with⟨h,_⟩ | ⟨h,_⟩
   ·have ht:f.turns=true:=by have h11:A2M f (g.AB s1x s2x)=true:=c11;unfold A2M at h11;rw[show(g.AB s1x s2x).ld=some j from hj]at h11;simpa[h]using h11
    exact(hq.one (j:=j) hj (A9w ht)).symm
   ·rw[h]
 obtain⟨ei,s1',Ti',Ri'⟩:=Fi s Ai;have Aj:FF f s s1':=by
  refine⟨Ti'.ls'.1.trans Tj.ls.1,Ti'.ls'.2.1.trans Tj.ls.2.1,Ti'.ls'.2.2.trans Tj.ls.2.2,λu hu=>?_,λu hu=>?_,λhr=>?_,λt ht=>?_,λj hj=>?_⟩
  ·rcases Ti'.t u with⟨h,_⟩ | ⟨h,_⟩
   ·exact absurd hu (c3 u h)
   ·exact h
  ·rcases Ti'.b u with⟨h,_⟩ | ⟨h,_⟩
   ·exact absurd hu (c6 u h)
   ·exact h
  ·rcases Ti'.s with⟨h,_⟩ | ⟨h,_⟩
   ·rw[(c8 h).1]at hr;cases hr
   ·exact h
  ·rw[Zm];intro u s0 o0 hu R8;rcases Ti'.t u with⟨hw,_,h⟩ | ⟨⟨_,h⟩,_⟩
   ·have h9:wo f (g.AB s1x s2x)=true:=c9;simp only[wo,ht,zPq,y7q,QE,Fp.AB,zcq,not_or]at h9;refine h9.2 (zZq.2 ⟨u,hw,?_⟩);rw[h]at hu;simp only[FW,z3q,hu,zsq,zoq];exact R8.symm
   ·exact Zm.1 (nj t ht) u s0 o0 (by rw[<- h];exact hu) R8
  ·rcases Ti'.s with⟨h,h'⟩ | ⟨h,_⟩
   ·have ht:g.turns=true:=by have h12:A2M g (f.AB s s1x)=true:=c12;unfold A2M at h12;rw[show(f.AB s s1x).ld=some j from hj]at h12;simpa[h]using h12
    have e:=hq.two (j:=j) hj (A9w ht);simp only at e;rw[h',e];rcases Tj.s with⟨h5,_⟩ | ⟨h5,_⟩
    ·have:=(c8 h).2;rw[h5]at this;cases this
    ·rw[h5]
   ·rw[h]
 obtain⟨ej,s2',Tj',Rj'⟩:=Fj s1' Aj;have hs:s2'=s2x:=by
  have tt:∀u:Nat,s2'.tm[u]?=s2x.tm[u]?/\s2'.mt[u]?=s2x.mt[u]?:=λu=>by
   rcases Ti'.t u with⟨hi,h1,h2⟩ | ⟨⟨h1,h2⟩,h3,h4⟩<;>rcases Tj'.t u with⟨hj,h5,h6⟩ | ⟨⟨h5,h6⟩,h7,h8⟩
   ·exact absurd hi (c2 u hj)
   ·exact⟨h5.trans h1,h6.trans h2⟩
   ·exact⟨h5.trans h3.symm,h6.trans h4.symm⟩
   ·exact⟨by rw[h5,h1,h3,h7],by rw[h6,h2,h4,h8]⟩
  have bb:∀u:Nat,s2'.bx[u]?=s2x.bx[u]?:=λu=>by
   rcases Ti'.b u with⟨hi,h1⟩ | ⟨h1,h3⟩<;>rcases Tj'.b u with⟨hj,h5⟩ | ⟨h5,h7⟩
   ·exact absurd hi (c5 u hj)
   ·exact h5.trans h1
   ·exact h5.trans h3.symm
   ·rw[h5,h1,h3,h7]
  have ss:s2'.sg=s2x.sg:=by
   rcases Ti'.s with⟨hi,h1⟩ | ⟨h1,h3⟩<;>rcases Tj'.s with⟨hj,h5⟩ | ⟨h5,h7⟩
   ·have:=(c7 hj).2;rw[hi]at this;cases this
   ·exact h5.trans h1
   ·exact h5.trans h3.symm
   ·rw[h5,h1,h3,h7]
  have h1:s2'.tm=s2x.tm:=Mt λi=>(tt i).1;have h2:s2'.mt=s2x.mt:=Mt λi=>(tt i).2;have h3:s2'.bx=s2x.bx:=Mt bb;cases s2';cases s2x;simp_all
 subst hs;refine⟨s1',Ri',Rj',?_,?_⟩
 ·rw[ei];refine aB ?_ ?_ λht=>?_
  ·exact A_ λu hu=>(Gc (B1g u λh=>c2 u h hu).2).symm
  ·refine A_ λu hu=>Gc ?_;rcases Ti'.t u with⟨_,_,h⟩ | ⟨⟨_,h2⟩,_,h4⟩
   ·exact h
   ·rw[h2,h4,(B1g u λh=>c2 u h hu).2]
  ·have hg:g.ws=true:=by unfold Fp.turns at ht;simp only[zaq]at ht;exact ht.2.2
   have e1:s1x.sg=s.sg:=by
    rcases Tj.s with⟨h5,_⟩ | ⟨h5,_⟩
    ·have:=(c8 hg).2;rw[h5]at this;cases this
    ·exact h5
   refine⟨e1.symm,?_⟩;rcases Ti'.s with⟨_,h⟩ | ⟨h,h'⟩
   ·exact h
   ·rw[h,h',e1]
 ·rw[ej];refine aB ?_ ?_ λht=>?_
  ·refine A_ λu hu=>Gc ?_;rcases Ti'.t u with⟨h,_⟩ | ⟨⟨_,h⟩,_⟩
   ·exact absurd h (c2 u hu)
   ·exact h
  ·exact A_ λu hu=>Gc (C0A u λh=>c2 u hu h).2
  ·have hf:f.ws=true:=by unfold Fp.turns at ht;simp only[zaq]at ht;exact ht.2.2
   have hg:g.ws=false:=(c7 hf).2;refine⟨?_,?_⟩
   ·rcases Ti'.s with⟨h,_⟩ | ⟨h,_⟩
    ·rw[hg]at h;cases h
    ·exact h
   ·rcases Ti.s with⟨h,_⟩ | ⟨_,h⟩
    ·rw[hg]at h;cases h
    ·exact h
def B3B{oi oj:Oper}{s s2:St}(Hj:AO C R fl ops oj s s1)(Hi:AO C R fl ops oi s1 s2)(hc:comm ((Bh C fl ops oj s).AB s s1) ((Bh C fl ops oi s1).AB s1 s2)=true)(hq:Calm ((Bh C fl ops oj s).AB s s1) ((Bh C fl ops oi s1).AB s1 s2)):
 ∃s1',AO C R fl ops oi s s1'/\AO C R fl ops oj s1' s2/\(Bh C fl ops oi s).AB s s1'=(Bh C fl ops oi s1).AB s1 s2/\(Bh C fl ops oj s1').AB s1' s2=(Bh C fl ops oj s).AB s s1:=by
 unfold comm at hc;rcases ycq.1 hc with hc | hc;rotate_left
 ·exact B67 Hj Hi hc
 rcases ycq.1 hc with hc | hc
 ·exact B1G Hj Hi hc hq
 ·unfold B2p at hc;split at hc
  ·rename_i x j e y i d h1 h2;simp only[Fp.AB]at h1 h2;simp only[zaq,beq_iff_eq,bne_iff_ne,ne_eq]at hc;obtain⟨⟨⟨⟨rfl,c2⟩,c3⟩,c4⟩,c5⟩:=hc;obtain⟨gj,pj,dj,fj,wj,nj⟩:=B5E h1;obtain⟨gi,pi,di,fi,wi,ni⟩:=B5E h2;obtain⟨s1',k1,k2,k3,k4⟩:=B4l gi gj pi pj di dj (Ne.symm c2) (Ne.symm c3) c5 c4 Hj Hi;refine⟨s1',k1,k2,?_,?_⟩
   ·rw[fi s];refine aB ?_ ?_ λht=>?_
    ·exact A_ λu hu=>(k3 u (wi u hu)).2
    ·exact A_ λu hu=>(k3 u (wi u hu)).1
    ·unfold Fp.turns at ht;simp[ni]at ht
   ·rw[fj s1'];refine aB ?_ ?_ λht=>?_
    ·exact A_ λu hu=>(k4 u (wj u hu)).1
    ·exact A_ λu hu=>(k4 u (wj u hu)).2
    ·unfold Fp.turns at ht;simp[nj]at ht
  ·cases hc
end
end
end Go.Su
