/-
  Parts of the proof, merged: SuOp9, SuOp10, SuOp11, SuOp12, SuCall, SuOp13, SuOp14, SuSim, SuFrame, SuFrame2, SuFrame3, SuDraw.
-/
import Derived.RangeFuncLeaves
import Derived.RangeFuncNested
import Derived.Test.YtglacjdohajkeaaGreatP1
set_option linter.unusedVariables false
set_option linter.unusedSimpArgs false
/-
 THE DATA MACHINE, part 14: memory written; maps read and written; parts of results.
-/
open Array renaming getElem?_eq_some_iff → zdq, getElem?_setIfInBounds_self_of_lt → ziq, getElem?_setIfInBounds_ne → zjq, getElem?_eq_getElem → zDq, getElem?_push → zHq, length_toList → zSq, getElem?_eq_none → zWq, getElem?_modify → zZq, getElem?_toList → y0q, size_push → y8q
open Bool renaming false_eq_true → z9q, and_eq_true → zcq, not_eq_true' → zNq, true_and → zRq, or_eq_true_iff → y5q, not_false → y6q, false_and → y7q, not_true → ybq, or_true → ykq
open List renaming getElem?_eq_some_iff → z0q, getElem?_set_ne → z1q, getElem?_set_self → z2q, getD_eq_getElem?_getD → z3q, getElem?_eq_getElem → z4q, getElem?_append_left → z5q, getElem?_append_right → z6q, getElem?_eq_none → z8q, flatMap_cons → zaq, mem_append → zbq, getElem?_cons_zero → zgq, eq_nil_of_length_eq_zero → zhq, mem_of_getElem? → zkq, all_eq_true → zlq, mem_iff_getElem → zmq, getElem?_cons_succ → zpq, getElem?_set_self' → zrq, set_comm → ztq, length_eq_one_iff → zuq, getElem?_map → zvq, mem_singleton → zwq, length_take → zzq, ext_getElem? → zBq, length_set → zCq, getElem?_take_of_lt → zEq, flatMap_append → zFq, length_cons → zGq, append_nil → zIq, append_assoc → zKq, getElem?_toArray → zLq, length_map → zQq, mem_cons_self → zTq, mem_flatMap → zVq, map_cons → zYq, mem_cons_of_mem → y1q, contains_eq_mem → y2q, map_congr_left → y4q, getElem?_take → y9q, getElem?_drop → yaq, filter_cons → yeq, flatMap_nil → ygq, set_set → yhq, length_nil → ylq
open Nat renaming mul_le_mul_right → z7q, zero_add → zeq, le_refl → zfq, add_mul → zoq, lt_or_ge → zsq, succ_mul → zxq, add_zero → zAq, zero_mul → zJq, le_of_not_lt → zMq, add_assoc → zOq, le_of_eq → zPq, succ_pos → zXq, eq_zero_or_pos → y3q, sub_self → ydq, min_eq_left → yfq, mul_pos → yiq, le_succ → yjq
open Option renaming map_eq_some_iff → znq, getD_some → zqq, isSome_iff_exists → zyq, isNone_iff_eq_none → zUq, map_some → ycq
namespace Go.Su
variable {c:Array Value} {T:TypeId}
theorem A9w (w:World) {b o:Nat} {f:Nat × Nat} (h:w.heap[b]?=some (.cells c T f)) (v:Value) :
 (w.setCell ⟨b,o,none⟩ v).heap[b]?=some (.cells (c.setIfInBounds o v) T f)/\(∀ b',b'≠b->(w.setCell ⟨b,o,none⟩ v).heap[b']?=w.heap[b']?)/\(w.setCell ⟨b,o,none⟩ v).heap.size=w.heap.size:=by
 have M4:b<w.heap.size:=(zdq.1 h).1;have hv:w.heap[b] = .cells c T f:=(zdq.1 h).2;refine ⟨?_,fun b' hb => ?_,by simp⟩
 ·unfold World.setCell
  rw [zDq (by simpa using M4),Array.getElem_modify]
  simp [hv]
 ·simp [World.setCell,zZq,Ne.symm hb]
structure au (w w':World) (b o:Nat) (vs:List Value) (c:Array Value) (T:TypeId) (f:Nat × Nat):Prop where
 ex:∃ c',w'.heap[b]?=some (.cells c' T f)/\c'.size=c.size/\∀ j,c'[j]?=if o<=j/\j<o+vs.length then vs[j-o]? else c[j]?
 rest:∀ b',b'≠b->w'.heap[b']?=w.heap[b']?
 size:w'.heap.size=w.heap.size
 out:Q3 w w'
theorem IB {P:Program} {b T:Nat} {f:Nat × Nat} (off:Nat):∀ (vs:List Value) (c:Array Value) (i:Nat) (w:World),w.heap[b]?=some (.cells c T f)->off+i+vs.length<=c.size->(∀ v∈vs,v.oneCell'=true) ->
 (∀ o,off+i<=o->o<off+i+vs.length->¬ (f.1<=o/\o<f.2))->∃ w',(storeCells ⟨b,off,none⟩ vs i).run P w = .ok () w'/\au w w' b (off+i) vs c T f
 | [],c,i,w,h,_,_,_=>⟨w,rfl,⟨c,h,rfl,fun j=>by rw [if_neg (by rintro ⟨h1,h2⟩;simp at h2;omega)]⟩,fun _ _=>rfl,rfl,Q3.refl _⟩
 | v::vs,c,i,w,h,hn,ho,hf=>by
   simp only [zGq] at hn hf;have Fq:w.cell? ⟨b,off+i,none⟩=some (c[off+i]'(by omega)):=by
    rw [Sl];unfold hc;rw [h];exact zDq (by omega)
   have zD:w.frozen? ⟨b,off+i,none⟩=false:=by
    unfold World.frozen?;simp only [h];have:=hf (off+i) (zfq _) (by omega)
    simpa using this
   have h1:(store ((⟨b,off,none⟩:Addr).add i) v).run P w = .ok () (w.setCell ⟨b,off+i,none⟩ v):=by
    rw [Addr.add_lit,run_store P w _ v _ (ho v (by simp)),Fq]
    simp [zD]
   obtain ⟨s1,s2,s3⟩:=A9w w (o:=off+i) h v;obtain ⟨w',r1,⟨c',e1,e2,e3⟩,e4,e5,e6⟩:=IB off vs _ (i+1) _ s1 (by simp;omega) (fun u hu=>ho u (by simp [hu])) (fun o h1 h2=>hf o (by omega) (by omega))
   refine ⟨w', ?_,⟨c',e1,by simpa using e2,fun j => ?_⟩,fun b' hb=>(e4 b' hb).trans (s2 b' hb),e5.trans s3,Q3.trans (b:=w.setCell ⟨b,off+i,none⟩ v) ⟨rfl,rfl,rfl⟩ e6⟩
   ·unfold storeCells
    simp only [Sem.run_bind,h1,Result.andThen_ok];exact r1
   ·rw [e3 j,zGq]
    by_cases hj:j=off+i
    ·subst hj
     rw [if_neg (by omega),if_pos (by omega),ziq (by omega)]
     simp
    ·rw [zjq (Ne.symm hj)]
     by_cases hc:off+(i+1)<=j/\j<off+(i+1)+vs.length
     ·rw [if_pos hc,if_pos (by omega),show j-(off+i)=(j-(off+(i+1)))+1 from by omega,zpq]
     ·rw [if_neg hc,if_neg (by omega)]
variable {P:Program} {t:TypeId} {off:Nat} {v:Value}
theorem Ic {z:Nat × Bool} (hz:tz P t=some z) {w:World} {b T:Nat} {f:Nat × Nat} (h:w.heap[b]?=some (.cells c T f)) (hs:v.cells.size=z.1) (hn:off+z.1<=c.size) (ho:∀ u∈v.cells.toList,u.oneCell'=true) (hf:∀ o,off<=o->o<off+z.1->¬ (f.1<=o/\o<f.2)):∃ w',(storeVar t ⟨b,off,none⟩ v).run P w = .ok () w'/\au w w' b off v.cells.toList c T f:=by
 obtain ⟨w',r,s⟩:=IB (P:=P) off v.cells.toList c 0 w h (by simp;omega) ho (fun o h1 h2=>hf o (by omega) (by simp at h2;omega))
 refine ⟨w', ?_,by simpa using s⟩
 unfold storeVar;simp only [Sem.run_bind,LA hz,Result.andThen_ok,Sem.run_ite];rw [if_neg (by omega)]
 exact r
variable {w':World} {vs:List Value}
theorem au.Pr {E:Env} {w:World} {b o:Nat} {f:Nat × Nat} (S:au w w' b o vs c T f) {ch:Tag->Prop} (hb:w.heap[b]?=some (.cells c T f)) (ht:∀ j,o<=j->j<o+vs.length->ch (E.O b j)) :
 Pr ch E w.heap E w'.heap:=by
 refine ⟨zPq S.size.symm,fun b' Ef => ?_,fun _ _ _ _=>rfl,zfq _,fun _ _ _=>⟨rfl,rfl,rfl⟩,fun _ _=>rfl,DK rfl⟩
 by_cases ZK:b'=b
 ·subst ZK
  rw [hb];obtain ⟨c',e1,e2,e3⟩:=S.ex;refine ⟨c',e1,e2,fun j hj => ?_⟩
  rw [e3 j,if_neg];rintro ⟨c1,c2⟩;exact hj (ht j c1 c2)
 ·rw [S.rest b' ZK];exact U6.refl _ _
section
variable {X:Type} {C:X4} {R:O4} {o:Oper} {st:St} {k:St->Option X} {x:X} {E:Env} {a:Act} {w:World} {K:Act->World->Prop} {Q:Exit->Act->World->Prop}
theorem ak.write {tg:Tag} {p q b:Nat} {cs xs:List (DV × Meta)} (B:ak E w.heap tg p q b cs) (hb:w.heap[b]?=some (.cells c T (0,0))) (S:au w w' b off vs c T (0,0)) (hl:xs.length=vs.length) (J3:off+xs.length<=cs.length) (hx:∀ (j:Nat) r v,xs[j]?=some r->vs[j]?=some v->DY E w.heap (.sp p q (off+j)) r v) (hs:Y0 E.S w.heap E.S w'.heap) (hP:Pr (fun t=>t=tg) E w.heap E w'.heap) (hns:∀ k' a' b',tg ≠ .sp k' a' b'):ak E w'.heap tg p q b (putAt cs off xs):=by
 obtain ⟨c0,T0,h1,h2,h3,h4⟩:=B;rw [hb] at h1;simp only [Option.some.injEq,Obj.cells.injEq] at h1;obtain ⟨rfl,rfl,-⟩:=h1;obtain ⟨c',e1,e2,e3⟩:=S.ex;have mono:∀ {tg':Tag} {r:DV × Meta} {v:Value},(∃ x y z,tg' = .sp x y z)->DY E w.heap tg' r v->DY E w'.heap tg' r v:=by
  rintro tg' r v ⟨x1,y1,z1,rfl⟩ ⟨a1,a2,a3,a4⟩;exact ⟨a1,a2,a3,a4.mono hP hs (fun _=>fun h=>hns _ _ _ h.symm) fun s o' hm=>by rw [hm] at a3;simp [X0] at a3⟩
 refine ⟨c',T,e1,by rw [e2,h2,Kl J3],fun o' => ?_,fun j r v hr hv => ?_⟩
 ·rcases h3 o' with h5 | h5
  ·exact .inl h5
  ·exact .inr (by omega)
 ·rw [OV J3] at hr
  rw [e3 j] at hv
  by_cases hc:off<=j/\j<off+xs.length
  ·rw [if_pos hc] at hr
   rw [if_pos (by omega)] at hv
   have:=hx (j-off) r v hr hv;rw [show off+(j-off)=j from by omega] at this
   exact mono ⟨_,_,_,rfl⟩ this
  ·rw [if_neg hc] at hr
   rw [if_neg (by omega)] at hv
   exact mono ⟨_,_,_,rfl⟩ (h4 j r v hr hv)
theorem J6.A7k {s:Nat} {cs xs:List (DV × Meta)} (Rl:J6 E st a w.heap) (hbx:st.bx.getD s none=some cs) (hb:w.heap[E.blk s]?=some (.cells c T (0,0))) (S:au w w' (E.blk s) off vs c T (0,0)) (hl:xs.length=vs.length) (J3:off+xs.length<=cs.length) (hx:∀ (j:Nat) r v,xs[j]?=some r->vs[j]?=some v->DY E w.heap (.sp 1 s (off+j)) r v) :
 J6 E { st with bx:=st.bx.set s (some (putAt cs off xs)) } a w'.heap/\Pr (fun t=>t = .SX s) E w.heap E w'.heap:=by
 have B:=Rl.boxes s cs hbx;have Aa:c.size=cs.length:=by
  obtain ⟨c0,T0,h1,h2,-⟩:=B;rw [hb] at h1;simp only [Option.some.injEq,Obj.cells.injEq] at h1;rw [h1.1];exact h2
 have hP:Pr (fun t=>t = .SX s) E w.heap E w'.heap:=S.Pr hb fun j h1 h2=>by
  obtain ⟨c1,T1,g1,g2,g3,-⟩:=B;rw [hb] at g1;simp only [Option.some.injEq,Obj.cells.injEq] at g1;rcases g3 j with h6 | h6
  ·exact h6
  ·rw [<- g1.1] at h6;omega
 have hs:=hP.shut (by simp) Rl.fresh
 refine ⟨⟨Rl.size,Rl.AP,by simpa using Rl.Bi,Rl.n,fun t v hv => ?_,fun s' cs' Cz => ?_,fun i ob hi=>(Rl.Q0 i ob hi).mono hP hs (CO Rl hi) (by simp) (by simp),fun b o' Ef=>Rl.fresh b o' (by rw [<- S.size];exact Ef)⟩,hP⟩
 ·have h0:=Rl.regs t v hv
  cases hm:(st.get t).2
  case loc s' o' =>
   show RR E w'.heap 0 t (st.get t).1 (st.get t).2 v
   rw [hm] at h0 ⊢;exact h0
  all_goals
   show RR E w'.heap 0 t (st.get t).1 (st.get t).2 v
   exact h0.mono hP hs (by simp) (by rw [hm];simp)
 ·have A2Y:s<st.bx.length:=by
   rcases zsq s st.bx.length with h1 | h1
   ·exact h1
   ·simp [z3q,z8q h1] at hbx
  by_cases Xg:s=s'
  ·subst Xg
   simp only [z3q,z2q A2Y,zqq,Option.some.injEq] at Cz;subst Cz;exact B.write hb S hl J3 hx hs hP (by simp)
  ·simp only [z3q,z1q Xg] at Cz
   exact (Rl.boxes s' cs' (by simpa [z3q] using Cz)).mono hP hs (by simp;exact fun h=>Xg h.symm) (by simp)
theorem J6.A7l {i:Nat} {cs xs:List (DV × Meta)} (Rl:J6 E st a w.heap) (hsg:st.sg[i]?=some (.box cs)) (hb:w.heap[E.obj i]?=some (.cells c T (0,0))) (S:au w w' (E.obj i) off vs c T (0,0)) (hl:xs.length=vs.length) (J3:off+xs.length<=cs.length) (hx:∀ (j:Nat) r v,xs[j]?=some r->vs[j]?=some v->DY E w.heap (.sp 2 i (off+j)) r v) :
 J6 E { st with sg:=st.sg.set i (.box (putAt cs off xs)) } a w'.heap/\Pr (fun t=>t = .obj i) E w.heap E w'.heap:=by
 have B:=Rl.Q0 i _ hsg;simp only [RO] at B;have Aa:c.size=cs.length:=by
  obtain ⟨c0,T0,h1,h2,-⟩:=B;rw [hb] at h1;simp only [Option.some.injEq,Obj.cells.injEq] at h1;rw [h1.1];exact h2
 have hP:Pr (fun t=>t = .obj i) E w.heap E w'.heap:=S.Pr hb fun j h1 h2=>by
  obtain ⟨c1,T1,g1,g2,g3,-⟩:=B;rw [hb] at g1;simp only [Option.some.injEq,Obj.cells.injEq] at g1;rcases g3 j with h6 | h6
  ·exact h6
  ·rw [<- g1.1] at h6;omega
 have hs:=hP.shut (by simp) Rl.fresh
 have IZ:=(z0q.1 hsg).1;refine ⟨⟨Rl.size,Rl.AP,Rl.Bi,by simpa using Rl.n,fun t v hv=>(Rl.regs t v hv).mono hP hs (by simp) (by simp),fun s' cs' Cz=>(Rl.boxes s' cs' Cz).mono hP hs (by simp) (by simp),fun i' ob hi => ?_,fun b o' Ef=>Rl.fresh b o' (by rw [<- S.size];exact Ef)⟩,hP⟩
 by_cases Cq:i=i'
 ·subst Cq
  simp only [z2q IZ,Option.some.injEq] at hi;subst hi;exact B.write hb S hl J3 hx hs hP (by simp)
 ·simp only [z1q Cq] at hi
  exact (Rl.Q0 i' ob hi).mono hP hs (CO Rl hi) (by simp;exact fun h=>Cq h.symm) (by simp)
def Bw (y:Operand) (p s off:Nat) (T:Tag):Tag :=
 match y,T with
 | .tmp t, .sp 0 t' 0=>if t=t' then .sp p s off else .sp 0 t' 0
 | _,T=>T
variable {y:Operand}
theorem Fb {p s:Nat} {T:Tag} (h:∀ t b,y = .tmp t->T ≠ .sp 0 t b):Bw y p s off T=T:=by
 unfold Bw
 split
 ·split
  ·rename_i hx;subst hx;exact absurd rfl (h _ _ rfl)
  ·rfl
 ·rfl
theorem B1d {r:DV × Meta} (hs:src P t st y=some r) {p s:Nat} {c:DV × Meta} (hm:c.2=r.2) (hc:DY E w.heap (.sp 0 (mi y) 0) c (a.eval y)) :
 DY (E.re (Bw y p s off)) w.heap (.sp p s off) c (a.eval y):=by
 obtain ⟨a1,a2,a3,a4⟩:=hc;refine ⟨a1,a2,a3, ?_⟩
 by_cases hy:∃ i,y = .tmp i
 ·obtain ⟨i,rfl⟩:=hy
  exact a4.re (Fb (by simp)) (by simp [Bw,mi])
 ·have ZL:c.2 ≠ .own:=by
   rw [hm];cases y with
   | tmp i=>exact absurd ⟨i,rfl⟩ hy
   | const v=>exact (XT hs).1
   | func f=>simp only [src,Option.some.injEq] at hs;subst hs;simp
   | global g=>simp [src] at hs
  have a5:J8 (E.re (Bw y p s off)) w.heap .other c.1 c.2 (a.eval y):=(a4.tag (tg' := .other) ZL).re (Fb (by simp)) (Fb (by simp))
  exact a5.tag ZL
theorem Hu {v:Operand} {b:Nat} (D9:o.op = .store t y v) (he:a.eval y = .pointer (some ⟨b,off,none⟩)) (h:(storeVar t ⟨b,off,none⟩ (a.eval v)).run C.P w = .ok () w') :
 (execOp a.eval o).run C.P w = .ok .skip w':=by
 simp only [execOp,D9];refine B7A ?_;simp only [Instr.storeAt,he,Instr.sureAddr,Sem.run_bind,Sem.run_pure,Result.andThen_ok,h]
theorem cells_one (h:v.oneCell'=true):v.cells = #[v]:=by
 cases v <;> first | rfl | (simp [Value.oneCell'] at h)
theorem A6Z {α : Type} {l:List α} {o:Nat} {y : α} (h:o<l.length):putAt l o [y]=l.set o y:=by
 apply zBq;intro j;rw [OV (by simp;omega)]
 by_cases hj:o=j
 ·subst hj;rw [if_pos (by simp),z2q h];simp
 ·rw [if_neg (by simp;omega),z1q hj]
theorem J8.dat {E:Env} {h:Heap} {tg:Tag} {d:DV} {m:Meta} (hm:J5 m=true) (R:J8 E h tg d m v):RV E.S h d v:=by
 cases m <;> simp only [J5] at hm <;> simp only [J8] at R <;> try contradiction
 ·exact R
 ·exact R.1
 ·exact R.1
 ·obtain ⟨rfl,rfl⟩:=R
  simp only [RV]
theorem A7j {z:Nat × Bool} (hz:tz P t=some z) (Rl:J6 E st a w.heap) {i n sz idx:Nat} {ds:List DV} {d e:DV} (hp:st.sg[i]?=some (.U1 n sz ds)) (hd:ds[idx]?=some d) (VM:v.cells.size=z.1) {xs:List (DV × Meta)} (hl:xs.length=v.cells.size) {tg:Nat->Tag} (w9:∀ (j:Nat) r v',xs[j]?=some r->v.cells.toList[j]?=some v'->K6 r.1=true/\v'.oneCell'=true/\J8 E w.heap (tg j) r.1 r.2 v') (he:IC sz off d xs=some e) :
 ∃ w',(storeVar t ⟨E.obj i,E.base i+idx * sz+off,none⟩ v).run P w = .ok () w'/\J6 E { st with sg:=st.sg.set i (.U1 n sz (ds.set idx e)) } a w'.heap/\Pr (fun t=>t = .obj i) E w.heap E w'.heap/\Q3 w w':=by
 unfold IC at he
 split at he
 ·rename_i cs
  obtain ⟨⟨WE,Dh,dX⟩,he⟩:=L6 he;simp only [Option.some.injEq] at he;subst he;have B:=Rl.Q0 i _ hp;simp only [RO] at B;obtain ⟨bv,b0,b3,B⟩:=B;have hne:ds≠[]:=by intro h;rw [h] at hd;simp at hd
  obtain ⟨c,TT,f,b1,b2,b2',b4,b5⟩:=B.resolve_left fun h=>hne h.1
  have hidx:idx<ds.length:=(z0q.1 hd).1;have Dx:idx * sz+sz<=ds.length * sz:=by rw [<- zxq];exact z7q _ hidx
  have Ul:v.cells.toList.length=xs.length:=by simp [hl]
  have Fq:∀ u∈v.cells.toList,u.oneCell'=true:=by
   intro q hq;obtain ⟨j,hj,mY⟩:=zmq.1 hq;exact (w9 j _ q (z4q (by omega)) (by rw [z4q hj,mY])).2.1
  obtain ⟨w',hw,S⟩:=Ic (P:=P) hz (off:=E.base i+idx * sz+off) b1 VM (by omega) Fq (fun o h1 h2=>(b4 o (by omega) (by omega)).2)
  have P1:Pr (fun t=>t = .obj i) E w.heap E w'.heap:=S.Pr b1 fun j h1 h2=>(b4 j (by omega) (by simp at h2;omega)).1
  have hs:=P1.shut (by simp) Rl.fresh
  have IZ:=(z0q.1 hp).1;refine ⟨w',hw, ?_,P1,S.out⟩;refine ⟨Rl.size,Rl.AP,Rl.Bi,by simpa using Rl.n,fun t v hv=>(Rl.regs t v hv).mono P1 hs (by simp) (by simp),fun s' cs' Cz=>(Rl.boxes s' cs' Cz).mono P1 hs (by simp) (by simp),fun i' ob hi => ?_,fun b o' Ef=>Rl.fresh b o' (by rw [<- S.size];exact Ef)⟩
  by_cases Cq:i=i'
  ·subst Cq
   simp only [z2q IZ,Option.some.injEq] at hi;subst hi;simp only [RO];obtain ⟨c',wU,e2',e3'⟩:=S.ex;refine ⟨bv,b0,b3, .inr ⟨c',TT,f,wU,by rw [zCq];exact b2,by rw [e2'];exact b2',b4,fun j d' ES => ?_⟩⟩
   by_cases hj:idx=j
   ·subst hj
    rw [z2q hidx] at ES;simp only [Option.some.injEq] at ES;subst ES;obtain ⟨us,u1,u2,u3⟩:=b5 idx _ hd;have VL:off+v.cells.toList.length<=us.length:=by omega
    refine ⟨putAt us off v.cells.toList,by rw [Kl VL,u1],fun y q hq => ?_, ?_⟩
    ·rw [OV VL] at hq
     by_cases hy:off<=y/\y<off+v.cells.toList.length
     ·rw [if_pos hy] at hq
      rw [e3',if_pos (by omega),<- hq]
      congr 1
      omega
     ·rw [if_neg hy] at hq
      rw [e3',if_neg (by omega),u2 y q hq]
    ·simp only [RC] at u3 ⊢
     obtain ⟨k1,k2⟩:=Eo.1 u3;have hpc:off+(xs.map (·.1)).length<=cs.length:=by simp;omega
     refine Eo.2 ⟨by rw [Kl VL,Kl hpc,k1],fun y q u hq hu => ?_⟩
     rw [OV VL] at hu;rw [OV hpc] at hq
     by_cases hy:off<=y/\y<off+v.cells.toList.length
     ·rw [if_pos hy] at hu
      rw [if_pos (by simp only [zQq];omega),zvq,znq] at hq
      obtain ⟨r,hr,rfl⟩:=hq;obtain ⟨g1,g2,g3⟩:=w9 _ r u hr hu;have g4:=zlq.1 WE r (zkq hr);rw [zcq] at g4;exact ⟨g1,(Nq g1 g2 (g3.dat g4.1)).mono hs⟩
     ·rw [if_neg hy] at hu
      rw [if_neg (by simp only [zQq];omega)] at hq
      obtain ⟨g1,g2⟩:=k2 y q u hq hu;exact ⟨g1,g2.mono hs⟩
   ·rw [z1q hj] at ES
    obtain ⟨us,u1,u2,u3⟩:=b5 j d' ES;refine ⟨us,u1,fun y q hq => ?_,u3.mono hs⟩
    have hy:y<sz:=by have:=(z0q.1 hq).1;omega
    rw [e3',if_neg,u2 y q hq];rintro ⟨c1,c2⟩;have:=A5e (sz:=sz) (i:=idx) (i':=j) (j:=j * sz+y-idx * sz) (j':=y) (by omega) hy (by omega)
    omega
  ·simp only [z1q Cq] at hi
   exact (Rl.Q0 i' ob hi).mono P1 hs (CO Rl hi) (by simp;exact fun h=>Cq h.symm) (by simp)
 ·simp at he
theorem B4T {v:Operand} (D9:o.op = .store t y v) (H:DD C o t y v st k=some x) (Rl:J6 E st a w.heap) (T:Then E w k x K):Gp C.P o a w K:=by
 unfold DD at H;obtain ⟨r,h1,H⟩:=A9 H;obtain ⟨u,h2,H⟩:=A9 H;obtain ⟨z,hz,H⟩:=A9 H;have e1:=Rl.src h1;have e2:=Rl.src h2;have E_:z.2=false->z.1=1:=by
  obtain ⟨i,d,-,-,-,h4⟩:=GV hz;exact h4
 have dY:∀ {E':Env} {h':Heap} (t0:Nat),RR E' h' 0 t0 (.F3 []) .val undef:=by
  intro E' h' t0;simp only [RR,J8,RV];exact ⟨#[],rfl,by simp [Pj]⟩
 split at H
 ·-- a private variable
  rename_i s off hm;rw [hm] at e1;simp only [RR,J8] at e1;obtain ⟨cs,hb,H⟩:=A9 H;have B:=Rl.boxes s cs hb;obtain ⟨c,TT,Fy,Aa,hO,-⟩:=B
  split at H
  ·obtain ⟨xs,H,hl,w9,ZL⟩:=A14 hz e2 H
   obtain ⟨J3,H⟩:=L6 H;obtain ⟨w',hw,S⟩:=Ic (P:=C.P) hz (off:=off) Fy (v:=a.eval v) (by have:=w9.1;simp at this;omega) (by omega) (fun u hu=>by
    obtain ⟨j,hj,mY⟩:=zmq.1 hu;have hl2:=w9.1;exact (w9.2 j _ u (z4q (by omega)) (by rw [z4q hj,mY])).2.1) (fun o _ _=>by simp)
   have R0:=Rl.release (x:=v) (f:=QV v s off) fun T hT=>Ns hT
   have JR:(st.release v).bx=st.bx:=by cases v <;> rfl
   obtain ⟨R1,P1⟩:=R0.A7k (by rw [JR];exact hb) Fy S w9.1 J3 fun j r' v' hr hv =>
    (w9.2 j r' v' hr hv).box fun hy=>ZL (A6T h2 hy) r' (zkq hr)
   rw [JR] at R1;have R6:({ st with bx:=st.bx.set s (some (putAt cs off xs)) }.release v)={ st.release v with bx:=st.bx.set s (some (putAt cs off xs)) }:=by cases v <;> rfl
   rw [R6] at H;have P0:Pr L8 E w.heap (E.re (QV v s off)) w.heap:=Pr.re fun T hT=>Ns fun t b _ he=>hT (by rw [he];simp [L8])
   exact Lv (Hu D9 e1.2 hw) (T (E.re (QV v s off)) _ _ w' H (R1.put fun t0 _=>dY t0) (P0.trans (P1.weaken (by rintro T rfl;simp [L8]))) S.out)
  ·rename_i hz2
   have o_:=E_ (by simpa using hz2)
   obtain ⟨cc,H,hmm,w9⟩:=XO e2 H;obtain ⟨M4,H⟩:=L6 H;have Xh:=cells_one w9.2.1;obtain ⟨w',hw,S⟩:=Ic (P:=C.P) hz (off:=off) Fy (v:=a.eval v) (by rw [Xh,o_];rfl) (by omega) (fun u hu=>by
    rw [Xh] at hu;simp at hu;subst hu;exact w9.2.1) (fun o _ _=>by simp)
   rw [Xh] at S;have R0:=Rl.release (x:=v) (f:=Bw v 1 s off) fun T hT=>Fb hT
   have Fq:=B1d h2 (p:=1) (s:=s) (off:=off) hmm w9;have JR:(st.release v).bx=st.bx:=by cases v <;> rfl
   obtain ⟨R1,P1⟩:=R0.A7k (xs:=[cc]) (by rw [JR];exact hb) Fy S rfl (by simp;omega) fun j r' v' hr hv=>by
    cases j with
    | succ j=>simp at hr
    | zero =>
      have Aw:r'=cc:=by simpa using hr.symm
      have MO:v'=a.eval v:=by simpa using hv.symm
      rw [Aw,MO];exact Fq
   rw [A6Z M4,JR] at R1;have R6:({ st with bx:=st.bx.set s (some (cs.set off cc)) }.release v)={ st.release v with bx:=st.bx.set s (some (cs.set off cc)) }:=by cases v <;> rfl
   rw [R6] at H;have P0:Pr L8 E w.heap (E.re (Bw v 1 s off)) w.heap:=Pr.re fun T hT=>Fb fun t b _ he=>hT (by rw [he];simp [L8])
   exact Lv (Hu D9 e1.2 hw) (T (E.re (Bw v 1 s off)) _ _ w' H (R1.put fun t0 _=>dY t0) (P0.trans (P1.weaken (by rintro T rfl;simp [L8]))) S.out)
 ·-- a shared variable
  rename_i i off hm;rw [hm] at e1;simp only [RR,J8] at e1;obtain ⟨cs,hb,H⟩:=A9 H;have hb:=pW hb;have B:=Rl.Q0 i _ hb;simp only [RO] at B;obtain ⟨c,TT,Fy,Aa,hO,-⟩:=B
  split at H
  ·obtain ⟨xs,H,hl,w9⟩:=Zg hz e2 H
   obtain ⟨J3,H⟩:=L6 H;obtain ⟨w',hw,S⟩:=Ic (P:=C.P) hz (off:=off) Fy (v:=a.eval v) (by have:=w9.1;simp at this;omega) (by omega) (fun u hu=>by
    obtain ⟨j,hj,mY⟩:=zmq.1 hu;have hl2:=w9.1;obtain ⟨⟨-,q,-,-⟩,-⟩:=w9.2 j _ u (z4q (by omega)) (by rw [z4q hj,mY])
    exact q) (fun o _ _=>by simp)
   obtain ⟨R1,P1⟩:=Rl.A7l hb Fy S w9.1 J3 fun j r' v' hr hv=>let ⟨q1,q2⟩:=w9.2 j r' v' hr hv;⟨q1.1,q1.2.1,q1.2.2.1,q1.2.2.2.tag q2⟩
   exact Lv (Hu D9 e1.2 hw) (T E _ _ w' H (R1.put fun t0 _=>dY t0) (P1.weaken (by rintro T rfl;simp [L8])) S.out)
  ·rename_i hz2
   have o_:=E_ (by simpa using hz2)
   obtain ⟨cc,H,hmm,w9⟩:=XO e2 H;obtain ⟨c0,hc0,H⟩:=A9 H;have M4:off<cs.length:=(z0q.1 hc0).1;have Xh:=cells_one w9.2.1;obtain ⟨w',hw,S⟩:=Ic (P:=C.P) hz (off:=off) Fy (v:=a.eval v) (by rw [Xh,o_];rfl) (by omega) (fun u hu=>by
    rw [Xh] at hu;simp at hu;subst hu;exact w9.2.1) (fun o _ _=>by simp)
   rw [Xh] at S;have R0:=Rl.release (x:=v) (f:=Bw v 2 i off) fun T hT=>Fb hT
   have Fq:=B1d h2 (p:=2) (s:=i) (off:=off) hmm w9;have JR:(st.release v).sg=st.sg:=by cases v <;> rfl
   obtain ⟨R1,P1⟩:=R0.A7l (xs:=[cc]) (by rw [JR];exact hb) Fy S rfl (by simp;omega) fun j r' v' hr hv=>by
    cases j with
    | succ j=>simp at hr
    | zero =>
      have Aw:r'=cc:=by simpa using hr.symm
      have MO:v'=a.eval v:=by simpa using hv.symm
      rw [Aw,MO];exact Fq
   rw [A6Z M4,JR] at R1;have R6:({ st with sg:=st.sg.set i (.box (cs.set off cc)) }.release v)={ st.release v with sg:=st.sg.set i (.box (cs.set off cc)) }:=by cases v <;> rfl
   rw [R6] at H;have P0:Pr L8 E w.heap (E.re (Bw v 2 i off)) w.heap:=Pr.re fun T hT=>Fb fun t b _ he=>hT (by rw [he];simp [L8])
   exact Lv (Hu D9 e1.2 hw) (T (E.re (Bw v 2 i off)) _ _ w' H (R1.put fun t0 _=>dY t0) (P0.trans (P1.weaken (by rintro T rfl;simp [L8]))) S.out)
 ·-- an element of a writable array
  rename_i i sz idx off hm;rw [hm] at e1;simp only [RR,J8] at e1;obtain ⟨p,hp,H⟩:=A9 H;obtain ⟨d,hd,H⟩:=A9 H;obtain ⟨H,VM,hRC⟩:=oC E_ e2 H;obtain ⟨Aa,H⟩:=F4 H;obtain ⟨⟨hzz,dX⟩,H9⟩:=L6 H;clear H;subst dX;have hp:=Zw hp;have Aa:p.1=sz:=by simpa using Aa
  rw [Aa] at hp;have B:=Rl.Q0 i _ hp;simp only [RO] at B;have hne:p.2≠[]:=by intro h;rw [h] at hd;simp at hd
  obtain ⟨c,TT,b1,b2,b3,b4,b5⟩:=B hne;have hidx:idx<p.2.length:=(z0q.1 hd).1;have Dx:idx * sz+sz<=p.2.length * sz:=by rw [<- zxq];exact z7q _ hidx
  have Fq:∀ u∈(a.eval v).cells.toList,u.oneCell'=true:=by
   intro q hq;obtain ⟨j,hj,mY⟩:=zmq.1 hq;obtain ⟨q1,q2⟩:=MZ hRC (j:=j) (v:=q) (by rw [z4q hj,mY])
   exact JH q1 q2
  obtain ⟨w',hw,S⟩:=Ic (P:=C.P) hz (off:=E.base i+idx * sz) b1 (v:=a.eval v) VM (by omega) Fq (fun o _ _=>by simp)
  have P1:Pr (fun t=>t = .obj i) E w.heap E w'.heap:=S.Pr b1 fun j h1 h2=>b4 j (by omega) (by simp at h2;omega)
  have hs:=P1.shut (by simp) Rl.fresh
  have IZ:=(z0q.1 hp).1;have R1:J6 E { st with sg:=st.sg.set i (.arr sz (p.2.set idx u.1)) } a w'.heap:=by
   refine ⟨Rl.size,Rl.AP,Rl.Bi,by simpa using Rl.n,fun t v hv=>(Rl.regs t v hv).mono P1 hs (by simp) (by simp),fun s' cs' Cz=>(Rl.boxes s' cs' Cz).mono P1 hs (by simp) (by simp),fun i' ob hi => ?_,fun b o' Ef=>Rl.fresh b o' (by rw [<- S.size];exact Ef)⟩
   by_cases Cq:i=i'
   ·subst Cq
    simp only [z2q IZ,Option.some.injEq] at hi;subst hi;simp only [RO];intro _;obtain ⟨c',wU,e2',e3'⟩:=S.ex;refine ⟨c',TT,wU,by rw [zCq,e2'];exact b2,b3,by rw [zCq];exact b4,fun j d' ES => ?_⟩
    by_cases hj:idx=j
    ·subst hj
     rw [z2q hidx] at ES;simp only [Option.some.injEq] at ES;subst ES;refine ⟨(a.eval v).cells.toList,by simp;omega,fun y q hq => ?_,hRC.mono hs⟩
     have hy:y<sz:=by have:=(z0q.1 hq).1;simp at this;omega
     rw [e3',if_pos (by simp;omega),<- hq]
     congr 1
     omega
    ·rw [z1q hj] at ES
     obtain ⟨us,u1,u2,u3⟩:=b5 j d' ES;refine ⟨us,u1,fun y q hq => ?_,u3.mono hs⟩
     have hy:y<sz:=by have:=(z0q.1 hq).1;omega
     rw [e3',if_neg,u2 y q hq];rintro ⟨c1,c2⟩;simp at c2;exact hj (A5e (sz:=sz) (j:=j * sz+y-idx * sz) (j':=y) (by omega) hy (by omega))
   ·simp only [z1q Cq] at hi
    exact (Rl.Q0 i' ob hi).mono P1 hs (CO Rl hi) (by simp;exact fun h=>Cq h.symm) (by simp)
  exact Lv (Hu D9 (by rw [e1.2];rfl) hw) (T E _ _ w' H9 (R1.put fun t0 _=>dY t0) (P1.weaken (by rintro T rfl;simp [L8])) S.out)
 ·-- an open element
  rename_i i sz idx hm;rw [hm] at e1;simp only [RR,J8] at e1;obtain ⟨q,hq,H⟩:=A9 H;obtain ⟨H,VM,hRC⟩:=oC E_ e2 H;obtain ⟨Aa,H⟩:=F4 H;obtain ⟨ob1,hx,H9⟩:=A9 H;clear H;simp only [zcq,beq_iff_eq] at Aa;obtain ⟨Ez,hs2⟩:=Aa;obtain ⟨sz',pre,ds⟩:=q;simp only at Ez;subst Ez;have hq:=pX hq;simp only [Iz] at hx;obtain ⟨⟨Kc,hi2⟩,hx⟩:=L6 hx;simp only [Option.some.injEq] at hx;subst hx;have B:=Rl.Q0 i _ hq;simp only [RO] at B;obtain ⟨c,TT,f,b1,b2,b2',b3,b4,b5,b6⟩:=B;have B2l:pre.length * sz'<=idx * sz':=z7q _ Kc;have Dx:idx * sz'+sz'<=(pre.length+ds.length) * sz':=by rw [<- zxq];exact z7q _ (by omega)
  have Fq:∀ u∈(a.eval v).cells.toList,u.oneCell'=true:=by
   intro q hq;obtain ⟨j,hj,mY⟩:=zmq.1 hq;obtain ⟨q1,q2⟩:=MZ hRC (j:=j) (v:=q) (by rw [z4q hj,mY])
   exact JH q1 q2
  obtain ⟨w',hw,S⟩:=Ic (P:=C.P) hz (off:=E.base i+idx * sz') b1 (v:=a.eval v) VM (by omega) Fq (fun o h1 h2=>(b4 o (by omega) (by omega)).2)
  have P1:Pr (fun t=>t = .obj i) E w.heap E w'.heap:=S.Pr b1 fun j h1 h2=>(b4 j (by omega) (by simp at h2;omega)).1
  have hs:=P1.shut (by simp) Rl.fresh
  have IZ:=(z0q.1 hq).1;have R1:J6 E { st with sg:=st.sg.set i (.opn sz' pre (ds.set (idx-pre.length) u.1)) } a w'.heap:=by
   refine ⟨Rl.size,Rl.AP,Rl.Bi,by simpa using Rl.n,fun t v hv=>(Rl.regs t v hv).mono P1 hs (by simp) (by simp),fun s' cs' Cz=>(Rl.boxes s' cs' Cz).mono P1 hs (by simp) (by simp),fun i' ob hi => ?_,fun b o' Ef=>Rl.fresh b o' (by rw [<- S.size];exact Ef)⟩
   by_cases Cq:i=i'
   ·subst Cq
    simp only [z2q IZ,Option.some.injEq] at hi;subst hi;simp only [RO];obtain ⟨c',wU,e2',e3'⟩:=S.ex;refine ⟨c',TT,f,wU,by rw [zCq];exact b2,by rw [e2'];exact b2',b3,b4,fun j d' ES=>(b5 j d' ES).mono hs,fun j d' ES => ?_⟩
    by_cases hj:idx-pre.length=j
    ·subst hj
     rw [z2q hi2] at ES;simp only [Option.some.injEq] at ES;subst ES;have e4:pre.length+(idx-pre.length)=idx:=by omega
     refine ⟨(a.eval v).cells.toList,by simp;omega,fun y q hq => ?_,hRC.mono hs⟩
     have hy:y<sz':=by have:=(z0q.1 hq).1;simp at this;omega
     rw [e4,e3',if_pos (by simp;omega),<- hq]
     congr 1
     omega
    ·rw [z1q hj] at ES
     obtain ⟨us,u1,u2,u3⟩:=b6 j d' ES;refine ⟨us,u1,fun y q hq => ?_,u3.mono hs⟩
     have hy:y<sz':=by have:=(z0q.1 hq).1;omega
     rw [e3',if_neg,u2 y q hq];rintro ⟨c1,c2⟩;simp at c2;have:=A5e (sz:=sz') (i:=idx) (i':=pre.length+j) (j:=(pre.length+j) * sz'+y-idx * sz') (j':=y) (by omega) hy (by omega)
     omega
   ·simp only [z1q Cq] at hi
    exact (Rl.Q0 i' ob hi).mono P1 hs (CO Rl hi) (by simp;exact fun h=>Cq h.symm) (by simp)
  exact Lv (Hu D9 (by rw [e1.2]) hw) (T E _ _ w' H9 (R1.put fun t0 _=>dY t0) (P1.weaken (by rintro T rfl;simp [L8])) S.out)
 ·-- an element of a vector
  rename_i i n sz idx off hm;rw [hm] at e1;simp only [RR,J8] at e1;obtain ⟨p,hp,H⟩:=A9 H;obtain ⟨d,hd,H⟩:=A9 H;obtain ⟨Aa,H⟩:=F4 H;have hp:=Zx hp;have Aa:p.1=sz:=by simpa using Aa
  rw [Aa] at hp;obtain ⟨-,-,-,eb,ep,ev,ex⟩:=e1;have B:=Rl.Q0 i _ hp;simp only [RO] at B;obtain ⟨rfl,rfl⟩:=ex B.1
  split at H
  ·obtain ⟨xs,H,hl,w9⟩:=Zg hz e2 H
   obtain ⟨e,he,H9⟩:=A9 H;obtain ⟨w',hw,R1,P1,ho⟩:=A7j (P:=C.P) hz Rl hp hd (v:=a.eval v) (by have:=w9.1;simp at this;omega) (xs:=xs) (by have:=w9.1;simpa using this) (fun j r' v' hr hv=>let ⟨q1,q2⟩:=w9.2 j r' v' hr hv;⟨q1.1,q1.2.1,q1.2.2.2⟩) he
   exact Lv (Hu D9 ev hw) (T E _ _ w' H9 (R1.put fun t0 _=>dY t0) (P1.weaken (by rintro T rfl;simp [L8])) ho)
  ·rename_i hz2
   have o_:=E_ (by simpa using hz2)
   obtain ⟨cc,H,hmm,w9⟩:=XO e2 H;obtain ⟨e,he,H9⟩:=A9 H;have Xh:=cells_one w9.2.1;obtain ⟨w',hw,R1,P1,ho⟩:=A7j (P:=C.P) hz Rl hp hd (v:=a.eval v) (by rw [Xh,o_];rfl) (xs:=[cc]) (by rw [Xh];rfl) (fun j r' v' hr hv=>by
    rw [Xh] at hv;cases j with
    | succ j=>simp at hr
    | zero =>
      have Aw:r'=cc:=by simpa using hr.symm
      have MO:v'=a.eval v:=by simpa using hv.symm
      rw [Aw,MO];exact ⟨w9.1,w9.2.1,w9.2.2.2⟩) he
   exact Lv (Hu D9 ev hw) (T E _ _ w' H9 (R1.put fun t0 _=>dY t0) (P1.weaken (by rintro T rfl;simp [L8])) ho)
 ·simp at H
end
end Go.Su

/-
 THE DATA MACHINE, part 15: maps read and written; parts of results.
-/
namespace Go.Su
variable {P:Program} {t:TypeId}
theorem zR {q:Bool × TypeId} (h:mapKeys P t=some q):∃ kt,P.underlying t=some (.map kt q.2)/\((q.1=false/\P.underlying kt=some (.int .i64))\/(q.1=true/\P.underlying kt=some .string)):=by
 unfold mapKeys at h
 split at h
 ·rename_i kt et hu
  split at h <;> simp only [Option.some.injEq,reduceCtorEq] at h <;> subst h
  ·exact ⟨kt,hu, .inl ⟨rfl,‹_›⟩⟩
  ·exact ⟨kt,hu, .inr ⟨rfl,‹_›⟩⟩
 ·simp at h
theorem B5y (a b:ByteArray):(a.toList == b.toList)=(a == b):=(beq_toListBytes a b).symm
variable {kd:TypeDesc}
theorem B0J {S:X6} {h:Heap} {ks:Bool} (hk:(ks=false/\kd = .int .i64)\/(ks=true/\kd = .string)) {d e:DV} {v u:Value} (hd:isKey ks d=true) (he:isKey ks e=true) (rv:RV S h d v) (ru:RV S h e u) :
 Instr.sameNow kd v u=some (Bu d e)/\(Bu d e=true->v=u/\d=e):=by
 rcases hk with ⟨rfl,rfl⟩ | ⟨rfl,rfl⟩
 ·cases d <;> simp only [isKey,z9q,y6q,zRq,beq_iff_eq] at hd
  cases e <;> simp only [isKey,z9q,y6q,zRq,beq_iff_eq] at he;rw [BP] at rv ru;subst rv ru hd he;refine ⟨by simp [Instr.sameNow,Bu],fun hq => ?_⟩
  simp only [Bu,beq_iff_eq] at hq;subst hq;exact ⟨rfl,rfl⟩
 ·cases d <;> simp only [isKey,z9q,ybq,y7q] at hd
  cases e <;> simp only [isKey,z9q,ybq,y7q] at he;rw [XM] at rv ru;subst rv ru;rename_i p q;refine ⟨?_,fun hq => ?_⟩
  ·simp only [Instr.sameNow,Bu,B5y]
  ·simp only [Bu,beq_iff_eq,ByteArray.toList_eq] at hq
   have zH:p=q:=by
    obtain ⟨⟨p⟩⟩:=p;obtain ⟨⟨q⟩⟩:=q;simpa using hq
   subst zH;exact ⟨rfl,rfl⟩
theorem oK {S:X6} {h:Heap} {ks:Bool} {kd:TypeDesc} (hk:(ks=false/\kd = .int .i64)\/(ks=true/\kd = .string)) {d:DV} {v:Value} (hd:isKey ks d=true) (rv:RV S h d v) (val:DV):∀ (es:List (DV × DV)) (l:List MapEntry) (i:Nat),
 es.length=l.length->(∀ (j:Nat) e n,es[j]?=some e->l[j]?=some n->isKey ks e.1=true/\RV S h e.1 n.key/\RV S h e.2 n.val) ->
 (Instr.findNow kd v l i=some none/\AO es d=none/\BC es d val=es++[(d,val)]) \/
 ∃ j e n,es[j]?=some e/\l[j]?=some n/\Instr.findNow kd v l i=some (some (i+j,n.val))/\AO es d=some e.2/\BC es d val=es.set j (e.1,val)/\n.key=v/\e.1=d
 | [],[],i,_,_ => .inl ⟨rfl,rfl,rfl⟩
 | [],_::_,_,hl,_=>by simp at hl
 | _::_,[],_,hl,_=>by simp at hl
 | e::es,n::l,i,hl,WE=>by
   obtain ⟨k1,k2,k3⟩:=WE 0 e n rfl rfl;obtain ⟨s1,s2⟩:=B0J hk hd k1 rv k2;cases hq:Bu d e.1 with
   | true =>
     rw [hq] at s1;obtain ⟨q1,q2⟩:=s2 hq;exact .inr ⟨0,e,n,rfl,rfl,by simp [Instr.findNow,s1],by simp [AO,hq],by simp [BC,hq],q1.symm,q2.symm⟩
   | false =>
     rw [hq] at s1;have ih:=oK hk hd rv val es l (i+1) (by simpa using hl) (fun j e' n' h1 h2=>WE (j+1) e' n' (by simpa using h1) (by simpa using h2))
     have f1:Instr.findNow kd v (n::l) i=Instr.findNow kd v l (i+1):=by simp [Instr.findNow,s1]
     have f2:AO (e::es) d=AO es d:=by simp [AO,hq]
     have f3:BC (e::es) d val=e::BC es d val:=by simp [BC,hq]
     rcases ih with ⟨g1,g2,g3⟩ | ⟨j,e',n',g1,g2,g3,g4,g5,g6,g7⟩
     ·exact .inl ⟨by rw [f1,g1],by rw [f2,g2],by rw [f3,g3];rfl⟩
     ·refine .inr ⟨j+1,e',n',by simpa using g1,by simpa using g2,by rw [f1,g3];congr 3;omega,by rw [f2,g4],by rw [f3,g5];rfl,g6,g7⟩
theorem run_checkKey {kt:TypeId} (hu:P.underlying kt=some kd) (hk:kd = .int .i64\/kd = .string) (b:Bool) (v:Value) (n:Nat) (w:World):(Instr.checkKey b (n+1) kt v).run P w = .ok () w:=by
 unfold Instr.checkKey;simp only [Sem.run_bind,run_underlying hu,Result.andThen_ok];rcases hk with rfl | rfl <;> rfl
section
variable {X:Type} {C:X4} {R:O4} {o:Oper} {st:St} {k:St->Option X} {x:X} {E:Env} {a:Act} {w:World} {K:Act->World->Prop} {Q:Exit->Act->World->Prop}
theorem B21 {y v:Operand} {ok:Bool} (D9:o.op = .lookup t y v ok) (H:(ob (src C.P t st y) fun r=>ob (src C.P 0 st v) fun key=>ob (mapKeys C.P t) fun q =>
 ob (A3o C.P q.2) fun ze =>
  og (isKey q.1 key.1 && J5 key.2)
   (match r.2 with
     | .map i=>ob (Av st.sg i) fun p=>og (p.1 == q.1)
       (if ok then k (st.put o.dst (.F3 [(AO p.2 key.1).getD ze, .bool (AO p.2 key.1).isSome]) .val)
       else k (st.put o.dst ((AO p.2 key.1).getD ze) .val))
     | _=>none))=some x) (Rl:J6 E st a w.heap) (T:Then E w k x K):Gp C.P o a w K:=by
 obtain ⟨r,h1,H⟩:=A9 H;obtain ⟨key,h2,H⟩:=A9 H;obtain ⟨q,hq,H⟩:=A9 H;obtain ⟨ze,dZ,H⟩:=A9 H;obtain ⟨hc,H⟩:=F4 H;simp only [zcq] at hc;obtain ⟨Um,hkd⟩:=hc;have e1:=Rl.src h1;have e2:=(Rl.src h2).data hkd
 split at H
 ·rename_i i hm
  rw [hm] at e1;simp only [RR,J8] at e1;obtain ⟨p,hp,H⟩:=A9 H;obtain ⟨zH,H⟩:=F4 H;have zH:p.1=q.1:=by simpa using zH
  have hp:=A5i hp;rw [zH] at hp;obtain ⟨ens,clk,b1,b2,⟨b3,b4⟩,-⟩:=Rl.Q0 i _ hp;obtain ⟨kt,hu,S_⟩:=zR hq;unfold A3o at dZ;obtain ⟨inf,AY,dZ⟩:=A9 dZ;obtain ⟨zv,Pv,dZ⟩:=A9 dZ;obtain ⟨zr,hzr,dZ⟩:=A9 dZ;obtain ⟨hzd,dZ⟩:=F4 dZ;simp only [Option.some.injEq] at dZ;have jX:∃ kd,C.P.underlying kt=some kd/\((q.1=false/\kd = .int .i64)\/(q.1=true/\kd = .string)):=by
   rcases S_ with ⟨h3,h4⟩ | ⟨h3,h4⟩
   ·exact ⟨_,h4, .inl ⟨h3,rfl⟩⟩
   ·exact ⟨_,h4, .inr ⟨h3,rfl⟩⟩
  obtain ⟨kd,hku,jX⟩:=jX;have hz0:RV E.S w.heap ze zv:=by
   rw [<- dZ];exact (A4c (E:=E) (h:=w.heap) hzr 0 0).data hzd
  have F:=oK jX Um e2 .undef p.2 ens.toList 0 (by simpa using b3) (fun j e n g1 g2=>b4 j e n g1 (by simpa using g2))
  have fin:∀ (d:DV) (vv:Value) (bb:Bool),(AO p.2 key.1).getD ze=d->(AO p.2 key.1).isSome=bb->RV E.S w.heap d vv->(Instr.lookup t (a.eval y) (a.eval v) ok).run C.P w = .ok (if ok then .tuple #[vv, .bool bb] else vv) w->Gp C.P o a w K:=by
   intro d vv bb hd hb hR O8;rw [hd,hb] at H;have A75:(execOp a.eval o).run C.P w = .ok (.value (if ok then .tuple #[vv, .bool bb] else vv)) w:=by
    simp only [execOp,D9];exact Ab O8
   cases ok with
   | true =>
     simp only [if_true] at H A75;refine X9 A75 H Rl ?_ @T;simp only [RV];exact ⟨_,rfl,VY.2 ⟨by simp,fun i d' v' g1 g2=>by
      match i with
      | 0=>simp at g1 g2;subst g1 g2;exact hR
      | 1=>simp at g1 g2;subst g1 g2;rw [Ma]
      | n+2=>simp at g1⟩⟩
   | false =>
     simp only [z9q,if_false] at H A75;exact X9 A75 H Rl hR @T
  have hgo:(getObj (E.obj i)).run C.P w = .ok (.map ens clk) w:=by simp [getObj,Sem.run,b1]
  have A8X:kd = .int .i64\/kd = .string:=by rcases jX with h3 | h3 <;> simp [h3.2]
  rcases F with ⟨g1,g2,-⟩ | ⟨j,e,n,g0,g0',g1,g2,-,-,-⟩
  ·refine fin ze zv false (by rw [g2];rfl) (by rw [g2];rfl) hz0 ?_
   unfold Instr.lookup;rw [e1.2];have C1M:(zeroValue q.2).run C.P w = .ok zv w:=by simp [zeroValue,typeInfo,AY,Pv]
   simp only [Sem.run_bind,run_underlying hu,Result.andThen_ok,hgo,Sem.run_pure,run_checkKey hku A8X,Instr.findKey,run_underlying hku,g1,C1M]
  ·obtain ⟨-,-,rv⟩:=b4 j e n g0 (by simpa using g0')
   refine fin e.2 n.val true (by rw [g2];rfl) (by rw [g2];rfl) rv ?_
   unfold Instr.lookup;rw [e1.2];simp only [Sem.run_bind,run_underlying hu,Result.andThen_ok,hgo,Sem.run_pure,run_checkKey hku A8X,Instr.findKey,run_underlying hku,g1]
 ·simp at H
theorem A4U {α : Type} (xs:Array α) (j i:Nat) (f : α -> α):(xs.modify j f)[i]?=if j=i then xs[i]?.map f else xs[i]?:=by
 rw [zZq]
variable {ens:Array MapEntry} {clk:Nat}
theorem nN.push (h:nN ens clk) (e:MapEntry) (he:e.born=clk):nN (ens.push e) (clk+1):=by
 refine ⟨fun j n hn => ?_,fun i j m n hm hn hb => ?_⟩
 ·rw [zHq] at hn
  split at hn
  ·simp only [Option.some.injEq] at hn;subst hn;omega
  ·have:=h.1 j n hn;omega
 ·rw [zHq] at hm hn
  split at hm <;> split at hn
  ·omega
  ·simp only [Option.some.injEq] at hm
   subst hm;have:=h.1 j n hn;omega
  ·simp only [Option.some.injEq] at hn
   subst hn;have:=h.1 i m hm;omega
  ·exact h.2 i j m n hm hn hb
theorem nN.modify (h:nN ens clk) (j:Nat) {f:MapEntry->MapEntry} (hf:∀ e,(f e).born=e.born):nN (ens.modify j f) clk:=by
 have key:∀ (i:Nat) n,(ens.modify j f)[i]?=some n->∃ m,ens[i]?=some m/\m.born=n.born:=by
  intro i n hn;rw [A4U] at hn
  split at hn
  ·cases hm:ens[i]? with
   | none=>rw [hm] at hn;cases hn
   | some m =>
     rw [hm] at hn;simp only [ycq,Option.some.injEq] at hn;subst hn;exact ⟨m,rfl,(hf m).symm⟩
  ·exact ⟨n,hn,rfl⟩
 refine ⟨fun i n hn => ?_,fun i k m n hm hn hb => ?_⟩
 ·obtain ⟨m,h1,h2⟩:=key i n hn
  have:=h.1 i m h1;omega
 ·obtain ⟨m',h1,h2⟩:=key i m hm
  obtain ⟨n',h3,h4⟩:=key k n hn;exact h.2 i k m' n' h1 h3 (by omega)
theorem A7x {y v u:Operand} (D9:o.op = .mapUpdate t y v u) (H:(ob (src C.P t st y) fun r=>ob (src C.P 0 st v) fun key=>ob (src C.P 0 st u) fun val=>ob (mapKeys C.P t) fun q =>
 og (isKey q.1 key.1 && J5 key.2 && J5 val.2)
  (match r.2 with
    | .map i=>ob (Av st.sg i) fun p=>og (p.1 == q.1) (k ({ st with sg:=st.sg.set i (.map q.1 (BC p.2 key.1 val.1)) }.put o.dst (.F3 []) .val))
    | _=>none))=some x) (Rl:J6 E st a w.heap) (T:Then E w k x K):Gp C.P o a w K:=by
 obtain ⟨r,h1,H⟩:=A9 H;obtain ⟨key,h2,H⟩:=A9 H;obtain ⟨val,h3,H⟩:=A9 H;obtain ⟨q,hq,H⟩:=A9 H;obtain ⟨hc,H⟩:=F4 H;simp only [zcq] at hc;obtain ⟨⟨Um,hkd⟩,hvd⟩:=hc;have e1:=Rl.src h1;have e2:=(Rl.src h2).data hkd;have e3:=(Rl.src h3).data hvd
 split at H
 ·rename_i i hm
  rw [hm] at e1;simp only [RR,J8] at e1;obtain ⟨p,hp,H⟩:=A9 H;obtain ⟨zH,H⟩:=F4 H;have zH:p.1=q.1:=by simpa using zH
  have hp:=A5i hp;rw [zH] at hp;obtain ⟨ens,clk,b1,b2,⟨b3,b4⟩,b5⟩:=Rl.Q0 i _ hp;obtain ⟨kt,hu,S_⟩:=zR hq;have jX:∃ kd,C.P.underlying kt=some kd/\((q.1=false/\kd = .int .i64)\/(q.1=true/\kd = .string)):=by
   rcases S_ with ⟨h3,h4⟩ | ⟨h3,h4⟩
   ·exact ⟨_,h4, .inl ⟨h3,rfl⟩⟩
   ·exact ⟨_,h4, .inr ⟨h3,rfl⟩⟩
  obtain ⟨kd,hku,jX⟩:=jX;have A8X:kd = .int .i64\/kd = .string:=by rcases jX with h3 | h3 <;> simp [h3.2]
  have F:=oK jX Um e2 val.1 p.2 ens.toList 0 (by simpa using b3) (fun j e n g1 g2=>b4 j e n g1 (by simpa using g2))
  have hgo:(getObj (E.obj i)).run C.P w = .ok (.map ens clk) w:=by simp [getObj,Sem.run,b1]
  have B5Z:E.obj i<w.heap.size:=(zdq.1 b1).1;have IZ:=(z0q.1 hp).1;have fin:∀ (ens':Array MapEntry) (clk':Nat),B9t E.S w.heap q.1 (BC p.2 key.1 val.1) ens'->nN ens' clk'->(Instr.mapUpdate t (a.eval y) (a.eval v) (a.eval u)).run C.P w = .ok () { w with heap:=w.heap.setIfInBounds (E.obj i) (.map ens' clk') }->Gp C.P o a w K:=by
   intro ens' clk' hR hB O8;have B2m:(w.heap.setIfInBounds (E.obj i) (.map ens' clk'))[E.obj i]?=some (.map ens' clk'):=ziq B5Z;have hold:∀ b,b≠E.obj i->(w.heap.setIfInBounds (E.obj i) (.map ens' clk'))[b]?=w.heap[b]?:=fun b hb=>zjq (Ne.symm hb)
   have P1:Pr (fun t=>t = .obj i) E w.heap E (w.heap.setIfInBounds (E.obj i) (.map ens' clk')):=by
    refine ⟨by simp,fun b hb => ?_,fun _ _ _ _=>rfl,zfq _,fun _ _ _=>⟨rfl,rfl,rfl⟩,fun _ _=>rfl,DK rfl⟩
    by_cases ZK:b=E.obj i
    ·subst ZK
     rw [b1];intro h0;exact absurd (b2 0) h0
    ·rw [hold b ZK];exact U6.refl _ _
   have hs:=P1.shut (by simp) Rl.fresh
   have R1:J6 E { st with sg:=st.sg.set i (.map q.1 (BC p.2 key.1 val.1)) } a (w.heap.setIfInBounds (E.obj i) (.map ens' clk')):=by
    refine ⟨Rl.size,Rl.AP,Rl.Bi,by simpa using Rl.n,fun t v hv=>(Rl.regs t v hv).mono P1 hs (by simp) (by simp),fun s' cs' Cz=>(Rl.boxes s' cs' Cz).mono P1 hs (by simp) (by simp),fun i' ob hi => ?_,fun b o' Ef=>Rl.fresh b o' (by simpa using Ef)⟩
    by_cases Cq:i=i'
    ·subst Cq
     simp only [z2q IZ,Option.some.injEq] at hi;subst hi;refine ⟨ens',clk',B2m,b2,⟨hR.1,fun j e n g1 g2 => ?_⟩,hB⟩
     obtain ⟨c1,c2,c3⟩:=hR.2 j e n g1 g2;exact ⟨c1,c2.mono hs,c3.mono hs⟩
    ·simp only [z1q Cq] at hi
     exact (Rl.Q0 i' ob hi).mono P1 hs (CO Rl hi) (by simp;exact fun h=>Cq h.symm) (by simp)
   refine Lv (w':={ w with heap:=w.heap.setIfInBounds (E.obj i) (.map ens' clk') }) ?_ (T E _ _ { w with heap:=w.heap.setIfInBounds (E.obj i) (.map ens' clk') } H (R1.put fun t0 _ => ?_) (P1.weaken (by rintro T rfl;simp [L8])))
   ·simp only [execOp,D9]
    exact B7A O8
   ·simp only [RR,J8,RV]
    exact ⟨#[],rfl,by simp [Pj]⟩
  have C0c:∀ (ens':Array MapEntry) (clk':Nat),(setObj (E.obj i) (.map ens' clk')).run C.P w = .ok () { w with heap:=w.heap.setIfInBounds (E.obj i) (.map ens' clk') }:=by
   intro ens' clk';simp [setObj,Sem.run,b1]
  rcases F with ⟨g1,g2,g3⟩ | ⟨j,e,n,g0,g0',g1,g2,g3,g4,g5⟩
  ·refine fin (ens.push { key:=a.eval v,val:=a.eval u,born:=clk }) (clk+1) ?_ (b5.push _ rfl) ?_
   ·rw [g3]
    refine ⟨by simp [b3],fun j e n h1 h2 => ?_⟩
    by_cases hj:j<p.2.length
    ·rw [z5q hj] at h1
     rw [zHq,if_neg (by omega)] at h2
     exact b4 j e n h1 h2
    ·have hj1:j=p.2.length:=by have:=(z0q.1 h1).1;simp at this;omega
     subst hj1;rw [z6q (zfq _)] at h1;simp only [ydq,zgq,Option.some.injEq] at h1;rw [zHq,if_pos b3] at h2;simp only [Option.some.injEq] at h2;subst h1 h2;exact ⟨Um,e2,e3⟩
   ·unfold Instr.mapUpdate
    rw [e1.2];simp only [Sem.run_bind,run_underlying hu,Result.andThen_ok,hgo,run_checkKey hku A8X,Instr.findKey,run_underlying hku,g1,Sem.run_pure];exact C0c _ _
  ·have uQ:j<ens.size:=by have:=(z0q.1 g0').1;simpa using this
   have hn:ens[j]?=some n:=by simpa using g0'
   refine fin (ens.modify j fun e=>{ e with key:=a.eval v,val:=a.eval u }) clk ?_ (b5.modify j fun _=>rfl) ?_
   ·rw [g3]
    refine ⟨by simp [b3],fun j' e' n' h1 h2 => ?_⟩
    rw [A4U] at h2
    by_cases hjj:j=j'
    ·subst hjj
     rw [if_pos rfl,hn] at h2;simp only [ycq,Option.some.injEq] at h2;rw [z2q (z0q.1 g0).1] at h1;simp only [Option.some.injEq] at h1;subst h1 h2;exact ⟨by rw [g5];exact Um,by rw [g5];exact e2,e3⟩
    ·rw [if_neg hjj] at h2
     rw [z1q hjj] at h1;exact b4 j' e' n' h1 h2
   ·unfold Instr.mapUpdate
    rw [e1.2];have C1L:(Instr.keyThatStays n.key (a.eval v)).run C.P w = .ok (a.eval v) w:=by
     unfold Instr.keyThatStays;have:Instr.sameBits 10000 n.key (a.eval v)=true:=by
      rw [g4];rcases jX with ⟨h3,-⟩ | ⟨h3,-⟩
      ·rw [h3] at Um
       cases zF:key.1 <;> rw [zF] at Um e2 <;> simp only [isKey,z9q,y6q,zRq] at Um;rw [BP] at e2;rw [e2];simp [Instr.sameBits]
      ·rw [h3] at Um
       cases zF:key.1 <;> rw [zF] at Um e2 <;> simp only [isKey,z9q,ybq,y7q] at Um;rw [XM] at e2;rw [e2];simp only [Instr.sameBits];rw [beq_toListBytes];simp
     rw [if_pos this];rfl
    simp only [Sem.run_bind,run_underlying hu,Result.andThen_ok,hgo,run_checkKey hku A8X,Instr.findKey,run_underlying hku,g1,Sem.run_pure,zeq,hn,ycq,zqq,C1L];exact C0c _ _
 ·simp at H
theorem J6.qK (Rl:J6 E st a w.heap) {t i:Nat} {ms:List Meta} (hm:(st.get t).2 = .Br ms) (OI:ms[i]?=some .own) (M4:t<st.mt.length) {f:Tag->Tag} (hf:∀ T,T ≠ .sp 0 t (i+1)->f T=T) :
 J6 (E.re f) { st with mt:=st.mt.set t (.Br (ms.set i .val)) } a w.heap:=by
 have Fs:f .shut = .shut:=hf _ (by simp)
 have OH:f .other = .other:=hf _ (by simp)
 have P:Pr (fun T=>T = .sp 0 t (i+1)) E w.heap (E.re f) w.heap:=Pr.re fun T hT=>hf T hT
 have J3:Y0 E.S w.heap (E.re f).S w.heap:=KE Fs;refine ⟨Rl.size,by simpa using Rl.AP,Rl.Bi,Rl.n,fun u v hu => ?_,fun s cs hs=>(Rl.boxes s cs hs).mono P J3 (by simp) (by simp),fun j ob hj=>(Rl.Q0 j ob hj).mono P J3 (CO Rl hj) (by simp) (by simp),fun b o hb => ?_⟩
 ·have h0:=Rl.regs u v hu
  by_cases hut:t=u
  ·subst hut
   have hg:St.get { st with mt:=st.mt.set t (.Br (ms.set i .val)) } t=((st.get t).1, .Br (ms.set i .val)):=by
    simp [St.get,z3q,z2q M4]
   rw [hg];rw [hm] at h0;simp only [RR] at h0 ⊢;obtain ⟨ds,vs,h1,h2,h3,h4,h5⟩:=h0;refine ⟨ds,vs,h1,h2,by simpa using h3,by simpa using h4,fun j m' d' u' e1 e2 e3 => ?_⟩
   by_cases hj:i=j
   ·subst hj
    have hil:i<ms.length:=by have:=(z0q.1 e1).1;simpa using this
    rw [z2q hil] at e1;simp only [Option.some.injEq] at e1;subst e1;obtain ⟨a0,a4⟩:=h5 i _ d' u' OI e2 e3;exact ⟨rfl,RV.mono J3 _ a4.1⟩
   ·rw [z1q hj] at e1
    obtain ⟨a0,a4⟩:=h5 j m' d' u' e1 e2 e3;exact ⟨a0,a4.re Fs (hf _ (by simp;exact fun h=>hj h.symm))⟩
  ·have hg:St.get { st with mt:=st.mt.set t (.Br (ms.set i .val)) } u=st.get u:=by
    simp [St.get,z3q,z1q hut]
   rw [hg];exact h0.re Fs OH fun b=>hf _ (by simp;intro h;exact absurd h.symm hut)
 ·simp only [Env.re];rw [Rl.fresh b o hb,OH]
theorem B0N {fl:Flags} {y:Operand} {i:Nat} (D9:o.op = .extract y i) (H:(ob (src C.P 0 st y) fun r =>
 match r.2 with
 | .val=>ob (I9 i r.1) fun d=>k (st.put o.dst d .val)
 | .Br ms=>ob (I9 i r.1) fun d =>
   match ms.getD i .val with
   | .own=>if J4 fl.M7 o.dst then k ((st.qK y (.Br (ms.set i .val))).put o.dst d .own) else k (st.put o.dst d .val)
   | .val=>k (st.put o.dst d .val)
   | _=>none
 | _=>none)=some x) (Rl:J6 E st a w.heap) (T:Then E w k x K):Gp C.P o a w K:=by
 obtain ⟨r,h1,H⟩:=A9 H
 split at H
 ·rename_i hm
  obtain ⟨d,hd,H⟩:=A9 H;exact B8N D9 h1 hm hd rfl H Rl @T
 ·rename_i ms hm
  obtain ⟨d,hd,H⟩:=A9 H;have e1:=Rl.src h1;rw [hm] at e1;simp only [RR] at e1;obtain ⟨ds,vs,hr,hv,l1,l2,l3⟩:=e1;obtain ⟨cs,Aw,hdi⟩:=A6w hd;rw [hr] at Aw;simp only [DV.F3.injEq] at Aw;subst Aw;have hi:i<ds.length:=(z0q.1 hdi).1;have hmi:ms[i]?=some (ms.getD i .val):=by simp [z3q,z4q (by omega:i<ms.length)]
  have hvi:vs[i]?=some (vs[i]'(by omega)):=zDq (by omega)
  obtain ⟨a0,a4⟩:=l3 i _ d _ hmi hdi hvi;have O8:(execOp a.eval o).run C.P w = .ok (.value (vs[i]'(by omega))) w:=by
   simp only [execOp,D9];refine Ab ?_;simp only [Instr.extract,hv,hvi,Sem.run_pure]
  split at H
  ·rename_i hmo
   rw [hmo] at a4
   by_cases R6:J4 fl.M7 o.dst=true
   ·rw [if_pos R6] at H
    have H2:=H;clear H;have hy:∃ t,y = .tmp t:=by
     cases y with
     | tmp t=>exact ⟨t,rfl⟩
     | const v=>exact absurd hm (fun h=>(XT h1).2 ms h)
     | func f=>simp only [src,Option.some.injEq] at h1;subst h1;simp at hm
     | global g=>simp [src] at h1
    obtain ⟨t,rfl⟩:=hy;simp only [src,Option.some.injEq] at h1;subst h1;simp only [mi] at a4;cases FE:o.dst with
    | none=>rw [FE] at R6;simp [J4] at R6
    | some t0 =>
      rw [FE] at H2;refine AR O8 ?_;rw [FE];have htl:t<st.mt.length:=by
       rcases zsq t st.mt.length with h1 | h1
       ·exact h1
       ·rw [g_ (by rw [<- Rl.AP];exact h1) Rl.AP] at hm;simp at hm
      refine T (E.re (PN (.sp 0 t (i+1)) t0)) _ _ w H2 ((Rl.qK hm (by rw [hmi,hmo]) htl fun T hT=>HY hT).put fun t1 ht => ?_) (Pr.re fun T hT=>HY fun he=>hT (by rw [he];simp [L8]))
      simp only [Option.some.injEq] at ht;subst ht;exact RR.Ad (a4.re (HY (by simp)) (by simp [PN]))
   ·rw [if_neg R6] at H
    exact X9 O8 H Rl a4.1 @T
  ·rename_i hmo
   rw [hmo] at a4;exact X9 O8 H Rl a4 @T
  ·simp at H
 ·simp at H
end
end Go.Su

/-
 THE DATA MACHINE, part 16: append.
-/
namespace Go.Su
def Gl (S:X6) (h:Heap) (sz:Nat) (ds:List DV) (all:List Value):Prop :=
 all.length=ds.length * sz/\∀ (i:Nat) d,ds[i]?=some d->∃ vs:List Value,vs.length=sz/\(∀ (j:Nat) u,vs[j]?=some u->all[i * sz+j]?=some u)/\RC S h d vs
variable {S:X6} {h:Heap} {sz:Nat} {ds:List DV} {all:List Value}
theorem Gl.mono {S':X6} {h':Heap} (J3:Y0 S h S' h') (H:Gl S h sz ds all):Gl S' h' sz ds all :=
 ⟨H.1,fun i d hd=>let ⟨vs,v1,v2,v3⟩:=H.2 i d hd;⟨vs,v1,v2,v3.mono J3⟩⟩
theorem uO {S:X6} {h:Heap} {sz b:Nat}:∀ {ds:List DV} {o:Nat},Dc S h sz b o ds->∃ all,Gl S h sz ds all/\∀ (j:Nat) u,all[j]?=some u->hc h b (o+j)=some u/\S b (o+j)
 | [],o,_=>⟨[],⟨by simp,by simp⟩,by simp⟩
 | d::ds,o,H=>by
   simp only [Dc] at H;obtain ⟨⟨vs,v1,v2,v3⟩,H⟩:=H;obtain ⟨all,⟨l1,l2⟩,l3⟩:=uO H;refine ⟨vs++all,⟨by simp [l1,v1,zxq];omega,fun i d' hd => ?_⟩,fun j u hu => ?_⟩
   ·cases i with
    | zero =>
      simp only [zgq,Option.some.injEq] at hd;subst hd;refine ⟨vs,v1,fun j u hu => ?_,v3⟩
      rw [zJq,zeq,z5q (z0q.1 hu).1];exact hu
    | succ i =>
      simp only [zpq] at hd;obtain ⟨us,u1,u2,u3⟩:=l2 i d' hd;refine ⟨us,u1,fun j u hu => ?_,u3⟩
      rw [z6q (by rw [v1,zxq];omega),v1]
      rw [show (i+1) * sz+j-sz=i * sz+j from by rw [zxq];omega]
      exact u2 j u hu
   ·by_cases hj:j<vs.length
    ·rw [z5q hj] at hu
     exact v2 j u hu
    ·rw [z6q (by omega)] at hu
     have:=l3 _ u hu
     rwa [show o+sz+(j-vs.length)=o+j from by omega] at this
theorem qp {b o:Nat} (H:Gl S h sz ds all) (hc:∀ (j:Nat) u,all[j]?=some u->Su.hc h b (o+j)=some u/\S b (o+j)):Dc S h sz b o ds:=by
 refine Dp.2 fun i d hd => ?_
 obtain ⟨vs,v1,v2,v3⟩:=H.2 i d hd;refine ⟨vs,v1,fun j u hu => ?_,v3⟩
 have:=hc _ u (v2 j u hu)
 rwa [<- zOq] at this
theorem Gl.append {es:List DV} {A B:List Value} (H:Gl S h sz ds A) (G:Gl S h sz es B):Gl S h sz (ds++es) (A++B):=by
 refine ⟨by simp [H.1,G.1,zoq],fun i d hd => ?_⟩
 by_cases hi:i<ds.length
 ·rw [z5q hi] at hd
  obtain ⟨vs,v1,v2,v3⟩:=H.2 i d hd;refine ⟨vs,v1,fun j u hu => ?_,v3⟩
  have hj:j<sz:=by have:=(z0q.1 hu).1;omega
  have:=seg_lt hi hj;rw [z5q (by rw [H.1];exact this)]
  exact v2 j u hu
 ·rw [z6q (by omega)] at hd
  obtain ⟨vs,v1,v2,v3⟩:=G.2 _ d hd;refine ⟨vs,v1,fun j u hu => ?_,v3⟩
  have e:i * sz+j=ds.length * sz+((i-ds.length) * sz+j):=by
   rw [<- zOq,<- zoq]
   congr 2
   omega
  rw [e,<- H.1,z6q (by omega),Nat.add_sub_cancel_left]
  exact v2 j u hu
theorem Gl.one (hs:0<sz) (H:Gl S h sz ds all):∀ u∈all,u.oneCell'=true:=by
 intro u hu;obtain ⟨j,hj,mY⟩:=zmq.1 hu;have M4:j<ds.length * sz:=by rw [<- H.1];exact hj
 have hi:j / sz<ds.length:=(Nat.div_lt_iff_lt_mul hs).2 M4;obtain ⟨vs,v1,v2,v3⟩:=H.2 (j / sz) _ (z4q hi);have hm:j % sz<vs.length:=by rw [v1];exact Nat.mod_lt _ hs
 have h1:=v2 (j % sz) _ (z4q hm);rw [Nat.mul_comm,Nat.div_add_mod,z4q hj,mY] at h1;simp only [Option.some.injEq] at h1;obtain ⟨q1,q2⟩:=MZ v3 (z4q hm);rw [h1];exact JH q1 q2
theorem A6L (n:Nat):∀ (r c:Nat),c<n+1->Builtin.growBy n r c<=2 * n+192
 | 0,c,h=>by simp [Builtin.growBy];omega
 | r+1,c,h=>by
   simp only [Builtin.growBy]
   split
   ·omega
   ·rename_i M4
    by_cases h2:c+(c+768) / 4<n+1
    ·exact A6L n r _ h2
    ·cases r with
     | zero=>simp only [Builtin.growBy];omega
     | succ r =>
       simp only [Builtin.growBy];rw [if_pos (by omega)]
       omega
theorem B2A {need old:Nat} (h:old<need):Builtin.nextslicecap need old<=2 * need+192:=by
 unfold Builtin.nextslicecap
 split
 ·omega
 ·split
  ·omega
  ·exact A6L need 4 old (by omega)
variable {P:Program}
theorem Zb {t u:TypeId} (h:A32 P t u=some sz):∃ e e' z i zv,P.underlying t=some (.slice e)/\P.underlying u=some (.slice e')/\tz P e=some z/\z.1=sz/\0<sz/\P.info? e=some i/\i.bytes<=2 ^ 14/\i.zero=some zv/\zv.cells.size=sz:=by
 unfold A32 at h;obtain ⟨e,he,h⟩:=A9 h;obtain ⟨e',he',h⟩:=A9 h;obtain ⟨z,hz,h⟩:=A9 h;obtain ⟨i,hi,h⟩:=A9 h;obtain ⟨zs,VO,h⟩:=A9 h;obtain ⟨⟨h1,h2,h3⟩,h⟩:=L6 h;simp only [Option.some.injEq] at h;have ht:∀ {t e:TypeId},Gy P t=some e->P.underlying t=some (.slice e):=by
  intro t e he;unfold Gy at he
  split at he
  ·simp only [Option.some.injEq] at he;subst he;assumption
  ·simp at he
 obtain ⟨inf,zv,AY,Pv,w9⟩:=Qr VO;rw [hi] at AY;simp only [Option.some.injEq] at AY;subst AY;have:=(w9 ⟨fun _=>0,fun _=>0,fun _=>0,fun _=>0,fun _ _ => .other,0,fun _=>0⟩ #[]).1
 simp only [zSq] at this;exact ⟨e,e',z,i,zv,ht he,ht he',hz,h,by omega,hi,h2,Pv,by omega⟩
theorem B3J {d e r:DV} (h:Be sz d e=some r):∃ ds es,d = .list sz ds/\e = .list sz es/\ds.length+es.length<=lim/\r = .list sz (ds++es):=by
 unfold Be at h
 split at h
 ·obtain ⟨⟨⟨h1,h2⟩,h3⟩,h⟩:=L6 h
  simp only [Option.some.injEq] at h;subst h1 h2;exact ⟨_,_,rfl,rfl,h3,h.symm⟩
 ·simp at h
theorem B8t (st:St) (t:Nat) (d d':DV) (m m':Meta):(st.put (some t) d m).put (some t) d' m'=st.put (some t) d' m':=by
 simp [St.put,yhq]
theorem A1q (a:Act) (t:Nat) (v v':Value):(a.put (some t) v).put (some t) v'=a.put (some t) v':=by
 have:(a.tmps.setIfInBounds t v).setIfInBounds t v'=a.tmps.setIfInBounds t v':=by
  apply Array.ext_getElem?;intro i
  by_cases h:t=i
  ·subst h
   by_cases hl:t<a.tmps.size
   ·rw [ziq (by simpa using hl),ziq hl]
   ·rw [zWq (by simpa using hl),zWq (by simpa using hl)]
  ·rw [zjq h,zjq h,zjq h]
 simp [Act.put,this]
section
variable {P:Program} {t u ty e e':TypeId} {inf:TypeInfo} {w:World} {b:Option Addr} {len cap n sz:Nat} {v:Value} {all':List Value}
theorem A2x (b:Option Addr) (n c:Nat):Builtin.lenOf (.slice b n c)=pure n:=rfl
theorem A5c (hu:P.underlying t=some (.slice e)) (Ia:P.underlying u=some (.slice e')) (AY:P.info? e=some inf) (hn:Builtin.lenOf v=pure n) (hv:(Builtin.firstCells inf.size n v).run P w = .ok all'.toArray w) (Dx:len+n<=cap):(Builtin.append_ #[t,u] ty #[.slice none len cap,v]).run P w = .ok (.slice none (len+n) cap) w:=by
 unfold Builtin.append_;simp [run_underlying hu,run_underlying Ia,sizeOf,typeInfo,AY,hn,Dx,hv]
theorem JY {y:Addr} {w':World} (hu:P.underlying t=some (.slice e)) (Ia:P.underlying u=some (.slice e')) (AY:P.info? e=some inf) (hn:Builtin.lenOf v=pure n) (hv:(Builtin.firstCells inf.size n v).run P w = .ok all'.toArray w) (Dx:len+n<=cap) (R6:(storeCells (y.add (len * inf.size)) all').run P w = .ok () w'):(Builtin.append_ #[t,u] ty #[.slice (some y) len cap,v]).run P w = .ok (.slice (some y) (len+n) cap) w':=by
 unfold Builtin.append_;simp [run_underlying hu,run_underlying Ia,sizeOf,typeInfo,AY,hn,Dx,hv,R6]
theorem run_append_grow {zv:Value} (hu:P.underlying t=some (.slice e)) (Ia:P.underlying u=some (.slice e')) (AY:P.info? e=some inf) (hn:Builtin.lenOf v=pure n) (hv:∀ w':World,w'.heap=w.heap->(Builtin.firstCells inf.size n v).run P w' = .ok all'.toArray w') (hs:∀ w':World,w'.heap=w.heap->(Builtin.firstCells inf.size len (.slice b len cap)).run P w' = .ok all.toArray w') (Pv:inf.zero=some zv) (Dx:¬ len+n<=cap) (B4h:len+n<=4294967296) (hb:inf.bytes<=2 ^ 14) :
 ∃ nc,len+n<=nc/\(Builtin.append_ #[t,u] ty #[.slice b len cap,v]).run P w = .ok (.slice (some ⟨w.heap.size,0,none⟩) (len+n) nc) (w.drew.alloc (.cells (all++all'++(Builtin.zeroCells zv.cells (nc-(len+n))).toList).toArray e)):=by
 refine ⟨(Question.appendCap (len+n) cap e).cut (w.tape w.drawn (Question.appendCap (len+n) cap e)),by simp only [Question.cut];omega, ?_⟩
 have zC:Builtin.nextslicecap (len+n) cap * inf.bytes<=2 ^ 48:=by
  have h1:=B2A (need:=len+n) (old:=cap) (by omega)
  calc Builtin.nextslicecap (len+n) cap * inf.bytes<=(2 * 4294967296+192) * 2 ^ 14:=Nat.mul_le_mul (by omega) hb
   _<=2 ^ 48:=by decide
 have C3V:¬ (((len+n:Nat):Int)>IntKind.i64.max):=by rw [IntKind.max_i64];omega
 have C1A:¬ (Builtin.nextslicecap (len+n) cap * inf.bytes>2 ^ 48):=by omega
 have q1:=hs w.drew rfl;have q2:=hv w.drew rfl;unfold Builtin.append_;have C1E:¬ ((9223372036854775807:Int)<(len:Int)+(n:Int)):=by omega
 simp [run_underlying hu,run_underlying Ia,sizeOf,typeInfo,AY,hn,Dx,C1E,C1A,Question.forced,q1,q2,zeroValue,Pv,newRow];refine congrArg (fun z=>w.drew.alloc (.cells z e)) (Array.toList_inj.1 ?_)
 simp
end
section
variable {X:Type} {C:X4} {R:O4} {o:Oper} {st:St} {k:St->Option X} {x:X} {E:Env} {a:Act} {w:World} {K:Act->World->Prop} {Q:Exit->Act->World->Prop}
theorem WH {b o':Nat} (H:∀ (j:Nat) u,all[j]?=some u->hc w.heap b (o'+j)=some u):(loadCells ⟨b,o',none⟩ all.length).run P w = .ok all.toArray w:=by
 refine run_loadCells_list w _ all fun j v hv => ?_
 rw [Addr.add_lit,Sl];exact H j v hv
theorem PI {v:Value} (H:RV S w.heap (.list sz ds) v):∃ b len cap all,v = .slice b len cap/\len=ds.length/\len<=cap/\(b=none->cap=0)/\Gl S w.heap sz ds all /\
 (∀ y,b=some y->(0<cap->y=⟨y.block,y.off,none⟩)/\∀ (j:Nat) u,all[j]?=some u->hc w.heap y.block (y.off+j)=some u/\S y.block (y.off+j))/\(b=none->all=[]) /\
 ∀ w':World,w'.heap=w.heap->(Builtin.firstCells sz len v).run P w' = .ok all.toArray w':=by
 obtain ⟨b,len,cap,rfl,h1,h2,h3,h4,h5⟩:=Mc H;cases b with
 | none =>
   have h0:=h3 rfl;have iC:ds=[]:=zhq (by omega)
   subst iC;exact ⟨none,len,cap,[],rfl,h1,h2,h3,⟨by simp,by simp⟩,by simp,fun _=>rfl,fun w' _=>rfl⟩
 | some y =>
   obtain ⟨s1,s2⟩:=h5 y rfl;obtain ⟨all,f1,f2⟩:=uO s2;have hy:0<cap->y=⟨y.block,y.off,none⟩:=fun hc=>by have s1:=s1 hc;cases y;simp only at s1;subst s1;rfl
   refine ⟨some y,len,cap,all,rfl,h1,h2,h3,f1,fun z hz => ?_,by simp,fun w' hw => ?_⟩
   ·simp only [Option.some.injEq] at hz
    subst hz;exact ⟨hy,f2⟩
   ·have hl:len * sz=all.length:=by rw [f1.1,h1]
    show (loadCells y (len * sz)).run P w'=_
    by_cases hc:0<cap
    ·rw [hl,hy hc]
     exact WH (fun j u hu=>by rw [hw];exact (f2 j u hu).1)
    ·have h0:len=0:=by omega
     have h9:all=[]:=zhq (by rw [<- hl,h0];simp)
     rw [h9,h0,zJq];rfl
def Env.WQ (E:Env) (b lo hi:Nat):Env:={ E with O:=fun b' o=>if b'=b/\lo<=o/\o<hi then .shut else E.O b' o }
def Env.newRow (E:Env) (b lo hi:Nat) (tg:Tag):Env:={ E with O:=fun b' o=>if b'=b then (if o<lo then .shut else if o<hi then tg else .other) else E.O b' o }
theorem B20 {fl:Flags} {c:Call} {y v:Operand} {t u:TypeId} (D9:o.op = .call c) (A8U:c.callee = .builtin .append) (ha:c.args.toList=[y,v]) (ht:c.argTypes.toList=[t,u]) (iD:J4 fl.opn o.dst=false) (Qk:J4 fl.FF o.dst=false) (H:FT C fl o y v t u st k=some x) (Rl:J6 E st a w.heap) (T:Then E w k x K):Gp C.P o a w K:=by
 unfold FT at H;rw [if_neg (by rw [Qk];simp)] at H
 obtain ⟨r,h1,H⟩:=A9 H;obtain ⟨s,h2,H⟩:=A9 H;obtain ⟨sz,Aa,H⟩:=A9 H;obtain ⟨hc,H⟩:=F4 H;rw [if_neg (by rw [iD];simp)] at H
 obtain ⟨d,hd,H⟩:=A9 H;simp only [zcq] at hc;obtain ⟨⟨Lg,Yd⟩,FE⟩:=hc;obtain ⟨t0,FE⟩:=zyq.1 FE;obtain ⟨e,e',z,inf,zv,hu,Ia,hz,E_,hpos,AY,dV,Pv,VO⟩:=Zb Aa;obtain ⟨ds,es,hr,hs,dW,rfl⟩:=B3J hd;have e1:=Rl.src h1;have e2:=(Rl.src h2).data Yd;have e1d:RV E.S w.heap r.1 (a.eval y):=e1.data (by revert Lg;cases r.2 <;> simp [Kg,J5])
 rw [hr] at e1d;rw [hs] at e2;obtain ⟨b,len,cap,all,ev,f1,f2,f3,f4,f5,f6,f7⟩:=PI (P:=C.P) e1d;obtain ⟨b',len',cap',all',ev',g1,g2,g3,g4,g5,g6,g7⟩:=PI (P:=C.P) e2;have Eg:inf.size=sz:=by
  obtain ⟨i',d',q1,-,q2,-⟩:=GV hz;rw [AY] at q1;simp only [Option.some.injEq] at q1;rw [<- E_,q2,q1]
 have O8:∀ v' w',(Builtin.append_ #[t,u] o.type #[a.eval y,a.eval v]).run C.P w = .ok v' w'->(execOp a.eval o).run C.P w = .ok (.value v') w':=by
  intro v' w' hv;refine Ea D9 A8U ?_;rw [Sg ht,show c.args.map a.eval = #[a.eval y,a.eval v] from by rw [Sg ha];simp]
  exact Ab hv
 rw [FE] at H;have Qi:Builtin.lenOf (a.eval v)=pure len':=by rw [ev'];rfl
 have B4h:ds.length+es.length<=4294967296:=dW;have ow:=g4.one hpos
 by_cases Dx:len+len'<=cap
 ·-- it fits: the slice's own memory is written
  have R0:=Rl.release (x:=y) (f:=Bw y 0 t0 0) fun T hT=>Fb hT
  have P0:Pr L8 E w.heap (E.re (Bw y 0 t0 0)) w.heap:=Pr.re fun T hT=>Fb fun t b _ he=>hT (by rw [he];simp [L8])
  have oo:Y0 E.S w.heap (E.re (Bw y 0 t0 0)).S w.heap:=KE (Fb (by simp))
  have hsp:∀ p,b=some p->len<cap->∃ cc TT f,w.heap[p.block]?=some (.cells cc TT f)/\p.off+cap * sz<=cc.size /\
   ∀ o',p.off+len * sz<=o'->o'<p.off+cap * sz->(E.re (Bw y 0 t0 0)).O p.block o' = .sp 0 t0 0/\¬(f.1<=o'/\o'<f.2):=by
   intro p hp M4;subst hp;have OI:r.2 = .own:=by
    revert Lg e1
    cases r.2 <;> intro Lg e1 <;> simp only [Kg,z9q] at Lg
    ·simp only [RR,J8] at e1
     obtain ⟨-,⟨q,n,hq⟩,-⟩:=e1;rw [ev] at hq;simp only [Value.slice.injEq] at hq;omega
    ·rfl
   rw [OI] at e1;simp only [RR,J8] at e1;obtain ⟨-,sz',ds',hl,hS⟩:=e1;rw [hr] at hl;simp only [DV.list.injEq] at hl;obtain ⟨cc,TT,f,c1,c2,c3⟩:=hS p len cap ev M4;rw [<- hl.1] at c2 c3;refine ⟨cc,TT,f,c1,c2,fun o' h3 h4 => ?_⟩
   obtain ⟨c4,c5⟩:=c3 o' h3 h4;refine ⟨?_,c5⟩;have hy:∃ i,y = .tmp i:=by
    cases y with
    | tmp i=>exact ⟨i,rfl⟩
    | const v=>exact absurd OI (XT h1).1
    | func f=>simp only [src,Option.some.injEq] at h1;subst h1;simp at OI
    | global g=>simp [src] at h1
   obtain ⟨i,rfl⟩:=hy;simp only [Env.re];rw [c4];simp [Bw,mi]
  by_cases hn:len'=0
  ·-- nothing is appended
   have hes:es=[]:=zhq (by omega)
   have C1x:all'=[]:=zhq (by rw [g4.1,hes];simp)
   have Aw:(Builtin.append_ #[t,u] o.type #[a.eval y,a.eval v]).run C.P w = .ok (.slice b (len+len') cap) w:=by
    rw [ev];cases b with
    | none=>exact A5c hu Ia AY Qi (by rw [Eg];exact g7 w rfl) Dx
    | some p=>exact JY hu Ia AY Qi (by rw [Eg];exact g7 w rfl) Dx (by rw [C1x];rfl)
   refine AR (O8 _ _ Aw) (T _ _ _ w H ?_ P0);rw [FE];refine R0.put fun t1 uT => ?_
   simp only [Option.some.injEq] at uT;subst uT;rw [hes,zIq,hn,zAq,<- ev];refine RR.Ad ⟨e1d.mono oo,_,_,rfl,fun p Cr cap1 hq M4 => ?_⟩
   rw [ev] at hq;simp only [Value.slice.injEq] at hq;obtain ⟨rfl,rfl,rfl⟩:=hq;exact hsp p rfl M4
  ·-- the cells behind are written, and sealed
   cases b with
   | none=>have:=f3 rfl;omega
   | some p =>
     obtain ⟨hp,-⟩:=f5 p rfl;have hp:=hp (by omega)
     obtain ⟨cc,TT,f,c1,c2,c3⟩:=hsp p rfl (by omega)
     have B7k:all'.length=len' * sz:=by rw [g4.1,g1]
     have hmul:(len+len') * sz<=cap * sz:=z7q _ Dx;have A4K:(len+len') * sz=len * sz+len' * sz:=zoq _ _ _;have C1H:0<len' * sz:=yiq (by omega) hpos
     obtain ⟨w',hw,S⟩:=IB (P:=C.P) (b:=p.block) (T:=TT) (f:=f) (p.off+len * sz) all' cc 0 w c1 (by omega) ow (fun o' h3 h4=>(c3 o' (by omega) (by omega)).2)
     have Aw:(Builtin.append_ #[t,u] o.type #[a.eval y,a.eval v]).run C.P w = .ok (.slice (some p) (len+len') cap) w':=by
      rw [ev];refine JY hu Ia AY Qi (by rw [Eg];exact g7 w rfl) Dx ?_
      rw [Eg,hp,Addr.add_lit];exact hw
     simp only [zAq] at S;have R1:J6 (E.re (Bw y 0 t0 0)) ((st.release y).put (some t0) .undef .val) (a.put (some t0) (.slice (some p) (len+len') cap)) w.heap:=R0.put fun t1 _=>by simp only [RR,J8,RV]
     have PS:Pr (fun T=>T = .sp 0 t0 0) (E.re (Bw y 0 t0 0)) w.heap ((E.re (Bw y 0 t0 0)).WQ p.block (p.off+len * sz) (p.off+len * sz+len' * sz)) w'.heap:=by
      refine ⟨zPq S.size.symm,fun b1 Jq => ?_,fun b1 o1 Jq hT => ?_,zfq _,fun _ _ _=>⟨rfl,rfl,rfl⟩,fun _ _=>rfl,DK rfl⟩
      ·by_cases ZK:b1=p.block
       ·subst ZK
        rw [c1];obtain ⟨c',q1,q2,q3⟩:=S.ex;refine ⟨c',q1,q2,fun j hj => ?_⟩
        rw [q3 j,if_neg];rintro ⟨q4,q5⟩;exact hj (c3 j q4 (by omega)).1
       ·rw [S.rest b1 ZK];exact U6.refl _ _
      ·simp only [Env.WQ]
       rw [if_neg];rintro ⟨rfl,q4,q5⟩;exact hT (c3 o1 q4 (by omega)).1
     have Ez:=PS.shut (by simp) R1.fresh
     have R2:J6 ((E.re (Bw y 0 t0 0)).WQ p.block (p.off+len * sz) (p.off+len * sz+len' * sz)) ((st.release y).put (some t0) .undef .val) (a.put (some t0) (.slice (some p) (len+len') cap)) w'.heap:=by
      refine ⟨R1.size,R1.AP,R1.Bi,R1.n,fun q vq hq => ?_,fun s' cs' Cz=>(R1.boxes s' cs' Cz).mono PS Ez (by simp) (by simp),fun i' ob hi=>(R1.Q0 i' ob hi).mono PS Ez (by rw [<- R1.n];exact (z0q.1 hi).1) (by simp) (by simp),fun b1 o1 Jq => ?_⟩
      ·have h0:=R1.regs q vq hq
       by_cases hqt:t0=q
       ·subst hqt
        have B52:t0<(st.release y).tm.length:=by
         have:=(zdq.1 hq).1;rw [P5] at this;rw [<- R0.size];exact this
        rw [OW B52 R0.AP];simp only [RR,J8,RV]
       ·exact h0.mono PS Ez (by simp;exact fun hh=>absurd hh.symm hqt) (by simp)
      ·have VK:w.heap.size<=b1:=by rw [<- S.size];exact Jq
       simp only [Env.WQ];rw [if_neg]
       ·exact R1.fresh b1 o1 VK
       ·rintro ⟨rfl,-⟩
        have:=(zdq.1 c1).1;omega
     have B91:RR ((E.re (Bw y 0 t0 0)).WQ p.block (p.off+len * sz) (p.off+len * sz+len' * sz)) w'.heap 0 t0 (.list sz (ds++es)) .own (.slice (some p) (len+len') cap):=by
      refine RR.Ad ⟨?_,_,_,rfl,fun p1 Cr cap1 hq M4 => ?_⟩
      ·have C3H:=oo
       refine LY (by simp;omega) Dx (by simp) (fun _=>hpos) fun p1 hp1 => ?_
       simp only [Option.some.injEq] at hp1;subst hp1;refine ⟨fun _=>by rw [hp],qp (((f4.mono oo).mono Ez).append ((g4.mono oo).mono Ez)) fun j q hq => ?_⟩
       by_cases hj:j<all.length
       ·rw [z5q hj] at hq
        obtain ⟨q1,q2⟩:=(f5 p rfl).2 j q hq;exact ⟨Ez.c _ _ _ (oo.s _ _ q2) q1,Ez.s _ _ (oo.s _ _ q2)⟩
       ·rw [z6q (by omega)] at hq
        have hal:all.length=len * sz:=by rw [f4.1,f1]
        have uQ:j-all.length<all'.length:=(z0q.1 hq).1;obtain ⟨c',q1,q2,q3⟩:=S.ex;constructor
        ·unfold hc
         rw [q1]
         show c'[p.off+j]?=some q
         rw [q3,if_pos (by omega),<- hq]
         congr 1
         omega
        ·simp only [Env.S,Env.WQ]
         rw [if_pos (by refine ⟨trivial, ?_, ?_⟩ <;> omega)]
      ·simp only [Value.slice.injEq,Option.some.injEq] at hq
       obtain ⟨rfl,rfl,rfl⟩:=hq;obtain ⟨c',q1,q2,q3⟩:=S.ex;refine ⟨c',TT,f,q1,by rw [q2];exact c2,fun o' h3 h4 => ?_⟩
       rw [A4K] at h3;obtain ⟨c4,c5⟩:=c3 o' (by omega) h4
       refine ⟨?_,c5⟩;simp only [Env.WQ];rw [if_neg (by omega)]
       exact c4
     refine AR (O8 _ _ Aw) (T _ _ _ w' H ?_ (P0.trans (PS.weaken (by rintro T rfl;simp [L8]))) S.out)
     rw [FE];have R3:=R2.put (dst:=some t0) (d := .list sz (ds++es)) (m := .own) (v := .slice (some p) (len+len') cap) fun t1 uT=>by
      simp only [Option.some.injEq] at uT;subst uT;exact B91
     rwa [B8t,A1q] at R3
 ·-- a new block
  obtain ⟨nc,hnc,Aw⟩:=run_append_grow (ty:=o.type) (b:=b) hu Ia AY Qi (by rw [Eg];exact g7) (by rw [Eg,<- ev];exact f7) Pv Dx (by omega) dV
  rw [<- ev] at Aw;have hal:all.length=len * sz:=by rw [f4.1,f1]
  have B9X:all'.length=len' * sz:=by rw [g4.1,g1]
  have Un:(Builtin.zeroCells zv.cells (nc-(len+len'))).toList.length=(nc-(len+len')) * sz:=by simp [Builtin.zeroCells,VO]
  have C0e:(len+len') * sz+(nc-(len+len')) * sz=nc * sz:=by rw [<- zoq];congr 1;omega
  have A4K:(len+len') * sz=len * sz+len' * sz:=zoq _ _ _;generalize hzc:(Builtin.zeroCells zv.cells (nc-(len+len'))).toList=zc at Aw Un;have P1:Pr (fun _=>False) E w.heap (E.newRow w.heap.size ((len+len') * sz) (nc * sz) (.sp 0 t0 0)) (w.heap.push (.cells (all++all'++zc).toArray e)):=by
   refine Pr.push (fun b1 o1 Jq _ => ?_) (zfq _) (fun _ _ _=>⟨rfl,rfl,rfl⟩) (fun _ _=>rfl) (DK rfl)
   simp only [Env.newRow];rw [if_neg (by omega)]
  have Ez:=P1.shut (by simp) Rl.fresh
  have R0:J6 E (st.release y) a w.heap:=Rl.release (x:=y) (f:=id) fun _ _=>rfl
  have R1:=R0.push P1 rfl fun b1 o1 Jq=>by
   simp only [y8q] at Jq;simp only [Env.newRow];rw [if_neg (by omega)]
   exact Rl.fresh b1 o1 (by omega)
  refine AR (O8 _ _ Aw) (T _ _ _ (w.drew.alloc (.cells (all++all'++zc).toArray e)) H ?_ (P1.weaken (by simp)))
  rw [FE];refine R1.put fun t1 uT => ?_
  simp only [Option.some.injEq] at uT;subst uT;have Fq:∀ (j:Nat),hc (w.heap.push (.cells (all++all'++zc).toArray e)) w.heap.size j=(all++all'++zc)[j]?:=fun j=>by rw [zB];simp
  refine RR.Ad ⟨?_,_,_,rfl,fun p1 Cr cap1 hq M4 => ?_⟩
  ·refine LY (by simp;omega) hnc (by simp) (fun _=>hpos) fun p1 hp1 => ?_
   simp only [Option.some.injEq] at hp1;subst hp1;refine ⟨fun _=>rfl,qp ((f4.mono Ez).append (g4.mono Ez)) fun j q hq => ?_⟩
   have hj:j<(all++all').length:=(z0q.1 hq).1;have Bg:j<(len+len') * sz:=by simp at hj;omega
   constructor
   ·show hc _ w.heap.size (0+j)=_
    rw [zeq,Fq,z5q hj];exact hq
   ·simp only [Env.S,Env.newRow,zeq,if_true]
    rw [if_pos Bg]
  ·simp only [Value.slice.injEq,Option.some.injEq] at hq
   obtain ⟨rfl,rfl,rfl⟩:=hq;refine ⟨_,e,(0,0),Lr,by simp;omega,fun o' h3 h4=>⟨?_,by simp⟩⟩
   simp only [zeq] at h3 h4;simp only [Env.newRow,if_true];rw [if_neg (by omega),if_pos h4]
end
end Go.Su

/-
 THE DATA MACHINE: slices whose last elements are open.
-/
namespace Go.Su
theorem A4d {sz:Nat} {d e:DV} {p:List DV × List DV} (h:Jz sz d e=some p):∃ ds es,d = .list sz ds/\e = .list sz es/\ds.length+es.length<=lim/\0<es.length/\p=(ds,es):=by
 unfold Jz at h
 split at h
 ·obtain ⟨⟨⟨h1,h2⟩,h3,h4⟩,h9⟩:=L6 h
  simp only [Option.some.injEq] at h9;subst h1 h2;exact ⟨_,_,rfl,rfl,h3,h4,h9.symm⟩
 ·simp at h
variable (E:Env)
def Env.C0y (b off lo hi:Nat):Env :=
 { E with obj:=fun i=>if i=E.n then b else E.obj i,base:=fun i=>if i=E.n then off else E.base i,top:=fun i=>if i=E.n then hi else E.top i,n:=E.n+1,Al:=fun i=>if i=E.n then 0 else E.Al i,
          O:=fun b' o=>if b'=b/\lo<=o/\o<hi then .obj E.n else E.O b' o }
def Env.C0x (b lo hi:Nat):Env :=
 { E with obj:=fun i=>if i=E.n then b else E.obj i,base:=fun i=>if i=E.n then 0 else E.base i,top:=fun i=>if i=E.n then hi else E.top i,n:=E.n+1,Al:=fun i=>if i=E.n then 0 else E.Al i,
          O:=fun b' o=>if b'=b then (if o<lo then .shut else if o<hi then .obj E.n else .other) else E.O b' o }
section
variable {X:Type} {C:X4} {R:O4} {o:Oper} {st:St} {k:St->Option X} {x:X} {E:Env} {a:Act} {w:World} {K:Act->World->Prop} {Q:Exit->Act->World->Prop} {h:Heap}
theorem B4B {E:Env} {i b off cap sz:Nat} {ds es:List DV} {all':List Value} {c:Array Value} {T:TypeId} {f:Nat × Nat} (ho:E.obj i=b) (hb:E.base i=off) (ht:E.top i=off+cap * sz) (hpos:0<sz) (hc:h[b]?=some (.cells c T f)) (Dx:ds.length+es.length<=cap) (Fe:off+cap * sz<=c.size) (tags:∀ o,off+ds.length * sz<=o->o<off+cap * sz->E.O b o = .obj i/\¬(f.1<=o/\o<f.2)) (pre:∀ (j:Nat) d,ds[j]?=some d->Elem E.S h sz b (off+j * sz) d) (G:Gl E.S h sz es all') (cells:∀ (j:Nat) u,all'[j]?=some u->c[off+ds.length * sz+j]?=some u):RO E h i (.opn sz ds es):=by
 simp only [RO];rw [ho,hb,ht];refine ⟨c,T,f,hc, ?_,Fe,hpos,tags,pre,fun j d hd => ?_⟩
 ·have:=z7q sz Dx
  omega
 ·obtain ⟨vs,v1,v2,v3⟩:=G.2 j d hd
  refine ⟨vs,v1,fun y u hu => ?_,v3⟩
  have:=cells _ u (v2 y u hu);rw [zoq]
  rwa [show off+(ds.length * sz+j * sz)+y=off+ds.length * sz+(j * sz+y) by omega]
variable {fl:Flags}
theorem A5Y {c:Call} {y v:Operand} {t u:TypeId} (D9:o.op = .call c) (A8U:c.callee = .builtin .append) (ha:c.args.toList=[y,v]) (ht:c.argTypes.toList=[t,u]) (iD:J4 fl.opn o.dst=true) (Qk:J4 fl.FF o.dst=false) (H:FT C fl o y v t u st k=some x) (Rl:J6 E st a w.heap) (T:Then E w k x K):Gp C.P o a w K:=by
 unfold FT at H;rw [if_neg (by rw [Qk];simp)] at H
 obtain ⟨r,h1,H⟩:=A9 H;obtain ⟨s,h2,H⟩:=A9 H;obtain ⟨sz,Aa,H⟩:=A9 H;obtain ⟨hc,H⟩:=F4 H;rw [if_pos iD] at H;obtain ⟨d2,hd,H⟩:=A9 H;simp only [zcq] at hc;obtain ⟨⟨Lg,Yd⟩,FE⟩:=hc;obtain ⟨t0,FE⟩:=zyq.1 FE;obtain ⟨e,e',z,inf,zv,hu,Ia,hz,E_,hpos,AY,dV,Pv,VO⟩:=Zb Aa;obtain ⟨ds,es,hr,hs,dW,hne,rfl⟩:=A4d hd;simp only at H;have e1:=Rl.src h1;have e2:=(Rl.src h2).data Yd;have e1d:RV E.S w.heap r.1 (a.eval y):=e1.data (by revert Lg;cases r.2 <;> simp [Kg,J5])
 rw [hr] at e1d;rw [hs] at e2;obtain ⟨b,len,cap,all,ev,f1,f2,f3,f4,f5,f6,f7⟩:=PI (P:=C.P) e1d;obtain ⟨b',len',cap',all',ev',g1,g2,g3,g4,g5,g6,g7⟩:=PI (P:=C.P) e2;have Eg:inf.size=sz:=by
  obtain ⟨i',d',q1,-,q2,-⟩:=GV hz;rw [AY] at q1;simp only [Option.some.injEq] at q1;rw [<- E_,q2,q1]
 have O8:∀ v' w',(Builtin.append_ #[t,u] o.type #[a.eval y,a.eval v]).run C.P w = .ok v' w'->(execOp a.eval o).run C.P w = .ok (.value v') w':=by
  intro v' w' hv;refine Ea D9 A8U ?_;rw [Sg ht,show c.args.map a.eval = #[a.eval y,a.eval v] from by rw [Sg ha];simp]
  exact Ab hv
 rw [FE] at H;have Qi:Builtin.lenOf (a.eval v)=pure len':=by rw [ev'];rfl
 have B4h:ds.length+es.length<=4294967296:=dW;have ow:=g4.one hpos;have hn:=Rl.n
 by_cases Dx:len+len'<=cap
 ·-- it fits: the slice's own memory is written
  have R0:=Rl.release (x:=y) (f:=Bw y 0 t0 0) fun T hT=>Fb hT
  have P0:Pr L8 E w.heap (E.re (Bw y 0 t0 0)) w.heap:=Pr.re fun T hT=>Fb fun t b _ he=>hT (by rw [he];simp [L8])
  have oo:Y0 E.S w.heap (E.re (Bw y 0 t0 0)).S w.heap:=KE (Fb (by simp))
  have hsp:∀ p,b=some p->len<cap->∃ cc TT f,w.heap[p.block]?=some (.cells cc TT f)/\p.off+cap * sz<=cc.size /\
   ∀ o',p.off+len * sz<=o'->o'<p.off+cap * sz->(E.re (Bw y 0 t0 0)).O p.block o' = .sp 0 t0 0/\¬(f.1<=o'/\o'<f.2):=by
   intro p hp M4;subst hp;have OI:r.2 = .own:=by
    revert Lg e1
    cases r.2 <;> intro Lg e1 <;> simp only [Kg,z9q] at Lg
    ·simp only [RR,J8] at e1
     obtain ⟨-,⟨q,n,hq⟩,-⟩:=e1;rw [ev] at hq;simp only [Value.slice.injEq] at hq;omega
    ·rfl
   rw [OI] at e1;simp only [RR,J8] at e1;obtain ⟨-,sz',ds',hl,hS⟩:=e1;rw [hr] at hl;simp only [DV.list.injEq] at hl;obtain ⟨cc,TT,f,c1,c2,c3⟩:=hS p len cap ev M4;rw [<- hl.1] at c2 c3;refine ⟨cc,TT,f,c1,c2,fun o' h3 h4 => ?_⟩
   obtain ⟨c4,c5⟩:=c3 o' h3 h4;refine ⟨?_,c5⟩;have hy:∃ i,y = .tmp i:=by
    cases y with
    | tmp i=>exact ⟨i,rfl⟩
    | const v=>exact absurd OI (XT h1).1
    | func f=>simp only [src,Option.some.injEq] at h1;subst h1;simp at OI
    | global g=>simp [src] at h1
   obtain ⟨i,rfl⟩:=hy;simp only [Env.re];rw [c4];simp [Bw,mi]
  have hln:0<len':=by omega
  cases b with
  | none=>have:=f3 rfl;omega
  | some p =>
    obtain ⟨hp,f5'⟩:=f5 p rfl;have hp:=hp (by omega)
    obtain ⟨cc,TT,f,c1,c2,c3⟩:=hsp p rfl (by omega)
    have B7k:all'.length=len' * sz:=by rw [g4.1,g1]
    have hmul:(len+len') * sz<=cap * sz:=z7q _ Dx;have A4K:(len+len') * sz=len * sz+len' * sz:=zoq _ _ _;have C1H:0<len' * sz:=yiq hln hpos;obtain ⟨w',hw,S⟩:=IB (P:=C.P) (b:=p.block) (T:=TT) (f:=f) (p.off+len * sz) all' cc 0 w c1 (by omega) ow (fun o' h3 h4=>(c3 o' (by omega) (by omega)).2)
    have Aw:(Builtin.append_ #[t,u] o.type #[a.eval y,a.eval v]).run C.P w = .ok (.slice (some p) (len+len') cap) w':=by
     rw [ev];refine JY hu Ia AY Qi (by rw [Eg];exact g7 w rfl) Dx ?_
     rw [Eg,hp,Addr.add_lit];exact hw
    simp only [zAq] at S;have R1:J6 (E.re (Bw y 0 t0 0)) ((st.release y).put (some t0) .undef .val) (a.put (some t0) (.slice (some p) (len+len') cap)) w.heap:=R0.put fun t1 _=>by simp only [RR,J8,RV]
    let E2:=(E.re (Bw y 0 t0 0)).C0y p.block p.off (p.off+len * sz) (p.off+cap * sz)
    have A8T:E2.n=E.n+1:=rfl;have PS:Pr (fun T=>T = .sp 0 t0 0) (E.re (Bw y 0 t0 0)) w.heap E2 w'.heap:=by
     refine ⟨zPq S.size.symm,fun b1 Jq => ?_,fun b1 o1 Jq hT => ?_,yjq _,fun i hi _ => ?_,fun _ _=>rfl,aK rfl⟩
     ·by_cases ZK:b1=p.block
      ·subst ZK
       rw [c1];obtain ⟨c',q1,q2,q3⟩:=S.ex;refine ⟨c',q1,q2,fun j hj => ?_⟩
       rw [q3 j,if_neg];rintro ⟨q4,q5⟩;exact hj (c3 j q4 (by omega)).1
      ·rw [S.rest b1 ZK];exact U6.refl _ _
     ·show (if _ then _ else _)=_
      rw [if_neg];rintro ⟨rfl,q4,q5⟩;exact hT (c3 o1 q4 q5).1
     ·have hi':i≠(E.re (Bw y 0 t0 0)).n:=Nat.ne_of_lt hi
      refine ⟨?_, ?_, ?_⟩ <;> (show (if _ then _ else _)=_;rw [if_neg hi'])
    have Ez:=PS.shut (by simp) R1.fresh
    have oE:E2.obj E.n=p.block:=if_pos rfl;have bE:E2.base E.n=p.off:=if_pos rfl;have tE:E2.top E.n=p.off+cap * sz:=if_pos rfl;have R2:J6 E2 { (st.release y).put (some t0) .undef .val with sg:=st.sg++[D8.opn sz ds es] } (a.put (some t0) (.slice (some p) (len+len') cap)) w'.heap:=by
     have sgR:(st.release y).sg=st.sg:=by cases y <;> rfl
     refine ⟨R1.size,R1.AP,R1.Bi,by simp [A8T,hn],fun q vq hq => ?_,fun s' cs' Cz=>(R1.boxes s' cs' Cz).mono PS Ez (by simp) (by simp),fun i' ob hi => ?_,fun b1 o1 Jq => ?_⟩
     ·have h0:=R1.regs q vq hq
      by_cases hqt:t0=q
      ·subst hqt
       have B52:t0<(st.release y).tm.length:=by
        have:=(zdq.1 hq).1;rw [P5] at this;rw [<- R0.size];exact this
       have hg:(St.get { (st.release y).put (some t0) .undef .val with sg:=st.sg++[D8.opn sz ds es] } t0)=(.undef, .val):=OW B52 R0.AP
       rw [hg];simp only [RR,J8,RV]
      ·exact h0.mono PS Ez (by simp;exact fun hh=>absurd hh.symm hqt) (by simp)
     ·by_cases M4:i'<st.sg.length
      ·have hi:((st.release y).put (some t0) .undef .val).sg[i']?=some ob:=by
        have hi:(st.sg++[D8.opn sz ds es])[i']?=some ob:=hi;rw [z5q M4] at hi;rw [eX,sgR];exact hi
       exact (R1.Q0 i' ob hi).mono PS Ez (by rw [<- R1.n];exact (z0q.1 hi).1) (by simp) (by simp)
      ·have hi:(st.sg++[D8.opn sz ds es])[i']?=some ob:=hi
       have Kc:i'=st.sg.length:=by
        have:=(z0q.1 hi).1;simp at this;omega
       subst Kc;simp only [z6q (zfq _),ydq,zgq,Option.some.injEq] at hi;subst hi;rw [hn];obtain ⟨c',q1,q2,q3⟩:=S.ex;have hf1:=f1;have hg1:=g1;subst hf1;refine B4B (cap:=cap) (all':=all') oE bE tE hpos q1 (by omega) (by rw [q2];exact c2) (fun o' h3 h4=>⟨?_,(c3 o' h3 h4).2⟩) (fun j d hd => ?_) ((g4.mono oo).mono Ez) fun j u hu => ?_
       ·show (if _ then _ else _)=_
        rw [if_pos ⟨rfl,h3,h4⟩];rfl
       ·obtain ⟨b0,len0,cap0,iF,-,-,-,hel⟩:=Mc e1d
        rw [ev] at iF;simp only [Value.slice.injEq] at iF;obtain ⟨rfl,-,-⟩:=iF;exact ((Dp.1 (hel.2 p rfl).2 j d hd).mono oo).mono Ez
       ·have uQ:j<all'.length:=(z0q.1 hu).1
        rw [q3,if_pos (by omega),<- hu]
        congr 1
        omega
     ·have VK:w.heap.size<=b1:=by rw [<- S.size];exact Jq
      show (if _ then _ else _)=_
      rw [if_neg]
      ·exact R1.fresh b1 o1 VK
      ·rintro ⟨rfl,-⟩
       have:=(zdq.1 c1).1;omega
    refine AR (O8 _ _ Aw) (T _ _ _ w' H ?_ (P0.trans (PS.weaken (by rintro T rfl;simp [L8]))) S.out)
    rw [FE];have R3:=R2.put (dst:=some t0) (d := .undef) (m := .arr st.sg.length sz 0 (ds.length+es.length)) (v := .slice (some p) (len+len') cap) fun t1 uT=>by
     refine RR.Ad ⟨⟨by rw [A8T,hn];omega,by rw [hn];exact if_pos rfl⟩,some p,cap,by rw [f1,g1],fun _ => ?_,by omega,by simp,fun q hq => ?_,fun _ => ?_⟩
     ·rw [hn,oE,bE,zJq,zAq,<- hp]
     ·simp only [Option.some.injEq] at hq;rw [<- hq,hp]
     ·rw [hn,bE,tE,zeq];exact zfq _
    rw [A1q] at R3;have e3:St.put { (st.release y).put (some t0) .undef .val with sg:=st.sg++[D8.opn sz ds es] } (some t0) .undef (.arr st.sg.length sz 0 (ds.length+es.length))=St.put { st.release y with sg:=st.sg++[D8.opn sz ds es] } (some t0) .undef (.arr st.sg.length sz 0 (ds.length+es.length)):=by
     simp [St.put,yhq]
    rwa [e3] at R3
 ·-- a new block
  obtain ⟨nc,hnc,Aw⟩:=run_append_grow (ty:=o.type) (b:=b) hu Ia AY Qi (by rw [Eg];exact g7) (by rw [Eg,<- ev];exact f7) Pv Dx (by omega) dV
  rw [<- ev] at Aw;have hal:all.length=len * sz:=by rw [f4.1,f1]
  have B9X:all'.length=len' * sz:=by rw [g4.1,g1]
  have Un:(Builtin.zeroCells zv.cells (nc-(len+len'))).toList.length=(nc-(len+len')) * sz:=by simp [Builtin.zeroCells,VO]
  have C0e:(len+len') * sz+(nc-(len+len')) * sz=nc * sz:=by rw [<- zoq];congr 1;omega
  have A4K:(len+len') * sz=len * sz+len' * sz:=zoq _ _ _;generalize hzc:(Builtin.zeroCells zv.cells (nc-(len+len'))).toList=zc at Aw Un
  let E2:=E.C0x w.heap.size (len * sz) (nc * sz)
  have A8T:E2.n=E.n+1:=rfl;have oE:E2.obj E.n=w.heap.size:=if_pos rfl;have bE:E2.base E.n=0:=if_pos rfl;have tE:E2.top E.n=nc * sz:=if_pos rfl;have P1:Pr (fun _=>False) E w.heap E2 (w.heap.push (.cells (all++all'++zc).toArray e)):=by
   refine Pr.push (fun b1 o1 Jq _ => ?_) (yjq _) (fun i hi _ => ?_) (fun _ _=>rfl) (aK rfl)
   ·show (if _ then _ else _)=_
    rw [if_neg (by omega)]
   ·have hi':i≠E.n:=Nat.ne_of_lt hi
    refine ⟨?_, ?_, ?_⟩ <;> (show (if _ then _ else _)=_;rw [if_neg hi'])
  have Ez:=P1.shut (by simp) Rl.fresh
  have R0:J6 E (st.release y) a w.heap:=Rl.release (x:=y) (f:=id) fun _ _=>rfl
  have sgR:(st.release y).sg=st.sg:=by cases y <;> rfl
  have Fq:∀ (j:Nat),hc (w.heap.push (.cells (all++all'++zc).toArray e)) w.heap.size j=(all++all'++zc)[j]?:=fun j=>by rw [zB];simp
  have R2:J6 E2 { st.release y with sg:=st.sg++[D8.opn sz ds es] } a (w.heap.push (.cells (all++all'++zc).toArray e)):=by
   refine ⟨R0.size,R0.AP,R0.Bi,by simp [A8T,hn],fun q vq hq=>(R0.regs q vq hq).mono P1 Ez (by simp) (by simp),fun s' cs' Cz=>(R0.boxes s' cs' Cz).mono P1 Ez (by simp) (by simp),fun i' ob hi => ?_,fun b1 o1 Jq => ?_⟩
   ·by_cases M4:i'<st.sg.length
    ·have hi:(st.release y).sg[i']?=some ob:=by
      have hi:(st.sg++[D8.opn sz ds es])[i']?=some ob:=hi;rw [z5q M4] at hi;rw [sgR];exact hi
     exact (R0.Q0 i' ob hi).mono P1 Ez (by rw [<- R0.n];exact (z0q.1 hi).1) (by simp) (by simp)
    ·have hi:(st.sg++[D8.opn sz ds es])[i']?=some ob:=hi
     have Kc:i'=st.sg.length:=by
      have:=(z0q.1 hi).1;simp at this;omega
     subst Kc;simp only [z6q (zfq _),ydq,zgq,Option.some.injEq] at hi;subst hi;rw [hn];have hf1:=f1;subst hf1;refine B4B (cap:=nc) (all':=all') oE bE (by rw [tE,zeq]) hpos Lr (by omega) (by simp;omega) (fun o' h3 h4=>⟨?_,by simp⟩) (fun j d hd => ?_) (g4.mono Ez) fun j u hu => ?_
     ·show (if _ then _ else _)=_
      rw [if_pos rfl,if_neg (by omega),if_pos (by omega)]
     ·obtain ⟨vs,v1,v2,v3⟩:=f4.2 j d hd
      refine ⟨vs,v1,fun y' u hu => ?_,v3.mono Ez⟩
      have hy':y'<sz:=by have:=(z0q.1 hu).1;omega
      have h5:=v2 y' u hu;have h6:j * sz+y'<all.length:=(z0q.1 h5).1;refine ⟨?_, ?_⟩
      ·rw [zeq,Fq,zKq,z5q h6]
       exact h5
      ·show (if _ then _ else _)=_
       rw [if_pos rfl,zeq,if_pos (by omega)]
     ·have uQ:j<all'.length:=(z0q.1 hu).1
      rw [zeq,zLq,zKq,z6q (by omega),z5q (by omega),<- hu]
      congr 1
      omega
   ·simp only [y8q] at Jq
    show (if _ then _ else _)=_
    rw [if_neg (by omega)]
    exact Rl.fresh b1 o1 (by omega)
  refine AR (O8 _ _ Aw) (T _ _ _ (w.drew.alloc (.cells (all++all'++zc).toArray e)) H ?_ (P1.weaken (by simp)))
  rw [FE];refine R2.put fun t1 uT => ?_
  refine RR.Ad ⟨⟨by rw [A8T,hn];omega,by rw [hn];exact if_pos rfl⟩,some ⟨w.heap.size,0,none⟩,nc,by rw [f1,g1],fun _ => ?_,by omega,by simp,fun q hq => ?_,fun _ => ?_⟩
  ·rw [hn,oE,bE,zJq,zAq]
  ·simp only [Option.some.injEq] at hq;rw [<- hq]
  ·rw [hn,bE,tE,zeq,zeq];exact zfq _
def Env.nD (E:Env) (i lo:Nat) (tg:Tag):Env:={ E with O:=fun b o=>if E.O b o = .obj i then (if o<lo then .shut else tg) else E.O b o }
theorem pY (E:Env) (h:Heap) (i lo:Nat) (tg:Tag):Pr (fun T=>T = .obj i) E h (E.nD i lo tg) h:=by
 refine ⟨zfq _,fun _ _=>U6.refl _ _,fun b o _ hT => ?_,zfq _,fun _ _ _=>⟨rfl,rfl,rfl⟩,fun _ _=>rfl,DK rfl⟩
 show (if _ then _ else _)=_
 rw [if_neg hT]
theorem zk {i sz:Nat} {pre ds:List DV} {tg:Tag} {v:Value} (hf:∀ b o,h.size<=b->E.O b o = .other) (H:RO E h i (.opn sz pre ds)) (G:J8 E h tg .undef (.arr i sz 0 (pre.length+ds.length)) v) (hne:0<pre.length+ds.length) (tg':Tag) :
 J8 (E.nD i (E.base i+(pre.length+ds.length) * sz) tg') h tg' (.list sz (pre++ds)) .own v:=by
 have P:=pY E h i (E.base i+(pre.length+ds.length) * sz) tg';have J3:=P.shut (by simp) hf
 simp only [RO] at H;obtain ⟨c,T,f,h1,h2,Pq,hz,h3,h4,h5⟩:=H;simp only [J8] at G;obtain ⟨g1,b,cap,rfl,g2,g3,g4,g5,g6⟩:=G;have g2:=g2 hne;have g6:=g6 hne;subst g2;simp only [zJq,zAq,zeq] at g6 ⊢;have q0:(pre.length+ds.length) * sz<=cap * sz:=z7q _ g3;refine ⟨?_,sz,pre++ds,rfl,fun p Cr cap1 hq M4 => ?_⟩
 ·refine LY (by simp) g3 (by simp) (fun _=>hz) fun p hp => ?_
  simp only [Option.some.injEq] at hp;subst hp;refine ⟨fun _=>rfl,Dp.2 fun j d hd => ?_⟩
  by_cases hj:j<pre.length
  ·rw [z5q hj] at hd
   exact (h4 j d hd).mono J3
  ·rw [z6q (by omega)] at hd
   have hjd:j-pre.length<ds.length:=(z0q.1 hd).1;obtain ⟨vs,v1,v2,v3⟩:=h5 _ d hd;have ej:pre.length+(j-pre.length)=j:=by omega
   rw [ej] at v2;refine ⟨vs,v1,fun y u hu => ?_,v3.mono J3⟩
   have hy:y<sz:=by have:=(z0q.1 hu).1;omega
   have q1:pre.length * sz<=j * sz:=z7q _ (by omega)
   have q2:j * sz+y<(pre.length+ds.length) * sz:=by
    calc j * sz+y<j * sz+sz:=by omega
     _=(j+1) * sz:=by rw [zxq]
     _<=(pre.length+ds.length) * sz:=z7q _ (by omega)
   refine ⟨?_, ?_⟩
   ·unfold hc
    rw [h1];exact v2 y u hu
   ·have e0:(E.nD i (E.base i+(pre.length+ds.length) * sz) tg').O (E.obj i) (E.base i+j * sz+y) = .shut:=by
     show (if _ then _ else _)=_
     rw [if_pos (h3 (E.base i+j * sz+y) (by omega) (by omega)).1,if_pos (by omega)]
    exact e0
 ·simp only [Value.slice.injEq,Option.some.injEq] at hq
  obtain ⟨rfl,rfl,rfl⟩:=hq;refine ⟨c,T,f,h1,by simp only;omega,fun o' h6 h7 => ?_⟩
  simp only at h6 h7;have q1:pre.length * sz<=(pre.length+ds.length) * sz:=z7q _ (by omega)
  obtain ⟨q2,q3⟩:=h3 o' (by omega) (by omega)
  refine ⟨?_,q3⟩
  show (if _ then _ else _)=_
  rw [if_pos q2,if_neg (by omega)]
theorem qm {q:Nat × List DV × List DV} {sz len:Nat} {d:DV} (h:FQ q sz len=some d):q.1=sz/\q.2.1.length+q.2.2.length=len/\0<len/\d = .list sz (q.2.1++q.2.2):=by
 unfold FQ at h;obtain ⟨⟨h1,h2,h3⟩,h⟩:=L6 h;simp only [Option.some.injEq] at h;exact ⟨h1,h2,h3,h.symm⟩
theorem B1V {r:Nat} (H:aD r st k=some x) (Rl:J6 E st a h):∃ E' st',k st'=some x/\J6 E' st' a h/\Pr L8 E h E' h:=by
 unfold aD at H
 split at H
 ·rename_i i sz len hm
  obtain ⟨q,hq,H1⟩:=A9 H;obtain ⟨d,hd,H9⟩:=A9 H1;clear H H1;obtain ⟨sz',pre,ds⟩:=q;obtain ⟨c1,c2,c3,rfl⟩:=qm hd;simp only at c1 c2;subst c1 c2;have hq:=pX hq;have B:=Rl.Q0 i _ hq;have hi:i<E.n:=by rw [<- Rl.n];exact (z0q.1 hq).1
  have IZ:=(z0q.1 hq).1
  let E':=E.nD i (E.base i+(pre.length+ds.length) * sz') (.sp 0 r 0)
  have P:Pr (fun T=>T = .obj i) E h E' h:=pY E h i _ _
  have J3:=P.shut (by simp) Rl.fresh
  refine ⟨E',_,H9, ?_,P.weaken (by rintro T rfl;simp [L8])⟩
  refine ⟨by rw [Uy];exact Rl.size,by rw [Uy,A9o];exact Rl.AP,by rw [Uy,mq];exact Rl.Bi, ?_,fun t v hv => ?_,fun s cs hs => ?_,fun j ob hj => ?_,fun b o hb => ?_⟩
  ·rw [eX,zCq];exact Rl.n
  ·have h0:=Rl.regs t v hv
   by_cases ht:r=t
   ·subst ht
    have M4:r<st.tm.length:=by
     have:=(zdq.1 hv).1;rw [<- Rl.size];exact this
    rw [OW (st:={ st with sg:=st.sg.set i (.arr 1 []) }) M4 Rl.AP]
    rw [hm] at h0;simp only [RR] at h0;exact RR.Ad (zk (tg := .sp 0 r 0) Rl.fresh B (by simpa only [J8] using h0) c3 _)
   ·rw [Yk ht]
    exact h0.mono P J3 (by simp) (by simp)
  ·rw [mq] at hs
   exact (Rl.boxes s cs hs).mono P J3 (by simp) (by simp)
  ·rw [eX] at hj
   by_cases MN:i=j
   ·subst MN
    rw [z2q IZ] at hj;simp only [Option.some.injEq] at hj;subst hj;exact fun hne=>absurd rfl hne
   ·rw [z1q MN] at hj
    exact (Rl.Q0 j ob hj).mono P J3 (by rw [<- Rl.n];exact (z0q.1 hj).1) (by simp;exact fun h=>MN h.symm) (by simp)
  ·show (if _ then _ else _)=_
   rw [Rl.fresh b o hb,if_neg (by simp)]
 ·rename_i b off hm
  obtain ⟨cs,Fe,H1⟩:=A9 H;obtain ⟨q0,hca,H2⟩:=A9 H1;obtain ⟨q,hq,H3⟩:=A9 H2;obtain ⟨d,hd,H9⟩:=A9 H3;clear H H1 H2 H3;obtain ⟨i,sz,len⟩:=q0;obtain ⟨sz',pre,ds⟩:=q;obtain ⟨c1,c2,c3,rfl⟩:=qm hd;simp only at c1 c2 H9 hq;subst c1 c2;have hq:=pX hq;have Fe:=pW Fe;have B:=Rl.Q0 i _ hq;have BX:=Rl.Q0 b _ Fe;have IZ:=(z0q.1 hq).1;have B5Z:=(z0q.1 Fe).1;have hib:i≠b:=by rintro rfl;rw [hq] at Fe;cases Fe
  obtain ⟨d0,dX⟩:∃ d0,cs[off]?=some (d0, .arr i sz' 0 (pre.length+ds.length)):=by
   unfold Sj at hca
   split at hca
   ·rename_i d0 i0 sz0 len0 heq
    simp only [Option.some.injEq,Prod.mk.injEq] at hca;obtain ⟨rfl,rfl,rfl⟩:=hca;exact ⟨d0,heq⟩
   ·cases hca
  let E':=E.nD i (E.base i+(pre.length+ds.length) * sz') (.sp 2 b off)
  have P:Pr (fun T=>T = .obj i) E h E' h:=pY E h i _ _
  have J3:=P.shut (by simp) Rl.fresh
  refine ⟨E',_,H9, ?_,P.weaken (by rintro T rfl;simp [L8])⟩
  refine ⟨Rl.size,Rl.AP,Rl.Bi, ?_,fun t v hv=>(Rl.regs t v hv).mono P J3 (by simp) (by simp),fun s cs' hs=>(Rl.boxes s cs' hs).mono P J3 (by simp) (by simp),fun j ob hj => ?_,fun b' o hb => ?_⟩
  ·simp only [zCq];exact Rl.n
  ·by_cases MN:i=j
   ·subst MN
    rw [z2q (by simpa using IZ)] at hj
    simp only [Option.some.injEq] at hj;subst hj;exact fun hne=>absurd rfl hne
   ·rw [z1q MN] at hj
    by_cases hbj:b=j
    ·subst hbj
     rw [z2q B5Z] at hj;simp only [Option.some.injEq] at hj;subst hj;simp only [RO] at BX ⊢;have B99:=(z0q.1 dX).1;obtain ⟨c,T,e1,e2,e3,e4⟩:=BX.mono P J3 (by simp;exact fun h=>hib h.symm) (by simp)
     refine ⟨c,T,e1,by simpa using e2,e3,fun y r' v hr hv => ?_⟩
     by_cases hy:off=y
     ·subst hy
      rw [z2q B99] at hr;simp only [Option.some.injEq] at hr;subst hr;obtain ⟨c0,T0,f1,f2,f3,f4⟩:=BX;have NU:c0=c:=by
       have wU:h[E.obj b]?=some (.cells c T (0,0)):=e1;rw [f1] at wU;simp only [Option.some.injEq,Obj.cells.injEq] at wU;exact wU.1
      subst NU;obtain ⟨g1,g2,g3,g4⟩:=f4 off _ v dX hv;exact ⟨rfl,g2,rfl,zk (tg := .sp 2 b off) Rl.fresh B (by simpa only [J8] using g4) c3 _⟩
     ·rw [z1q hy] at hr
      exact e4 y r' v hr hv
    ·rw [z1q hbj] at hj
     exact (Rl.Q0 j ob hj).mono P J3 (by rw [<- Rl.n];exact (z0q.1 hj).1) (by simp;exact fun h=>MN h.symm) (by simp)
  ·show (if _ then _ else _)=_
   rw [Rl.fresh b' o hb,if_neg (by simp)]
 ·cases H
theorem A4b {id:Nat} (H:GQ fl id st k=some x) (Rl:J6 E st a h):∃ E' st',k st'=some x/\J6 E' st' a h/\Pr L8 E h E' h:=by
 unfold GQ at H
 split at H
 ·exact B1V H Rl
 ·exact ⟨E,st,H,Rl,Pr.refl _ _ _⟩
end
end Go.Su

/-
 THE DATA MACHINE, part 17: calls.
-/
namespace Go.Su
structure Ext (S:X6) (h:Heap) (S':X6) (h':Heap):Prop where
 size:h.size<=h'.size
 blk:∀ b,b<h.size->h'[b]?=h[b]?
 s:∀ b o,b<h.size->(S' b o ↔ S b o)
 fresh:∀ b o,h'.size<=b->¬ S' b o
variable (P:Program) (f:FuncId) (ds:List DV)
def B3m (d:DV):Prop :=
 ∀ (S:X6) (w:World) (vs:List Value),(∀ b o,w.heap.size<=b->¬ S b o)->Pj S w.heap ds vs ->
   Calls P f vs.toArray w fun e w'=>∃ v S',e = .returned v/\Ext S w.heap S' w'.heap/\RV S' w'.heap d v/\Q3 w w'
def B1L (E:Env) (h:Heap) (i:Nat) (k:MK) (d:DV) (v:Value):Prop :=
 match k with
 | .val=>RV E.S h d v
 | .own=>J8 E h (.sp 3 i 0) d .own v
 | .ptr=>J8 E h .other (Km .ptr d).1 (Km .ptr d).2 v
 | .YK n os=>RR E h 3 i d (.Dw ((List.range n).map fun i=>if os.contains i then .own else .val)) v
def A8g (E:Env) (h:Heap) (ks:List MK) (ds:List DV) (v:Value):Prop :=
 ds.length=ks.length/\∃ vs:List Value,vs.length=ks.length/\v=(match vs with | [u]=>u | _ => .tuple vs.toArray) /\
  ∀ (i:Nat) k d u,ks[i]?=some k->ds[i]?=some d->vs[i]?=some u->B1L E h i k d u
def B1M (s:CZ) (rs:List (DV × Meta)) (sg:List D8) (q:List DV × List D8):Prop :=
 ∀ (E:Env) (w:World) (vs:List Value),(∀ b o,w.heap.size<=b->E.O b o = .other)->sg.length=E.n->(∀ (i:Nat) ob,sg[i]?=some ob->RO E w.heap i ob)->vs.length=rs.length ->
   (∀ (i:Nat) r v,rs[i]?=some r->vs[i]?=some v->RR E w.heap 0 i r.1 r.2 v) ->
   Calls P f vs.toArray w fun e w'=>Q3 w w'/\∃ v E',e = .returned v/\Pr L8 E w.heap E' w'.heap/\(∀ b o,w'.heap.size<=b->E'.O b o = .other)/\q.2.length=E'.n/\(∀ (i:Nat) ob,q.2[i]?=some ob->RO E' w'.heap i ob)/\A8g E' w'.heap s.results q.1 v
def B3p (s:CZ) (rs:List (DV × Meta)) (sg:List D8) (q:List DV × List D8):Prop :=
 ∀ (E:Env) (w:World) (vs:List Value),(∀ b o,w.heap.size<=b->E.O b o = .other)->sg.length=E.n->(∀ (i:Nat) ob,sg[i]?=some ob->RO E w.heap i ob)->vs.length=rs.length ->
   (∀ (i:Nat) r v,rs[i]?=some r->vs[i]?=some v->RR E w.heap 0 i r.1 r.2 v) ->
   ∀ u,CallsDIn Fence.wide 0 P f vs.toArray u w fun e u' w'=>u'=u/\Q3 w w'/\∃ v E',e = .returned v/\Pr L8 E w.heap E' w'.heap/\(∀ b o,w'.heap.size<=b->E'.O b o = .other)/\q.2.length=E'.n/\(∀ (i:Nat) ob,q.2[i]?=some ob->RO E' w'.heap i ob)/\A8g E' w'.heap s.results q.1 v
def isGo:Bool :=
 match P.funcs[f]? with
 | some fn=>fn.name != "runtime.NumGoroutine" && fn.body.isSome
 | none=>false
def aC (sz:Nat):Prop :=
 ∀ (S:X6) (w:World) (v:Value) (ds:List DV),ds.length<=lim->(∀ b o,w.heap.size<=b->¬ S b o)->RV S w.heap (.list sz ds) v ->
   Calls P f #[v] w fun e w'=>∃ (a:Option Addr) (b off cap:Nat),e = .returned (.slice a ds.length cap)/\(ds≠[]->a=some ⟨b,off,none⟩)/\ds.length<=cap/\(a=none->cap=0)/\(∀ x,a=some x->x.spot=none)/\w.heap.size<=w'.heap.size/\Q3 w w'/\(∀ b',b'<w.heap.size->w'.heap[b']?=w.heap[b']?) /\
    (ds≠[]->w.heap.size<=b/\∃ c T,w'.heap[b]?=some (.cells c T (0,0))/\off+ds.length * sz<=c.size/\0<sz /\
      ∀ (j:Nat) d,ds[j]?=some d->∃ vs:List Value,vs.length=sz/\(∀ (x:Nat) u,vs[x]?=some u->c[off+j * sz+x]?=some u)/\RC S w'.heap d vs)
def B5n (g:FuncId) (n:Nat):Prop :=
 ∀ (w:World) (vs:Array Value),vs.size=n->Calls P f #[.agg vs] w fun e w'=>e = .returned (.func (.func g) #[] #[.pointer (some ⟨w.heap.size,0,none⟩)])/\∃ T,w'=w.alloc (.cells vs T)
structure TZ (n:Nat) (E:Env) (w w':World):Prop where
 size:w.heap.size<=w'.heap.size
 blk:∀ b,b<w.heap.size->w'.heap[b]?=w.heap[b]?\/(n<=b/\(∃ c T f c',w.heap[b]?=some (.cells c T f)/\w'.heap[b]?=some (.cells c' T f)/\c'.size=c.size)/\∀ o,E.O b o = .other)
 out:Q3 w w'
def A8c (g:FuncId) (it:List DV->Option (List DV)):Prop :=
 ∀ (cs ds:List DV),it cs=some ds->∀ (n l b:Nat) (c:Array Value) (T0:TypeId) (J:Nat->Env->World->Prop) (Jx:World->Prop) (E:Env) (W:World),
   W.heap[b]?=some (.cells c T0 (0,0))->(∀ o,o<c.size->E.O b o = .other)->Gq E.S W.heap cs c.toList ->
   (∀ k E' W',J k E' W'->∀ b o,W'.heap.size<=b->E'.O b o = .other) ->
   (∀ k E' W1 W2,J k E' W1->TZ W.heap.size E' W1 W2->J k E' W2) ->
   (∀ k E' W1 d v,J k E' W1->ds[k]?=some d->RV E'.S W1.heap d v->YieldAt Fence.wide n P l #[v] W1 fun e W2 =>
     (e = .returned (.bool true)/\∃ E2,J (k+1) E2 W2/\Pr L8 E' W1.heap E2 W2.heap)\/(e = .returned (.bool false)/\Jx W2)) ->
   J 0 E W->CallsIn Fence.wide n P g #[.func (.yield l) #[] #[], .pointer (some ⟨b,0,none⟩)] W fun e W'=>(∃ v,e = .returned v)/\((∃ E',J ds.length E' W')\/Jx W')
structure C_ (C:X4) (R:O4):Prop where
 p:∀ f ds d,R.p f ds=some d->isGo C.P f=true/\B3m C.P f ds d
 r:∀ f rs sg q,R.r f rs sg=some q->∃ s,C.sig f=some s/\isGo C.P f=true/\B1M C.P f s rs sg q
 c:∀ f,C.clone f=true->isGo C.P f=true/\aC C.P f (C.kU f)
 m:∀ f g,C.iL f=some g->isGo C.P f=true/\B5n C.P f g (C.kU f)
 i:∀ g it,C.iter g=some it->isGo C.P g=true/\A8c C.P g it
 d:∀ f rs sg q,C.dfn f=true->R.r f rs sg=some q->∃ s,C.sig f=some s/\isGo C.P f=true/\B3p C.P f s rs sg q
structure A0q (E E':Env) (tg tg':Tag):Prop where
 hs:∀ b o,E.O b o = .shut->E'.O b o = .shut
 ht:∀ b o,E.O b o=tg->E'.O b o=tg'
 obj:E'.obj=E.obj
 base:E'.base=E.base
 n:E'.n=E.n
 top:E'.top=E.top
 Al:E'.Al=E.Al
variable {E:Env} {E':Env} {tg:Tag} {h:Heap}
theorem A0q.le {tg':Tag} (T:A0q E E' tg tg'):Y0 E.S h E'.S h:=⟨fun b o hs=>T.hs b o hs,fun _ _ _ _ hv=>hv⟩
variable {d:DV} {m:Meta} {v:Value}
theorem J8.to {tg':Tag} (T:A0q E E' tg tg') (hl:∀ s o,m ≠ .loc s o) (R:J8 E h tg d m v):J8 E' h tg' d m v:=by
 have J3:=T.le (h:=h);have hI:E'.In=E.In:=by funext i;simp only [Env.In,T.n,T.Al]
 cases m <;> simp only [J8] at R ⊢
 case val=>exact R.mono J3
 case full=>exact ⟨R.1.mono J3,R.2⟩
 case own =>
  obtain ⟨r1,sz,ds,r2,r3⟩:=R;refine ⟨r1.mono J3,sz,ds,r2,fun x len cap hv M4 => ?_⟩
  obtain ⟨c,T',g,e1,e2,e3⟩:=r3 x len cap hv M4;refine ⟨c,T',g,e1,e2,fun o ho ho' => ?_⟩
  obtain ⟨e4,e5⟩:=e3 o ho ho';exact ⟨T.ht _ _ e4,e5⟩
 case loc s o=>exact absurd rfl (hl s o)
 case OX ag sz o =>
  obtain ⟨b,o0,r1,r2,r3⟩:=R;exact ⟨b,o0,r1,r2.mono J3,r3⟩
 case ptr i o=>rw [T.obj,hI];exact R
 case Di=>exact R
 case map i=>rw [T.obj,hI];exact R
 case QL=>exact R
 case arr i sz off len=>rw [T.obj,hI,T.base,T.top];exact R
 case opt i sz idx=>rw [T.obj,hI,T.base];exact R
 case Yr i sz idx o=>rw [T.obj,hI,T.base];exact R
 case U1 i n sz len=>rw [T.obj,T.n,T.base,T.top,T.Al];exact R
 case nL i n sz idx o=>rw [T.obj,T.n,T.base,T.Al];exact R
 case fn f caps=>rw [T.obj,hI];exact R
theorem RO.to {i:Nat} {ob:D8} (T:A0q E E' (.obj i) (.obj i)) (hs:∀ j b o,E.O b o = .sp 2 i j->E'.O b o = .sp 2 i j) (R:RO E h i ob):RO E' h i ob:=by
 have J3:=T.le (h:=h);cases ob with
 | box cs =>
   simp only [RO] at R ⊢;obtain ⟨c,T0,h1,h2,h3,h4⟩:=R;rw [T.obj];refine ⟨c,T0,h1,h2,fun o => ?_,fun j r v hr hv => ?_⟩
   ·rcases h3 o with h5 | h5
    ·exact .inl (T.ht _ _ h5)
    ·exact .inr h5
   ·obtain ⟨a1,a2,a3,a4⟩:=h4 j r v hr hv
    exact ⟨a1,a2,a3,a4.to ⟨T.hs,hs j,T.obj,T.base,T.n,T.top,T.Al⟩ fun s o hm=>by rw [hm] at a3;simp [X0] at a3⟩
 | arr sz ds =>
   simp only [RO] at R ⊢;intro hne;obtain ⟨c,T0,h1,h2,h3,h4,h5⟩:=R hne;rw [T.obj,T.base];refine ⟨c,T0,h1,h2,h3,fun o q1 q2=>T.ht _ _ (h4 o q1 q2),fun j d hd => ?_⟩
   obtain ⟨vs,v1,v2,v3⟩:=h5 j d hd;exact ⟨vs,v1,v2,v3.mono J3⟩
 | opn sz pre ds =>
   simp only [RO] at R ⊢;obtain ⟨c,T0,f,h1,h2,Pq,hz,h3,h4,h5⟩:=R;rw [T.obj,T.base,T.top];refine ⟨c,T0,f,h1,h2,Pq,hz,fun o q1 q2=>⟨T.ht _ _ (h3 o q1 q2).1,(h3 o q1 q2).2⟩,fun j d hd=>(h4 j d hd).mono J3,fun j d hd => ?_⟩
   obtain ⟨vs,v1,v2,v3⟩:=h5 j d hd;exact ⟨vs,v1,v2,v3.mono J3⟩
 | U1 n sz ds =>
   simp only [RO] at R ⊢;obtain ⟨hv,hn,hz,R⟩:=R;rw [T.obj,T.base,T.top,T.Al];refine ⟨hv,hn,hz, ?_⟩;rcases R with R | ⟨c,T0,f,h1,h2,Pq,h3,h5⟩
   ·exact .inl R
   right
   refine ⟨c,T0,f,h1,h2,Pq,fun o q1 q2=>⟨T.ht _ _ (h3 o q1 q2).1,(h3 o q1 q2).2⟩,fun j d hd => ?_⟩
   obtain ⟨vs,v1,v2,v3⟩:=h5 j d hd;exact ⟨vs,v1,v2,v3.mono J3⟩
 | map ks es =>
   simp only [RO] at R ⊢;obtain ⟨ens,clk,h1,h2,⟨h3,h4⟩,h5⟩:=R;rw [T.obj];exact ⟨ens,clk,h1,fun o=>T.ht _ _ (h2 o),⟨h3,fun j e n g1 g2=>let ⟨a1,a2,a3⟩:=h4 j e n g1 g2;⟨a1,a2.mono J3,a3.mono J3⟩⟩,h5⟩
def St.En (st:St) (sg:List D8):St:={ st with sg }
section
variable {X:Type} {C:X4} {R:O4} {o:Oper} {st:St} {k:St->Option X} {x:X} {E:Env} {a:Act} {w:World} {K:Act->World->Prop} {Q:Exit->Act->World->Prop} {h':Heap}
theorem J6.ext (Rl:J6 E st a h) (P:Pr (fun _=>False) E h E' h') (hn:E'.n=E.n) (hf:∀ b o,h'.size<=b->E'.O b o = .other):J6 E' st a h':=by
 have J3:=P.shut (by simp) Rl.fresh
 exact ⟨Rl.size,Rl.AP,Rl.Bi,by rw [hn];exact Rl.n,fun t v hv=>(Rl.regs t v hv).mono P J3 (by simp) (by simp),fun s cs hs=>by rw [P.jD s (by simp)];exact (Rl.boxes s cs hs).mono P J3 (by simp) (by simp),
  fun i ob hi=>(Rl.Q0 i ob hi).mono P J3 (by rw [<- Rl.n];exact (z0q.1 hi).1) (by simp) (by simp),hf⟩
open Classical in
noncomputable def Env.after (E:Env) (n:Nat) (S':X6):Env:={ E with O:=fun b o=>if b<n then E.O b o else if S' b o then .shut else .other }
variable {S':X6}
theorem B5o (H:Ext E.S h S' h'):Pr (fun _=>False) E h (E.after h.size S') h':=by
 refine ⟨H.size,fun b hb=>by rw [H.blk b hb];exact U6.refl _ _,fun b o hb _ => ?_,zfq _,fun _ _ _=>⟨rfl,rfl,rfl⟩,fun _ _=>rfl,DK rfl⟩
 simp only [Env.after];rw [if_pos hb]
theorem B5p (H:Ext E.S h S' h'):Y0 S' h' (E.after h.size S').S h':=by
 refine ⟨fun b o hs => ?_,fun _ _ _ _ hv=>hv⟩
 simp only [Env.S,Env.after]
 by_cases hb:b<h.size
 ·rw [if_pos hb];exact (H.s b o hb).1 hs
 ·rw [if_neg hb,if_pos hs]
variable {f:FuncId}
theorem fM {args:Array Value} (hr:(execOp a.eval o).run C.P w = .ok (.enter f args) w) (hc:Calls C.P f args w fun e w'=>∃ v,e = .returned v/\K (a.put o.dst v) w'):Gp C.P o a w K :=
 .inr (.inr ⟨f,args,hr,hc⟩)
variable {P:Program}
theorem U_ (h:isGo P f=true) (args:Array Value) (w:World):(callFunc f args).run P w = .ok (.enter f args) w:=by
 unfold isGo at h
 split at h
 ·rename_i fn hf
  simp only [zcq,bne_iff_ne,ne_eq] at h;unfold callFunc;obtain ⟨c,hc⟩:=zyq.1 h.2;simp [hf,h.1,hc]
 ·simp at h
variable {ts:List TypeId} {xs:List Operand} {rs:List (DV × Meta)}
theorem A0b (Rl:J6 E st a w.heap) (h:Ie P st ts xs=some rs):rs.length=xs.length/\∀ (i:Nat) r v,rs[i]?=some r->(xs.map a.eval)[i]?=some v ->
 ∃ y t,xs[i]?=some y/\v=a.eval y/\src P t st y=some r/\RR E w.heap 0 (mi y) r.1 r.2 v:=by
 obtain ⟨l1,l2⟩:=iW h;refine ⟨l1,fun i r v hr hv => ?_⟩
 simp only [zvq,znq] at hv;obtain ⟨y,hy,rfl⟩:=hv;obtain ⟨t,ht⟩:=l2 i y r hy hr;exact ⟨y,t,hy,rfl,ht,Rl.src ht⟩
theorem B6I {vs:List Value} (hO:C_ C R) (O8:(execOp a.eval o).run C.P w = .ok (.enter f vs.toArray) w) (hl:rs.length=vs.length) (hrs:∀ (i:Nat) r v,rs[i]?=some r->vs[i]?=some v->∃ p q,RR E w.heap p q r.1 r.2 v) (H:og (rs.all fun r=>J5 r.2) (ob (R.p f (rs.map (·.1))) fun d=>k (st.put o.dst d .val))=some x) (Rl:J6 E st a w.heap) (T:Then E w k x K):Gp C.P o a w K:=by
 obtain ⟨hd,H⟩:=F4 H;obtain ⟨d,Kz,H⟩:=A9 H;refine fM O8 (((hO.p f _ d Kz).2 E.S w vs (fun b o hb hs=>by have h9:=Rl.fresh b o hb;rw [show E.O b o=Tag.shut from hs] at h9;cases h9) (VY.2 ⟨by simpa using hl,fun i d' v ES hv => ?_⟩)).mono ?_)
 ·simp only [zvq,znq] at ES
  obtain ⟨r,hr,rfl⟩:=ES;obtain ⟨p,q,h⟩:=hrs i r v hr hv;exact h.data (zlq.1 hd r (zkq hr))
 ·rintro e w' ⟨v,S',he,hE,hR,WG⟩
  have P1:=B5o hE;refine ⟨v,he,T _ _ _ w' H ((Rl.ext P1 rfl fun b o hb => ?_).put fun t0 _ => ?_) (P1.weaken (by simp)) WG⟩
  ·simp only [Env.after]
   have:=hE.size;rw [if_neg (by omega),if_neg (hE.fresh b o hb)]
  ·exact RR.val (hR.mono (B5p hE))
def O9:Tag->Tag
 | .shut => .shut
 | .obj i => .obj i
 | .sp 2 i j => .sp 2 i j
 | .sp 4 i b => .sp 0 i b
 | _ => .other
def KT (t:Nat) (one:Bool):Tag->Tag
 | .shut => .shut
 | .obj i => .obj i
 | .sp 2 i j => .sp 2 i j
 | .sp 3 i 0 => .sp 0 t (if one then 0 else i+1)
 | .sp 3 _ (b+1)=>if one then .sp 0 t (b+1) else .other
 | _ => .other
open Classical in
noncomputable def Env.back (E E1:Env) (n:Nat) (t:Nat) (one:Bool):Env :=
 { E1 with blk:=E.blk,O:=fun b o=>if b<n/\O9 (E.O b o) = .other then E.O b o else KT t one (E1.O b o) }
def az (g:Option (Nat × Operand)) (T:Tag):Tag :=
 match g with
 | some p=>iM p.2 4 p.1 T
 | none=>T
theorem uZ:∀ {ks:List MK} {xs:List Operand} {i0:Nat} {p:Nat × Operand},FY i0 ks xs=some p->i0<=p.1/\(∃ k,ks[p.1-i0]?=some k/\DT k=true)/\xs[p.1-i0]?=some p.2
 | [],xs,i0,p,h=>by simp [FY] at h
 | k::ks,[],i0,p,h=>by simp [FY] at h
 | k::ks,y::xs,i0,p,h=>by
   simp only [FY] at h
   split at h
   ·rename_i hk
    simp only [Option.some.injEq] at h;subst h;exact ⟨zfq _,⟨k,by simp,hk⟩,by simp⟩
   ·obtain ⟨h1,h2,h3⟩:=uZ h
    have:p.1-i0=(p.1-(i0+1))+1:=by omega
    exact ⟨by omega,by rw [this];simpa using h2,by rw [this];simpa using h3⟩
theorem mf:∀ {ks:List MK} {xs:List Operand} {i0 i:Nat} {k:MK} {y:Operand},(ks.filter DT).length<=1->ks[i]?=some k->DT k=true->xs[i]?=some y->FY i0 ks xs=some (i0+i,y)
 | [],xs,i0,i,k,y,_,h,_,_=>by simp at h
 | k0::ks,[],i0,i,k,y,_,_,_,h=>by simp at h
 | k0::ks,z::xs,i0,0,k,y,_,h,hk,h2=>by
   simp only [zgq,Option.some.injEq] at h h2;subst h h2;simp [FY,hk]
 | k0::ks,z::xs,i0,i+1,k,y,hl,h,hk,h2=>by
   simp only [zpq] at h h2;have A5N:k∈ks.filter DT:=List.mem_filter.2 ⟨zkq h,hk⟩;have hpos:0<(ks.filter DT).length:=List.length_pos_of_mem A5N;have hk0:¬ DT k0=true:=by
    intro h0;simp only [yeq,h0,if_true,zGq] at hl;omega
   have:=mf (i0:=i0+1) (xs:=xs) (by simpa [yeq,hk0] using hl) h hk h2
   simp only [FY,if_neg hk0];rw [this]
   congr 2
   omega
theorem A2F:∀ {ks:List MK} {rs:List (DV × Meta)} {i:Nat} {r:DV × Meta},(IE ks rs)[i]?=some r->∃ r0,rs[i]?=some r0/\r.1=r0.1/\((∃ k,ks[i]?=some k/\DT k=true/\r.2=Xn r0.2 k)\/((∀ k,ks[i]?=some k->DT k=false)/\r.2=QY r0.2))
 | [],rs,i,r,h=>by
   simp only [IE,zvq,znq] at h;obtain ⟨r0,h1,rfl⟩:=h;exact ⟨r0,h1,rfl, .inr ⟨by simp,rfl⟩⟩
 | k::ks,[],i,r,h=>by simp [IE] at h
 | k::ks,r0::rs,0,r,h=>by
   simp only [IE,zgq,Option.some.injEq] at h;subst h;refine ⟨r0,rfl,rfl, ?_⟩;cases k
   ·exact .inr ⟨by simp [DT],rfl⟩
   ·exact .inl ⟨_,rfl,rfl,rfl⟩
   ·exact .inr ⟨by simp [DT],rfl⟩
   ·exact .inl ⟨_,rfl,rfl,rfl⟩
 | k::ks,r0::rs,i+1,r,h=>by
   simp only [IE,zpq] at h;obtain ⟨q,h1,h2,h3⟩:=A2F h;exact ⟨q,by simpa using h1,h2,by simpa using h3⟩
theorem nE:∀ {ks:List MK} {rs:List (DV × Meta)},(IE ks rs).length=rs.length
 | [],rs=>by simp [IE]
 | k::ks,[]=>by simp [IE]
 | k::ks,r::rs=>by simp [IE,nE]
theorem A8g.back {E1:Env} {ks:List MK} {ds:List DV} {t:Nat} (R:A8g E1 h ks ds v) (w9:A77 ks=true) (T:∀ i,A0q E1 E' (.sp 3 i 0) (.sp 0 t (if ks.length=1 then 0 else i+1))) (T2:ks.length=1->∀ b,A0q E1 E' (.sp 3 0 (b+1)) (.sp 0 t (b+1))) :
 RR E' h 0 t (Mi ks ds).1 (Mi ks ds).2 v:=by
 obtain ⟨hl,vs,hv,rfl,H⟩:=R;unfold Mi
 split
 ·rename_i k
  simp only [zGq,ylq,zeq] at hl hv T T2;obtain ⟨d,rfl⟩:=zuq.1 hl;obtain ⟨u,rfl⟩:=zuq.1 hv;have:=H 0 k d u rfl rfl rfl;simp only [List.getD_cons_zero];cases k with
  | val=>exact RV.mono (T 0).le d this
  | own=>exact RR.Ad (J8.to (T 0) (m := .own) (by simp) this)
  | ptr =>
    have key:∀ m:Meta,m ≠ .own->(∀ s o,m ≠ .loc s o)->J8 E1 h .other (Km .ptr d).1 m u->J8 E' h (.sp 0 t 0) (Km .ptr d).1 m u:=by
     intro m h1 h2 h3;exact J8.to (T 0) h2 (h3.tag h1)
    have hm:(Km .ptr d).2 ≠ .own/\∀ s o,(Km .ptr d).2 ≠ .loc s o:=by
     unfold Km;constructor
     ·simp only;split <;> simp
     ·intro s o;simp only;split <;> simp
    exact RR.Ad (key _ hm.1 hm.2 this)
  | YK n os =>
    simp only [B1L,RR,Km] at this ⊢;obtain ⟨ds,us,h1,h2,h3,h4,h5⟩:=this;refine ⟨ds,us,h1,h2,h3,h4,fun i m' d' u' e1 e2 e3 => ?_⟩
    obtain ⟨a1,a2,a3,a4⟩:=h5 i m' d' u' e1 e2 e3;exact ⟨a1,a2,a3,J8.to (T2 trivial i) (fun s o hm=>by rw [hm] at a3;simp [X0] at a3) a4⟩
 ·rename_i hne
  have B54:ks.length≠1:=fun h=>by obtain ⟨k,hk⟩:=zuq.1 h;exact hne k hk
  have WE:∀ k∈ks,k = .val\/k = .own:=by
   intro k hk;unfold A77 at w9;simp only [Bool.or_eq_true,beq_iff_eq,B54,false_or] at w9;have:=zlq.1 w9 k hk;cases k <;> simp_all
  have hvt:(match vs with | [u]=>u | _=>Value.tuple vs.toArray) = .tuple vs.toArray:=by
   split
   ·simp only [zGq,ylq,zeq] at hv;exact absurd hv.symm B54
   ·rfl
  rw [hvt];simp only [RR];refine ⟨ds,vs.toArray,rfl,rfl,by simp [hl],by simp [hv],fun i m' d' u e1 e2 e3 => ?_⟩
  simp only [zvq,znq] at e1;obtain ⟨k,hk,rfl⟩:=e1;have:=H i k d' u hk e2 (by simpa using e3)
  have T1:=T i;rw [if_neg B54] at T1;rcases WE k (zkq hk) with rfl | rfl
  ·exact ⟨rfl,RV.mono T1.le d' this⟩
  ·exact ⟨rfl,J8.to T1 (m := .own) (by simp) this⟩
variable {g:Option (Nat × Operand)}
theorem EF {T:Tag} (h:∀ p s b,g=some p->p.2 = .tmp s->T ≠ .sp 0 s b):az g T=T:=by
 unfold az
 split
 ·rename_i p
  exact OM fun s b hs=>h p s b rfl hs
 ·rfl
theorem B0z (Rl:J6 E st a h):J6 (E.re (az g)) (st.IA g) a h:=by
 cases g with
 | none=>simp only [St.IA];exact (Rl.release (x := .const .nilIface) (f:=az none) fun T _=>rfl)
 | some p=>exact Rl.release fun T hT=>EF fun p' s b hp hs=>by simp only [Option.some.injEq] at hp;subst hp;exact hT s b hs
theorem B5z (Rl:J6 E st a w.heap):(∀ b o,w.heap.size<=b->(E.re O9).O b o = .other)/\st.sg.length=(E.re O9).n/\∀ (i:Nat) ob,st.sg[i]?=some ob->RO (E.re O9) w.heap i ob:=by
 refine ⟨fun b o hb => ?_,Rl.n,fun i ob hi => ?_⟩
 ·simp only [Env.re];rw [Rl.fresh b o hb];rfl
 ·exact RO.to (E:=E) ⟨fun b o h=>by simp only [Env.re];rw [h];rfl,fun b o h=>by simp only [Env.re];rw [h];rfl,rfl,rfl,rfl,rfl,rfl⟩ (fun j b o h=>by simp only [Env.re];rw [h];rfl) (Rl.Q0 i ob hi)
theorem B3A (Rl:J6 E st a w.heap) {E1:Env} {w':World} {sg:List D8} (P1:Pr L8 (E.re O9) w.heap E1 w'.heap) (hf1:∀ b o,w'.heap.size<=b->E1.O b o = .other) (hn1:sg.length=E1.n) (ho1:∀ (i:Nat) ob,sg[i]?=some ob->RO E1 w'.heap i ob) :
 ∃ E',J6 E' (st.En sg) a w'.heap/\Pr L8 E w.heap E' w'.heap:=by
 let E':Env:=E.back E1 w.heap.size 0 true
 have A9e:∀ b o,E1.O b o ≠ .other->¬ (b<w.heap.size/\O9 (E.O b o) = .other):=by
  rintro b o h1 ⟨h2,h3⟩;have:=P1.tags b o h2 (by simp only [Env.re];rw [h3];simp [L8])
  simp only [Env.re] at this;rw [h3] at this;exact h1 this
 have y_:∀ b o T,E1.O b o=T->T ≠ .other->E'.O b o=KT 0 true T:=by
  intro b o T h1 h2
  show (if b<w.heap.size/\O9 (E.O b o) = .other then E.O b o else KT 0 true (E1.O b o))=_
  rw [if_neg (A9e b o (by rw [h1];exact h2)),h1]
 have Pc:Pr (fun T=>L8 (O9 T)) E w.heap E' w'.heap:=by
  refine ⟨P1.size,fun b hb=>P1.blk b hb,fun b o hb hn => ?_,P1.n,fun i hi hv=>P1.Q0 i hi hv,fun _ _=>rfl,fun i hi=>P1.Mw i hi⟩
  show (if b<w.heap.size/\O9 (E.O b o) = .other then E.O b o else KT 0 true (E1.O b o))=_
  by_cases hc:O9 (E.O b o) = .other
  ·rw [if_pos ⟨hb,hc⟩]
  ·rw [if_neg fun h=>hc h.2]
   have hsh:O9 (E.O b o) = .shut:=by
    by_cases hs:O9 (E.O b o) = .shut
    ·exact hs
    ·exact absurd ⟨hc,hs⟩ hn
   have h2:=P1.tags b o hb (by simp only [Env.re];exact hn)
   simp only [Env.re] at h2;rw [h2,hsh];have:E.O b o = .shut:=by
    revert hsh
    unfold O9
    split <;> simp_all
   rw [this];rfl
 have J3:=Pc.shut (by simp [L8,O9]) Rl.fresh
 refine ⟨E',⟨Rl.size,Rl.AP,Rl.Bi,hn1,fun u v' hu => ?_,fun s' cs' Cz => ?_,fun i ob hi => ?_,fun b o hb => ?_⟩,Pc.weaken fun T hT=>⟨fun h => ?_,fun h => ?_⟩⟩
 ·exact (Rl.regs u v' hu).mono Pc J3 (fun b=>by simp [L8,O9]) (fun s o _=>by simp [L8,O9])
 ·exact (Rl.boxes s' cs' Cz).mono Pc J3 (by simp [L8,O9]) (fun j=>by simp [L8,O9])
 ·exact (ho1 i ob hi).to ⟨fun b o h=>y_ b o _ h (by simp),fun b o h=>y_ b o _ h (by simp),rfl,rfl,rfl,rfl,rfl⟩ fun j b o h=>y_ b o _ h (by simp)
 ·show (if b<w.heap.size/\O9 (E.O b o) = .other then E.O b o else KT 0 true (E1.O b o))=_
  have:=P1.size;rw [if_neg (by omega),hf1 b o hb];rfl
 ·rw [h] at hT;simp [L8,O9] at hT
 ·rw [h] at hT;simp [L8,O9] at hT
theorem B7S (h:J5 m=true):J5 (dm m)=true:=by
 cases m <;> first | rfl | (simp [J5] at h;done) | skip
 rename_i ms;simp only [J5,dm,List.all_map] at h ⊢;refine zlq.2 fun m hm => ?_
 have:=zlq.1 h m hm;cases m <;> simp_all [XW]
theorem B30 {E:Env} {k a:Nat} (R:RR E h k a d m v):RR E h k a d (QY m) v:=by
 unfold QY
 split
 ·rename_i hd;exact RR.val (R.data hd)
 ·exact R.dm
theorem A6W:∀ {os:List Nat} {ms:List Meta} {i0 i:Nat} {m:Meta},(iN os i0 ms)[i]?=some m->∃ m0,ms[i]?=some m0/\m=if os.contains (i0+i) then NZ m0 else QY m0
 | os,[],i0,i,m,h=>by simp [iN] at h
 | os,m0::ms,i0,0,m,h=>by
   simp only [iN,zgq,Option.some.injEq] at h;exact ⟨m0,rfl,h.symm⟩
 | os,m0::ms,i0,i+1,m,h=>by
   simp only [iN,zpq] at h;obtain ⟨m1,h1,h2⟩:=A6W h;exact ⟨m1,by simpa using h1,by rw [h2,zOq,Nat.add_comm 1 i]⟩
theorem eQ:∀ {os:List Nat} {ms:List Meta} {i0:Nat},(iN os i0 ms).length=ms.length
 | os,[],i0=>rfl
 | os,m::ms,i0=>by simp [iN,eQ]
theorem J8.NZ {E:Env} (R:J8 E h tg d m v):J8 E h tg d (Su.NZ m) v:=by
 cases m <;> first | exact R | exact R.oZ
theorem J8.QY {E:Env} (hm:X0 m=true) (R:J8 E h tg d m v):J8 E h tg d (Su.QY m) v/\X0 (Su.QY m)=true:=by
 unfold Su.QY
 split
 ·rename_i hd
  refine ⟨?_,rfl⟩;have ES:m = .val\/m = .full\/m = .own\/m = .Di:=by
   cases m <;> simp_all [J5,X0]
  exact kH ES R
 ·exact ⟨R.BS hm,(Su.BS hm).2.1⟩
theorem A6V {E:Env} {k a:Nat} {q:MK} (hq:DT q=true) (R:RR E h k a d m v):RR E h k a d (Xn m q) v:=by
 cases q with
 | val=>cases hq
 | ptr=>cases hq
 | own =>
   by_cases hm:m = .full
   ·subst hm
    exact RR.Ad (J8.oZ (RR.A0f (by simp) (by simp) R))
   ·have:Xn m .own=m:=by unfold Xn;split <;> simp_all
    rw [this];exact R
 | YK n os =>
   by_cases hm:∃ ms,m = .Dw ms
   ·obtain ⟨ms,rfl⟩:=hm
    simp only [Xn,RR] at R ⊢;obtain ⟨ds,vs,h1,h2,h3,h4,h5⟩:=R;refine ⟨ds,vs,h1,h2,by rw [eQ];exact h3,by rw [eQ];exact h4,fun i m' d' u e1 e2 e3 => ?_⟩
    obtain ⟨m0,g1,rfl⟩:=A6W e1;obtain ⟨a1,a2,a3,a4⟩:=h5 i m0 d' u g1 e2 e3
    split
    ·exact ⟨a1,a2,by cases m0 <;> simp_all [Su.NZ,X0],a4.NZ⟩
    ·exact ⟨a1,a2,(a4.QY a3).2,(a4.QY a3).1⟩
   ·have:Xn m (.YK n os)=QY m:=by
     unfold Xn
     split <;> first | rfl | (rename_i h1 h2;simp_all)
    rw [this];exact B30 R
theorem B8S {s:CZ} {extra:List (DV × Meta)} {ev:List Value} (hO:C_ C R) (hs:C.sig f=some s) (O8:(execOp a.eval o).run C.P w = .ok (.enter f (xs.map a.eval++ev).toArray) w) (hsr:Ie C.P st ts xs=some rs) (hel:extra.length=ev.length) (Fz:∀ (i:Nat) r v,extra[i]?=some r->ev[i]?=some v->∀ p q,RR E w.heap p q r.1 r.2 v/\r.2 ≠ .own/\r.2 ≠ .full) (H:og (((rs++extra).all fun r=>B7p r.2) && decide ((s.params.filter DT).length<=1) && A77 s.results)
   (ob (R.r f (IE s.params (rs++extra)) st.sg) fun q =>
     eY s.results q.1 fun r=>k (({ st with sg:=q.2 }.IA (FY 0 s.params xs)).put o.dst r.1 r.2))=some x) (Rl:J6 E st a w.heap) (T:Then E w k x K):Gp C.P o a w K:=by
 obtain ⟨hg,H⟩:=F4 H;obtain ⟨q,hq,H⟩:=A9 H;have H:=(A2C H).1;simp only [zcq,decide_eq_true_eq] at hg;obtain ⟨⟨hgo,OI⟩,C21⟩:=hg;obtain ⟨s',Cz,C3S,hR⟩:=hO.r f _ _ q hq;rw [hs] at Cz;cases Cz;generalize hgd:FY 0 s.params xs=g at H;have Rl0:J6 (E.re (az g)) (st.IA g) a w.heap:=B0z Rl;have sg0:(st.IA g).sg=st.sg:=by
  cases g with
  | none=>rfl
  | some p=>simp only [St.IA];cases p.2 <;> rfl
 generalize hE0:E.re (az g)=E0 at Rl0;have E0n:E0.n=E.n:=by rw [<- hE0];rfl
 obtain ⟨l1,l2⟩:=A0b Rl hsr;have Dh:(xs.map a.eval++ev).length=(IE s.params (rs++extra)).length:=by rw [nE];simp [l1,hel]
 have cs:O9 .shut = .shut:=rfl;have co:O9 .other = .other:=rfl;refine fM O8 ((hR (E0.re O9) w (xs.map a.eval++ev) (fun b o hb => ?_) ?_ (fun i ob hi => ?_) Dh (fun i r v hr hv => ?_)).mono ?_)
 ·simp only [Env.re];rw [Rl0.fresh b o hb];rfl
 ·rw [<- sg0];exact Rl0.n
 ·have:=Rl0.Q0 i ob (by rw [sg0];exact hi)
  exact RO.to (E:=E0) ⟨fun b o h=>by simp only [Env.re];rw [h];rfl,fun b o h=>by simp only [Env.re];rw [h];rfl,rfl,rfl,rfl,rfl,rfl⟩ (fun j b o h=>by simp only [Env.re];rw [h];rfl) this
 ·obtain ⟨r0,h1,h2,h3⟩:=A2F hr
  have C0t:∀ (p q:Nat) (m:Meta),RR E w.heap p q r0.1 m v->RR (E0.re O9) w.heap 0 i r0.1 (dm m) v:=by
   intro p q m hh;have h1:RR E w.heap 2 0 r0.1 (dm m) v:=hh.dm;have h2:RR E0 w.heap 2 0 r0.1 (dm m) v:=by
    rw [<- hE0];exact h1.re (EF (by simp)) (EF (by simp)) fun b=>EF (by simp)
   have h3:RR (E0.re O9) w.heap 2 0 r0.1 (dm m) v:=h2.re rfl rfl fun b=>rfl
   exact h3.A8t
  have B7s:∀ (p q:Nat) (m:Meta),RR E w.heap p q r0.1 m v->RR (E0.re O9) w.heap 0 i r0.1 (QY m) v:=by
   intro p q m hh;have h0:=C0t p q m hh;unfold QY
   split
   ·rename_i hd
    exact RR.val (RR.data (B7S hd) h0)
   ·exact h0
  rw [h2]
  by_cases hi:i<rs.length
  ·rw [z5q hi] at h1
   have MO:(xs.map a.eval)[i]?=some v:=by rwa [z5q (by simpa [l1] using hi)] at hv
   obtain ⟨y,t,hy,rfl,hsy,hRy⟩:=l2 i r0 v h1 MO;rcases h3 with ⟨kk,h4,S_,h5⟩ | ⟨h4,h5⟩
   ·rw [h5]
    have hp:FY 0 s.params xs=some (0+i,y):=mf OI h4 S_ hy;rw [zeq,hgd] at hp;subst hp;have h6:RR E0 w.heap 4 i r0.1 r0.2 (a.eval y):=by
     rw [<- hE0]
     by_cases hyt:∃ j,y = .tmp j
     ·obtain ⟨j,rfl⟩:=hyt
      exact hRy.re (EF (by simp)) (EF (by simp)) fun b=>by simp [az,iM,mi]
     ·exact (J6.B1D hsy (fun j hj=>hyt ⟨j,hj⟩) 4 i).re (EF (by simp)) (EF (by simp)) fun b=>EF (by simp)
    have h7:RR (E0.re O9) w.heap 0 i r0.1 r0.2 (a.eval y):=h6.re rfl rfl fun b=>rfl
    exact A6V S_ h7
   ·rw [h5];exact B7s _ _ _ hRy
  ·have hge:rs.length<=i:=zMq hi
   rw [z6q hge] at h1;rw [z6q (by simpa [l1] using hge)] at hv
   simp only [zQq,<- l1] at hv;obtain ⟨h6,h7,h8⟩:=Fz _ r0 v h1 hv 2 0;have h9:=B7s 2 0 _ h6;rcases h3 with ⟨kk,h4,S_,h5⟩ | ⟨h4,h5⟩
   ·rw [h5]
    have Uk:RR E0 w.heap 4 i r0.1 r0.2 v:=by
     rw [<- hE0];exact (Fz _ r0 v h1 hv 4 i).1.re (EF (by simp)) (EF (by simp)) fun b=>EF (by simp)
    exact A6V S_ (Uk.re rfl rfl fun b=>rfl)
   ·rw [h5];exact h9
 ·rintro e w' ⟨WG,v,E1,he,P1,hf1,hn1,ho1,B56⟩
  subst he;generalize ht:o.dst.getD 0=t
  let one:Bool:=decide (s.results.length=1)
  have ow:∀ i:Nat,(if one=true then 0 else i+1)=(if s.results.length=1 then 0 else i+1):=fun i=>by simp [one]
  let E':Env:=E0.back E1 w.heap.size t one
  have A9e:∀ b o,E1.O b o ≠ .other->¬ (b<w.heap.size/\O9 (E0.O b o) = .other):=by
   rintro b o h1 ⟨h2,h3⟩;have:=P1.tags b o h2 (by simp only [Env.re];rw [h3];simp [L8])
   simp only [Env.re] at this;rw [h3] at this;exact h1 this
  have y_:∀ b o T,E1.O b o=T->T ≠ .other->E'.O b o=KT t one T:=by
   intro b o T h1 h2
   show (if b<w.heap.size/\O9 (E0.O b o) = .other then E0.O b o else KT t one (E1.O b o))=_
   rw [if_neg (A9e b o (by rw [h1];exact h2)),h1]
  have Pc:Pr (fun T=>L8 (O9 T)) E0 w.heap E' w'.heap:=by
   refine ⟨P1.size,fun b hb=>P1.blk b hb,fun b o hb hn => ?_,P1.n,fun i hi hv=>P1.Q0 i hi hv,fun _ _=>rfl,fun i hi=>P1.Mw i hi⟩
   show (if b<w.heap.size/\O9 (E0.O b o) = .other then E0.O b o else KT t one (E1.O b o))=_
   by_cases hc:O9 (E0.O b o) = .other
   ·rw [if_pos ⟨hb,hc⟩]
   ·rw [if_neg fun h=>hc h.2]
    have hsh:O9 (E0.O b o) = .shut:=by
     by_cases hs:O9 (E0.O b o) = .shut
     ·exact hs
     ·exact absurd ⟨hc,hs⟩ hn
    have h2:=P1.tags b o hb (by simp only [Env.re];exact hn)
    simp only [Env.re] at h2;rw [h2,hsh];have:E0.O b o = .shut:=by
     revert hsh
     unfold O9
     split <;> simp_all
    rw [this];rfl
  have J3:=Pc.shut (by simp [L8,O9]) Rl0.fresh
  have R2:J6 E' ((st.IA g).En q.2) a w'.heap:=by
   refine ⟨Rl0.size,Rl0.AP,Rl0.Bi,hn1,fun u v' hu => ?_,fun s' cs' Cz => ?_,fun i ob hi => ?_,fun b o hb => ?_⟩
   ·exact (Rl0.regs u v' hu).mono Pc J3 (fun b=>by simp [L8,O9]) (fun s o _=>by simp [L8,O9])
   ·exact (Rl0.boxes s' cs' Cz).mono Pc J3 (by simp [L8,O9]) (fun j=>by simp [L8,O9])
   ·exact (ho1 i ob hi).to ⟨fun b o h=>y_ b o _ h (by simp),fun b o h=>y_ b o _ h (by simp),rfl,rfl,rfl,rfl,rfl⟩ fun j b o h=>y_ b o _ h (by simp)
   ·show (if b<w.heap.size/\O9 (E0.O b o) = .other then E0.O b o else KT t one (E1.O b o))=_
    have:=P1.size;rw [if_neg (by omega),hf1 b o hb];rfl
  refine ⟨v,rfl,T E' _ _ w' ?_ (R2.put (dst:=o.dst) (d:=(Mi s.results q.1).1) (m:=(Mi s.results q.1).2) (v:=v) fun t0 ht0 => ?_) ?_ WG⟩
  ·rw [<- H]
   congr 1
   cases g with
   | none=>rfl
   | some p=>simp only [St.IA];cases p.2 <;> rfl
  ·have htt:t=t0:=by rw [<- ht,ht0];rfl
   rw [<- htt];exact B56.back C21 (fun i=>⟨fun b o h=>y_ b o _ h (by simp),fun b o h=>by rw [y_ b o _ h (by simp)];simp only [KT];rw [ow],rfl,rfl,rfl,rfl,rfl⟩)
    fun h1 i=>⟨fun b o h=>y_ b o _ h (by simp),fun b o h=>by rw [y_ b o _ h (by simp)];simp [KT,one,h1],rfl,rfl,rfl,rfl,rfl⟩
  ·have P0:Pr L8 E w.heap E0 w.heap:=by
    rw [<- hE0];exact Pr.re fun T hT=>EF fun p s b _ _ he=>hT (by rw [he];simp [L8])
   refine P0.trans (Pc.weaken fun T hT=>⟨fun h => ?_,fun h => ?_⟩)
   ·rw [h] at hT;simp [L8,O9] at hT
   ·rw [h] at hT;simp [L8,O9] at hT
end
end Go.Su

/-
 THE DATA MACHINE: a writable array's elements are cleared.
-/
namespace Go.Su
section
variable {X:Type} {C:X4} {R:O4} {o:Oper} {st:St} {k:St->Option X} {x:X} {E:Env} {a:Act} {w:World} {K:Act->World->Prop}
theorem B7H {E:Env} {h:Heap} {i sz n:Nat} {ds:List DV} (B:RO E h i (.arr sz ds)):RO E h i (.arr sz (ds.take n)):=by
 simp only [RO] at B ⊢;intro hne;have hd:ds≠[]:=by intro e;rw [e] at hne;simp at hne
 obtain ⟨c,T,b1,b2,b3,b4,b5⟩:=B hd;have J3:(ds.take n).length * sz<=ds.length * sz:=z7q _ (by rw [zzq];omega)
 refine ⟨c,T,b1,by omega,b3,fun o h1 h2=>b4 o h1 (by omega),fun j d hj=>b5 j d ?_⟩
 rw [y9q] at hj
 split at hj
 ·exact hj
 ·cases hj
theorem A7W (zs:Array Value) (n:Nat):(Builtin.zeroCells zs n).size=n * zs.size:=by simp [Builtin.zeroCells]
theorem A7X {zs:Array Value} {n:Nat} (h:∀ v∈zs.toList,v.oneCell'=true):∀ v∈(Builtin.zeroCells zs n).toList,v.oneCell'=true:=by
 intro v hv;simp only [Builtin.zeroCells,Array.toList_map,List.mem_map,Array.toList_range,List.mem_range] at hv;obtain ⟨j,hj,rfl⟩:=hv;have hz:0<zs.size:=by
  rcases y3q zs.size with h | h
  ·rw [h] at hj;omega
  ·exact h
 have hm:j % zs.size<zs.size:=Nat.mod_lt _ hz;rw [getElem!_pos zs _ hm];exact h _ (Array.getElem_mem_toList hm)
variable {P:Program} {ty:TypeId}
theorem B4J {w w':World} {t e:TypeId} {p:Addr} {n cap:Nat} {inf:TypeInfo} {zv:Value} (hu:P.underlying t=some (.slice e)) (hi:P.info? e=some inf) (hz:inf.zero=some zv) (hn:0<n) (h:(storeCells p (Builtin.zeroCells zv.cells n).toList).run P w = .ok () w'):(Builtin.clear_ #[t] ty #[.slice (some p) n cap]).run P w = .ok (.tuple #[]) w':=by
 unfold Builtin.clear_;obtain ⟨m,rfl⟩:∃ m,n=m+1:=⟨n-1,by omega⟩
 simp [run_underlying hu,zeroValue,typeInfo,hi,hz,h]
theorem B2W {w:World} {t e:TypeId} {p:Option Addr} {cap:Nat} (hu:P.underlying t=some (.slice e)):(Builtin.clear_ #[t] ty #[.slice p 0 cap]).run P w = .ok (.tuple #[]) w:=by
 unfold Builtin.clear_;cases p <;> simp [run_underlying hu]
theorem B4O {c:Call} {y:Operand} {t:TypeId} (D9:o.op = .call c) (hc:c.callee = .builtin .clear) (ha:c.args.toList=[y]) (ht:c.argTypes.toList=[t]) (H:Vy C o y t st k=some x) (Rl:J6 E st a w.heap) (T:Then E w k x K):Gp C.P o a w K:=by
 unfold Vy at H;obtain ⟨r,h1,H⟩:=A9 H;obtain ⟨q,hq,H⟩:=A9 H;obtain ⟨A,hA,H⟩:=A9 H;obtain ⟨e,he,H⟩:=A9 H;obtain ⟨z,hz,H⟩:=A9 H;obtain ⟨zs,VO,H⟩:=A9 H;obtain ⟨hb,H9⟩:=F4 H;clear H;simp only [zcq,beq_iff_eq,decide_eq_true_eq] at hb;obtain ⟨⟨⟨s1,s2⟩,s3⟩,s4⟩:=hb;obtain ⟨i,sz,off,len⟩:=q;simp only at s1 s2 s4 hA H9;have hm:=A34 hq;have e1:=Rl.src h1;rw [hm] at e1;simp only [RR,J8] at e1;obtain ⟨f0,b,cap,hv,f1,f2,f3,f4,f5⟩:=e1;have hu:=n_ he;obtain ⟨inf,zv,AY,Pv,w9⟩:=Qr VO;have hA:=Zw hA;rw [s1] at hA;have IZ:=(z0q.1 hA).1;have dY:∀ {E':Env} {h':Heap} (t0:Nat),RR E' h' 0 t0 (.F3 []) .val undef:=by
  intro E' h' t0;simp only [RR,J8,RV];exact ⟨#[],rfl,by simp [Pj]⟩
 have fin:∀ {w'},(Builtin.clear_ #[t] o.type #[a.eval y]).run C.P w = .ok (.tuple #[]) w'->(execOp a.eval o).run C.P w = .ok (.value (.tuple #[])) w':=by
  intro w' h;refine Ea D9 hc ?_;rw [A0s ht,show c.args.map a.eval = #[a.eval y] from by rw [A0s ha];simp]
  simp only [builtin];exact Ab h
 rcases y3q len with h0 | hp
 ·subst h0
  have R1:J6 E { st with sg:=st.sg.set i (.arr sz (A.2.take off)) } a w.heap:=by
   refine ⟨Rl.size,Rl.AP,Rl.Bi,by simpa using Rl.n,Rl.regs,Rl.boxes,fun i' ob hi => ?_,Rl.fresh⟩
   by_cases Cq:i=i'
   ·subst Cq
    simp only [z2q IZ,Option.some.injEq] at hi;subst hi;exact B7H (Rl.Q0 i _ hA)
   ·simp only [z1q Cq] at hi
    exact Rl.Q0 i' ob hi
  exact AR (fin (w':=w) (by rw [hv];exact B2W hu)) (T E _ _ w H9 (R1.put fun t0 _=>dY t0) (Pr.refl _ _ _) (Q3.refl _))
 ·have B:=Rl.Q0 i _ hA
  simp only [RO] at B;have hne:A.2≠[]:=by intro h;rw [h] at s4;simp at s4;omega
  obtain ⟨c,TT,b1,b2,b3,b4,b5⟩:=B hne;have hmul:off * sz+len * sz<=A.2.length * sz:=by rw [<- zoq];exact z7q _ s4
  have G:=w9 E w.heap;have Aa:zv.cells.size=sz:=by have:=G.1;simp at this;omega
  have ow:∀ v∈zv.cells.toList,v.oneCell'=true:=by
   intro v hv;obtain ⟨j,hj,mY⟩:=zmq.1 hv;have hj2:j<zs.length:=by rw [G.1];exact hj
   exact (G.2 j _ v (z4q hj2) (by rw [z4q hj,mY])).1.2.1
  have Dh:(Builtin.zeroCells zv.cells len).toList.length=len * sz:=by rw [zSq,A7W,Aa]
  obtain ⟨w',hw,S⟩:=IB (P:=C.P) (E.base i+off * sz) (Builtin.zeroCells zv.cells len).toList c 0 w b1 (by omega) (A7X ow) (fun o _ _=>by simp)
  simp only [zAq] at S;have P1:Pr (fun t=>t = .obj i) E w.heap E w'.heap:=S.Pr b1 fun j h1 h2=>b4 j (by omega) (by omega)
  have hs:=P1.shut (by simp) Rl.fresh
  have R1:J6 E { st with sg:=st.sg.set i (.arr sz (A.2.take off)) } a w'.heap:=by
   refine ⟨Rl.size,Rl.AP,Rl.Bi,by simpa using Rl.n,fun t v hv=>(Rl.regs t v hv).mono P1 hs (by simp) (by simp),fun s' cs' Cz=>(Rl.boxes s' cs' Cz).mono P1 hs (by simp) (by simp),fun i' ob hi => ?_,fun b o' Ef=>Rl.fresh b o' (by rw [<- S.size];exact Ef)⟩
   by_cases Cq:i=i'
   ·subst Cq
    simp only [z2q IZ,Option.some.injEq] at hi;subst hi;simp only [RO];intro _;obtain ⟨c',wU,e2',e3'⟩:=S.ex;have J3:(A.2.take off).length * sz<=off * sz:=z7q _ (by rw [zzq];omega)
    refine ⟨c',TT,wU,by rw [e2'];omega,b3,fun o h1 h2=>b4 o h1 (by omega),fun j d hj => ?_⟩
    rw [y9q] at hj
    split at hj
    ·rename_i hjo
     obtain ⟨us,u1,u2,u3⟩:=b5 j d hj;refine ⟨us,u1,fun y q hq => ?_,u3.mono hs⟩
     have hy:y<sz:=by have:=(z0q.1 hq).1;omega
     have:j * sz+sz<=off * sz:=by rw [<- zxq];exact z7q _ hjo
     rw [e3',if_neg (by omega),u2 y q hq]
    ·cases hj
   ·simp only [z1q Cq] at hi
    exact (Rl.Q0 i' ob hi).mono P1 hs (CO Rl hi) (by simp;exact fun h=>Cq h.symm) (by simp)
  refine AR (fin (w':=w') ?_) (T E _ _ w' H9 (R1.put fun t0 _=>dY t0) (P1.weaken (by rintro T rfl;simp [L8])) S.out)
  rw [hv,f1 hp];exact B4J hu AY Pv hp hw
end
end Go.Su

/-
 THE DATA MACHINE, part 14: vectors grow.
-/
namespace Go.Su
section
variable {X:Type} {C:X4} {R:O4} {o:Oper} {st:St} {k:St->Option X} {x:X} {E:Env} {a:Act} {w:World} {K:Act->World->Prop} {Q:Exit->Act->World->Prop}
def Env.A5w (E:Env) (i n:Nat):Env:={ E with Al:=fun j=>if j=i then n else E.Al j }
def Env.B1I (E:Env) (i n b hi:Nat):Env :=
 { E with obj:=fun j=>if j=i then b else E.obj j,base:=fun j=>if j=i then 0 else E.base j,top:=fun j=>if j=i then hi else E.top j,Al:=fun j=>if j=i then n else E.Al j,
          O:=fun b' o=>if b'=b then (if o<hi then .obj i else .other) else if E.O b' o = .obj i then .other else E.O b' o }
theorem B5i {E:Env} {h:Heap} {i b off top n sz:Nat} {ds es:List DV} {all all':List Value} {c:Array Value} {T:TypeId} {f:Nat × Nat} (ho:E.obj i=b) (hb:E.base i=off) (ht:E.top i=top) (hv:E.Al i=n) (hn:0<n) (hpos:0<sz) (hc:h[b]?=some (.cells c T f)) (Dx:off+(ds.length+es.length) * sz<=top) (Fe:top<=c.size) (tags:∀ o,off<=o->o<top->E.O b o = .obj i/\¬(f.1<=o/\o<f.2)) (F:Gl E.S h sz ds all) (G:Gl E.S h sz es all') (cells:∀ (j:Nat) u,all[j]?=some u->c[off+j]?=some u) (cells':∀ (j:Nat) u,all'[j]?=some u->c[off+ds.length * sz+j]?=some u):RO E h i (.U1 n sz (ds++es)):=by
 simp only [RO];rw [ho,hb,ht];refine ⟨hv,hn,hpos, .inr ⟨c,T,f,hc,by rw [List.length_append];exact Dx,Fe,tags,fun j d hd => ?_⟩⟩
 by_cases hj:j<ds.length
 ·rw [z5q hj] at hd
  obtain ⟨vs,v1,v2,v3⟩:=F.2 j d hd;exact ⟨vs,v1,fun y u hu=>by rw [zOq];exact cells _ u (v2 y u hu),v3⟩
 ·rw [z6q (by omega)] at hd
  obtain ⟨vs,v1,v2,v3⟩:=G.2 _ d hd;refine ⟨vs,v1,fun y u hu => ?_,v3⟩
  have:=cells' _ u (v2 y u hu);have e:j * sz=ds.length * sz+(j-ds.length) * sz:=by rw [<- zoq];congr 1;omega
  rw [e]
  rwa [show off+(ds.length * sz+(j-ds.length) * sz)+y=off+ds.length * sz+((j-ds.length) * sz+y) by omega]
theorem B6Z {E:Env} {h:Heap} {i n sz m:Nat} {ds:List DV} (H:RO E h i (.U1 n sz ds)) (hm:m<=ds.length):∃ all,Gl E.S h sz (ds.take m) all/\∀ (j:Nat) u,all[j]?=some u->hc h (E.obj i) (E.base i+j)=some u:=by
 simp only [RO] at H;obtain ⟨-,-,hz,H⟩:=H;rcases H with ⟨rfl,-⟩ | ⟨c,T,f,h1,h2,Pq,h3,h5⟩
 ·have:m=0:=by simpa using hm
  subst this;exact ⟨[],⟨by simp,by simp⟩,by simp⟩
 have hmul:m * sz<=ds.length * sz:=z7q _ hm;have Aa:(c.toList.drop (E.base i)).take (m * sz)=(c.toList.drop (E.base i)).take (m * sz):=rfl;refine ⟨(c.toList.drop (E.base i)).take (m * sz),⟨?_,fun j d hd => ?_⟩,fun j u hu => ?_⟩
 ·simp only [zzq,List.length_drop,zSq]
  rw [yfq (by omega),yfq hm]
 ·have hj:j<m:=by have:=(z0q.1 hd).1;simp only [zzq] at this;omega
  rw [zEq hj] at hd;obtain ⟨vs,v1,v2,v3⟩:=h5 j d hd;refine ⟨vs,v1,fun y u hu => ?_,v3⟩
  have hy:y<sz:=by have:=(z0q.1 hu).1;omega
  have M4:j * sz+y<m * sz:=by
   calc j * sz+y<j * sz+sz:=by omega
    _=(j+1) * sz:=by rw [zxq]
    _<=m * sz:=z7q _ hj
  rw [zEq M4,yaq,<- zOq,y0q];exact v2 y u hu
 ·have hj:j<m * sz:=by have:=(z0q.1 hu).1;simp only [zzq] at this;omega
  rw [zEq hj,yaq,y0q] at hu;unfold hc;rw [h1];exact hu
theorem B6K {fl:Flags} {c:Call} {y v:Operand} {t u:TypeId} (D9:o.op = .call c) (A8U:c.callee = .builtin .append) (ha:c.args.toList=[y,v]) (ht:c.argTypes.toList=[t,u]) (Qk:J4 fl.FF o.dst=true) (H:FT C fl o y v t u st k=some x) (Rl:J6 E st a w.heap) (T:Then E w k x K):Gp C.P o a w K:=by
 unfold FT at H;rw [if_pos Qk] at H;unfold A4u at H;obtain ⟨r,h1,H⟩:=A9 H;obtain ⟨s,h2,H⟩:=A9 H;obtain ⟨sz,Aa,H⟩:=A9 H;obtain ⟨hc',H⟩:=F4 H;simp only [zcq] at hc';obtain ⟨Yd,FE⟩:=hc';obtain ⟨t0,FE⟩:=zyq.1 FE;obtain ⟨e,e',z,inf,zv,hu,Ia,hz,E_,hpos,AY,dV,Pv,VO⟩:=Zb Aa;have e1:=Rl.src h1;have e2:=(Rl.src h2).data Yd;have Eg:inf.size=sz:=by
  obtain ⟨i',d',q1,-,q2,-⟩:=GV hz;rw [AY] at q1;simp only [Option.some.injEq] at q1;rw [<- E_,q2,q1]
 have O8:∀ v' w',(Builtin.append_ #[t,u] o.type #[a.eval y,a.eval v]).run C.P w = .ok v' w'->(execOp a.eval o).run C.P w = .ok (.value v') w':=by
  intro v' w' hv;refine Ea D9 A8U ?_;rw [Sg ht,show c.args.map a.eval = #[a.eval y,a.eval v] from by rw [Sg ha];simp]
  exact Ab hv
 rw [FE] at H;have hn:=Rl.n;obtain ⟨q,hq,H⟩:=A9 H
 ·have hm:=A5v hq
  rw [hm] at e1;simp only [RR,J8] at e1;obtain ⟨p,hp,H⟩:=A9 H;obtain ⟨hg,H⟩:=F4 H;obtain ⟨d2,hd,H⟩:=A9 H;simp only [zcq,beq_iff_eq,decide_eq_true_eq] at hg;obtain ⟨⟨g1,g2⟩,g3⟩:=hg;have zI:=Zx hp;clear hp;obtain ⟨i,n,sz',len⟩:=q;obtain ⟨psz,ds⟩:=p;simp only at g1 g2 g3 zI e1 H;have g1:=g1.symm;have g2:=g2.symm;subst g1;subst g2;obtain ⟨ds',es,hr,hs,dW,hne,rfl⟩:=A4d hd;simp only [DV.list.injEq,true_and] at hr;subst hr;simp only at H;rw [hs] at e2;obtain ⟨b',len',cap',all',ev',k1,k2,k3,k4,k5,k6,k7⟩:=PI (P:=C.P) e2;obtain ⟨r1,r2,r3,b,cap,ev,f2,f3,f4,f5⟩:=e1;have B:=Rl.Q0 i _ zI;have BB:=B;simp only [RO] at BB;obtain ⟨bv,b0,-,BB⟩:=BB;have f5:=f5 bv;obtain ⟨all,F,Fc⟩:=B6Z B g3;have M4:(ds.take len).length=len:=by rw [zzq];omega
  have Qi:Builtin.lenOf (a.eval v)=pure len':=by rw [ev'];rfl
  have ow:=k4.one hpos;have hal:all.length=len * sz:=by rw [F.1,M4]
  have B9X:all'.length=len' * sz:=by rw [k4.1,k1]
  have IZ:=(z0q.1 zI).1;have hln:0<len':=by omega
  have A4K:(len+len') * sz=len * sz+len' * sz:=zoq _ _ _
  by_cases Dx:len+len'<=cap
  ·obtain ⟨hb,B2p⟩:=f5 (by omega)
   subst hb;have hc0:0<cap * sz:=yiq (by omega) hpos
   obtain ⟨cc,TT,f,c1,c2,c2',c3,c5⟩:=BB.resolve_left fun h=>by have:=h.2;omega
   have hmul:(len+len') * sz<=cap * sz:=z7q _ Dx;obtain ⟨w',hw,S⟩:=IB (P:=C.P) (b:=E.obj i) (T:=TT) (f:=f) (E.base i+len * sz) all' cc 0 w c1 (by omega) ow (fun o' h3 h4=>(c3 o' (by omega) (by omega)).2)
   have Aw:(Builtin.append_ #[t,u] o.type #[a.eval y,a.eval v]).run C.P w = .ok (.slice (some ⟨E.obj i,E.base i,none⟩) (len+len') cap) w':=by
    rw [ev];refine JY hu Ia AY Qi (by rw [Eg];exact k7 w rfl) Dx ?_
    rw [Eg,Addr.add_lit];exact hw
   simp only [zAq] at S;have vE:(E.A5w i (n+1)).Al i=n+1:=if_pos rfl;have PS:Pr (fun T=>T = .obj i) E w.heap (E.A5w i (n+1)) w'.heap:=by
    refine ⟨zPq S.size.symm,fun b1 Jq => ?_,fun b1 o1 Jq hT=>rfl,zfq _,fun j hj _=>⟨rfl,rfl,rfl⟩,fun _ _=>rfl,fun j hj => ?_⟩
    ·by_cases ZK:b1=E.obj i
     ·subst ZK
      rw [c1];obtain ⟨c',q1,q2,q3⟩:=S.ex;refine ⟨c',q1,q2,fun j hj => ?_⟩
      rw [q3 j,if_neg];rintro ⟨q4,q5⟩;exact hj (c3 j (by omega) (by omega)).1
     ·rw [S.rest b1 ZK];exact U6.refl _ _
    ·by_cases hji:j=i
     ·subst hji
      rw [vE];exact ⟨fun h=>by omega,by omega,fun h=>absurd rfl h⟩
     ·have:(E.A5w i (n+1)).Al j=E.Al j:=if_neg hji
      rw [this];exact ⟨id,zfq _,fun _=>rfl⟩
   have Ez:=PS.shut (by simp) Rl.fresh
   have R2:J6 (E.A5w i (n+1)) { st with sg:=st.sg.set i (.U1 (n+1) sz (ds.take len++es)) } a w'.heap:=by
    refine ⟨Rl.size,Rl.AP,Rl.Bi,by simpa [Env.A5w] using hn,fun q vq hq=>(Rl.regs q vq hq).mono PS Ez (by simp) (by simp),fun s' cs' Cz=>(Rl.boxes s' cs' Cz).mono PS Ez (by simp) (by simp),fun i' ob hi => ?_,fun b1 o1 Jq=>Rl.fresh b1 o1 (by rw [<- S.size];exact Jq)⟩
    by_cases Cq:i=i'
    ·subst Cq
     simp only [z2q IZ,Option.some.injEq] at hi;subst hi;obtain ⟨c',q1,q2,q3⟩:=S.ex;refine B5i (all:=all) (all':=all') (off:=E.base i) (top:=E.top i) rfl rfl rfl vE (zXq _) hpos q1 (by rw [M4];rw [<- k1];omega) (by rw [q2];exact c2') (fun o' h3 h4=>c3 o' h3 h4) (F.mono Ez) (k4.mono Ez) (fun j u hu => ?_) fun j u hu => ?_
     ·have uQ:j<all.length:=(z0q.1 hu).1
      have:=Fc j u hu;unfold Su.hc at this;rw [c1] at this;rw [q3,if_neg (by omega)]
      exact this
     ·have uQ:j<all'.length:=(z0q.1 hu).1
      rw [M4,q3,if_pos (by omega),<- hu]
      congr 1
      omega
    ·simp only [z1q Cq] at hi
     exact (Rl.Q0 i' ob hi).mono PS Ez (CO Rl hi) (by simp;exact fun h=>Cq h.symm) (by simp)
   refine AR (O8 _ _ Aw) (T _ _ _ w' H ?_ (PS.weaken (by rintro T rfl;simp [L8])) S.out)
   rw [FE];refine R2.put fun t1 uT => ?_
   refine RR.Ad ⟨r1,zXq _,by rw [vE];exact zfq _,some ⟨E.obj i,E.base i,none⟩,cap,by rw [M4,k1],by rw [M4,<- k1];exact Dx,by simp,fun _ q hq => ?_,fun _ _=>⟨rfl,B2p⟩⟩
   simp only [Option.some.injEq] at hq;rw [<- hq]
  ·-- a new block
   have B92:∀ w':World,w'.heap=w.heap->(Builtin.firstCells inf.size len (.slice b len cap)).run C.P w' = .ok all.toArray w':=by
    intro w' hw';cases b with
    | none =>
      have h0:=f3 rfl;have h9:all=[]:=zhq (by rw [hal,show len=0 by omega];simp)
      rw [h9,show len=0 by omega]
      rfl
    | some y' =>
      show (loadCells y' (len * inf.size)).run C.P w'=_
      rw [Eg]
      by_cases h0:0<cap
      ·obtain ⟨hb,-⟩:=f5 h0
       simp only [Option.some.injEq] at hb;rw [<- hal,hb];exact WH (fun j u hu=>by rw [hw'];exact Fc j u hu)
      ·have h9:all=[]:=zhq (by rw [hal,show len=0 by omega];simp)
       rw [h9,show len=0 by omega,zJq]
       rfl
   obtain ⟨nc,hnc,Aw⟩:=run_append_grow (ty:=o.type) (b:=b) hu Ia AY Qi (by rw [Eg];exact k7) B92 Pv Dx (by unfold lim at dW;rw [M4] at dW;omega) dV
   rw [<- ev] at Aw;have Un:(Builtin.zeroCells zv.cells (nc-(len+len'))).toList.length=(nc-(len+len')) * sz:=by simp [Builtin.zeroCells,VO]
   have C0e:(len+len') * sz+(nc-(len+len')) * sz=nc * sz:=by rw [<- zoq];congr 1;omega
   generalize hzc:(Builtin.zeroCells zv.cells (nc-(len+len'))).toList=zc at Aw Un
   let E2:=E.B1I i (n+1) w.heap.size (nc * sz)
   have vE:E2.Al i=n+1:=if_pos rfl;have oE:E2.obj i=w.heap.size:=if_pos rfl;have bE:E2.base i=0:=if_pos rfl;have tE:E2.top i=nc * sz:=if_pos rfl;have PS:Pr (fun T=>T = .obj i) E w.heap E2 (w.heap.push (.cells (all++all'++zc).toArray e)):=by
    refine Pr.push (fun b1 o1 Jq hT => ?_) (zfq _) (fun j hj hvj => ?_) (fun _ _=>rfl) (fun j hj => ?_)
    ·show (if _ then _ else _)=_
     rw [if_neg (by omega),if_neg hT]
    ·have hji:j≠i:=fun h=>by subst h;rw [vE] at hvj;omega
     refine ⟨?_, ?_, ?_⟩ <;> (show (if _ then _ else _)=_;rw [if_neg hji])
    ·by_cases hji:j=i
     ·subst hji
      rw [vE];exact ⟨fun h=>by omega,by omega,fun h=>absurd rfl h⟩
     ·have:E2.Al j=E.Al j:=if_neg hji
      rw [this];exact ⟨id,zfq _,fun _=>rfl⟩
   have Ez:=PS.shut (by simp) Rl.fresh
   have Fq:∀ (j:Nat),hc (w.heap.push (.cells (all++all'++zc).toArray e)) w.heap.size j=(all++all'++zc)[j]?:=fun j=>by rw [zB];simp
   have R2:J6 E2 { st with sg:=st.sg.set i (.U1 (n+1) sz (ds.take len++es)) } a (w.heap.push (.cells (all++all'++zc).toArray e)):=by
    refine ⟨Rl.size,Rl.AP,Rl.Bi,by simpa [E2,Env.B1I] using hn,fun q vq hq=>(Rl.regs q vq hq).mono PS Ez (by simp) (by simp),fun s' cs' Cz=>(Rl.boxes s' cs' Cz).mono PS Ez (by simp) (by simp),fun i' ob hi => ?_,fun b1 o1 Jq => ?_⟩
    ·by_cases Cq:i=i'
     ·subst Cq
      simp only [z2q IZ,Option.some.injEq] at hi;subst hi;refine B5i (all:=all) (all':=all') oE bE tE vE (zXq _) hpos Lr (by rw [M4,<- k1];omega) (by simp;omega) (fun o' h3 h4=>⟨?_,by simp⟩) (F.mono Ez) (k4.mono Ez) (fun j u hu => ?_) fun j u hu => ?_
      ·show (if _ then _ else _)=_
       rw [if_pos rfl,if_pos h4]
      ·have uQ:j<all.length:=(z0q.1 hu).1
       rw [zeq,zLq,zKq,z5q uQ];exact hu
      ·have uQ:j<all'.length:=(z0q.1 hu).1
       rw [M4,zeq,zLq,zKq,z6q (by omega),z5q (by omega),<- hu]
       congr 1
       omega
     ·simp only [z1q Cq] at hi
      exact (Rl.Q0 i' ob hi).mono PS Ez (CO Rl hi) (by simp;exact fun h=>Cq h.symm) (by simp)
    ·simp only [y8q] at Jq
     show (if _ then _ else _)=_
     rw [if_neg (by omega),if_neg]
     ·exact Rl.fresh b1 o1 (by omega)
     ·rw [Rl.fresh b1 o1 (by omega)];simp
   refine AR (O8 _ _ Aw) (T _ _ _ (w.drew.alloc (.cells (all++all'++zc).toArray e)) H ?_ (PS.weaken (by rintro T rfl;simp [L8])))
   rw [FE];refine R2.put fun t1 uT => ?_
   refine RR.Ad ⟨r1,zXq _,by rw [vE];exact zfq _,some ⟨w.heap.size,0,none⟩,nc,by rw [M4,k1],by rw [M4,<- k1];exact hnc,by simp,fun _ q hq => ?_,fun _ _=>⟨by rw [oE,bE],by rw [bE,tE,zeq];exact zfq _⟩⟩
   simp only [Option.some.injEq] at hq;rw [<- hq]
end
end Go.Su

/-
 THE DATA MACHINE, part 18: one operation, whichever it is.
-/
namespace Go.Su
section
variable {X:Type} {C:X4} {R:O4} {o:Oper} {st:St} {k:St->Option X} {x:X} {E:Env} {a:Act} {w:World} {K:Act->World->Prop} {Q:Exit->Act->World->Prop}
open Classical in
noncomputable def Env.C0s (E:Env) (n b off m tp:Nat):Env :=
 { E with obj:=fun i=>if i=E.n then b else E.obj i,base:=fun i=>if i=E.n then off else E.base i,top:=fun i=>if i=E.n then tp else E.top i,n:=E.n+1,Al:=fun i=>if i=E.n then 0 else E.Al i,
          O:=fun b' o=>if b'<n then E.O b' o else if b'=b/\off<=o/\o<off+m then .obj E.n else .other }
variable {f:FuncId} {v:Value}
theorem B4P {r:DV × Meta} {sz:Nat} {ds:List DV} (hO:C_ C R) (hc:C.clone f=true) (O8:(execOp a.eval o).run C.P w = .ok (.enter f #[v]) w) (hd:J5 r.2=true) (C24:sz=C.kU f) (hl0:ds.length<=lim) (hr:r.1 = .list sz ds) {p q:Nat} (hv:RR E w.heap p q r.1 r.2 v) (H:k ({ st with sg:=st.sg++[D8.arr sz ds] }.put o.dst .undef (.arr st.sg.length sz 0 ds.length))=some x) (Rl:J6 E st a w.heap) (T:Then E w k x K):Gp C.P o a w K:=by
 have hS:∀ b o,w.heap.size<=b->¬ E.S b o:=fun b o hb hs=>by have h9:=Rl.fresh b o hb;rw [show E.O b o=Tag.shut from hs] at h9;cases h9
 have Ul:=(hO.c f hc).2;rw [<- C24] at Ul;refine fM O8 ((Ul E.S w v ds hl0 hS (by rw [<- hr];exact hv.data hd)).mono ?_)
 rintro e w' ⟨a0,b,off,cap,he,ha0,zC,B2h,B2o,Aa,WG,hblk,B2m⟩;subst he
 let E':=E.C0s w.heap.size b off (ds.length * sz) (off+cap * sz)
 have Pc:Pr (fun _=>False) E w.heap E' w'.heap:=by
  refine ⟨Aa,fun b' hb=>by rw [hblk b' hb];exact U6.refl _ _,fun b' o hb _ => ?_,yjq _,fun i hi _ => ?_,fun _ _=>rfl,aK rfl⟩
  ·show (if b'<w.heap.size then E.O b' o else _)=_
   rw [if_pos hb]
  ·have:i≠E.n:=by omega
   exact ⟨if_neg this,if_neg this,if_neg this⟩
 have J3:=Pc.shut (by simp) Rl.fresh
 have n0:st.sg.length=E.n:=Rl.n;have R2:J6 E' { st with sg:=st.sg++[D8.arr sz ds] } a w'.heap:=by
  refine ⟨Rl.size,Rl.AP,Rl.Bi,by simp [n0];rfl,fun t v hv=>(Rl.regs t v hv).mono Pc J3 (by simp) (by simp),fun s cs hs=>(Rl.boxes s cs hs).mono Pc J3 (by simp) (by simp),fun i ob hi => ?_,fun b' o hb => ?_⟩
  ·by_cases iE:i<st.sg.length
   ·rw [z5q iE] at hi
    exact (Rl.Q0 i ob hi).mono Pc J3 (by rw [<- n0];exact iE) (by simp) (by simp)
   ·rw [z6q (zMq iE)] at hi
    have hi0:i-st.sg.length=0:=by
     have:=(z0q.1 hi).1;simpa using this
    have hie:i=E.n:=by omega
    rw [hi0] at hi;simp only [zgq,Option.some.injEq] at hi;subst hi hie;simp only [RO];intro hne;obtain ⟨hb,c,T0,h1,h2,h3,h4⟩:=B2m hne;have e1:E'.obj E.n=b:=if_pos rfl;have e2:E'.base E.n=off:=if_pos rfl;rw [e1,e2];refine ⟨c,T0,h1,h2,h3,fun o ho1 ho2 => ?_,fun j d hj => ?_⟩
    ·show (if b<w.heap.size then E.O b o else if b=b/\off<=o/\o<off+ds.length * sz then Tag.obj E.n else .other)=_
     rw [if_neg (by omega),if_pos ⟨rfl,ho1,ho2⟩]
    ·obtain ⟨vs,v1,v2,v3⟩:=h4 j d hj
     refine ⟨vs,v1,v2,v3.mono ⟨fun b' o hs => ?_,fun _ _ _ _ hv=>hv⟩⟩
     exact J3.s b' o hs
  ·show (if b'<w.heap.size then E.O b' o else if b'=b/\off<=o/\o<off+ds.length * sz then Tag.obj E.n else .other)=_
   rw [if_neg (by omega)]
   split
   ·rename_i h
    by_cases hne:ds=[]
    ·subst hne;simp at h;omega
    ·obtain ⟨-,c,T0,h1,-⟩:=B2m hne
     have:=(zdq.1 h1).1;omega
   ·rfl
 refine ⟨_,rfl,T E' _ _ w' H (R2.put fun t _ => ?_) (Pc.weaken (by simp)) WG⟩
 simp only [RR,J8];refine ⟨⟨by rw [n0];exact Nat.lt_succ_self _,by rw [n0];exact if_pos rfl⟩,_,_,rfl,fun hpos => ?_,zC,B2h,B2o,fun _=>by rw [n0,zeq];exact zPq ((congrArg (· + cap * sz) (if_pos rfl)).trans (if_pos rfl).symm)⟩
 rw [n0,ha0 (fun h=>by rw [h] at hpos;exact Nat.lt_irrefl 0 hpos)]
 have e1:E'.obj E.n=b:=if_pos rfl;have e2:E'.base E.n=off:=if_pos rfl;rw [e1,e2];simp
variable {cs:List DV}
theorem B3q {d:DV} (h:B5q d=some cs):d = .agg cs:=by
 cases d <;> simp only [B5q,reduceCtorEq,Option.some.injEq] at h;rw [h]
theorem B8R {g:FuncId} {r:DV × Meta} (hO:C_ C R) (hc:C.iL f=some g) (O8:(execOp a.eval o).run C.P w = .ok (.enter f #[v]) w) (hd:J5 r.2=true) (hr:r.1 = .agg cs) (hl:cs.length=C.kU f) {p q:Nat} (hv:RR E w.heap p q r.1 r.2 v) (H:k ({ st with sg:=st.sg++[D8.box (cs.map fun d=>(d, .val))] }.put o.dst .undef (.fn g [(st.sg.length,0)]))=some x) (Rl:J6 E st a w.heap) (T:Then E w k x K):Gp C.P o a w K:=by
 have h1:=hv.data hd;rw [hr] at h1;simp only [RV] at h1;obtain ⟨vs,rfl,h2⟩:=h1;obtain ⟨l1,h3⟩:=Eo.1 h2;have l2:vs.size=C.kU f:=by rw [<- hl,l1];simp
 refine fM O8 (((hO.m f g hc).2 w vs l2).mono ?_);rintro e w' ⟨rfl,T0,rfl⟩;have cok:GI E w.heap (cs.map fun d=>(d,Meta.val)) vs.toList:=by
  refine ⟨by simp [l1],fun j r' u hj hu => ?_⟩
  simp only [zvq,znq] at hj;obtain ⟨d,ES,rfl⟩:=hj;obtain ⟨a1,a2⟩:=h3 j d u ES hu;exact ⟨⟨a1,JH a1 a2,rfl,LZ a1 a2⟩,by simp⟩
 obtain ⟨R1,P1⟩:=Rl.newObj (T0:=T0) cok;refine ⟨_,rfl,T _ _ _ (w.alloc (.cells vs T0)) H (R1.put fun t0 _ => ?_) (P1.weaken (by simp)) ⟨rfl,rfl,rfl⟩⟩
 have hn:=Rl.n;simp only [RR,J8,Env.newObj];refine ⟨?_,fun c hc => ?_⟩
 ·simp [hn]
 ·simp only [zwq] at hc
  subst hc;simp [Env.In,hn]
theorem B4N {ts:List TypeId} {xs:List Operand} {rs extra:List (DV × Meta)} {ev:List Value} (hO:C_ C R) (O8:isGo C.P f=true->(execOp a.eval o).run C.P w = .ok (.enter f (xs.map a.eval++ev).toArray) w) (hsr:Ie C.P st ts xs=some rs) (hel:extra.length=ev.length) (Fz:∀ (i:Nat) r v,extra[i]?=some r->ev[i]?=some v->∀ p q,RR E w.heap p q r.1 r.2 v/\r.2 ≠ .own/\r.2 ≠ .full) (H:JI C R o f xs (rs++extra) st k=some x) (Rl:J6 E st a w.heap) (T:Then E w k x K):Gp C.P o a w K:=by
 obtain ⟨l1,l2⟩:=A0b Rl hsr;have all:∀ (i:Nat) r v,(rs++extra)[i]?=some r->(xs.map a.eval++ev)[i]?=some v->∃ p q,RR E w.heap p q r.1 r.2 v:=by
  intro i r v hr hv
  by_cases hi:i<rs.length
  ·rw [z5q hi] at hr
   rw [z5q (by simpa [l1] using hi)] at hv
   obtain ⟨y,t,hy,rfl,hsy,hRy⟩:=l2 i r v hr hv;exact ⟨_,_,hRy⟩
  ·have hge:rs.length<=i:=zMq hi
   rw [z6q hge] at hr;rw [z6q (by simpa [l1] using hge)] at hv
   simp only [zQq,<- l1] at hv;exact ⟨0,0,(Fz _ r v hr hv 0 0).1⟩
 have Dh:(rs++extra).length=(xs.map a.eval++ev).length:=by simp [l1,hel]
 unfold JI at H
 split at H
 ·rename_i hc
  split at H
  ·rename_i r hrs
   ·obtain ⟨p,hp,H⟩:=A9 H
    obtain ⟨sz,ds⟩:=p;have hr1:r.1 = .list sz ds:=by
     cases hr:r.1 <;> rw [hr] at hp <;> simp only [Wp,reduceCtorEq,Option.some.injEq,Prod.mk.injEq] at hp;obtain ⟨rfl,rfl⟩:=hp;rfl
    obtain ⟨hd,H9⟩:=F4 H;simp only [zcq,beq_iff_eq,decide_eq_true_eq] at hd;obtain ⟨⟨hd,hz⟩,hl0⟩:=hd;simp only [<- hz] at H9;rw [hrs] at Dh;obtain ⟨v,hv⟩:=zuq.1 (Dh.symm:(xs.map a.eval++ev).length=1);obtain ⟨p,q,hR⟩:=all 0 r v (by rw [hrs];rfl) (by rw [hv];rfl)
    have:=O8 (hO.c f hc).1;rw [hv] at this;exact B4P hO hc this hd hz hl0 hr1 hR H9 Rl @T
  ·simp at H
 ·split at H
  ·rename_i g hg
   split at H
   ·rename_i r hrs
    obtain ⟨cs,Fe,H⟩:=A9 H;obtain ⟨hd,H9⟩:=F4 H;simp only [zcq,beq_iff_eq] at hd;rw [hrs] at Dh;obtain ⟨v,hv⟩:=zuq.1 (Dh.symm:(xs.map a.eval++ev).length=1);obtain ⟨p,q,hR⟩:=all 0 r v (by rw [hrs];rfl) (by rw [hv];rfl)
    have:=O8 (hO.m f g hg).1;rw [hv] at this;exact B8R hO hg this hd.1 (B3q Fe) hd.2 hR H9 Rl @T
   ·simp at H
  split at H
  ·have hp:isGo C.P f=true:=by
    obtain ⟨_,H1⟩:=F4 H;obtain ⟨d,hd,_⟩:=A9 H1;exact (hO.p f _ d hd).1
   exact B6I hO (O8 hp) Dh all H Rl @T
  ·rename_i s hs
   have hp:isGo C.P f=true:=by
    obtain ⟨_,H1⟩:=F4 H;obtain ⟨d,hd,_⟩:=A9 H1;obtain ⟨_,_,h,_⟩:=hO.r f _ _ d hd;exact h
   exact B8S hO hs (O8 hp) hsr hel Fz H Rl @T
variable {fl:Flags}
theorem B6D {c:Call} (hO:C_ C R) (D9:o.op = .call c) (H:FL C R fl o c st k=some x) (Rl:J6 E st a w.heap) (T:Then E w k x K):Gp C.P o a w K:=by
 unfold FL at H
 split at H
 ·rename_i b hb
  split at H
  ·rename_i h1 h2;exact B8O D9 hb h1 h2 H Rl @T
  ·rename_i h1 h2
   cases Qk:J4 fl.FF o.dst
   ·cases iD:J4 fl.opn o.dst
    ·exact B20 D9 hb h1 h2 iD Qk H Rl @T
    ·exact A5Y D9 hb h1 h2 iD Qk H Rl @T
   ·exact B6K D9 hb h1 h2 Qk H Rl @T
  ·rename_i h1 h2;exact B4O D9 hb h1 h2 H Rl @T
  ·rename_i h1 h2;exact B8P D9 hb h1 H Rl @T
  ·rename_i h1 h2;exact B8Q D9 hb h1 H Rl @T
  ·simp at H
 ·rename_i fv hfv
  obtain ⟨r,h1,H1⟩:=A9 H;obtain ⟨rs,h2,H2⟩:=A9 H1
  split at H2
  ·rename_i f caps hr
   have hfn:=Rl.src h1;rw [hr] at hfn;simp only [RR,J8] at hfn;refine B4N (ts:=c.argTypes.toList) (ev:=caps.map fun c=>Value.pointer (some ⟨E.obj c.1,c.2,none⟩)) hO (fun hg => ?_) h2 (by simp) (fun i r' v Aw hv p q => ?_) H2 Rl @T
   ·simp only [execOp,D9,resolve,hfv,hfn.1,Deferred.ofValue,Sem.run_bind,Sem.run_pure,Result.andThen_ok,invoke]
    rw [U_ hg]
    congr 2
    apply Array.ext';simp
   ·simp only [zvq,znq] at Aw hv
    obtain ⟨m,hm,rfl⟩:=Aw;obtain ⟨m',Ps,rfl⟩:=hv;rw [hm] at Ps;cases Ps;refine ⟨?_,by simp,by simp⟩
    simp only [RR,J8];exact ⟨hfn.2 m (zkq hm),trivial⟩
  ·simp at H2
 ·simp at H
theorem C0Z (hO:C_ C R) (H:I7 C R fl o st k=some x) (Rl:J6 E st a w.heap) (T:Then E w k x K):Gp C.P o a w K:=by
 unfold I7 at H
 split at H
 ·rename_i y D9;exact A9F (by simp [execOp,D9]) H Rl @T
 ·rename_i y D9;exact A9F (by simp [execOp,D9]) H Rl @T
 ·rename_i D9;exact B6H D9 H Rl @T
 ·rename_i D9;exact B4L D9 H Rl @T
 ·rename_i D9;exact B8L D9 H Rl @T
 ·rename_i D9;exact B4M D9 H Rl @T
 ·rename_i D9;exact A5Z D9 H Rl @T
 ·rename_i D9;exact B6G D9 H Rl @T
 ·rename_i D9;exact B4T D9 H Rl @T
 ·rename_i D9;exact A9G D9 H Rl @T
 ·rename_i D9;exact B8K D9 H Rl @T
 ·rename_i D9;exact C00 D9 H Rl @T
 ·rename_i D9;exact B6E D9 H Rl @T
 ·rename_i D9;exact A7v D9 H Rl @T
 ·rename_i D9;exact B4Q D9 H Rl @T
 ·rename_i D9;exact A7w D9 H Rl @T
 ·rename_i D9;exact B4R D9 H Rl @T
 ·rename_i D9;exact B4S D9 H Rl @T
 ·rename_i D9;exact A9E D9 H Rl @T
 ·rename_i D9;obtain ⟨q,_,H9⟩:=A9 H;exact B0O D9 H9 Rl @T
 ·rename_i D9;exact B21 D9 H Rl @T
 ·rename_i D9;exact A7x D9 H Rl @T
 ·rename_i D9;exact B0N D9 H Rl @T
 ·rename_i D9;exact B6D hO D9 H Rl @T
 ·simp at H
end
end Go.Su

/-
 THE DATA MACHINE, part 19: an operation sees what its footprint says, and writes what it says.
-/
namespace Go.Su
theorem K3 {α β : Type} (a : α) (g : α -> Option β):ob (some a) g=g a:=rfl
theorem S9 {β : Type} (y:Option β):og true y=y:=rfl
structure GH (f:Fp) (st st':St):Prop where
 lt:st'.tm.length=st.tm.length
 lm:st'.mt.length=st.mt.length
 lb:st'.bx.length=st.bx.length
 t:∀ i∈f.rt,st'.tm[i]?=st.tm[i]?/\st'.mt[i]?=st.mt[i]?
 b:∀ i∈f.rb,st'.bx[i]?=st.bx[i]?
 s:f.rs=true->st'.sg=st.sg
 n:∀ t,f.nb=some t->KC t st'.mt=true
structure Two (f:Fp) (st st' s s':St):Prop where
 l:st'.tm.length=st.tm.length/\st'.mt.length=st.mt.length/\st'.bx.length=st.bx.length
 ls:s.tm.length=st.tm.length/\s.mt.length=st.mt.length/\s.bx.length=st.bx.length
 ls':s'.tm.length=st.tm.length/\s'.mt.length=st.mt.length/\s'.bx.length=st.bx.length
 t:∀ i:Nat,(i∈f.wt/\s'.tm[i]?=s.tm[i]?/\s'.mt[i]?=s.mt[i]?)\/((s'.tm[i]?=st'.tm[i]?/\s'.mt[i]?=st'.mt[i]?)/\s.tm[i]?=st.tm[i]?/\s.mt[i]?=st.mt[i]?)
 b:∀ i:Nat,(i∈f.wb/\s'.bx[i]?=s.bx[i]?)\/(s'.bx[i]?=st'.bx[i]?/\s.bx[i]?=st.bx[i]?)
 s:(f.ws=true/\s'.sg=s.sg)\/(s'.sg=st'.sg/\s.sg=st.sg)
variable {f:Fp} {st:St} {st':St}
theorem Two.refl (A:GH f st st'):Two f st st' st st' :=
 ⟨⟨A.lt,A.lm,A.lb⟩,⟨rfl,rfl,rfl⟩,⟨A.lt,A.lm,A.lb⟩,fun _ => .inr ⟨⟨rfl,rfl⟩,rfl,rfl⟩,fun _ => .inr ⟨rfl,rfl⟩, .inr ⟨rfl,rfl⟩⟩
theorem Two.put {s s':St} (A:Two f st st' s s') {dst:Option Nat} (hd:∀ t∈dst.toList,t∈f.wt) (d:DV) (m:Meta):Two f st st' (s.put dst d m) (s'.put dst d m):=by
 cases dst with
 | none=>exact A
 | some t =>
   have ht:t∈f.wt:=hd t (by simp)
   obtain ⟨l,ls,ls',a1,a2,a3⟩:=A;refine ⟨l,by simpa [St.put] using ls,by simpa [St.put] using ls',fun i => ?_,a2,a3⟩
   by_cases hi:t=i
   ·subst hi
    refine .inl ⟨ht, ?_, ?_⟩
    ·simp only [St.put,zrq]
     rcases zsq t st.tm.length with h | h
     ·rw [z4q (by omega),z4q (by omega)];rfl
     ·rw [z8q (by omega),z8q (by omega)]
    ·simp only [St.put,zrq]
     rcases zsq t st.mt.length with h | h
     ·rw [z4q (by omega),z4q (by omega)];rfl
     ·rw [z8q (by omega),z8q (by omega)]
   ·simp only [St.put,z1q hi]
    exact a1 i
variable {t:Nat}
theorem Two.B7C {s s':St} (A:Two f st st' s s') (ht:t∈f.wt) (he:s'.tm[t]?=s.tm[t]?) (m:Meta):Two f st st' { s with mt:=s.mt.set t m } { s' with mt:=s'.mt.set t m }:=by
 obtain ⟨l,ls,ls',a1,a2,a3⟩:=A;refine ⟨l,by simpa using ls,by simpa using ls',fun i => ?_,a2,a3⟩
 by_cases hi:t=i
 ·subst hi
  refine .inl ⟨ht,he, ?_⟩;simp only [zrq];rcases zsq t st.mt.length with h | h
  ·rw [z4q (by omega),z4q (by omega)];rfl
  ·rw [z8q (by omega),z8q (by omega)]
 ·simp only [z1q hi]
  exact a1 i
variable {i:Nat}
theorem Kb {α : Type} {l l':List α} (h:l'[i]?=l[i]?) (d : α):l'.getD i d=l.getD i d:=by
 simp only [z3q,h]
variable {x:Operand}
theorem Two.release {s s':St} (A:Two f st st' s s') (hx:∀ t∈L9 x,t∈f.wt) (he:∀ t∈L9 x,s'.tm[t]?=s.tm[t]?/\s'.mt[t]?=s.mt[t]?):Two f st st' (s.release x) (s'.release x):=by
 cases x with
 | tmp t =>
   have:=A.B7C (hx t (by simp [L9])) (he t (by simp [L9])).1 (dm (s.mt.getD t .val))
   simp only [St.release];rw [Kb (he t (by simp [L9])).2]
   exact this
 | _=>exact A
variable {mt:List Meta}
theorem pQ {u:Nat} (h:u∈Em mt x):u∈L9 x:=by
 cases x <;> simp only [Em] at h
 ·split at h
  ·cases h
  ·cases h
  ·exact h
 all_goals cases h
theorem m_ {mt':List Meta} (h:∀ u∈L9 x,mt'[u]?=mt[u]?):Em mt' x=Em mt x:=by
 cases x with
 | tmp t =>
   simp only [Em];rw [Kb (h t (by simp [L9]))]
 | _=>rfl
theorem A5f {m:Meta} (h:mt.getD t .val=m) (hd:dm m=m):mt.set t (dm (mt.getD t .val))=mt:=by
 refine zBq fun j => ?_
 by_cases hj:t=j
 ·subst hj
  rw [z3q] at h;cases hm:mt[t]? with
  | none=>rw [z8q (by simpa using hm)]
  | some m =>
    rw [hm] at h;simp only [zqq] at h;have hl:t<mt.length:=by
     rcases zsq t mt.length with g | g
     ·exact g
     ·rw [z8q g] at hm;cases hm
    rw [z2q hl,z3q,hm,zqq,h,hd]
 ·rw [z1q hj]
theorem A9r:Em mt (.tmp t)=[t]\/mt.set t (dm (mt.getD t .val))=mt:=by
 cases h:mt.getD t .val
 case arr i sz a n=>exact .inr (by have:=A5f h rfl;rw [h] at this;exact this)
 case U1 i sz a n=>exact .inr (by have:=A5f h rfl;rw [h] at this;exact this)
 all_goals (refine .inl ?_;simp only [Em,h])
theorem Two.A3a {s s':St} (A:Two f st st' s s') (hx:∀ t∈Em s.mt x,t∈f.wt) (he:∀ t∈L9 x,s'.tm[t]?=s.tm[t]?/\s'.mt[t]?=s.mt[t]?):Two f st st' (s.release x) (s'.release x):=by
 cases x with
 | tmp t =>
   have em:s'.mt.getD t .val=s.mt.getD t .val:=Kb (he t (by simp [L9])).2 _
   rcases A9r (mt:=s.mt) (t:=t) with h | h
   ·exact A.release (fun u hu=>hx u (by rw [h];simpa [L9] using hu)) he
   ·have h':s'.mt.set t (dm (s'.mt.getD t .val))=s'.mt:=by
     refine zBq fun j => ?_
     by_cases hj:t=j
     ·subst hj
      have e:=(he t (by simp [L9])).2
      have q:(s.mt.set t (dm (s.mt.getD t .val)))[t]?=s.mt[t]?:=by rw [h]
      rw [em];rcases zsq t s'.mt.length with g | g
      ·rcases zsq t s.mt.length with g' | g'
       ·rw [z2q g,e,<- q,z2q g']
       ·rw [z8q g',List.getElem?_eq_none_iff] at e;omega
      ·rw [z8q g,z8q (by simpa using g)]
     ·rw [z1q hj]
    have e1:s.release (.tmp t)=s:=by simp only [St.release,h]
    have e2:s'.release (.tmp t)=s':=by simp only [St.release,h']
    rw [e1,e2];exact A
 | _=>exact A
theorem Two.A0O {s s':St} (A:Two f st st' s s') (ht:t∈f.wb) (c:Option (List (DV × Meta))):Two f st st' { s with bx:=s.bx.set t c } { s' with bx:=s'.bx.set t c }:=by
 obtain ⟨l,ls,ls',a1,a2,a3⟩:=A;refine ⟨l,by simpa using ls,by simpa using ls',a1,fun i => ?_,a3⟩
 by_cases hi:t=i
 ·subst hi
  refine .inl ⟨ht, ?_⟩;simp only [zrq];rcases zsq t st.bx.length with h | h
  ·rw [z4q (by omega),z4q (by omega)];rfl
  ·rw [z8q (by omega),z8q (by omega)]
 ·simp only [z1q hi]
  exact a2 i
theorem Two.En {s s':St} (A:Two f st st' s s') (hs:f.ws=true) (g:List D8):Two f st st' { s with sg:=g } { s' with sg:=g } :=
 ⟨A.l,A.ls,A.ls',A.t,A.b, .inl ⟨hs,rfl⟩⟩
def K4 (a b:List Nat):Prop:=∀ t∈a,t∈b
theorem GH.src (A:GH f st st') (P:Program) (t:TypeId) (h:K4 (L9 x) f.rt):src P t st' x=src P t st x:=by
 cases x with
 | tmp i =>
   obtain ⟨h1,h2⟩:=A.t i (h i (by simp [L9]))
   simp only [Su.src,St.get,Kb h1,Kb h2]
 | _=>rfl
theorem GH.Ie {f:Fp} {st st':St} (A:GH f st st') (P:Program):∀ {ts:List TypeId} {xs:List Operand},K4 (tmpsOf xs) f.rt->Ie P st' ts xs=Ie P st ts xs
 | t::ts,x::xs,h=>by
   simp only [Su.Ie];rw [A.src P t (fun i hi=>h i (by simp [tmpsOf,hi])),GH.Ie A P fun i hi=>h i (by simp only [tmpsOf,zaq,zbq];exact .inr hi)]
 | [],x::xs,h=>by
   simp only [Su.Ie];rw [A.src P 0 (fun i hi=>h i (by simp [tmpsOf,hi])),GH.Ie A P fun i hi=>h i (by simp only [tmpsOf,zaq,zbq];exact .inr hi)]
 | [],[],_=>rfl
 | _::_,[],_=>rfl
theorem GH.opt (A:GH f st st') (P:Program) {x:Option Operand} (h:K4 (tmpsOf x.toList) f.rt):Xm P st' x=Xm P st x:=by
 cases x with
 | none=>rfl
 | some x =>
   simp only [Xm];rw [A.src P 0 fun i hi=>h i (by simp [tmpsOf,hi])]
theorem GH.bx (A:GH f st st') (h:i∈f.rb):st'.bx.getD i none=st.bx.getD i none:=Kb (A.b i h) none
variable {y:Operand}
theorem Od {r:List Nat} (h:K4 (tmpsOf [x,y]) r):K4 (L9 x) r/\K4 (L9 y) r :=
 ⟨fun i hi=>h i (by simp [tmpsOf,hi]),fun i hi=>h i (by simp [tmpsOf,hi])⟩
section
variable {X:Type} {C:X4} {R:O4} {fl:Flags} {o:Oper} {st:St} {k:St->Option X} {x:X} {f:Fp}
def Fr (C:X4) (R:O4) (fl:Flags) (o:Oper) (st:St) (k:St->Option X) (x:X) (f:Fp):Prop :=
 ∃ s,k s=some x/\(∀ t,f.nb=some t->KC t st.mt=true)/\∀ st',GH f st st'->∃ s',Two f st st' s s'/\∀ (Y:Type) (k':St->Option Y),I7 C R fl o st' k'=k' s'
theorem M3 {d:DV} {m:Meta} (hk:k (st.put o.dst d m)=some x) (hw:K4 o.dst.toList f.wt) (hn:f.nb=none) (h:∀ st',GH f st st'->∀ (Y:Type) (k':St->Option Y),I7 C R fl o st' k'=k' (st'.put o.dst d m)):Fr C R fl o st k x f :=
 ⟨_,hk,by rw [hn];simp,fun st' A=>⟨_,(Two.refl A).put hw d m,fun Y k'=>h st' A Y k'⟩⟩
theorem B1j (D9:o.op = .move y\/o.op = .assign y) (H:I7 C R fl o st k=some x) (hr:K4 (L9 y) f.rt) (hw:K4 o.dst.toList f.wt) (hs:J4 fl.M7 o.dst=true->K4 (L9 y) f.wt) (hn:f.nb=none) :
 Fr C R fl o st k x f:=by
 have Fz:∀ (Y:Type) (st:St) (k:St->Option Y),I7 C R fl o st k=ob (src C.P o.type st y) fun r=>if J4 fl.M7 o.dst then k ((st.release y).put o.dst r.1 r.2) else k (st.put o.dst r.1 (dm r.2)):=by
  intro Y st k;rcases D9 with h | h <;> simp only [I7,h]
 rw [Fz] at H;obtain ⟨r,h1,H⟩:=A9 H
 by_cases R6:J4 fl.M7 o.dst=true
 ·rw [if_pos R6] at H
  refine ⟨_,H,by rw [hn];simp,fun st' A=>⟨_,((Two.refl A).release (hs R6) fun t ht=>A.t t (hr t ht)).put hw r.1 r.2,fun Y k' => ?_⟩⟩
  rw [Fz,A.src _ _ hr,h1];simp only [ob,if_pos R6]
 ·rw [if_neg R6] at H
  refine M3 H hw hn fun st' A Y k' => ?_
  rw [Fz,A.src _ _ hr,h1];simp only [ob,if_neg R6]
theorem B70 {c z:Operand} (D9:o.op = .pick c y z) (H:I7 C R fl o st k=some x) (hr:K4 (tmpsOf [c,y,z]) f.rt) (hw:K4 o.dst.toList f.wt) (hn:f.nb=none):Fr C R fl o st k x f:=by
 simp only [I7,D9] at H;obtain ⟨rc,h1,H⟩:=A9 H;obtain ⟨ra,h2,H⟩:=A9 H;obtain ⟨rb,h3,H⟩:=A9 H;obtain ⟨h4,H⟩:=F4 H;obtain ⟨d,h5,H⟩:=A9 H;have r1:K4 (L9 c) f.rt:=fun i hi=>hr i (by simp [tmpsOf,hi])
 have r2:K4 (L9 y) f.rt:=fun i hi=>hr i (by simp [tmpsOf,hi])
 have r3:K4 (L9 z) f.rt:=fun i hi=>hr i (by simp [tmpsOf,hi])
 refine M3 H hw hn fun st' A Y k' => ?_
 simp only [I7,D9,A.src _ _ r1,A.src _ _ r2,A.src _ _ r3,h1,h2,h3,ob,h4,og,h5]
variable {t:TypeId}
theorem C1v {op:UnOp} (D9:o.op = .unOp op t y) (H:I7 C R fl o st k=some x) (hr:K4 (L9 y) f.rt) (hw:K4 o.dst.toList f.wt) (hn:f.nb=none):Fr C R fl o st k x f:=by
 simp only [I7,D9] at H;obtain ⟨r,h1,H⟩:=A9 H;obtain ⟨h4,H⟩:=F4 H;obtain ⟨d,h5,H⟩:=A9 H;refine M3 H hw hn fun st' A Y k' => ?_
 simp only [I7,D9,A.src _ _ hr,h1,ob,h4,og,h5]
theorem B7Y {u:TypeId} (D9:o.op = .convert t u y) (H:I7 C R fl o st k=some x) (hr:K4 (L9 y) f.rt) (hw:K4 o.dst.toList f.wt) (hn:f.nb=none):Fr C R fl o st k x f:=by
 simp only [I7,D9] at H;obtain ⟨r,h1,H⟩:=A9 H
 split at H
 ·rename_i kd hk
  obtain ⟨h4,H⟩:=F4 H;obtain ⟨d,h5,H⟩:=A9 H;refine M3 H hw hn fun st' A Y k' => ?_
  simp only [I7,D9,A.src _ _ hr,h1,ob,hk,h4,og,h5]
 ·simp at H
theorem A8Q (D9:o.op = .fieldAddr t y i) (H:I7 C R fl o st k=some x) (hr:K4 (L9 y) f.rt) (hw:K4 o.dst.toList f.wt) (hn:f.nb=none):Fr C R fl o st k x f:=by
 simp only [I7,D9,Qa] at H;obtain ⟨r,h1,H⟩:=A9 H;obtain ⟨fd,h2,H⟩:=A9 H;obtain ⟨z,h3,H⟩:=A9 H
 by_cases h0:z.1=0
 ·rw [if_pos h0] at H;simp at H
 ·rw [if_neg h0] at H
  split at H
  all_goals first
   | (rename_i hm
      refine M3 H hw hn fun st' A Y k' => ?_
      simp only [I7,D9,Qa,A.src _ _ hr,h1,h2,h3,ob,if_neg h0,hm])
   | simp at H
theorem A8R {i:Operand} (D9:o.op = .indexAddr t y i) (H:I7 C R fl o st k=some x) (hr:K4 (tmpsOf [y,i]) f.rt) (hw:K4 o.dst.toList f.wt) (hn:f.nb=none):Fr C R fl o st k x f:=by
 obtain ⟨q1,q2⟩:=Od hr;simp only [I7,D9,Fh] at H;obtain ⟨r,h1,H⟩:=A9 H;obtain ⟨j,h2,H⟩:=A9 H;cases h3:Gy C.P t with
 | none =>
   rw [h3] at H;simp only [oG] at H;obtain ⟨q,h4,H⟩:=A9 H;obtain ⟨z,h5,H⟩:=A9 H
   split at H
   ·rename_i hm
    obtain ⟨h6,H⟩:=F4 H;obtain ⟨n,h7,H⟩:=A9 H;refine M3 H hw hn fun st' A Y k' => ?_
    simp only [I7,D9,Fh,A.src _ _ q1,A.src _ _ q2,h1,h2,h3,oG,h4,h5,ob,hm,h6,og,h7]
   ·cases H
 | some e =>
 rw [h3] at H;simp only at H;obtain ⟨z,h4,H⟩:=A9 H
 split at H
 ·rename_i hm
  obtain ⟨h5,H⟩:=F4 H;obtain ⟨n,h6,H⟩:=A9 H;refine M3 H hw hn fun st' A Y k' => ?_
  simp only [I7,D9,Fh,A.src _ _ q1,A.src _ _ q2,h1,h2,h3,h4,ob,hm,h5,og,h6]
 ·rename_i hm
  obtain ⟨h5,H⟩:=F4 H;obtain ⟨n,h6,H⟩:=A9 H;refine M3 H hw hn fun st' A Y k' => ?_
  simp only [I7,D9,Fh,A.src _ _ q1,A.src _ _ q2,h1,h2,h3,h4,ob,hm,h5,og,h6]
 ·rename_i m hm
  obtain ⟨h5,H⟩:=F4 H;obtain ⟨d,h6,H⟩:=A9 H
  by_cases hz:z.2=true
  ·rw [if_pos hz] at H
   refine M3 H hw hn fun st' A Y k' => ?_
   simp only [I7,D9,Fh,A.src _ _ q1,A.src _ _ q2,h1,h2,h3,h4,ob,h5,og,h6,if_pos hz]
  ·rw [if_neg hz] at H
   obtain ⟨h8,H⟩:=F4 H;refine M3 H hw hn fun st' A Y k' => ?_
   simp only [I7,D9,Fh,A.src _ _ q1,A.src _ _ q2,h1,h2,h3,h4,ob,h5,og,h6,if_neg hz,h8]
theorem B5U {i:Operand} (D9:o.op = .index t y i) (H:I7 C R fl o st k=some x) (hr:K4 (tmpsOf [y,i]) f.rt) (hw:K4 o.dst.toList f.wt) (hn:f.nb=none):Fr C R fl o st k x f:=by
 obtain ⟨q1,q2⟩:=Od hr;simp only [I7,D9] at H;obtain ⟨r,h1,H⟩:=A9 H;obtain ⟨j,h2,H⟩:=A9 H
 split at H
 ·rename_i hu
  obtain ⟨h5,H⟩:=F4 H;obtain ⟨d,h6,H⟩:=A9 H;refine M3 H hw hn fun st' A Y k' => ?_
  simp only [I7,D9,A.src _ _ q1,A.src _ _ q2,h1,h2,ob,hu,h5,og,h6]
 ·simp at H
theorem B5T (D9:o.op = .field t y i) (H:I7 C R fl o st k=some x) (hr:K4 (L9 y) f.rt) (hw:K4 o.dst.toList f.wt) (hn:f.nb=none):Fr C R fl o st k x f:=by
 simp only [I7,D9] at H;obtain ⟨r,h1,H⟩:=A9 H;obtain ⟨fd,h2,H⟩:=A9 H;obtain ⟨z,h3,H⟩:=A9 H;obtain ⟨zt,h4,H⟩:=A9 H;obtain ⟨h5,H⟩:=F4 H;obtain ⟨h6,H⟩:=L6 H
 by_cases hz:z.2=true
 ·rw [if_pos hz] at H
  refine M3 H hw hn fun st' A Y k' => ?_
  simp only [I7,D9,A.src _ _ hr,h1,h2,h3,h4,ob,h5,og,if_pos h6,if_pos hz]
 ·rw [if_neg hz] at H
  refine M3 H hw hn fun st' A Y k' => ?_
  simp only [I7,D9,A.src _ _ hr,h1,h2,h3,h4,ob,h5,og,if_pos h6,if_neg hz]
theorem B5V {lo hi mx:Option Operand} (D9:o.op = .slice t y lo hi mx) (H:I7 C R fl o st k=some x) (hr:K4 (tmpsOf (y::(lo.toList++hi.toList++mx.toList))) f.rt) (hw:K4 o.dst.toList f.wt) (hn:f.nb=none) :
 Fr C R fl o st k x f:=by
 have q1:K4 (L9 y) f.rt:=fun i h=>hr i (by simp only [tmpsOf,zaq,zbq];exact .inl h)
 have q2:K4 (tmpsOf lo.toList) f.rt:=fun i h=>hr i (by simp only [tmpsOf,zaq,zFq,zbq] at h ⊢;exact .inr (.inl (.inl h)))
 have q3:K4 (tmpsOf hi.toList) f.rt:=fun i h=>hr i (by simp only [tmpsOf,zaq,zFq,zbq] at h ⊢;exact .inr (.inl (.inr h)))
 have q4:K4 (tmpsOf mx.toList) f.rt:=fun i h=>hr i (by simp only [tmpsOf,zaq,zFq,zbq] at h ⊢;exact .inr (.inr h))
 simp only [I7,D9,PH] at H;obtain ⟨r,h1,H⟩:=A9 H;obtain ⟨l,h2,H⟩:=A9 H;obtain ⟨h,h3,H⟩:=A9 H;obtain ⟨m,h4,H⟩:=A9 H
 split at H
 ·rename_i q hq
  obtain ⟨e,g1,H⟩:=A9 H;obtain ⟨z,g2,H⟩:=A9 H;obtain ⟨g3,H⟩:=F4 H;obtain ⟨hh,g4,H⟩:=A9 H;obtain ⟨ll,g5,H⟩:=A9 H;obtain ⟨g6,H⟩:=L6 H;refine M3 H hw hn fun st' A Y k' => ?_
  simp only [I7,D9,PH,A.src _ _ q1,A.opt _ q2,A.opt _ q3,A.opt _ q4,h1,h2,h3,h4,K3,hq,g1,g2,g3,S9,g4,g5,if_pos g6]
 rename_i hq
 split at H
 ·rename_i q ZM
  obtain ⟨e,g1,H⟩:=A9 H;obtain ⟨z,g2,H⟩:=A9 H;obtain ⟨g3,H⟩:=F4 H;obtain ⟨hh,g4,H⟩:=A9 H;obtain ⟨g6,H⟩:=L6 H;refine M3 H hw hn fun st' A Y k' => ?_
  simp only [I7,D9,PH,A.src _ _ q1,A.opt _ q2,A.opt _ q3,A.opt _ q4,h1,h2,h3,h4,K3,hq,ZM,g1,g2,g3,S9,g4,if_pos g6]
 rename_i ZM;obtain ⟨h5,H⟩:=F4 H
 split at H
 ·rename_i e hu
  obtain ⟨z,h6,H⟩:=A9 H
  split at H
  ·obtain ⟨d,h7,H⟩:=A9 H
   refine M3 H hw hn fun st' A Y k' => ?_
   simp only [I7,D9,PH,A.src _ _ q1,A.opt _ q2,A.opt _ q3,A.opt _ q4,h1,h2,h3,h4,K3,hq,ZM,h5,S9,hu,h7,h6]
  ·obtain ⟨d,h7,H⟩:=A9 H
   refine M3 H hw hn fun st' A Y k' => ?_
   simp only [I7,D9,PH,A.src _ _ q1,A.opt _ q2,A.opt _ q3,A.opt _ q4,h1,h2,h3,h4,K3,hq,ZM,h5,S9,hu,h7,h6]
  ·simp at H
 ·rename_i hu
  split at H
  ·obtain ⟨d,h7,H⟩:=A9 H
   refine M3 H hw hn fun st' A Y k' => ?_
   simp only [I7,D9,PH,A.src _ _ q1,A.opt _ q2,A.opt _ q3,A.opt _ q4,h1,h2,h3,h4,K3,hq,ZM,h5,S9,hu,h7]
  ·simp at H
 ·simp at H
theorem B0y (D9:o.op = .nilCheck y) (H:I7 C R fl o st k=some x) (hr:K4 (L9 y) f.rt) (hw:K4 o.dst.toList f.wt) (hn:f.nb=none):Fr C R fl o st k x f:=by
 simp only [I7,D9] at H;obtain ⟨r,h1,H⟩:=A9 H
 split at H
 all_goals first
  | (rename_i hm
     refine M3 H hw hn fun st' A Y k' => ?_
     simp only [I7,D9,A.src _ _ hr,h1,ob,hm];done)
  | (simp at H;done)
  | skip
 rename_i hm;obtain ⟨q,h2,H⟩:=A9 H;obtain ⟨d,h3,H⟩:=A9 H;refine M3 H hw hn fun st' A Y k' => ?_
 simp only [I7,D9,A.src _ _ hr,h1,ob,hm,h2,h3]
theorem B0x {g:FuncId} {first caps:Array Operand} (D9:o.op = .makeFunc (.func g) first caps) (H:I7 C R fl o st k=some x) (hr:K4 (tmpsOf caps.toList) f.rt) (hw:K4 o.dst.toList f.wt) (hn:f.nb=none):Fr C R fl o st k x f:=by
 simp only [I7,D9] at H;obtain ⟨h0,H⟩:=L6 H;obtain ⟨rs,h1,H⟩:=A9 H;obtain ⟨ms,h2,H⟩:=A9 H;refine M3 H hw hn fun st' A Y k' => ?_
 simp only [I7,D9,A.Ie _ hr,h1,ob,h2,if_pos h0]
theorem B9R {op:BinOp} {z:Operand} {yt:TypeId} (D9:o.op = .binOp op t y z yt) (H:I7 C R fl o st k=some x) (hr:K4 (tmpsOf [y,z]) f.rt) (hw:K4 o.dst.toList f.wt) (hn:f.nb=none):Fr C R fl o st k x f:=by
 obtain ⟨q1,q2⟩:=Od hr;simp only [I7,D9,Ze] at H;obtain ⟨r,h1,H⟩:=A9 H;obtain ⟨s,h2,H⟩:=A9 H
 split at H
 ·rename_i hb
  obtain ⟨h3,H⟩:=F4 H;obtain ⟨d,h4,H⟩:=A9 H;refine M3 H hw hn fun st' A Y k' => ?_
  simp only [I7,D9,Ze,A.src _ _ q1,A.src _ _ q2,h1,h2,ob,hb,h3,og,h4]
 ·rename_i hb
  obtain ⟨h3,H⟩:=F4 H;obtain ⟨d,h4,H⟩:=A9 H;obtain ⟨e,h5,H⟩:=A9 H;refine M3 H hw hn fun st' A Y k' => ?_
  simp only [I7,D9,Ze,A.src _ _ q1,A.src _ _ q2,h1,h2,ob,hb,h3,og,h4,h5]
 ·rename_i hb
  obtain ⟨h3,H⟩:=F4 H;obtain ⟨d,h4,H⟩:=A9 H;obtain ⟨e,h5,H⟩:=A9 H;refine M3 H hw hn fun st' A Y k' => ?_
  simp only [I7,D9,Ze,A.src _ _ q1,A.src _ _ q2,h1,h2,ob,hb,h3,og,h4,h5]
 ·rename_i hb
  obtain ⟨d,h4,H⟩:=A9 H;obtain ⟨e,h5,H⟩:=A9 H;refine M3 H hw hn fun st' A Y k' => ?_
  simp only [I7,D9,Ze,A.src _ _ q1,A.src _ _ q2,h1,h2,ob,hb,h4,h5]
 ·rename_i hb
  obtain ⟨d,h4,H⟩:=A9 H;obtain ⟨e,h5,H⟩:=A9 H;refine M3 H hw hn fun st' A Y k' => ?_
  simp only [I7,D9,Ze,A.src _ _ q1,A.src _ _ q2,h1,h2,ob,hb,h4,h5]
 ·simp at H
end
end Go.Su

/-
 THE DATA MACHINE, part 20: footprints, the operations that look at memory.
-/
namespace Go.Su
variable {X:Type} {x:X}
theorem Lb {r:DV × Meta} {K:DV × Meta->Option X} (H:cellOf r K=some x):∃ c,K c=some x/\∀ (Y:Type) (K':DV × Meta->Option Y),cellOf r K'=K' c:=by
 unfold cellOf at H
 split at H
 ·rename_i hm
  obtain ⟨h,H⟩:=F4 H;exact ⟨_,H,fun Y K'=>by simp only [cellOf,hm,h,S9]⟩
 ·rename_i hm;exact ⟨_,H,fun Y K'=>by simp only [cellOf,hm]⟩
 ·rename_i hm;exact ⟨_,H,fun Y K'=>by simp only [cellOf,hm]⟩
 ·rename_i hm;exact ⟨_,H,fun Y K'=>by simp only [cellOf,hm]⟩
 ·rename_i h1 h2 h3 h4
  obtain ⟨h,H⟩:=F4 H;refine ⟨_,H,fun Y K' => ?_⟩
  unfold cellOf
  split <;> simp_all [S9]
variable {P:Program} {t:TypeId}
theorem Mf {r:DV × Meta} {K:List (DV × Meta)->Option X} (H:explode P t r K=some x) :
 ∃ cs,K cs=some x/\∀ (Y:Type) (K':List (DV × Meta)->Option Y),explode P t r K'=K' cs:=by
 unfold explode at H;obtain ⟨z,hz,H⟩:=A9 H
 split at H
 ·rename_i h2
  obtain ⟨h3,H⟩:=F4 H;obtain ⟨cs,h4,H⟩:=A9 H;exact ⟨_,H,fun Y K'=>by simp only [explode,hz,K3,if_pos h2,h3,S9,h4]⟩
 ·rename_i h2
  obtain ⟨c,h3,h4⟩:=Lb H;exact ⟨_,h3,fun Y K'=>by simp only [explode,hz,K3,if_neg h2,h4]⟩
theorem xV {r:DV × Meta} {K:List (DV × Meta)->Option X} (H:IX P t r K=some x) :
 ∃ cs,K cs=some x/\∀ (Y:Type) (K':List (DV × Meta)->Option Y),IX P t r K'=K' cs:=by
 unfold IX at H;obtain ⟨z,hz,H⟩:=A9 H
 split at H
 ·rename_i h2
  obtain ⟨h3,H⟩:=F4 H;obtain ⟨cs,h4,H⟩:=A9 H;exact ⟨cs,H,fun Y K'=>by simp only [IX,hz,K3,if_pos h2,h3,S9,h4]⟩
 ·rename_i h2
  obtain ⟨c,h3,h4⟩:=Lb H;exact ⟨_,h3,fun Y K'=>by simp only [IX,hz,K3,if_neg h2,h4]⟩
theorem Wq {z:Nat × Bool} {r:DV × Meta} {K:DV->Option X} (H:Me z r K=some x):K r.1=some x/\∀ (Y:Type) (K':DV->Option Y),Me z r K'=K' r.1:=by
 unfold Me at H;obtain ⟨h1,H⟩:=F4 H
 split at H
 ·rename_i h2
  obtain ⟨h3,H⟩:=F4 H;exact ⟨H,fun Y K'=>by simp only [Me,h1,S9,if_pos h2,h3]⟩
 ·rename_i h2
  obtain ⟨h3,H⟩:=F4 H;exact ⟨H,fun Y K'=>by simp only [Me,h1,S9,if_neg h2,h3]⟩
theorem kM {X:Type} {P:Program} {t:TypeId} {st:St} {x:X} {rt:List Nat}:∀ {ps:List (Nat × Operand)} {cs:List (DV × Meta)} {k:List (DV × Meta)->Option X},Gx P t st ps cs k=some x->K4 (tmpsOf (ps.map (·.2))) rt ->
 ∃ cs',k cs'=some x/\∀ (f:Fp) st',GH f st st'->K4 rt f.rt->∀ (Y:Type) (k':List (DV × Meta)->Option Y),Gx P t st' ps cs k'=k' cs'
 | [],cs,k,H,_=>⟨cs,H,fun _ _ _ _ _ _=>rfl⟩
 | (i,y)::ps,cs,k,H,hs=>by
   simp only [Gx] at H;obtain ⟨fd,h1,H⟩:=A9 H;obtain ⟨r,h2,H⟩:=A9 H;obtain ⟨xs,H,h3⟩:=Mf H;obtain ⟨h4,H⟩:=L6 H;have s1:K4 (L9 y) rt:=fun i h=>hs i (by simp only [zYq,tmpsOf,zaq,zbq];exact .inl h)
   have s2:K4 (tmpsOf (ps.map (·.2))) rt:=fun i h=>hs i (by simp only [zYq,tmpsOf,zaq,zbq] at h ⊢;exact .inr h)
   obtain ⟨cs',h5,h6⟩:=kM H s2;refine ⟨cs',h5,fun f st' A hr Y k' => ?_⟩
   simp only [Gx,h1,K3,A.src P fd.1 (fun i h=>hr i (s1 i h)),h2,h3,if_pos h4]
   exact h6 f st' A hr Y k'
variable {x:Operand}
theorem GH.ji {f:Fp} {st st':St} (A:GH f st st') (P:Program) (t:TypeId) (h:K4 (L9 x) f.rt):ji P t st' x=ji P t st x:=by
 have e:=A.src P t h;unfold Su.ji
 split
 ·rfl
 ·exact e
theorem nJ {X:Type} {P:Program} {e:TypeId} {z:Nat × Bool} {st:St} {x:X} {rt:List Nat}:∀ {ps:List (Nat × Operand)} {ds:List DV} {k:List DV->Option X},He P e z st ps ds k=some x->K4 (tmpsOf (ps.map (·.2))) rt ->
 ∃ ds',k ds'=some x/\∀ (f:Fp) st',GH f st st'->K4 rt f.rt->∀ (Y:Type) (k':List DV->Option Y),He P e z st' ps ds k'=k' ds'
 | [],ds,k,H,_=>⟨ds,H,fun _ _ _ _ _ _=>rfl⟩
 | (i,y)::ps,ds,k,H,hs=>by
   simp only [He] at H;obtain ⟨r,h2,H⟩:=A9 H;obtain ⟨H,h3⟩:=Wq H;obtain ⟨h4,H⟩:=L6 H;have s1:K4 (L9 y) rt:=fun i h=>hs i (by simp only [zYq,tmpsOf,zaq,zbq];exact .inl h)
   have s2:K4 (tmpsOf (ps.map (·.2))) rt:=fun i h=>hs i (by simp only [zYq,tmpsOf,zaq,zbq] at h ⊢;exact .inr h)
   obtain ⟨ds',h5,h6⟩:=nJ H s2;refine ⟨ds',h5,fun f st' A hr Y k' => ?_⟩
   simp only [He,K3,A.ji P e (fun i h=>hr i (s1 i h)),h2,h3,if_pos h4]
   exact h6 f st' A hr Y k'
section
variable {X:Type} {C:X4} {R:O4} {fl:Flags} {o:Oper} {st:St} {k:St->Option X} {x:X} {f:Fp} {ps:Array (Nat × Operand)}
theorem B5R (D9:o.op = .build t ps) (H:I7 C R fl o st k=some x) (hr:K4 (tmpsOf (ps.toList.map (·.2))) f.rt) (hw:K4 o.dst.toList f.wt) (hn:f.nb=none):Fr C R fl o st k x f:=by
 simp only [I7,D9] at H;obtain ⟨zs,h1,H⟩:=A9 H;obtain ⟨pl,h2,H⟩:=A9 H;obtain ⟨cs,H,h3⟩:=kM H hr;refine M3 H hw hn fun st' A Y k' => ?_
 simp only [I7,D9,h1,h2,K3];exact h3 f st' A (fun _ h=>h) Y _
theorem A7t {n:Nat} (D9:o.op = .buildSlice t n ps) (H:I7 C R fl o st k=some x) (hr:K4 (tmpsOf (ps.toList.map (·.2))) f.rt) (hw:K4 o.dst.toList f.wt) (hn:f.nb=none) (hv:J4 fl.FF o.dst=true->f.rs=true/\f.ws=true):Fr C R fl o st k x f:=by
 simp only [I7,D9] at H;obtain ⟨e,h1,H⟩:=A9 H;obtain ⟨z,h2,H⟩:=A9 H;obtain ⟨zs,h3,H⟩:=A9 H;obtain ⟨ze,h4,H⟩:=A9 H;obtain ⟨h5,H⟩:=L6 H;obtain ⟨ds,H,h6⟩:=nJ H hr
 by_cases hq:J4 fl.FF o.dst=true
 ·rw [if_pos hq] at H
  obtain ⟨hrs,zL⟩:=hv hq;refine ⟨_,H,by rw [hn];simp,fun st' A=>⟨_,((Two.refl A).En zL _).put hw _ _,fun Y k' => ?_⟩⟩
  simp only [I7,D9,h1,h2,h3,h4,K3,if_pos h5];rw [h6 f st' A (fun _ h=>h) Y _,if_pos hq,A.s hrs]
 ·rw [if_neg hq] at H
  refine M3 H hw hn fun st' A Y k' => ?_
  simp only [I7,D9,h1,h2,h3,h4,K3,if_pos h5];rw [h6 f st' A (fun _ h=>h) Y _,if_neg hq]
theorem A6K {cs:List (DV × Meta)} {sh:Bool} (hk:k (st.Ei sh o.dst cs)=some x) (hb:PD sh o.dst st=true) (hw:K4 o.dst.toList f.wt) (h1:sh=true->f.nb=none/\f.rs=true/\f.ws=true) (h2:sh=false->f.nb=o.dst/\K4 o.dst.toList f.wb) (h:∀ st',GH f st st'->∀ (Y:Type) (k':St->Option Y),I7 C R fl o st' k'=og (PD sh o.dst st') (k' (st'.Ei sh o.dst cs))):Fr C R fl o st k x f:=by
 cases hd:o.dst with
 | none =>
   rw [hd] at hk;refine ⟨_,hk, ?_,fun st' A=>⟨_,Two.refl A,fun Y k'=>by rw [h st' A Y k',hd];rfl⟩⟩
   cases sh
   ·rw [(h2 rfl).1,hd];simp
   ·rw [(h1 rfl).1];simp
 | some t =>
   rw [hd] at hk hb;have hw':∀ u∈(some t:Option Nat).toList,u∈f.wt:=by rw [<- hd];exact hw
   cases sh
   ·obtain ⟨q1,q2⟩:=h2 rfl
    have hnl:KC t st.mt=true:=by simpa [PD] using hb
    have cl:∀ mt,KC t mt=true->mt.map (Je t)=mt:=by
     intro mt hh;simp only [KC,zlq] at hh
     conv=>rhs;rw [<- List.map_id mt]
     refine y4q fun m hm => ?_
     have:=hh m hm;unfold Je
     split
     ·rename_i s' o'
      simp only [bne_iff_ne,ne_eq] at this;rw [if_neg this];rfl
     ·rfl
    refine ⟨_,hk,fun u hu => ?_,fun st' A=>⟨st'.Ei false (some t) cs, ?_,fun Y k' => ?_⟩⟩
    ·rw [q1,hd] at hu;cases hu;exact hnl
    ·have A2X:=A.n t (by rw [q1,hd])
     simp only [St.Ei,z9q,if_false];rw [cl _ hnl,cl _ A2X];exact ((Two.refl A).A0O (q2 t (by rw [hd];simp)) (some cs)).put hw' _ _
    ·rw [h st' A Y k',hd]
     have A2X:=A.n t (by rw [q1,hd])
     simp only [PD,A2X,ykq,S9]
   ·obtain ⟨q1,q2,q3⟩:=h1 rfl
    refine ⟨_,hk,by rw [q1];simp,fun st' A=>⟨st'.Ei true (some t) cs, ?_,fun Y k' => ?_⟩⟩
    ·simp only [St.Ei,if_true]
     rw [A.s q2];exact ((Two.refl A).En q3 _).put hw' _ _
    ·rw [h st' A Y k',hd]
     simp only [PD,Bool.true_or,S9]
theorem A8P (D9:o.op = .alloc t) (H:I7 C R fl o st k=some x) (hw:K4 o.dst.toList f.wt) (h1:J4 fl.shared o.dst=true->f.nb=none/\f.rs=true/\f.ws=true) (h2:J4 fl.shared o.dst=false->f.nb=o.dst/\K4 o.dst.toList f.wb):Fr C R fl o st k x f:=by
 simp only [I7,D9] at H;obtain ⟨cs,h3,H⟩:=A9 H;obtain ⟨h4,H⟩:=F4 H;exact A6K H h4 hw h1 h2 fun st' A Y k'=>by simp only [I7,D9,h3,K3]
variable {t:Nat}
theorem B6l {m:Meta} (h:(match m with | .loc s _=>s != t | _=>true)=true):(match dm m with | .loc s _=>s != t | _=>true)=true:=by
 cases m <;> first | exact h | rfl
variable {y:Operand}
theorem uY {st:St} (h:KC t st.mt=true):KC t (st.release y).mt=true:=by
 cases y with
 | tmp u =>
   simp only [St.release,KC,zlq] at h ⊢;intro m hm;rcases List.mem_or_eq_of_mem_set hm with h1 | rfl
   ·exact h m h1
   ·rcases zsq u st.mt.length with hu | hu
    ·refine B6l ?_
     rw [z3q,z4q hu];exact h _ (List.getElem_mem hu)
    ·rw [z3q,z8q hu];rfl
 | _=>exact h
theorem A1t {mt:List Meta} (hh:KC t mt=true):mt.map (Je t)=mt:=by
 simp only [KC,zlq] at hh
 conv=>rhs;rw [<- List.map_id mt]
 refine y4q fun m hm => ?_
 have:=hh m hm;unfold Je
 split
 ·rename_i s' o'
  simp only [bne_iff_ne,ne_eq] at this;rw [if_neg this];rfl
 ·rfl
variable {t:TypeId}
theorem A4G (D9:o.op = .box t y) (H:I7 C R fl o st k=some x) (hr:K4 (L9 y) f.rt) (hw:K4 o.dst.toList f.wt) (h0:J4 fl.Yl o.dst=true->f.nb=none) (hs:J4 fl.Yl o.dst=false->J4 fl.M7 o.dst=true->K4 (L9 y) f.wt/\f.nb=o.dst/\K4 o.dst.toList f.wb) (h1:J4 fl.Yl o.dst=false->J4 fl.M7 o.dst=false->J4 fl.shared o.dst=true->f.nb=none/\f.rs=true/\f.ws=true) (h2:J4 fl.Yl o.dst=false->J4 fl.M7 o.dst=false->J4 fl.shared o.dst=false->f.nb=o.dst/\K4 o.dst.toList f.wb):Fr C R fl o st k x f:=by
 simp only [I7,D9] at H;obtain ⟨r,h3,H⟩:=A9 H
 by_cases JR:J4 fl.Yl o.dst=true
 ·rw [if_pos JR] at H
  obtain ⟨z,h4,H⟩:=A9 H;obtain ⟨h5,H⟩:=F4 H;exact M3 H hw (h0 JR) fun st' A Y k'=>by simp only [I7,D9,A.src _ _ hr,h3,K3,if_pos JR,h4,h5,S9]
 rw [if_neg JR] at H;have B55:J4 fl.Yl o.dst=false:=by simpa using JR
 by_cases R6:J4 fl.M7 o.dst=true
 ·rw [if_pos R6] at H
  obtain ⟨q1,q2,q3⟩:=hs B55 R6;obtain ⟨cs,H,h4⟩:=xV H;obtain ⟨h5,H⟩:=F4 H;cases hd:o.dst with
  | none=>rw [hd] at R6;simp [J4] at R6
  | some t0 =>
    rw [hd] at H h5 q2;have hnl:KC t0 st.mt=true:=by simpa [PD] using h5
    have hw':∀ u∈(some t0:Option Nat).toList,u∈f.wt:=by rw [<- hd];exact hw
    refine ⟨_,H,fun u hu => ?_,fun st' A=>⟨(st'.release y).Ei false (some t0) cs, ?_,fun Y k' => ?_⟩⟩
    ·rw [q2] at hu;cases hu;exact hnl
    ·have A2X:=A.n t0 q2
     simp only [St.Ei,z9q,if_false];rw [A1t (uY hnl),A1t (uY A2X)];exact (((Two.refl A).release q1 fun i hi=>A.t i (hr i hi)).A0O (q3 t0 (by rw [hd];simp)) (some cs)).put hw' _ _
    ·have A2X:=A.n t0 q2
     rw [hd] at JR R6;simp only [I7,D9,A.src _ _ hr,h3,K3,hd,if_neg JR,if_pos R6,h4,PD,A2X,ykq,S9]
 rw [if_neg R6] at H;have C0d:J4 fl.M7 o.dst=false:=by simpa using R6
 obtain ⟨cs,H,h4⟩:=Mf H;obtain ⟨h5,H⟩:=F4 H;exact A6K H h5 hw (h1 B55 C0d) (h2 B55 C0d) fun st' A Y k'=>by simp only [I7,D9,A.src _ _ hr,h3,K3,if_neg JR,if_neg R6,h4]
theorem A97 (P P':Program) {x:Operand} {r:DV × Meta} (h:src P 0 st x=some r):∃ r',src P' 0 st x=some r'/\r'.2=r.2:=by
 cases x with
 | const v =>
   simp only [src] at h ⊢;unfold cst at h ⊢
   split at h <;> simp only [Option.some.injEq,reduceCtorEq] at h <;> subst h <;> exact ⟨_,rfl,rfl⟩
 | tmp t=>exact ⟨r,h,rfl⟩
 | func f=>exact ⟨r,h,rfl⟩
 | global g=>simp [src] at h
theorem B7Z (D9:o.op = .load t y) (H:I7 C R fl o st k=some x) (hr:K4 (L9 y) f.rt) (hw:K4 o.dst.toList f.wt) (hn:f.nb=none) (hb:∀ r,src C.P 0 st y=some r->K4 (EQ r.2).1 f.rb/\((EQ r.2).2=true->f.rs=true)/\(J4 fl.M7 o.dst=true->K4 (EQ r.2).1 f.wb/\((EQ r.2).2=true->f.ws=true))/\(J4 fl.FF o.dst=true->(EQ r.2).2=true->f.ws=true)) :
 Fr C R fl o st k x f:=by
 simp only [I7,D9,CR] at H;obtain ⟨r,h1,H⟩:=A9 H;obtain ⟨z,h2,H⟩:=A9 H;obtain ⟨b1,b2,b3,b4⟩:=hb r h1
 split at H
 ·rename_i s off hm
  rw [hm] at b1 b2 b3 b4;have hs:s∈f.rb:=b1 s (by simp [EQ])
  obtain ⟨cs,h3,H⟩:=A9 H;obtain ⟨h4,H⟩:=L6 H
  by_cases hz:z.2=true
  ·rw [if_pos hz] at H
   by_cases R6:J4 fl.M7 o.dst=true
   ·rw [if_pos R6] at H
    refine ⟨_,H,by rw [hn];simp,fun st' A=>⟨_,((Two.refl A).A0O ((b3 R6).1 s (by simp [EQ])) _).put hw _ _,fun Y k' => ?_⟩⟩
    simp only [I7,D9,CR,A.src _ _ hr,h1,h2,K3,hm,A.bx hs,h3,if_pos h4,if_pos hz,if_pos R6]
   rw [if_neg R6] at H;refine M3 H hw hn fun st' A Y k' => ?_
   simp only [I7,D9,CR,A.src _ _ hr,h1,h2,K3,hm,A.bx hs,h3,if_pos h4,if_pos hz,if_neg R6]
  ·rw [if_neg hz] at H
   by_cases R6:J4 fl.M7 o.dst=true
   ·rw [if_pos R6] at H
    refine ⟨_,H,by rw [hn];simp,fun st' A=>⟨_,((Two.refl A).A0O ((b3 R6).1 s (by simp [EQ])) _).put hw _ _,fun Y k' => ?_⟩⟩
    simp only [I7,D9,CR,A.src _ _ hr,h1,h2,K3,hm,A.bx hs,h3,if_pos h4,if_neg hz,if_pos R6]
   ·rw [if_neg R6] at H
    refine M3 H hw hn fun st' A Y k' => ?_
    simp only [I7,D9,CR,A.src _ _ hr,h1,h2,K3,hm,A.bx hs,h3,if_pos h4,if_neg hz,if_neg R6]
 ·rename_i ag sz off hm
  obtain ⟨h4,H⟩:=L6 H
  by_cases hz:z.2=true
  ·rw [if_pos hz] at H
   obtain ⟨h5,H⟩:=F4 H;refine M3 H hw hn fun st' A Y k' => ?_
   simp only [I7,D9,CR,A.src _ _ hr,h1,h2,K3,hm,if_pos h4,if_pos hz,h5,S9]
  ·rw [if_neg hz] at H
   refine M3 H hw hn fun st' A Y k' => ?_
   simp only [I7,D9,CR,A.src _ _ hr,h1,h2,K3,hm,if_pos h4,if_neg hz]
 ·rename_i i off hm
  rw [hm] at b1 b2 b3 b4;have hs:=b2 rfl;obtain ⟨cs,h3,H⟩:=A9 H
  by_cases hz:z.2=true
  ·rw [if_pos hz] at H
   obtain ⟨h5,H⟩:=F4 H;obtain ⟨ds,h6,H⟩:=A9 H;refine M3 H hw hn fun st' A Y k' => ?_
   simp only [I7,D9,CR,A.src _ _ hr,h1,h2,K3,hm,A.s hs,h3,if_pos hz,h5,S9,h6]
  ·rw [if_neg hz] at H
   split at H
   ·rename_i hc
    obtain ⟨j,h6,H⟩:=A9 H;refine M3 H hw hn fun st' A Y k' => ?_
    simp only [I7,D9,CR,A.src _ _ hr,h1,h2,K3,hm,A.s hs,h3,if_neg hz,hc,h6]
   ·rename_i hc
    obtain ⟨j,h6,H⟩:=A9 H;refine M3 H hw hn fun st' A Y k' => ?_
    simp only [I7,D9,CR,A.src _ _ hr,h1,h2,K3,hm,A.s hs,h3,if_neg hz,hc,h6]
   ·rename_i hc
    by_cases zJ:J4 fl.B61 o.dst=true
    ·rw [if_pos zJ] at H
     obtain ⟨e,h6,H⟩:=A9 H;obtain ⟨ze,h7,H⟩:=A9 H;obtain ⟨q,h8,H⟩:=A9 H;refine M3 H hw hn fun st' A Y k' => ?_
     simp only [I7,D9,CR,A.src _ _ hr,h1,h2,K3,hm,A.s hs,h3,if_neg hz,hc,if_pos zJ,h6,h7,h8]
    rw [if_neg zJ] at H
    by_cases hq:J4 fl.FF o.dst=true
    ·rw [if_pos hq] at H
     obtain ⟨e,h6,H⟩:=A9 H;obtain ⟨ze,h7,H⟩:=A9 H;obtain ⟨q,h8,H⟩:=A9 H;refine ⟨_,H,by rw [hn];simp,fun st' A=>⟨_,((Two.refl A).En (b4 hq rfl) _).put hw _ _,fun Y k' => ?_⟩⟩
     simp only [I7,D9,CR,A.src _ _ hr,h1,h2,K3,hm,A.s hs,h3,if_neg hz,hc,if_neg zJ,if_pos hq,h6,h7,h8]
    ·rw [if_neg hq] at H
     by_cases R6:J4 fl.M7 o.dst=true
     ·rw [if_pos R6] at H
      obtain ⟨d,h6,H⟩:=A9 H;refine ⟨_,H,by rw [hn];simp,fun st' A=>⟨_,((Two.refl A).En ((b3 R6).2 rfl) _).put hw _ _,fun Y k' => ?_⟩⟩
      simp only [I7,D9,CR,A.src _ _ hr,h1,h2,K3,hm,A.s hs,h3,if_neg hz,hc,if_neg zJ,if_neg hq,if_pos R6,h6]
     ·rw [if_neg R6] at H
      obtain ⟨d,h6,H⟩:=A9 H;refine M3 H hw hn fun st' A Y k' => ?_
      simp only [I7,D9,CR,A.src _ _ hr,h1,h2,K3,hm,A.s hs,h3,if_neg hz,hc,if_neg zJ,if_neg hq,if_neg R6,h6]
 ·rename_i i sz idx off hm
  rw [hm] at b1 b2 b3 b4;have hs:=b2 rfl;obtain ⟨a,h3,H⟩:=A9 H;obtain ⟨d,h4,H⟩:=A9 H;obtain ⟨h5,H⟩:=F4 H;obtain ⟨h6,H⟩:=L6 H
  by_cases hz:z.2=true
  ·rw [if_pos hz] at H
   refine M3 H hw hn fun st' A Y k' => ?_
   simp only [I7,D9,CR,A.src _ _ hr,h1,h2,K3,hm,A.s hs,h3,h4,h5,S9,if_pos h6,if_pos hz]
  ·rw [if_neg hz] at H
   by_cases h7:sz=1
   ·rw [if_pos h7] at H
    obtain ⟨h8,H⟩:=F4 H;refine M3 H hw hn fun st' A Y k' => ?_
    simp only [I7,D9,CR,A.src _ _ hr,h1,h2,K3,hm,A.s hs,h3,h4,h5,S9,if_pos h6,if_neg hz,if_pos h7,h8]
   ·rw [if_neg h7] at H
    refine M3 H hw hn fun st' A Y k' => ?_
    simp only [I7,D9,CR,A.src _ _ hr,h1,h2,K3,hm,A.s hs,h3,h4,h5,S9,if_pos h6,if_neg hz,if_neg h7]
 ·rename_i i n sz idx off hm
  rw [hm] at b1 b2 b3 b4;have hs:=b2 rfl;obtain ⟨a,h3,H⟩:=A9 H;obtain ⟨d,h4,H⟩:=A9 H;obtain ⟨h5,H⟩:=F4 H;obtain ⟨h6,H⟩:=L6 H
  by_cases hz:z.2=true
  ·rw [if_pos hz] at H
   refine M3 H hw hn fun st' A Y k' => ?_
   simp only [I7,D9,CR,A.src _ _ hr,h1,h2,K3,hm,A.s hs,h3,h4,h5,S9,if_pos h6,if_pos hz]
  ·rw [if_neg hz] at H
   by_cases h7:sz=1
   ·rw [if_pos h7] at H
    obtain ⟨h8,H⟩:=F4 H;refine M3 H hw hn fun st' A Y k' => ?_
    simp only [I7,D9,CR,A.src _ _ hr,h1,h2,K3,hm,A.s hs,h3,h4,h5,S9,if_pos h6,if_neg hz,if_pos h7,h8]
   ·rw [if_neg h7] at H
    refine M3 H hw hn fun st' A Y k' => ?_
    simp only [I7,D9,CR,A.src _ _ hr,h1,h2,K3,hm,A.s hs,h3,h4,h5,S9,if_pos h6,if_neg hz,if_neg h7]
 ·simp at H
theorem B5W {v:Operand} (D9:o.op = .store t y v) (H:I7 C R fl o st k=some x) (hr:K4 (tmpsOf [y,v]) f.rt) (hw:K4 o.dst.toList f.wt) (hwv:K4 (Em st.mt v) f.wt) (hn:f.nb=none) (hb:∀ r,src C.P 0 st y=some r->K4 (EQ r.2).1 f.rb/\((EQ r.2).2=true->f.rs=true)/\K4 (EQ r.2).1 f.wb/\((EQ r.2).2=true->f.ws=true)) :
 Fr C R fl o st k x f:=by
 obtain ⟨q1,q2⟩:=Od hr;simp only [I7,D9,DD] at H;obtain ⟨r,h1,H⟩:=A9 H;obtain ⟨u,h2,H⟩:=A9 H;obtain ⟨z,h3,H⟩:=A9 H;obtain ⟨b1,b2,b3,b4⟩:=hb r h1
 split at H
 ·rename_i s off hm
  rw [hm] at b1 b2 b3 b4;have hs:s∈f.rb:=b1 s (by simp [EQ])
  have Cz:s∈f.wb:=b3 s (by simp [EQ])
  obtain ⟨cs,h4,H⟩:=A9 H
  by_cases hz:z.2=true
  ·rw [if_pos hz] at H
   obtain ⟨xs,H,h5⟩:=xV H;obtain ⟨h6,H⟩:=L6 H;refine ⟨_,H,by rw [hn];simp,fun st' A=>⟨_,(((Two.refl A).A0O Cz _).A3a hwv fun i hi=>A.t i (q2 i hi)).put hw _ _,fun Y k' => ?_⟩⟩
   simp only [I7,D9,DD,A.src _ _ q1,A.src _ _ q2,h1,h2,h3,K3,hm,A.bx hs,h4,if_pos hz,h5,if_pos h6]
  ·rw [if_neg hz] at H
   obtain ⟨c,H,h5⟩:=Lb H;obtain ⟨h6,H⟩:=L6 H;refine ⟨_,H,by rw [hn];simp,fun st' A=>⟨_,(((Two.refl A).A0O Cz _).A3a hwv fun i hi=>A.t i (q2 i hi)).put hw _ _,fun Y k' => ?_⟩⟩
   simp only [I7,D9,DD,A.src _ _ q1,A.src _ _ q2,h1,h2,h3,K3,hm,A.bx hs,h4,if_neg hz,h5,if_pos h6]
 ·rename_i i off hm
  rw [hm] at b1 b2 b3 b4;obtain ⟨cs,h4,H⟩:=A9 H
  by_cases hz:z.2=true
  ·rw [if_pos hz] at H
   obtain ⟨xs,H,h5⟩:=Mf H;obtain ⟨h6,H⟩:=L6 H;refine ⟨_,H,by rw [hn];simp,fun st' A=>⟨_,((Two.refl A).En (b4 rfl) _).put hw _ _,fun Y k' => ?_⟩⟩
   simp only [I7,D9,DD,A.src _ _ q1,A.src _ _ q2,h1,h2,h3,K3,hm,A.s (b2 rfl),h4,if_pos hz,h5,if_pos h6]
  ·rw [if_neg hz] at H
   obtain ⟨c,H,h5⟩:=Lb H;obtain ⟨c0,h6,H⟩:=A9 H;refine ⟨_,H,by rw [hn];simp,fun st' A=>⟨_,(((Two.refl A).En (b4 rfl) (st.sg.set i (.box (cs.set off c)))).A3a hwv fun i hi=>A.t i (q2 i hi)).put hw (.F3 []) .val,fun Y k' => ?_⟩⟩
   simp only [I7,D9,DD,A.src _ _ q1,A.src _ _ q2,h1,h2,h3,K3,hm,A.s (b2 rfl),h4,if_neg hz,h5,h6]
 ·rename_i i sz idx off hm
  rw [hm] at b1 b2 b3 b4;obtain ⟨a,h4,H⟩:=A9 H;obtain ⟨d,h5,H⟩:=A9 H;obtain ⟨H,h6⟩:=Wq H;obtain ⟨h7,H⟩:=F4 H;obtain ⟨h8,H⟩:=L6 H;refine ⟨_,H,by rw [hn];simp,fun st' A=>⟨_,((Two.refl A).En (b4 rfl) _).put hw _ _,fun Y k' => ?_⟩⟩
  simp only [I7,D9,DD,A.src _ _ q1,A.src _ _ q2,h1,h2,h3,K3,hm,A.s (b2 rfl),h4,h5,h6,h7,S9,if_pos h8]
 ·rename_i i sz idx hm
  rw [hm] at b1 b2 b3 b4;obtain ⟨q,h4,H⟩:=A9 H;obtain ⟨H,h6⟩:=Wq H;obtain ⟨h7,H⟩:=F4 H;obtain ⟨x',h8,H⟩:=A9 H;refine ⟨_,H,by rw [hn];simp,fun st' A=>⟨_,((Two.refl A).En (b4 rfl) _).put hw _ _,fun Y k' => ?_⟩⟩
  simp only [I7,D9,DD,A.src _ _ q1,A.src _ _ q2,h1,h2,h3,K3,hm,A.s (b2 rfl),h4,h6,h7,S9,h8]
 ·rename_i i n sz idx off hm
  rw [hm] at b1 b2 b3 b4;obtain ⟨a,h4,H⟩:=A9 H;obtain ⟨d,h5,H⟩:=A9 H;obtain ⟨h7,H⟩:=F4 H
  by_cases hz:z.2=true
  ·rw [if_pos hz] at H
   obtain ⟨xs,H,h6⟩:=Mf H;obtain ⟨e,h8,H⟩:=A9 H;refine ⟨_,H,by rw [hn];simp,fun st' A=>⟨_,((Two.refl A).En (b4 rfl) _).put hw _ _,fun Y k' => ?_⟩⟩
   simp only [I7,D9,DD,A.src _ _ q1,A.src _ _ q2,h1,h2,h3,K3,hm,A.s (b2 rfl),h4,h5,h7,S9,if_pos hz,h6,h8]
  ·rw [if_neg hz] at H
   obtain ⟨c,H,h6⟩:=Lb H;obtain ⟨e,h8,H⟩:=A9 H;refine ⟨_,H,by rw [hn];simp,fun st' A=>⟨_,((Two.refl A).En (b4 rfl) _).put hw _ _,fun Y k' => ?_⟩⟩
   simp only [I7,D9,DD,A.src _ _ q1,A.src _ _ q2,h1,h2,h3,K3,hm,A.s (b2 rfl),h4,h5,h7,S9,if_neg hz,h6,h8]
 ·simp at H
theorem B2c (D9:o.op = .makeMap t none) (H:I7 C R fl o st k=some x) (hw:K4 o.dst.toList f.wt) (hn:f.nb=none) (hrs:f.rs=true) (zL:f.ws=true):Fr C R fl o st k x f:=by
 simp only [I7,D9] at H;obtain ⟨q,h1,H⟩:=A9 H;refine ⟨_,H,by rw [hn];simp,fun st' A=>⟨_,((Two.refl A).En zL _).put hw _ _,fun Y k' => ?_⟩⟩
 simp only [I7,D9,h1,K3,A.s hrs]
theorem B4a {v:Operand} {ok:Bool} (D9:o.op = .lookup t y v ok) (H:I7 C R fl o st k=some x) (hr:K4 (tmpsOf [y,v]) f.rt) (hw:K4 o.dst.toList f.wt) (hn:f.nb=none) (hrs:f.rs=true):Fr C R fl o st k x f:=by
 obtain ⟨q1,q2⟩:=Od hr;simp only [I7,D9] at H;obtain ⟨r,h1,H⟩:=A9 H;obtain ⟨key,h2,H⟩:=A9 H;obtain ⟨q,h3,H⟩:=A9 H;obtain ⟨ze,h4,H⟩:=A9 H;obtain ⟨h5,H⟩:=F4 H
 split at H
 ·rename_i i hm
  obtain ⟨p,h6,H⟩:=A9 H;obtain ⟨h7,H⟩:=F4 H
  by_cases w9:ok=true
  ·rw [if_pos w9] at H
   refine M3 H hw hn fun st' A Y k' => ?_
   simp only [I7,D9,A.src _ _ q1,A.src _ _ q2,h1,h2,h3,h4,K3,h5,S9,hm,A.s hrs,h6,h7,if_pos w9]
  ·rw [if_neg w9] at H
   refine M3 H hw hn fun st' A Y k' => ?_
   simp only [I7,D9,A.src _ _ q1,A.src _ _ q2,h1,h2,h3,h4,K3,h5,S9,hm,A.s hrs,h6,h7,if_neg w9]
 ·simp at H
theorem A8S {v u:Operand} (D9:o.op = .mapUpdate t y v u) (H:I7 C R fl o st k=some x) (hr:K4 (tmpsOf [y,v,u]) f.rt) (hw:K4 o.dst.toList f.wt) (hn:f.nb=none) (hrs:f.rs=true) (zL:f.ws=true):Fr C R fl o st k x f:=by
 have q1:K4 (L9 y) f.rt:=fun i hi=>hr i (by simp [tmpsOf,hi])
 have q2:K4 (L9 v) f.rt:=fun i hi=>hr i (by simp [tmpsOf,hi])
 have q3:K4 (L9 u) f.rt:=fun i hi=>hr i (by simp [tmpsOf,hi])
 simp only [I7,D9] at H;obtain ⟨r,h1,H⟩:=A9 H;obtain ⟨key,h2,H⟩:=A9 H;obtain ⟨val,h3,H⟩:=A9 H;obtain ⟨q,h4,H⟩:=A9 H;obtain ⟨h5,H⟩:=F4 H
 split at H
 ·rename_i i hm
  obtain ⟨p,h6,H⟩:=A9 H;obtain ⟨h7,H⟩:=F4 H;refine ⟨_,H,by rw [hn];simp,fun st' A=>⟨_,((Two.refl A).En zL _).put hw _ _,fun Y k' => ?_⟩⟩
  simp only [I7,D9,A.src _ _ q1,A.src _ _ q2,A.src _ _ q3,h1,h2,h3,h4,K3,h5,S9,hm,A.s hrs,h6,h7]
 ·simp at H
theorem B2b {i:Nat} (D9:o.op = .extract y i) (H:I7 C R fl o st k=some x) (hr:K4 (L9 y) f.rt) (hw:K4 o.dst.toList f.wt) (hs:J4 fl.M7 o.dst=true->K4 (L9 y) f.wt) (hn:f.nb=none):Fr C R fl o st k x f:=by
 simp only [I7,D9] at H;obtain ⟨r,h1,H⟩:=A9 H
 split at H
 ·rename_i hm
  obtain ⟨d,h2,H⟩:=A9 H;refine M3 H hw hn fun st' A Y k' => ?_
  simp only [I7,D9,A.src _ _ hr,h1,K3,hm,h2]
 ·rename_i ms hm
  obtain ⟨d,h2,H⟩:=A9 H
  split at H
  ·rename_i hg
   by_cases R6:J4 fl.M7 o.dst=true
   ·rw [if_pos R6] at H
    refine ⟨_,H,by rw [hn];simp,fun st' A=>⟨(st'.qK y (.Br (ms.set i .val))).put o.dst d .own,Two.put ?_ hw _ _,fun Y k' => ?_⟩⟩
    ·cases y with
     | tmp t =>
       have ht:t∈L9 (.tmp t):=by simp [L9]
       exact (Two.refl A).B7C (hs R6 t ht) (A.t t (hr t ht)).1 _
     | _=>exact Two.refl A
    ·simp only [I7,D9,A.src _ _ hr,h1,K3,hm,h2,hg,if_pos R6]
   ·rw [if_neg R6] at H
    refine M3 H hw hn fun st' A Y k' => ?_
    simp only [I7,D9,A.src _ _ hr,h1,K3,hm,h2,hg,if_neg R6]
  ·rename_i hg
   refine M3 H hw hn fun st' A Y k' => ?_
   simp only [I7,D9,A.src _ _ hr,h1,K3,hm,h2,hg]
  ·simp at H
 ·simp at H
end
end Go.Su

/-
 THE DATA MACHINE, part 21: footprints, calls; every operation.
-/
namespace Go.Su
section
variable {X:Type} {C:X4} {R:O4} {fl:Flags} {o:Oper} {st:St} {k:St->Option X} {x:X} {f:Fp} {c:Call} {y:Operand} {t:TypeId}
theorem A4I (D9:o.op = .call c) (hc:c.callee = .builtin .len) (ha:c.args.toList=[y]) (ht:c.argTypes.toList=[t]) (H:UX C o y t st k=some x) (hr:K4 (L9 y) f.rt) (hw:K4 o.dst.toList f.wt) (hn:f.nb=none) (hrs:f.rs=true):Fr C R fl o st k x f:=by
 have Fz:∀ (Y:Type) (st:St) (k:St->Option Y),I7 C R fl o st k=UX C o y t st k:=fun Y st k=>by simp only [I7,D9,FL,hc,ha,ht]
 unfold UX at H;obtain ⟨r,h1,H⟩:=A9 H
 split at H
 ·rename_i hu
  split at H
  ·rename_i hm
   refine M3 H hw hn fun st' A Y k' => ?_
   rw [Fz];simp only [UX,A.src _ _ hr,h1,K3,hu,hm]
  ·rename_i hm
   rw [TH] at H;refine M3 H hw hn fun st' A Y k' => ?_
   rw [Fz];simp only [UX,A.src _ _ hr,h1,K3,hu,hm,TH]
  ·rename_i hm
   obtain ⟨h2,H⟩:=F4 H;obtain ⟨d,h3,H⟩:=A9 H;refine M3 H hw hn fun st' A Y k' => ?_
   rw [Fz];simp only [UX,A.src _ _ hr,h1,K3,hu,h2,S9,h3]
 ·rename_i hu
  obtain ⟨h2,H⟩:=F4 H;obtain ⟨d,h3,H⟩:=A9 H;refine M3 H hw hn fun st' A Y k' => ?_
  rw [Fz];simp only [UX,A.src _ _ hr,h1,K3,hu,h2,S9,h3]
 ·rename_i hu
  obtain ⟨d,h3,H⟩:=A9 H;refine M3 H hw hn fun st' A Y k' => ?_
  rw [Fz];simp only [UX,A.src _ _ hr,h1,K3,hu,A.s hrs,h3]
 ·simp at H
theorem B5S (D9:o.op = .call c) (hc:c.callee = .builtin .clear) (ha:c.args.toList=[y]) (ht:c.argTypes.toList=[t]) (H:Vy C o y t st k=some x) (hr:K4 (L9 y) f.rt) (hw:K4 o.dst.toList f.wt) (hrs:f.rs=true) (zL:f.ws=true) (hn:f.nb=none):Fr C R fl o st k x f:=by
 have Fz:∀ (Y:Type) (st:St) (k:St->Option Y),I7 C R fl o st k=Vy C o y t st k:=fun Y st k=>by simp only [I7,D9,FL,hc,ha,ht]
 unfold Vy at H;obtain ⟨r,h1,H⟩:=A9 H;obtain ⟨q,h2,H⟩:=A9 H;obtain ⟨a,h3,H⟩:=A9 H;obtain ⟨e,h4,H⟩:=A9 H;obtain ⟨z,h5,H⟩:=A9 H;obtain ⟨zs,h6,H⟩:=A9 H;obtain ⟨h7,H⟩:=F4 H;refine ⟨_,H,by rw [hn];simp,fun st' A=>⟨_,((Two.refl A).En zL _).put hw _ _,fun Y k' => ?_⟩⟩
 rw [Fz];simp only [Vy,A.src _ _ hr,h1,K3,h2,A.s hrs,h3,h4,h5,h6,h7,S9]
theorem B39 {v:Operand} {u:TypeId} (D9:o.op = .call c) (hc:c.callee = .builtin .append) (ha:c.args.toList=[y,v]) (ht:c.argTypes.toList=[t,u]) (H:FT C fl o y v t u st k=some x) (hr:K4 (tmpsOf [y,v]) f.rt) (hw:K4 o.dst.toList f.wt) (hwy:K4 (L9 y) f.wt) (hn:f.nb=none) (hos:(J4 fl.opn o.dst || J4 fl.FF o.dst)=true->f.rs=true/\f.ws=true):Fr C R fl o st k x f:=by
 obtain ⟨q1,q2⟩:=Od hr;have Fz:∀ (Y:Type) (st:St) (k:St->Option Y),I7 C R fl o st k=FT C fl o y v t u st k:=fun Y st k=>by simp only [I7,D9,FL,hc,ha,ht]
 unfold FT at H
 by_cases Qk:J4 fl.FF o.dst=true
 ·rw [if_pos Qk] at H
  unfold A4u at H;obtain ⟨o1,o2⟩:=hos (by rw [Qk];simp)
  obtain ⟨r,h1,H⟩:=A9 H;obtain ⟨s,h2,H⟩:=A9 H;obtain ⟨sz,h3,H⟩:=A9 H;obtain ⟨h4,H⟩:=F4 H;obtain ⟨q,hq,H⟩:=A9 H;obtain ⟨p,h5,H⟩:=A9 H;obtain ⟨h6,H⟩:=F4 H;obtain ⟨d,h7,H⟩:=A9 H;refine ⟨_,H,by rw [hn];simp,fun st' A=>⟨_,((Two.refl A).En o2 _).put hw _ _,fun Y k' => ?_⟩⟩
  rw [Fz];simp only [FT,if_pos Qk,A4u,A.src _ _ q1,A.src _ _ q2,h1,h2,h3,K3,h4,S9,hq,A.s o1,h5,h6,h7]
 rw [if_neg Qk] at H;obtain ⟨r,h1,H⟩:=A9 H;obtain ⟨s,h2,H⟩:=A9 H;obtain ⟨sz,h3,H⟩:=A9 H;obtain ⟨h4,H⟩:=F4 H
 by_cases iD:J4 fl.opn o.dst=true
 ·rw [if_pos iD] at H
  obtain ⟨p,h5,H⟩:=A9 H;obtain ⟨o1,o2⟩:=hos (by rw [iD];simp)
  refine ⟨_,H,by rw [hn];simp,fun st' A=>⟨_,(((Two.refl A).release hwy fun i hi=>A.t i (q1 i hi)).En o2 (st.sg++[D8.opn sz p.1 p.2])).put hw _ _,fun Y k' => ?_⟩⟩
  rw [Fz];simp only [FT,if_neg Qk,A.src _ _ q1,A.src _ _ q2,h1,h2,h3,K3,h4,S9,if_pos iD,h5,A.s o1]
 rw [if_neg iD] at H;obtain ⟨d,h5,H⟩:=A9 H;refine ⟨_,H,by rw [hn];simp,fun st' A=>⟨_,((Two.refl A).release hwy fun i hi=>A.t i (q1 i hi)).put hw _ _,fun Y k' => ?_⟩⟩
 rw [Fz];simp only [FT,if_neg Qk,A.src _ _ q1,A.src _ _ q2,h1,h2,h3,K3,h4,S9,if_neg iD,h5]
theorem B9S {v:Operand} {u:TypeId} (D9:o.op = .call c) (hc:c.callee = .builtin .max) (ha:c.args.toList=[y,v]) (ht:c.argTypes.toList=[t,u]) (H:I7 C R fl o st k=some x) (hr:K4 (tmpsOf [y,v]) f.rt) (hw:K4 o.dst.toList f.wt) (hn:f.nb=none):Fr C R fl o st k x f:=by
 obtain ⟨q1,q2⟩:=Od hr;simp only [I7,D9,FL,hc,ha,ht] at H;obtain ⟨r,h1,H⟩:=A9 H;obtain ⟨s,h2,H⟩:=A9 H;obtain ⟨h4,H⟩:=F4 H;obtain ⟨d,h5,H⟩:=A9 H;refine M3 H hw hn fun st' A Y k' => ?_
 simp only [I7,D9,FL,hc,ha,ht,A.src _ _ q1,A.src _ _ q2,h1,h2,K3,h4,S9,h5]
theorem B9T {v:Operand} {u:TypeId} (D9:o.op = .call c) (hc:c.callee = .builtin .min) (ha:c.args.toList=[y,v]) (ht:c.argTypes.toList=[t,u]) (H:I7 C R fl o st k=some x) (hr:K4 (tmpsOf [y,v]) f.rt) (hw:K4 o.dst.toList f.wt) (hn:f.nb=none):Fr C R fl o st k x f:=by
 obtain ⟨q1,q2⟩:=Od hr;simp only [I7,D9,FL,hc,ha,ht] at H;obtain ⟨r,h1,H⟩:=A9 H;obtain ⟨s,h2,H⟩:=A9 H;obtain ⟨h4,H⟩:=F4 H;obtain ⟨d,h5,H⟩:=A9 H;refine M3 H hw hn fun st' A Y k' => ?_
 simp only [I7,D9,FL,hc,ha,ht,A.src _ _ q1,A.src _ _ q2,h1,h2,K3,h4,S9,h5]
theorem B71 {g:FuncId} (D9:o.op = .call c) (hc:c.callee = .value (.func g)) (h1:C.clone g=false) (h0:C.iL g=none) (h2:C.sig g=none) (H:I7 C R fl o st k=some x) (hr:K4 (tmpsOf c.args.toList) f.rt) (hw:K4 o.dst.toList f.wt) (hn:f.nb=none):Fr C R fl o st k x f:=by
 have h1':¬ (C.clone g=true):=by rw [h1];simp
 simp only [I7,D9,FL,hc,src,K3,JI,if_neg h1',h0,h2,List.map_nil,zIq] at H;obtain ⟨rs,h3,H⟩:=A9 H;obtain ⟨h4,H⟩:=F4 H;obtain ⟨d,h5,H⟩:=A9 H;refine M3 H hw hn fun st' A Y k' => ?_
 simp only [I7,D9,FL,hc,src,K3,JI,if_neg h1',h0,h2,List.map_nil,zIq,A.Ie _ hr,h3,h4,S9,h5]
theorem Two.IA {st' s s':St} (A:Two f st st' s s') {g:Option (Nat × Operand)} (hx:∀ p,g=some p->K4 (L9 p.2) f.wt) (he:∀ p,g=some p->∀ t∈L9 p.2,s'.tm[t]?=s.tm[t]?/\s'.mt[t]?=s.mt[t]?) :
 Two f st st' (s.IA g) (s'.IA g):=by
 cases g with
 | none=>exact A
 | some p=>exact A.release (hx p rfl) (he p rfl)
theorem B9Q (D9:o.op = .call c) (hc:c.callee = .value y) (H:I7 C R fl o st k=some x) (hr:K4 (tmpsOf (y::c.args.toList)) f.rt) (hw:K4 o.dst.toList f.wt) (hwa:K4 (tmpsOf c.args.toList) f.wt) (hn:f.nb=none) (hrs:f.rs=true) (zL:f.ws=true):Fr C R fl o st k x f:=by
 have q1:K4 (L9 y) f.rt:=fun i h=>hr i (by simp only [tmpsOf,zaq,zbq];exact .inl h)
 have q2:K4 (tmpsOf c.args.toList) f.rt:=fun i h=>hr i (by simp only [tmpsOf,zaq,zbq] at h ⊢;exact .inr h)
 simp only [I7,D9,FL,hc] at H;obtain ⟨r,h1,H⟩:=A9 H;obtain ⟨rs,h2,H⟩:=A9 H
 split at H
 ·rename_i g caps hm
  have Fz:∀ st',GH f st st'->∀ (Y:Type) (k':St->Option Y),I7 C R fl o st' k'=JI C R o g c.args.toList (rs++caps.map fun m=>(.undef, .ptr m.1 m.2)) st' k':=by
   intro st' A Y k';simp only [I7,D9,FL,hc,A.src _ _ q1,A.Ie _ q2,h1,h2,K3,hm]
  generalize rs++caps.map (fun m=>((.undef, .ptr m.1 m.2):DV × Meta))=rs' at H Fz
  unfold JI at H
  by_cases Ul:C.clone g=true
  ·rw [if_pos Ul] at H
   split at H
   ·rename_i r' 
    ·obtain ⟨p,hd,H⟩:=A9 H
     obtain ⟨h3,H⟩:=F4 H;refine ⟨_,H,by rw [hn];simp,fun st' A=>⟨_,((Two.refl A).En zL _).put hw _ _,fun Y k' => ?_⟩⟩
     rw [Fz st' A];simp only [JI,if_pos Ul,hd,K3,h3,S9,A.s hrs]
   ·simp at H
  ·rw [if_neg Ul] at H
   cases uR:C.iL g with
   | some g' =>
     rw [uR] at H;simp only at H
     split at H
     ·rename_i r'
      obtain ⟨p,hd,H⟩:=A9 H;obtain ⟨h3,H⟩:=F4 H;refine ⟨_,H,by rw [hn];simp,fun st' A=>⟨_,((Two.refl A).En zL _).put hw _ _,fun Y k' => ?_⟩⟩
      rw [Fz st' A];simp only [JI,if_neg Ul,uR,hd,K3,h3,S9,A.s hrs]
     ·simp at H
   | none =>
   rw [uR] at H;simp only at H
   split at H
   ·rename_i hs
    obtain ⟨h3,H⟩:=F4 H;obtain ⟨d,h4,H⟩:=A9 H;refine M3 H hw hn fun st' A Y k' => ?_
    rw [Fz st' A];simp only [JI,if_neg Ul,uR,hs,h3,S9,h4,K3]
   ·rename_i s hs
    obtain ⟨h3,H⟩:=F4 H;obtain ⟨q,h4,H⟩:=A9 H;obtain ⟨H,h6⟩:=A2C H;have OJ:∀ p,FY 0 s.params c.args.toList=some p->K4 (L9 p.2) (tmpsOf c.args.toList):=by
     intro p hp i hi;obtain ⟨_,_,h5⟩:=uZ hp;exact zVq.2 ⟨p.2,zkq h5,hi⟩
    refine ⟨_,H,by rw [hn];simp,fun st' A=>⟨_,(((Two.refl A).En zL q.2).IA (fun p hp i hi=>hwa i (OJ p hp i hi)) fun p hp i hi=>A.t i (q2 i (OJ p hp i hi))).put hw _ _,fun Y k' => ?_⟩⟩
    rw [Fz st' A];simp only [JI,if_neg Ul,uR,hs,h3,S9,A.s hrs,h4,K3];exact h6 _ _
 ·simp at H
def W9 (C:X4) (fl:Flags) (o:Oper) (st:St):Fp :=
 if Xj C o then { rt:=tmpsOf o.op.operands.toList,wt:=o.dst.toList } else Ee fl o st
theorem K4.refl (a:List Nat):K4 a a:=fun _ h=>h
theorem Oc (a b:List Nat):K4 a (a++b):=fun _ h=>zbq.2 (.inl h)
theorem qH (a b:List Nat):K4 b (a++b):=fun _ h=>zbq.2 (.inr h)
theorem A6b {c:Prop} [Decidable c] (a b:List Nat) (h:c):K4 b (a++(if c then b else [])):=by rw [if_pos h];exact qH _ _
theorem oH (H:I7 C R fl o st k=some x):Fr C R fl o st k x (W9 C fl o st):=by
 have np:∀ op,o.op=op->(∀ c,op ≠ .call c)->Xj C o=false:=by
  intro op h1 h2;unfold Xj
  split
  ·rename_i c hc;exact absurd (h1.symm.trans hc) (h2 c)
  ·rfl
 have H0:=H;unfold I7 at H
 split at H
 ·rename_i y D9
  have e:W9 C fl o st={ rt:=L9 y,wt:=o.dst.toList++(if J4 fl.M7 o.dst then L9 y else []) }:=by simp [W9,np _ D9 (by simp),Ee,D9]
  rw [e];exact B1j (.inl D9) H0 (K4.refl _) (Oc _ _) (fun h=>A6b _ _ h) rfl
 ·rename_i y D9
  have e:W9 C fl o st={ rt:=L9 y,wt:=o.dst.toList++(if J4 fl.M7 o.dst then L9 y else []) }:=by simp [W9,np _ D9 (by simp),Ee,D9]
  rw [e];exact B1j (.inr D9) H0 (K4.refl _) (Oc _ _) (fun h=>A6b _ _ h) rfl
 ·rename_i c y z D9
  have e:W9 C fl o st={ rt:=tmpsOf [c,y,z],wt:=o.dst.toList }:=by simp [W9,np _ D9 (by simp),Ee,D9]
  rw [e];exact B70 D9 H0 (K4.refl _) (K4.refl _) rfl
 ·rename_i t D9
  have e:W9 C fl o st=if J4 fl.shared o.dst then { wt:=o.dst.toList,rs:=true,ws:=true } else { wt:=o.dst.toList,wb:=o.dst.toList,nb:=o.dst }:=by simp [W9,np _ D9 (by simp),Ee,D9]
  rw [e]
  by_cases hs:J4 fl.shared o.dst=true
  ·rw [if_pos hs]
   exact A8P D9 H0 (K4.refl _) (fun _=>⟨rfl,rfl,rfl⟩) (fun h=>by rw [hs] at h;cases h)
  ·rw [if_neg hs]
   exact A8P D9 H0 (K4.refl _) (fun h=>absurd h hs) (fun h=>⟨rfl,K4.refl _⟩)
 ·rename_i t y D9
  have e:W9 C fl o st=if J4 fl.Yl o.dst then { rt:=L9 y,wt:=o.dst.toList } else if J4 fl.M7 o.dst then { rt:=L9 y,wt:=o.dst.toList++L9 y,wb:=o.dst.toList,nb:=o.dst } else if J4 fl.shared o.dst then { rt:=L9 y,wt:=o.dst.toList,rs:=true,ws:=true } else { rt:=L9 y,wt:=o.dst.toList,wb:=o.dst.toList,nb:=o.dst }:=by simp [W9,np _ D9 (by simp),Ee,D9]
  rw [e]
  by_cases JR:J4 fl.Yl o.dst=true
  ·rw [if_pos JR]
   exact A4G D9 H0 (K4.refl _) (K4.refl _) (fun _=>rfl) (fun h=>by rw [JR] at h;cases h) (fun h=>by rw [JR] at h;cases h) (fun h=>by rw [JR] at h;cases h)
  rw [if_neg JR]
  by_cases R6:J4 fl.M7 o.dst=true
  ·rw [if_pos R6]
   exact A4G D9 H0 (K4.refl _) (fun t ht=>List.mem_append_left _ ht) (fun h=>absurd h JR) (fun _ _=>⟨fun t ht=>List.mem_append_right _ ht,rfl,K4.refl _⟩) (fun _ h=>by rw [R6] at h;cases h) (fun _ h=>by rw [R6] at h;cases h)
  rw [if_neg R6]
  by_cases hs:J4 fl.shared o.dst=true
  ·rw [if_pos hs]
   exact A4G D9 H0 (K4.refl _) (K4.refl _) (fun h=>absurd h JR) (fun _ h=>absurd h R6) (fun _ _ _=>⟨rfl,rfl,rfl⟩) (fun _ _ h=>by rw [hs] at h;cases h)
  ·rw [if_neg hs]
   exact A4G D9 H0 (K4.refl _) (K4.refl _) (fun h=>absurd h JR) (fun _ h=>absurd h R6) (fun _ _ h=>absurd h hs) (fun _ _ h=>⟨rfl,K4.refl _⟩)
 ·rename_i t ps D9
  have e:W9 C fl o st={ rt:=tmpsOf (ps.toList.map (·.2)),wt:=o.dst.toList }:=by simp [W9,np _ D9 (by simp),Ee,D9]
  rw [e];exact B5R D9 H0 (K4.refl _) (K4.refl _) rfl
 ·rename_i t n ps D9
  have e:W9 C fl o st={ rt:=tmpsOf (ps.toList.map (·.2)),wt:=o.dst.toList,rs:=J4 fl.FF o.dst,ws:=J4 fl.FF o.dst }:=by simp [W9,np _ D9 (by simp),Ee,D9]
  rw [e];exact A7t D9 H0 (K4.refl _) (K4.refl _) rfl fun h=>⟨h,h⟩
 ·rename_i t y D9
  have hsr:∃ r,src C.P 0 st y=some r:=by unfold CR at H;obtain ⟨r,h,_⟩:=A9 H;exact ⟨r,h⟩
  obtain ⟨r,hr⟩:=hsr;obtain ⟨r',Aw,hm⟩:=A97 C.P default hr;have e:W9 C fl o st={ rt:=L9 y,wt:=o.dst.toList,rb:=(EQ r'.2).1,wb:=if J4 fl.M7 o.dst then (EQ r'.2).1 else [],rs:=(EQ r'.2).2,ws:=(J4 fl.M7 o.dst || J4 fl.FF o.dst) && (EQ r'.2).2 }:=by
   simp [W9,np _ D9 (by simp),Ee,D9,Aw]
  rw [e];refine B7Z D9 H0 (K4.refl _) (K4.refl _) rfl fun r0 h0 => ?_
  rw [hr] at h0;cases h0;rw [hm];refine ⟨K4.refl _,id,fun R6=>⟨?_,fun h => ?_⟩,fun Qk h => ?_⟩
  ·simp only [R6,if_true];exact K4.refl _
  ·simp only [R6,Bool.true_or,zRq];exact h
  ·simp only [Qk,ykq,zRq];exact h
 ·rename_i t y v D9
  have hsr:∃ r,src C.P 0 st y=some r:=by unfold DD at H;obtain ⟨r,h,_⟩:=A9 H;exact ⟨r,h⟩
  obtain ⟨r,hr⟩:=hsr;obtain ⟨r',Aw,hm⟩:=A97 C.P default hr;have e:W9 C fl o st={ rt:=tmpsOf [y,v],wt:=o.dst.toList++Em st.mt v,rb:=(EQ r'.2).1,wb:=(EQ r'.2).1,rs:=(EQ r'.2).2,ws:=(EQ r'.2).2,so:=if o.dst.isNone then Zp r'.2 else none }:=by
   simp [W9,np _ D9 (by simp),Ee,D9,Aw]
  rw [e];refine B5W D9 H0 (K4.refl _) (Oc _ _) (qH _ _) rfl fun r0 h0 => ?_
  rw [hr] at h0;cases h0;rw [hm];exact ⟨K4.refl _,id,K4.refl _,id⟩
 ·rename_i y D9
  have e:W9 C fl o st={ rt:=L9 y,wt:=o.dst.toList }:=by simp [W9,np _ D9 (by simp),Ee,D9]
  rw [e];exact B0y D9 H0 (K4.refl _) (K4.refl _) rfl
 ·rename_i op t y z yt D9
  have e:W9 C fl o st={ rt:=tmpsOf [y,z],wt:=o.dst.toList }:=by simp [W9,np _ D9 (by simp),Ee,D9]
  rw [e];exact B9R D9 H0 (K4.refl _) (K4.refl _) rfl
 ·rename_i op t y D9
  have e:W9 C fl o st={ rt:=L9 y,wt:=o.dst.toList }:=by simp [W9,np _ D9 (by simp),Ee,D9]
  rw [e];exact C1v D9 H0 (K4.refl _) (K4.refl _) rfl
 ·rename_i t u y D9
  have e:W9 C fl o st={ rt:=L9 y,wt:=o.dst.toList }:=by simp [W9,np _ D9 (by simp),Ee,D9]
  rw [e];exact B7Y D9 H0 (K4.refl _) (K4.refl _) rfl
 ·rename_i t y i D9
  have e:W9 C fl o st={ rt:=L9 y,wt:=o.dst.toList }:=by simp [W9,np _ D9 (by simp),Ee,D9]
  rw [e];exact A8Q D9 H0 (K4.refl _) (K4.refl _) rfl
 ·rename_i t y i D9
  have e:W9 C fl o st={ rt:=L9 y,wt:=o.dst.toList }:=by simp [W9,np _ D9 (by simp),Ee,D9]
  rw [e];exact B5T D9 H0 (K4.refl _) (K4.refl _) rfl
 ·rename_i t y i D9
  have e:W9 C fl o st={ rt:=tmpsOf [y,i],wt:=o.dst.toList }:=by simp [W9,np _ D9 (by simp),Ee,D9]
  rw [e];exact A8R D9 H0 (K4.refl _) (K4.refl _) rfl
 ·rename_i t y i D9
  have e:W9 C fl o st={ rt:=tmpsOf [y,i],wt:=o.dst.toList }:=by simp [W9,np _ D9 (by simp),Ee,D9]
  rw [e];exact B5U D9 H0 (K4.refl _) (K4.refl _) rfl
 ·rename_i t y lo hi mx D9
  have e:W9 C fl o st={ rt:=tmpsOf (y::(lo.toList++hi.toList++mx.toList)),wt:=o.dst.toList }:=by simp [W9,np _ D9 (by simp),Ee,D9]
  rw [e];exact B5V D9 H0 (K4.refl _) (K4.refl _) rfl
 ·rename_i g first caps D9
  have e:W9 C fl o st={ rt:=tmpsOf caps.toList,wt:=o.dst.toList }:=by simp [W9,np _ D9 (by simp),Ee,D9]
  rw [e];exact B0x D9 H0 (K4.refl _) (K4.refl _) rfl
 ·rename_i t D9
  have e:W9 C fl o st={ rt:=tmpsOf o.op.operands.toList,wt:=o.dst.toList++tmpsOf o.op.operands.toList,rs:=true,ws:=true }:=by simp [W9,np _ D9 (by simp),Ee,D9]
  rw [e];exact B2c D9 H0 (Oc _ _) rfl rfl rfl
 ·rename_i t y v ok D9
  have e:W9 C fl o st={ rt:=tmpsOf [y,v],wt:=o.dst.toList,rs:=true }:=by simp [W9,np _ D9 (by simp),Ee,D9]
  rw [e];exact B4a D9 H0 (K4.refl _) (K4.refl _) rfl rfl
 ·rename_i t y v u D9
  have e:W9 C fl o st={ rt:=tmpsOf [y,v,u],wt:=o.dst.toList++tmpsOf [y,v,u],rs:=true,ws:=true }:=by simp [W9,np _ D9 (by simp),Ee,D9,Op.operands]
  rw [e];exact A8S D9 H0 (K4.refl _) (Oc _ _) rfl rfl rfl
 ·rename_i y i D9
  have e:W9 C fl o st={ rt:=L9 y,wt:=o.dst.toList++(if J4 fl.M7 o.dst then L9 y else []),ex:=B5L y i o.dst }:=by simp [W9,np _ D9 (by simp),Ee,D9]
  rw [e];exact B2b D9 H0 (K4.refl _) (Oc _ _) (fun h=>A6b _ _ h) rfl
 ·rename_i c D9
  unfold FL at H
  split at H
  ·rename_i b hb
   have np':Xj C o=false:=by simp [Xj,D9,hb]
   split at H
   ·rename_i h1 h2
    have e:W9 C fl o st={ rt:=tmpsOf c.args.toList,wt:=o.dst.toList,rs:=true }:=by simp [W9,np',Ee,D9,hb]
    rw [e];exact A4I D9 hb h1 h2 H (by rw [h1];simp only [tmpsOf,zaq,ygq,zIq];exact K4.refl _) (K4.refl _) rfl rfl
   ·rename_i y v t u h1 h2
    have e:W9 C fl o st={ rt:=tmpsOf c.args.toList,wt:=o.dst.toList++tmpsOf c.args.toList,rs:=J4 fl.opn o.dst || J4 fl.FF o.dst,ws:=J4 fl.opn o.dst || J4 fl.FF o.dst }:=by simp [W9,np',Ee,D9,hb]
    rw [e];refine B39 D9 hb h1 h2 H (by rw [h1];exact K4.refl _) (Oc _ _) ?_ rfl fun h=>⟨h,h⟩
    intro i hi;refine qH _ _ i ?_;rw [h1];simp only [tmpsOf,zaq,zbq];exact .inl hi
   ·rename_i h1 h2
    have e:W9 C fl o st={ rt:=tmpsOf c.args.toList,wt:=o.dst.toList,rs:=true,ws:=true }:=by simp [W9,np',Ee,D9,hb]
    rw [e];exact B5S D9 hb h1 h2 H (by rw [h1];simp only [tmpsOf,zaq,ygq,zIq];exact K4.refl _) (K4.refl _) rfl rfl rfl
   ·rename_i h1 h2
    have e:W9 C fl o st={ rt:=tmpsOf c.args.toList,wt:=o.dst.toList }:=by simp [W9,np',Ee,D9,hb]
    rw [e];exact B9S D9 hb h1 h2 H0 (by rw [h1];exact K4.refl _) (K4.refl _) rfl
   ·rename_i h1 h2
    have e:W9 C fl o st={ rt:=tmpsOf c.args.toList,wt:=o.dst.toList }:=by simp [W9,np',Ee,D9,hb]
    rw [e];exact B9T D9 hb h1 h2 H0 (by rw [h1];exact K4.refl _) (K4.refl _) rfl
   ·simp at H
  ·rename_i y hy
   by_cases hp:Xj C o=true
   ·have e:W9 C fl o st={ rt:=tmpsOf o.op.operands.toList,wt:=o.dst.toList }:=by simp [W9,hp]
    rw [e];unfold Xj at hp;rw [D9] at hp;simp only [hy] at hp
    split at hp
    ·rename_i g hg
     simp only [Callee.value.injEq] at hg;subst hg;simp only [zcq,zNq,zUq] at hp;refine B71 D9 hy hp.1.1 hp.1.2 hp.2 H0 (fun i hi => ?_) (K4.refl _) rfl
     simp only [D9,Op.operands,Call.operands,hy,Array.toList_append,tmpsOf,zFq,zbq] at hi ⊢;exact .inr hi
    ·simp at hp
   ·have e:W9 C fl o st={ rt:=tmpsOf (y::c.args.toList),wt:=o.dst.toList++tmpsOf c.args.toList,rs:=true,ws:=true }:=by simp [W9,hp,Ee,D9,hy]
    rw [e];exact B9Q D9 hy H0 (K4.refl _) (Oc _ _) (qH _ _) rfl rfl rfl
  ·simp at H
 ·simp at H
end
end Go.Su

/-
 THE DATA MACHINE, part 22: regions, in the text's order and in any.
-/
namespace Go.Su
theorem Kh {α : Type} {l l':List α} (h:∀ i:Nat,l'[i]?=l[i]?):l'=l:=zBq h
variable {f:Fp} {st:St} {s:St}
theorem Two.same {s':St} (T:Two f st st s s'):s'=s:=by
 have h1:s'.tm=s.tm:=Kh fun i=>by
  rcases T.t i with ⟨_,h,_⟩ | ⟨⟨h,_⟩,h',_⟩
  ·exact h
  ·rw [h,h']
 have h2:s'.mt=s.mt:=Kh fun i=>by
  rcases T.t i with ⟨_,_,h⟩ | ⟨⟨_,h⟩,_,h'⟩
  ·exact h
  ·rw [h,h']
 have h3:s'.bx=s.bx:=Kh fun i=>by
  rcases T.b i with ⟨_,h⟩ | ⟨h,h'⟩
  ·exact h
  ·rw [h,h']
 have h4:s'.sg=s.sg:=by
  rcases T.s with ⟨_,h⟩ | ⟨h,h'⟩
  ·exact h
  ·rw [h,h']
 cases s;cases s';simp_all
theorem GH.refl (h:∀ t,f.nb=some t->KC t st.mt=true):GH f st st:=⟨rfl,rfl,rfl,fun _ _=>⟨rfl,rfl⟩,fun _ _=>rfl,fun _=>rfl,h⟩
variable {o:Oper}
theorem SE {X:Type} {C:X4} {R:O4} {fl:Flags} {k:St->Option X} {x:X} (H:I7 C R fl o st k=some x) :
 ∃ s,k s=some x/\∀ (Y:Type) (k':St->Option Y),I7 C R fl o st k'=k' s:=by
 obtain ⟨s,h1,h2,h3⟩:=oH H;obtain ⟨s',h4,h5⟩:=h3 st (GH.refl h2);rw [h4.same] at h5;exact ⟨s,h1,h5⟩
variable {t:Nat} {d:DV}
theorem FB (h:(st.get t).1=d) (hd:d ≠ .undef):st.know t d=st:=by
 unfold St.know;have ht:st.tm[t]?=some d:=by
  simp only [St.get,z3q] at h;cases hx:st.tm[t]? with
  | none=>rw [hx] at h;exact absurd h.symm hd
  | some e=>rw [hx] at h;simp only [zqq] at h;rw [h]
 have:st.tm.set t d=st.tm:=by
  apply zBq;intro i
  by_cases hi:t=i
  ·subst hi
   rw [zrq ];rw [ht];rfl
  ·rw [z1q hi]
 rw [this]
theorem A9g {β : Type} {a b c:Option β} {x : β} (h:I1 d a b c=some x):(d = .bool true/\a=some x)\/(d = .bool false/\b=some x)\/(d = .F3 []/\c=some x):=by
 unfold I1 at h
 split at h
 ·exact .inl ⟨rfl,h⟩
 ·exact .inr (.inl ⟨rfl,h⟩)
 ·exact .inr (.inr ⟨rfl,h⟩)
 ·simp at h
section
variable (C:X4) (R:O4) (fl:Flags) (ops:List Oper)
def Y2 (o:Oper) (s s1:St):Prop :=
 match o.guard with
 | none=>I7 C R fl o s some=some s1
 | some (g,want)=>∃ t,Ji ops g=some t/\J5 (s.get t).2=true /\
    (((s.get t).1 = .bool want/\I7 C R fl o s some=some s1)\/(((s.get t).1 = .bool !want\/(s.get t).1 = .F3 [])/\s1=s.put o.dst (.F3 []) .val))
def uV (want:Bool):DV->Bool
 | .bool b=>b == want
 | _=>false
def CF (o:Oper) (s:St):Fp :=
 match o.guard with
 | none=>W9 C fl o s
 | some (g,want) =>
   match Ji ops g with
   | none=>{}
   | some t=>if uV want (s.get t).1 then (W9 C fl o s).look t else { rt:=[t],wt:=o.dst.toList }
end
section
variable {C:X4} {R:O4} {fl:Flags} {ops:List Oper} {o:Oper}
theorem GH.weaken {g:Fp} {st':St} (A:GH f st st') (h1:K4 g.rt f.rt) (h2:K4 g.rb f.rb) (h3:g.rs=true->f.rs=true) (h4:∀ t,g.nb=some t->f.nb=some t):GH g st st' :=
 ⟨A.lt,A.lm,A.lb,fun i hi=>A.t i (h1 i hi),fun i hi=>A.b i (h2 i hi),fun h=>A.s (h3 h),fun t h=>A.n t (h4 t h)⟩
theorem GH.get {st':St} (A:GH f st st') (h:t∈f.rt):st'.get t=st.get t:=by
 obtain ⟨h1,h2⟩:=A.t t h;simp only [St.get,Kb h1,Kb h2]
theorem B1i {st':St} (A:GH (W9 C fl o st) st st'):W9 C fl o st'=W9 C fl o st:=by
 unfold W9 at A ⊢
 split
 ·rfl
 ·rename_i hp
  rw [if_neg hp] at A;unfold Ee at A ⊢
  split <;> rename_i D9
  all_goals first
   | rfl
   | (rename_i y
      cases y with
      | tmp t =>
        rw [D9] at A;simp only [src] at A ⊢;rw [A.get (t:=t) (by simp [L9])]
      | _=>rfl)
   | (rename_i y v
      rw [D9] at A;simp only at A ⊢;have hrt:∀ r,src default 0 st y=some r->∀ u∈L9 v,st'.mt[u]?=st.mt[u]?:=fun r hr u hu=>by
       rw [hr] at A;exact (A.t u (by simp [tmpsOf,hu])).2
      cases y with
      | tmp t =>
        simp only [src] at A hrt ⊢;rw [A.get (t:=t) (by simp [L9,tmpsOf])]
        rw [m_ (hrt _ rfl)]
      | const c =>
        simp only [src] at A hrt ⊢;cases hc:cst default 0 c with
        | none=>rfl
        | some r=>rw [m_ (hrt _ hc)]
      | func f =>
        simp only [src] at A hrt ⊢;rw [m_ (hrt _ rfl)]
      | global g=>rfl)
theorem aF {want:Bool}:uV want d=true ↔ d = .bool want:=by
 unfold uV
 split
 ·simp
 ·rename_i h
  simp only [z9q,false_iff];intro hd;exact h _ hd
variable {s1:St}
theorem A5t (H:Y2 C R fl ops o s s1):(∀ t,(CF C fl ops o s).nb=some t->KC t s.mt=true) /\
 ∀ s',GH (CF C fl ops o s) s s'->CF C fl ops o s'=CF C fl ops o s/\∃ s1',Two (CF C fl ops o s) s s' s1 s1'/\Y2 C R fl ops o s' s1':=by
 unfold Y2 at H;unfold CF Y2
 split at H
 ·rename_i hg
  obtain ⟨s0,h1,h2,h3⟩:=oH H;simp only [Option.some.injEq] at h1;subst h1;refine ⟨h2,fun s' A=>⟨B1i A, ?_⟩⟩
  obtain ⟨s1',h4,h5⟩:=h3 s' A;exact ⟨s1',h4,h5 _ some⟩
 ·rename_i g want hg
  obtain ⟨t,ht,hd,H⟩:=H;simp only [ht];rcases H with ⟨hb,H⟩ | ⟨hb,H⟩
  ·have hB:uV want (s.get t).1=true:=aF.2 hb
   rw [if_pos hB];obtain ⟨s0,h1,h2,h3⟩:=oH H;simp only [Option.some.injEq] at h1;subst h1;refine ⟨h2,fun s' A => ?_⟩
   have A':GH (W9 C fl o s) s s':=A.weaken (fun i hi=>y1q _ hi) (fun _ h=>h) id fun _ h=>h
   have om:s'.get t=s.get t:=A.get (zTq ..);rw [om,if_pos hB,B1i A'];refine ⟨rfl, ?_⟩;obtain ⟨s1',h4,h5⟩:=h3 s' A';refine ⟨s1',⟨h4.l,h4.ls,h4.ls',h4.t,h4.b,h4.s⟩,t,rfl,by rw [om];exact hd, .inl ⟨by rw [om];exact hb,h5 _ some⟩⟩
  ·have hB:¬ (uV want (s.get t).1=true):=by
    rw [aF];rcases hb with h | h <;> rw [h] <;> cases want <;> simp
   rw [if_neg hB];refine ⟨by simp,fun s' A => ?_⟩
   have om:s'.get t=s.get t:=A.get (zTq ..);rw [om,if_neg hB];refine ⟨rfl,s'.put o.dst (.F3 []) .val, ?_,t,rfl,by rw [om];exact hd, .inr ⟨by rw [om];exact hb,rfl⟩⟩
   rw [H];exact (Two.refl A).put (fun _ h=>h) _ _
theorem Y2.det {s2:St} (H1:Y2 C R fl ops o s s1) (H2:Y2 C R fl ops o s s2):s1=s2:=by
 unfold Y2 at H1 H2
 split at H1
 ·rename_i hg
  simp only [hg] at H2;rw [H1] at H2;simpa using H2
 ·rename_i g want hg
  simp only [hg] at H2;obtain ⟨t,ht,hd,H1⟩:=H1;obtain ⟨t',ht',ES,H2⟩:=H2;rw [ht] at ht';cases ht';rcases H1 with ⟨a,b⟩ | ⟨a,b⟩ <;> rcases H2 with ⟨c,d⟩ | ⟨c,d⟩
  ·rw [b] at d;simpa using d
  ·rw [a] at c;cases want <;> simp at c
  ·rw [c] at a;cases want <;> simp at a
  ·rw [b,d]
theorem JK {a b:List Nat} (h:jJ a b=true):∀ i,i∈a->i∉b:=by
 intro i hi hb;have:=zlq.1 h i hi;simp [hb] at this
variable {mt:List Meta} {i:Nat}
theorem FW {mt':List Meta} (h:mt'[i]?=mt[i]?):HZ mt' i=HZ mt i:=by
 unfold HZ;rw [Kb h]
theorem AX {α β : Type} {l:List α} {f g : α -> List β} (h:∀ x∈l,f x=g x):l.flatMap f=l.flatMap g:=by
 induction l with
 | nil=>rfl
 | cons a l ih=>rw [zaq,zaq,h a (zTq ..),ih fun x hx=>h x (y1q _ hx)]
theorem Zn:KC t mt=true ↔ ∀ (i:Nat) s o,mt[i]?=some (.loc s o)->s≠t:=by
 unfold KC;rw [zlq];constructor
 ·intro h i s o hi
  have:=h _ (zkq hi);simpa using this
 ·intro h m hm
  obtain ⟨i,hi⟩:=List.mem_iff_getElem?.1 hm
  split
  ·rename_i s o
   simpa using h i s o hi
  ·rfl
variable {x:Nat} {d:Nat}
theorem B5M {o:Oper} (D9:o.op = .extract (.tmp x) i) (hd:o.dst=some d):I7 C R fl o s some=some s1 ↔
 ∃ dv,I9 i (s.get x).1=some dv/\(((s.get x).2 = .val/\s1=s.put (some d) dv .val)\/∃ ms,(s.get x).2 = .Br ms /\
   ((ms.getD i .val = .own/\J4 fl.M7 (some d)=true/\s1={ s with mt:=s.mt.set x (.Br (ms.set i .val)) }.put (some d) dv .own) \/
    ((ms.getD i .val = .val\/(ms.getD i .val = .own/\J4 fl.M7 (some d)=false))/\s1=s.put (some d) dv .val))):=by
 simp only [I7,D9,hd,src,K3];generalize s.get x=r;obtain ⟨r1,r2⟩:=r;simp only;constructor
 ·intro H
  split at H
  ·obtain ⟨dv,h1,H⟩:=A9 H
   simp only [Option.some.injEq] at H;exact ⟨dv,h1, .inl ⟨rfl,H.symm⟩⟩
  ·rename_i ms
   obtain ⟨dv,h1,H⟩:=A9 H;refine ⟨dv,h1, .inr ⟨ms,rfl, ?_⟩⟩
   split at H
   ·rename_i hm
    split at H
    ·rename_i R6
     simp only [Option.some.injEq,St.qK] at H;exact .inl ⟨hm,R6,H.symm⟩
    ·rename_i R6
     simp only [Option.some.injEq] at H;exact .inr ⟨.inr ⟨hm,by simpa using R6⟩,H.symm⟩
   ·rename_i hm
    simp only [Option.some.injEq] at H;exact .inr ⟨.inl hm,H.symm⟩
   ·simp at H
  ·simp at H
 ·rintro ⟨dv,h1,⟨h2,rfl⟩ | ⟨ms,h2,⟨h3,h4,rfl⟩ | ⟨h3 | ⟨h3,h4⟩,rfl⟩⟩⟩
  ·subst h2;simp only [h1,K3]
  ·subst h2;simp only [h1,K3,h3,h4,if_true,St.qK]
  ·subst h2;simp only [h1,K3,h3]
  ·subst h2;simp only [h1,K3,h3,h4,z9q,if_false]
theorem B7f (h:(CF C fl ops o s).ex=some (x,i,d)):o.guard=none/\o.op = .extract (.tmp x) i/\o.dst=some d /\
 (∀ s',CF C fl ops o s'=CF C fl ops o s)/\∀ u∈(CF C fl ops o s).wt,u=d\/u=x:=by
 unfold CF at h
 split at h
 ·rename_i hg
  unfold W9 at h
  split at h
  ·simp at h
  ·rename_i hp
   unfold Ee at h
   split at h
   all_goals first
    | (simp at h;done)
    | (split at h <;> simp at h;done)
    | (split at h <;> (try (simp at h;done)) <;> split at h <;> (try (simp at h;done)) <;> split at h <;> simp at h;done)
    | skip
   ·rename_i y j D9
    simp only [B5L] at h
    split at h
    ·rename_i t u hd
     simp only [Option.some.injEq,Prod.mk.injEq] at h;obtain ⟨rfl,rfl,rfl⟩:=h;refine ⟨hg,D9,hd,fun s' => ?_,fun u hu => ?_⟩
     ·unfold CF W9 Ee
      simp only [hg,D9,hp,z9q,if_false]
     ·unfold CF W9 Ee at hu
      simp only [hg,D9,hp,z9q,if_false,hd,Option.toList_some,zbq,zwq] at hu;rcases hu with hu | hu
      ·exact .inl hu
      ·split at hu
       ·simp only [L9,zwq] at hu;exact .inr hu
       ·simp at hu
    ·simp at h
   all_goals (split at h <;> (try simp at h) <;> (try (split at h <;> simp at h)))
 ·split at h
  ·simp at h
  ·split at h <;> simp [Fp.look] at h
variable {m:Meta}
theorem Uj {v:DV} (h:d≠x):(s.put (some d) v m).get x=s.get x:=by
 simp only [St.get,St.put,z3q,z1q h]
def taken (s:St) (x i d:Nat) (dv:DV) (own:Bool):St :=
 if own then { s with mt:=s.mt.set x (match (s.get x).2 with | .Br ms => .Br (ms.set i .val) | m=>m) }.put (some d) dv .own else s.put (some d) dv .val
def ways (fl:Flags) (d i:Nat) (m:Meta) (own:Bool):Prop :=
 (m = .val/\own=false)\/∃ ms,m = .Br ms/\((ms.getD i .val = .own/\J4 fl.M7 (some d)=true/\own=true)\/((ms.getD i .val = .val\/(ms.getD i .val = .own/\J4 fl.M7 (some d)=false))/\own=false))
theorem gQ {o:Oper} (D9:o.op = .extract (.tmp x) i) (hd:o.dst=some d):I7 C R fl o s some=some s1 ↔
 ∃ dv own,I9 i (s.get x).1=some dv/\ways fl d i (s.get x).2 own/\s1=taken s x i d dv own:=by
 rw [B5M D9 hd];constructor
 ·rintro ⟨dv,h1,⟨h2,rfl⟩ | ⟨ms,h2,⟨h3,h4,rfl⟩ | ⟨h3,rfl⟩⟩⟩
  ·exact ⟨dv,false,h1, .inl ⟨h2,rfl⟩,rfl⟩
  ·exact ⟨dv,true,h1, .inr ⟨ms,h2, .inl ⟨h3,h4,rfl⟩⟩,by simp only [taken,if_true,h2]⟩
  ·exact ⟨dv,false,h1, .inr ⟨ms,h2, .inr ⟨h3,rfl⟩⟩,rfl⟩
 ·rintro ⟨dv,own,h1,⟨h2,rfl⟩ | ⟨ms,h2,⟨h3,h4,rfl⟩ | ⟨h3,rfl⟩⟩,rfl⟩
  ·exact ⟨dv,h1, .inl ⟨h2,rfl⟩⟩
  ·exact ⟨dv,h1, .inr ⟨ms,h2, .inl ⟨h3,h4,by simp only [taken,if_true,h2]⟩⟩⟩
  ·exact ⟨dv,h1, .inr ⟨ms,h2, .inr ⟨h3,rfl⟩⟩⟩
theorem fJ (h:ways fl d i m true):∃ ms,m = .Br ms:=by
 rcases h with ⟨_,h⟩ | ⟨ms,h,_⟩
 ·cases h
 ·exact ⟨ms,h⟩
variable {own:Bool}
theorem Sa {tm:List DV} {bx sg} (h:ways fl d i ((⟨tm,mt,bx,sg⟩:St).get x).2 own):HZ mt x=[]:=by
 unfold HZ;rcases h with ⟨h,_⟩ | ⟨ms,h,_⟩ <;> simp only [St.get] at h <;> rw [h]
variable {dv:DV}
theorem qI {u:Nat} (h1:u≠d) (h2:u≠x):(taken s x i d dv own).mt[u]?=s.mt[u]?:=by
 unfold taken
 split
 ·simp only [St.put,z1q (Ne.symm h1),z1q (Ne.symm h2)]
 ·simp only [St.put,z1q (Ne.symm h1)]
theorem A2Z {ms:List Meta} (h:(s.get x).2 = .Br ms):x<s.mt.length:=by
 by_cases hx:x<s.mt.length
 ·exact hx
 ·simp [St.get,z3q,z8q (zMq hx)] at h
theorem A7g {j e:Nat} {own':Bool} (MN:i≠j) (Xe:d≠x) (hw:ways fl d i (s.get x).2 own) :
 ((taken s x i d dv own).get x).1=(s.get x).1/\(ways fl e j ((taken s x i d dv own).get x).2 own' ↔ ways fl e j (s.get x).2 own'):=by
 unfold taken
 split
 ·rename_i ho
  subst ho;obtain ⟨ms,hm⟩:=fJ hw;have hx:=A2Z hm;have e1:(({ s with mt:=s.mt.set x (match (s.get x).2 with | .Br ms => .Br (ms.set i .val) | m=>m) }:St).put (some d) dv .own).get x=((s.get x).1, .Br (ms.set i .val)):=by
   rw [Uj Xe];simp only [St.get,z3q,z2q hx,zqq] at hm ⊢;rw [hm]
  rw [e1];refine ⟨rfl, ?_⟩;unfold ways;rw [hm];simp only [reduceCtorEq,false_and,false_or,Meta.Br.injEq,exists_eq_left',z3q,z1q MN]
 ·rw [Uj Xe]
  exact ⟨rfl,Iff.rfl⟩
theorem A7h (Xe:d≠x) (hw:ways fl d i (s.get x).2 own):HZ (taken s x i d dv own).mt x=[]:=by
 unfold taken
 split
 ·rename_i ho
  subst ho;obtain ⟨ms,hm⟩:=fJ hw;have hx:=A2Z hm;simp only [HZ,St.put,z3q,z1q Xe,z2q hx,zqq,hm]
 ·have:=Sa (tm:=s.tm) (mt:=s.mt) (bx:=s.bx) (sg:=s.sg) hw
  rw [<- this];exact FW (by simp only [St.put,z1q Xe])
theorem B3d {j e:Nat} {ev:DV} {o1 o2:Bool} (MN:i≠j) (hde:d≠e) (Xe:d≠x) (hex:e≠x) (h1:ways fl d i (s.get x).2 o1) (h2:ways fl e j (s.get x).2 o2) :
 taken (taken s x i d dv o1) x j e ev o2=taken (taken s x j e ev o2) x i d dv o1:=by
 cases o1 <;> cases o2
 ·simp only [taken,z9q,if_false,St.put,ztq _ _ hde]
 ·obtain ⟨ms,hm⟩:=fJ h2
  simp only [taken,z9q,if_false,if_true,Uj Xe,hm];simp only [St.put,ztq _ _ hde,ztq _ _ Xe]
 ·obtain ⟨ms,hm⟩:=fJ h1
  simp only [taken,z9q,if_false,if_true,Uj hex,hm];simp only [St.put,ztq _ _ hde,ztq _ _ hex]
 ·obtain ⟨ms,hm⟩:=fJ h1
  have hx:=A2Z hm;have g1:∀ (k f:Nat) (fv:DV),f≠x->(({ s with mt:=s.mt.set x (.Br (ms.set k .val)) }:St).put (some f) fv .own).get x=((s.get x).1, .Br (ms.set k .val)):=by
   intro k f fv hf;rw [Uj hf];simp only [St.get,z3q,z2q hx,zqq]
  simp only [taken,if_true,hm,g1 i d dv Xe,g1 j e ev hex];simp only [St.put,ztq _ _ hde,ztq _ _ hex,ztq _ _ Xe,yhq,ztq _ _ MN]
theorem B5N {oi oj:Oper} {j e:Nat} {s2:St} (gi:oi.guard=none) (gj:oj.guard=none) (pi:oi.op = .extract (.tmp x) i) (pj:oj.op = .extract (.tmp x) j) (di:oi.dst=some d) (dj:oj.dst=some e) (MN:i≠j) (hde:d≠e) (Xe:d≠x) (hex:e≠x) (Hj:Y2 C R fl ops oj s s1) (Hi:Y2 C R fl ops oi s1 s2) :
 ∃ s1',Y2 C R fl ops oi s s1'/\Y2 C R fl ops oj s1' s2/\(∀ u,u=d\/u=x->HZ s1'.mt u=HZ s2.mt u/\HZ s.mt u=HZ s1.mt u)/\(∀ u,u=e\/u=x->HZ s1'.mt u=HZ s.mt u/\HZ s2.mt u=HZ s1.mt u):=by
 unfold Y2 at Hi Hj ⊢;simp only [gi,gj] at Hi Hj ⊢;obtain ⟨dvj,oj1,hj1,hj2,rfl⟩:=(gQ pj dj).1 Hj;obtain ⟨dvi,oi1,Kc,hi2,rfl⟩:=(gQ pi di).1 Hi;have tj:=A7g (s:=s) (x:=x) (i:=j) (j:=i) (d:=e) (e:=d) (dv:=dvj) (own':=oi1) (Ne.symm MN) hex hj2;rw [tj.1] at Kc;have hi0:=tj.2.1 hi2;have ti:=A7g (s:=s) (x:=x) (i:=i) (j:=j) (d:=d) (e:=e) (dv:=dvi) (own':=oj1) MN Xe hi0;have hj3:=ti.2.2 hj2;have cm:=B3d (s:=s) (dv:=dvi) (ev:=dvj) MN hde Xe hex hi0 hj2;refine ⟨taken s x i d dvi oi1,(gQ pi di).2 ⟨dvi,oi1,Kc,hi0,rfl⟩,(gQ pj dj).2 ⟨dvj,oj1,by rw [ti.1];exact hj1,hj3,cm.symm⟩, ?_, ?_⟩
 ·rintro u (rfl | rfl)
  ·refine ⟨?_, ?_⟩
   ·rw [<- cm];exact FW (qI hde Xe).symm
   ·exact FW (qI hde Xe).symm
  ·refine ⟨(Sa hj3).trans ?_,(Sa hi0).trans (Sa hi2).symm⟩
   exact (A7h Xe hi2).symm
 ·rintro u (rfl | rfl)
  ·refine ⟨?_, ?_⟩
   ·exact FW (qI (Ne.symm hde) hex)
   ·exact FW (qI (Ne.symm hde) hex)
  ·exact ⟨(Sa hj3).trans (Sa hi0).symm,(A7h Xe hi2).trans (Sa hi2).symm⟩
theorem A9f {k:Bool} (h:Zp m=some k):∃ i,Zo m=some i:=by
 cases m <;> simp [Zp] at h <;> exact ⟨_,rfl⟩
def A0D:D8->Bool
 | .opn _ _ _=>true
 | .U1 _ _ _=>true
 | _=>false
variable {t:TypeId}
theorem B3I {P:Program} {v:Value} {r:DV × Meta} (H:cst P t v=some r):Zo r.2=none:=by
 unfold cst at H
 split at H <;> simp only [Option.some.injEq,reduceCtorEq] at H <;> subst H <;> rfl
variable (s:St) (i:Nat) (ob:D8) (rl:Option Operand)
def stored:St :=
 match rl with
 | some v=>St.release { s with sg:=s.sg.set i ob } v
 | none=>{ s with sg:=s.sg.set i ob }
theorem iX:(stored s i ob rl).sg=s.sg.set i ob:=by
 unfold stored;cases rl with
 | none=>rfl
 | some v=>cases v <;> rfl
theorem A0e:(stored s i ob rl).tm=s.tm:=by
 unfold stored;cases rl with
 | none=>rfl
 | some v=>cases v <;> rfl
theorem B4Y:(stored s i ob rl).bx=s.bx:=by
 unfold stored;cases rl with
 | none=>rfl
 | some v=>cases v <;> rfl
def Zv (mt:List Meta) (rl:Option Operand):List Meta :=
 match rl with
 | some (.tmp t)=>mt.set t (dm (mt.getD t .val))
 | _=>mt
theorem Ob:(stored s i ob rl).mt=Zv s.mt rl:=by
 unfold stored Zv;cases rl with
 | none=>rfl
 | some v=>cases v <;> rfl
theorem WN {rl:Option Operand} {u:Nat} (h:∀ v,rl=some v->u∉Em mt v):(Zv mt rl)[u]?=mt[u]?:=by
 unfold Zv
 split
 ·rename_i t
  have:=h _ rfl;rcases A9r (mt:=mt) (t:=t) with e | e
  ·rw [e] at this
   simp only [zwq] at this;rw [z1q (Ne.symm this)]
  ·rw [e]
 ·rfl
theorem B2R {r1 r2:Option Operand}:Zv (Zv mt r1) r2=Zv (Zv mt r2) r1:=by
 cases r1 with
 | none=>rfl
 | some v1 =>
   cases r2 with
   | none=>rfl
   | some v2 =>
     cases v1 <;> cases v2 <;> try rfl
     rename_i t t'
     by_cases hne:t=t'
     ·subst hne;rfl
     ·simp only [Zv,z3q,z1q hne,z1q (Ne.symm hne)]
      rw [ztq _ _ hne]
variable {i:Nat}
theorem A9x {g g':List D8} (h:g'[i]?=g[i]?):M5 g' i=M5 g i:=by unfold M5;rw [h]
theorem A9z {g g':List D8} {n:Nat} (h:g'[i]?=g[i]?):Dt g' i n=Dt g i n:=by unfold Dt;rw [h]
theorem B6B {g g':List D8} (h:g'[i]?=g[i]?):GU g' i=GU g i:=by unfold GU;rw [h]
theorem A5u {y v:Operand} {s:St} (D9:o.op = .store t y v) (hd:o.dst=none) {r:DV × Meta} (hr:src C.P 0 s y=some r) (hi:Zo r.2=some i) {kd:Bool} (hk:Zp r.2=some kd) (H:I7 C R fl o s some=some s1) :
 ∃ ob rl,(rl=none\/rl=some v)/\(A0D ob=kd/\∃ old,s.sg[i]?=some old/\A0D old=kd)/\s1=stored s i ob rl/\∀ s',src C.P 0 s' y=src C.P 0 s y->src C.P t s' v=src C.P t s v->s'.sg[i]?=s.sg[i]?->I7 C R fl o s' some=some (stored s' i ob rl):=by
 simp only [I7,D9,DD] at H;obtain ⟨r0,h1,H⟩:=A9 H;rw [hr] at h1;simp only [Option.some.injEq] at h1;subst h1;obtain ⟨u,h2,H⟩:=A9 H;obtain ⟨z,h3,H⟩:=A9 H;have pn:∀ s:St,s.put o.dst (.F3 []) .val=s:=fun s=>by rw [hd];rfl
 split at H
 ·rename_i hm;rw [hm] at hi;simp [Zo] at hi
 ·rename_i i' off hm
  rw [hm] at hi;simp only [Zo,Option.some.injEq] at hi;subst hi;rw [hm] at hk;simp only [Zp,Option.some.injEq] at hk;subst hk;obtain ⟨cs,h4,H⟩:=A9 H;have ho:∃ old,s.sg[i']?=some old/\A0D old=false:=by
   unfold M5 at h4
   split at h4
   ·rename_i hq;exact ⟨_,hq,rfl⟩
   ·cases h4
  by_cases hz:z.2=true
  ·rw [if_pos hz] at H
   obtain ⟨xs,H,h5⟩:=Mf H;obtain ⟨h6,H⟩:=L6 H;rw [pn] at H;simp only [Option.some.injEq] at H;refine ⟨_,none, .inl rfl,⟨rfl,ho⟩,H.symm,fun s' a1 a2 a3 => ?_⟩
   simp only [I7,D9,DD,a1,hr,a2,h2,h3,K3,hm,A9x a3,h4,if_pos hz,h5,if_pos h6,pn];rfl
  ·rw [if_neg hz] at H
   obtain ⟨c,H,h5⟩:=Lb H;obtain ⟨c0,h6,H⟩:=A9 H;rw [pn] at H;simp only [Option.some.injEq] at H;refine ⟨_,some v, .inr rfl,⟨rfl,ho⟩,H.symm,fun s' a1 a2 a3 => ?_⟩
   simp only [I7,D9,DD,a1,hr,a2,h2,h3,K3,hm,A9x a3,h4,if_neg hz,h5,h6,pn];rfl
 ·rename_i hm;rw [hm] at hi;simp [Zo] at hi
 ·rename_i i' sz idx hm
  rw [hm] at hi;simp only [Zo,Option.some.injEq] at hi;subst hi;rw [hm] at hk;simp only [Zp,Option.some.injEq] at hk;subst hk;obtain ⟨q,h4,H⟩:=A9 H;have ho:∃ old,s.sg[i']?=some old/\A0D old=true:=by
   unfold GU at h4
   split at h4
   ·rename_i hq;exact ⟨_,hq,rfl⟩
   ·cases h4
  obtain ⟨H,h6⟩:=Wq H;obtain ⟨h7,H⟩:=F4 H;obtain ⟨x',h8,H⟩:=A9 H;rw [pn] at H;simp only [Option.some.injEq] at H;have hx:A0D x'=true:=by
   unfold Iz at h8
   split at h8
   ·simp only [Option.some.injEq] at h8;subst h8;rfl
   ·cases h8
  refine ⟨x',none, .inl rfl,⟨hx,ho⟩,H.symm,fun s' a1 a2 a3 => ?_⟩
  simp only [I7,D9,DD,a1,hr,a2,h2,h3,K3,hm,B6B a3,h4,h6,h7,S9,h8,pn];rfl
 ·rename_i i' n sz idx off hm
  rw [hm] at hi;simp only [Zo,Option.some.injEq] at hi;subst hi;rw [hm] at hk;simp only [Zp,Option.some.injEq] at hk;subst hk;obtain ⟨q,h4,H⟩:=A9 H;have ho:∃ old,s.sg[i']?=some old/\A0D old=true:=⟨_,Zx h4,rfl⟩;obtain ⟨d,h5,H⟩:=A9 H;obtain ⟨h6,H⟩:=F4 H
  by_cases hz:z.2=true
  ·rw [if_pos hz] at H
   obtain ⟨xs,H,h7⟩:=Mf H;obtain ⟨e,h8,H⟩:=A9 H;rw [pn] at H;simp only [Option.some.injEq] at H;refine ⟨_,none, .inl rfl,⟨rfl,ho⟩,H.symm,fun s' a1 a2 a3 => ?_⟩
   simp only [I7,D9,DD,a1,hr,a2,h2,h3,K3,hm,A9z a3,h4,h5,h6,S9,if_pos hz,h7,h8,pn];rfl
  ·rw [if_neg hz] at H
   obtain ⟨c,H,h7⟩:=Lb H;obtain ⟨e,h8,H⟩:=A9 H;rw [pn] at H;simp only [Option.some.injEq] at H;refine ⟨_,none, .inl rfl,⟨rfl,ho⟩,H.symm,fun s' a1 a2 a3 => ?_⟩
   simp only [I7,D9,DD,a1,hr,a2,h2,h3,K3,hm,A9z a3,h4,h5,h6,S9,if_neg hz,h7,h8,pn];rfl
 ·simp at H
theorem B7E {s:St} {i:Bool} (h:(CF C fl ops o s).so=some i):o.guard=none/\o.dst=none/\∃ t y v r,o.op = .store t y v/\src default 0 s y=some r/\Zp r.2=some i /\
 (CF C fl ops o s).rt=tmpsOf [y,v]/\(CF C fl ops o s).wt=Em s.mt v/\∀ s',src default 0 s' y=src default 0 s y->Em s'.mt v=Em s.mt v->CF C fl ops o s'=CF C fl ops o s:=by
 unfold CF at h ⊢
 split at h
 ·rename_i hg
  simp only [hg];unfold W9 at h ⊢
  split at h
  ·simp at h
  ·rename_i hp
   unfold Ee at h
   split at h
   all_goals first
    | (simp at h;done)
    | (split at h <;> simp at h;done)
    | (split at h <;> (try (simp at h;done)) <;> split at h <;> (try (simp at h;done)) <;> split at h <;> simp at h;done)
    | skip
   ·rename_i t y v D9
    split at h
    ·rename_i r hr
     simp only at h
     by_cases hd:o.dst.isNone=true
     ·rw [if_pos hd] at h
      have ES:o.dst=none:=zUq.1 hd;refine ⟨trivial,ES,t,y,v,r,D9,hr,h, ?_, ?_,fun s' hs hs2 => ?_⟩
      ·rw [if_neg hp];unfold Ee;simp only [D9,hr]
      ·rw [if_neg hp];unfold Ee;simp only [D9,hr,ES,Option.toList_none,List.nil_append]
      ·rw [if_neg hp,if_neg hp];unfold Ee;simp only [D9,hr,hs,hs2]
     ·rw [if_neg hd] at h;cases h
    ·simp at h
   all_goals (split at h <;> (try simp at h) <;> (try (split at h <;> simp at h)))
 ·split at h
  ·simp at h
  ·split at h <;> simp [Fp.look] at h
theorem B8T {oi oj:Oper} {s s2:St} (Hj:Y2 C R fl ops oj s s1) (Hi:Y2 C R fl ops oi s1 s2) (hc:A9J ((CF C fl ops oj s).Aq s s1) ((CF C fl ops oi s1).Aq s1 s2)=true) :
 ∃ s1',Y2 C R fl ops oi s s1'/\Y2 C R fl ops oj s1' s2/\(CF C fl ops oi s).Aq s s1'=(CF C fl ops oi s1).Aq s1 s2/\(CF C fl ops oj s1').Aq s1' s2=(CF C fl ops oj s).Aq s s1:=by
 unfold A9J at hc
 split at hc
 ·rename_i ka kb ha hb
  simp only [Fp.Aq] at ha hb;simp only [Fp.Aq,zcq,bne_iff_ne,ne_eq] at hc;obtain ⟨⟨⟨C2T,c1⟩,c2⟩,c3⟩:=hc;have c1:=JK c1;have c2:=JK c2;have c3:=JK c3;obtain ⟨gj,dj,tj,yj,vj,rj,pj,sj,bj,ej,wj,fj⟩:=B7E ha;obtain ⟨gi,di,ti,yi,vi,ri,pi,si,bi,ei,wi,fi⟩:=B7E hb;obtain ⟨a,ja⟩:=A9f bj;obtain ⟨b,jb⟩:=A9f bi;rw [ei,wj] at c1;rw [wi,wj] at c2;rw [ej,wi] at c3;unfold Y2 at Hi Hj;simp only [gi,gj] at Hi Hj;have real:∀ {s:St} {y:Operand} {r:DV × Meta} {n:Nat},src default 0 s y=some r->Zo r.2=some n->src C.P 0 s y=some r:=by
   intro s y r n h1 h2;cases y with
   | tmp t=>exact h1
   | const v =>
     simp only [src] at h1;have:=B3I h1;rw [this] at h2;cases h2
   | func f=>exact h1
   | global g=>cases h1
  obtain ⟨obj,rlj,qj,⟨oj1,old1,oj2,oj3⟩,e1,Gj⟩:=A5u pj dj (real sj ja) ja bj Hj;obtain ⟨obi,Qp,qi,⟨oi1,old2,oi2,oi3⟩,e2,Gi⟩:=A5u pi di (real si jb) jb bi Hi;have Cy:a≠b:=by
   rintro rfl;have hl:a<s.sg.length:=by
    rcases zsq a s.sg.length with h | h
    ·exact h
    ·rw [z8q h] at oj2;cases oj2
   rw [e1,iX,z2q hl] at oi2;simp only [Option.some.injEq] at oi2;subst oi2;exact C2T (oj1.symm.trans oi3)
  have sj':∀ v,rlj=some v->v=vj:=fun v h=>by rcases qj with q | q <;> rw [q] at h <;> simp at h;exact h.symm
  have si':∀ v,Qp=some v->v=vi:=fun v h=>by rcases qi with q | q <;> rw [q] at h <;> simp at h;exact h.symm
  have B7G:∀ {P:Program} {t:TypeId} {st st':St} {y:Operand},(∀ u∈L9 y,st'.tm[u]?=st.tm[u]?/\st'.mt[u]?=st.mt[u]?)->src P t st' y=src P t st y:=by
   intro P t st st' y h;cases y with
   | tmp u =>
     obtain ⟨h1,h2⟩:=h u (by simp [L9])
     simp only [src,St.get,Kb h1,Kb h2]
   | _=>rfl
  have k1:∀ {P:Program} {t:TypeId} {y:Operand},(∀ u∈L9 y,u∉Em s.mt vj)->src P t s1 y=src P t s y:=by
   intro P t y h;rw [e1];exact B7G fun u hu=>⟨by rw [A0e],by rw [Ob,WN fun v hv=>by rw [sj' v hv];exact h u hu]⟩
  have y1:∀ u∈L9 yi,u∉Em s.mt vj:=fun u hu hv=>c1 u hv (by simp [tmpsOf,hu])
  have y2:∀ u∈L9 vi,u∉Em s.mt vj:=fun u hu hv=>c1 u hv (by simp [tmpsOf,hu])
  have mtj:∀ u,u∉Em s.mt vj->s1.mt[u]?=s.mt[u]?:=fun u hu=>by rw [e1,Ob,WN fun v hv=>by rw [sj' v hv];exact hu]
  have ri1:Em s1.mt vi=Em s.mt vi:=m_ fun u hu=>mtj u (y2 u hu)
  rw [ri1] at wi c2 c3;have k2:∀ {P:Program} {t:TypeId} {y:Operand},(∀ u∈L9 y,u∉Em s.mt vi)->src P t (stored s b obi Qp) y=src P t s y:=by
   intro P t y h;exact B7G fun u hu=>⟨by rw [A0e],by rw [Ob,WN fun v hv=>by rw [si' v hv];exact h u hu]⟩
  have y3:∀ u∈L9 yj,u∉Em s.mt vi:=fun u hu hv=>c3 u hv (by simp [tmpsOf,hu])
  have y4:∀ u∈L9 vj,u∉Em s.mt vi:=fun u hu hv=>c3 u hv (by simp [tmpsOf,hu])
  have A1:=Gi s (k1 y1).symm (k1 y2).symm (by rw [e1,iX,z1q Cy])
  have A2:=Gj (stored s b obi Qp) (k2 y3) (k2 y4) (by rw [iX,z1q (Ne.symm Cy)])
  have B90:stored (stored s b obi Qp) a obj rlj=s2:=by
   rw [e2,e1];have h1:(stored (stored s b obi Qp) a obj rlj).mt=(stored (stored s a obj rlj) b obi Qp).mt:=by
    simp only [Ob];exact B2R
   have h2:(stored (stored s b obi Qp) a obj rlj).sg=(stored (stored s a obj rlj) b obi Qp).sg:=by
    simp only [iX];rw [ztq _ _ (Ne.symm Cy)]
   have h3:(stored (stored s b obi Qp) a obj rlj).tm=(stored (stored s a obj rlj) b obi Qp).tm:=by simp only [A0e]
   have h4:(stored (stored s b obi Qp) a obj rlj).bx=(stored (stored s a obj rlj) b obi Qp).bx:=by simp only [B4Y]
   generalize stored (stored s b obi Qp) a obj rlj=A at *;generalize stored (stored s a obj rlj) b obi Qp=B at *;cases A;cases B;simp_all
  rw [B90] at A2;have C0r:∀ u,u∉Em s.mt vi->(stored s b obi Qp).mt[u]?=s.mt[u]?:=fun u hu=>by rw [Ob,WN fun v hv=>by rw [si' v hv];exact hu]
  have rj1:Em (stored s b obi Qp).mt vj=Em s.mt vj:=m_ fun u hu=>C0r u (y4 u hu)
  have fi':=fi s (k1 y1).symm ri1.symm;have fj':=fj (stored s b obi Qp) (k2 y3) rj1;have mti:∀ u,u∉Em s.mt vi->s2.mt[u]?=s1.mt[u]?:=fun u hu=>by rw [e2,Ob,WN fun v hv=>by rw [si' v hv,ri1];exact hu]
  have C3b:∀ u,u∉Em s.mt vj->s2.mt[u]?=(stored s b obi Qp).mt[u]?:=fun u hu=>by rw [<- B90,Ob,WN fun v hv=>by rw [sj' v hv,rj1];exact hu]
  refine ⟨stored s b obi Qp, ?_, ?_, ?_, ?_⟩
  ·unfold Y2;simp only [gi];exact A1
  ·unfold Y2;simp only [gj];exact A2
  ·rw [fi']
   simp only [Fp.Aq,Fp.mk.injEq,true_and,and_true];rw [wi]
   congr 1
   ·exact AX fun u hu=>(FW (mtj u (y2 u (pQ hu)))).symm
   ·exact AX fun u hu=>(FW (C3b u (y2 u (pQ hu)))).symm
  ·rw [fj']
   simp only [Fp.Aq,Fp.mk.injEq,true_and,and_true];rw [wj]
   congr 1
   ·exact AX fun u hu=>FW (C0r u (y4 u (pQ hu)))
   ·exact AX fun u hu=>FW (mti u (y4 u (pQ hu)))
 ·cases hc
theorem B3b {oi oj:Oper} {s s2:St} (Hj:Y2 C R fl ops oj s s1) (Hi:Y2 C R fl ops oi s1 s2) (hc:B1W ((CF C fl ops oj s).Aq s s1) ((CF C fl ops oi s1).Aq s1 s2)=true) :
 ∃ s1',Y2 C R fl ops oi s s1'/\Y2 C R fl ops oj s1' s2/\(CF C fl ops oi s).Aq s s1'=(CF C fl ops oi s1).Aq s1 s2/\(CF C fl ops oj s1').Aq s1' s2=(CF C fl ops oj s).Aq s s1:=by
 obtain ⟨nj,Fj⟩:=A5t Hj;obtain ⟨ni,Fi⟩:=A5t Hi;generalize hfj:CF C fl ops oj s=f at *;generalize hfi:CF C fl ops oi s1=g at *;simp only [B1W,Fp.Aq,zcq,zNq,Bool.and_eq_false_imp,Bool.or_eq_false_iff] at hc;obtain ⟨⟨⟨⟨⟨⟨⟨⟨⟨c1,c2⟩,c3⟩,c4⟩,c5⟩,c6⟩,c7⟩,c8⟩,c9⟩,c10⟩:=hc;have c1:=JK c1;have c2:=JK c2;have c3:=JK c3;have c4:=JK c4;have c5:=JK c5;have c6:=JK c6;obtain ⟨-,Tj⟩:=Fj s (GH.refl nj);obtain ⟨s1x,Tj,Rj⟩:=Tj;obtain rfl:=Rj.det Hj;obtain ⟨-,Ti⟩:=Fi s1x (GH.refl ni);obtain ⟨s2x,Ti,Ri⟩:=Ti;obtain rfl:=Ri.det Hi;have B2D:∀ u:Nat,u∉f.wt->s1x.tm[u]?=s.tm[u]?/\s1x.mt[u]?=s.mt[u]?:=fun u hu=>by
  rcases Tj.t u with ⟨h,_⟩ | ⟨h,_⟩
  ·exact absurd h hu
  ·exact h
 have C3f:∀ u:Nat,u∉g.wt->s2x.tm[u]?=s1x.tm[u]?/\s2x.mt[u]?=s1x.mt[u]?:=fun u hu=>by
  rcases Ti.t u with ⟨h,_⟩ | ⟨h,_⟩
  ·exact absurd h hu
  ·exact h
 have C1Z:∀ u:Nat,u∉f.wb->s1x.bx[u]?=s.bx[u]?:=fun u hu=>by
  rcases Tj.b u with ⟨h,_⟩ | ⟨h,_⟩
  ·exact absurd h hu
  ·exact h
 have Ai:GH g s1x s:=by
  refine ⟨Tj.ls.1.symm,Tj.ls.2.1.symm,Tj.ls.2.2.symm,fun u hu => ?_,fun u hu => ?_,fun hr => ?_,fun t ht => ?_⟩
  ·have:=B2D u fun h=>c1 u h hu
   exact ⟨this.1.symm,this.2.symm⟩
  ·exact (C1Z u fun h=>c4 u h hu).symm
  ·rcases Tj.s with ⟨h,_⟩ | ⟨h,_⟩
   ·rw [(c7 h).1] at hr;cases hr
   ·exact h.symm
  ·rw [Zn]
   intro u s0 o0 hu R6
   by_cases hw:u∈f.wt
   ·have Uk:A0F g (f.Aq s s1x)=true:=c10
    simp only [A0F,ht,zNq,y2q,decide_eq_false_iff_not,Fp.Aq,zbq,not_or] at Uk;refine Uk.1 (zVq.2 ⟨u,hw, ?_⟩);simp only [HZ,z3q,hu,zqq,zwq];exact R6.symm
   ·have:=Zn.1 (ni t ht) u s0 o0 (by rw [(B2D u hw).2];exact hu)
    exact this R6
 obtain ⟨ei,s1',Ti',Ri'⟩:=Fi s Ai;have Aj:GH f s s1':=by
  refine ⟨Ti'.ls'.1.trans Tj.ls.1,Ti'.ls'.2.1.trans Tj.ls.2.1,Ti'.ls'.2.2.trans Tj.ls.2.2,fun u hu => ?_,fun u hu => ?_,fun hr => ?_,fun t ht => ?_⟩
  ·rcases Ti'.t u with ⟨h,_⟩ | ⟨h,_⟩
   ·exact absurd hu (c3 u h)
   ·exact h
  ·rcases Ti'.b u with ⟨h,_⟩ | ⟨h,_⟩
   ·exact absurd hu (c6 u h)
   ·exact h
  ·rcases Ti'.s with ⟨h,_⟩ | ⟨h,_⟩
   ·rw [(c8 h).1] at hr;cases hr
   ·exact h
  ·rw [Zn]
   intro u s0 o0 hu R6;rcases Ti'.t u with ⟨hw,_,h⟩ | ⟨⟨_,h⟩,_⟩
   ·have h9:A0F f (g.Aq s1x s2x)=true:=c9
    simp only [A0F,ht,zNq,y2q,decide_eq_false_iff_not,Fp.Aq,zbq,not_or] at h9;refine h9.2 (zVq.2 ⟨u,hw, ?_⟩);rw [h] at hu;simp only [HZ,z3q,hu,zqq,zwq];exact R6.symm
   ·exact Zn.1 (nj t ht) u s0 o0 (by rw [<- h];exact hu) R6
 obtain ⟨ej,s2',Tj',Rj'⟩:=Fj s1' Aj;have hs:s2'=s2x:=by
  have tt:∀ u:Nat,s2'.tm[u]?=s2x.tm[u]?/\s2'.mt[u]?=s2x.mt[u]?:=fun u=>by
   rcases Ti'.t u with ⟨hi,h1,h2⟩ | ⟨⟨h1,h2⟩,h3,h4⟩ <;> rcases Tj'.t u with ⟨hj,h5,h6⟩ | ⟨⟨h5,h6⟩,h7,h8⟩
   ·exact absurd hi (c2 u hj)
   ·exact ⟨h5.trans h1,h6.trans h2⟩
   ·exact ⟨h5.trans h3.symm,h6.trans h4.symm⟩
   ·exact ⟨by rw [h5,h1,h3,h7],by rw [h6,h2,h4,h8]⟩
  have bb:∀ u:Nat,s2'.bx[u]?=s2x.bx[u]?:=fun u=>by
   rcases Ti'.b u with ⟨hi,h1⟩ | ⟨h1,h3⟩ <;> rcases Tj'.b u with ⟨hj,h5⟩ | ⟨h5,h7⟩
   ·exact absurd hi (c5 u hj)
   ·exact h5.trans h1
   ·exact h5.trans h3.symm
   ·rw [h5,h1,h3,h7]
  have ss:s2'.sg=s2x.sg:=by
   rcases Ti'.s with ⟨hi,h1⟩ | ⟨h1,h3⟩ <;> rcases Tj'.s with ⟨hj,h5⟩ | ⟨h5,h7⟩
   ·have:=(c7 hj).2;rw [hi] at this;cases this
   ·exact h5.trans h1
   ·exact h5.trans h3.symm
   ·rw [h5,h1,h3,h7]
  have h1:s2'.tm=s2x.tm:=Kh fun i=>(tt i).1
  have h2:s2'.mt=s2x.mt:=Kh fun i=>(tt i).2
  have h3:s2'.bx=s2x.bx:=Kh bb;cases s2';cases s2x;simp_all
 subst hs;refine ⟨s1',Ri',Rj', ?_, ?_⟩
 ·rw [ei]
  simp only [Fp.Aq,Fp.mk.injEq,true_and,and_true]
  congr 1
  ·exact AX fun u hu=>(FW (B2D u fun h=>c2 u h hu).2).symm
  ·refine AX fun u hu=>FW ?_
   rcases Ti'.t u with ⟨_,_,h⟩ | ⟨⟨_,h2⟩,_,h4⟩
   ·exact h
   ·rw [h2,h4,(B2D u fun h=>c2 u h hu).2]
 ·rw [ej]
  simp only [Fp.Aq,Fp.mk.injEq,true_and,and_true]
  congr 1
  ·refine AX fun u hu=>FW ?_
   rcases Ti'.t u with ⟨h,_⟩ | ⟨⟨_,h⟩,_⟩
   ·exact absurd h (c2 u hu)
   ·exact h
  ·exact AX fun u hu=>FW (C3f u fun h=>c2 u hu h).2
theorem B4X {oi oj:Oper} {s s2:St} (Hj:Y2 C R fl ops oj s s1) (Hi:Y2 C R fl ops oi s1 s2) (hc:comm ((CF C fl ops oj s).Aq s s1) ((CF C fl ops oi s1).Aq s1 s2)=true) :
 ∃ s1',Y2 C R fl ops oi s s1'/\Y2 C R fl ops oj s1' s2/\(CF C fl ops oi s).Aq s s1'=(CF C fl ops oi s1).Aq s1 s2/\(CF C fl ops oj s1').Aq s1' s2=(CF C fl ops oj s).Aq s s1:=by
 unfold comm at hc;rcases y5q.1 hc with hc | hc
 rotate_left
 ·exact B8T Hj Hi hc
 rcases y5q.1 hc with hc | hc
 ·exact B3b Hj Hi hc
 ·unfold B33 at hc
  split at hc
  ·rename_i x j e y i d h1 h2
   simp only [Fp.Aq] at h1 h2;simp only [zcq,beq_iff_eq,bne_iff_ne,ne_eq] at hc;obtain ⟨⟨⟨⟨rfl,c2⟩,c3⟩,c4⟩,c5⟩:=hc;obtain ⟨gj,pj,dj,fj,wj⟩:=B7f h1;obtain ⟨gi,pi,di,fi,wi⟩:=B7f h2;obtain ⟨s1',k1,k2,k3,k4⟩:=B5N gi gj pi pj di dj (Ne.symm c2) (Ne.symm c3) c5 c4 Hj Hi;refine ⟨s1',k1,k2, ?_, ?_⟩
   ·rw [fi s]
    simp only [Fp.Aq,Fp.mk.injEq,true_and,and_true]
    congr 1
    ·exact AX fun u hu=>(k3 u (wi u hu)).2
    ·exact AX fun u hu=>(k3 u (wi u hu)).1
   ·rw [fj s1']
    simp only [Fp.Aq,Fp.mk.injEq,true_and,and_true]
    congr 1
    ·exact AX fun u hu=>(k4 u (wj u hu)).1
    ·exact AX fun u hu=>(k4 u (wj u hu)).2
  ·cases hc
end
end Go.Su
