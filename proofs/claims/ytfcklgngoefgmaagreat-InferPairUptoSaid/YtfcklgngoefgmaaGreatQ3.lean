/-
  Parts of the proof, merged: SuDraw2, SuDraw3, SuItr, SuScope, SuCode, SuFun, SuRun, SuCont, SuCont2, SuCont3, SuAt, SuTy, SuPl, SuJoin, SuRd, SuM1, SuIt, SuM2, SuM3, SuM4, SuM5, SuRd2, SuFix, SuKeys, SuClone, SuMp, SuM6, SuM7, SuM8, SuM9, SuM10, SuM11, SuM12, SuX1, SuX2, SuX3, SuE1, SuE2, SuC1, SuT1, SuT2, SuC2, SuE3, SuE4, SuE5, SuE6, SuE7, SuE8, SuT3, SuT4, SuN1, SuN2, SuN3.
-/
import Derived.Below
import Derived.ChangeArms
import Derived.ChangeShapes
import Derived.DataReads
import Derived.IntWalk
import Derived.KernelRfl
import Derived.Lib.SliceRun
import Derived.LoopNIn
import Derived.Maps.RangeRun
import Derived.OrdersIn
import Derived.OwnWalkIn
import Derived.RangeFuncBound
import Derived.RangeFuncCalls
import Derived.RangeFuncLeaves
import Derived.Sort.KeysCollected
import Derived.Sort.OwnSorted
import Derived.Test.YtfcklgngoefgmaaGreatQ2
set_option linter.defProp false
set_option linter.unusedSectionVars false
set_option linter.unusedSimpArgs false
set_option linter.unusedVariables false
open Array renaming getElem?_eq_some_iff → z1q, getElem?_setIfInBounds_ne → z9q, getElem?_eq_getElem → zjq, getElem?_setIfInBounds_self_of_lt → zqq, getElem?_replicate → zFq, getD_eq_getD_getElem? → zMq, length_toList → zRq, getElem?_modify → y6q, getElem_toList → y9q, ext_getElem? → yiq
open Bool renaming and_eq_true → z5q, false_eq_true → zoq, or_eq_true → y2q, eq_iff_iff → y5q, not_false → yvq, not_true → yzq, or_false → yAq
open List renaming getElem?_eq_some_iff → z0q, mem_cons_of_mem → z2q, getElem?_eq_getElem → z3q, mem_cons_self → z4q, getD_eq_getElem?_getD → z6q, all_eq_true → z7q, mem_append → zaq, length_cons → zbq, getElem?_cons_succ → zcq, getElem?_append_left → zdq, map_cons → zeq, eq_nil_of_length_eq_zero → zfq, getElem?_map → zhq, mem_singleton → ziq, mem_cons → zkq, getElem?_cons_zero → zlq, drop_eq_getElem_cons → zpq, sum_cons → zsq, mem_map_of_mem → zuq, sizeOf_lt_of_mem → zvq, mem_flatMap → zwq, pairwise_append → zxq, length_eq_zero_iff → zAq, length_nil → zBq, attach_map_val → zCq, getElem?_append_right → zEq, getElem?_replicate → zGq, pairwise_cons → zHq, length_append → zIq, mem_filter → zJq, all_map → zKq, getElem_mem → zLq, getElem?_zip_eq_some → zNq, length_map → zOq, foldl_cons → zPq, find?_cons → zQq, map_nil → zUq, getElem?_set_self → zVq, length_eq_one_iff → zWq, length_pos_of_mem → zXq, drop_of_length_le → zYq, drop_length → zZq, getElem_map → y0q, getElem?_set_ne → y3q, getElem?_mapIdx → y4q, getElem?_modify → y7q, map_append → y8q, getD_cons_succ → yaq, getD_cons_zero → ybq, take_take → ydq, getElem?_ofFn → yeq, append_assoc → yfq, getElem?_set → ygq, all_cons → yjq, flatMap_cons → ykq, nodup_append → ymq, range'_succ → ynq, filter_cons → yoq, all_flatMap → ypq, length_set → yrq, append_nil → ysq, nodup_cons → ytq, mapM_cons → yuq, drop_take → ywq, drop_drop → yxq, mem_range → yyq
open Nat renaming le_refl → z8q, zero_add → znq, lt_or_ge → zrq, lt_of_lt_of_le → ztq, le_trans → zyq, le_add_right → zzq, le_add_left → zDq, add_sub_cancel_left → zSq, le_zero → zTq, le_of_not_lt → yhq, zero_mul → ylq, zero_le → yqq
open Option renaming map_some → zgq, map_eq_some_iff → zmq, bind_eq_some_iff → y1q, getD_some → ycq
namespace Go.Su
section
variable {X:Type}{C:BQ}{R:O8}{fl:H8}{ops:List Oper}{o:Oper}
def A3h(hg:o.guard=none)(s s1:St):AO C R fl ops o s s1↔J3 C R fl o s some=some s1:=by unfold AO;rw[hg]
variable {g:Nat}{want:Bool}{t:Nat}
def dw(hg:o.guard=some (g,want))(ht:Ll ops g=some t)(s s1:St):AO C R fl ops o s s1↔K6 (s.get t).2=true /\
 (((s.get t).1=.bool want/\J3 C R fl o s some=some s1)\/(((s.get t).1=.bool !want\/(s.get t).1=.J6 [])/\s1=s.put o.dst (.J6 []) .val)):=by
 unfold AO;rw[hg];simp only[ht,D8,exists_eq_left']
def A6r(hg:o.guard=none)(s:St):Bh C fl ops o s=Z8 C fl o s:=by unfold Bh;rw[hg]
def A6s(hg:o.guard=some (g,want))(ht:Ll ops g=some t)(s:St):
 Bh C fl ops o s=if fI want (s.get t).1 then(Z8 C fl o s).look t else{ rt:=[t],wt:=o.dst.toList }:=by
 unfold Bh;rw[hg];simp only[ht]
variable {st:St}{x:X}
def A7w{J:St->Option X}(hb:(st.get t).1=.bool want)(H:J3 C R fl o (st.know t (.bool want)) J=some x):
 ∃s1,J3 C R fl o st some=some s1/\J s1=some x:=by
 rw[JY hb (by simp)]at H;obtain⟨s1,h1,h2⟩:=nJ H;exact⟨s1,h2 _ some,h1⟩
variable {os:List Oper}
def yK{bf:List (List Nat)}{i:Nat}{acc:List (Nat×Fp)}{k:St->Option X}(H:DT C R fl ops bf (o::os) i acc st k=some x):
 ∃s1,AO C R fl ops o st s1/\Ki bf i acc ((Bh C fl ops o st).AB st s1)=true/\(∀q∈S_ bf i acc ((Bh C fl ops o st).AB st s1),q.2.1[q.2.2]?=q.1[q.2.2]?)/\DT C R fl ops bf os (i+1) ((i,(Bh C fl ops o st).AB st s1)::acc) s1 k=some x:=by
 simp only[DT,Zg,A1n]at H;split at H
 ·rename_i hg;rw[A6r hg];obtain⟨s1,h1,h2⟩:=nJ H;obtain⟨h3,h4⟩:=H6 h1;obtain⟨h5,h4⟩:=oW h4;exact⟨s1,(A3h hg _ _).2 (h2 _ some),h3,h5,h4⟩
 ·rename_i g want hg;obtain⟨t,ht,H⟩:=D6 H;obtain⟨hd,H⟩:=H6 H;rw[A6s hg ht];have run:(st.get t).1=.bool want->jU C R fl o t (st.know t (.bool want)) (λf st1=>og (Ki bf i acc f) (lH (S_ bf i acc f) (DT C R fl ops bf os (i+1) ((i,f)::acc) st1 k)))=some x->
   ∃s1,AO C R fl ops o st s1/\Ki bf i acc ((if fI want (st.get t).1 then(Z8 C fl o st).look t else{ rt:=[t],wt:=o.dst.toList }).AB st s1)=true/\(∀q∈S_ bf i acc ((if fI want (st.get t).1 then(Z8 C fl o st).look t else{ rt:=[t],wt:=o.dst.toList }).AB st s1),q.2.1[q.2.2]?=q.1[q.2.2]?) /\DT C R fl ops bf os (i+1) ((i,(if fI want (st.get t).1 then(Z8 C fl o st).look t else{ rt:=[t],wt:=o.dst.toList }).AB st s1)::acc) s1 k=some x:=by
   intro fD H9;rw[A9 (Z_.2 fD)];unfold jU at H9;obtain⟨s1,h1,h2⟩:=A7w fD H9;rw[JY fD (by simp)]at h2;obtain⟨h3,h4⟩:=H6 h2;obtain⟨h5,h4⟩:=oW h4;exact⟨s1,(dw hg ht _ _).2 ⟨hd,.inl ⟨fD,h1⟩⟩,h3,h5,h4⟩
  have skip:∀d:DV,(d=.bool !want\/d=.J6 [])->(st.get t).1=d->Wn o t (st.know t d) (λf st1=>og (Ki bf i acc f) (lH (S_ bf i acc f) (DT C R fl ops bf os (i+1) ((i,f)::acc) st1 k)))=some x->
   ∃s1,AO C R fl ops o st s1/\Ki bf i acc ((if fI want (st.get t).1 then(Z8 C fl o st).look t else{ rt:=[t],wt:=o.dst.toList }).AB st s1)=true/\(∀q∈S_ bf i acc ((if fI want (st.get t).1 then(Z8 C fl o st).look t else{ rt:=[t],wt:=o.dst.toList }).AB st s1),q.2.1[q.2.2]?=q.1[q.2.2]?) /\DT C R fl ops bf os (i+1) ((i,(if fI want (st.get t).1 then(Z8 C fl o st).look t else{ rt:=[t],wt:=o.dst.toList }).AB st s1)::acc) s1 k=some x:=by
   intro d Rk fD H9;rw[JY fD (by rcases Rk with h | h<;>rw[h]<;>simp)]at H9;have hB:¬(fI want (st.get t).1=true):=by rw[Z_,fD];rcases Rk with h | h<;>rw[h]<;>cases want<;>simp
   rw[A7 hB];unfold Wn at H9;obtain⟨h3,h4⟩:=H6 H9;obtain⟨h5,h4⟩:=oW h4;exact⟨_,(dw hg ht _ _).2 ⟨hd,.inr ⟨by rw[fD];exact Rk,rfl⟩⟩,h3,h5,h4⟩
  rcases A69 H with⟨hb,H9⟩ | ⟨hb,H9⟩ | ⟨hb,H9⟩
  ·cases want
   ·exact skip _ (.inl rfl) hb H9
   ·exact run hb H9
  ·cases want
   ·exact run hb H9
   ·exact skip _ (.inl rfl) hb H9
  ·exact skip _ (.inr rfl) hb H9
def A1d{k:St->Option X}(H:FO C R fl ops (o::os) st k=some x):
 ∃s1,AO C R fl ops o st s1/\FO C R fl ops os s1 k=some x:=by
 simp only[FO,Zg]at H;split at H
 ·rename_i hg;obtain⟨s1,h1,h2⟩:=nJ H;exact⟨s1,(A3h hg _ _).2 (h2 _ some),h1⟩
 ·rename_i g want hg;obtain⟨t,ht,H⟩:=D6 H;obtain⟨hd,H⟩:=H6 H;have run:(st.get t).1=.bool want->J3 C R fl o (st.know t (.bool want)) (λst=>FO C R fl ops os st k)=some x->
   ∃s1,AO C R fl ops o st s1/\FO C R fl ops os s1 k=some x:=by
   intro fD H9;obtain⟨s1,h1,h2⟩:=A7w fD H9;exact⟨s1,(dw hg ht _ _).2 ⟨hd,.inl ⟨fD,h1⟩⟩,h2⟩
  have skip:∀d:DV,(d=.bool !want\/d=.J6 [])->(st.get t).1=d->FO C R fl ops os ((st.know t d).put o.dst (.J6 []) .val) k=some x->
   ∃s1,AO C R fl ops o st s1/\FO C R fl ops os s1 k=some x:=by
   intro d Rk fD H9;rw[JY fD (by rcases Rk with h | h<;>rw[h]<;>simp)]at H9;exact⟨_,(dw hg ht _ _).2 ⟨hd,.inr ⟨by rw[fD];exact Rk,rfl⟩⟩,H9⟩
  rcases A69 H with⟨hb,H9⟩ | ⟨hb,H9⟩ | ⟨hb,H9⟩
  ·cases want
   ·exact skip _ (.inl rfl) hb H9
   ·exact run hb H9
  ·cases want
   ·exact run hb H9
   ·exact skip _ (.inl rfl) hb H9
  ·exact skip _ (.inr rfl) hb H9
def A5m(f g:Fp):Prop:=comm f g=true/\Calm f g
def ZO(C:BQ)(R:O8)(fl:H8)(ops:List Oper):List (Nat×Fp)->St->St->Prop
 |[],s,t=>s=t
 |p::l,s,t=>∃o s1,ops[p.1]?=some o/\AO C R fl ops o s s1/\p.2=(Bh C fl ops o s).AB s s1/\ZO C R fl ops l s1 t
def ZO.first:∀{A B:List (Nat×Fp)}{p:Nat×Fp}{s t:St},ZO C R fl ops (A++p::B) s t->(∀q∈A,A5m q.2 p.2)->
 ∃o s1,ops[p.1]?=some o/\AO C R fl ops o s s1/\p.2=(Bh C fl ops o s).AB s s1/\ZO C R fl ops (A++B) s1 t
 |[],B,p,s,t,H,_=>H
 |q::A,B,p,s,t,H,hc=>by obtain⟨oq,s1,h1,h2,h3,H⟩:=H;obtain⟨op,s2,h4,h5,h6,H⟩:=ZO.first (A:=A) H λq' um=>hc q' (z2q _ um);have h7:=hc q (z4q ..);rw[h3,h6]at h7;obtain⟨s1',k1,k2,k3,k4⟩:=B3B h2 h5 h7.1 h7.2;exact⟨op,s1',h4,k1,by rw[h6,k3],oq,s2,h1,k2,by rw[h3,k4],H⟩
def uL{bf:List (List Nat)}{k:St->Option X}{x:X}:∀{os:List Oper}{i:Nat}{acc:List (Nat×Fp)}{st:St},(∀j:Nat,os[j]?=ops[i+j]?)->DT C R fl ops bf os i acc st k=some x->
 ∃l t,k t=some x/\ZO C R fl ops l st t/\l.map (·.1)=List.range' i os.length/\(∀p∈acc,∀q∈l,p.1∈bf.getD q.1 []\/A5m p.2 q.2) /\l.Pairwise λp q=>p.1∈bf.getD q.1 []\/A5m p.2 q.2
 |[],i,acc,st,_,H=>⟨[],st,H,rfl,rfl,by simp,.nil⟩
 |o::os,i,acc,st,hs,H=>by
   obtain⟨s1,h1,h2,Pd,h3⟩:=yK H;have Db:∀j:Nat,os[j]?=ops[i+1+j]?:=λj=>by have:=hs (j+1);simp only[zcq]at this;rw[this];congr 1;omega
   obtain⟨l,t,k1,k2,k3,k4,k5⟩:=uL Db h3;refine⟨(i,(Bh C fl ops o st).AB st s1)::l,t,k1,⟨o,s1,?_,h1,rfl,k2⟩,?_,λp hp q hq=>?_,.cons (λq hq=>k4 _ (z4q ..) q hq) k5⟩
   ·have:=hs 0;simpa using this.symm
   ·simp only[zeq,zbq,ynq,k3]
   ·rcases zkq.1 hq with rfl | hq
    ·have:=z7q.1 h2 p hp;simp only[y2q,List.contains_eq_mem,I6]at this;by_cases hb:p.1∈bf.getD i []
     ·exact .inl hb
     ·refine .inr ⟨this.resolve_left hb,λq hq=>Pd q (zwq.2 ⟨p,hp,?_⟩)⟩;have hc:(bf.getD i []).contains p.1=false:=by simpa using hb
      rw[hc];exact hq
    ·exact k4 p (z2q _ hp) q hq
end
section
variable {C:BQ}{R:O8}{fl:H8}{ops:List Oper}{E:Env}{a:Act}{w:World}{K:Act->World->Prop}{Q:Exit->Act->World->Prop}
def wG{st:St}{g t:Nat}{b:Bool}(Rl:L6 E st a w.heap)(ht:Ll ops g=some t)(hd:K6 (st.get t).2=true)(hb:(st.get t).1=.bool b):yielded ops.toArray a.tmps g=some b:=by
 unfold Ll at ht;obtain⟨o,h1,h2⟩:=D6 ht;have P6:t<a.tmps.size:=by
  rw[Rl.size];rcases zrq t st.tm.length with h | h
  ·exact h
  ·rw[YK h Rl.AZ]at hb;cases hb
 have hv:a.tmps[t]?=some a.tmps[t]:=zjq P6;have:=(Rl.Be t _ hv).data hd;rw[hb]at this;simp only[RV]at this;unfold yielded;simp[h1,h2,hv,this]
def A82{st:St}{g t:Nat}(Rl:L6 E st a w.heap)(ht:Ll ops g=some t)(hd:K6 (st.get t).2=true)(hb:(st.get t).1=.J6 []):yielded ops.toArray a.tmps g=none:=by
 unfold Ll at ht;obtain⟨o,h1,h2⟩:=D6 ht;have P6:t<a.tmps.size:=by
  rw[Rl.size];rcases zrq t st.tm.length with h | h
  ·exact h
  ·rw[YK h Rl.AZ]at hb;cases hb
 have hv:a.tmps[t]?=some a.tmps[t]:=zjq P6;have:=(Rl.Be t _ hv).data hd;rw[hb]at this;simp only[RV]at this;obtain⟨vs,h3,h4⟩:=this;unfold yielded;simp[h1,h2,hv,h3]
def J8(ro:Option Nat):Fence:={ fn:=λ_=>True,depth:=none,alive:=false,round:=ro }
variable {ro:Option Nat}{n:Nat}{P:Program}
def A8f{f:FuncId}{args:Array Value}{w:World}{R:Ending->World->Prop}(h:Calls P f args w R):CallsIn (J8 ro) n P f args w R:=by
 have h1:CallsIn Fence.wide n P f args w R:=callsIn_wide.2 h;cases ro with
 |none=>exact h1
 |some l=>exact CallsIn.inRound l h1
def Gp.wpIn{o:Oper}(hd:∀c,o.op ≠ .defer c)(H:Gp P o a w K):o.wpIn (J8 ro) n P a w K Q:=by
 refine⟨λ_ _=>trivial,?_⟩;rw[Oper.semAt_eq _ _ _ hd];rcases H with⟨v,w',h1,h2⟩ | ⟨w',h1,h2⟩ | ⟨f,args,h1,h2⟩
 ·rw[h1];exact h2
 ·rw[h1];exact h2
 ·rw[h1];exact⟨λh=>(by cases h),A8f (h2.mono λe w' ⟨v,he,hk⟩=>by subst he;exact hk)⟩
def B54{i:Nat}{o:Oper}{s s1:St}(hO:Iz C R)(ho:ops[i]?=some o)(H:AO C R fl ops o s s1)(Rl:L6 E s a w.heap)(T:∀E' a' w',a'.defers=a.defers->L6 E' s1 a' w'.heap->Pr P8 E w.heap E' w'.heap->Y9 w w'->K a' w'):wpOpIn (J8 ro) n C.P ops.toArray Q i K a w:=by
 unfold wpOpIn;have ho':ops.toArray[i]?=some o:=by simpa using ho
 simp only[ho'];unfold AO at H;have run:J3 C R fl o s some=some s1->o.wpIn (J8 ro) n C.P a w K Q:=λH=>by
  have hd:∀c,o.op ≠ .defer c:=λc hc=>by simp[J3,hc]at H
  have h0:Gp C.P o a w λa' w'=>∃E',L6 E' s1 a' w'.heap/\Pr P8 E w.heap E' w'.heap/\Y9 w w':=B8Y hO H Rl λE' st' a' w' h1 h2 h3 h4=>by simp only[D8]at h1;subst h1;exact⟨E',h2,h3,h4⟩
  exact Gp.wpIn hd (h0.mono λa' w' hd ⟨E',h1,h2,h3⟩=>T E' a' w' hd h1 h2 h3)
 split at H
 ·rename_i hg;have hw:Region.wanted o (yielded ops.toArray a.tmps)=true:=by simp[Region.wanted,hg]
  rw[A9 hw];exact run H
 ·rename_i g want hg;obtain⟨t,ht,hd,H⟩:=H;rcases H with⟨hb,H⟩ | ⟨hb,H⟩
  ·have hw:Region.wanted o (yielded ops.toArray a.tmps)=true:=by simp[Region.wanted,hg,wG Rl ht hd hb]
   rw[A9 hw];exact run H
  ·have hw:¬(Region.wanted o (yielded ops.toArray a.tmps)=true):=by
    rcases hb with hb | hb
    ·cases want<;>simp[Region.wanted,hg,wG Rl ht hd hb]
    ·simp[Region.wanted,hg,A82 Rl ht hd hb]
   rw[A7 hw];subst H;refine⟨λ_ _=>trivial,T E _ w (jH ..) (Rl.put λt _=>?_) (Pr.refl _ _ _) (Y9.refl _)⟩;simp only[RR,M4,RV,undef];exact⟨#[],rfl,by simp[SH]⟩
def A9Q{X:Type}{k:St->Option X}{x:X}{ro:Option Nat}{n:Nat}(hO:Iz C R):∀{os:List Oper}{i:Nat}{st:St}{E:Env}{a:Act}{w:World},(∀j:Nat,os[j]?=ops[i+j]?)->FO C R fl ops os st k=some x->L6 E st a w.heap->
 (∀E' t a' w',k t=some x->a'.defers=a.defers->L6 E' t a' w'.heap->Pr P8 E w.heap E' w'.heap->Y9 w w'->Q .normal a' w')->wpOpsIn (J8 ro) n C.P ops.toArray Q (List.range' i os.length) a w
 |[],i,st,E,a,w,_,H,Rl,T=>T E st a w H rfl Rl (Pr.refl _ _ _) (Y9.refl _)
 |o::os,i,st,E,a,w,hs,H,Rl,T=>by
   obtain⟨s1,h1,h2⟩:=A1d H;have Db:∀j:Nat,os[j]?=ops[i+1+j]?:=λj=>by have:=hs (j+1);simp only[zcq]at this;rw[this];congr 1;omega
   simp only[zbq,ynq];rw[wpOpsIn_cons];refine B54 hO (by simpa using(hs 0).symm) h1 Rl λE' a' w' D1 R1 P1 O1=>?_;exact A9Q hO Db h2 R1 λE2 t a2 w2 k1 k0 k2 k3 k4=>T E2 t a2 w2 k1 (k0.trans D1) k2 (P1.trans k3) (O1.trans k4)
end
section
def aft(o:Oper):List Edge:=o.after.toList.filter (Region.binds .any)
def gu:∀{os:List Oper}{acc:List (List Nat)}{j:Nat},j<acc.length->(Md os acc)[j]?=acc[j]?
 |[],acc,j,_=>rfl
 |o::os,acc,j,h=>by simp only[Md,VH];rw[gu (by simp;omega),zdq h]
def A0U:∀{os:List Oper}{acc:List (List Nat)},Te acc.length os=true->∀(j:Nat) o,os[j]?=some o->
 (Md os acc).getD (acc.length+j) []=uniq ((aft o).flatMap λe=>e.on::(Md os acc).getD e.on [])
 |[],acc,_,j,o,h=>by simp at h
 |o'::os,acc,he,j,o,h=>by
   simp only[Te,z5q]at he;simp only[Md,VH];generalize hr:(acc++[uniq ((o'.after.toList.filter (Region.binds .any)).flatMap λe=>e.on::acc.getD e.on [])])=acc';have hl:acc'.length=acc.length+1:=by rw[<- hr];simp
   cases j with
   |zero=>
     simp only[zlq,D8]at h;subst h;have h1:(Md os acc').getD (acc.length+0) []=uniq ((o'.after.toList.filter (Region.binds .any)).flatMap λe=>e.on::acc.getD e.on []):=by rw[z6q,gu (by omega),<- hr];simp
     rw[h1];refine congrArg uniq (A_ λe hm=>?_);have h2:=z7q.1 he.1 e hm;simp only[I6]at h2;rw[z6q,z6q,gu (by omega),<- hr,zdq h2]
   |succ j=>have:=A0U (os:=os) (acc:=acc') (by rw[hl];exact he.2) j o (by simpa using h);rw[hl]at this;rw[show acc.length+(j+1)=acc.length+1+j by omega];exact this
def A5G:∀{os:List Oper}{i:Nat},Te i os=true->∀(j:Nat) o,os[j]?=some o->∀e∈aft o,e.on<i+j
 |[],i,_,j,o,h=>by simp at h
 |o'::os,i,he,j,o,h=>by
   simp only[Te,z5q]at he;cases j with
   |zero=>simp only[zlq,D8]at h;subst h;intro e hm;have h2:=z7q.1 he.1 e hm;simpa using h2
   |succ j=>intro e hm;have:=A5G he.2 j o (by simpa using h) e hm;omega
structure Inv(bf:List (List Nat))(n:Nat)(listed:Array Bool)(l:List (Nat×Fp)):Prop where
 size:listed.size=n
 idx:∀j:Nat,(∃f,(j,f)∈l)↔listed[j]?=some false
 sorted:l.Pairwise λp q=>p.1<q.1
 pw:l.Pairwise λp q=>p.1∈bf.getD q.1 []\/A5m p.2 q.2
 down:∀j:Nat,listed[j]?=some true->∀p∈bf.getD j [],listed[p]?=some true
variable {listed:Array Bool}
def ym{j:Nat}:listed.getD j false=true↔listed[j]?=some true:=by rw[zMq];cases listed[j]?<;>simp
def bZ{j:Nat}:listed.getD j true=false↔listed[j]?=some false:=by rw[zMq];cases listed[j]?<;>simp
section
variable {C:BQ}{R:O8}{fl:H8}{ops:List Oper}{Q:Exit->Act->World->Prop}{ro:Option Nat}
def B6Y{bf:List (List Nat)}{t:St}{m:Nat}(hO:Iz C R)(hbf:∀(i:Nat) o,ops[i]?=some o->∀p,p∈bf.getD i []->p∈(aft o).flatMap λe=>e.on::bf.getD e.on [])(P6:∀(i:Nat) o,ops[i]?=some o->∀e∈aft o,e.on<i):
 ∀(n:Nat)(l:List (Nat×Fp))(listed:Array Bool)(s:St)(E:Env)(a:Act)(w:World),l.length=n->Inv bf ops.length listed l->ZO C R fl ops l s t->L6 E s a w.heap->(∀E' a' w',a'.defers=a.defers->L6 E' t a' w'.heap->Pr P8 E w.heap E' w'.heap->Y9 w w'->Q .normal a' w')->wpAnyIn (J8 ro) m C.P .any ops.toArray Q n listed a w:=by
 intro n;induction n with
 |zero=>intro l listed s E a w hl I Ch Rl T;have hl0:=zfq hl;subst hl0;simp only[ZO]at Ch;subst Ch;refine⟨?_,T E a w rfl Rl (Pr.refl _ _ _) (Y9.refl _)⟩;rw[List.eq_nil_iff_forall_not_mem];intro j hj;obtain⟨h0,-⟩:=mem_ready.1 hj;obtain⟨f,hf⟩:=(I.idx j).2 (bZ.1 h0);cases hf
 |succ n ih=>
   intro l listed s E a w hl I Ch Rl T;constructor
   ·intro hr;exfalso;cases l with
    |nil=>simp at hl
    |cons p l=>
      have hp:listed[p.1]?=some false:=(I.idx p.1).1 ⟨p.2,z4q ..⟩;obtain⟨o,s1,ho,-⟩:=Ch;have:p.1∈Region.ready .any ops.toArray listed:=by
       refine mem_ready.2 ⟨bZ.2 hp,o,by simpa using ho,λe he hb=>ym.2 ?_⟩;have C01:=P6 p.1 o ho e (zJq.2 ⟨by simpa using he,hb⟩);have qg:=(z1q.1 hp).1;have Io:listed[e.on]?=some (listed[e.on]'(by omega)):=zjq (by omega);cases hv:(listed[e.on]'(by omega))with
       |true=>rw[Io,hv]
       |false=>
         rw[hv]at Io;obtain⟨f,hf⟩:=(I.idx e.on).2 Io;rcases zkq.1 hf with h | h
         ·have:e.on=p.1:=by rw[<- h]
          omega
         ·have:=(zHq.1 I.sorted).1 _ h;simp only at this;omega
      rw[hr]at this;cases this
   ·intro i hi;obtain⟨h0,o,ho,bQ⟩:=mem_ready.1 hi;have hif:=bZ.1 h0;obtain⟨g,hg⟩:=(I.idx i).2 hif;obtain⟨A,B,rfl⟩:=List.append_of_mem hg;have ho':ops[i]?=some o:=by simpa using ho
    have hbi:∀p∈bf.getD i [],listed[p]?=some true:=by
     intro p hp;replace hp:=hbf i o ho' _ hp;obtain⟨e,he,hp⟩:=zwq.1 hp;obtain⟨he1,he2⟩:=zJq.1 he;have hl:=ym.1 (bQ e (by simpa using he1) he2);rcases zkq.1 hp with rfl | hp
     ·exact hl
     ·exact I.down _ hl p hp
    obtain⟨pA,pB,pAB⟩:=zxq.1 I.pw;obtain⟨sA,sB,sAB⟩:=zxq.1 I.sorted;obtain⟨sB1,sB2⟩:=zHq.1 sB;have B9t:∀q∈A,A5m q.2 g:=by
     intro q hq;rcases pAB q hq (i,g) (z4q ..)with h | h
     ·have h1:=hbi _ h;have h2:=(I.idx q.1).1 ⟨q.2,zaq.2 (.inl hq)⟩;rw[h1]at h2;cases h2
     ·exact h
    obtain⟨o',s1,k1,k2,k3,k4⟩:=ZO.first Ch B9t;have B76:=(z1q.1 hif).1;refine B54 hO k1 k2 Rl λE' a' w' D1 R1 P1 O1=>ih (A++B) _ s1 E' a' w' ?_ ⟨?_,λj=>?_,?_,?_,λj hj p hp=>?_⟩ k4 R1 λE2 a2 w2 D2 R2 P2 O2=>T E2 a2 w2 (D2.trans D1) R2 (P1.trans P2) (O1.trans O2)
    ·simp only[zIq,zbq]at hl ⊢;omega
    ·rw[Array.size_setIfInBounds];exact I.size
    ·constructor
     ·rintro⟨f,hf⟩;have hne:i≠j:=by
       rcases zaq.1 hf with h | h
       ·have:=sAB _ h (i,g) (z4q ..);simp only at this;omega
       ·have:=sB1 _ h;simp only at this;omega
      rw[z9q hne];exact(I.idx j).1 ⟨f,by
       rcases zaq.1 hf with h | h
       ·exact zaq.2 (.inl h)
       ·exact zaq.2 (.inr (z2q _ h))⟩
     ·intro hj;by_cases hne:i=j
      ·subst hne;rw[zqq B76]at hj;cases hj
      ·rw[z9q hne]at hj;obtain⟨f,hf⟩:=(I.idx j).2 hj;refine⟨f,?_⟩;rcases zaq.1 hf with h | h
       ·exact zaq.2 (.inl h)
       ·rcases zkq.1 h with h | h
        ·simp only[Prod.mk.injEq]at h;exact absurd h.1.symm hne
        ·exact zaq.2 (.inr h)
    ·exact zxq.2 ⟨sA,sB2,λp hp q hq=>sAB p hp q (z2q _ hq)⟩
    ·exact zxq.2 ⟨pA,(zHq.1 pB).2,λp hp q hq=>pAB p hp q (z2q _ hq)⟩
    ·have mono:∀q:Nat,listed[q]?=some true->(listed.setIfInBounds i true)[q]?=some true:=by
      intro q hq;by_cases hne:i=q
      ·subst hne;exact zqq B76
      ·rw[z9q hne];exact hq
     by_cases hne:i=j
     ·subst hne;exact mono p (hbi p hp)
     ·rw[z9q hne]at hj;exact mono p (I.down j hj p hp)
variable {w:World}
def B1B{X:Type}{n:Nat}{k:St->Option X}{x:X}{ops:Array Oper}{id:Nat}{st:St}{E:Env}{a:Act}(hO:Iz C R)(H:FO C R fl ops.toList ops.toList st k=some x)(Rl:L6 E st a w.heap)(T:∀E' t a' w',k t=some x->a'.defers=a.defers->L6 E' t a' w'.heap->Pr P8 E w.heap E' w'.heap->Y9 w w'->Q .normal a' w'):(Code.region id ops false).wpIn (J8 ro) n C.P Q a w:=by
 refine wpIn_region ?_;have:=A9Q (ro:=ro) (n:=n) (i:=0) hO (λj=>by rw[znq]) H Rl T
 rwa [List.range_eq_range',<- zRq]
def B5d{X:Type}{n:Nat}{k:St->Option X}{x:X}{ops:Array Oper}{id:Nat}{st:St}{E:Env}{a:Act}(hm:C.P.follows .mixedOrders=true)(hO:Iz C R)(H:og (Te 0 ops.toList) (DT C R fl ops.toList (Md ops.toList []) ops.toList 0 [] st k)=some x)(Rl:L6 E st a w.heap)(T:∀E' t a' w',k t=some x->a'.defers=a.defers->L6 E' t a' w'.heap->Pr P8 E w.heap E' w'.heap->Y9 w w'->Q .normal a' w'):(Code.region id ops true).wpIn (J8 ro) n C.P Q a w:=by
 obtain⟨he,H⟩:=H6 H;obtain⟨l,t,h1,h2,h3,h4,h5⟩:=uL (λj=>by rw[znq]) H;refine wpIn_region_any hm ?_;have FD:l.length=ops.size:=by have:=congrArg List.length h3;simpa using this
 have hidx:∀j:Nat,(∃f,(j,f)∈l)↔j<ops.size:=by
  intro j;have:j∈l.map (·.1)↔j∈List.range' 0 ops.toList.length:=by rw[h3]
  rw[List.mem_map]at this;simp only[List.mem_range'_1,yqq,true_and,znq,zRq]at this;rw[<- this];constructor
  ·rintro⟨f,hf⟩;exact⟨_,hf,rfl⟩
  ·rintro⟨p,hp,rfl⟩;exact⟨p.2,hp⟩
 have B6v:l.Pairwise λp q=>p.1<q.1:=by
  have:(l.map (·.1)).Pairwise (· < ·):=by rw[h3];exact List.pairwise_lt_range' ..
  exact List.pairwise_map.1 this
 have:=B6Y (ro:=ro) (m:=n) (t:=t) (fl:=fl) (Q:=Q) (ops:=ops.toList) (bf:=Md ops.toList []) hO (λi o ho p hp=>by
  have h:=A0U (acc:=[]) he i o ho;simp only[zBq,znq]at h;rw[h]at hp;exact A0e.1 hp) (λi o ho e hm=>by simpa using A5G he i o ho e hm)
  ops.size l (Array.replicate ops.size false) st E a { w with drawn:=w.drawn+1 } FD ⟨by simp,λj=>?_,B6v,h5,λj hj=>?_⟩ h2 Rl λE' a' w' D1 R1 P1 O1=>T E' t a' w' h1 D1 R1 P1 ⟨O1.os,O1.tape,O1.output⟩
 ·simpa using this
 ·rw[hidx];rw[zFq];split<;>simp_all
 ·rw[zFq]at hj;split at hj<;>simp at hj
end
end
section
def Marks(n:Nat)(E:Env)(h:Heap)(ms:List Deferred):Prop :=(∀m∈ms,∃D,m={ target:=.collected D,args := #[] }/\h[D]?=some (.deferred (some []))/\E.O D 0=.other/\n<=D)/\ms.Pairwise (· ≠ ·)
variable {n:Nat}{E:Env}{h:Heap}
def Marks.nil:Marks n E h []:=⟨λ_ hm=>(by cases hm),.nil⟩
variable {b:Nat}
def Pr.cB{E':Env}{h':Heap}(P:Pr P8 E h E' h'){ob:Obj}(hb:h[b]?=some ob)(hc:ob.isCells=false)(ho:E.O b 0=.other):h'[b]?=some ob:=by
 have P6:=(z1q.1 hb).1;have hk:=P.blk b P6;rw[hb]at hk;unfold X4 at hk;split at hk
 ·rename_i hx;cases hx
 ·rename_i hx;simp only[D8]at hx;subst hx;simp[Obj.isCells]at hc
 ·rename_i ob' _ hx;simp only[D8]at hx;subst hx;exact hk (by rw[ho];simp[P8])
def Pr.XB{E':Env}{h':Heap}(P:Pr P8 E h E' h'){o:Nat}(hb:b<h.size)(ho:E.O b o=.other):E'.O b o=.other:=by rw[P.tags b o hb (by rw[ho];simp[P8]),ho]
def Marks.mono{E':Env}{h':Heap}{ms:List Deferred}(H:Marks n E h ms)(P:Pr P8 E h E' h'):Marks n E' h' ms:=⟨λm hm=>by obtain⟨D,h1,h2,h3,h4⟩:=H.1 m hm;exact⟨D,h1,P.cB h2 rfl h3,P.XB (z1q.1 h2).1 h3,h4⟩,H.2⟩
def Marks.append{E0:Env}{h0:Heap}{ms ns:List Deferred}(H:Marks h0.size E h ns)(K0:Marks n E0 h0 ms)(P:Pr P8 E0 h0 E h)(hn:n<=h0.size):Marks n E h (ns++ms):=by
 have K:=K0.mono P;refine⟨λm hm=>?_,zxq.2 ⟨H.2,K.2,λx hx y hy he=>?_⟩⟩
 ·rcases zaq.1 hm with h1 | h1
  ·obtain⟨D,h1,h2,h3,h4⟩:=H.1 m h1;exact⟨D,h1,h2,h3,zyq hn h4⟩
  ·exact K.1 m h1
 ·obtain⟨D,h1,-,-,h4⟩:=H.1 x hx;obtain⟨D',k1,k2,-⟩:=K0.1 y hy;have:=(z1q.1 k2).1;rw[h1,k1]at he;simp only[Deferred.mk.injEq,Target.collected.injEq,and_true]at he;omega
variable {l:Nat}
def Pr.swap{ch:Tag->Prop}{E':Env}{h':Heap}{x y:Obj}(P:Pr ch E (h.setIfInBounds l x) E' h')(hy:h[l]?=some y):Pr ch E h E' (h'.setIfInBounds l y):=by
 have hl:=(z1q.1 hy).1;have hs:h.size<=h'.size:=by have:=P.size;simpa using this
 refine⟨by simpa using hs,λb hb=>?_,λb o hb hn=>P.tags b o (by simpa using hb) hn,P.n,P.U5,P.gy,P.OE⟩;by_cases hbl:l=b
 ·subst hbl;rw[zqq (by omega),hy];exact X4.refl _ _
 ·have:=P.blk b (by simpa using hb);rw[z9q hbl]at this;rw[z9q hbl];exact this
def Pr.vW{ch:Tag->Prop}{E':Env}{h':Heap}{x:Obj}(P:Pr ch E h E' h')(hl:h.size<=l):Pr ch E h E' (h'.setIfInBounds l x):=by refine⟨by simpa using P.size,λb hb=>?_,P.tags,P.n,P.U5,P.gy,P.OE⟩;rw[z9q (by omega)];exact P.blk b hb
def Pr.setOther{x y:Obj}(hy:h[l]?=some y)(hc:y.isCells=false)(ho:E.O l 0=.other):Pr (λT=>T=.other) E h E (h.setIfInBounds l x):=by
 refine⟨by simp,λb hb=>?_,λ_ _ _ _=>rfl,z8q _,λ_ _ _=>⟨rfl,rfl,rfl⟩,λ_ _=>rfl,EA rfl⟩;by_cases hbl:l=b
 ·subst hbl;rw[hy];unfold X4;split
  ·trivial
  ·rename_i hx;simp only[D8]at hx;subst hx;simp[Obj.isCells]at hc
  ·exact λh0=>absurd ho h0
 ·rw[z9q hbl];exact X4.refl _ _
section
variable {E E':Env}{st:St}{a:Act}{h h':Heap}
def L6.others(Rl:L6 E st a h)(P:Pr (λT=>T=.other) E h E' h')(hn:E'.n=E.n)(hf:∀b o,h'.size<=b->E'.O b o=.other):L6 E' st a h':=by have J4:=P.Q8 (by simp) Rl.fresh;exact⟨Rl.size,Rl.AZ,Rl.CW,by rw[hn];exact Rl.n,λt v hv=>(Rl.Be t v hv).mono P J4 (by simp) (by simp),λs cs hs=>by rw[P.gy s (by simp)];exact(Rl.j4 s cs hs).mono P J4 (by simp) (by simp),λi ob hi=>(Rl.U5 i ob hi).mono P J4 (by rw[<- Rl.n];exact(z0q.1 hi).1) (by simp) (by simp),hf⟩
def Pt.pr{w w':World}(H:Pt n E w w'):Pr (λT=>T=.other) E w.heap E w'.heap:=by
 refine⟨H.size,λb hb=>?_,λ_ _ _ _=>rfl,z8q _,λ_ _ _=>⟨rfl,rfl,rfl⟩,λ_ _=>rfl,EA rfl⟩;rcases H.blk b hb with h1 | ⟨-,⟨c,T,f,c',h1,h2,h3⟩,h4⟩
 ·rw[h1];exact X4.refl _ _
 ·rw[h1,h2];exact⟨c',rfl,h3,λo ho=>absurd (h4 o) ho⟩
def Pt.keep{w w':World}(H:Pt n E w w'){ob:Obj}(hb:w.heap[b]?=some ob)(hc:ob.isCells=false):w'.heap[b]?=some ob:=by
 rcases H.blk b (z1q.1 hb).1 with h1 | ⟨-,⟨c,T,f,c',h1,h2,h3⟩,h4⟩
 ·rw[h1,hb]
 ·rw[hb]at h1;simp only[D8]at h1;subst h1;simp[Obj.isCells]at hc
def Pt.after{w w':World}{E0:Env}{h0:Heap}(H:Pt n E w w')(hn:h0.size<=n)(P:Pr P8 E0 h0 E w.heap):Pr P8 E0 h0 E w'.heap:=by
 refine⟨zyq P.size H.size,λb hb=>?_,P.tags,P.n,P.U5,P.gy,P.OE⟩;have:=P.blk b hb;rcases H.blk b (ztq hb P.size)with h1 | ⟨h1,-⟩
 ·rw[h1];exact this
 ·omega
def RR.stay{k t:Nat}{d:DV}{m:F4}{v:Value}{k' t':Nat}(R:RR E h k t d m v)(J4:AJ E.S h E'.S h')(ho:∀i,E.In i->E'.In i/\E'.obj i=E.obj i):
 RR E' h' k' t' (xI (d,m)).1 (xI (d,m)).2 v:=by
 cases m<;>simp only[xI,RR,M4,RV]at R ⊢
 case val=>exact R.mono J4
 case full=>exact⟨R.1.mono J4,R.2⟩
 case own=>exact R.1.mono J4
 case ptr i o=>exact⟨(ho i R.1).1,by rw[(ho i R.1).2];exact R.2⟩
 case KX=>exact⟨trivial,R.2⟩
 case map i=>exact⟨(ho i R.1).1,by rw[(ho i R.1).2];exact R.2⟩
 case Rz=>exact R
 case fn f caps=>refine⟨?_,λc hc=>(ho _ (R.2 c hc)).1⟩;rw[R.1];congr 2;refine List.map_congr_left λc hc=>?_;rw[(ho _ (R.2 c hc)).2]
variable {sg:List E5}
def B2X{st:St}(hl:st.mt.length=st.tm.length)(t:Nat)(ht:t<st.tm.length):(Ae st sg).get t=xI (st.get t):=by
 simp only[St.get,Ae,z6q,zhq,zNq];have h1:(st.tm.zip st.mt)[t]?=some (st.tm[t],st.mt[t]'(by omega)):=by rw[zNq];exact⟨z3q ht,z3q (by omega)⟩
 rw[h1];simp[z3q ht,z3q (show t<st.mt.length by omega)]
def L6.outer(Rl:L6 E st a h)(J4:AJ E.S h E'.S h')(ho:∀i,E.In i->E'.In i/\E'.obj i=E.obj i)(hs:sg.length=E'.n)(hob:∀(i:Nat) ob,sg[i]?=some ob->RO E' h' i ob)(hf:∀b o,h'.size<=b->E'.O b o=.other){ds:List Deferred}:L6 E' (Ae st sg) { a with defers:=ds } h':=by
 have hl:=Rl.AZ;refine⟨?_,by simp[Ae,hl],by simp[Ae,hl,Rl.CW],hs,λt v hv=>?_,λs cs IU=>?_,hob,hf⟩
 ·simp[Ae,hl];exact Rl.size
 ·have ht:t<st.tm.length:=by rw[<- Rl.size];exact(z1q.1 hv).1
  rw[B2X hl t ht];exact(Rl.Be t v hv).stay J4 ho
 ·simp only[Ae,z6q,zhq]at IU;cases hb:st.bx[s]?<;>rw[hb]at IU<;>simp at IU
end
def A5g(i:Nat):Tag->Tag
 |.other=>.other
 |.Q8=>.Q8
 |.TR _=>.other
 |.obj j=>if j=i then .other else .obj j
 |.sp k a b=>if k=2/\a≠i then .sp k a b else .other
def A3k{E:Env}{h:Heap}{k a:Nat}:∀{cs:List (DV×F4)}{cd:List DV}{vs:List Value},Mc cs=some cd->cs.length=vs.length->
 (∀(j:Nat) r v,cs[j]?=some r->vs[j]?=some v->M8 r.1=true/\v.oneCell'=true/\Z0 r.2=true/\∃q,M4 E h (.sp k a q) r.1 r.2 v)->FM E.S h cd vs
 |[],cd,vs,H,hl,_=>by simp only[Mc,D8]at H;subst H;simp only[FM];exact zfq hl.symm
 |c::cs,cd,vs,H,hl,hr=>by
   simp only[Mc]at H;obtain⟨h1,H⟩:=H6 H;obtain⟨ds,h2,H⟩:=D6 H;simp only[D8]at H;subst H;cases vs with
   |nil=>simp at hl
   |cons v vs=>obtain⟨a1,a2,a3,q,a4⟩:=hr 0 c v rfl rfl;simp only[FM];refine⟨v,vs,rfl,a1,NW a1 a2 ?_,A3k h2 (by simpa using hl) λj r u hj hu=>hr (j+1) r u (by simpa using hj) (by simpa using hu)⟩;revert a4 h1;cases c.2<;>simp only[M4]<;>intro h1 a4<;>first | exact a4 | exact a4.1 | (simp at h1)
end
section
open Go
def C0x(Q:Exit->Act->World->Prop):Exit->Act->World->Prop
 |.goto _,_,_=>False
 |e,a,w=>Q e a w
section
variable {P:Program}{b:Frame}{a:Act}{k:List Item}{cs:List Frame}{w:World}{Q:Exit->Act->World->Prop}{F:Fence}{n:Nat}{c:Code}
def Om:step P (lone (b.atR a (.code (.scope c)::k)) cs w)=.next (lone (b.atR a (.code c :: .inScope c::k)) cs w) :=step_lone_go (by simp[stepG,stepG.exec,Frame.atR])
def A42:step P (lone (b.atR a (.inScope c::k)) cs w)=.next (lone (b.atR a k) cs w) :=step_lone_go (by simp[stepG,stepG.exec,Frame.atR])
def B1Q(h:c.wpIn F n P (C0x Q) a w):(Code.scope c).wpIn F n P Q a w:=by
 intro b k cs Sd hb hr;have h0:(lone (b.atR a (.code (.scope c)::k)) cs w).fenced P F:=fenced_calm hb hr rfl;obtain⟨e,a₁,w₁,hq,A2F⟩:=h b (.inScope c::k) cs Sd hb hr;cases e with
 |normal=>exact⟨.normal,a₁,w₁,hq,.head h0 Om (StepsIn.trans A2F (.one (fenced_calm hb hr rfl) A42))⟩
 |exit id=>
   have hx:exitTo id (.inScope c::k)=exitTo id k:=by simp[exitTo]
   exact⟨.exit id,a₁,w₁,hq,λk' hk=>.head h0 Om (A2F.1 k' (by rw[hx];exact hk)),λAV hk=>let⟨k₁,h1,h2⟩:=A2F.2 AV (by rw[hx];exact hk);⟨k₁,h1,.head h0 Om h2⟩⟩
 |goto l=>exact hq.elim
 |ret=>exact⟨_,a₁,w₁,hq,.of_steps (.one h0 Om) A2F⟩
 |panic ch=>exact⟨_,a₁,w₁,hq,.of_steps (.one h0 Om) A2F⟩
 |outgrown=>exact⟨_,a₁,w₁,hq,.of_steps (.one h0 Om) A2F⟩
end
end
section
def Out.A75:Out->Exit
 |.normal=>.normal
 |.exit i=>.exit i
 |.ret=>.ret
def fJ{α : Type}{ts:List Nat}{d : α}:∀{l:List α}{i j:Nat},(XY ts d i l)[j]?=(l[j]?).map λy=>if ts.contains (i+j)then y else d
 |[],i,j=>by simp[XY]
 |y::l,i,0=>by simp[XY]
 |y::l,i,j+1=>by simp only[XY,zcq];rw[fJ,show i+1+j=i+(j+1)by omega]
def VW{α : Type}{ts:List Nat}{d : α}:∀{l:List α}{i:Nat},(XY ts d i l).length=l.length
 |[],i=>rfl
 |y::l,i=>by simp[XY,VW]
def oZ{α : Type}{f : α -> α}{ts:List Nat}:∀{l:List α}{i j:Nat},(cK f ts i l)[j]?=(l[j]?).map λy=>if ts.contains (i+j)then f y else y
 |[],i,j=>by simp[cK]
 |y::l,i,0=>by simp[cK]
 |y::l,i,j+1=>by simp only[cK,zcq];rw[oZ,show i+1+j=i+(j+1)by omega]
def ib{α : Type}{f : α -> α}{ts:List Nat}:∀{l:List α}{i:Nat},(cK f ts i l).length=l.length
 |[],i=>rfl
 |y::l,i=>by simp[cK,ib]
variable {E:Env}{h:Heap}{tg:Tag}{d:DV}{v:Value}
def yu(H:M4 E h tg d .full v):M4 E h tg d .own v:=by obtain⟨g1,⟨a1,n1,g2⟩,sz,ds,g3⟩:=H;refine⟨g1,sz,ds,g3,λx len cap hx P6=>?_⟩;rw[g2]at hx;simp only[Value.slice.injEq]at hx;omega
variable {m:F4}
def B5p(H:M4 E h tg d m v):M4 E h tg d (Pj m) v:=by cases m<;>first | exact yu H | exact H
def B5q{k a:Nat}(H:RR E h k a d m v):RR E h k a d (Pj m) v:=by cases m<;>first | exact yu H | exact H
def B3E(H:Z0 m=true):Z0 (Pj m)=true:=by cases m<;>first | rfl | exact H
def B5r(H:M4 E h tg d m v):M4 E h tg d (Xa m) v:=by
 unfold Xa;split
 ·rename_i hd;cases m
  case KX=>obtain⟨rfl,rfl⟩:=(H:_/\_);simp only[M4,RV]
  all_goals first | exact H | exact H.1 | (simp[K6]at hd;done) | exact H.elim
 ·exact H
def B5s{k a:Nat}(H:RR E h k a d m v):RR E h k a d (Xa m) v:=by
 unfold Xa;split
 ·rename_i hd;exact RR.val (RR.data hd H)
 ·exact H
def B3F(H:Z0 m=true):Z0 (Xa m)=true:=by
 unfold Xa;split
 ·rfl
 ·exact H
variable {st:St}{a:Act}
def L6.keep(R:L6 E st a h)(ts bs os vs:List Nat):L6 E (st.keep ts bs os vs) a h:=by
 refine⟨by simp only[St.keep,VW];exact R.size,by simp only[St.keep,VW,ib];exact R.AZ,by simp only[St.keep,VW,ib];exact R.CW,R.n,λt v hv=>?_,λs cs hs=>?_,R.U5,R.fresh⟩
 ·have ht:t<st.tm.length:=by rw[<- R.size];exact(z1q.1 hv).1
  have ht':t<st.mt.length:=by rw[R.AZ];exact ht
  have h0:=R.Be t v hv;by_cases hc:ts.contains t=true
  ·have:(st.keep ts bs os vs).get t=((st.get t).1,(λm=>if vs.contains t then Xa m else m) ((λm=>if os.contains t then Pj m else m) (st.get t).2)):=by simp only[St.get,St.keep,z6q,fJ,oZ,znq,hc,F6,Option.map_id',z3q ht'];rfl
   rw[this];have h1:RR E h 0 t (st.get t).1 ((λm=>if os.contains t then Pj m else m) (st.get t).2) v:=by
    simp only
    split
    ·exact B5q h0
    ·exact h0
   simp only at h1 ⊢;split
   ·exact B5s h1
   ·exact h1
  ·have:(st.keep ts bs os vs).get t=(.undef,.val):=by simp only[St.get,St.keep,z6q,fJ,oZ,znq,hc,z3q ht,z3q ht',zgq,ycq];simp only[zoq,G9,Pj,Xa,K6,ite_self]
   rw[this];simp only[RR,M4,RV]
 ·simp only[St.keep,z6q,fJ,oZ,znq]at hs ⊢;cases hb:st.bx[s]? with
  |none=>rw[hb]at hs;simp at hs
  |some y=>
    rw[hb]at hs;simp only[zgq,ycq]at hs ⊢;by_cases hc:bs.contains s=true
    ·simp only[hc,F6]at hs;have old:∀cs',y=some cs'->aQ E h (.TR s) 1 s (E.blk s) cs':=λcs' hy=>R.j4 s cs' (by simp only[z6q,hb,ycq,hy]);have step1:∀cs',(if os.contains s=true then XC y else y)=some cs'->aQ E h (.TR s) 1 s (E.blk s) cs':=by
      intro cs hs;by_cases ho:os.contains s=true
      ·simp only[ho,F6]at hs;cases y with
       |none=>simp[XC]at hs
       |some cs'=>simp only[XC,D8]at hs;subst hs;obtain⟨c,T,h1,h2,h3,h4⟩:=old cs' rfl;refine⟨c,T,h1,by simpa using h2,h3,λj r v hr hv=>?_⟩;simp only[zhq,zmq]at hr;obtain⟨r0,VR,rfl⟩:=hr;obtain⟨k1,k2,k3,k4⟩:=h4 j r0 v VR hv;exact⟨k1,k2,B3E k3,B5p k4⟩
      ·simp only[ho,zoq,G9]at hs;exact old cs hs
     by_cases hv:vs.contains s=true
     ·simp only[hv,F6]at hs;generalize (if os.contains s=true then XC y else y)=z at hs step1;cases z with
      |none=>simp[qC]at hs
      |some cs'=>simp only[qC,D8]at hs;subst hs;obtain⟨c,T,h1,h2,h3,h4⟩:=step1 cs' rfl;refine⟨c,T,h1,by simpa using h2,h3,λj r v hr hv=>?_⟩;simp only[zhq,zmq]at hr;obtain⟨r0,VR,rfl⟩:=hr;obtain⟨k1,k2,k3,k4⟩:=h4 j r0 v VR hv;exact⟨k1,k2,B3F k3,B5r k4⟩
     ·simp only[hv,zoq,G9]at hs;exact step1 cs hs
    ·simp only[hc,zoq,G9]at hs;split at hs<;>split at hs<;>simp[XC,qC]at hs
def L6.QZ(R:L6 E st a h)(fl:H8)(id:Nat):L6 E (QZ fl id st) a h:=by
 unfold Su.QZ;split
 ·exact R.keep _ _ _ _
 ·exact R
def L6.clean(R:L6 E st a h)(fl:H8)(c:Code):L6 E (clean fl c st) a h:=by
 unfold Su.clean;split
 ·exact R.QZ fl _
 ·exact R
def Zj{S X:Type}{F:(S->Option X)->S->Option X}{s:S}{x:X}(H:JJ F s=some x):∃n,iter F n s=some x:=by
 unfold JJ at H;split at H
 ·rename_i h;simp only[D8]at H;obtain⟨n,hn⟩:=h.choose_spec;rw[H]at hn;exact⟨n,hn⟩
 ·cases H
section
variable {X:Type}{C:BQ}{R:O8}{fl:H8}{ps:Array Nat}
def A1c{C:BQ}{g:Operand}{pl:Bool}{fin:St->Option X}{step:Nat->DV->(List E5->Option X)->List E5->Option X}{x:X}(H:wT C st g ps pl fin step=some x):
 ∃t p f i it cs cd ds,g=.tmp t/\ps.toList=[p]/\(st.get t).2=.fn f [(i,0)]/\C.iter f=some it/\H5 st.sg i=some cs/\Mc cs=some cd/\it cd=some ds/\pl=true /\Ml (step p) (λsg=>fin (Ae st sg)) ds (st.sg.set i (.arr 1 []))=some x:=by
 unfold wT at H;split at H
 ·rename_i t p hp;split at H
  ·rename_i f i hm;obtain⟨it,h1,H⟩:=D6 H;obtain⟨cs,h2,H⟩:=D6 H;obtain⟨cd,h3,H⟩:=D6 H;obtain⟨ds,h4,H⟩:=D6 H;obtain⟨h5,H⟩:=H6 H;exact⟨t,p,f,i,it,cs,cd,ds,rfl,hp,hm,h1,h2,h3,h4,h5,H⟩
  ·cases H
 ·cases H
def B4g{C:BQ}{fin:St->Option X}{step:Nat->DV->(List E5->Option X)->List E5->Option X}{t p f i:Nat}{it:List DV->Option (List DV)}{cs:List (DV×F4)}{cd ds:List DV}(hp:ps.toList=[p])(hm:(st.get t).2=.fn f [(i,0)])(h1:C.iter f=some it)(h2:H5 st.sg i=some cs)(h3:Mc cs=some cd)(h4:it cd=some ds):
 wT C st (.tmp t) ps true fin step=Ml (step p) (λsg=>fin (Ae st sg)) ds (st.sg.set i (.arr 1 [])):=by
 unfold wT;simp only[hp,hm,h1,h2,h3,h4,ob,og]
theorem A8C{step:DV->(List E5->Option X)->List E5->Option X}{fin:List E5->Option X}{ds:List DV}{k:Nat}(h:ds[k]?=some d)(sg:List E5):
 Ml step fin (ds.drop k) sg=step d (Ml step fin (ds.drop (k+1))) sg:=by
 obtain⟨hk,h⟩:=z0q.1 h;rw[zpq hk,h];rfl
def Left(c:Code)(n:Nat)(E:Env)(h:Heap)(ds ds':List Deferred):Prop:=∃ms,ds'=ms++ds/\Marks n E h ms/\(Cf c=true->ms=[])
variable {c:Code}
def Left.same{n:Nat}{ds ds':List Deferred}(e:ds'=ds):Left c n E h ds ds':=⟨[],e,Marks.nil,λ_=>rfl⟩
theorem Left.plain{n:Nat}{ds ds':List Deferred}(L:Left c n E h ds ds')(hp:Cf c=true):ds'=ds:=by obtain⟨ms,h1,-,h2⟩:=L;rw[h1,h2 hp];rfl
def A8I(h:oG c=true):Cf c=true:=by
 unfold oG at h;split at h
 ·rfl
 ·rfl
 ·cases h
set_option maxHeartbeats 1000000 in
def A7E(hm:C.P.follows .mixedOrders=true)(hO:Iz C R):∀(c:Code){ro:Option Nat}{n:Nat}{K:Out->St->Option X}{st:St}{x:X}{E:Env}{a:Act}{w:World}{Q:Exit->Act->World->Prop},(ro=none\/Cf c=true)->l6 C R fl c K st=some x->L6 E st a w.heap->
 (∀out E' st' a' w',K out st'=some x->Left c w.heap.size E' w'.heap a.defers a'.defers->L6 E' st' a' w'.heap->Pr P8 E w.heap E' w'.heap->Y9 w w'->Q out.A75 a' w')->c.wpIn (J8 ro) n C.P Q a w:=by
 intro c;induction c with
 |skip=>intro ro n K st x E a w Q Sd H Rl T;exact wpIn_skip (T .normal E st a w H (Left.same rfl) Rl (Pr.refl _ _ _) (Y9.refl _))
 |scope c ih=>
   intro ro n K st x E a w Q Sd H Rl T;simp only[l6]at H;refine B1Q (ih Sd H Rl λout E' st' a' w' h1 h0 h2 h3 h4=>?_);cases out with
   |normal=>exact T .normal E' st' a' w' h1 h0 h2 h3 h4
   |exit i=>exact T (.exit i) E' st' a' w' h1 h0 h2 h3 h4
   |ret=>exact T .ret E' st' a' w' h1 h0 h2 h3 h4
 |label l=>intro ro n K st x E a w Q Sd H Rl T;exact wpIn_label (T .normal E st a w H (Left.same rfl) Rl (Pr.refl _ _ _) (Y9.refl _))
 |region id ops d=>
   intro ro n K st x E a w Q Sd H Rl T;cases d
   ·exact B1B hO H (Rl.QZ fl id) λE' t a' w' h1 h0 h2 h3 h4=>by obtain⟨E2,t2,k1,k2,k3⟩:=A0X h1 h2;exact T .normal E2 t2 a' w' k1 (Left.same h0) k2 (h3.trans k3) h4
   ·simp only[l6,iX]at H;exact B5d hm hO H (Rl.QZ fl id) λE' t a' w' h1 h0 h2 h3 h4=>by obtain⟨E2,t2,k1,k2,k3⟩:=A0X h1 h2;exact T .normal E2 t2 a' w' k1 (Left.same h0) k2 (h3.trans k3) h4
 |seq c d ihc ihd=>
   intro ro n K st x E a w Q Sd H Rl T;have hp:Cf (.seq c d)=true->Cf c=true/\Cf d=true:=λh=>by simpa[Cf]using h
   refine wpIn_seq (ihc (Sd.imp id λh=>(hp h).1) H Rl λout E' st' a' w' h1 h0 h2 h3 h4=>?_);obtain⟨ms,q1,q2,q3⟩:=h0;cases out with
   |normal=>refine ihd (Sd.imp id λh=>(hp h).2) h1 (h2.clean fl d) λout E2 st2 a2 w2 k1 k0 k2 k3 k4=>T out E2 st2 a2 w2 k1 ?_ k2 (h3.trans k3) (h4.trans k4);obtain⟨ns,p1,p2,p3⟩:=k0;exact⟨ns++ms,by rw[p1,q1,yfq],p2.append q2 k3 h3.size,λh=>by rw[p3 (hp h).2,q3 (hp h).1];rfl⟩
   |exit i=>exact T (.exit i) E' st' a' w' h1 ⟨ms,q1,q2,λh=>q3 (hp h).1⟩ h2 h3 h4
   |ret=>exact T .ret E' st' a' w' h1 ⟨ms,q1,q2,λh=>q3 (hp h).1⟩ h2 h3 h4
 |cond y c d ihc ihd=>
   intro ro n K st x E a w Q Sd H Rl T;have hp:Cf (.cond y c d)=true->Cf c=true/\Cf d=true:=λh=>by simpa[Cf]using h
   simp only[l6,A09]at H;obtain⟨r,h1,H⟩:=D6 H;obtain⟨h2,H⟩:=H6 H;have e1:=(Rl.src h1).data h2;have fin:(r.1=.bool true/\l6 C R fl c K (Su.clean fl c st)=some x)\/(r.1=.bool false/\l6 C R fl d K (Su.clean fl d st)=some x):=by
    cases y with
    |tmp t=>
      simp only[src,D8]at h1;subst h1;simp only at H;rcases oU H with⟨h3,h4⟩ | ⟨h3,h4⟩
      ·rw[JY h3 (by simp)]at h4;exact .inl ⟨h3,h4⟩
      ·rw[JY h3 (by simp)]at h4;exact .inr ⟨h3,h4⟩
    |_=>exact oU H
   rcases fin with⟨h3,h4⟩ | ⟨h3,h4⟩
   ·rw[h3]at e1;simp only[RV]at e1;exact wpIn_cond_true e1 (ihc (Sd.imp id λh=>(hp h).1) h4 (Rl.clean fl c) λout E' st' a' w' h1 ⟨ms,q1,q2,q3⟩ h2 h3 h4=>T out E' st' a' w' h1 ⟨ms,q1,q2,λh=>q3 (hp h).1⟩ h2 h3 h4)
   ·rw[h3]at e1;simp only[RV]at e1;exact wpIn_cond_false e1 (ihd (Sd.imp id λh=>(hp h).2) h4 (Rl.clean fl d) λout E' st' a' w' h1 ⟨ms,q1,q2,q3⟩ h2 h3 h4=>T out E' st' a' w' h1 ⟨ms,q1,q2,λh=>q3 (hp h).2⟩ h2 h3 h4)
 |block id c ih=>
   intro ro n K st x E a w Q Sd H Rl T;refine wpIn_block (ih Sd H Rl λout E' st' a' w' h1 h0 h2 h3 h4=>?_);cases out with
   |normal=>exact T .normal E' st' a' w' h1 h0 h2 h3 h4
   |exit i=>
     simp only[Out.A75,Exit.inBlock];have h1:(if i=id then K .normal st' else K (.exit i) st')=some x:=h1;by_cases hi:i=id
     ·rw[A9 hi]at h1 ⊢;exact T .normal E' st' a' w' h1 h0 h2 h3 h4
     ·rw[A7 hi]at h1 ⊢;exact T (.exit i) E' st' a' w' h1 h0 h2 h3 h4
   |ret=>exact T .ret E' st' a' w' h1 h0 h2 h3 h4
 |loop c ih=>
   intro ro n K st x E a w Q Sd H Rl T;simp only[l6]at H;obtain⟨m,H9⟩:=Zj H;refine wpIn_loop_rounds m ?_;clear H;have Rl9:=Rl.clean fl c;clear Rl;generalize Su.clean fl c st=st9 at H9 Rl9;clear st;induction m generalizing st9 E a w with
   |zero=>simp[iter]at H9
   |succ m ihn=>
     rw[roundsIn_succ];simp only[iter]at H9;refine ih Sd H9 Rl9 λout E' st' a' w' h1 h0 h2 h3 h4=>?_;obtain⟨ms,q1,q2,q3⟩:=h0;cases out with
     |normal=>refine ihn (λout E2 st2 a2 w2 k1 k0 k2 k3 k4=>T out E2 st2 a2 w2 k1 ?_ k2 (h3.trans k3) (h4.trans k4)) _ h1 (h2.clean fl c);obtain⟨ns,p1,p2,p3⟩:=k0;exact⟨ns++ms,by rw[p1,q1,yfq],p2.append q2 k3 h3.size,λh=>by rw[p3 h,q3 h];rfl⟩
     |exit i=>exact T (.exit i) E' st' a' w' h1 ⟨ms,q1,q2,q3⟩ h2 h3 h4
     |ret=>exact T .ret E' st' a' w' h1 ⟨ms,q1,q2,q3⟩ h2 h3 h4
 |exit id=>intro ro n K st x E a w Q Sd H Rl T;exact wpIn_exit (T (.exit id) E st a w H (Left.same rfl) Rl (Pr.refl _ _ _) (Y9.refl _))
 |ret=>intro ro n K st x E a w Q Sd H Rl T;exact wpIn_ret (T .ret E st a w H (Left.same rfl) Rl (Pr.refl _ _ _) (Y9.refl _))
 |rangeFunc g ps assign body iha ihb=>
   intro ro n K st x E a w Q Sd H Rl T;obtain rfl:ro=none:=by
    rcases Sd with h | h
    ·exact h
    ·simp[Cf]at h
   obtain⟨t,p,f,i,it,cs,cd,ds,rfl,hps,hmt,hit,hbx,hcd,ZH,VP,H⟩:=A1c H;simp only[z5q]at VP;obtain⟨hra,hpb⟩:=VP;have hpa:=A8I hra;have kW:=Rl.src (P:=C.P) (t:=0) (x:=.tmp t) rfl;rw[hmt]at kW;simp only[RR,M4]at kW;obtain⟨hfv,hfi⟩:=kW;have Io:i<E.n:=(hfi (i,0) (by simp)).1;have hsi:st.sg[i]?=some (.box cs):=by
    unfold H5 at hbx;split at hbx
    ·rename_i h;simp only[D8]at hbx;subst hbx;exact h
    ·cases hbx
   have hRO:=Rl.U5 i _ hsi;simp only[RO]at hRO;obtain⟨c,T0,b1,b2,b3,b4⟩:=hRO;have B98:FM E.S w.heap cd c.toList:=A3k (k:=2) (a:=i) hcd (by simp[b2]) λj r v hr hv=>by obtain⟨a1,a2,a3,a4⟩:=b4 j r v hr (by simpa using hv);exact⟨a1,a2,a3,j,a4⟩
   let E1:=E.re (A5g i)
   have hS1:AJ E.S w.heap E1.S w.heap:=Lb rfl;have P01:Pr P8 E w.heap E1 w.heap:=Pr.re λT hT=>by cases T<;>simp[P8]at hT<;>rfl
   have C0k:∀(j:Nat) ob,(st.sg.set i (.arr 1 []))[j]?=some ob->RO E1 w.heap j ob:=by
    intro j ob hj;by_cases Rn:i=j
    ·subst Rn;rw[zVq (z0q.1 hsi).1]at hj;simp only[D8]at hj;subst hj;simp[RO]
    ·rw[y3q Rn]at hj;have WP:¬j=i:=λh=>Rn h.symm;refine(Rl.U5 j ob hj).to (E:=E) ⟨λb o h=>by simp only[E1,Env.re];rw[h];rfl,λb o h=>by simp only[E1,Env.re];rw[h];simp[A5g,WP],rfl,rfl,rfl,rfl,rfl⟩ λq b o h=>by simp only[E1,Env.re];rw[h];simp[A5g,WP]
   have B9r:∀o,o<c.size->E1.O (E.obj i) o=.other:=by
    intro o ho;simp only[E1,Env.re];rcases b3 o with h | h
    ·rw[h];simp[A5g]
    ·omega
   refine wpIn_rangeFunc λfn _=>?_;obtain⟨rec,Yk⟩:∃rec:LoopState->Option Code->Loop,rec=λst pe=>{ state:=st,pending:=pe,fn,tmps:=a.tmps,params:=ps,assign,body,defers:=w.heap.size }:=⟨_,rfl⟩;obtain⟨W1,hW1⟩:∃W1,(w.alloc (.deferred (some []))).alloc (.loop (rec .ready none))=W1:=⟨_,rfl⟩;have B4C:W1.heap.size=w.heap.size+2:=by rw[<- hW1];simp
   have hL1:W1.heap[w.heap.size+1]?=some (.loop (rec .ready none)):=by rw[<- hW1];have:=World.alloc_heap_new (w.alloc (.deferred (some []))) (.loop (rec .ready none));rwa [World.size_alloc]at this
   have hK1:W1.heap[w.heap.size]?=some (.deferred (some [])):=by rw[<- hW1];exact(Go.RowKit.Below.heap_alloc _ _ _ (by simp)).trans (World.alloc_heap_new w _)
   have P1:Pr (λ_=>False) E1 w.heap E1 W1.heap:=by rw[<- hW1];exact(Pr.push (λ_ _ _ _=>rfl) (z8q _) (λ_ _ _=>⟨rfl,rfl,rfl⟩) (λ_ _=>rfl) (EA rfl)).trans (Pr.push (λ_ _ _ _=>rfl) (z8q _) (λ_ _ _=>⟨rfl,rfl,rfl⟩) (λ_ _=>rfl) (EA rfl))
   have A6C:∀b o,w.heap.size<=b->E1.O b o=.other:=λb o hb=>by simp only[E1,Env.re];rw[Rl.fresh b o hb];rfl
   have B0R:AJ E1.S w.heap E1.S W1.heap:=P1.Q8 (by simp) A6C;have B9y:Y9 w W1:=by rw[<- hW1];exact⟨rfl,rfl,rfl⟩
   refine⟨w.heap.size+1,[{ target:=.collected w.heap.size,args := #[] }],W1,{ target:=.fn (.func f) #[.pointer (some ⟨E.obj i,0,none⟩)],args := #[.func (.yield (w.heap.size+1)) #[] #[]] },W1,f,#[.func (.yield (w.heap.size+1)) #[] #[],.pointer (some ⟨E.obj i,0,none⟩)],W1,?_,?_,λ_ _=>trivial,?_,λh=>(by cases h),?_⟩
   ·rw[<- hW1,Yk];exact run_enterLoop_outer _ _ _ _ _
   ·simp only[resolve,hfv]
    simp[go_sem]
   ·have:=vV (hO.i f it hit).1 #[.func (.yield (w.heap.size+1)) #[] #[],.pointer (some ⟨E.obj i,0,none⟩)] W1;simpa[invoke,go_sem]using this
   let step:DV->(List E5->Option X)->List E5->Option X:=λd J sg=>
    l6 C R fl assign (λo st1=>match o with
     |.normal=>l6 C R fl body (λo st2=>match o with
       |.normal=>J st2.sg
       |.exit e=>K (.exit e) (Ae st st2.sg)
       |.ret=>K .ret (Ae st st2.sg)) (Su.clean fl body st1)
     |.exit _=>none
     |.ret=>none) (Su.clean fl assign (XG st p d sg))
   let fin:List E5->Option X:=λsg=>K .normal (Ae st sg)
   have H:Ml step fin ds (st.sg.set i (.arr 1 []))=some x:=H
   let Good:Env->World->List E5->Prop:=λE' W sg=>sg.length=E'.n/\(∀(j:Nat) ob,sg[j]?=some ob->RO E' W.heap j ob)/\(∀b o,W.heap.size<=b->E'.O b o=.other)/\Pr P8 E1 w.heap E' W.heap/\Y9 w W /\W.heap[w.heap.size]?=some (.deferred (some []))/\E'.O w.heap.size 0=.other/\E'.O (w.heap.size+1) 0=.other
   let J:Nat->Env->World->Prop:=λk E' W=>∃sg,Ml step fin (ds.drop k) sg=some x/\Good E' W sg/\W.heap[w.heap.size+1]?=some (.loop (rec .ready none))
   let Jx:World->Prop:=λW=>∃(out:Out)(cd:Code)(E':Env)(sg:List E5),((out=.ret/\cd=.ret)\/∃e,out=.exit e/\cd=.exit e)/\K out (Ae st sg)=some x/\Good E' W sg/\W.heap[w.heap.size+1]?=some (.loop (rec .done (some cd)))
   have behind:∀E' W sg (dl:List Deferred),Good E' W sg->L6 E' (Ae st sg) { a with defers:=dl } W.heap:=by
    intro E' W sg dl ⟨g1,g2,g3,g4,g5,g6,g7,g8⟩;have J4:AJ E.S w.heap E'.S W.heap:=by have h2:=g4.Q8 (by simp[P8]) A6C;exact⟨λb o hs=>h2.s b o (hS1.s b o hs),λb o v hs hv=>h2.c b o v (hS1.s b o hs) hv⟩
    exact Rl.outer J4 (λj hj=>⟨g4.In hj,(g4.old hj).1⟩) g1 g2 g3
   have A9r:∀E' W sg (o:Obj) (o':Obj),Good E' W sg->W.heap[w.heap.size+1]?=some o->o.isCells=false->Good E' (W.putObj (w.heap.size+1) o') sg:=by intro E' W sg o o' ⟨g1,g2,g3,g4,g5,g6,g7,g8⟩ ho hc;have Pp:Pr (λT=>T=.other) E' W.heap E' (W.putObj (w.heap.size+1) o').heap:=Pr.setOther ho hc g8;have J4:=Pp.Q8 (by simp) g3;refine⟨g1,λj ob hj=>(g2 j ob hj).mono Pp J4 (by rw[<- g1];exact(z0q.1 hj).1) (by simp) (by simp),λb o hb=>g3 b o (by simpa using hb),g4.vW (by omega),⟨g5.os,g5.tape,g5.output⟩,?_,g7,g8⟩;exact(World.putObj_heap_other (by omega)).trans g6
   have C0d:W1.heap[E.obj i]?=some (.cells c T0 (0,0)):=by have P6:=(z1q.1 b1).1;rw[<- hW1];exact(Go.RowKit.Below.heap_alloc _ _ _ (by simp;omega)).trans ((Go.RowKit.Below.heap_alloc _ _ _ P6).trans b1)
   have key:=(hO.i f it hit).2 cd ds ZH (n-1) (w.heap.size+1) (E.obj i) c T0 J Jx E1 W1 C0d B9r (FM.mono ⟨λb o hs=>B0R.s b o (hS1.s b o hs),λb o v hs hv=>B0R.c b o v (hS1.s b o hs) hv⟩ _ B98)
    (λk E' W' ⟨sg,_,g,_⟩=>g.2.2.1) ?_ ?_ ?_
   ·refine CallsIn.mono key ?_;rintro e W2 ⟨⟨v,rfl⟩,⟨E',sg,h1,g,hl⟩ | ⟨out,cd,E',sg,ho,h1,g,hl⟩⟩
    ·-- all have come
     have g':=A9r E' W2 sg _ (.loop { rec .ready none with state:=.exhausted }) g hl rfl;refine⟨none,W2.putObj (w.heap.size+1) (.loop { rec .ready none with state:=.exhausted }),by have:=run_endLoop (P:=C.P) hl (by rw[Yk];simp);rw[this];rw[Yk],?_⟩;rw[zZq]at h1;refine T .normal E' _ _ _ h1 ⟨[{ target:=.collected w.heap.size,args := #[] }],rfl,?_,λh=>by simp[Cf]at h⟩ (behind E' _ sg _ g') (P01.trans g'.2.2.2.1) g'.2.2.2.2.1;refine⟨λm hm=>?_,by simp⟩;simp only[ziq]at hm;subst hm;exact⟨_,rfl,g'.2.2.2.2.2.1,g'.2.2.2.2.2.2.1,z8q _⟩
    ·-- a round has left the loop
     have g':=A9r E' W2 sg _ (.loop { rec .done (some cd)with state:=.exhausted }) g hl rfl;refine⟨some cd,W2.putObj (w.heap.size+1) (.loop { rec .done (some cd)with state:=.exhausted }),by have:=run_endLoop (P:=C.P) hl (by rw[Yk];simp);rw[this];rw[Yk],?_⟩;have hT:Q out.A75 { a with defers:=[{ target:=.collected w.heap.size,args := #[] }]++a.defers } (W2.putObj (w.heap.size+1) (.loop { rec .done (some cd)with state:=.exhausted })):=by refine T out E' _ _ _ h1 ⟨[{ target:=.collected w.heap.size,args := #[] }],rfl,?_,λh=>by simp[Cf]at h⟩ (behind E' _ sg _ g') (P01.trans g'.2.2.2.1) g'.2.2.2.2.1;refine⟨λm hm=>?_,by simp⟩;simp only[ziq]at hm;subst hm;exact⟨_,rfl,g'.2.2.2.2.2.1,g'.2.2.2.2.2.2.1,z8q _⟩
     rcases ho with⟨rfl,rfl⟩ | ⟨e,rfl,rfl⟩
     ·exact wpIn_ret hT
     ·exact wpIn_exit hT
   ·intro k E' Wa Wb ⟨sg,h1,⟨g1,g2,g3,g4,g5,g6,g7,g8⟩,hl⟩ hIt;have J4:=hIt.pr.Q8 (by simp) g3;exact⟨sg,h1,⟨g1,λj ob hj=>(g2 j ob hj).mono hIt.pr J4 (by rw[<- g1];exact(z0q.1 hj).1) (by simp) (by simp),λb o hb=>g3 b o (zyq hIt.size hb),hIt.after (by omega) g4,g5.trans hIt.out,hIt.keep g6 rfl,g7,g8⟩,hIt.keep hl rfl⟩
   ·-- one round
    intro k E' W d v ⟨sg,h1,g,hl⟩ hd hv;rw[A8C hd]at h1;have B8e:ps=#[p]:=by apply Array.ext';simpa using hps
    have hy:=run_yield (P:=C.P) (args := #[v]) hl (by rw[Yk];simp[B8e]);rw[Yk]at hy;refine⟨fn,_,assign,body,hy,roundIn_of_wpIn trivial ?_⟩;obtain⟨g1,g2,g3,g4,g5,g6,g7,g8⟩:=g;have R0:L6 E' (XG st p d sg) ({ tmps:=a.tmps.setIfInBounds p v,defers:=[] }:Act) W.heap:=by have:=(behind E' W sg [] ⟨g1,g2,g3,g4,g5,g6,g7,g8⟩).put (dst:=some p) (d:=d) (m:=.val) (v:=v) λt0 _=>hv;exact this
    have B9o:(Array.zip ps #[v]).foldl (λtmps (t,a)=>tmps.setIfInBounds t a) a.tmps=a.tmps.setIfInBounds p v:=by rw[B8e];simp
    simp only[B9o];refine iha (ro:=some (w.heap.size+1)) (.inr hpa) h1 (R0.clean fl assign) λout E2 st1 a1 w1 k1 k0 k2 k3 k4=>?_;cases out with
    |exit e=>cases k1
    |ret=>cases k1
    |normal=>
    have d1:a1.defers=[]:=k0.plain hpa;have hl1:=k3.cB hl rfl g8;have t1:E2.O (w.heap.size+1) 0=.other:=k3.XB (z1q.1 hl).1 g8;refine⟨_,run_beginRound hl1 (by rw[Yk]),?_⟩;have R2:L6 E2 (Su.clean fl body st1) a1 (w1.putObj (w.heap.size+1) (.loop { rec .ready none with state:=.busy })).heap :=(k2.others (Pr.setOther hl1 rfl t1) rfl (λb o hb=>k2.fresh b o (by simpa using hb))).clean fl body
    refine ihb (ro:=some (w.heap.size+1)) (.inr hpb) k1 R2 λout E3 st2 a3 w3 q1 q0 q2 q3 q4=>?_;have yc:(w1.putObj (w.heap.size+1) (.loop { rec .ready none with state:=.busy })).heap[w.heap.size+1]?=some (.loop { rec .ready none with state:=.busy }):=World.putObj_heap_same (z1q.1 hl1).1;have hl3:=q3.cB yc rfl t1;have t3:E3.O (w.heap.size+1) 0=.other:=q3.XB (z1q.1 yc).1 t1;have lt3:=(z1q.1 hl3).1;have sz1:=k3.size;have P6:=(z1q.1 hl).1;have Pw:Pr P8 E' W.heap E3 (w3.heap.setIfInBounds (w.heap.size+1) (.loop (rec .ready none))):=k3.trans (q3.swap hl1);have Pb:∀o,Pr P8 E1 w.heap E3 (w3.heap.setIfInBounds (w.heap.size+1) o):=λo=>by
     have:=(g4.trans Pw).vW (l:=w.heap.size+1) (x:=o) (by omega)
     rwa [Array.setIfInBounds_setIfInBounds]at this
    have hD1:=k3.cB g6 rfl g7;have tD1:E2.O w.heap.size 0=.other:=k3.XB (z1q.1 g6).1 g7;have hD2:(w1.putObj (w.heap.size+1) (.loop { rec .ready none with state:=.busy })).heap[w.heap.size]?=some (.deferred (some [])):=(World.putObj_heap_other (by omega)).trans hD1;have hD3:=q3.cB hD2 rfl tD1;have tD3:E3.O w.heap.size 0=.other:=q3.XB (z1q.1 hD2).1 tD1;have B0L:∀o,Good E3 (w3.putObj (w.heap.size+1) o) st2.sg:=λo=>by have R3:=q2.others (Pr.setOther (x:=o) hl3 rfl t3) rfl (λb o hb=>q2.fresh b o (by simpa using hb));refine⟨R3.n,R3.U5,R3.fresh,Pb o,?_,(World.putObj_heap_other (by omega)).trans hD3,tD3,t3⟩;have:=(g5.trans k4).trans (Y9.trans (b:=w1.putObj (w.heap.size+1) (.loop { rec .ready none with state:=.busy })) ⟨rfl,rfl,rfl⟩ q4);exact⟨this.os,this.tape,this.output⟩
    cases out with
    |normal=>
      refine⟨_,_,run_endRound none hl3,.inl ⟨rfl,E3,⟨st2.sg,q1,B0L _,?_⟩,?_⟩⟩
      ·rw[World.putObj_heap_same lt3];rw[Yk];rfl
      ·have:(Obj.loop { { rec .ready none with state:=.busy }with state:=if (none:Option Code).isNone=true then .ready else .done,pending:=none })=.loop (rec .ready none):=by rw[Yk];rfl
       rw[this];exact Pw
    |ret=>refine⟨_,_,run_endRound (some .ret) hl3,.inr ⟨rfl,.ret,.ret,E3,st2.sg,.inl ⟨rfl,rfl⟩,q1,B0L _,?_⟩⟩;rw[World.putObj_heap_same lt3];rw[Yk];rfl
    |exit e=>refine⟨_,_,run_endRound (some (.exit e)) hl3,.inr ⟨rfl,.exit e,.exit e,E3,st2.sg,.inr ⟨e,rfl,rfl⟩,q1,B0L _,?_⟩⟩;rw[World.putObj_heap_same lt3];rw[Yk];rfl
   ·-- where it begins
    refine⟨_,H,⟨by rw[yrq];exact Rl.n,λj ob hj=>(C0k j ob hj).mono P1 B0R ?_ (by simp) (by simp),λb o hb=>A6C b o (by omega),P1.j6 (by simp),B9y,hK1,A6C _ _ (z8q _),A6C _ _ (by omega)⟩,hL1⟩;have:=(z0q.1 hj).1;rw[yrq,Rl.n]at this;exact this
 |_=>intro ro n K st x E a w Q Sd H Rl T;simp[l6]at H
end
end
section
structure wK(E:Env)(h:Heap)(g:List E5)(S:AY):Prop where
 le:AJ E.S h S h
 ob:∀(i:Nat) ob,g[i]?=some ob->RO E h i ob/\(ob ≠ .arr 1 []->∀b o,E.O b o=.obj i->S b o)
variable (E:Env)
def Env.fin:AY:=λb o=>E.O b o=.Q8\/∃i,E.O b o=.obj i
def B7T(h:Heap):AJ E.S h E.fin h:=⟨λ_ _ hs=>.inl hs,λ_ _ _ _ hv=>hv⟩
variable {E:Env}{st:St}{a:Act}{h:Heap}
def B2q(Rl:L6 E st a h):wK E h st.sg E.fin:=⟨B7T E h,λi ob hi=>⟨Rl.U5 i ob hi,λ_ _ _ h=>.inr ⟨i,h⟩⟩⟩
def B1b(E:Env)(h:Heap):wK E h [] E.S:=⟨⟨λ_ _ hs=>hs,λ_ _ _ _ hv=>hv⟩,λi ob hi=>by simp at hi⟩
variable {sg:List E5}{d:DV}{S:AY}
def XZ{c:DV×F4}{tg:Tag}{v:Value}(H:Bj sg c=some d)(R:M4 E h tg c.1 c.2 v)(ho:wK E h sg S):
 RV S h d v/\(M8 c.1=true->c.2=.val->M8 d=true)/\(c.2 ≠ .val->M8 d=true):=by
 unfold Bj at H;split at H
 ·rename_i hm;simp only[D8]at H;subst H;rw[hm]at R;exact⟨RV.mono ho.le _ R,λh _=>h,λh=>absurd hm h⟩
 ·rename_i hm;simp only[D8]at H;subst H;rw[hm]at R;obtain⟨R1,-,sz,ds,hd⟩:=R;exact⟨R1.mono ho.le,λh _=>h,λ_=>by rw[hd];rfl⟩
 ·rename_i hm;simp only[D8]at H;subst H;rw[hm]at R;obtain⟨R1,sz,ds,hd,-⟩:=R;exact⟨R1.mono ho.le,λh _=>h,λ_=>by rw[hd];rfl⟩
 ·rename_i hm;simp only[D8]at H;subst H;rw[hm]at R;obtain⟨R1,R2⟩:=(R:_/\_);exact⟨by rw[R1,R2];simp only[RV],λh _=>h,λ_=>by rw[R1];rfl⟩
 ·rename_i hm;simp only[D8]at H;subst H;rw[hm]at R;obtain⟨R1,⟨ds,hd⟩,-⟩:=R;exact⟨R1.mono ho.le,λh _=>h,λ_=>by rw[hd];rfl⟩
 ·rename_i i sz off len hm;obtain⟨p,hp,H⟩:=D6 H;obtain⟨h1,H⟩:=H6 H;obtain⟨h2,H⟩:=M5 H;simp only[D8]at H;subst H;rw[hm]at R;simp only[M4]at R;obtain⟨hi,a,cap,rfl,ha,A2G,B0O,B0U,-⟩:=R;refine⟨?_,λ_ _=>rfl,λ_=>rfl⟩;simp only[RV,RC];have hll:((p.2.drop off).take len).length=len:=by simp;omega
  obtain⟨hob,hsh⟩:=ho.ob i _ (pK hp);simp only[beq_iff_eq]at h1;refine⟨a,len,cap,rfl,hll.symm,A2G,B0O,λhne=>?_,λx hx=>⟨λ_=>B0U x hx,?_⟩⟩
  ·simp only[RO]at hob;have:p.2≠[]:=λh=>by rw[h]at hne;simp at hne
   obtain⟨c,T,e1,e2,e3,-⟩:=hob this;rw[<- h1];exact e3
  ·rw[EW];intro j d hj;have bT:j<len:=by have:=(z0q.1 hj).1;omega
   rw[List.getElem?_take_of_lt bT,List.getElem?_drop]at hj;have hne:p.2≠[]:=λh=>by rw[h]at hj;simp at hj
   simp only[RO]at hob;obtain⟨c,T,e1,e2,e3,e4,e5⟩:=hob hne;obtain⟨vs,v1,v2,v3⟩:=e5 (off+j) d hj;have bS:=ha (by omega);rw[hx]at bS;simp only[D8]at bS;subst bS;refine⟨vs,by rw[<- h1];exact v1,λy u hu=>?_,v3.mono ho.le⟩;have hy:y<p.1:=by have:=(z0q.1 hu).1;omega
   have hjp:off+j<p.2.length:=(z0q.1 hj).1;have P6:(off+j) * p.1+y<p.2.length * p.1:=seg_lt hjp hy;have e:E.base i+off * sz+j * sz+y=E.base i+(off+j) * p.1+y:=by rw[<- h1,Nat.add_mul];omega
   refine⟨?_,hsh (λh=>hne (by have:=congrArg (λob=>match ob with | E5.arr _ ds=>ds | _=>[]) h;exact this)) _ _ ?_⟩
   ·rw[e];simp only[hc,e1];exact v2 y u hu
   ·rw[e];exact e4 _ (by omega) (by omega)
 ·cases H
def dC{E:Env}{h:Heap}{sg:List E5}{S:AY}(ho:wK E h sg S):∀{cs:List (DV×F4)}{vs:List Value}{ds:List DV},Es sg cs=some ds->cs.length=vs.length->
 (∀(j:Nat) r v,cs[j]?=some r->vs[j]?=some v->M8 r.1=true/\v.oneCell'=true/\∃tg,M4 E h tg r.1 r.2 v)->FM S h ds vs
 |[],vs,ds,H,hl,_=>by simp only[Es,D8]at H;subst H;exact zfq hl.symm
 |c::cs,[],ds,H,hl,_=>by simp at hl
 |c::cs,v::vs,ds,H,hl,hR=>by
   simp only[Es]at H;obtain⟨d,h1,H⟩:=D6 H;obtain⟨ds',h2,H⟩:=D6 H;simp only[D8]at H;subst H;obtain⟨q1,q2,tg,q3⟩:=hR 0 c v rfl rfl;obtain⟨r1,r2,r3⟩:=XZ h1 q3 ho;have hlf:M8 d=true:=by
    by_cases hm:c.2=.val
    ·exact r2 q1 hm
    ·exact r3 hm
   simp only[FM];exact⟨v,vs,rfl,hlf,NW hlf q2 r1,dC ho h2 (by simpa using hl) λj r u hr hu=>hR (j+1) r u (by simpa using hr) (by simpa using hu)⟩
variable (tmps:Array Value)
def M_:ResultVar->Sem Value
 |.tmp t=>pure (tmps.getD t undef)
 |.cell a t=>do loadVar t (<- asAddr (tmps.getD a undef))
variable {P:Program}{rv:ResultVar}
def vU{w:World}{g:List E5}(H:cz P (st.Fb g) rv=some d)(Rl:L6 E st a w.heap)(ho:wK E w.heap g S):
 ∃v,(M_ a.tmps rv).run P w=.ok v w/\RV S w.heap d v:=by
 cases rv with
 |tmp t=>
   have H:(match (st.get t).2 with
    |.EZ ms=>og (K6 (.EZ ms)) (some (st.get t).1)
    |_=>Bj g (st.get t))=some d:=H
   have hR:RR E w.heap 0 t (st.get t).1 (st.get t).2 (a.tmps.getD t undef):=Rl.src (P:=P) (t:=0) (x:=.tmp t) rfl;refine⟨a.tmps.getD t undef,rfl,?_⟩;split at H
   ·rename_i ms hm;obtain⟨h1,H⟩:=H6 H;simp only[D8]at H;subst H;exact(hR.data (by rw[hm];exact h1)).mono ho.le
   ·rename_i hm;have hnt:∀ms,(st.get t).2 ≠ .Cg ms:=λms h=>by unfold Bj at H;rw[h]at H;simp at H
    exact(XZ H (hR.wD hnt λms h=>hm ms h) ho).1
 |cell p t=>
   have H:(match (st.get p).2 with
    |.loc s 0=>ob (st.bx.getD s none) λcs=>ob (tz P t) λz=>
      if z.1=cs.length then
       if z.2 then ob (Es g cs) λds=>some (.agg ds)
       else match cs with
        |[c]=>Bj g c
        |_=>none
      else none
    |.ptr i 0=>ob (H5 g i) λcs=>ob (tz P t) λz=>
      if z.1=cs.length then
       if z.2 then ob (Es g cs) λds=>some (.agg ds)
       else match cs with
        |[c]=>Bj g c
        |_=>none
      else none
    |_=>none)=some d:=H
   have hR:RR E w.heap 0 p (st.get p).1 (st.get p).2 (a.tmps.getD p undef):=Rl.src (P:=P) (t:=0) (x:=.tmp p) rfl;split at H
   ·rename_i s hm;obtain⟨cs,h1,H⟩:=D6 H;obtain⟨z,h2,H⟩:=D6 H;obtain⟨h3,H⟩:=M5 H;rw[hm]at hR;simp only[RR,M4]at hR;obtain⟨c,T,b1,b2,b3,b4⟩:=Rl.j4 s cs h1;obtain⟨v,hv,YN,hv2⟩:=HV (w:=w) h2 (b:=E.blk s) (off:=0) (vs:=c.toList) (by simp[b2,h3]) λj u hu=>by simp only[hc,b1,znq];simpa using hu
    have V4:(M_ a.tmps (.cell p t)).run P w=.ok v w:=by simp only[M_,hR.2,asAddr,Sem.run_bind,Sem.run_pure,Result.andThen_ok];exact hv
    refine⟨v,V4,?_⟩;have b5:∀(j:Nat) r u,cs[j]?=some r->c.toList[j]?=some u->M8 r.1=true/\u.oneCell'=true/\∃tg,M4 E w.heap tg r.1 r.2 u:=λj r u hr hu=>by obtain⟨q1,q2,q3,q4⟩:=b4 j r u hr (by simpa using hu);exact⟨q1,q2,_,q4⟩
    by_cases hz:z.2=true
    ·rw[A9 hz]at H;obtain⟨ds,h4,H⟩:=D6 H;simp only[D8]at H;subst H;rw[YN hz];simp only[RV];exact⟨_,rfl,dC ho h4 (by simp[b2]) b5⟩
    ·rw[A7 hz]at H;have hcv:=hv2 (by simpa using hz);have h5:∃c0,cs=[c0]/\Bj g c0=some d:=by
      split at H
      ·exact⟨_,rfl,H⟩
      ·cases H
     obtain⟨c0,rfl,h6⟩:=h5;obtain⟨q1,q2,tg,q3⟩:=b5 0 c0 v rfl (by rw[hcv];rfl);exact(XZ h6 q3 ho).1
   ·rename_i i hm;obtain⟨cs,h1,H⟩:=D6 H;obtain⟨z,h2,H⟩:=D6 H;obtain⟨h3,H⟩:=M5 H;rw[hm]at hR;simp only[RR,M4]at hR;have hgi:g[i]?=some (.box cs):=by
     unfold H5 at h1;split at h1
     ·rename_i h;simp only[D8]at h1;subst h1;exact h
     ·cases h1
    have hRO:=(ho.ob i _ hgi).1;simp only[RO]at hRO;obtain⟨c,T,b1,b2,b3,b4⟩:=hRO;obtain⟨v,hv,YN,hv2⟩:=HV (w:=w) h2 (b:=E.obj i) (off:=0) (vs:=c.toList) (by simp[b2,h3]) λj u hu=>by simp only[hc,b1,znq];simpa using hu
    have V4:(M_ a.tmps (.cell p t)).run P w=.ok v w:=by simp only[M_,hR.2,asAddr,Sem.run_bind,Sem.run_pure,Result.andThen_ok];exact hv
    refine⟨v,V4,?_⟩;have b5:∀(j:Nat) r u,cs[j]?=some r->c.toList[j]?=some u->M8 r.1=true/\u.oneCell'=true/\∃tg,M4 E w.heap tg r.1 r.2 u:=λj r u hr hu=>by obtain⟨q1,q2,q3,q4⟩:=b4 j r u hr (by simpa using hu);exact⟨q1,q2,_,q4⟩
    by_cases hz:z.2=true
    ·rw[A9 hz]at H;obtain⟨ds,h4,H⟩:=D6 H;simp only[D8]at H;subst H;rw[YN hz];simp only[RV];exact⟨_,rfl,dC ho h4 (by simp[b2]) b5⟩
    ·rw[A7 hz]at H;have hcv:=hv2 (by simpa using hz);have h5:∃c0,cs=[c0]/\Bj g c0=some d:=by
      split at H
      ·exact⟨_,rfl,H⟩
      ·cases H
     obtain⟨c0,rfl,h6⟩:=h5;obtain⟨q1,q2,tg,q3⟩:=b5 0 c0 v rfl (by rw[hcv];rfl);exact(XZ h6 q3 ho).1
   ·cases H
def A1O{P:Program}{E:Env}{st:St}{a:Act}{w:World}(Rl:L6 E st a w.heap):∀{rs:List ResultVar}{ds:List DV},aJ P st rs=some ds->
 ∃vs:List Value,(rs.mapM (M_ a.tmps)).run P w=.ok vs w/\SH E.fin w.heap ds vs/\vs.length=rs.length
 |[],ds,H=>by simp only[aJ,D8]at H;subst H;exact⟨[],rfl,rfl,rfl⟩
 |r::rs,ds,H=>by simp only[aJ]at H;obtain⟨d,h1,H⟩:=D6 H;obtain⟨ds',h2,H⟩:=D6 H;simp only[D8]at H;subst H;obtain⟨v,q1,q2⟩:=vU (g:=st.sg) h1 Rl (B2q Rl);obtain⟨vs,q3,q4,q5⟩:=A1O Rl h2;refine⟨v::vs,?_,⟨v,vs,rfl,q2,q4⟩,by simp[q5]⟩;simp only[yuq,Sem.run_bind,q1,q3,Result.andThen_ok,Sem.run_pure]
def pE(fn:Func)(tmps:Array Value):results fn tmps=(do
 let vs <- fn.results.toList.mapM (M_ tmps)
 pure (if h:vs.toArray.size=1 then vs.toArray[0]else .tuple vs.toArray)):=by
 have:results fn tmps=(do
  let vs <- fn.results.mapM (M_ tmps)
  pure (if h:vs.size=1 then vs[0]else .tuple vs)):=by
  unfold results;congr 1
 rw[this,Array.mapM_eq_mapM_toList];simp
def B6Q{ds:List DV}{vs:List Value}(R:SH S h ds vs):RV S h (pack ds) (if h:vs.toArray.size=1 then vs.toArray[0]else .tuple vs.toArray):=by
 obtain⟨hl,hR⟩:=Wh.1 R;by_cases h1:vs.toArray.size=1
 ·rw[dif_pos h1];obtain⟨v,rfl⟩:=zWq.1 (by simpa using h1);obtain⟨d,rfl⟩:=zWq.1 (by simpa using hl);exact hR 0 d v rfl rfl
 ·rw[dif_neg h1];unfold pack;split
  ·simp at hl h1;omega
  ·simp only[RV]
   exact⟨_,rfl,by simpa using R⟩
variable (us:List Nat)
def Nq(sg:List E5):List E5:=sg.mapIdx λi ob=>if i∈us then ob else .arr 1 []
def Gl(T:Tag):Tag :=
 match T with
 |.obj i=>if i∈us then .Q8 else .obj i
 |T=>T
variable {us:List Nat}
theorem Vp{T:Tag}(h:∀i∈us,T ≠ .obj i):Gl us T=T:=by
 unfold Gl;split
 ·rename_i i;rw[A7 λhi=>h i hi rfl]
 ·rfl
def A7D(us:List Nat){T:Tag}(h:¬∃i∈us,T=.obj i):Gl us T=T:=Vp λi hi he=>h ⟨i,hi,he⟩
def B2M{i:Nat}(h:i∈us):(Nq us sg)[i]?=sg[i]?:=by unfold Nq;rw[y4q];cases sg[i]?<;>simp[h]
def B1w{i:Nat}(h:i∈us):RL (Nq us sg) i=RL sg i:=by unfold RL;rw[B2M h]
def Yp{c:DV×F4}(h:∀i∈wO c.2,i∈us):Bj (Nq us sg) c=Bj sg c:=by
 obtain⟨d,m⟩:=c;cases m<;>try rfl
 case arr i sz off len=>simp only[Bj];rw[B1w (h i (by simp[wO]))]
def lW{us:List Nat}{sg:List E5}:∀{cs:List (DV×F4)},(∀c∈cs,∀i∈wO c.2,i∈us)->Es (Nq us sg) cs=Es sg cs
 |[],_=>rfl
 |c::cs,h=>by simp only[Es];rw[Yp (h c (z4q ..)),lW λc' yX=>h c' (z2q _ yX)]
def A8J(hl:zx st rv=true)(hu:∀i∈Uj st rv,i∈us)(H:cz P st rv=some d):cz P (st.Fb (Nq us st.sg)) rv=some d:=by
 cases rv with
 |tmp t=>
   simp only[Uj]at hu;have e:=Yp (us:=us) (sg:=st.sg) (c:=st.get t) hu;show(match (st.get t).2 with
    |.EZ ms=>og (K6 (.EZ ms)) (some (st.get t).1)
    |_=>Bj (Nq us st.sg) (st.get t))=some d
   rw[e];exact H
 |cell p t=>
   simp only[zx]at hl;simp only[Uj]at hu;simp only[cz]at H ⊢;show(match (st.get p).2 with
    |.loc s 0=>ob (st.bx.getD s none) λcs=>ob (tz P t) λz=>
      if z.1=cs.length then
       if z.2 then ob (Es (Nq us st.sg) cs) λds=>some (.agg ds)
       else match cs with
        |[c]=>Bj (Nq us st.sg) c
        |_=>none
      else none
    |.ptr i 0=>ob (H5 (Nq us st.sg) i) λcs=>ob (tz P t) λz=>
      if z.1=cs.length then
       if z.2 then ob (Es (Nq us st.sg) cs) λds=>some (.agg ds)
       else match cs with
        |[c]=>Bj (Nq us st.sg) c
        |_=>none
      else none
    |_=>none)=some d
   cases hm:(st.get p).2 with
   |loc s o=>
     rw[hm]at H hu;cases o with
     |succ o=>simp at H
     |zero=>
       simp only at H hu ⊢;obtain⟨cs,h1,H⟩:=D6 H;rw[h1]at hu;simp only at hu;have hc:∀c∈cs,∀i∈wO c.2,i∈us:=λc hc i hi=>hu i (zwq.2 ⟨c,hc,hi⟩);rw[h1,M7,lW hc];obtain⟨z,h2,H⟩:=D6 H;rw[h2,M7];obtain⟨h3,H⟩:=M5 H;rw[A9 h3];by_cases hz:z.2=true
       ·rw[A9 hz]at H ⊢;exact H
       ·rw[A7 hz]at H ⊢
        match cs,hc,H with
        |[c],hc,H=>simp only at H ⊢;rw[Yp (hc c (z4q ..))];exact H
        |[],_,H=>simp at H
        |_::_::_,_,H=>simp at H
   |_=>rw[hm]at hl;simp at hl
def B06(Rl:L6 E st a h)(us:List Nat):wK E h (Nq us st.sg) (E.re (Gl us)).S:=by
 refine⟨Lb (Vp (by simp)),λi ob hi=>?_⟩;unfold Nq at hi;rw[y4q]at hi;cases hg:st.sg[i]? with
 |none=>rw[hg]at hi;simp at hi
 |some o=>
   rw[hg]at hi;simp only[zgq,D8]at hi;by_cases hm:i∈us
   ·rw[A9 hm]at hi;subst hi;refine⟨Rl.U5 i _ hg,λ_ b o hb=>?_⟩;simp only[Env.S,Env.re];rw[hb];simp[Gl,hm]
   ·rw[A7 hm]at hi;subst hi;exact⟨by simp[RO],λh=>absurd rfl h⟩
def B4F(sg:List E5):∀(us:List Nat)(i:Nat),(kill sg us)[i]?=if i∈us then(sg[i]?).map (λ_=>E5.arr 1 [])else sg[i]?:=by
 intro us;induction us generalizing sg with
 |nil=>intro i;simp[kill]
 |cons u us ih=>
   intro i;show(kill (sg.set u (.arr 1 [])) us)[i]?=_;rw[ih];by_cases h1:i∈us
   ·rw[A9 h1,A9 (z2q _ h1),ygq];split
    ·rename_i h;subst h;split<;>simp_all
    ·rfl
   ·rw[A7 h1];by_cases h2:u=i
    ·subst h2;rw[A9 (z4q ..),ygq];simp only[F6]
     split
     ·rename_i h;rw[z3q h];rfl
     ·rename_i h;rw[List.getElem?_eq_none (by omega)];rfl
    ·rw[A7 (by simp[h1];exact λh=>h2 h.symm),y3q h2]
theorem L6.Q8(R:L6 E st a h)(us:List Nat):L6 (E.re (Gl us)) { st with sg:=kill st.sg us } a h:=by
 have P:Pr (λT=>∃i∈us,T=.obj i) E h (E.re (Gl us)) h:=Pr.re λT hT=>A7D us hT;have J4:AJ E.S h (E.re (Gl us)).S h:=Lb (Vp (by simp));have FD:∀(us:List Nat)(g:List E5),(kill g us).length=g.length:=by
  intro us;induction us with
  |nil=>intro g;rfl
  |cons u us ih=>intro g;show(kill (g.set u _) us).length=_;rw[ih];simp
 refine⟨R.size,R.AZ,R.CW,(FD us st.sg).trans R.n,λt v hv=>(R.Be t v hv).mono P J4 (by simp) (by simp),λs cs hs=>(R.j4 s cs hs).mono P J4 (by simp) (by simp),λi ob hi=>?_,λb o hb=>?_⟩
 ·rw[B4F]at hi;split at hi
  ·cases hg:st.sg[i]? with
   |none=>rw[hg]at hi;simp at hi
   |some o=>rw[hg]at hi;simp only[zgq,D8]at hi;subst hi;simp[RO]
  ·rename_i hm;have P6:i<E.n:=by rw[<- R.n];exact(z0q.1 hi).1
   exact(R.U5 i ob hi).mono P J4 P6 (by rintro⟨j,hj,he⟩;simp only[Tag.obj.injEq]at he;subst he;exact hm hj) (by simp)
 ·simp only[Env.re]
  rw[R.fresh b o hb];rfl
end
section
section
variable {C:BQ}{R:O8}{X:Type}{fl:H8}{Q:Exit->Act->World->Prop}{ops:List Oper}
end
section
variable {C:BQ}{R:O8}{X:Type}(S:AY)
open Classical in
noncomputable def Wo:Env where
 blk:=λ_=>0
 top:=λ_=>0
 obj:=λ_=>0
 base:=λ_=>0
 O:=λb o=>if S b o then .Q8 else .other
 n:=0
 Q9:=λ_=>0
def B7S(b o:Nat):(Wo S).S b o↔S b o:=by
 simp only[Env.S,Wo]
 split<;>simp_all
variable {fn:Func}{rs:List (DV×F4)}{sg:List E5}
theorem B4E{t:Nat}:(∀r,rs[t]?=some r->(I4 fn rs sg).get t=r)/\(rs.length<=t->t<rs.length+(fn.ntmps-rs.length)->(I4 fn rs sg).get t=(.J6 [],.val)):=by
 constructor
 ·intro r hr;have ht:=(z0q.1 hr).1;simp only[St.get,I4,z6q];rw[zdq (by simpa using ht),zdq (by simpa using ht)];simp[hr]
 ·intro h1 h2;simp only[St.get,I4,z6q];rw[zEq (by simpa using h1),zEq (by simpa using h1)];simp only[zOq];rw[zGq,zGq,A9 (by omega),A9 (by omega)];rfl
variable {E:Env}{w:World}
def A6I{vs:List Value}(hf:∀b o,w.heap.size<=b->E.O b o=.other)(hn:sg.length=E.n)(ho:∀(i:Nat) ob,sg[i]?=some ob->RO E w.heap i ob)(hl:vs.length=rs.length)(hr:∀(i:Nat) r v,rs[i]?=some r->vs[i]?=some v->RR E w.heap 0 i r.1 r.2 v):
 L6 E (I4 fn rs sg) { tmps:=vs.toArray++Array.replicate (fn.ntmps-vs.toArray.size) undef,defers:=[] } w.heap:=by
 refine⟨by simp[I4,hl],by simp[I4],by simp[I4],hn,λt v hv=>?_,λs cs hs=>?_,ho,hf⟩
 ·have P6:t<rs.length+(fn.ntmps-rs.length):=by have:=(z1q.1 hv).1;simpa[hl]using this
  obtain⟨i1,i2⟩:=B4E (fn:=fn) (rs:=rs) (sg:=sg) (t:=t);by_cases ht:t<rs.length
  ·have Sg:rs[t]?=some rs[t]:=z3q ht;rw[i1 _ Sg];refine hr t _ v Sg ?_;rw[Array.getElem?_append_left (by simpa[hl]using ht)]at hv;simpa using hv
  ·rw[i2 (yhq ht) P6];rw[Array.getElem?_append_right (by simpa[hl]using yhq ht)]at hv;rw[zFq]at hv;split at hv
   ·simp only[D8]at hv;subst hv;simp only[RR,M4,RV,undef];exact⟨#[],rfl,by simp[SH]⟩
   ·cases hv
 ·simp only[I4,z6q,zGq]at hs;split at hs<;>simp at hs
def B6M{S:AY}{E':Env}{h h':Heap}(P:Pr P8 (Wo S) h E' h'){b:Nat}(hb:b<h.size):h'[b]?=h[b]?:=by
 have hk:=P.blk b hb;have ZJ:∀o,¬P8 ((Wo S).O b o):=λo=>by
  simp only[Wo]
  split<;>simp[P8]
 have he:h[b]?=some h[b]:=zjq hb;rw[he]at hk ⊢;unfold X4 at hk;split at hk
 ·rename_i hx;cases hx
 ·rename_i c T f hx;obtain⟨c',h1,h2,h3⟩:=hk;rw[h1,hx];congr 2;exact yiq λo=>h3 o (ZJ o)
 ·have:=hk (ZJ 0);simp_all
def VY{m:Nat}{P:Program}{fn:Func}{Rp:Ending->World->Prop}{E0 E:Env}{st:St}{a:Act}{w:World}
 (fin:∀w2,L6 E st a w2.heap->Pr P8 E0 w.heap E w2.heap->Y9 w w2->∃v,(results fn a.tmps).run P w2=.ok v w2/\Rp (.returned v) w2) :
 ∀(ms:List Deferred)(w1:World),Marks w.heap.size E w1.heap ms->L6 E st a w1.heap->Pr P8 E0 w.heap E w1.heap->Y9 w w1->LeavesInM Fence.wide m P fn a.tmps Rp ms .returning w1
 |[],w1,_,Rl,P1,O1=>fin w1 Rl P1 O1
 |d::ms,w1,M,Rl,P1,O1=>by obtain⟨D,rfl,h2,h3,h4⟩:=M.1 d (z4q ..);obtain⟨p1,p2⟩:=zHq.1 M.2;refine⟨by simp,.inl ⟨D,w1.putObj D (.deferred none),rfl,run_takeDeferred h2,?_⟩⟩;refine VY fin ms _ ⟨λm' WR=>?_,p2⟩ (Rl.others (Pr.setOther h2 rfl h3) rfl λb o hb=>Rl.fresh b o (by simpa using hb)) (P1.vW h4) ⟨O1.os,O1.tape,O1.output⟩;obtain⟨D',q1,q2,q3,q4⟩:=M.1 m' (z2q _ WR);refine⟨D',q1,?_,q3,q4⟩;have hne:D'≠D:=λh=>p1 m' WR (by rw[q1,h]);exact(World.putObj_heap_other hne).trans q2
variable {f:FuncId}{c:Code}
def pure_ok{ds:List DV}{d:DV}(hm:C.P.follows .mixedOrders=true)(hO:Iz C R)(hf:C.P.funcs[f]?=some fn)(hb:fn.body=some c)(H:l6 C R (C.fl f) c (XE C.P fn) (I4 fn (ds.map λd=>(d,.val)) [])=some d):B1S C.P f ds d:=by
 intro S w vs hS QX;obtain⟨hl,hv⟩:=Wh.1 QX;have J4:AJ S w.heap (Wo S).S w.heap:=⟨λb o hs=>(B7S S b o).2 hs,λ_ _ _ _ h=>h⟩;have fr:∀b o,w.heap.size<=b->(Wo S).O b o=.other:=λb o hb=>by simp only[Wo];rw[A7 (hS b o hb)]
 refine(callsIn_wide (n:=0)).1 (callsIn_of_wp_marks hf hb trivial (A7E hm hO c (.inl rfl) H (A6I (E:=Wo S) fr rfl (by simp) (by simp[hl]) λi r v hr Pf=>?_) λout E' st' a' w1 h1 h0 Pd h3' A5e=>?_))
 ·simp only[zhq,zmq]at hr;obtain⟨d',Eo,rfl⟩:=hr;exact RR.val ((hv i d' v Eo Pf).mono J4)
 ·obtain⟨ms,e0,M,-⟩:=h0;rw[ysq]at e0;have fin:∀ds',aJ C.P st' fn.results.toList=some ds'->d=pack ds'->∀w',L6 E' st' a' w'.heap->Pr P8 (Wo S) w.heap E' w'.heap->Y9 w w'->∃v,(results fn a'.tmps).run C.P w'=.ok v w'/\∃v' S',Ending.returned v=.returned v'/\Ext S w.heap S' w'.heap/\RV S' w'.heap d v'/\Y9 w w':=by
   intro ds' k1 k2 w' h2 h3 Wz;obtain⟨us,q1,q2,-⟩:=A1O h2 k1;refine⟨if h:us.toArray.size=1 then us.toArray[0]else .tuple us.toArray,?_,_,E'.fin,rfl,⟨h3.size,λb hb=>B6M h3 hb,λb o hb=>?_,λb o hb=>?_⟩,by rw[k2];exact B6Q q2,Wz⟩
   ·rw[pE];simp only[Sem.run_bind,q1,Result.andThen_ok,Sem.run_pure]
   ·have ZJ:¬P8 ((Wo S).O b o):=by
     simp only[Wo]
     split<;>simp[P8]
    have ht:=h3.tags b o hb ZJ;simp only[Env.fin,ht,Wo]
    split<;>simp_all
   ·simp only[Env.fin,h2.fresh b o hb]
    simp
  cases out with
  |exit i=>simp[XE]at h1
  |normal=>simp only[XE]at h1;obtain⟨ds',k1,k2⟩:=D6 h1;simp only[D8]at k2;show LeavesInM Fence.wide 0 C.P fn a'.tmps _ a'.defers .returning w1;rw[e0];exact VY (fin ds' k1 k2.symm) ms w1 M Pd h3' A5e
  |ret=>simp only[XE]at h1;obtain⟨ds',k1,k2⟩:=D6 h1;simp only[D8]at k2;show LeavesInM Fence.wide 0 C.P fn a'.tmps _ a'.defers .returning w1;rw[e0];exact VY (fin ds' k1 k2.symm) ms w1 M Pd h3' A5e
def B0b(E:Env)(st:St)(a:Act)(w:World)(r:ResultVar)(d:DV)(v:Value):MK->Prop
 |.val=>RV S w.heap d v
 |.own=>∃t,r=.tmp t/\Mr (st.get t).2=true/\d=(st.get t).1/\v=a.tmps.getD t undef
 |.ptr=>∃t,r=.tmp t/\A7h (st.get t)=some d/\v=a.tmps.getD t undef
 |.Yb n os=>∃p t s cs,r=.cell p t/\(st.get p).2=.loc s 0/\st.bx.getD s none=some cs/\n=cs.length/\jI os 0 cs=true/\d=.agg (cs.map (·.1))/\∃c T,w.heap[E.blk s]?=some (.cells c T (0,0))/\v=.agg c
def A33{P:Program}{sl:Bool}{us:List Nat}{E:Env}{st:St}{a:Act}{w:World}(Rl:L6 E st a w.heap):∀{ks:List MK}{rs:List ResultVar}{ds:List DV},(sl=true->∀v∈rs,∀i∈Uj st v,i∈us)->YW P sl st ks rs=some ds->
 ks.length=rs.length/\ds.length=ks.length/\∃vs:List Value,(rs.mapM (M_ a.tmps)).run P w=.ok vs w/\vs.length=rs.length /\∀(i:Nat) k r d v,ks[i]?=some k->rs[i]?=some r->ds[i]?=some d->vs[i]?=some v->B0b (E.re (Gl us)).S E st a w r d v k
 |[],[],ds,_,H=>by simp only[YW,D8]at H;subst H;exact⟨rfl,rfl,[],rfl,rfl,λi k r d v h=>by simp at h⟩
 |k::ks,r::rs,ds,hu,H=>by
   simp only[YW]at H;obtain⟨d,h1,H⟩:=D6 H;obtain⟨ds',h2,H⟩:=D6 H;simp only[D8]at H;subst H;obtain⟨l1,l2,vs,q1,q2,q3⟩:=A33 Rl (λh v hv=>hu h v (z2q _ hv)) h2;have one:∃v,(M_ a.tmps r).run P w=.ok v w/\B0b (E.re (Gl us)).S E st a w r d v k:=by
    cases k with
    |val=>
      simp only[A1N]at h1;split at h1
      ·rename_i hb;simp only[z5q]at hb;obtain⟨v,k1,k2⟩:=vU (g:=Nq us st.sg) (A8J hb.2 (hu hb.1 r (z4q ..)) h1) Rl (B06 Rl us);exact⟨v,k1,k2⟩
      ·obtain⟨v,k1,k2⟩:=vU (g:=[]) h1 Rl (B1b E w.heap);exact⟨v,k1,k2.mono (Lb (Vp (by simp)))⟩
    |own=>
      simp only[A1N]at h1;cases r with
      |tmp t=>simp only at h1;obtain⟨k1,k2⟩:=H6 h1;simp only[D8]at k2;exact⟨_,rfl,t,rfl,k1,k2.symm,rfl⟩
      |cell p t=>simp at h1
    |ptr=>
      simp only[A1N]at h1;cases r with
      |tmp t=>exact⟨_,rfl,t,rfl,h1,rfl⟩
      |cell p t=>simp at h1
    |Yb n os=>
      simp only[A1N]at h1;cases r with
      |tmp t=>simp at h1
      |cell p t=>
        simp only at h1;split at h1
        ·rename_i s hm;obtain⟨cs,g1,h1⟩:=D6 h1;obtain⟨z,g2,h1⟩:=D6 h1;obtain⟨g3,h1⟩:=H6 h1;simp only[z5q,beq_iff_eq]at g3;obtain⟨⟨⟨hz,g3⟩,g4⟩,g5⟩:=g3;simp only[D8]at h1;have hR:RR E w.heap 0 p (st.get p).1 (st.get p).2 (a.tmps.getD p undef):=Rl.src (P:=P) (t:=0) (x:=.tmp p) rfl;rw[hm]at hR;simp only[RR,M4]at hR;obtain⟨c,T,b1,b2,b3,b4⟩:=Rl.j4 s cs g1;obtain⟨v,hv,YN,hv2⟩:=HV (w:=w) g2 (b:=E.blk s) (off:=0) (vs:=c.toList) (by simp[b2,g3]) λj u hu=>by simp only[hc,b1,znq];simpa using hu
         have V4:(M_ a.tmps (.cell p t)).run P w=.ok v w:=by simp only[M_,hR.2,asAddr,Sem.run_bind,Sem.run_pure,Result.andThen_ok];exact hv
         exact⟨v,V4,p,t,s,cs,rfl,hm,g1,by omega,g5,h1.symm,c,T,b1,by rw[YN hz]⟩
        ·cases h1
   obtain⟨v,k1,k2⟩:=one;refine⟨by simp[l1],by simp[l2],v::vs,by simp only[yuq,Sem.run_bind,k1,q1,Result.andThen_ok,Sem.run_pure],by simp[q2],λi k' r' d' v' e1 e2 e3 e4=>?_⟩;cases i with
   |zero=>simp only[zlq,D8]at e1 e2 e3 e4;subst e1 e2 e3 e4;exact k2
   |succ i=>simp only[zcq]at e1 e2 e3 e4;exact q3 i k' r' d' v' e1 e2 e3 e4
 |[],_::_,ds,_,H=>by simp[YW]at H
 |_::_,[],ds,_,H=>by simp[YW]at H
def A1J:∀{ks:List MK}{i j:Nat}{k k':MK},(ks.filter EC).length<=1->ks[i]?=some k->EC k=true->ks[j]?=some k'->EC k'=true->i=j
 |[],i,j,_,_,_,h,_,_,_=>by simp at h
 |k0::ks,i,j,k,k',hl,hi,hk,hj,FU=>by
   have nomem:EC k0=true->∀(m:Nat) q,ks[m]?=some q->EC q=true->False:=by intro h0 m q hm hq;have h1:q∈ks.filter EC:=zJq.2 ⟨List.mem_of_getElem? hm,hq⟩;have h2:0<(ks.filter EC).length:=zXq h1;simp only[yoq,h0,F6,zbq]at hl;omega
   cases i with
   |zero=>
     simp only[zlq,D8]at hi;subst hi;cases j with
     |zero=>rfl
     |succ j=>simp only[zcq]at hj;exact(nomem hk j _ hj FU).elim
   |succ i=>
     simp only[zcq]at hi;cases j with
     |zero=>simp only[zlq,D8]at hj;subst hj;exact(nomem FU i _ hi hk).elim
     |succ j=>
       simp only[zcq]at hj;have ZI:(ks.filter EC).length<=1:=by
        simp only[yoq]at hl;split at hl
        ·simp only[zbq]at hl;omega
        ·exact hl
       rw[A1J ZI hi hk hj FU]
def A1I(st:St)(k:MK)(r:ResultVar):Option (Nat×Nat) :=
 match k,r with
 |.own,.tmp t=>some (0,t)
 |.Yb _ _,.cell p _=>match (st.get p).2 with
   |.loc s _=>some (1,s)
   |_=>none
 |_,_=>none
def cu(q:Option (Nat×Nat))(i:Nat)(T:Tag):Tag :=
 match T with
 |.sp 0 t b=>if q=some (0,t)then .sp 3 i b else .sp 0 t b
 |.sp 1 s j=>if q=some (1,s)then .sp 3 i (j+1)else .sp 1 s j
 |T=>T
def A0S:∀{os:List Nat}{i0 j:Nat}{cs:List (DV×F4)}{c:DV×F4},jI os i0 cs=true->cs[j]?=some c->(if os.contains (i0+j)then Mr c.2 else K6 c.2)=true
 |os,i0,j,[],c,_,h=>by simp at h
 |os,i0,0,c0::cs,c,H,h=>by simp only[zlq,D8]at h;subst h;simp only[jI,z5q]at H;exact H.1
 |os,i0,j+1,c0::cs,c,H,h=>by
   simp only[jI,z5q]at H;have:=A0S H.2 (by simpa using h)
   rwa [Nat.add_assoc,Nat.add_comm 1 j]at this
def B4d{m:F4}(h:K6 m=true)(hl:Z0 m=true):YO m=true:=by cases m<;>simp_all[K6,Z0,YO]
def A7t{h:Heap}{tg:Tag}{d:DV}{m:F4}{v:Value}(hr:Mr m=true)(R:M4 E h tg d m v):M4 E h tg d .own v:=by cases m<;>first | exact R | exact R.nu | (simp[Mr]at hr)
def A5r(E:Env)(w:World)(s:j3)(q:List DV×List E5)(e:Ending)(w':World):Prop :=Y9 w w'/\∃v E',e=.returned v/\Pr P8 E w.heap E' w'.heap/\(∀b o,w'.heap.size<=b->E'.O b o=.other)/\q.2.length=E'.n/\(∀(i:Nat) ob,q.2[i]?=some ob->RO E' w'.heap i ob)/\A99 E' w'.heap s.results q.1 v
variable {s:j3}{q:List DV×List E5}
def A9H{E':Env}{st':St}{a':Act}(h4:(s.results.filter EC).length<=1){ds':List DV}(k1:YW C.P s.lock st' s.results fn.results.toList=some ds')(k2:q=(ds',match s.lock with
   |true=>kill st'.sg (fn.results.toList.flatMap (Uj st'))
   |false=>st'.sg))(w':World)(h2:L6 E' st' a' w'.heap)(h3:Pr P8 E w.heap E' w'.heap)(Wz:Y9 w w'):∃v,(results fn a'.tmps).run C.P w'=.ok v w'/\A5r E w s q (.returned v) w':=by
 obtain⟨ks,EP⟩:∃ks,(match s.lock with
  |true=>fn.results.toList.flatMap (Uj st')
  |false=>[])=ks:=⟨_,rfl⟩
 have B78:s.lock=true->∀v∈fn.results.toList,∀i∈Uj st' v,i∈ks:=λhl v hv i hi=>by rw[<- EP,hl];exact zwq.2 ⟨v,hv,hi⟩
 have B79:(match s.lock with
  |true=>kill st'.sg (fn.results.toList.flatMap (Uj st'))
  |false=>st'.sg)=kill st'.sg ks:=by
  rw[<- EP];cases s.lock<;>rfl
 rw[B79]at k2;clear B79 EP;subst k2;obtain⟨l1,l2,us,q1,q2,q3⟩:=A33 (us:=ks) h2 B78 k1;have h2:L6 (E'.re (Gl ks)) { st' with sg:=kill st'.sg ks } a' w'.heap:=h2.Q8 ks;have h3:Pr P8 E w.heap (E'.re (Gl ks)) w'.heap:=h3.trans (Pr.re λT hT=>Vp λi _ he=>hT (by rw[he];simp[P8]));have q3:∀(i:Nat) k r d v,s.results[i]?=some k->fn.results.toList[i]?=some r->ds'[i]?=some d->us[i]?=some v->B0b (E'.re (Gl ks)).S (E'.re (Gl ks)) { st' with sg:=kill st'.sg ks } a' w' r d v k:=by intro i k r d v e1 e2 e3 e4;have:=q3 i k r d v e1 e2 e3 e4;cases k<;>exact this
 clear B78;generalize hE:E'.re (Gl ks)=E' at h2 h3 q3;generalize R8:({ st' with sg:=kill st'.sg ks }:St)=st2 at h2 q3;have hgs:st2.sg=kill st'.sg ks:=by rw[<- R8]
 rw[<- hgs];clear hgs R8 hE k1;have pick:∃(i0:Nat)(g:Option (Nat×Nat)),∀(j:Nat) k r,s.results[j]?=some k->EC k=true->fn.results.toList[j]?=some r->j=i0/\A1I st2 k r=g:=by
  by_cases hx:∃(i:Nat)(k:MK),s.results[i]?=some k/\EC k=true
  ·obtain⟨i,k,hi,hk⟩:=hx;have P6:i<s.results.length:=(z0q.1 hi).1;have e2:fn.results.toList[i]?=some (fn.results.toList[i]'(by omega)):=z3q (by omega);refine⟨i,A1I st2 k (fn.results.toList[i]'(by omega)),λj k' r hj FU hr=>?_⟩;have:=A1J h4 hi hk hj FU;subst this;rw[hi]at hj;rw[e2]at hr;simp only[D8]at hj hr;exact⟨rfl,by rw[hj,hr]⟩
  ·exact⟨0,none,λj k r hj hk=>absurd ⟨j,k,hj,hk⟩ hx⟩
 obtain⟨i0,g,B5H⟩:=pick;have J4:AJ E'.S w'.heap (E'.re (cu g i0)).S w'.heap:=Lb rfl;refine⟨if h:us.toArray.size=1 then us.toArray[0]else .tuple us.toArray,?_,Wz,_,E'.re (cu g i0),rfl,h3.trans (Pr.re λT hT=>?_),λb o hb=>?_,?_,λi ob hi=>?_,l2,us,by omega,?_,?_⟩
 ·rw[pE];simp only[Sem.run_bind,q1,Result.andThen_ok,Sem.run_pure]
 ·unfold cu;split
  ·simp[P8]at hT
  ·simp[P8]at hT
  ·rfl
 ·simp only[Env.re];rw[h2.fresh b o hb];rfl
 ·exact h2.n
 ·exact RO.to (E:=E') ⟨λb o h=>by simp only[Env.re];rw[h];rfl,λb o h=>by simp only[Env.re];rw[h];rfl,rfl,rfl,rfl,rfl,rfl⟩ (λj b o h=>by simp only[Env.re];rw[h];rfl) (h2.U5 i ob hi)
 ·match us with
  |[]=>rfl
  |[u]=>rfl
  |u::u'::us=>rfl
 ·intro i k d v e1 e2 e3;have P6:i<s.results.length:=(z0q.1 e1).1;have e4:fn.results.toList[i]?=some (fn.results.toList[i]'(by omega)):=z3q (by omega);have a1:=q3 i k _ d v e1 e4 e2 e3;cases k with
  |val=>exact(show RV _ _ _ _ from a1).mono J4
  |own=>
    obtain⟨t,ht,Nk,rfl,rfl⟩:=a1;obtain⟨rfl,hp⟩:=B5H i _ _ e1 rfl e4;rw[ht]at hp;simp only[A1I]at hp;have hR:RR E' w'.heap 0 t (st2.get t).1 (st2.get t).2 (a'.tmps.getD t undef):=h2.src (P:=C.P) (t:=0) (x:=.tmp t) rfl;have hR2:RR (E'.re (cu g i)) w'.heap 3 i (st2.get t).1 (st2.get t).2 (a'.tmps.getD t undef) :=hR.re rfl rfl λb=>by simp[cu,<- hp]
    show M4 _ _ (.sp 3 i 0) _ .own _;exact A7t Nk (hR2.wD (λms h=>by rw[h]at Nk;simp[Mr]at Nk) λms h=>by rw[h]at Nk;simp[Mr]at Nk)
  |ptr=>
    obtain⟨t,ht,hd,rfl⟩:=a1;have hR:RR E' w'.heap 0 t (st2.get t).1 (st2.get t).2 (a'.tmps.getD t undef):=h2.src (P:=C.P) (t:=0) (x:=.tmp t) rfl;show M4 _ _ .other (Mx .ptr d).1 (Mx .ptr d).2 _;unfold A7h at hd;split at hd
    ·rename_i n hm;simp only[D8]at hd;subst hd;rw[hm]at hR;exact hR
    ·rename_i hm;simp only[D8]at hd;subst hd;rw[hm]at hR;exact⟨rfl,hR.2⟩
    ·cases hd
  |Yb n os=>
    obtain⟨p,t,s',cs,ht,hm,hb,hn,Ak,rfl,c,T,hc1,rfl⟩:=a1;obtain⟨rfl,hp⟩:=B5H i _ _ e1 rfl e4;rw[ht]at hp;simp only[A1I,hm]at hp;obtain⟨c',T',b1,b2,b3,b4⟩:=h2.j4 s' cs hb;rw[hc1]at b1;simp only[D8,Obj.cells.injEq]at b1;obtain⟨rfl,rfl,-⟩:=b1;simp only[B0a,RR];refine⟨_,c,rfl,rfl,by simp[hn],by simp[hn,b2],λj m' d' u e1 e2 e3=>?_⟩;simp only[zhq,zmq]at e1 e2;obtain⟨j',O9,rfl⟩:=e1;obtain⟨r,hr,rfl⟩:=e2;have hjj:j'=j:=by have:=(z0q.1 O9);obtain⟨_,hh⟩:=this;simpa using hh.symm
    subst hjj;obtain⟨x1,x2,x3,x4⟩:=b4 j' r u hr e3;have x5:M4 (E'.re (cu g i)) w'.heap (.sp 3 i (j'+1)) r.1 r.2 u:=x4.re rfl (by simp[cu,<- hp]);have x6:=A0S Ak hr;rw[znq]at x6;by_cases hos:os.contains j'=true
    ·rw[A9 hos]at x6 ⊢;exact⟨x1,x2,rfl,A7t x6 x5⟩
    ·rw[A7 hos]at x6 ⊢;refine⟨x1,x2,rfl,?_⟩;exact jF (B4d x6 x3) x5
def B42{out:Out}{E':Env}{st':St}{a':Act}(h1:dB C.P fn s out st'=some q):(∃i,out=.exit i->False)/\(out=.normal\/out=.ret)/\∀(w':World),L6 E' st' a' w'.heap->Pr P8 E w.heap E' w'.heap->Y9 w w'->∃v,(results fn a'.tmps).run C.P w'=.ok v w'/\A5r E w s q (.returned v) w':=by
 cases out with
 |exit i=>simp[dB]at h1
 |normal=>simp only[dB]at h1;obtain⟨k0,h1⟩:=H6 h1;obtain⟨ds',k1,k2⟩:=D6 h1;simp only[D8]at k2;exact⟨⟨0,by simp⟩,.inl rfl,λw' h2 h3 h4=>A9H (by simpa using k0) k1 k2.symm w' h2 h3 h4⟩
 |ret=>simp only[dB]at h1;obtain⟨k0,h1⟩:=H6 h1;obtain⟨ds',k1,k2⟩:=D6 h1;simp only[D8]at k2;exact⟨⟨0,by simp⟩,.inr rfl,λw' h2 h3 h4=>A9H (by simpa using k0) k1 k2.symm w' h2 h3 h4⟩
def B8R(hm:C.P.follows .mixedOrders=true)(hO:Iz C R)(hf:C.P.funcs[f]?=some fn)(hb:fn.body=some c)(H:l6 C R (C.fl f) c (dB C.P fn s) (I4 fn rs sg)=some q):B5y C.P f s rs sg q:=by
 intro E w vs hfr hn ho hl hr;refine(callsIn_wide (n:=0)).1 (callsIn_of_wp_marks hf hb trivial (A7E hm hO c (.inl rfl) H (A6I hfr hn ho hl hr) λout E' st' a' w1 h1 h0 Pd h3' A5e=>?_));obtain⟨ms,e0,M,-⟩:=h0;rw[ysq]at e0;obtain⟨-,ho,fin⟩:=B42 (E:=E) (E':=E') (a':=a') (w:=w) h1;have:LeavesInM Fence.wide 0 C.P fn a'.tmps (A5r E w s q) a'.defers .returning w1:=by rw[e0];exact VY fin ms w1 M Pd h3' A5e
 rcases ho with rfl | rfl<;>exact this
end
structure A0z(C:BQ):Prop where
 mixed:C.P.follows .mixedOrders=true
 go:∀(f:Nat) fn,C.P.funcs[f]?=some fn->fn.name ≠ "runtime.NumGoroutine"
 vO:∀f p,C.vO f=some p->∀fn c,C.P.funcs[f]?=some fn->fn.body=some c->True
 clone:∀f,C.clone f=true->isGo C.P f=true/\wI C.P f (C.jO f)
 fO:∀f g,C.fO f=some g->isGo C.P f=true/\A98 C.P f g (C.jO f)
 iter:∀g it,C.iter g=some it->isGo C.P g=true/\A0A C.P g it
variable {C:BQ}
def A9u(hC:A0z C){f:Nat}{fn:Func}{c:Code}(hf:C.P.funcs[f]?=some fn)(hb:fn.body=some c):isGo C.P f=true:=by unfold isGo;rw[hf];simp[hC.go f fn hf,hb]
def step_ok{R:O8}(hC:A0z C)(hO:Iz C R):Iz C (EI C R):=by
 refine⟨λf ds d H=>?_,λf rs sg q H=>?_,hC.clone,hC.fO,hC.iter⟩
 ·simp only[EI]at H;obtain⟨fn,hf,H⟩:=D6 H;obtain⟨c,hb,H⟩:=D6 H;exact⟨A9u hC hf hb,pure_ok hC.mixed hO hf hb H⟩
 ·simp only[EI]at H;obtain⟨s,hs,H⟩:=D6 H;obtain⟨fn,hf,H⟩:=D6 H;obtain⟨c,hb,H⟩:=D6 H;exact⟨s,hs,A9u hC hf hb,B8R hC.mixed hO hf hb H⟩
def A2U{C:BQ}(hC:A0z C):∀n,Iz C (Nr C n)
 |0=>⟨λf ds d H=>by simp[Nr]at H,λf rs sg q H=>by simp[Nr]at H,hC.clone,hC.fO,hC.iter⟩
 |n+1=>step_ok hC (A2U hC n)
def B8V(hC:A0z C):Iz C (run C):=by
 have hr:∀f rs sg q,(run C).r f rs sg=some q->∃n,(Nr C n).r f rs sg=some q:=λf rs sg q H=>by
  simp only[run]at H;split at H
  ·rename_i h;simp only[D8]at H;obtain⟨n,hn⟩:=h.choose_spec;rw[H]at hn;exact⟨n,hn⟩
  ·cases H
 refine⟨λf ds d H=>?_,λf rs sg q H=>?_,hC.clone,hC.fO,hC.iter⟩
 ·simp only[run]at H;split at H
  ·rename_i h;simp only[D8]at H;obtain⟨n,hn⟩:=h.choose_spec;rw[H]at hn;exact(A2U hC n).p f ds d hn
  ·cases H
 ·obtain⟨n,hn⟩:=hr f rs sg q H;exact(A2U hC n).r f rs sg q hn
end
structure OH(R R':O8):Prop where
 p:∀f ds d,R.p f ds=some d->R'.p f ds=some d
 r:∀f rs sg q,R.r f rs sg=some q->R'.r f rs sg=some q
def OH.refl(R:O8):OH R R:=⟨λ_ _ _ h=>h,λ_ _ _ _ h=>h⟩
def OH.trans{R S T:O8}(a:OH R S)(b:OH S T):OH R T:=⟨λf ds d h=>b.p f ds d (a.p f ds d h),λf rs sg q h=>b.r f rs sg q (a.r f rs sg q h)⟩
section
variable {C:BQ}{R:O8}{fl:H8}{o:Oper}{st s:St}
def A3t(H:J3 C R fl o st some=some s):(∀R':O8,J3 C R' fl o st some=some s) \/
 (∃f ds d,R.p f ds=some d/\∀R':O8,R'.p f ds=some d->J3 C R' fl o st some=some s) \/
 (∃f rs sg q,R.r f rs sg=some q/\∀R':O8,R'.r f rs sg=some q->J3 C R' fl o st some=some s):=by
 have H0:=H;unfold J3 at H;split at H
 case h_23 c F7=>
  unfold Hm at H;split at H
  ·rename_i b hb;refine .inl λR'=>?_;rw[<- H0];simp only[J3,F7,Hm,hb]
  ·rename_i y hy;obtain⟨r,h1,H⟩:=D6 H;obtain⟨rs,h2,H⟩:=D6 H;split at H
   ·rename_i g caps hm;have IV:∀R':O8,J3 C R' fl o st some=LB C R' o g c.args.toList (rs++caps.map λm=>(.undef,.ptr m.1 m.2)) st some:=by intro R';simp only[J3,F7,Hm,hy,h1,h2,M7,hm]
    generalize rs++caps.map (λm=>((.undef,.ptr m.1 m.2):DV×F4))=rs' at H IV;by_cases Tx:C.clone g=true
    ·refine .inl λR'=>?_;rw[<- H0,IV,IV];simp only[LB,A9 Tx]
    ·unfold LB at H;rw[A7 Tx]at H;cases fF:C.fO g with
     |some g'=>refine .inl λR'=>?_;rw[<- H0,IV,IV];simp only[LB,A7 Tx,fF]
     |none=>
     rw[fF]at H;simp only at H;split at H
     ·rename_i hs;obtain⟨h3,H⟩:=H6 H;obtain⟨d,h4,H⟩:=D6 H;refine .inr (.inl ⟨g,_,d,h4,λR' h=>?_⟩);rw[IV];simp only[LB,A7 Tx,fF,hs,h3,X7,h,M7];exact H
     ·rename_i sg hs;obtain⟨h3,H⟩:=H6 H;obtain⟨q,h4,H⟩:=D6 H;refine .inr (.inr ⟨g,_,_,q,h4,λR' h=>?_⟩);rw[IV];simp only[LB,A7 Tx,fF,hs,h3,X7,h,M7];exact H
   ·simp at H
  ·simp at H
 all_goals first
  | (simp at H;done)
  | (rename_i F7
     refine .inl λR'=>?_;rw[<- H0];simp only[J3,F7])
def A3u{R':O8}(hR:OH R R')(H:J3 C R fl o st some=some s):J3 C R' fl o st some=some s:=by
 rcases A3t H with h | ⟨f,ds,d,h1,h2⟩ | ⟨f,rs,sg,q,h1,h2⟩
 ·exact h R'
 ·exact h2 R' (hR.p _ _ _ h1)
 ·exact h2 R' (hR.r _ _ _ _ h1)
structure xS(Rs:Nat->O8)(R:O8):Prop where
 up:∀n,OH (Rs n) (Rs (n+1))
 p:∀f ds d,R.p f ds=some d->∃n,(Rs n).p f ds=some d
 r:∀f rs sg q,R.r f rs sg=some q->∃n,(Rs n).r f rs sg=some q
def xS.le{Rs:Nat->O8}(L:xS Rs R){n m:Nat}(h:n<=m):OH (Rs n) (Rs m):=by
 induction m with
 |zero=>rw[zTq.1 h];exact OH.refl _
 |succ m ih=>
   rcases zrq m n with h1 | h1
   ·rw[show n=m+1 by omega];exact OH.refl _
   ·exact(ih h1).trans (L.up m)
def A54{Rs:Nat->O8}(L:xS Rs R)(H:J3 C R fl o st some=some s):∃n,J3 C (Rs n) fl o st some=some s:=by
 rcases A3t H with h | ⟨f,ds,d,h1,h2⟩ | ⟨f,rs,sg,q,h1,h2⟩
 ·exact⟨0,h _⟩
 ·obtain⟨n,hn⟩:=L.p _ _ _ h1;exact⟨n,h2 _ hn⟩
 ·obtain⟨n,hn⟩:=L.r _ _ _ _ h1;exact⟨n,h2 _ hn⟩
variable {ops:List Oper}
def AO.mono{R':O8}{s1:St}(hR:OH R R')(H:AO C R fl ops o s s1):AO C R' fl ops o s s1:=by
 unfold AO at H ⊢;split at H
 ·exact A3u hR H
 ·obtain⟨t,h1,h2,h3⟩:=H;exact⟨t,h1,h2,h3.imp (λh=>⟨h.1,A3u hR h.2⟩) id⟩
def AO.R6{Rs:Nat->O8}{s1:St}(L:xS Rs R)(H:AO C R fl ops o s s1):∃n,AO C (Rs n) fl ops o s s1:=by
 unfold AO at H ⊢;split at H
 ·exact A54 L H
 ·obtain⟨t,h1,h2,h3⟩:=H;rcases h3 with⟨h3,h4⟩ | h3
  ·obtain⟨n,hn⟩:=A54 L h4;exact⟨n,t,h1,h2,.inl ⟨h3,hn⟩⟩
  ·exact⟨0,t,h1,h2,.inr h3⟩
end
section
variable {X:Type}{C:BQ}{R:O8}{fl:H8}{o:Oper}{st s:St}{ops:List Oper}{s1:St}
def wU(H:J3 C R fl o st some=some s1)(k:St->Option X):J3 C R fl o st k=k s1:=by obtain⟨s,h1,h2⟩:=nJ H;simp only[D8]at h1;subst h1;exact h2 X k
variable {os:List Oper}
def B4i(H:AO C R fl ops o st s1)(k:St->Option X):FO C R fl ops (o::os) st k=FO C R fl ops os s1 k:=by
 simp only[FO,Zg];unfold AO at H;split at H
 ·rename_i hg;simp only[hg];exact wU H _
 ·rename_i g want hg;obtain⟨t,h1,h2,h3⟩:=H;simp only[hg,h1,M7,h2,X7];rcases h3 with⟨h3,h4⟩ | ⟨h3,h4⟩
  ·rw[h3];cases want<;>simp only[M9,F6,zoq,G9]<;>rw[JY h3 (by simp)]<;>exact wU h4 _
  ·subst h4;cases want<;>simp only[yzq,yvq]at h3<;>rcases h3 with h3 | h3<;>simp only[h3,M9,F6,zoq,G9]<;>rw[JY h3 (by simp)]
theorem B2o{bf:List (List Nat)}{i:Nat}{acc:List (Nat×Fp)}(H:AO C R fl ops o st s1)(k:St->Option X):
 DT C R fl ops bf (o::os) i acc st k=og (Ki bf i acc ((Bh C fl ops o st).AB st s1)) (lH (S_ bf i acc ((Bh C fl ops o st).AB st s1)) (DT C R fl ops bf os (i+1) ((i,(Bh C fl ops o st).AB st s1)::acc) s1 k)):=by
 have H0:=H;simp only[DT,Zg,A1n];unfold AO at H;split at H
 ·rename_i hg;simp only[hg];rw[wU H,A6r hg];rfl
 ·rename_i g want hg;obtain⟨t,h1,h2,h3⟩:=H;rw[A6s hg h1];simp only[hg,h1,M7,h2,X7];rcases h3 with⟨h3,h4⟩ | ⟨h3,h4⟩
  ·rw[A9 (Z_.2 h3)];rw[h3];cases want<;>simp only[M9,F6,zoq,G9,jU]<;>rw[JY h3 (by simp),wU h4]<;>rfl
  ·have hB:¬(fI want (st.get t).1=true):=by rw[Z_];rcases h3 with h | h<;>rw[h]<;>cases want<;>simp
   rw[A7 hB];subst h4;cases want<;>simp only[yzq,yvq]at h3<;>rcases h3 with h3 | h3<;>simp only[h3,M9,F6,zoq,G9,Wn]<;>rw[JY h3 (by simp)]<;>rfl
end
section
variable {X:Type}{C:BQ}{fl:H8}
def IA(p:Nat->Prop):Prop:=∃n,∀m,n<=m->p m
def IA.mono{p q:Nat->Prop}(h:IA p)(f:∀m,p m->q m):IA q:=h.imp λ_ h m hm=>f m (h m hm)
def IA.and{p q:Nat->Prop}(h:IA p)(h':IA q):IA λm=>p m/\q m:=by obtain⟨n,hn⟩:=h;obtain⟨k,hk⟩:=h';exact⟨n+k,λm hm=>⟨hn m (by omega),hk m (by omega)⟩⟩
def IA.all{p:Nat->Prop}(h:∀m,p m):IA p:=⟨0,λm _=>h m⟩
def A3v{R:O8}{Rs:Nat->O8}(L:xS Rs R){ops:List Oper}{k:St->Option X}{ks:Nat->St->Option X}(hk:∀st x,k st=some x->IA λm=>ks m st=some x):
 ∀{os:List Oper}{st:St}{x:X},FO C R fl ops os st k=some x->IA λm=>FO C (Rs m) fl ops os st (ks m)=some x
 |[],st,x,H=>by simp only[FO]at H ⊢;exact hk st x H
 |o::os,st,x,H=>by obtain⟨s1,h1,h2⟩:=A1d H;obtain⟨n,hn⟩:=h1.R6 L;refine(IA.and ⟨n,λm hm=>hn.mono (L.le hm)⟩ (A3v L hk h2)).mono λm h=>?_;rw[B4i h.1];exact h.2
def A1a{R:O8}{Rs:Nat->O8}(L:xS Rs R){ops:List Oper}{bf:List (List Nat)}{k:St->Option X}{ks:Nat->St->Option X}(hk:∀st x,k st=some x->IA λm=>ks m st=some x):
 ∀{os:List Oper}{i:Nat}{acc:List (Nat×Fp)}{st:St}{x:X},DT C R fl ops bf os i acc st k=some x->IA λm=>DT C (Rs m) fl ops bf os i acc st (ks m)=some x
 |[],i,acc,st,x,H=>by simp only[DT]at H ⊢;exact hk st x H
 |o::os,i,acc,st,x,H=>by obtain⟨s1,h1,h2,Pd,h3⟩:=yK H;obtain⟨n,hn⟩:=h1.R6 L;refine(IA.and ⟨n,λm hm=>hn.mono (L.le hm)⟩ (A1a L hk h3)).mono λm h=>?_;rw[B2o h.1,h2,X7,B2W _ Pd];exact h.2
variable {id:Nat}
def n_{X:Type}{fl:H8}{st:St}{k:St->Option X}{x:X}(H:VJ fl id st k=some x):∃s,k s=some x/\∀(Y:Type)(k':St->Option Y),VJ fl id st k'=k' s:=by
 unfold VJ at H;split at H
 ·rename_i e he;unfold A1q at H;split at H
  ·rename_i b hm;obtain⟨g,h1,H⟩:=D6 H;exact⟨_,H,λY k'=>by simp only[VJ,he,A1q,hm,h1,M7]⟩
  ·cases H
 ·rename_i he;exact⟨st,H,λY k'=>by simp only[VJ,he]⟩
def A8h{X:Type}{fl:H8}{st:St}{k:St->Option X}{x:X}(H:IK fl id st k=some x):∃s,k s=some x/\∀(Y:Type)(k':St->Option Y),IK fl id st k'=k' s:=by
 unfold IK at H;split at H
 ·rename_i e he;unfold Zy at H;split at H
  ·rename_i i sz len hm;obtain⟨q,h1,H⟩:=D6 H;obtain⟨d,h2,H⟩:=D6 H;obtain⟨s,H,hs⟩:=n_ H;exact⟨s,H,λY k'=>by simp only[IK,he,Zy,hm,h1,h2,M7,hs]⟩
  ·rename_i b off hm;obtain⟨cs,h1,H⟩:=D6 H;obtain⟨a,h2,H⟩:=D6 H;obtain⟨q,h3,H⟩:=D6 H;obtain⟨d,h4,H⟩:=D6 H;obtain⟨s,H,hs⟩:=n_ H;exact⟨s,H,λY k'=>by simp only[IK,he,Zy,hm,h1,h2,h3,h4,M7,hs]⟩
  ·cases H
 ·rename_i he;obtain⟨s,H,hs⟩:=n_ H;exact⟨s,H,λY k'=>by simp only[IK,he,hs]⟩
def yH{X:Type}{fl:H8}{k:St->Option X}{ks:Nat->St->Option X}(hk:∀st x,k st=some x->IA λm=>ks m st=some x)(st:St)(x:X)(H:IK fl id st k=some x):IA λm=>IK fl id st (ks m)=some x:=by obtain⟨s,h1,h2⟩:=A8h H;exact(hk s x h1).mono λm h=>by rw[h2];exact h
def A2t:∀(c:Code){R:O8}{Rs:Nat->O8}{K:Out->St->Option X}{Ks:Nat->Out->St->Option X}{st:St}{x:X},xS Rs R->
 (∀o st x,K o st=some x->IA λm=>Ks m o st=some x)->l6 C R fl c K st=some x->IA λm=>l6 C (Rs m) fl c (Ks m) st=some x:=by
 intro c;induction c with
 |skip=>intro R Rs K Ks st x L hK H;simp only[l6]at H ⊢;exact hK _ _ _ H
 |scope c ih=>intro R Rs K Ks st x L hK H;simp only[l6]at H ⊢;exact ih L hK H
 |label l=>intro R Rs K Ks st x L hK H;simp only[l6]at H ⊢;exact hK _ _ _ H
 |region id ops d=>
   intro R Rs K Ks st x L hK H;cases d
   ·simp only[l6]at H ⊢;exact A3v L (yH (hK .normal)) H
   ·simp only[l6,iX]at H ⊢;obtain⟨h1,H⟩:=H6 H;simp only[h1,X7];exact A1a L (yH (hK .normal)) H
 |seq c d ihc ihd=>
   intro R Rs K Ks st x L hK H;simp only[l6]at H ⊢;refine ihc L ?_ H;intro o s y h;cases o with
   |normal=>exact ihd L hK h
   |exit i=>exact hK _ _ _ h
   |ret=>exact hK _ _ _ h
 |cond y c d ihc ihd=>
   intro R Rs K Ks st x L hK H;simp only[l6,A09]at H ⊢;obtain⟨r,h1,H⟩:=D6 H;obtain⟨h2,H⟩:=H6 H;simp only[h1,M7,h2,X7];cases y with
   |tmp t=>
     simp only at H ⊢;rcases oU H with⟨h3,h4⟩ | ⟨h3,h4⟩<;>rw[h3]
     ·exact ihc L hK h4
     ·exact ihd L hK h4
   |_=>
     rcases oU H with⟨h3,h4⟩ | ⟨h3,h4⟩<;>rw[h3]
     ·exact ihc L hK h4
     ·exact ihd L hK h4
 |block id c ih=>
   intro R Rs K Ks st x L hK H;simp only[l6]at H ⊢;refine ih L ?_ H;intro o s y h;cases o with
   |normal=>exact hK _ _ _ h
   |exit i=>
     simp only at h ⊢;by_cases hi:i=id
     ·simp only[A9 hi]at h ⊢;exact hK _ _ _ h
     ·simp only[A7 hi]at h ⊢;exact hK _ _ _ h
   |ret=>exact hK _ _ _ h
 |loop c ih=>
   intro R Rs K Ks st x L hK H;simp only[l6]at H ⊢;obtain⟨n,H9⟩:=Zj H;clear H;have up:∀m,IA (λm'=>iter (λJ st=>l6 C (Rs m) fl c (λo st=>match o with
    |.normal=>J (clean fl c st)
    |.exit i=>Ks m (.exit i) st
    |.ret=>Ks m .ret st) st) m' (clean fl c st)=some x)->JJ (λJ st=>l6 C (Rs m) fl c (λo st=>match o with
    |.normal=>J (clean fl c st)
    |.exit i=>Ks m (.exit i) st
    |.ret=>Ks m .ret st) st) (clean fl c st)=some x:=by
    intro m h;generalize clean fl c st=st9 at h ⊢;have mono:∀k s y,iter (λJ st=>l6 C (Rs m) fl c (λo st=>match o with
     |.normal=>J (clean fl c st)
     |.exit i=>Ks m (.exit i) st
     |.ret=>Ks m .ret st) st) k s=some y->iter (λJ st=>l6 C (Rs m) fl c (λo st=>match o with
     |.normal=>J (clean fl c st)
     |.exit i=>Ks m (.exit i) st
     |.ret=>Ks m .ret st) st) (k+1) s=some y:=by
     intro k;induction k with
     |zero=>intro s y h;simp[iter]at h
     |succ k ihk=>
       intro s y h;rw[iter]at h ⊢;have:=ih (R:=Rs m) (Rs:=λ_=>Rs m) (Ks:=λ_ o st=>match o with
        |.normal=>iter (λJ st=>l6 C (Rs m) fl c (λo st=>match o with
     |.normal=>J (clean fl c st)
     |.exit i=>Ks m (.exit i) st
     |.ret=>Ks m .ret st) st) (k+1) (clean fl c st)
        |.exit i=>Ks m (.exit i) st
        |.ret=>Ks m .ret st) ⟨λ_=>OH.refl _,λ_ _ _ h=>⟨0,h⟩,λ_ _ _ _ h=>⟨0,h⟩⟩ ?_ h
       ·obtain⟨n,hn⟩:=this;exact hn n (z8q _)
       ·intro o s y h;refine IA.all λ_=>?_;cases o with
        |normal=>exact ihk _ _ h
        |exit i=>exact h
        |ret=>exact h
    obtain⟨k,hk⟩:=h;unfold JJ;have he:∃x n,iter (λJ st=>l6 C (Rs m) fl c (λo st=>match o with
     |.normal=>J (clean fl c st)
     |.exit i=>Ks m (.exit i) st
     |.ret=>Ks m .ret st) st) n st9=some x:=⟨x,k,hk k (z8q _)⟩
    rw[dif_pos he];obtain⟨j,hj⟩:=he.choose_spec;have le:∀a b s y,a<=b->iter (λJ st=>l6 C (Rs m) fl c (λo st=>match o with
     |.normal=>J (clean fl c st)
     |.exit i=>Ks m (.exit i) st
     |.ret=>Ks m .ret st) st) a s=some y->iter (λJ st=>l6 C (Rs m) fl c (λo st=>match o with
     |.normal=>J (clean fl c st)
     |.exit i=>Ks m (.exit i) st
     |.ret=>Ks m .ret st) st) b s=some y:=by
     intro a b s y uf h;induction b with
     |zero=>rw[zTq.1 uf]at h;exact h
     |succ b ihb=>
       rcases zrq b a with h1 | h1
       ·rw[show b+1=a by omega];exact h
       ·exact mono _ _ _ (ihb h1)
    have h1:=le j (j+k) _ _ (by omega) hj;have h2:=le k (j+k) _ _ (by omega) (hk k (z8q _));rw[h1]at h2;exact h2
   have main:IA λm=>IA λm'=>iter (λJ st=>l6 C (Rs m) fl c (λo st=>match o with
    |.normal=>J (clean fl c st)
    |.exit i=>Ks m (.exit i) st
    |.ret=>Ks m .ret st) st) m' (clean fl c st)=some x:=by
    have R6:∀k s y,iter (λJ st=>l6 C R fl c (λo st=>match o with
     |.normal=>J (clean fl c st)
     |.exit i=>K (.exit i) st
     |.ret=>K .ret st) st) k s=some y->IA λm=>iter (λJ st=>l6 C (Rs m) fl c (λo st=>match o with
     |.normal=>J (clean fl c st)
     |.exit i=>Ks m (.exit i) st
     |.ret=>Ks m .ret st) st) k s=some y:=by
     intro k;induction k with
     |zero=>intro s y h;simp[iter]at h
     |succ k ihk=>
       intro s y h;simp only[iter]at h ⊢;refine ih L ?_ h;intro o s y h;cases o with
       |normal=>exact ihk _ _ h
       |exit i=>exact hK _ _ _ h
       |ret=>exact hK _ _ _ h
    obtain⟨k,hk⟩:=R6 n _ _ H9;refine⟨k,λm hm=>⟨n,λm' WR=>?_⟩⟩;have h0:=hk m hm;have mono:∀k s y,iter (λJ st=>l6 C (Rs m) fl c (λo st=>match o with
     |.normal=>J (clean fl c st)
     |.exit i=>Ks m (.exit i) st
     |.ret=>Ks m .ret st) st) k s=some y->iter (λJ st=>l6 C (Rs m) fl c (λo st=>match o with
     |.normal=>J (clean fl c st)
     |.exit i=>Ks m (.exit i) st
     |.ret=>Ks m .ret st) st) (k+1) s=some y:=by
     intro k;induction k with
     |zero=>intro s y h;simp[iter]at h
     |succ k ihk=>
       intro s y h;rw[iter]at h ⊢;have:=ih (R:=Rs m) (Rs:=λ_=>Rs m) (Ks:=λ_ o st=>match o with
        |.normal=>iter (λJ st=>l6 C (Rs m) fl c (λo st=>match o with
     |.normal=>J (clean fl c st)
     |.exit i=>Ks m (.exit i) st
     |.ret=>Ks m .ret st) st) (k+1) (clean fl c st)
        |.exit i=>Ks m (.exit i) st
        |.ret=>Ks m .ret st) ⟨λ_=>OH.refl _,λ_ _ _ h=>⟨0,h⟩,λ_ _ _ _ h=>⟨0,h⟩⟩ ?_ h
       ·obtain⟨n,hn⟩:=this;exact hn n (z8q _)
       ·intro o s y h;refine IA.all λ_=>?_;cases o with
        |normal=>exact ihk _ _ h
        |exit i=>exact h
        |ret=>exact h
    induction m' with
    |zero=>rw[zTq.1 WR]at h0;exact h0
    |succ b ihb=>
      rcases zrq b n with h1 | h1
      ·rw[show b+1=n by omega];exact h0
      ·exact mono _ _ _ (ihb h1)
   exact main.mono up
 |rangeFunc g ps assign body iha ihb=>
   intro R Rs K Ks st x L hK H;simp only[l6]at H ⊢;have H9:=A1c H;clear H;obtain⟨t,p,f,i,it,cs,cd,ds,rfl,h1,h2,h3,h4,h5,h6,h7,H⟩:=H9;simp only[h7,B4g h1 h2 h3 h4 h5 h6];clear h6;generalize st.sg.set i (.arr 1 [])=sg at H;induction ds generalizing sg x with
   |nil=>exact hK _ _ _ H
   |cons d ds ih=>
     simp only[Ml]at H ⊢;refine iha L ?_ H;intro o s y h;cases o with
     |exit e=>cases h
     |ret=>cases h
     |normal=>
       refine ihb L ?_ h;intro o s y h;cases o with
       |normal=>exact ih _ h
       |exit e=>exact hK _ _ _ h
       |ret=>exact hK _ _ _ h
 |exit id=>intro R Rs K Ks st x L hK H;simp only[l6]at H ⊢;exact hK _ _ _ H
 |ret=>intro R Rs K Ks st x L hK H;simp only[l6]at H ⊢;exact hK _ _ _ H
 |_=>intro R Rs K Ks st x L hK H;simp[l6]at H
def pu{R:O8}{Rs:Nat->O8}(L:xS Rs R):(∀f ds d,(EI C R).p f ds=some d->IA λm=>(EI C (Rs m)).p f ds=some d) /\
 (∀f rs sg q,(EI C R).r f rs sg=some q->IA λm=>(EI C (Rs m)).r f rs sg=some q):=by
 constructor
 ·intro f ds d H;simp only[EI]at H ⊢;obtain⟨fn,h1,H⟩:=D6 H;obtain⟨c,h2,H⟩:=D6 H;simp only[h1,M7,h2];exact A2t c L (λo st x h=>IA.all λ_=>h) H
 ·intro f rs sg q H;simp only[EI]at H ⊢;obtain⟨s,h0,H⟩:=D6 H;obtain⟨fn,h1,H⟩:=D6 H;obtain⟨c,h2,H⟩:=D6 H;simp only[h0,h1,M7,h2];exact A2t c L (λo st x h=>IA.all λ_=>h) H
def wB{R R':O8}(h:OH R R'):OH (EI C R) (EI C R'):=by
 have L:xS (λ_=>R') R:=⟨λ_=>OH.refl _,λ_ _ _ k=>⟨0,h.p _ _ _ k⟩,λ_ _ _ _ k=>⟨0,h.r _ _ _ _ k⟩⟩;constructor
 ·intro f ds d H;obtain⟨n,hn⟩:=(pu L).1 f ds d H;exact hn n (z8q _)
 ·intro f rs sg q H;obtain⟨n,hn⟩:=(pu L).2 f rs sg q H;exact hn n (z8q _)
def A9B(n:Nat):OH (Nr C n) (Nr C (n+1)):=by
 induction n with
 |zero=>exact⟨λ_ _ _ h=>by simp[Nr]at h,λ_ _ _ _ h=>by simp[Nr]at h⟩
 |succ n ih=>exact wB ih
def wy{n m:Nat}(h:n<=m):OH (Nr C n) (Nr C m):=by
 induction m with
 |zero=>rw[zTq.1 h];exact OH.refl _
 |succ m ih=>
   rcases zrq m n with h1 | h1
   ·rw[show n=m+1 by omega];exact OH.refl _
   ·exact(ih h1).trans (A9B m)
def xG:xS (Nr C) (run C):=by
 refine⟨A9B,λf ds d H=>?_,λf rs sg q H=>?_⟩
 ·simp only[run]at H;split at H
  ·rename_i h;simp only[D8]at H;rw[<- H];exact h.choose_spec
  ·cases H
 ·simp only[run]at H;split at H
  ·rename_i h;simp only[D8]at H;rw[<- H];exact h.choose_spec
  ·cases H
def w_(n:Nat):OH (Nr C n) (run C):=by
 constructor
 ·intro f ds d H;have h:∃x n,(Nr C n).p f ds=some x:=⟨d,n,H⟩;simp only[run,dif_pos h];obtain⟨m,hm⟩:=h.choose_spec;have h1:=(wy (C:=C) (zzq n m)).p _ _ _ H;have h2:=(wy (C:=C) (zDq m n)).p _ _ _ hm;rw[h1]at h2;exact h2.symm
 ·intro f rs sg q H;have h:∃x n,(Nr C n).r f rs sg=some x:=⟨q,n,H⟩;simp only[run,dif_pos h];obtain⟨m,hm⟩:=h.choose_spec;have h1:=(wy (C:=C) (zzq n m)).r _ _ _ _ H;have h2:=(wy (C:=C) (zDq m n)).r _ _ _ _ hm;rw[h1]at h2;exact h2.symm
def A7x:OH (EI C (run C)) (run C):=by
 constructor
 ·intro f ds d H;obtain⟨n,hn⟩:=(pu xG).1 f ds d H;exact(w_ (n+1)).p _ _ _ (hn n (z8q _))
 ·intro f rs sg q H;obtain⟨n,hn⟩:=(pu xG).2 f rs sg q H;exact(w_ (n+1)).r _ _ _ _ (hn n (z8q _))
end
noncomputable section
section
variable {X:Type}(C:BQ)(R:O8)(fl:H8)
def EE(b:Code)(K:Out->St->Option X):(St->Option X)->St->Option X:=λJ st=>l6 C R fl b (λo st=>match o with
 |.normal=>J (clean fl b st)
 |.exit i=>K (.exit i) st
 |.ret=>K .ret st) st
theorem B4h(b:Code)(K:Out->St->Option X)(st:St):l6 C R fl (.loop b) K st=JJ (EE C R fl b K) (clean fl b st):=rfl
variable {b:Code}{st:St}{x:X}
def A3L{K:Out->St->Option X}{J:St->Option X}{Js:Nat->St->Option X}(hJ:∀st x,J st=some x->IA λm=>Js m st=some x)(H:EE C R fl b K J st=some x):IA λm=>EE C R fl b K (Js m) st=some x:=by
 refine A2t b (Rs:=λ_=>R) ⟨λ_=>OH.refl _,λ_ _ _ h=>⟨0,h⟩,λ_ _ _ _ h=>⟨0,h⟩⟩ ?_ H;intro o st x h;cases o with
 |normal=>exact hJ _ _ h
 |exit i=>exact IA.all λ_=>h
 |ret=>exact IA.all λ_=>h
def A1x{K:Out->St->Option X}{J J':St->Option X}(hJ:∀st x,J st=some x->J' st=some x)(H:EE C R fl b K J st=some x):EE C R fl b K J' st=some x:=by obtain⟨n,hn⟩:=A3L C R fl (J:=J) (Js:=λ_=>J') (λst x h=>IA.all λ_=>hJ st x h) H;exact hn n (z8q _)
def A2J{K:Out->St->Option X}:∀{n m:Nat}{st:St}{x:X},n<=m->iter (EE C R fl b K) n st=some x->iter (EE C R fl b K) m st=some x:=by
 intro n;induction n with
 |zero=>intro m st x _ h;simp[iter]at h
 |succ n ih=>intro m st x hm h;obtain⟨m',rfl⟩:∃m',m=m'+1:=⟨m-1,by omega⟩;simp only[iter]at h ⊢;exact A1x C R fl (λst x h=>ih (by omega) h) h
def qo{K:Out->St->Option X}{n:Nat}(h:iter (EE C R fl b K) n st=some x):JJ (EE C R fl b K) st=some x:=by have he:∃x n,iter (EE C R fl b K) n st=some x:=⟨x,n,h⟩;unfold JJ;rw[dif_pos he];obtain⟨j,hj⟩:=he.choose_spec;have h1:=A2J C R fl (zzq j n) hj;have h2:=A2J C R fl (zDq n j) h;rw[h1]at h2;exact h2
def B4J(b:Code)(K:Out->St->Option X)(st:St):JJ (EE C R fl b K) st=EE C R fl b K (JJ (EE C R fl b K)) st:=by
 have h1:∀x,JJ (EE C R fl b K) st=some x->EE C R fl b K (JJ (EE C R fl b K)) st=some x:=by
  intro x h;obtain⟨n,hn⟩:=Zj h;cases n with
  |zero=>simp[iter]at hn
  |succ n=>exact A1x C R fl (λst x h=>qo C R fl h) hn
 have h2:∀x,EE C R fl b K (JJ (EE C R fl b K)) st=some x->JJ (EE C R fl b K) st=some x:=by
  intro x h;obtain⟨n,hn⟩:=A3L C R fl (J:=JJ (EE C R fl b K)) (Js:=iter (EE C R fl b K)) (λst x h=>by obtain⟨n,hn⟩:=Zj h;exact⟨n,λm hm=>A2J C R fl hm hn⟩) h
  exact qo C R fl (n:=n+1) (hn n (z8q _))
 cases h:JJ (EE C R fl b K) st with
 |some x=>exact(h1 x h).symm
 |none=>
   cases h':EE C R fl b K (JJ (EE C R fl b K)) st with
   |none=>rfl
   |some x=>rw[h2 x h']at h;exact h.symm
inductive Wait where
 |seq (b:Code)
 |blk (id:Nat)
 |lp (b:Code)
variable (K0:Out->St->Option X)
def AQ:List Wait->Out->St->Option X
 |[]=>K0
 |.seq b::ks=>λo st=>match o with
   |.normal=>l6 C R fl b (AQ ks) (clean fl b st)
   |.exit i=>AQ ks (.exit i) st
   |.ret=>AQ ks .ret st
 |.blk id::ks=>λo st=>match o with
   |.normal=>AQ ks .normal st
   |.exit i=>if i=id then AQ ks .normal st else AQ ks (.exit i) st
   |.ret=>AQ ks .ret st
 |.lp b::ks=>λo st=>match o with
   |.normal=>JJ (EE C R fl b (AQ ks)) (clean fl b st)
   |.exit i=>AQ ks (.exit i) st
   |.ret=>AQ ks .ret st
def QN(c:Code)(ks:List Wait)(st:St):Option X:=l6 C R fl c (AQ C R fl K0 ks) st
def Pe(b:Code)(ks:List Wait)(st:St):Option X:=JJ (EE C R fl b (AQ C R fl K0 ks)) st
section
variable (J JL:Code->List Wait->St->Option X)(cut:List Nat)
def Hu(go:Code->List Wait->St->Option X):List Wait->Out->St->Option X
 |[],o,st=>K0 o st
 |.seq b::ks,o,st=>match o with
   |.normal=>go b ks st
   |.exit i=>Hu go ks (.exit i) st
   |.ret=>Hu go ks .ret st
 |.blk id::ks,o,st=>match o with
   |.normal=>Hu go ks .normal st
   |.exit i=>if i=id then Hu go ks .normal st else Hu go ks (.exit i) st
   |.ret=>Hu go ks .ret st
 |.lp b::ks,o,st=>match o with
   |.normal=>JL b ks (clean fl b st)
   |.exit i=>Hu go ks (.exit i) st
   |.ret=>Hu go ks .ret st
def cutAt(b:Code):Bool :=
 match kV b with
 |some id=>cut.contains id
 |none=>false
def Lf(ev:Code->List Wait->St->Option X)(b:Code)(ks:List Wait)(st:St):Option X :=
 match cutAt cut b with
 |true=>J b ks (clean fl b st)
 |false=>ev b ks (clean fl b st)
def LD:Nat->Code->List Wait->St->Option X
 |0,c,ks,st=>J c ks st
 |n+1,c,ks,st=>
   match c with
   |.skip=>Hu fl K0 JL (Lf fl J cut (LD n)) ks .normal st
   |.label _=>Hu fl K0 JL (Lf fl J cut (LD n)) ks .normal st
   |.scope b=>LD n b ks st
   |.region id ops false=>FO C R fl ops.toList ops.toList (QZ fl id st) λst=>IK fl id st λst=>Hu fl K0 JL (Lf fl J cut (LD n)) ks .normal st
   |.region id ops true=>og (Te 0 ops.toList) (bP (Md ops.toList []) λbf=>DT C R fl ops.toList bf ops.toList 0 [] (QZ fl id st) λst=>IK fl id st λst=>Hu fl K0 JL (Lf fl J cut (LD n)) ks .normal st)
   |.seq a b=>LD n a (.seq b::ks) st
   |.cond c a b=>A09 C.P c st (λst=>Lf fl J cut (LD n) a ks st) (λst=>Lf fl J cut (LD n) b ks st)
   |.block id b=>LD n b (.blk id::ks) st
   |.loop b=>JL b ks (clean fl b st)
   |.rangeFunc g ps a b=>J (.rangeFunc g ps a b) ks st
   |.exit id=>Hu fl K0 JL (Lf fl J cut (LD n)) ks (.exit id) st
   |.ret=>Hu fl K0 JL (Lf fl J cut (LD n)) ks .ret st
   |_=>none
end
def RH{go:Code->List Wait->St->Option X}(h:∀b ks st,go b ks st=l6 C R fl b (AQ C R fl K0 ks) (clean fl b st)):∀(ks:List Wait)(o:Out)(st:St),
 Hu fl K0 (Pe C R fl K0) go ks o st=AQ C R fl K0 ks o st
 |[],o,st=>rfl
 |.seq b::ks,o,st=>by
   cases o with
   |normal=>simp only[Hu,AQ,h]
   |exit i=>simp only[Hu,AQ,RH h ks]
   |ret=>simp only[Hu,AQ,RH h ks]
 |.blk id::ks,o,st=>by
   cases o with
   |normal=>simp only[Hu,AQ,RH h ks]
   |exit i=>simp only[Hu,AQ,RH h ks]
   |ret=>simp only[Hu,AQ,RH h ks]
 |.lp b::ks,o,st=>by
   cases o with
   |normal=>simp only[Hu,AQ,Pe]
   |exit i=>simp only[Hu,AQ,RH h ks]
   |ret=>simp only[Hu,AQ,RH h ks]
def A53(cut:List Nat):∀(n:Nat)(c:Code)(ks:List Wait)(st:St),LD C R fl K0 (QN C R fl K0) (Pe C R fl K0) cut n c ks st=QN C R fl K0 c ks st:=by
 intro n;induction n with
 |zero=>intro c ks st;rfl
 |succ n ih=>
   intro c ks st;have hs:∀b ks st,Lf fl (QN C R fl K0) cut (LD C R fl K0 (QN C R fl K0) (Pe C R fl K0) cut n) b ks st=l6 C R fl b (AQ C R fl K0 ks) (clean fl b st):=by
    intro b ks st;unfold Lf;split
    ·rfl
    ·rw[ih];rfl
   have hp:∀ks o st,Hu fl K0 (Pe C R fl K0) (Lf fl (QN C R fl K0) cut (LD C R fl K0 (QN C R fl K0) (Pe C R fl K0) cut n)) ks o st=AQ C R fl K0 ks o st :=λks o st=>RH C R fl K0 hs ks o st
   cases c with
   |skip=>simp only[LD,QN,l6,hp]
   |label l=>simp only[LD,QN,l6,hp]
   |scope b=>rw[LD,ih];rfl
   |region id ops d=>cases d<;>simp only[LD,QN,l6,hp]
   |seq a b=>rw[LD,ih];rfl
   |cond y a b=>simp only[LD,QN,l6,hs]
   |block id b=>rw[LD,ih];rfl
   |loop b=>simp only[LD,QN,B4h,Pe]
   |exit id=>simp only[LD,QN,l6,hp]
   |ret=>simp only[LD,QN,l6,hp]
   |_=>simp only[LD,QN,l6]
def sub:List Bool->Code->List Wait->Code×List Wait
 |[],c,ks=>(c,ks)
 |false::p,.seq a b,ks=>sub p a (.seq b::ks)
 |true::p,.seq _ b,ks=>sub p b ks
 |false::p,.cond _ a _,ks=>sub p a ks
 |true::p,.cond _ _ b,ks=>sub p b ks
 |_::p,.block id b,ks=>sub p b (.blk id::ks)
 |_::p,.loop b,ks=>sub p b (.lp b::ks)
 |_::p,.scope b,ks=>sub p b ks
 |_::_,c,ks=>(c,ks)
def B01:Code->Code
 |.loop b=>b
 |c=>c
def hide{α : Type}(a : α): α := Classical.choose (⟨a,rfl⟩:∃b,b=a)
def Mo{α : Type}(a : α):hide a=a:=Classical.choose_spec (⟨a,rfl⟩:∃b,b=a)
def Ut(p:List Bool)(c:Code)(st:St):Option X:=hide (QN C R fl K0) (sub p c []).1 (sub p c []).2 st
def A5c(p:List Bool)(c:Code)(st:St):Option X:=hide (Pe C R fl K0) (B01 (sub p c []).1) (sub p c []).2 st
variable {C R fl K0}{p:List Bool}{c:Code}{r:Option X}
def H7(cut:List Nat)(h:LD C R fl K0 (hide (QN C R fl K0)) (hide (Pe C R fl K0)) cut 200 (sub p c []).1 (sub p c []).2 st=r:=by kernel_rfl):Ut C R fl K0 p c st=r:=by rw[Mo,Mo,A53]at h;unfold Ut;rw[Mo];exact h
theorem L8(cut:List Nat)(h:LD C R fl K0 (hide (QN C R fl K0)) (hide (Pe C R fl K0)) cut 200 (B01 (sub p c []).1) (.lp (B01 (sub p c []).1)::(sub p c []).2) st=r:=by kernel_rfl):A5c C R fl K0 p c st=r:=by rw[Mo,Mo,A53]at h;rw[<- h];unfold A5c;rw[Mo];unfold Pe QN;rw[B4J];rfl
theorem A9k:Ut C R fl K0 [] c st=l6 C R fl c K0 st:=by unfold Ut;rw[Mo];rfl
end
section
variable {X:Type}(C:BQ)(R:O8)(fl:H8)(K0:Out->St->Option X)
def oH(p:List Bool)(c:Code)(o:Out)(st:St):Option X:=hide (AQ C R fl K0) (sub p c []).2 o st
def kr(I:List E5->Option X)(Xf:Out->List E5->Option X):Out->St->Option X:=λo st=>match o with
 |.normal=>I st.sg
 |.exit e=>Xf (.exit e) st.sg
 |.ret=>Xf .ret st.sg
variable {C R fl K0}
theorem B3A(cut:List Nat)(n:Nat)(b:Code)(ks:List Wait)(st:St):Lf fl (QN C R fl K0) cut (LD C R fl K0 (QN C R fl K0) (Pe C R fl K0) cut n) b ks st=l6 C R fl b (AQ C R fl K0 ks) (clean fl b st):=by
 unfold Lf;split
 ·rfl
 ·rw[A53];rfl
variable {p:List Bool}{c:Code}{st:St}
def wh{o:Out}{r:Option X}(cut:List Nat)(h:Hu fl K0 (hide (Pe C R fl K0)) (Lf fl (hide (QN C R fl K0)) cut (LD C R fl K0 (hide (QN C R fl K0)) (hide (Pe C R fl K0)) cut 200)) (sub p c []).2 o st=r):oH C R fl K0 p c o st=r:=by rw[Mo,Mo,RH C R fl K0 (B3A cut 200)]at h;unfold oH;rw[Mo];exact h
def B8Q{t f i q:Nat}{ps:Array Nat}{a b:Code}{ks:List Wait}{it:List DV->Option (List DV)}(hs:sub p c []=(.rangeFunc (.tmp t) ps a b,ks))(hm:(st.get t).2=.fn f [(i,0)])(hp:ps.toList=[q])(hi:C.iter f=some it)(ha:oG a=true)(hb:Cf b=true):
 Ut C R fl K0 p c st=ob (H5 st.sg i) λcs=>ob (Mc cs) λcd=>ob (it cd) λds=>Ml (λd I sg=>Ut C R fl (kr I λo sg=>oH C R fl K0 p c o (Ae st sg)) [] (.seq a b) (clean fl a (XG st q d sg))) (λsg=>oH C R fl K0 p c .normal (Ae st sg)) ds (st.sg.set i (.arr 1 [])):=by
 unfold Ut oH;simp only[Mo];rw[hs];simp only[QN,l6,wT,hp,hm,hi,ha,hb,ob,Bool.and_self,og];have R8:∀(d:DV)(I:List E5->Option X)(sg:List E5),l6 C R fl a (λo st1=>match o with
       |.normal=>l6 C R fl b (λo st2=>match o with
         |.normal=>I st2.sg
         |.exit e=>AQ C R fl K0 ks (.exit e) (Ae st st2.sg)
         |.ret=>AQ C R fl K0 ks .ret (Ae st st2.sg)) (clean fl b st1)
       |.exit _=>none
       |.ret=>none) (clean fl a (XG st q d sg)) =
  l6 C R fl a (λo st'=>match o with
   |.normal=>l6 C R fl b (AQ C R fl (kr I λo sg=>AQ C R fl K0 ks o (Ae st sg)) []) (clean fl b st')
   |.exit i=>AQ C R fl (kr I λo sg=>AQ C R fl K0 ks o (Ae st sg)) [] (.exit i) st'
   |.ret=>AQ C R fl (kr I λo sg=>AQ C R fl K0 ks o (Ae st sg)) [] .ret st') (clean fl a (XG st q d sg)):=by
  intro d I sg;cases a with
  |region id ops dr=>
    cases dr with
    |false=>
      simp only[l6]
      congr 1
    |true=>simp[oG]at ha
  |skip=>
    simp only[l6]
    congr 1
  |_=>simp[oG]at ha
 congr 1;funext cs;congr 1;funext cd;congr 1;funext ds;congr 1;funext d I sg;exact R8 d I sg
def rgT:Code->Option (Nat×Nat)
 |.rangeFunc (.tmp t) ps _ _=>match ps.toList with
   |[q]=>some (t,q)
   |_=>none
 |_=>none
def rgA:Code->Code
 |.rangeFunc _ _ a _=>a
 |_=>.skip
def rgB:Code->Code
 |.rangeFunc _ _ _ b=>b
 |_=>.skip
def A9G{t f i q:Nat}{it:List DV->Option (List DV)}(hs:rgT (sub p c []).1=some (t,q))(hm:(st.get t).2=.fn f [(i,0)])(hi:C.iter f=some it)(uf:(oG (rgA (sub p c []).1)&&Cf (rgB (sub p c []).1))=true):
 Ut C R fl K0 p c st=ob (H5 st.sg i) λcs=>ob (Mc cs) λcd=>ob (it cd) λds=>Ml (λd I sg=>Ut C R fl (kr I λo sg=>oH C R fl K0 p c o (Ae st sg)) [] (.seq (rgA (sub p c []).1) (rgB (sub p c []).1)) (clean fl (rgA (sub p c []).1) (XG st q d sg))) (λsg=>oH C R fl K0 p c .normal (Ae st sg)) ds (st.sg.set i (.arr 1 [])):=by
 simp only[z5q]at uf;generalize hc:(sub p c []).1=c1 at hs uf;cases c1 with
 |rangeFunc g ps a b=>
   cases g with
   |tmp t'=>
     simp only[rgT]at hs;split at hs
     ·rename_i q' hq;simp only[D8,Prod.mk.injEq]at hs;obtain⟨rfl,rfl⟩:=hs;simp only[rgA,rgB]at uf ⊢;exact B8Q (ks:=(sub p c []).2) (by rw[<- hc]) hm hq hi uf.1 uf.2
     ·cases hs
   |_=>simp[rgT]at hs
 |_=>simp[rgT]at hs
end
def oneCell(sg:List E5)(cs:List (DV×F4)):Option DV :=
 if 1=cs.length then match cs with
  |[c]=>Bj sg c
  |_=>none
 else none
def B1r(x:Option DV):Option DV:=ob (ob x λd=>ob (some []) λds=>some (d::ds)) λds=>some (pack ds)
def B48:List (Option DV)->Option (List DV)
 |[]=>some []
 |x::xs=>ob x λd=>ob (B48 xs) λds=>some (d::ds)
end
section
def JI{l:List Nat}{a:Nat}(h:a∈l):a<=l.sum:=by
 induction l with
 |nil=>simp at h
 |cons x l ih=>
   rw[zsq];rcases zkq.1 h with rfl | h
   ·omega
   ·have:=ih h;omega
def N9(l:List Int):DV:=.list 1 (l.map λn=>.int .i64 n)
def Di(l:List ByteArray):DV:=.list 1 (l.map λs=>.str s)
inductive Ty where
 |mk (E8:Int) (n:Int) (D5:List Ty)
def Ty.E8:Ty->Int | .mk x0 _ _=>x0
def Ty.n:Ty->Int | .mk _ x1 _=>x1
def Ty.D5:Ty->List Ty | .mk _ _ x2=>x2
variable (x0:Int)(x1:Int)(x2:List Ty)
@[simp] theorem Ty.IW:(Ty.mk x0 x1 x2).E8=x0:=rfl
@[simp] theorem Ty.XA:(Ty.mk x0 x1 x2).n=x1:=rfl
@[simp] theorem Ty.U7:(Ty.mk x0 x1 x2).D5=x2:=rfl
def Ty.D9:Ty->DV
 |.mk x0 x1 x2=>.agg [.int .i64 x0,.int .i64 x1,.list 3 (x2.map Ty.D9)]
variable (t:Ty)
theorem Ty.N8:t.D9=.agg [.int .i64 t.E8,.int .i64 t.n,.list 3 (t.D5.map Ty.D9)]:=by cases t;rw[Ty.D9];rfl
noncomputable instance:DecidableEq Ty:=λa b=>Classical.propDecidable (a=b)
@[simp] theorem Az:I5 3 t.D9=true:=by rw[Ty.N8];rfl
@[simp] theorem Ty.CK:C8 0 t.D9=.int .i64 t.E8:=by rw[Ty.N8];rfl
@[simp] theorem Ty.FZ:C8 1 t.D9=.int .i64 t.n:=by rw[Ty.N8];rfl
@[simp] theorem Ty.Dl:C8 2 t.D9=.list 3 (t.D5.map Ty.D9):=by rw[Ty.N8];rfl
def Ty.AA:DV.agg [.int .i64 t.E8,.int .i64 t.n,.list 3 (t.D5.map Ty.D9)]=t.D9:=(Ty.N8 t).symm
def Ty.zf{t u:Ty}:t=u↔t.E8=u.E8/\t.n=u.n/\t.D5=u.D5:=⟨λh=>by subst h;simp,λh=>by cases t;cases u;simp_all⟩
def Ty.LU{t k:Ty}(h:k∈t.D5):SizeOf.sizeOf k<SizeOf.sizeOf t:=by cases t;simp only[Ty.U7]at h;have:=zvq h;simp only[Ty.mk.sizeOf_spec];omega
def Ty.ind{P:Ty->Prop}(h:∀t,(∀k∈t.D5,P k)->P t)(t:Ty):P t :=h t λk hk=>Ty.ind h k
termination_by SizeOf.sizeOf t
decreasing_by exact Ty.LU hk
def Ty.size(t:Ty):Nat:=1+(t.D5.attach.map λk=>Ty.size k.1).sum
termination_by SizeOf.sizeOf t
decreasing_by exact Ty.LU k.2
def Ty.size_eq:t.size=1+(t.D5.map Ty.size).sum:=by rw[Ty.size];congr 2;exact zCq (f:=Ty.size) ..
def Ty.CG{t k:Ty}(h:k∈t.D5):k.size<t.size:=by rw[Ty.size_eq t];have:=JI (zuq (f:=Ty.size) h);omega
def Ty.pU:0<t.size:=by rw[Ty.size_eq];omega
def Ty.A1v:t.D5.length<t.size:=by
 rw[Ty.size_eq];have:∀l:List Ty,l.length<=(l.map Ty.size).sum:=by
  intro l;induction l with
  |nil=>simp
  |cons x l ih=>have:=Ty.pU x;simp only[zbq,zeq,zsq];omega
 have:=this t.D5;omega
inductive F5 where
 |mk (E8:Int) (lo:Int) (hi:Int) (name:ByteArray) (n:Int) (s:ByteArray) (D5:List F5)
def F5.E8:F5->Int | .mk x0 _ _ _ _ _ _=>x0
def F5.lo:F5->Int | .mk _ x1 _ _ _ _ _=>x1
def F5.hi:F5->Int | .mk _ _ x2 _ _ _ _=>x2
def F5.name:F5->ByteArray | .mk _ _ _ x3 _ _ _=>x3
def F5.n:F5->Int | .mk _ _ _ _ x4 _ _=>x4
def F5.s:F5->ByteArray | .mk _ _ _ _ _ x5 _=>x5
def F5.D5:F5->List F5 | .mk _ _ _ _ _ _ x6=>x6
variable (x2:Int)(x3:ByteArray)(x4:Int)(x5:ByteArray)(x6:List F5)
@[simp] theorem F5.IW:(F5.mk x0 x1 x2 x3 x4 x5 x6).E8=x0:=rfl
@[simp] theorem F5.A1w:(F5.mk x0 x1 x2 x3 x4 x5 x6).lo=x1:=rfl
@[simp] theorem F5.A1s:(F5.mk x0 x1 x2 x3 x4 x5 x6).hi=x2:=rfl
@[simp] theorem F5.aD:(F5.mk x0 x1 x2 x3 x4 x5 x6).name=x3:=rfl
@[simp] theorem F5.XA:(F5.mk x0 x1 x2 x3 x4 x5 x6).n=x4:=rfl
@[simp] theorem F5.A2Z:(F5.mk x0 x1 x2 x3 x4 x5 x6).s=x5:=rfl
@[simp] theorem F5.U7:(F5.mk x0 x1 x2 x3 x4 x5 x6).D5=x6:=rfl
def F5.D9:F5->DV
 |.mk x0 x1 x2 x3 x4 x5 x6=>.agg [.int .i64 x0,.int .i64 x1,.int .i64 x2,.str x3,.int .i64 x4,.str x5,.list 7 (x6.map F5.D9)]
variable (t:F5)
theorem F5.N8:t.D9=.agg [.int .i64 t.E8,.int .i64 t.lo,.int .i64 t.hi,.str t.name,.int .i64 t.n,.str t.s,.list 7 (t.D5.map F5.D9)]:=by cases t;rw[F5.D9];rfl
noncomputable instance:DecidableEq F5:=λa b=>Classical.propDecidable (a=b)
@[simp] theorem LQ:I5 7 t.D9=true:=by rw[F5.N8];rfl
@[simp] theorem F5.CK:C8 0 t.D9=.int .i64 t.E8:=by rw[F5.N8];rfl
@[simp] theorem F5.FZ:C8 1 t.D9=.int .i64 t.lo:=by rw[F5.N8];rfl
@[simp] theorem F5.Dl:C8 2 t.D9=.int .i64 t.hi:=by rw[F5.N8];rfl
@[simp] theorem F5.MO:C8 3 t.D9=.str t.name:=by rw[F5.N8];rfl
@[simp] theorem F5.fq:C8 4 t.D9=.int .i64 t.n:=by rw[F5.N8];rfl
@[simp] theorem F5.xC:C8 5 t.D9=.str t.s:=by rw[F5.N8];rfl
@[simp] theorem F5.oh:C8 6 t.D9=.list 7 (t.D5.map F5.D9):=by rw[F5.N8];rfl
def F5.AA:DV.agg [.int .i64 t.E8,.int .i64 t.lo,.int .i64 t.hi,.str t.name,.int .i64 t.n,.str t.s,.list 7 (t.D5.map F5.D9)]=t.D9:=(F5.N8 t).symm
def F5.LU{t k:F5}(h:k∈t.D5):SizeOf.sizeOf k<SizeOf.sizeOf t:=by cases t;simp only[F5.U7]at h;have:=zvq h;simp only[F5.mk.sizeOf_spec];omega
def F5.ind{P:F5->Prop}(h:∀t,(∀k∈t.D5,P k)->P t)(t:F5):P t :=h t λk hk=>F5.ind h k
termination_by SizeOf.sizeOf t
decreasing_by exact F5.LU hk
def F5.size(t:F5):Nat:=1+(t.D5.attach.map λk=>F5.size k.1).sum
termination_by SizeOf.sizeOf t
decreasing_by exact F5.LU k.2
def F5.size_eq:t.size=1+(t.D5.map F5.size).sum:=by rw[F5.size];congr 2;exact zCq (f:=F5.size) ..
def F5.CG{t k:F5}(h:k∈t.D5):k.size<t.size:=by rw[F5.size_eq t];have:=JI (zuq (f:=F5.size) h);omega
def F5.pU:0<t.size:=by rw[F5.size_eq];omega
def F5.A1v:t.D5.length<t.size:=by
 rw[F5.size_eq];have:∀l:List F5,l.length<=(l.map F5.size).sum:=by
  intro l;induction l with
  |nil=>simp
  |cons x l ih=>have:=F5.pU x;simp only[zbq,zeq,zsq];omega
 have:=this t.D5;omega
def F5.V9(t:F5):Nat:=1+t.name.size+t.s.size+(t.D5.attach.map λk=>F5.V9 k.1).sum
termination_by SizeOf.sizeOf t
decreasing_by exact F5.LU k.2
def F5.Bo:t.V9=1+t.name.size+t.s.size+(t.D5.map F5.V9).sum:=by rw[F5.V9];congr 2;exact zCq (f:=F5.V9) ..
def F5.A0d:0<t.V9:=by rw[F5.Bo];omega
def F5.bz{t k:F5}(h:k∈t.D5):k.V9<t.V9:=by rw[F5.Bo t];have:=JI (zuq (f:=F5.V9) h);omega
def F5.u_:t.name.size<t.V9:=by rw[F5.Bo];omega
def F5.A6W:t.s.size<t.V9:=by rw[F5.Bo];omega
inductive Ex where
 |mk (E8:Int) (lo:Int) (hi:Int) (name:ByteArray) (arg:ByteArray) (n:Int) (s:ByteArray) (op:Int) (a:Ty) (b:Ty) (J7:List F5) (D5:List Ex)
def Ex.E8:Ex->Int | .mk x0 _ _ _ _ _ _ _ _ _ _ _=>x0
def Ex.lo:Ex->Int | .mk _ x1 _ _ _ _ _ _ _ _ _ _=>x1
def Ex.hi:Ex->Int | .mk _ _ x2 _ _ _ _ _ _ _ _ _=>x2
def Ex.name:Ex->ByteArray | .mk _ _ _ x3 _ _ _ _ _ _ _ _=>x3
def Ex.arg:Ex->ByteArray | .mk _ _ _ _ x4 _ _ _ _ _ _ _=>x4
def Ex.n:Ex->Int | .mk _ _ _ _ _ x5 _ _ _ _ _ _=>x5
def Ex.s:Ex->ByteArray | .mk _ _ _ _ _ _ x6 _ _ _ _ _=>x6
def Ex.op:Ex->Int | .mk _ _ _ _ _ _ _ x7 _ _ _ _=>x7
def Ex.a:Ex->Ty | .mk _ _ _ _ _ _ _ _ x8 _ _ _=>x8
def Ex.b:Ex->Ty | .mk _ _ _ _ _ _ _ _ _ x9 _ _=>x9
def Ex.J7:Ex->List F5 | .mk _ _ _ _ _ _ _ _ _ _ x10 _=>x10
def Ex.D5:Ex->List Ex | .mk _ _ _ _ _ _ _ _ _ _ _ x11=>x11
variable (x4:ByteArray)(x5:Int)(x6:ByteArray)(x7:Int)(x8:Ty)(x9:Ty)(x10:List F5)(x11:List Ex)
@[simp] theorem Ex.IW:(Ex.mk x0 x1 x2 x3 x4 x5 x6 x7 x8 x9 x10 x11).E8=x0:=rfl
@[simp] theorem Ex.A1w:(Ex.mk x0 x1 x2 x3 x4 x5 x6 x7 x8 x9 x10 x11).lo=x1:=rfl
@[simp] theorem Ex.A1s:(Ex.mk x0 x1 x2 x3 x4 x5 x6 x7 x8 x9 x10 x11).hi=x2:=rfl
@[simp] theorem Ex.aD:(Ex.mk x0 x1 x2 x3 x4 x5 x6 x7 x8 x9 x10 x11).name=x3:=rfl
@[simp] theorem Ex.A5t:(Ex.mk x0 x1 x2 x3 x4 x5 x6 x7 x8 x9 x10 x11).arg=x4:=rfl
@[simp] theorem Ex.XA:(Ex.mk x0 x1 x2 x3 x4 x5 x6 x7 x8 x9 x10 x11).n=x5:=rfl
@[simp] theorem Ex.A2Z:(Ex.mk x0 x1 x2 x3 x4 x5 x6 x7 x8 x9 x10 x11).s=x6:=rfl
@[simp] theorem Ex.B1f:(Ex.mk x0 x1 x2 x3 x4 x5 x6 x7 x8 x9 x10 x11).op=x7:=rfl
@[simp] theorem Ex.B3P:(Ex.mk x0 x1 x2 x3 x4 x5 x6 x7 x8 x9 x10 x11).a=x8:=rfl
@[simp] theorem Ex.B31:(Ex.mk x0 x1 x2 x3 x4 x5 x6 x7 x8 x9 x10 x11).b=x9:=rfl
@[simp] theorem Ex.A2W:(Ex.mk x0 x1 x2 x3 x4 x5 x6 x7 x8 x9 x10 x11).J7=x10:=rfl
@[simp] theorem Ex.U7:(Ex.mk x0 x1 x2 x3 x4 x5 x6 x7 x8 x9 x10 x11).D5=x11:=rfl
def Ex.D9:Ex->DV
 |.mk x0 x1 x2 x3 x4 x5 x6 x7 x8 x9 x10 x11=>.agg [.int .i64 x0,.int .i64 x1,.int .i64 x2,.str x3,.str x4,.int .i64 x5,.str x6,.int .i64 x7,.int .i64 x8.E8,.int .i64 x8.n,.list 3 (x8.D5.map Ty.D9),.int .i64 x9.E8,.int .i64 x9.n,.list 3 (x9.D5.map Ty.D9),.list 7 (x10.map F5.D9),.list 16 (x11.map Ex.D9)]
variable (t:Ex)
theorem Ex.N8:t.D9=.agg [.int .i64 t.E8,.int .i64 t.lo,.int .i64 t.hi,.str t.name,.str t.arg,.int .i64 t.n,.str t.s,.int .i64 t.op,.int .i64 t.a.E8,.int .i64 t.a.n,.list 3 (t.a.D5.map Ty.D9),.int .i64 t.b.E8,.int .i64 t.b.n,.list 3 (t.b.D5.map Ty.D9),.list 7 (t.J7.map F5.D9),.list 16 (t.D5.map Ex.D9)]:=by cases t;rw[Ex.D9];rfl
noncomputable instance:DecidableEq Ex:=λa b=>Classical.propDecidable (a=b)
@[simp] theorem AF:I5 16 t.D9=true:=by rw[Ex.N8];rfl
@[simp] theorem Ex.CK:C8 0 t.D9=.int .i64 t.E8:=by rw[Ex.N8];rfl
@[simp] theorem Ex.FZ:C8 1 t.D9=.int .i64 t.lo:=by rw[Ex.N8];rfl
@[simp] theorem Ex.Dl:C8 2 t.D9=.int .i64 t.hi:=by rw[Ex.N8];rfl
@[simp] theorem Ex.MO:C8 3 t.D9=.str t.name:=by rw[Ex.N8];rfl
@[simp] theorem Ex.fq:C8 4 t.D9=.str t.arg:=by rw[Ex.N8];rfl
@[simp] theorem Ex.xC:C8 5 t.D9=.int .i64 t.n:=by rw[Ex.N8];rfl
@[simp] theorem Ex.oh:C8 6 t.D9=.str t.s:=by rw[Ex.N8];rfl
@[simp] theorem Ex.B1k:C8 7 t.D9=.int .i64 t.op:=by rw[Ex.N8];rfl
@[simp] theorem Ex.B1l:C8 8 t.D9=.int .i64 t.a.E8:=by rw[Ex.N8];rfl
@[simp] theorem Ex.B5T:C8 9 t.D9=.int .i64 t.a.n:=by rw[Ex.N8];rfl
@[simp] theorem Ex.B23:C8 10 t.D9=.list 3 (t.a.D5.map Ty.D9):=by rw[Ex.N8];rfl
@[simp] theorem Ex.B24:C8 11 t.D9=.int .i64 t.b.E8:=by rw[Ex.N8];rfl
@[simp] theorem Ex.B25:C8 12 t.D9=.int .i64 t.b.n:=by rw[Ex.N8];rfl
@[simp] theorem Ex.B26:C8 13 t.D9=.list 3 (t.b.D5.map Ty.D9):=by rw[Ex.N8];rfl
@[simp] theorem Ex.A1L:C8 14 t.D9=.list 7 (t.J7.map F5.D9):=by rw[Ex.N8];rfl
@[simp] theorem Ex.A7f:C8 15 t.D9=.list 16 (t.D5.map Ex.D9):=by rw[Ex.N8];rfl
def Ex.AA:DV.agg [.int .i64 t.E8,.int .i64 t.lo,.int .i64 t.hi,.str t.name,.str t.arg,.int .i64 t.n,.str t.s,.int .i64 t.op,.int .i64 t.a.E8,.int .i64 t.a.n,.list 3 (t.a.D5.map Ty.D9),.int .i64 t.b.E8,.int .i64 t.b.n,.list 3 (t.b.D5.map Ty.D9),.list 7 (t.J7.map F5.D9),.list 16 (t.D5.map Ex.D9)]=t.D9:=(Ex.N8 t).symm
def Ex.LU{t k:Ex}(h:k∈t.D5):SizeOf.sizeOf k<SizeOf.sizeOf t:=by cases t;simp only[Ex.U7]at h;have:=zvq h;simp only[Ex.mk.sizeOf_spec];omega
def Ex.ind{P:Ex->Prop}(h:∀t,(∀k∈t.D5,P k)->P t)(t:Ex):P t :=h t λk hk=>Ex.ind h k
termination_by SizeOf.sizeOf t
decreasing_by exact Ex.LU hk
def Ex.size(t:Ex):Nat:=1+(t.D5.attach.map λk=>Ex.size k.1).sum
termination_by SizeOf.sizeOf t
decreasing_by exact Ex.LU k.2
def Ex.size_eq:t.size=1+(t.D5.map Ex.size).sum:=by rw[Ex.size];congr 2;exact zCq (f:=Ex.size) ..
def Ex.CG{t k:Ex}(h:k∈t.D5):k.size<t.size:=by rw[Ex.size_eq t];have:=JI (zuq (f:=Ex.size) h);omega
def Ex.V9(t:Ex):Nat:=1+t.name.size+t.arg.size+t.s.size+t.a.size+t.b.size+(t.J7.map F5.V9).sum+(t.D5.attach.map λk=>Ex.V9 k.1).sum
termination_by SizeOf.sizeOf t
decreasing_by exact Ex.LU k.2
def Ex.Bo:t.V9=1+t.name.size+t.arg.size+t.s.size+t.a.size+t.b.size+(t.J7.map F5.V9).sum+(t.D5.map Ex.V9).sum:=by rw[Ex.V9];congr 2;exact zCq (f:=Ex.V9) ..
def Ex.A0d:0<t.V9:=by rw[Ex.Bo];omega
def Ex.bz{t k:Ex}(h:k∈t.D5):k.V9<t.V9:=by rw[Ex.Bo t];have:=JI (zuq (f:=Ex.V9) h);omega
def Ex.A6V:t.D5.length<t.V9:=by
 rw[Ex.Bo];have:∀l:List Ex,l.length<=(l.map Ex.V9).sum:=by
  intro l;induction l with
  |nil=>simp
  |cons x l ih=>have:=Ex.A0d x;simp only[zbq,zeq,zsq];omega
 have:=this t.D5;omega
def Ex.u_:t.name.size<t.V9:=by rw[Ex.Bo];omega
def Ex.B4M:t.arg.size<t.V9:=by rw[Ex.Bo];omega
def Ex.A6W:t.s.size<t.V9:=by rw[Ex.Bo];omega
def Ex.A6T:t.a.size<t.V9:=by rw[Ex.Bo];omega
def Ex.A6U:t.b.size<t.V9:=by rw[Ex.Bo];omega
def Ex.vC:(t.J7.map F5.V9).sum<t.V9:=by rw[Ex.Bo];omega
inductive Tm where
 |mk (E8:Int) (lo:Int) (hi:Int) (name:ByteArray) (arg:ByteArray) (n:Int) (s:ByteArray) (op:Int) (label:Int) (neg:Bool) (vars:List Int) (a:Ty) (b:Ty) (args:List Ty) (J7:List F5) (D5:List Tm)
noncomputable instance:DecidableEq Tm:=λa b=>Classical.propDecidable (a=b)
inductive K8 where
 |mk (types:List Ty) (vars:List Int) (D5:List K8)
def K8.types:K8->List Ty | .mk x0 _ _=>x0
def K8.vars:K8->List Int | .mk _ x1 _=>x1
def K8.D5:K8->List K8 | .mk _ _ x2=>x2
variable (x0:List Ty)(x1:List Int)(x2:List K8)
@[simp] theorem K8.A0v:(K8.mk x0 x1 x2).types=x0:=rfl
@[simp] theorem K8.A94:(K8.mk x0 x1 x2).vars=x1:=rfl
@[simp] theorem K8.U7:(K8.mk x0 x1 x2).D5=x2:=rfl
def K8.D9:K8->DV
 |.mk x0 x1 x2=>.agg [.list 3 (x0.map Ty.D9),N9 x1,.list 3 (x2.map K8.D9)]
variable (t:K8)
theorem K8.N8:t.D9=.agg [.list 3 (t.types.map Ty.D9),N9 t.vars,.list 3 (t.D5.map K8.D9)]:=by cases t;rw[K8.D9];rfl
noncomputable instance:DecidableEq K8:=λa b=>Classical.propDecidable (a=b)
@[simp] theorem Jt:I5 3 t.D9=true:=by rw[K8.N8];rfl
@[simp] theorem K8.CK:C8 0 t.D9=.list 3 (t.types.map Ty.D9):=by rw[K8.N8];rfl
@[simp] theorem K8.FZ:C8 1 t.D9=N9 t.vars:=by rw[K8.N8];rfl
@[simp] theorem K8.Dl:C8 2 t.D9=.list 3 (t.D5.map K8.D9):=by rw[K8.N8];rfl
def K8.AA:DV.agg [.list 3 (t.types.map Ty.D9),N9 t.vars,.list 3 (t.D5.map K8.D9)]=t.D9:=(K8.N8 t).symm
def K8.LU{t k:K8}(h:k∈t.D5):SizeOf.sizeOf k<SizeOf.sizeOf t:=by cases t;simp only[K8.U7]at h;have:=zvq h;simp only[K8.mk.sizeOf_spec];omega
def K8.ind{P:K8->Prop}(h:∀t,(∀k∈t.D5,P k)->P t)(t:K8):P t :=h t λk hk=>K8.ind h k
termination_by SizeOf.sizeOf t
decreasing_by exact K8.LU hk
inductive B3O where
 |mk (E8:Int) (head:Int) (label:Int) (neg:Bool) (D5:List B3O)
noncomputable instance:DecidableEq B3O:=λa b=>Classical.propDecidable (a=b)
inductive Val where
 |mk (E8:Int) (n:Int) (s:ByteArray) (c:B3O) (D5:List Val)
noncomputable instance:DecidableEq Val:=λa b=>Classical.propDecidable (a=b)
@[simp] theorem Ty.ag(t:Ty):CB t.D9=t.D9:=by rw[Ty.N8];rfl
@[simp] theorem K8.ag:CB t.D9=t.D9:=by rw[K8.N8];rfl
@[simp] theorem F5.ag(t:F5):Ta t.D9=t.D9:=by rw[F5.N8];rfl
@[simp] theorem Ex.ag(t:Ex):X5 t.D9=t.D9:=by rw[Ex.N8];rfl
def Ex.pj(t:Ex):C8 0 t.D9=.int .i64 t.E8/\C8 1 t.D9=.int .i64 t.lo/\C8 2 t.D9=.int .i64 t.hi/\C8 3 t.D9=.str t.name/\C8 4 t.D9=.str t.arg/\C8 5 t.D9=.int .i64 t.n/\C8 6 t.D9=.str t.s/\C8 7 t.D9=.int .i64 t.op/\C8 8 t.D9=.int .i64 t.a.E8/\C8 9 t.D9=.int .i64 t.a.n/\C8 10 t.D9=.list 3 (t.a.D5.map Ty.D9)/\C8 11 t.D9=.int .i64 t.b.E8/\C8 12 t.D9=.int .i64 t.b.n/\C8 13 t.D9=.list 3 (t.b.D5.map Ty.D9)/\C8 14 t.D9=.list 7 (t.J7.map F5.D9)/\C8 15 t.D9=.list 16 (t.D5.map Ex.D9):=⟨t.CK,t.FZ,t.Dl,t.MO,t.fq,t.xC,t.oh,t.B1k,t.B1l,t.B5T,t.B23,t.B24,t.B25,t.B26,t.A1L,t.A7f⟩
def F5.pj(t:F5):C8 0 t.D9=.int .i64 t.E8/\C8 1 t.D9=.int .i64 t.lo/\C8 2 t.D9=.int .i64 t.hi/\C8 3 t.D9=.str t.name/\C8 4 t.D9=.int .i64 t.n/\C8 5 t.D9=.str t.s/\C8 6 t.D9=.list 7 (t.D5.map F5.D9):=⟨t.CK,t.FZ,t.Dl,t.MO,t.fq,t.xC,t.oh⟩
end
section
variable {α : Type}{β : Type}
@[simp] theorem N7(a : α)(f : α->Option β):ob (some a) f=f a:=rfl
@[simp] theorem C0z(f : α->Option β):ob none f=none:=rfl
@[simp] theorem F8(x:Option β):og true x=x:=rfl
@[simp] theorem B90(x:Option β):og false x=none:=rfl
@[simp] theorem F3(b:Bool)(x y:Option β):G8 (.bool b) x y=if b=true then x else y:=by cases b<;>rfl
@[simp] theorem Q3(b:Bool)(x y z:Option β):M9 (.bool b) x y z=if b=true then x else y:=by cases b<;>rfl
variable (sz:Nat)(ds:List DV)
@[simp] theorem Hl:O6 (.list sz ds)=some (.int .i64 ds.length):=rfl
variable (l:List Int)
@[simp] def B2f:O6 (N9 l)=some (.int .i64 l.length):=by simp[N9]
variable (l:List ByteArray)
@[simp] def B9V:O6 (Di l)=some (.int .i64 l.length):=by simp[Di]
@[simp] theorem B0t:A47 (.list sz ds)=some (sz,ds):=rfl
variable (s:ByteArray)
@[simp] theorem Fy:Ez (.str s)=some (.int .i64 s.size):=rfl
variable (k:IntKind)
@[simp] theorem BG(a b:Int):D7 .eql (.int k a) (.int k b)=some (.bool (decide (a=b))):=by simp only[D7,Oi,QC,F6];rfl
@[simp] theorem Dz(a b:Int):D7 .neq (.int k a) (.int k b)=some (.bool (!decide (a=b))):=by simp only[D7,Oi,QC,F6];rfl
@[simp] def Ie(a b:Int):D7 .lss (.int k a) (.int k b)=some (.bool (decide (a<b))):=by simp only[D7,Oi,QC,F6]
@[simp] def QD(a b:Int):D7 .leq (.int k a) (.int k b)=some (.bool (decide (a<=b))):=by simp only[D7,Oi,QC,F6]
@[simp] def FN(a b:Int):D7 .gtr (.int k a) (.int k b)=some (.bool (decide (b<a))):=by simp only[D7,Oi,QC,F6,gt_iff_lt]
@[simp] def Wl(a b:Int):D7 .geq (.int k a) (.int k b)=some (.bool (decide (b<=a))):=by simp only[D7,Oi,QC,F6,ge_iff_le]
def mQ(a b:Int):D7 .add (.int k a) (.int k b)=some (.int k (k.wrap (a+b))):=by simp only[D7,Oi,QC,F6]
def Jo(a b:Int):D7 .sub (.int k a) (.int k b)=some (.int k (k.wrap (a-b))):=by simp only[D7,Oi,QC,F6]
def Gq{n:Int}(h1 : -9223372036854775808<=n)(h2:n<=9223372036854775807):IntKind.i64.wrap n=n:=Go.IntWalk.i64_in n ⟨h1,h2⟩
def Rv{a b:Int}(h1 : -9223372036854775808<=a+b)(h2:a+b<=9223372036854775807):D7 .add (.int .i64 a) (.int .i64 b)=some (.int .i64 (a+b)):=by rw[mQ,Gq h1 h2]
variable {i:Nat}
def CX(h:i<9223372036854775807):D7 .add (.int .i64 (i:Int)) (.int .i64 1)=some (.int .i64 ((i+1:Nat):Int)):=by rw[Rv (by omega) (by omega)];simp
variable {c:Prop}
theorem B8m[Decidable c]{a b:Bool}:(if c then some (DV.bool a)else some (DV.bool b))=some (DV.bool (if c then a else b)):=by split<;>rfl
theorem B2A[Decidable c]{a b:Bool}:(if c then DV.bool a else DV.bool b)=DV.bool (if c then a else b):=by split<;>rfl
theorem B9F[Decidable c]{a b:DV}:(if c then some a else some b)=some (if c then a else b):=by split<;>rfl
def B8W{a b:Bool}(h:a=true↔b=true):some (DV.bool a)=some (DV.bool b):=by rw[y5q.2 h]
def tO:s.toList=s.data.toList:=by
 have loop:∀(n i:Nat)(r:List UInt8),s.size-i=n->ByteArray.toList.loop s i r=r.reverse++s.data.toList.drop i:=by
  intro n;induction n with
  |zero=>
    intro i r h;rw[ByteArray.toList.loop,A7 (by omega)];have:s.data.toList.length<=i:=by simp only[zRq];exact Nat.le_of_sub_eq_zero h
    simp[zYq this]
  |succ n ih=>
    intro i r h;have hi:i<s.size:=by omega
    rw[ByteArray.toList.loop,A9 hi,ih (i+1) _ (by omega)];have hl:i<s.data.toList.length:=by simpa using hi
    rw[zpq hl];have:s.get! i=s.data.toList[i]:=by simp only[ByteArray.get!,y9q];exact getElem!_pos s.data i hi
    rw[this];simp
 rw[ByteArray.toList,loop _ 0 [] rfl];simp
def A3m{a b:ByteArray}(h:a.toList=b.toList):a=b:=by rw[tO,tO]at h;cases a;cases b;simp only[ByteArray.mk.injEq];exact Array.ext' h
def tN(a b:ByteArray):(a.toList==b.toList)=decide (a=b):=by
 by_cases h:a=b
 ·subst h;simp
 ·have:a.toList≠b.toList:=λh'=>h (A3m h');simp[h,this]
@[simp] def tX(a b:ByteArray):D7 .eql (.str a) (.str b)=some (.bool (decide (a=b))):=by simp only[D7,jT];rw[tN]
@[simp] def Td(a b:ByteArray):D7 .neq (.str a) (.str b)=some (.bool (!decide (a=b))):=by simp only[D7,jT];rw[tN]
@[simp] theorem B9U(a b:Bool):B0q (.bool a) (.bool b)=some (a==b):=rfl
@[simp] theorem U2(b:Bool):l8 .not (.bool b)=some (.bool !b):=rfl
variable (n:Int)
@[simp] theorem Nl:I9 (.int k n)=true:=rfl
@[simp] theorem B9d(b:Bool):I9 (.bool b)=true:=rfl
@[simp] theorem VT:I9 (.str s)=true:=rfl
@[simp] theorem XX:I9 (.list sz ds)=true:=rfl
@[simp] theorem B9e(l:List Int):I9 (N9 l)=true:=rfl
@[simp] theorem B9f:I9 (Di l)=true:=rfl
@[simp] theorem VU:M8 (.int k n)=true:=rfl
@[simp] theorem B0X:M8 (.str s)=true:=rfl
@[simp] theorem B9W:Z4 false (.int .i64 n)=true:=rfl
@[simp] theorem B2z:Z4 true (.str s)=true:=rfl
def B2d(i:Nat):O0 sz (.list sz ds) (.int k (i:Int))=ds[i]?:=by simp[O0]
variable {k:IntKind}
theorem V8{e : α->DV}{sz:Nat}{l:List α}(h:i<l.length):O0 sz (.list sz (l.map e)) (.int k (i:Int))=some (e l[i]):=by rw[B2d,zhq,z3q h];rfl
def tZ{l:List Int}(h:i<l.length):O0 1 (N9 l) (.int k (i:Int))=some (.int .i64 l[i]):=V8 h
def A3s{l:List ByteArray}(h:i<l.length):O0 1 (Di l) (.int k (i:Int))=some (.str l[i]):=V8 h
def JW{sz:Nat}{a b:List DV}(h:a.length+b.length<=R6):Dh sz (.list sz a) (.list sz b)=some (.list sz (a++b)):=by simp[Dh,h]
def A3N{A X:Type}{l:List α}{P:Int->A->Option X}{I:Nat->A->Prop}{F:List α->A->Option X}(stop:∀a,I l.length a->P l.length a=F [] a)(step:∀(i:Nat)(h:i<l.length) a,I i a->(∀a',I (i+1) a'->P ((i:Int)+1) a'=F (l.drop (i+1)) a')->P i a=F (l[i]::l.drop (i+1)) a):
 ∀a,I 0 a->P 0 a=F l a:=by
 have key:∀(n i:Nat) a,i+n=l.length->I i a->P i a=F (l.drop i) a:=by
  intro n;induction n with
  |zero=>
    intro i a hi ha;have:i=l.length:=by omega
    subst this;rw[stop a ha,zZq]
  |succ n ih=>
    intro i a hi ha;have h:i<l.length:=by omega
    rw[zpq h];refine step i h a ha λa' ha'=>?_;have:=ih (i+1) a' (by omega) ha';push_cast at this;exact this
 intro a ha;have:=key l.length 0 a (by omega) ha;simpa using this
def bg{X:Type}{l:List α}{P:Int->Option X}{f : α->Bool}{y n:X}(stop:P l.length=some y)(step:∀(i:Nat)(h:i<l.length),P i=if f l[i]=true then P ((i:Int)+1)else some n):P 0=some (if l.all f=true then y else n):=by
 have:=A3N (l:=l) (P:=λi (_:Unit)=>P i) (I:=λ_ _=>True) (F:=λl _=>some (if l.all f=true then y else n)) (λ_ _=>by simpa using stop)
  (λi h a _ ih=>by
    rw[step i h];have h2:=ih () trivial;rw[h2];simp only[yjq,z5q]
    by_cases h3:f l[i]=true<;>simp[h3]) () trivial
 exact this
theorem fK{A X:Type}{l:List α}{P:Int->A->Option X}{g:A -> α->A}{fin:A->Option X}{I:Nat->A->Prop}(stop:∀a,I l.length a->P l.length a=fin a)(step:∀(i:Nat)(h:i<l.length) a,I i a->P i a=P ((i:Int)+1) (g a l[i])/\I (i+1) (g a l[i])):∀a,I 0 a->P 0 a=fin (l.foldl g a):=by refine A3N (F:=λl a=>fin (l.foldl g a)) (λa ha=>by simpa using stop a ha) λi h a ha ih=>?_;obtain⟨h1,h2⟩:=step i h a ha;rw[h1,ih _ h2];rfl
def A6N{X:Type}[DecidableEq α]{l m:List α}(hl:l.length=m.length){P:Int->Option X}{y n:X}(stop:P l.length=some y)(step:∀(i:Nat)(h:i<l.length),P i=if l[i]=m[i]'(by omega)then P ((i:Int)+1)else some n):P 0=some (if l=m then y else n):=by
 have key:∀(k i:Nat),i+k=l.length->P i=some (if l.drop i=m.drop i then y else n):=by
  intro k;induction k with
  |zero=>
    intro i hi;have:i=l.length:=by omega
    subst this;rw[stop,zZq,zYq (by omega),A9 rfl]
  |succ k ih=>
    intro i hi;have h:i<l.length:=by omega
    have h':i<m.length:=by omega
    have h2:=ih (i+1) (by omega);push_cast at h2;have e1:l.drop i=l[i]::l.drop (i+1):=zpq h;have e2:m.drop i=m[i]::m.drop (i+1):=zpq h';have e3:(l.drop i=m.drop i)↔(l[i]=m[i]/\l.drop (i+1)=m.drop (i+1)):=by rw[e1,e2,List.cons.injEq]
    rw[step i h,h2];by_cases h3:l[i]=m[i]<;>by_cases h4:l.drop (i+1)=m.drop (i+1)<;>simp only[e3,h3,h4,true_and,and_true,false_and,and_false,F6,G9]
 have:=key l.length 0 (by omega);simpa using this
theorem YQ{l:List α}{P:Int->Option DV}{f : α->Bool}(stop:P l.length=some (.bool true))(step:∀(i:Nat)(h:i<l.length),P i=if f l[i]=true then P ((i:Int)+1)else some (.bool false)):P 0=some (.bool (l.all f)):=by rw[bg stop step];cases l.all f<;>rfl
theorem A3M{l:List α}{P:Int->Option DV}{f : α->Bool}(stop:P l.length=some (.bool false))(step:∀(i:Nat)(h:i<l.length),P i=if f l[i]=true then some (.bool true)else P ((i:Int)+1)):P 0=some (.bool (l.any f)):=by have:=bg (l:=l) (P:=P) (f:=λx=> !f x) (y:=.bool false) (n:=.bool true) stop (λi h=>by rw[step i h];cases f l[i]<;>rfl);rw[this,show l.any f=!l.all (λx=> !f x)by rw[List.all_eq_not_any_not];simp];cases l.all (λx=> !f x)<;>rfl
end
section
mutual
def BU{H:Type}:DataW H->Nat
 |.lit (.string bytes)=>bytes.length+1
 |.lit _=>1
 |.nil=>1
 |.ptr d=>BU d+1
 |.slice elems spare=>Jd elems+Jd spare+1
 |.agg parts=>Jd parts+1
 |.iface _ d=>BU d+1
 |.map entries=>SK entries+1
 |.held _=>1
def Jd{H:Type}:List (DataW H)->Nat
 |[]=>0
 |d::r=>BU d+Jd r
def SK{H:Type}:List (Lit×DataW H)->Nat
 |[]=>0
 |x::r=>tL x+SK r
def tL{H:Type}:Lit×DataW H->Nat
 | (.string bytes,d)=>bytes.length+BU d+1
 | (_,d)=>BU d+1
end
variable (w:World)
def jA:AY:=λb _=>b<w.heap.size
section
variable {H:Type}{D9:TypeId×Value->H}{P:Program}{w:World}{held:Bool}
abbrev Rd(D9:TypeId×Value->H)(P:Program)(w:World)(held:Bool):Nat->TypeId->List Value->Option (DataW H×List MemPlace):=DataW.trod D9 P w 0 (λ_=>true) held
def B0i{l:List (DataW H)}{m:List Nat}(h1:m.length=l.length)(h2:∀(i:Nat)(a:Nat)(d:DataW H),m[i]?=some a->l[i]?=some d->a<=BU d):m.sum<=Jd l:=by
 induction l generalizing m with
 |nil=>cases m<;>simp_all
 |cons d l ih=>
   cases m with
   |nil=>simp at h1
   |cons a m=>simp only[zsq,Jd];have h3:=h2 0 a d rfl rfl;have h4:=ih (m:=m) (by simpa using h1) λi a d ha hd=>h2 (i+1) a d (by simpa using ha) (by simpa using hd);omega
theorem add_block(a:Addr)(k:Nat):(a.add k).block=a.block:=by unfold Addr.add;split<;>rfl
def B58(a:Addr)(k:Nat):(a.add k).off=a.off+k:=by unfold Addr.add;split<;>simp_all
variable {cs:List Value}
def A7n{a:Addr}{n:Nat}(h:w.cells? 0 a n=some cs)(hn:0<n):a.spot=none/\cs.length=n/\At (jA w) w.heap a.block a.off cs:=by
 obtain⟨-,hl,hc⟩:=World.cells?_some h;have hs:a.spot=none:=by
  have h0:=hc 0 hn;have:cs[0]?=some (cs[0]'(by omega)):=z3q (by omega);rw[this]at h0;unfold World.cell? at h0;split at h0
  ·split at h0
   ·cases h0
   ·rename_i hsp;simpa[Addr.add]using hsp
  ·cases h0
 refine⟨hs,hl,λj v hv=>?_⟩;have hj:j<n:=by rw[<- hl];exact(z0q.1 hv).1
 have h1:=hc j hj;have e:a.add j=⟨a.block,a.off+j,none⟩:=by
  unfold Addr.add;split
  ·rename_i h0;cases a;simp only at hs;subst hs;simp[h0]
  ·rfl
 rw[e,Me,hv]at h1;refine⟨h1,?_⟩;unfold Su.hc at h1;split at h1
 ·rename_i hb;exact(z1q.1 hb).1
 ·cases h1
variable {t:TypeId}{fuel:Nat}{x:DataW H×List MemPlace}
def ow{α : Type}{e : α->DV}{sz : α->Nat}{el:TypeId}(ht:P.underlying t=some (.slice el))(hz:0<P.cellsOf el)(h:∀n cs x,n<fuel->Rd D9 P w held n el cs=some x->∃a : α,RC (jA w) w.heap (e a) cs/\sz a<=BU x.1)(hr:Rd D9 P w held fuel t cs=some x):
 ∃l:List α,RC (jA w) w.heap (.list (P.cellsOf el) (l.map e)) cs/\(l.map sz).sum+1<=BU x.1:=by
 rcases DataW.trod_slice ht hr with⟨rfl,rfl⟩ | ⟨a,len,cap,elems,rest,n,rfl,rfl,rfl,hb,hlc,hcm,yZ,hi,hsp,-⟩
 ·refine⟨[],?_,by simp[BU]⟩;simp only[RC,zUq];exact⟨none,0,0,rfl,rfl,z8q _,λ_=>rfl,by simp,by simp⟩
 ·have each:∀i:Fin len,∃y : α,((i.1=0->a.spot=none)/\Elem (jA w) w.heap (P.cellsOf el) a.block (a.off+i.1 * P.cellsOf el) (e y))/\∀d,(elems.map (·.1))[i.1]?=some d->sz y<=BU d:=by intro i;have h1:=hi i.1 i.2;have h2:elems[i.1]?=some (elems[i.1]'(by omega)):=z3q (by omega);rw[h2]at h1;obtain⟨cs',h3,h4⟩:=y1q.1 h1;obtain⟨y,h5,h6⟩:=h n cs' _ (Nat.lt_succ_self n) h4;obtain⟨q1,q2,q3⟩:=A7n h3 hz;rw[add_block,B58]at q3;refine⟨y,⟨λh0=>by rw[h0]at q1;simpa[Addr.add]using q1,cs',q2,q3,h5⟩,λd hd=>?_⟩;rw[zhq,h2]at hd;simp only[zgq,D8]at hd;rw[<- hd];exact h6
  let f:Fin len -> α := λi=>(each i).choose
  have hf:=λi:Fin len=>(each i).choose_spec;refine⟨List.ofFn f,?_,?_⟩
  ·simp only[RC]
   refine⟨some a,len,cap,rfl,by simp,hlc,by simp,λ_=>hz,λy hy=>?_⟩;simp only[D8]at hy;subst hy;refine⟨λA2G=>?_,?_⟩
   ·by_cases hl:0<len
    ·exact(hf ⟨0,hl⟩).1.1 rfl
    ·obtain⟨r1,r2⟩:=hsp rfl;have h1:=r2 0 (by omega);have h2:rest[0]?=some (rest[0]'(by omega)):=z3q (by omega);rw[h2]at h1;obtain⟨cs',h3,-⟩:=y1q.1 h1;have hl0:len=0:=by omega
     have:=(A7n h3 hz).1;simpa[Addr.add,hl0]using this
   ·rw[EW];intro i d hd;rw[zhq,zmq]at hd;obtain⟨y,hy,rfl⟩:=hd;have P6:i<len:=by have:=(z0q.1 hy).1;simpa using this
    rw[yeq,dif_pos P6]at hy;simp only[D8]at hy;subst hy;exact(hf ⟨i,P6⟩).1.2
  ·simp only[BU]
   have:=B0i (l:=elems.map (·.1)) (m:=(List.ofFn f).map sz) (by simp[yZ]) λi b d hb hd=>by
    rw[zhq,zmq]at hb;obtain⟨y,hy,rfl⟩:=hb;have P6:i<len:=by have:=(z0q.1 hy).1;simpa using this
    rw[yeq,dif_pos P6]at hy;simp only[D8]at hy;subst hy;exact(hf ⟨i,P6⟩).2 d hd
   omega
def Aq{S:AY}{h:Heap}:∀{a b:List DV}{p q:List Value},FM S h a p->FM S h b q->FM S h (a++b) (p++q)
 |[],b,p,q,ha,hb=>by simp only[FM]at ha;subst ha;simpa using hb
 |d::a,b,p,q,ha,hb=>by simp only[FM]at ha;obtain⟨v,vs',rfl,h1,h2,h3⟩:=ha;simp only[List.cons_append,FM];exact⟨v,vs'++q,rfl,h1,h2,Aq h3 hb⟩
def EH{S:AY}{h:Heap}{d:DV}(hd:M8 d=true)(hr:RC S h d cs):FM S h [d] cs:=by obtain⟨v,rfl⟩:=MZ hd hr;exact⟨v,[],rfl,hd,hr,rfl⟩
def fw{fs:Array Field}(ht:P.underlying t=some (.struct fs))(hr:Rd D9 P w held fuel t cs=some x):
 ∃(n:Nat)(ds:List (DataW H)),fuel=n+1/\BU x.1=Jd ds+1/\cs.length=P.cellsOf t/\ds.length=fs.size /\∀(i:Nat) f,fs[i]?=some f->∃y,Rd D9 P w held n f.type ((cs.drop f.offset).take (P.cellsOf f.type))=some y/\ds[i]?=some y.1:=by
 obtain⟨xs,n,rfl,rfl,h1,h2,h3⟩:=DataW.trod_struct ht hr;refine⟨n,xs.map (·.1),rfl,by simp[BU],h1,by simpa using h2,λi f hf=>?_⟩;have hi:i<xs.length:=by rw[h2];exact(z1q.1 hf).1
 refine⟨xs[i],?_,by simp[z3q hi]⟩;have h4:=h3 i f hf;rw[z3q hi]at h4;exact h4
def Vk{k:IntKind}(ht:P.underlying t=some (.int k))(hr:Rd D9 P w held fuel t cs=some x):∃n:Int,RC (jA w) w.heap (.int k n) cs/\(Lit.int k n).wf=true/\1<=BU x.1:=by obtain⟨n,rfl,rfl,hw⟩:=DataW.trod_int ht hr;exact⟨n,by simp only[RC],hw,by simp[BU]⟩
def vP(ht:P.underlying t=some .string)(hr:Rd D9 P w held fuel t cs=some x):∃s:ByteArray,RC (jA w) w.heap (.str s) cs/\s.size+1<=BU x.1:=by obtain⟨s,rfl,rfl,hw⟩:=DataW.trod_string ht hr;exact⟨s,by simp only[RC],by simp[BU]⟩
def B1Z(d:DataW H):1<=BU d:=by
 cases d with
 |lit l=>cases l<;>simp[BU]
 |_=>simp[BU]
end
end
section
variable (P:Program)(t:TypeId)
def UL:Prop:=P.underlying t=some (.int .i64)/\P.cellsOf t=1
def wL:Prop:=P.underlying t=some .string/\P.cellsOf t=1
def SliceAt(el:TypeId):Prop:=P.underlying t=some (.slice el)/\P.cellsOf t=1
def A0R:Prop:=∃f0 f1:Field,P.underlying t=some (.struct #[f0,f1])/\P.cellsOf t=2/\(UL P f0.type/\f0.offset=0)/\(UL P f1.type/\f1.offset=1)
section
variable {H:Type}{D9:TypeId×Value->H}{P:Program}{w:World}{held:Bool}{t:TypeId}
def A9I(A:A0R P t){fuel:Nat}{cs:List Value}{x:DataW H×List MemPlace}(hr:Rd D9 P w held fuel t cs=some x):∃a b:Int,FM (jA w) w.heap [.int .i64 a,.int .i64 b] cs/\1<=BU x.1:=by
 obtain⟨f0,f1,hu,hc,⟨t0,o0⟩,t1,o1⟩:=A;obtain⟨n,ds,rfl,hb,hl,hd,hf⟩:=fw hu hr;obtain⟨y0,r0,d0⟩:=hf 0 f0 rfl;obtain⟨y1,r1,d1⟩:=hf 1 f1 rfl;rw[o0,t0.2]at r0;rw[o1,t1.2]at r1;rw[hc]at hl;obtain⟨k,q0,-,b0⟩:=Vk t0.1 r0;obtain⟨m,q1,-,b1⟩:=Vk t1.1 r1;refine⟨k,m,?_,B1Z _⟩;have e:cs=(cs.drop 0).take 1++(cs.drop 1).take 1:=by
  match cs,hl with
  |[a,b],_=>rfl
 rw[e];exact Aq (a:=[_]) (EH rfl q0) (EH rfl q1)
def A2b(P:Program)(t:TypeId):Prop:=∃f0 f1 f2:Field,P.underlying t=some (.struct #[f0,f1,f2])/\P.cellsOf t=3/\(UL P f0.type/\f0.offset=0)/\(UL P f1.type/\f1.offset=1)/\(SliceAt P f2.type t/\f2.offset=2)
def A2b.cells(A:A2b P t):P.cellsOf t=3:=by obtain⟨_,_,_,_,h,_⟩:=A;exact h
def B5X(A:A2b P t):∀(fuel:Nat)(cs:List Value)(x:DataW H×List MemPlace),Rd D9 P w held fuel t cs=some x->∃a:Ty,RC (jA w) w.heap a.D9 cs/\a.size<=BU x.1:=by
 intro fuel;induction fuel using Nat.strongRecOn with
 |ind fuel ih=>
   intro cs x hr;have A0:=A;obtain⟨f0,f1,f2,hu,hc,⟨t0,o0⟩,⟨t1,o1⟩,t2,o2⟩:=A;obtain⟨n,ds,rfl,hb,hl,hd,hf⟩:=fw hu hr;rw[hc]at hl;obtain⟨y0,r0,d0⟩:=hf 0 f0 rfl;rw[o0,t0.2]at r0;obtain⟨v0,q0,-,b0⟩:=Vk t0.1 r0;obtain⟨y1,r1,d1⟩:=hf 1 f1 rfl;rw[o1,t1.2]at r1;obtain⟨v1,q1,-,b1⟩:=Vk t1.1 r1;obtain⟨y2,r2,d2⟩:=hf 2 f2 rfl;rw[o2,t2.2]at r2;obtain⟨v2,q2,b2⟩:=ow (sz:=Ty.size) t2.1 (by rw[hc];omega) (λn' cs x hn h=>ih n' (by omega) cs x h) r2;rw[hc]at q2;refine⟨.mk v0 v1 v2,?_,?_⟩
   ·rw[Ty.N8];simp only[RC,Ty.IW,Ty.XA,Ty.U7];have e:cs=(cs.drop 0).take 1++((cs.drop 1).take 1++((cs.drop 2).take 1)):=by
     match cs,hl with
     |[c0,c1,c2],_=>rfl
    rw[e];exact(Aq (a:=[_]) (EH rfl q0) (Aq (a:=[_]) (EH rfl q1) (EH rfl q2)))
   ·rw[Ty.size_eq,hb];simp only[Ty.IW,Ty.XA,Ty.U7];have hs:ds=[y0.1,y1.1,y2.1]:=by
     have hd:ds.length=3:=hd
     match ds,hd,d0,d1,d2 with
     |[a0,a1,a2],_,d0,d1,d2=>simp_all
    rw[hs];simp only[Jd];omega
def A0Q(P:Program)(t:TypeId):Prop:=∃f0 f1 f2 f3 f4 f5:Field,P.underlying t=some (.struct #[f0,f1,f2,f3,f4,f5])/\P.cellsOf t=7/\(UL P f0.type/\f0.offset=0)/\(A0R P f1.type/\f1.offset=1)/\(wL P f2.type/\f2.offset=3)/\(UL P f3.type/\f3.offset=4)/\(wL P f4.type/\f4.offset=5)/\(SliceAt P f5.type t/\f5.offset=6)
def A0Q.cells(A:A0Q P t):P.cellsOf t=7:=by obtain⟨_,_,_,_,_,_,_,h,_⟩:=A;exact h
def B8S(A:A0Q P t):∀(fuel:Nat)(cs:List Value)(x:DataW H×List MemPlace),Rd D9 P w held fuel t cs=some x->∃a:F5,RC (jA w) w.heap a.D9 cs/\a.V9<=BU x.1:=by
 intro fuel;induction fuel using Nat.strongRecOn with
 |ind fuel ih=>
   intro cs x hr;have A0:=A;obtain⟨f0,f1,f2,f3,f4,f5,hu,hc,⟨t0,o0⟩,⟨t1,o1⟩,⟨t2,o2⟩,⟨t3,o3⟩,⟨t4,o4⟩,t5,o5⟩:=A;obtain⟨n,ds,rfl,hb,hl,hd,hf⟩:=fw hu hr;rw[hc]at hl;obtain⟨y0,r0,d0⟩:=hf 0 f0 rfl;rw[o0,t0.2]at r0;obtain⟨v0,q0,-,b0⟩:=Vk t0.1 r0;obtain⟨y1,r1,d1⟩:=hf 1 f1 rfl;obtain⟨g10,g11,gu1,gc1,gr1⟩:=id t1;rw[o1,gc1]at r1;obtain⟨v1,v1b,q1,b1⟩:=A9I t1 r1;obtain⟨y2,r2,d2⟩:=hf 2 f2 rfl;rw[o2,t2.2]at r2;obtain⟨v2,q2,b2⟩:=vP t2.1 r2;obtain⟨y3,r3,d3⟩:=hf 3 f3 rfl;rw[o3,t3.2]at r3;obtain⟨v3,q3,-,b3⟩:=Vk t3.1 r3;obtain⟨y4,r4,d4⟩:=hf 4 f4 rfl;rw[o4,t4.2]at r4;obtain⟨v4,q4,b4⟩:=vP t4.1 r4;obtain⟨y5,r5,d5⟩:=hf 5 f5 rfl;rw[o5,t5.2]at r5;obtain⟨v5,q5,b5⟩:=ow (sz:=F5.V9) t5.1 (by rw[hc];omega) (λn' cs x hn h=>ih n' (by omega) cs x h) r5;rw[hc]at q5;refine⟨.mk v0 v1 v1b v2 v3 v4 v5,?_,?_⟩
   ·rw[F5.N8];simp only[RC,F5.IW,F5.A1w,F5.A1s,F5.aD,F5.XA,F5.A2Z,F5.U7];have e:cs=(cs.drop 0).take 1++((cs.drop 1).take 2++((cs.drop 3).take 1++((cs.drop 4).take 1++((cs.drop 5).take 1++((cs.drop 6).take 1))))):=by
     match cs,hl with
     |[c0,c1,c2,c3,c4,c5,c6],_=>rfl
    rw[e];exact(Aq (a:=[_]) (EH rfl q0) (Aq (a:=[_,_]) (q1) (Aq (a:=[_]) (EH rfl q2) (Aq (a:=[_]) (EH rfl q3) (Aq (a:=[_]) (EH rfl q4) (EH rfl q5))))))
   ·rw[F5.Bo,hb];simp only[F5.IW,F5.A1w,F5.A1s,F5.aD,F5.XA,F5.A2Z,F5.U7];have hs:ds=[y0.1,y1.1,y2.1,y3.1,y4.1,y5.1]:=by
     have hd:ds.length=6:=hd
     match ds,hd,d0,d1,d2,d3,d4,d5 with
     |[a0,a1,a2,a3,a4,a5],_,d0,d1,d2,d3,d4,d5=>simp_all
    rw[hs];simp only[Jd];omega
def B7w(P:Program)(t:TypeId):Prop:=∃f0 f1 f2 f3 f4 f5 f6 f7 f8 f9 f10:Field,P.underlying t=some (.struct #[f0,f1,f2,f3,f4,f5,f6,f7,f8,f9,f10])/\P.cellsOf t=16/\(UL P f0.type/\f0.offset=0)/\(A0R P f1.type/\f1.offset=1)/\(wL P f2.type/\f2.offset=3)/\(wL P f3.type/\f3.offset=4)/\(UL P f4.type/\f4.offset=5)/\(wL P f5.type/\f5.offset=6)/\(UL P f6.type/\f6.offset=7)/\(A2b P f7.type/\f7.offset=8)/\(A2b P f8.type/\f8.offset=11)/\((∃el,SliceAt P f9.type el/\A0Q P el)/\f9.offset=14)/\(SliceAt P f10.type t/\f10.offset=15)
def B5W(A:B7w P t):∀(fuel:Nat)(cs:List Value)(x:DataW H×List MemPlace),Rd D9 P w held fuel t cs=some x->∃a:Ex,RC (jA w) w.heap a.D9 cs/\a.V9<=BU x.1:=by
 intro fuel;induction fuel using Nat.strongRecOn with
 |ind fuel ih=>
   intro cs x hr;have A0:=A;obtain⟨f0,f1,f2,f3,f4,f5,f6,f7,f8,f9,f10,hu,hc,⟨t0,o0⟩,⟨t1,o1⟩,⟨t2,o2⟩,⟨t3,o3⟩,⟨t4,o4⟩,⟨t5,o5⟩,⟨t6,o6⟩,⟨t7,o7⟩,⟨t8,o8⟩,⟨t9,o9⟩,t10,o10⟩:=A;obtain⟨n,ds,rfl,hb,hl,hd,hf⟩:=fw hu hr;rw[hc]at hl;obtain⟨y0,r0,d0⟩:=hf 0 f0 rfl;rw[o0,t0.2]at r0;obtain⟨v0,q0,-,b0⟩:=Vk t0.1 r0;obtain⟨y1,r1,d1⟩:=hf 1 f1 rfl;obtain⟨g10,g11,gu1,gc1,gr1⟩:=id t1;rw[o1,gc1]at r1;obtain⟨v1,v1b,q1,b1⟩:=A9I t1 r1;obtain⟨y2,r2,d2⟩:=hf 2 f2 rfl;rw[o2,t2.2]at r2;obtain⟨v2,q2,b2⟩:=vP t2.1 r2;obtain⟨y3,r3,d3⟩:=hf 3 f3 rfl;rw[o3,t3.2]at r3;obtain⟨v3,q3,b3⟩:=vP t3.1 r3;obtain⟨y4,r4,d4⟩:=hf 4 f4 rfl;rw[o4,t4.2]at r4;obtain⟨v4,q4,-,b4⟩:=Vk t4.1 r4;obtain⟨y5,r5,d5⟩:=hf 5 f5 rfl;rw[o5,t5.2]at r5;obtain⟨v5,q5,b5⟩:=vP t5.1 r5;obtain⟨y6,r6,d6⟩:=hf 6 f6 rfl;rw[o6,t6.2]at r6;obtain⟨v6,q6,-,b6⟩:=Vk t6.1 r6;obtain⟨y7,r7,d7⟩:=hf 7 f7 rfl;rw[o7,t7.cells]at r7;obtain⟨v7,q7,b7⟩:=B5X t7 _ _ _ r7;rw[Ty.N8]at q7;simp only[RC]at q7;obtain⟨y8,r8,d8⟩:=hf 8 f8 rfl;rw[o8,t8.cells]at r8;obtain⟨v8,q8,b8⟩:=B5X t8 _ _ _ r8;rw[Ty.N8]at q8;simp only[RC]at q8;obtain⟨y9,r9,d9⟩:=hf 9 f9 rfl;obtain⟨e9,s9,z9⟩:=t9;rw[o9,s9.2]at r9;obtain⟨v9,q9,b9⟩:=ow (sz:=F5.V9) s9.1 (by rw[z9.cells];omega) (λn' cs x hn h=>B8S z9 n' cs x h) r9;rw[z9.cells]at q9;obtain⟨y10,r10,d10⟩:=hf 10 f10 rfl;rw[o10,t10.2]at r10;obtain⟨v10,q10,b10⟩:=ow (sz:=Ex.V9) t10.1 (by rw[hc];omega) (λn' cs x hn h=>ih n' (by omega) cs x h) r10;rw[hc]at q10;refine⟨.mk v0 v1 v1b v2 v3 v4 v5 v6 v7 v8 v9 v10,?_,?_⟩
   ·rw[Ex.N8];simp only[RC,Ex.IW,Ex.A1w,Ex.A1s,Ex.aD,Ex.A5t,Ex.XA,Ex.A2Z,Ex.B1f,Ex.B3P,Ex.B31,Ex.A2W,Ex.U7];have e:cs=(cs.drop 0).take 1++((cs.drop 1).take 2++((cs.drop 3).take 1++((cs.drop 4).take 1++((cs.drop 5).take 1++((cs.drop 6).take 1++((cs.drop 7).take 1++((cs.drop 8).take 3++((cs.drop 11).take 3++((cs.drop 14).take 1++((cs.drop 15).take 1)))))))))):=by
     match cs,hl with
     |[c0,c1,c2,c3,c4,c5,c6,c7,c8,c9,c10,c11,c12,c13,c14,c15],_=>rfl
    rw[e];exact(Aq (a:=[_]) (EH rfl q0) (Aq (a:=[_,_]) (q1) (Aq (a:=[_]) (EH rfl q2) (Aq (a:=[_]) (EH rfl q3) (Aq (a:=[_]) (EH rfl q4) (Aq (a:=[_]) (EH rfl q5) (Aq (a:=[_]) (EH rfl q6) (Aq (a:=[_,_,_]) (q7) (Aq (a:=[_,_,_]) (q8) (Aq (a:=[_]) (EH rfl q9) (EH rfl q10)))))))))))
   ·rw[Ex.Bo,hb];simp only[Ex.IW,Ex.A1w,Ex.A1s,Ex.aD,Ex.A5t,Ex.XA,Ex.A2Z,Ex.B1f,Ex.B3P,Ex.B31,Ex.A2W,Ex.U7];have hs:ds=[y0.1,y1.1,y2.1,y3.1,y4.1,y5.1,y6.1,y7.1,y8.1,y9.1,y10.1]:=by
     have hd:ds.length=11:=hd
     match ds,hd,d0,d1,d2,d3,d4,d5,d6,d7,d8,d9,d10 with
     |[a0,a1,a2,a3,a4,a5,a6,a7,a8,a9,a10],_,d0,d1,d2,d3,d4,d5,d6,d7,d8,d9,d10=>simp_all
    rw[hs];simp only[Jd];omega
end
end
section
def IJ(k:Int):Int :=if k=1\/k=2\/k=3\/k=4\/k=5\/k=6 then 0 else if k=8 then 1 else if k=7\/k=9 then 2 else -1
def Ty.right:Ty->Bool
 |.mk k n ks=>decide (IJ k=ks.length)&&decide (0<=n)&&decide (n<=1048576)&&(decide (k=6)||decide (n=0))&&(ks.map Ty.right).all id
variable (t:Ty)
theorem Ty.right_eq:t.right=(decide (IJ t.E8=t.D5.length)&&decide (0<=t.n)&&decide (t.n<=1048576)&&(decide (t.E8=6)||decide (t.n=0))&&t.D5.all Ty.right):=by cases t;rw[Ty.right];simp[zKq];rfl
def Ty.Fw(q:Int):Ty->Bool
 |.mk k _ ks=> !decide (k=q)&&(ks.map (Ty.Fw q)).all id
theorem Ty.Zw(q:Int)(t:Ty):t.Fw q=(!decide (t.E8=q)&&t.D5.all (Ty.Fw q)):=by cases t;rw[Ty.Fw];simp[zKq];rfl
def Ty.Br:Ty->List Int->List Int
 |.mk k n ks,l=>ks.foldl (λl k=>Ty.Br k l) (if k=6/\n∉l then l++[n]else l)
def Ty.vars:List Int:=t.Br []
theorem Ty.gJ(l:List Int):t.Br l=t.D5.foldl (λl k=>k.Br l) (if t.E8=6/\t.n∉l then l++[t.n]else l):=by cases t;rw[Ty.Br];rfl
def Ty.qD:∀l:List Int,(t.Br l).length<=l.length+t.size:=by
 induction t using Ty.ind with
 |h t ih=>
   intro l;rw[Ty.gJ];have key:∀(ks:List Ty),(∀k∈ks,∀l:List Int,(k.Br l).length<=l.length+k.size)->∀l:List Int,(ks.foldl (λl k=>k.Br l) l).length<=l.length+(ks.map Ty.size).sum:=by
    intro ks;induction ks with
    |nil=>intro _ l;simp
    |cons k ks ihk=>intro h l;simp only[zPq,zeq,zsq];have h1:=ihk (λk' FU=>h k' (z2q _ FU)) (k.Br l);have h2:=h k (z4q ..) l;omega
   have h1:=key t.D5 ih (if t.E8=6/\t.n∉l then l++[t.n]else l);rw[Ty.size_eq];have h2:(if t.E8=6/\t.n∉l then l++[t.n]else l).length<=l.length+1:=by split<;>simp
   omega
def Ty.thin:Ty->Bool
 |.mk _ _ ks=>decide (ks.length<=R6)&&(ks.map Ty.thin).all id
theorem Ty.RS:t.thin=(decide (t.D5.length<=R6)&&t.D5.all Ty.thin):=by cases t;rw[Ty.thin];simp[zKq];rfl
def Ty.Gm(h:t.thin=true):t.D5.length<4294967297:=by rw[Ty.RS]at h;simp only[z5q,I6]at h;have:=h.1;unfold R6 at this;omega
def Ty.Ih{t k:Ty}(h:t.thin=true)(hk:k∈t.D5):k.thin=true:=by rw[Ty.RS]at h;simp only[z5q,z7q]at h;exact h.2 k hk
def Ty.Hy{t:Ty}:t.size<=R6->t.thin=true:=by
 induction t using Ty.ind with
 |h t ih=>intro h;rw[Ty.RS];simp only[z5q,I6,z7q];refine⟨by have:=t.A1v;omega,λk hk=>ih k hk (by have:=Ty.CG hk;omega)⟩
def B3X(k:Int):IJ k<=2:=by unfold IJ;split<;>(try split)<;>(try split)<;>omega
def Ty.rA{t:Ty}:t.right=true->t.thin=true:=by
 induction t using Ty.ind with
 |h t ih=>intro h;rw[Ty.right_eq]at h;simp only[z5q,I6,z7q]at h;rw[Ty.RS];simp only[z5q,I6,z7q];have:=B3X t.E8;refine⟨by unfold R6;omega,λk hk=>ih k hk (h.2 k hk)⟩
def Ty.Dx:Ty->Nat
 |.mk k _ ks=>(if k=6 then 1 else 0)+(ks.map Ty.Dx).sum
theorem Ty.wF:t.Dx=(if t.E8=6 then 1 else 0)+(t.D5.map Ty.Dx).sum:=by cases t;rw[Ty.Dx];rfl
def B1J{α : Type}{l:List α}{f g : α->Nat}(h:∀a∈l,f a<=g a):(l.map f).sum<=(l.map g).sum:=by
 induction l with
 |nil=>simp
 |cons a l ih=>simp only[zeq,zsq];have:=h a (z4q ..);have:=ih λb hb=>h b (z2q _ hb);omega
def Ty.iy:t.Dx<=t.size:=by
 induction t using Ty.ind with
 |h t ih=>rw[Ty.wF,Ty.size_eq];have:=B1J ih;split<;>omega
def Ty.A81:∀l:List Int,(t.Br l).length<=l.length+t.Dx:=by
 induction t using Ty.ind with
 |h t ih=>
   intro l;rw[Ty.gJ];have key:∀(ks:List Ty),(∀k∈ks,∀l:List Int,(k.Br l).length<=l.length+k.Dx)->∀l:List Int,(ks.foldl (λl k=>k.Br l) l).length<=l.length+(ks.map Ty.Dx).sum:=by
    intro ks;induction ks with
    |nil=>intro _ l;simp
    |cons k ks ihk=>intro h l;simp only[zPq,zeq,zsq];have h1:=ihk (λk' FU=>h k' (z2q _ FU)) (k.Br l);have h2:=h k (z4q ..) l;omega
   have h1:=key t.D5 ih (if t.E8=6/\t.n∉l then l++[t.n]else l);rw[Ty.wF];have h2:(if t.E8=6/\t.n∉l then l++[t.n]else l).length<=l.length+(if t.E8=6 then 1 else 0):=by
    by_cases h6:t.E8=6
    ·by_cases hn:t.n∈l<;>simp[h6,hn]
    ·simp[h6]
   omega
end
section
def Nj(f:DV->Option (List DV)):List DV->Option (List DV)
 |[]=>some []
 |d::ds=>ob (f d) λa=>ob (Nj f ds) λb=>some (a++b)
def BJ(sz kf:Nat):Nat->DV->Option (List DV)
 |0,_=>none
 |n+1,d=>
   match d with
   |.agg cs=>og (cs.length==sz) (match cs.getD kf .undef with
     |.list s ds=>og (s==sz&&decide (ds.length<=R6)) (ob (Nj (BJ sz kf n) ds) λl=>some (.agg cs::l))
     |_=>none)
   |_=>none
open Classical in
noncomputable def TB(sz kf:Nat)(cs:List DV):Option (List DV) :=if h:∃ds n,BJ sz kf n (.agg cs)=some ds then some h.choose else none
def Zf{f g:DV->Option (List DV)}(h:∀d l,f d=some l->g d=some l):∀{ds l:List DV},Nj f ds=some l->Nj g ds=some l
 |[],l,H=>H
 |d::ds,l,H=>by simp only[Nj]at H ⊢;obtain⟨a,h1,H⟩:=D6 H;obtain⟨b,h2,H⟩:=D6 H;rw[h _ _ h1,Zf h h2];exact H
def A6m{sz kf:Nat}:∀{n:Nat}{d:DV}{l:List DV},BJ sz kf n d=some l->BJ sz kf (n+1) d=some l
 |0,d,l,H=>by simp[BJ]at H
 |n+1,d,l,H=>by
   cases d with
   |agg cs=>
     rw[BJ]at H ⊢;obtain⟨h1,H⟩:=H6 H;rw[h1];cases hk:cs.getD kf .undef with
     |list s ds=>rw[hk]at H;simp only at H ⊢;obtain⟨h2,H⟩:=H6 H;rw[h2];obtain⟨a,h3,H⟩:=D6 H;rw[Zf (λd l h=>A6m h) h3];exact H
     |_=>rw[hk]at H;simp at H
   |_=>simp[BJ]at H
variable {n:Nat}{d:DV}{l:List DV}
def Ww{sz kf m:Nat}(h:n<=m)(H:BJ sz kf n d=some l):BJ sz kf m d=some l:=by
 induction m with
 |zero=>rw[zTq.1 h]at H;exact H
 |succ m ih=>
   rcases zrq m n with h1 | h1
   ·rw[show m+1=n by omega];exact H
   ·exact A6m (ih h1)
def A6l{sz kf:Nat}{cs ds:List DV}(H:BJ sz kf n (.agg cs)=some ds):TB sz kf cs=some ds:=by have h:∃ds n,BJ sz kf n (.agg cs)=some ds:=⟨ds,n,H⟩;unfold TB;rw[dif_pos h];obtain⟨m,hm⟩:=h.choose_spec;have h1:=Ww (zzq n m) H;have h2:=Ww (zDq m n) hm;rw[h1]at h2;exact h2.symm
def A1m{sz kf:Nat}{cs ds:List DV}(H:TB sz kf cs=some ds):∃n,BJ sz kf n (.agg cs)=some ds:=by
 unfold TB at H;split at H
 ·rename_i h;simp only[D8]at H;rw[<- H];exact h.choose_spec
 ·cases H
structure PM(E:Env)(W:World)(E':Env)(W':World):Prop where
 size:W.heap.size<=W'.heap.size
 blk:∀b,b<W.heap.size->(∀o,E.O b o=.other)->W'.heap[b]?=W.heap[b]?/\∀o,E'.O b o=.other
 sh:AJ E.S W.heap E'.S W'.heap
variable {E:Env}{W:World}
def PM.trans{E1 E2:Env}{W1 W2:World}(h:PM E W E1 W1)(k:PM E1 W1 E2 W2):PM E W E2 W2:=by refine⟨zyq h.size k.size,λb hb ho=>?_,⟨λb o hs=>k.sh.s b o (h.sh.s b o hs),λb o v hs hv=>k.sh.c b o v (h.sh.s b o hs) (h.sh.c b o v hs hv)⟩⟩;obtain⟨h1,h2⟩:=h.blk b hb ho;obtain⟨h3,h4⟩:=k.blk b (ztq hb h.size) h2;exact⟨h3.trans h1,h4⟩
def PM.B5R{E':Env}{W':World}(P:Pr P8 E W.heap E' W'.heap)(hf:∀b o,W.heap.size<=b->E.O b o=.other):PM E W E' W':=by
 refine⟨P.size,λb hb ho=>⟨?_,λo=>P.XB hb (ho o)⟩,P.Q8 (by simp[P8]) hf⟩;have hk:=P.blk b hb;have QS:W.heap[b]?=some W.heap[b]:=zjq hb;rw[QS]at hk ⊢;unfold X4 at hk;split at hk
 ·rename_i hx;cases hx
 ·rename_i c T f hx;simp only[D8]at hx;obtain⟨c',h1,h2,h3⟩:=hk;rw[h1,hx];congr 2;refine yiq λo=>h3 o ?_;rw[ho o];simp[P8]
 ·rename_i ob _ hx;simp only[D8]at hx;rw[hx];exact hk (by rw[ho 0];simp[P8])
def Pt.alloc(o:Obj):Pt n E W (W.alloc o):=by refine⟨by simp,λb hb=>.inl ?_,⟨rfl,rfl,rfl⟩⟩;exact Go.RowKit.Below.heap_alloc _ _ _ hb
def PM.alloc(o:Obj)(hf:∀b o,W.heap.size<=b->E.O b o=.other):PM E W E (W.alloc o):=by
 refine⟨by simp,λb hb ho=>⟨Go.RowKit.Below.heap_alloc _ _ _ hb,ho⟩,λ_ _ h=>h,λb o' v hs hv=>?_⟩;have hb:b<W.heap.size:=by
  rcases zrq b W.heap.size with h | h
  ·exact h
  ·have h9:=hf b o' h;rw[show E.O b o'=.Q8 from hs]at h9;cases h9
 unfold hc at hv ⊢;rw[show(W.alloc o).heap[b]?=W.heap[b]? from Go.RowKit.Below.heap_alloc _ _ _ hb];exact hv
def PM.same{W':World}(hs:W.heap.size<=W'.heap.size)(h:∀b,b<W.heap.size->W'.heap[b]?=W.heap[b]?)(hf:∀b o,W.heap.size<=b->E.O b o=.other):PM E W E W':=by
 refine⟨hs,λb hb ho=>⟨h b hb,ho⟩,λ_ _ h=>h,λb o' v hv ug=>?_⟩;have hb:b<W.heap.size:=by
  rcases zrq b W.heap.size with h | h
  ·exact h
  ·have h9:=hf b o' h;rw[show E.O b o'=.Q8 from hv]at h9;cases h9
 unfold hc at ug ⊢;rw[h b hb];exact ug
def Pt.same{W':World}(hs:W.heap.size<=W'.heap.size)(h:∀b,b<W.heap.size->W'.heap[b]?=W.heap[b]?)(ho:Y9 W W'):Pt n E W W' :=⟨hs,λb hb=>.inl (h b hb),ho⟩
def flat_agg{sz kf:Nat}{S:AY}{h:Heap}{us:List Value}(H:BJ sz kf n d=some l)(R:RC S h d us):RV S h d (.agg us.toArray):=by
 cases n with
 |zero=>simp[BJ]at H
 |succ n=>
   cases d with
   |agg cs=>simp only[RC]at R;simp only[RV];exact⟨_,rfl,R⟩
   |_=>simp[BJ]at H
def A9n{ds ks pre sa sb:List DV}{k:Nat}(Io:∀(j:Nat) x,(d::ks)[j]?=some x->ds[k+j]?=some x)(hk:ks=pre++(sa++sb))(j:Nat)(x:DV)(hj:sa[j]?=some x):ds[k+1+pre.length+j]?=some x:=by
 have bT:=(z0q.1 hj).1;have:=Io (pre.length+j+1) x (by rw[zcq,hk,zEq (by omega),zSq,zdq bT];exact hj)
 rw[<- this];congr 1;omega
def AU{P:Program}{b j:Nat}{c:Array Value}{T:TypeId}{u:Value}(hb:W.heap[b]?=some (.cells c T (0,0)))(hj:j<c.size)(hu:u.oneCell'=true):
 ∃W',(store ⟨b,j,none⟩ u).run P W=.ok () W'/\W'.heap[b]?=some (.cells (c.setIfInBounds j u) T (0,0))/\(∀b',b'≠b->W'.heap[b']?=W.heap[b']?)/\W'.heap.size=W.heap.size/\Y9 W W':=by
 refine⟨W.setCell ⟨b,j,none⟩ u,?_,?_,λb' QS=>?_,by simp[World.setCell],⟨rfl,rfl,rfl⟩⟩
 ·rw[run_store _ _ _ _ _ hu];simp[World.cell?,World.frozen?,hb,hj]
 ·simp[World.setCell,y6q,hb]
 ·simp[World.setCell,y6q,Ne.symm QS]
end
section
variable (s:ByteArray)
def Bq:List Int:=s.data.toList.map λb=>(b.toNat:Int)
def Od:(Bq s).length=s.size:=by simp[Bq]
variable {k:IntKind}
def af{s:ByteArray}{i:Nat}(h:i<(Bq s).length):IM (.str s) (.int k (i:Int))=some (.int .u8 (Bq s)[i]):=by
 have h':i<s.data.size:=by simpa[Bq]using h
 have e:s.data[i]?=some s.data[i]:=zjq h';simp only[IM,Int.natCast_nonneg,F6,Int.toNat_natCast,e,zgq,Bq,y0q,y9q]
variable (c:Int)
def GV:Bool:=decide (97<=c)&&decide (c<=122)
def tq:Bool:=decide (48<=c)&&decide (c<=57)
def RG:Bool:=GV c||tq c||(decide (65<=c)&&decide (c<=90))||decide (c=95)||decide (c=39)
def uu:List (List UInt8):=[[108,101,116],[114,101,99],[105,110],[102,117,110],[105,102],[116,104,101,110],[101,108,115,101],[109,97,116,99,104],[119,105,116,104],[101,110,100],[116,114,117,101],[102,97,108,115,101],[105,110,116],[98,111,111,108],[115,116,114,105,110,103],[117,110,105,116],[108,105,115,116]]
def zy:Bool:=decide (s.data.toList∈uu)
def KQ:Bool :=decide (1<=s.size)&&decide (s.size<=32)&&GV ((Bq s).getD 0 0)&&(Bq s).all RG&&!zy s
def DZ:List UInt8:=[32,108,101,116,32,114,101,99,32,105,110,32,102,117,110,32,105,102,32,116,104,101,110,32,101,108,115,101,32,109,97,116,99,104,32,119,105,116,104,32,101,110,100,32,116,114,117,101,32,102,97,108,115,101,32,105,110,116,32,98,111,111,108,32,115,116,114,105,110,103,32,117,110,105,116,32,108,105,115,116,32]
def A0a(c:UInt8):Bool:=decide (97<=c)&&decide (c<=122)
def B1P:(List.range 81).all (λj=>(List.range 80).all λn=>
 !(decide (j+n+2<=81)&&((DZ.drop j).take 1==[32])&&((DZ.drop (j+n+1)).take 1==[32])&&((DZ.drop (j+1)).take n).all A0a&&decide (0<n))||decide ((DZ.drop (j+1)).take n∈uu))=true:=by
 decide +kernel
def B2D:uu.all (λx=>decide (0<x.length)&&x.all A0a&&(List.range 81).any λj=>decide (j+(x.length+2)<=81)&&(DZ.drop j).take (x.length+2)==32::x++[32])=true:=by decide +kernel
theorem B3L:DZ.length=81:=rfl
def B3K(x:List UInt8):(x.all A0a=true/\0<x.length/\∃j:Nat,j+(x.length+2)<=81/\(DZ.drop j).take (x.length+2)=32::x++[32])↔x∈uu:=by
 constructor
 ·rintro⟨h1,h2,j,h3,h4⟩;have h5:=z7q.1 (z7q.1 B1P j (by simp;omega)) x.length (by simp;omega);have e:(DZ.drop (j+1)).take x.length=x:=by have:=congrArg (λl=>(l.drop 1).take x.length) h4;simp only[ywq,yxq]at this;simpa[ydq]using this
  have e1:(DZ.drop j).take 1=[32]:=by have:=congrArg (λl=>l.take 1) h4;simpa[ydq]using this
  have e2:(DZ.drop (j+x.length+1)).take 1=[32]:=by have:=congrArg (λl=>(l.drop (x.length+1)).take 1) h4;simp only[ywq,yxq]at this;simpa[ydq,Nat.add_assoc,zSq,show x.length+2-(x.length+1)=1 by omega]using this
  rw[e,e1,e2]at h5;simpa[h1,h2,show j+x.length+2<=81 by omega]using h5
 ·intro h;have h5:=z7q.1 B2D x h;simp only[z5q,I6,List.any_eq_true,beq_iff_eq,yyq]at h5;obtain⟨⟨h1,h2⟩,j,h3,h4,h6⟩:=h5;exact⟨h2,h1,j,h4,h6⟩
def A3K(a b:ByteArray):FV (.str a) (.str b)=decide (a=b):=by simp only[FV];exact tN a b
theorem A3J(k k':IntKind)(a b:Int):FV (.int k a) (.int k' b)=decide (a=b):=by simp only[FV];rfl
def B00{a:ByteArray}{d:DV}(h:FV (.str a) d=true):d=.str a:=by
 cases d<;>simp only[FV]at h<;>try cases h
 rename_i s;have:=A3m (a:=a) (b:=s) (by simpa using h);rw[this]
variable (es:List (DV×DV))
def B4K(a b:ByteArray)(v:DV):V7 (Bb es (.str a) v) (.str b)=if a=b then some v else V7 es (.str b):=by
 induction es with
 |nil=>by_cases h:a=b<;>simp[Bb,V7,A3K,h,eq_comm]
 |cons e es ih=>
   unfold Bb;by_cases h1:FV (.str a) e.1=true
   ·rw[A9 h1];have:=B00 h1;simp only[V7,zQq,this,A3K]
    by_cases h:a=b
    ·subst h;simp
    ·have:¬b=a:=λh'=>h h'.symm;simp[h,this]
   ·rw[A7 h1];simp only[V7,zQq]at ih ⊢;by_cases h2:FV (.str b) e.1=true
    ·simp only[h2]
     by_cases h:a=b
     ·subst h;exact absurd h2 h1
     ·simp[h]
    ·simp only[h2]
     exact ih
def B0Z{a:Int}{d:DV}(h:FV (.int k a) d=true):∃k',d=.int k' a:=by
 cases d<;>simp only[FV]at h<;>try cases h
 rename_i k' n;exact⟨k',by rw[show a=n by simpa using h]⟩
def fM(a b:Int)(v:DV):V7 (Bb es (.int .i64 a) v) (.int .i64 b)=if a=b then some v else V7 es (.int .i64 b):=by
 induction es with
 |nil=>by_cases h:a=b<;>simp[Bb,V7,A3J,h,eq_comm]
 |cons e es ih=>
   unfold Bb;by_cases h1:FV (.int .i64 a) e.1=true
   ·rw[A9 h1];obtain⟨k',this⟩:=B0Z h1;simp only[V7,zQq,this,A3J]
    by_cases h:a=b
    ·subst h;simp
    ·have:¬b=a:=λh'=>h h'.symm;simp[h,this]
   ·rw[A7 h1];simp only[V7,zQq]at ih ⊢;by_cases h2:FV (.int .i64 b) e.1=true
    ·simp only[h2]
     by_cases h:a=b
     ·subst h;exact absurd h2 h1
     ·simp[h]
    ·simp only[h2]
     exact ih
def Y4:ByteArray:=⟨#[]⟩
variable (p:F5)
def F5.one:Bool :=
 if p.E8=1\/p.E8=6\/p.E8=8 then decide (p.D5.length=0)&&decide (p.name=Y4)&&decide (p.n=0)&&decide (p.s=Y4)
 else if p.E8=2 then KQ p.name&&decide (p.D5.length=0)&&decide (p.n=0)&&decide (p.s=Y4)
 else if p.E8=3 then decide (p.D5.length=0)&&decide (p.name=Y4)&&decide (p.s=Y4)
 else if p.E8=4 then decide (p.n=0\/p.n=1)&&decide (p.D5.length=0)&&decide (p.name=Y4)&&decide (p.s=Y4)
 else if p.E8=5 then decide (p.s.size<=200)&&decide (p.D5.length=0)&&decide (p.name=Y4)&&decide (p.n=0)
 else if p.E8=7\/p.E8=9 then decide (p.D5.length=2)&&decide (p.name=Y4)&&decide (p.n=0)&&decide (p.s=Y4)
 else false
def F5.thin:F5->Bool
 |.mk _ _ _ _ _ _ ks=>decide (ks.length<=R6)&&(ks.map F5.thin).all id
variable (t:F5)
theorem F5.RS:t.thin=(decide (t.D5.length<=R6)&&t.D5.all F5.thin):=by cases t;rw[F5.thin];simp[zKq];rfl
def F5.Gm(h:t.thin=true):t.D5.length<4294967297:=by rw[F5.RS]at h;simp only[z5q,I6]at h;have:=h.1;unfold R6 at this;omega
def F5.Ih{t k:F5}(h:t.thin=true)(hk:k∈t.D5):k.thin=true:=by rw[F5.RS]at h;simp only[z5q,z7q]at h;exact h.2 k hk
def F5.Hy{t:F5}:t.size<=R6->t.thin=true:=by
 induction t using F5.ind with
 |h t ih=>intro h;rw[F5.RS];simp only[z5q,I6,z7q];refine⟨by have:=t.A1v;omega,λk hk=>ih k hk (by have:=F5.CG hk;omega)⟩
def F5.pat:F5->Bool
 |.mk a b c d e f ks=>F5.one (.mk a b c d e f ks)&&(ks.map F5.pat).all id
def F5.lK:t.pat=(t.one&&t.D5.all F5.pat):=by cases t;rw[F5.pat];simp[zKq]
def F5.Gf:F5->List ByteArray->List ByteArray
 |.mk k _ _ nm _ _ ks,l=>ks.foldl (λl k=>F5.Gf k l) (if k=2 then l++[nm]else l)
theorem F5.oN(l:List ByteArray):t.Gf l=t.D5.foldl (λl k=>k.Gf l) (if t.E8=2 then l++[t.name]else l):=by cases t;rw[F5.Gf];rfl
def F5.names:List ByteArray:=t.Gf []
def F5.yn:∀l:List ByteArray,(t.Gf l).length<=l.length+t.size:=by
 induction t using F5.ind with
 |h t ih=>
   intro l;rw[F5.oN];have key:∀(ks:List F5),(∀k∈ks,∀l:List ByteArray,(k.Gf l).length<=l.length+k.size)->∀l:List ByteArray,(ks.foldl (λl k=>k.Gf l) l).length<=l.length+(ks.map F5.size).sum:=by
    intro ks;induction ks with
    |nil=>intro _ l;simp
    |cons k ks ihk=>intro h l;simp only[zPq,zeq,zsq];have h1:=ihk (λk' FU=>h k' (z2q _ FU)) (k.Gf l);have h2:=h k (z4q ..) l;omega
   have h1:=key t.D5 ih (if t.E8=2 then l++[t.name]else l);rw[F5.size_eq];have h2:(if t.E8=2 then l++[t.name]else l).length<=l.length+1:=by split<;>simp
   omega
def F5.subs:F5->List F5
 |.mk a b c d e f ks=>.mk a b c d e f ks::(ks.map F5.subs).flatten
theorem F5.Oo:t.subs=t::t.D5.flatMap F5.subs:=by cases t;rw[F5.subs];rfl
def Ym:List ByteArray:=if p.E8=2 then[p.name]else[]
def F5.A62:∀l:List ByteArray,t.Gf l=l++t.subs.flatMap Ym:=by
 induction t using F5.ind with
 |h t ih=>
   intro l;have key:∀(ks:List F5),(∀k∈ks,∀l:List ByteArray,k.Gf l=l++k.subs.flatMap Ym)->∀l:List ByteArray,ks.foldl (λl k=>k.Gf l) l=l++(ks.flatMap F5.subs).flatMap Ym:=by
    intro ks;induction ks with
    |nil=>intro _ l;simp
    |cons k ks ihk=>intro h l;simp only[zPq,ykq,List.flatMap_append];rw[ihk (λk' FU=>h k' (z2q _ FU)),h k (z4q ..)];simp
   rw[F5.oN,key t.D5 ih,F5.Oo];simp only[ykq,Ym]
   by_cases h:t.E8=2<;>simp[h,Ym]
def F5.B4Y:t.pat=t.subs.all F5.one:=by
 induction t using F5.ind with
 |h t ih=>
   rw[F5.lK,F5.Oo];simp only[yjq,ypq]
   congr 1;rw[y5q];simp only[z7q];constructor
   ·intro h k hk x hx;have:=h k hk;rw[ih k hk]at this;exact z7q.1 this x hx
   ·intro h k hk;rw[ih k hk];exact z7q.2 (h k hk)
def F5.right:Bool:=t.pat&&decide t.names.Nodup
def B4m:t.thin=true->∃n,BJ 7 6 n t.D9=some (t.subs.map F5.D9):=by
 induction t using F5.ind with
 |h t ih=>
   intro ht;have key:∀ks:List F5,(∀k∈ks,∃n,BJ 7 6 n k.D9=some (k.subs.map F5.D9))->∃n,Nj (BJ 7 6 n) (ks.map F5.D9)=some ((ks.flatMap F5.subs).map F5.D9):=by
    intro ks;induction ks with
    |nil=>intro _;exact⟨0,rfl⟩
    |cons k ks ihk=>
      intro h;obtain⟨n,hn⟩:=h k (z4q ..);obtain⟨m,hm⟩:=ihk λk' FU=>h k' (z2q _ FU);refine⟨n+m,?_⟩;simp only[zeq,Nj,Ww (zzq n m) hn,Zf (λd l h=>Ww (zDq m n) h) hm,N7]
      simp
   obtain⟨n,hn⟩:=key t.D5 λk hk=>ih k hk (F5.Ih ht hk);refine⟨n+1,?_⟩;rw[F5.RS]at ht;simp only[z5q,I6]at ht;rw[F5.N8,BJ];simp only[zbq,zBq,yaq,ybq,zOq,hn,N7,F5.Oo t,zeq];simp[ht.1,F5.N8]
def F5.texts:Prop:=p.name.size<=4294967000/\p.s.size<=4294967000
def F5.txt:Prop:=∀q∈p.subs,q.texts
def F5.B47:p∈p.subs:=by rw[F5.Oo];exact z4q ..
def F5.B6y{p k q:F5}(h:k∈p.D5)(hq:q∈k.subs):q∈p.subs:=by rw[F5.Oo];exact z2q _ (zwq.2 ⟨k,h,hq⟩)
def F5.B7s{p k:F5}(h:p.txt)(hk:k∈p.D5):k.txt:=λq hq=>h q (F5.B6y hk hq)
end
section
structure F5.fit(p:F5):Prop where
 size:p.size<=R6
 txt:p.txt
variable {p:F5}
def F5.zg(h:p.fit):p.thin=true:=F5.Hy h.size
structure Ex.TL(t:Ex):Prop where
 name:t.name.size<=4294967000
 arg:t.arg.size<=4294967000
 s:t.s.size<=4294967000
 a:t.a.thin=true
 b:t.b.thin=true
 avc:t.a.Dx<=R6
 bvc:t.b.Dx<=R6
 J7:t.J7.length<R6
 pat:∀p∈t.J7,p.fit
 D5:t.D5.length<R6
inductive Ex.fit:Ex->Prop where
 |mk (t:Ex):t.TL->(∀k∈t.D5,k.fit)->t.fit
def Ex.fit.one{t:Ex}(h:t.fit):t.TL:=by cases h;assumption
def Ex.fit.kid{t k:Ex}(h:t.fit)(hk:k∈t.D5):k.fit:=by cases h with | mk _ _ g=>exact g k hk
def F5.NP(p:F5):p.size<=p.V9:=by
 induction p using F5.ind with
 |h p ih=>
   rw[F5.size_eq,F5.Bo];have key:∀ks:List F5,(∀k∈ks,k.size<=k.V9)->(ks.map F5.size).sum<=(ks.map F5.V9).sum:=by
    intro ks;induction ks with
    |nil=>simp
    |cons k ks ihk=>intro h;simp only[zeq,zsq];have:=h k (z4q ..);have:=ihk λk' FU=>h k' (z2q _ FU);omega
   have:=key p.D5 ih;omega
def F5.B5o:∀q∈p.subs,q.V9<=p.V9:=by
 induction p using F5.ind with
 |h p ih=>
   intro q hq;rw[F5.Oo]at hq;rcases zkq.1 hq with rfl | hq
   ·exact z8q _
   ·obtain⟨k,hk,hq⟩:=zwq.1 hq;have:=ih k hk q hq;have:=F5.bz hk;omega
def F5.Wq(h:p.V9<=4294967000):p.fit:=by refine⟨by have:=p.NP;unfold R6;omega,λq hq=>?_⟩;have:=F5.B5o q hq;exact⟨by have:=q.u_;omega,by have:=q.A6W;omega⟩
def B7q{l:List Nat}(h:∀a∈l,0<a):l.length<=l.sum:=by
 induction l with
 |nil=>simp
 |cons a l ih=>have:=h a (z4q ..);have:=ih λb hb=>h b (z2q _ hb);simp only[zbq,zsq];omega
def A9v{α : Type}{l:List α}{f : α->Nat}(h:∀a,0<f a):l.length<=(l.map f).sum:=by have:=B7q (l:=l.map f) (by intro a ha;obtain⟨x,_,rfl⟩:=List.mem_map.1 ha;exact h x);simpa using this
def B6C{α : Type}{l:List α}{f : α->Nat}{a : α}(h:a∈l):f a<=(l.map f).sum:=JI (zuq (f:=f) h)
def Ex.Wq{t:Ex}:t.V9<=4294967000->t.fit:=by
 induction t using Ex.ind with
 |h t ih=>
   intro h;refine .mk t ⟨by have:=t.u_;omega,by have:=t.B4M;omega,by have:=t.A6W;omega,Ty.Hy (by have:=t.A6T;unfold R6;omega),Ty.Hy (by have:=t.A6U;unfold R6;omega),by have:=t.A6T;have:=t.a.iy;unfold R6;omega,by have:=t.A6U;have:=t.b.iy;unfold R6;omega,?_,λp hp=>?_,?_⟩ λk hk=>ih k hk (by have:=Ex.bz hk;omega)
   ·have:=t.vC;have:=A9v (l:=t.J7) F5.A0d;unfold R6;omega
   ·have:=t.vC;have:=B6C (f:=F5.V9) hp;exact F5.Wq (by omega)
   ·have:=t.A6V;unfold R6;omega
def Ty.none(t:Ty):Bool:=decide (t.E8=0)&&decide (t.n=0)&&decide (t.D5.length=0)
def Ty.A65{t:Ty}:t.none=true↔t=.mk 0 0 []:=by unfold Ty.none;rw[Ty.zf];simp[and_assoc]
def Vd(h:Bool)(s:ByteArray):Bool:=if h=true then KQ s else decide (s=Y4)
end
theorem fQ:Y4.size=0:=rfl
section
variable (l:List (Int×Ty))
def look(n:Int):Option Ty:=(l.find? λe=>decide (e.1=n)).map (·.2)
def Ty.put(l:List (Int×Ty)):Ty->Ty
 |.mk k n ks=>if k=6 then(look l n).getD (.mk k n ks)else .mk k n (ks.map (Ty.put l))
theorem Ty.put_eq(t:Ty):t.put l=if t.E8=6 then(look l t.n).getD t else .mk t.E8 t.n (t.D5.map (Ty.put l)):=by cases t;rw[Ty.put];rfl
def Ns:Bool:=l.all λe=>decide (0<=e.1)&&decide (e.1<=1048576)&&e.2.right
def A79:Ty:=.mk 0 0 []
def QG(e:Int×Ty):DV:=.agg [.int .i64 e.1,.int .i64 e.2.E8,.int .i64 e.2.n,.list 3 (e.2.D5.map Ty.D9)]
def IP:DV:=.list 4 (l.map QG)
def Ty.A34{t:Ty}:t.right=true↔IJ t.E8=t.D5.length/\0<=t.n/\t.n<=1048576/\(t.E8=6\/t.n=0)/\∀k∈t.D5,k.right=true:=by rw[Ty.right_eq];simp only[z5q,y2q,I6,z7q,and_assoc]
def Ty.Bf{t k:Ty}(h:t.right=true)(hk:k∈t.D5):k.right=true:=(Ty.A34.1 h).2.2.2.2 k hk
def lU{l:List (Int×Ty)}:Ns l=true↔∀e∈l,0<=e.1/\e.1<=1048576/\e.2.right=true:=by unfold Ns;simp[and_assoc]
structure Nm where
 name:ByteArray
 ty:Ty
 vars:List Int
abbrev Res:=Except Int Ty
def takes(S:List Int)(l:List Int):Bool:=decide (l.Nodup)&&l.all λv=> !decide (v∈S)
abbrev Chk:=List Nm->List Int->Res
end
section
variable {H:Type}{D9:TypeId×Value->H}{P:Program}{w:World}{held:Bool}
end
section
variable {H:Type}{D9:TypeId×Value->H}{P:Program}{w:World}{base:Nat}{spare:Nat->Bool}{held:Bool}
end
section
variable {C:BQ}
def A9O:OH (run C) (EI C (run C)):=by
 constructor
 ·intro f ds d H;obtain⟨n,hn⟩:=xG.p f ds d H;cases n with
  |zero=>simp[Nr]at hn
  |succ n=>exact(wB (w_ n)).p _ _ _ hn
 ·intro f rs sg q H;obtain⟨n,hn⟩:=xG.r f rs sg q H;cases n with
  |zero=>simp[Nr]at hn
  |succ n=>exact(wB (w_ n)).r _ _ _ _ hn
variable {α : Type}
def A5M{x y:Option α}(h:∀a,x=some a->y=some a)(h':∀a,y=some a->x=some a):x=y:=by
 cases hx:x with
 |some a=>exact(h a hx).symm
 |none=>
   cases hy:y with
   |none=>rfl
   |some b=>have:=h' b hy;rw[hx]at this;cases this
variable {f:FuncId}{fn:Func}
def A58{c:Code}{ds:List DV}(hp:C.vO f=none)(hf:C.P.funcs[f]?=some fn)(hb:fn.body=some c):
 (run C).p f ds=Ut C (run C) (C.fl f) (XE C.P fn) [] c (I4 fn (ds.map λd=>(d,.val)) []):=by
 rw[A9k];have e:(EI C (run C)).p f ds=l6 C (run C) (C.fl f) c (XE C.P fn) (I4 fn (ds.map λd=>(d,.val)) []):=by simp only[EI,hf,hb,M7]
 rw[<- e];exact A5M (λa h=>A9O.p _ _ _ h) (λa h=>A7x.p _ _ _ h)
def B6o{c:Code}{s:j3}{rs:List (DV×F4)}{sg:List E5}(hs:C.sig f=some s)(hf:C.P.funcs[f]?=some fn)(hb:fn.body=some c)(hp:C.B4e f=none:=by rfl):
 (run C).r f rs sg=Ut C (run C) (C.fl f) (dB C.P fn s) [] c (I4 fn rs sg):=by
 rw[A9k];have e:(EI C (run C)).r f rs sg=l6 C (run C) (C.fl f) c (dB C.P fn s) (I4 fn rs sg):=by simp only[EI,hs,hf,hb,M7]
 rw[<- e];exact A5M (λa h=>A9O.r _ _ _ _ h) (λa h=>A7x.r _ _ _ _ h)
def C0W{x y:Option (List DV×List E5)}(h:x=y)(k:DV->List E5->Option α):oc x k=oc y k:=by rw[h]
theorem C0X(v:DV)(l:List DV)(s:List E5)(k:DV->List E5->Option α):oc (some (v::l,s)) k=k v s:=rfl
end
section
open Go.Sort
structure UN where
 type:TypeId
 pos:String
 after:Array Edge
def UN.mk'(r:UN)(dst:Option Nat)(op:Op):Oper:=⟨dst,op,r.type,r.pos,r.after,none⟩
def B95(P:Program):BQ:={ P:=P,fl:=λ_=>{},sig:=λ_=>none,vO:=λ_=>none,clone:=λ_=>false,jO:=λ_=>0 }
section
variable {P:Program}{n:Nat}{ops:Array Oper}{Q:Exit->Act->World->Prop}{a:Act}{w w':World}{o:Oper}{rest:List Oper}{v:Value}
def RQ(hg:o.guard=none)(hd:∀c,o.op ≠ .defer c)(hr:(execOp a.eval o).run P w=.ok (.value v) w')(hk:wpListIn (J8 none) n P ops Q rest (a.put o.dst v) w'):wpListIn (J8 none) n P ops Q (o::rest) a w :=wpListIn_plain hg λK hK=>Gp.wpIn hd (Au hr (hK _ _ hk))
def A4e{r:UN}{t u:Nat}(hk:wpListIn (J8 none) n P ops Q rest (a.put (some t) (a.eval (.tmp u))) w):wpListIn (J8 none) n P ops Q (r.mk' (some t) (.move (.tmp u))::rest) a w :=RQ rfl (λc h=>by cases h) (by simp[UN.mk',execOp]) hk
def A8Y{r:UN}{t u:Nat}(hk:wpListIn (J8 none) n P ops Q rest (a.put (some t) (a.eval (.tmp u))) w):wpListIn (J8 none) n P ops Q (r.mk' (some t) (.assign (.tmp u))::rest) a w :=RQ rfl (λc h=>by cases h) (by simp[UN.mk',execOp]) hk
end
end
section
variable (c:Code)(p:List Bool)
def B8T:List Oper :=
 match (sub p c []).1 with
 |.region _ ops _=>ops.toList
 |_=>[]
def opR(j:Nat):UN :=
 match (B8T c p)[j]? with
 |some o=>⟨o.type,o.pos,o.after⟩
 |none=>⟨0, "",#[]⟩
def C0H(j:Nat):TypeId :=
 match (B8T c p)[j]? with
 |some o=>
   match o.op with
   |.binOp _ _ _ _ t=>t
   |_=>0
 |none=>0
structure ClP where
 i0:Nat
 i1:Nat
 i2:Nat
 i3:Nat
 r0:UN
 r1:UN
 r2:UN
 r3:UN
 r4:UN
 r5:UN
 r6:UN
 r7:UN
 ts:TypeId
 ty:TypeId
def ClP.code(q:ClP):Code :=
 .seq (.region q.i0 #[q.r0.mk' (some 2) (.assign (.const (.slice none 0 0)))] false)
  (.seq (.seq (.region q.i1 #[q.r1.mk' (some 3) (.move (.tmp 0)),q.r2.mk' (some 4) (.binOp .eql q.ts (.tmp 3) (.const (.slice none 0 0)) q.ty)] false)
    (.cond (.tmp 4) (.seq (.region q.i2 #[q.r3.mk' (some 2) (.assign (.const (.slice none 0 0)))] false) .ret) .skip))
    (.seq (.region q.i3 #[q.r4.mk' (some 5) (.buildSlice q.ts 0 #[]),q.r5.mk' (some 6) (.move (.tmp 0)),q.r6.mk' (some 7) (.call { callee:=.builtin .append,args := #[.tmp 5,.tmp 6],argTypes := #[q.ts,q.ts] }),q.r7.mk' (some 2) (.assign (.tmp 7))] false) .ret))
section
variable {P:Program}{n:Nat}{ops:Array Oper}{Q:Exit->Act->World->Prop}{a:Act}{w:World}{rest:List Oper}{r:UN}{t:Nat}
def v_{v:Value}(hk:wpListIn (J8 none) n P ops Q rest (a.put (some t) v) w):wpListIn (J8 none) n P ops Q (r.mk' (some t) (.assign (.const v))::rest) a w :=RQ rfl (λc h=>by cases h) (by simp[UN.mk',execOp,Act.eval]) hk
def A8Z{u:Nat}{ts te ty:TypeId}{b:Option Addr}{l c:Nat}(hs:P.underlying ts=some (.slice te))(hv:a.eval (.tmp u)=.slice b l c)(hk:wpListIn (J8 none) n P ops Q rest (a.put (some t) (.bool b.isNone)) w):wpListIn (J8 none) n P ops Q (r.mk' (some t) (.binOp .eql ts (.tmp u) (.const (.slice none 0 0)) ty)::rest) a w:=by refine RQ (v:=.bool b.isNone) rfl (λc h=>by cases h) ?_ hk;simp only[UN.mk',execOp,hv];exact CL (Go.Lib.run_eql_slice_nil w ts te b l c 0 0 hs)
theorem A29{ts te:TypeId}{i:TypeInfo}(hs:P.underlying ts=some (.slice te))(hi:P.info? te=some i)(hk:wpListIn (J8 none) n P ops Q rest (a.put (some t) (.slice (some ⟨w.heap.size,0,none⟩) 0 0)) (w.alloc (.cells #[] te))):
 wpListIn (J8 none) n P ops Q (r.mk' (some t) (.buildSlice ts 0 #[])::rest) a w:=by
 refine RQ (v:=.slice (some ⟨w.heap.size,0,none⟩) 0 0) rfl (λc h=>by cases h) ?_ hk;simp only[UN.mk',execOp];refine CL ?_;unfold Instr.buildSlice;have Cz:(sizeOf te).run P w=.ok i.size w:=by simp[sizeOf,typeInfo,hi]
 simp only[Sem.run_bind,run_underlying hs,Result.andThen_ok,Cz,Sem.run_ite];rw[A7 (by simp),A9 (by simp)];simp only[Sem.run_pure,Result.andThen_ok];have:Instr.fill (λj=>some (j * i.size,i.size)) ((Array.range (0 * i.size)).map ((#[]:Array Value)[· % (#[]:Array Value).size]!)) (Array.map (λx:Nat×Operand=>(x.1,a.eval x.2)) #[]).toList=some #[]:=by rw[ylq];simp[Instr.fill]
 simp only[this];rfl
end
def B38{P:Program}{f:FuncId}{fn:Func}{q:ClP}{sz:Nat}(Cz:wN P q.ts q.ts=some sz)(hf:P.funcs[f]?=some fn)(hb:fn.body=some q.code)(B4B:fn.results=#[.tmp 2])(hnt:fn.ntmps=8):wI P f sz:=by
 intro S w v ds hl hS hv;obtain⟨e,e',z,inf,zv,hu,Du,hz,Hq,hpos,Am,VN,Ro,WT⟩:=Ui Cz;rw[hu]at Du;simp only[D8,TypeDesc.slice.injEq]at Du;subst Du;have Cy:inf.size=sz:=by obtain⟨i',d',q1,-,q2,-⟩:=Ib hz;rw[Am]at q1;simp only[D8]at q1;rw[<- Hq,q2,q1]
 obtain⟨b,len,cap,all,rfl,f1,f2,f3,f4,f5,f6,f7⟩:=LH (P:=P) hv;have fin:∀(a:Act)(v:Value)(w1:World),a.defers=[]->a.tmps.getD 2 undef=v->∀R:Ending->World->Prop,R (.returned v) w1->bodyPost P fn R .ret a w1:=by intro a v w1 h1 h2 R h3;refine⟨h1,v,?_,h3⟩;rw[pE,B4B,<- h2];simp[M_]
 refine(callsIn_wide (n:=0)).1 (callsIn_of_wp hf hb trivial ?_);rw[hnt];show Code.wpIn (J8 none) 0 P _ _ _ _;have C0h:(#[Value.slice b len cap]++Array.replicate (8 - #[Value.slice b len cap].size) undef:Array Value)=#[.slice b len cap,undef,undef,undef,undef,undef,undef,undef]:=by rfl
 rw[C0h];refine wpIn_seq (wpIn_region_list (show wpListIn _ _ _ _ _ [_] _ _ from v_ ?_));refine wpIn_seq (wpIn_seq (wpIn_region_list (show wpListIn _ _ _ _ _ [_,_] _ _ from A4e (A8Z (b:=b) (l:=len) (c:=cap) hu rfl ?_))));cases b with
 |none=>have h0:=f3 rfl;have ZH:ds=[]:=zfq (by omega);subst ZH;refine wpIn_cond_true rfl (wpIn_seq (wpIn_region_list (show wpListIn _ _ _ _ _ [_] _ _ from v_ ?_)));show Code.wpIn _ _ _ Code.ret _ _ _;refine wpIn_ret ?_;dsimp only[Exit.then];exact fin _ _ _ rfl rfl _ ⟨none,0,0,0,rfl,by simp,by simp,by simp,by simp,z8q _,Y9.refl _,λ_ _=>rfl,by simp⟩
 |some p=>
   refine wpIn_cond_false rfl (wpIn_skip ?_);refine wpIn_seq (wpIn_region_list (show wpListIn _ _ _ _ _ [_,_,_,_] _ _ from A29 hu Am (A4e ?_)));have hw1:∀w':World,w'.heap=(w.alloc (.cells #[] e)).heap->(Builtin.firstCells sz len (Value.slice (some p) len cap)).run P w'=.ok all.toArray w':=by
    intro w' hw';show(loadCells p (len * sz)).run P w'=_;obtain⟨hp,hc⟩:=f5 p rfl;have yc:len * sz=all.length:=by rw[f4.1,f1]
    by_cases h0:0<cap
    ·rw[yc,hp h0];refine W_ λj u hu=>?_;rw[hw'];have h3:=(hc j u hu).1;have h4:w.heap[p.block]?≠none:=λh=>by simp[Su.hc,h]at h3
     have h5:p.block<w.heap.size:=by
      rcases zrq p.block w.heap.size with h | h
      ·exact h
      ·exact absurd (Array.getElem?_eq_none h) h4
     unfold Su.hc at h3 ⊢;rw[show(w.alloc (.cells #[] e)).heap[p.block]?=w.heap[p.block]? from Go.RowKit.Below.heap_alloc _ _ _ h5];exact h3
    ·have h0:len=0:=by omega
     have h9:all=[]:=zfq (by rw[<- yc,h0];simp);rw[h9,h0,ylq];rfl
   have go:∀(v':Value)(w':World),(Builtin.append_ #[q.ts,q.ts] q.r6.type #[.slice (some ⟨w.heap.size,0,none⟩) 0 0,.slice (some p) len cap]).run P (w.alloc (.cells #[] e))=.ok v' w'->∀R:Ending->World->Prop,R (.returned v') w'->
    wpListIn (J8 none) 0 P #[q.r4.mk' (some 5) (.buildSlice q.ts 0 #[]),q.r5.mk' (some 6) (.move (.tmp 0)),q.r6.mk' (some 7) (.call { callee:=.builtin .append,args := #[.tmp 5,.tmp 6],argTypes := #[q.ts,q.ts] }),q.r7.mk' (some 2) (.assign (.tmp 7))]
     (Exit.then (Code.ret.wpIn (J8 none) 0 P (bodyPost P fn R)) (bodyPost P fn R)) [q.r6.mk' (some 7) (.call { callee:=.builtin .append,args := #[.tmp 5,.tmp 6],argTypes := #[q.ts,q.ts] }),q.r7.mk' (some 2) (.assign (.tmp 7))]
     { tmps := #[.slice (some p) len cap,undef,.slice none 0 0,.slice (some p) len cap,.bool false,.slice (some ⟨w.heap.size,0,none⟩) 0 0,.slice (some p) len cap,undef],defers:=[] } (w.alloc (.cells #[] e)):=by
    intro v' w' hr R hR;refine RQ (v:=v') (w':=w') rfl (λc h=>by cases h) ?_ (A8Y ?_)
    ·refine Hg (C:=B95 P) (b:=.append) rfl rfl ?_;simp only[List.map_toArray,zeq,zUq];exact CL hr
    ·show Code.wpIn _ _ _ Code.ret _ _ _;refine wpIn_ret ?_;show bodyPost P fn R .ret _ _;exact fin _ _ _ rfl rfl _ hR
   by_cases ZH:ds=[]
   ·subst ZH;have h0:len=0:=f1;have h9:all=[]:=zfq (by rw[f4.1];simp);refine go _ (w.alloc (.cells #[] e)) (IY (n:=len) hu hu Am (yh _ _ _) (by rw[Cy];exact hw1 _ rfl) (by omega) (by rw[h9];simp[storeCells])) _ ⟨some ⟨w.heap.size,0,none⟩,0,0,0,?_,by simp,by simp,by simp,by simp,by simp,⟨rfl,rfl,rfl⟩,λb' QS=>Go.RowKit.Below.heap_alloc _ _ _ QS,by simp⟩;simp[h0]
   ·have FD:0<len:=by rw[f1];exact List.length_pos_iff.2 ZH
    obtain⟨nc,hnc,hr⟩:=run_append_grow (P:=P) (t:=q.ts) (u:=q.ts) (ty:=q.r6.type) (b:=some ⟨w.heap.size,0,none⟩) (len:=0) (cap:=0) (n:=len) (all:=[]) (all':=all) (v:=.slice (some p) len cap) (w:=w.alloc (.cells #[] e)) hu hu Am (yh _ _ _) (by rw[Cy];exact hw1) (λw' _=>by show(loadCells _ (0 * inf.size)).run P w'=_;rw[ylq];rfl) Ro (by omega) (by unfold R6 at hl;omega) VN;simp only[znq,List.nil_append]at hr;have B4C:(w.alloc (.cells #[] e)).heap.size=w.heap.size+1:=by simp
    refine go _ _ hr _ ⟨_,w.heap.size+1,0,nc,by rw[f1,B4C],λ_=>rfl,by omega,by simp,λx hx=>?_,?_,⟨rfl,rfl,rfl⟩,λb' QS=>?_,λ_=>⟨by omega,(all++(Builtin.zeroCells zv.cells (nc-len)).toList).toArray,e,?_,?_,hpos,λj d hj=>?_⟩⟩
    ·simp only[D8]at hx;subst hx;rfl
    ·simp;omega
    ·refine(Go.RowKit.Below.heap_alloc _ _ _ (by show b'<(w.alloc (.cells #[] e)).heap.size;omega)).trans ?_;exact Go.RowKit.Below.heap_alloc _ _ _ QS
    ·rw[<- B4C];exact World.alloc_heap_new _ _
    ·simp[f4.1]
    ·obtain⟨vs,v1,v2,v3⟩:=f4.2 j d hj;refine⟨vs,v1,λx u hx=>?_,v3.mono ⟨λ_ _ h=>h,λb o v hs hv=>?_⟩⟩
     ·have h1:=v2 x u hx;have h2:=(z0q.1 h1).1;rw[znq,List.getElem?_toArray,zdq h2];exact h1
     ·have hb:b<w.heap.size:=by
       rcases zrq b w.heap.size with h | h
       ·exact h
       ·exact absurd hs (hS b o h)
      unfold Su.hc at hv ⊢;have e1:((w.alloc (.cells #[] e)).drew.alloc (.cells (all++(Builtin.zeroCells zv.cells (nc-len)).toList).toArray e)).heap[b]?=w.heap[b]? :=(Go.RowKit.Below.heap_alloc _ _ _ (by show b<(w.alloc (.cells #[] e)).heap.size;omega)).trans (Go.RowKit.Below.heap_alloc _ _ _ hb)
      rw[e1];exact hv
end
section
variable (es:List (DV×DV))
def Sj(c:Int->Int):Prop:=∀v,(V7 es (.int .i64 v)).getD (.int .i64 0)=.int .i64 (c v)
theorem Sj.nil:Sj [] λ_=>0:=λ_=>rfl
variable {es:List (DV×DV)}
def Sj.set{c:Int->Int}(h:Sj es c)(a n:Int):Sj (Bb es (.int .i64 a) (.int .i64 n)) λv=>if a=v then n else c v:=by
 intro v;rw[fM];by_cases e:a=v
 ·simp[e]
 ·simp[e,h v]
variable {sg:List E5}{i:Nat}
def A7C{x:Bool×List (DV×DV)}(h:Q5 sg i=some x):i<sg.length:=by
 unfold Q5 at h;cases hi:sg[i]? with
 |none=>rw[hi]at h;cases h
 |some o=>exact(z0q.1 hi).1
def B3k(h:i<sg.length)(ks:Bool)(es:List (DV×DV)):Q5 (sg.set i (.map ks es)) i=some (ks,es):=by unfold Q5;rw[zVq h]
def B49{ks:Bool}(h:Q5 sg i=some (ks,es)):sg.set i (.map ks es)=sg:=by
 have hl:=A7C h;unfold Q5 at h;have hg:sg[i]?=some sg[i]:=z3q hl;rw[hg]at h;have e:sg[i]=.map ks es:=by
  cases hx:sg[i]with
  |map a b=>rw[hx]at h;simp at h;rw[h.1,h.2]
  |_=>rw[hx]at h;cases h
 rw[<- e];exact List.set_getElem_self hl
def CY{x:List (DV×F4)}(h:H5 sg i=some x):i<sg.length:=by
 unfold H5 at h;cases hi:sg[i]? with
 |none=>rw[hi]at h;cases h
 |some o=>exact(z0q.1 hi).1
@[simp] theorem C0O(a:DV)(l:List DV):Q0 0 (.J6 (a::l))=some a:=rfl
@[simp] theorem C0P(a b:DV)(l:List DV):Q0 1 (.J6 (a::b::l))=some b:=rfl
@[simp] theorem C0Q(a b c:DV)(l:List DV):Q0 2 (.J6 (a::b::c::l))=some c:=rfl
@[simp] theorem C0R(a b c d:DV)(l:List DV):Q0 3 (.J6 (a::b::c::d::l))=some d:=rfl
def zS{α : Type}{e : α->DV}{sz:Nat}{l:List α}{x : α}(h:l.length<R6):Dh sz (.list sz (l.map e)) (.list sz [e x])=some (.list sz ((l++[x]).map e)):=by rw[JW (by simp;omega)];simp
end
@[simp] def B7P(l:List (Int×Ty)):O6 (IP l)=some (.int .i64 l.length):=by simp[IP]
def B9k(e:Int):Prop:=e=4\/e=6\/e=8
def B8n(s:ByteArray):List UInt8:=s.data.toList
def B9R(a b:ByteArray):Bool:=decide (B8n a<B8n b)
def rise:List ByteArray->ByteArray->List ByteArray
 |[],s=>[s]
 |x::l,s=>if B9R x s=true then x::rise l s else if x=s then x::l else s::x::l
section
variable (k:Int)
def AC:Bool:=decide (k=1\/k=9\/k=11\/k=12)
def BV:Bool:=decide (k=12)
def eN:Bool:=decide (k=2\/k=3)
def eS:Bool:=decide (k=4)
def Dr:Bool:=decide (k=16)
def eA:Bool:=decide (k=9\/k=11\/k=12\/k=15)
def eB:Bool:=decide (k=12)
def Aa:Bool:=decide (k=15)
def JX(np:Nat):Bool:=decide (1<=k)&&decide (k<=16)&&(!decide (k=14)||decide (0<np))
def L9(np:Nat):Int :=if k=6\/k=8\/k=10\/k=11\/k=12\/k=16 then 2 else if k=9\/k=15 then 1 else if k=13 then 3 else if k=14 then np+1 else 0
def Ty.closed(t:Ty):Bool:=t.right&&t.Fw 6
def Ve(has must:Bool)(t:Ty):Bool:=if t.none=true then !must else has&&t.closed
variable (t:Ex)
def Ex.A0h:Bool:=t.J7.all F5.right
def Ex.oV:Bool:=Ve (eB t.E8) false t.b&&t.A0h
def Ex.b_:Bool:=Ve (eA t.E8) (Aa t.E8) t.a&&t.oV
def Ex.vM:Bool:=(!Dr t.E8||(decide (1<=t.op)&&decide (t.op<=7)))&&(Dr t.E8||decide (t.op=0))&&t.b_
def Ex.vL:Bool:=(eS t.E8||decide (t.s=Y4))&&decide (t.s.size<=200)&&t.vM
def Ex.vK:Bool:=(eN t.E8||decide (t.n=0))&&(!decide (t.E8=3)||decide (t.n=0)||decide (t.n=1))&&t.vL
def Ex.vJ:Bool:=Vd (BV t.E8) t.arg&&t.vK
def Ex.vI:Bool:=Vd (AC t.E8) t.name&&t.vJ
def Ex.one:Bool:=JX t.E8 t.J7.length&&decide ((t.D5.length:Int)=L9 t.E8 t.J7.length)&&(decide (t.E8=14)||decide (t.J7.length=0))&&t.vI
def Ex.right:Ex->Bool
 |.mk a b c d e f g h i j k ks=>Ex.one (.mk a b c d e f g h i j k ks)&&(ks.map Ex.right).all id
def Ex.right_eq:t.right=(t.one&&t.D5.all Ex.right):=by cases t;rw[Ex.right];simp[zKq]
def Ex.YX{t:Ex}(h:t.right=true):t.one=true:=by rw[Ex.right_eq,z5q]at h;exact h.1
def Ex.Bf{t k:Ex}(h:t.right=true)(hk:k∈t.D5):k.right=true:=by rw[Ex.right_eq,z5q,z7q]at h;exact h.2 k hk
def Ex.B4R{t:Ex}(h:t.one=true):(t.D5.length:Int)=L9 t.E8 t.J7.length:=by unfold Ex.one at h;simp only[z5q,I6]at h;exact h.1.1.2
def Ex.subs:Ex->List Ex
 |.mk a b c d e f g h i j k ks=>.mk a b c d e f g h i j k ks::(ks.map Ex.subs).flatten
theorem Ex.Oo:t.subs=t::t.D5.flatMap Ex.subs:=by cases t;rw[Ex.subs];rfl
def Ex.B1t:t.right=t.subs.all Ex.one:=by
 induction t using Ex.ind with
 |h t ih=>
   rw[Ex.right_eq,Ex.Oo];simp only[yjq,ypq]
   congr 1;rw[y5q];simp only[z7q];constructor
   ·intro h k hk x hx;have:=h k hk;rw[ih k hk]at this;exact z7q.1 this x hx
   ·intro h k hk;rw[ih k hk];exact z7q.2 (h k hk)
def Ex.B6n{p:Ex}:p.fit->∀q∈p.subs,q.fit:=by
 induction p using Ex.ind with
 |h p ih=>
   intro h q hq;rw[Ex.Oo]at hq;rcases zkq.1 hq with rfl | hq
   ·exact h
   ·obtain⟨k,hk,hq⟩:=zwq.1 hq;exact ih k hk (h.kid hk) q hq
def B6p:t.fit->∃n,BJ 16 15 n t.D9=some (t.subs.map Ex.D9):=by
 induction t using Ex.ind with
 |h t ih=>
   intro ht;have key:∀ks:List Ex,(∀k∈ks,∃n,BJ 16 15 n k.D9=some (k.subs.map Ex.D9))->∃n,Nj (BJ 16 15 n) (ks.map Ex.D9)=some ((ks.flatMap Ex.subs).map Ex.D9):=by
    intro ks;induction ks with
    |nil=>intro _;exact⟨0,rfl⟩
    |cons k ks ihk=>
      intro h;obtain⟨n,hn⟩:=h k (z4q ..);obtain⟨m,hm⟩:=ihk λk' FU=>h k' (z2q _ FU);refine⟨n+m,?_⟩;simp only[zeq,Nj,Ww (zzq n m) hn,Zf (λd l h=>Ww (zDq m n) h) hm,N7]
      simp
   obtain⟨n,hn⟩:=key t.D5 λk hk=>ih k hk (ht.kid hk);refine⟨n+1,?_⟩;have hl:=Nat.le_of_lt ht.one.D5;rw[Ex.N8,BJ];simp only[zbq,zBq,yaq,ybq,zOq,hn,N7,Ex.Oo t,zeq];simp[hl,Ex.N8]
def Ex.NP:t.size<=t.V9:=by
 induction t using Ex.ind with
 |h t ih=>
   rw[Ex.size_eq,Ex.Bo];have key:∀ks:List Ex,(∀k∈ks,k.size<=k.V9)->(ks.map Ex.size).sum<=(ks.map Ex.V9).sum:=by
    intro ks;induction ks with
    |nil=>simp
    |cons k ks ihk=>intro h;simp only[zeq,zsq];have:=h k (z4q ..);have:=ihk λk' FU=>h k' (z2q _ FU);omega
   have:=key t.D5 ih;omega
def Ex.value:Ex->Bool
 |.mk k _ _ _ _ _ _ _ _ _ _ ks=>if k=1\/k=2\/k=3\/k=4\/k=5\/k=7\/k=9 then true else if k=6\/k=8 then((ks.map Ex.value).take 2).all id else false
theorem Ex.B5u:t.value=if t.E8=1\/t.E8=2\/t.E8=3\/t.E8=4\/t.E8=5\/t.E8=7\/t.E8=9 then true else if t.E8=6\/t.E8=8 then(t.D5.take 2).all Ex.value else false:=by cases t;rw[Ex.value];simp only[Ex.IW,Ex.U7,<- List.map_take,zKq];rfl
end
def most{α : Type}(f : α->Nat)(l:List α)(n:Nat):Nat:=l.foldl (λa k=>max a (f k)) n
def part{α : Type}(g : α -> α)(l:List α)(j:Nat):List α:=(l.take j).map g++l.drop j
structure R3 where
 E8:Int
 lo:Int
 hi:Int
section
variable {t:Tm}{ks:List Tm}{fs gs:List Chk}{L M:List Nm}{S Q:List Int}
end
noncomputable section
structure Nd where
 E8:Nat
 level:Nat
 link:Option Nat
 D5:List Nat
structure E9 where
 l:List Nd
 mx:Nat
 cnt:Nat
 J8:Nat
inductive NT where
 |mk (r k:Nat) (D5:List NT)
def NT.r:NT->Nat | .mk r _ _=>r
def NT.k:NT->Nat | .mk _ k _=>k
def NT.D5:NT->List NT | .mk _ _ ts=>ts
@[simp] theorem NT.JK(r k:Nat)(ts:List NT):(NT.mk r k ts).r=r:=rfl
@[simp] theorem NT.VV(r k:Nat)(ts:List NT):(NT.mk r k ts).k=k:=rfl
@[simp] theorem NT.U7(r k:Nat)(ts:List NT):(NT.mk r k ts).D5=ts:=rfl
variable {t:NT}
def NT.LU{k:NT}(h:k∈t.D5):SizeOf.sizeOf k<SizeOf.sizeOf t:=by cases t;simp only[NT.U7]at h;have:=zvq h;simp only[NT.mk.sizeOf_spec];omega
def NT.ind{P:NT->Prop}(h:∀r k ts,(∀t∈ts,P t)->P (.mk r k ts))(t:NT):P t:=by
 cases t with
 |mk r k ts=>exact h r k ts λt ht=>NT.ind h t
termination_by SizeOf.sizeOf t
decreasing_by subst_vars;exact NT.LU (t:=.mk r k ts) ht
inductive X6(S:E9):Nat->Nat->Prop
 |here {n:Nat} {d:Nd}:S.l[n]?=some d->d.link=none->X6 S n n
 |step {n m r:Nat} {d:Nd}:S.l[n]?=some d->d.link=some m->X6 S m r->X6 S n r
inductive U9(S:E9):Nat->NT->Prop
 |mk {n r:Nat} {d:Nd} {ts:List NT}:X6 S n r->S.l[r]?=some d->d.D5.length=ts.length->(∀(i:Nat)(h:i<d.D5.length)(h':i<ts.length),U9 S d.D5[i] ts[i])->U9 S n (.mk r d.E8 ts)
variable {S:E9}{n:Nat}
def X6.lt{r:Nat}(h:X6 S n r):n<S.l.length:=by
 cases h with
 |here h _=>exact(z0q.1 h).1
 |step h _ _=>exact(z0q.1 h).1
def X6.top{r:Nat}(h:X6 S n r):∃d,S.l[r]?=some d/\d.link=none:=by
 induction h with
 |here h1 h2=>exact⟨_,h1,h2⟩
 |step _ _ _ ih=>exact ih
def X6.uniq{r q:Nat}(h:X6 S n r)(h':X6 S n q):r=q:=by
 induction h generalizing q with
 |here h1 h2=>
   cases h' with
   |here=>rfl
   |step g1 g2 _=>rw[h1]at g1;cases g1;rw[h2]at g2;cases g2
 |step h1 h2 _ ih=>
   cases h' with
   |here g1 g2=>rw[h1]at g1;cases g1;rw[h2]at g2;cases g2
   |step g1 g2 g3=>rw[h1]at g1;cases g1;rw[h2]at g2;cases g2;exact ih g3
def X6.self{r:Nat}(h:X6 S n r):X6 S r r:=by obtain⟨d,h1,h2⟩:=h.top;exact .here h1 h2
def U9.root(h:U9 S n t):X6 S n t.r:=by cases h;assumption
def U9.uniq{u:NT}(h:U9 S n t)(h':U9 S n u):t=u:=by
 induction h generalizing u with
 |mk h1 h2 h3 _ ih=>
   cases h' with
   |mk g1 g2 g3 g4=>cases h1.uniq g1;rw[h2]at g2;cases g2;congr 1;refine List.ext_getElem (by omega) λi a b=>ih i (by omega) a (g4 i (by omega) b)
def U9.lt(h:U9 S n t):n<S.l.length:=h.root.lt
def U9.Gs(h:U9 S n t):t.r<S.l.length:=h.root.self.lt
def U9.nd(h:U9 S n t):∃d,S.l[t.r]?=some d/\d.link=none/\d.E8=t.k/\d.D5.length=t.D5.length/\∀(i:Nat)(h:i<d.D5.length)(h':i<t.D5.length),U9 S d.D5[i] t.D5[i]:=by
 cases h with
 |mk h1 h2 h3 h4=>obtain⟨e,g1,g2⟩:=h1.top;rw[h2]at g1;cases g1;exact⟨_,h2,g2,rfl,h3,h4⟩
def U9.self(h:U9 S n t):U9 S t.r t:=by cases h with | mk h1 h2 h3 h4=>exact .mk h1.self h2 h3 h4
namespace E9
variable (S:E9)
def K5(n:Nat):NT:=open Classical in if h:∃t,U9 S n t then h.choose else .mk n 0 []
def root(n:Nat):Nat:=(S.K5 n).r
def F9(r:Nat):Nat:=((S.l[r]?).map Nd.E8).getD 0
def U8(r:Nat):Nat:=((S.l[r]?).map Nd.level).getD 0
def I1(r:Nat):List Nat:=((S.l[r]?).map Nd.D5).getD []
end E9
def U9.eq(h:U9 S n t):S.K5 n=t:=by have:∃t,U9 S n t:=⟨t,h⟩;unfold E9.K5;rw[dif_pos this];exact this.choose_spec.uniq h
def U9.Hw(h:U9 S n t):S.root n=t.r:=by unfold E9.root;rw[h.eq]
variable {r:Nat}
def X6.eq(h:X6 S n r)(w:∃t,U9 S n t):S.root n=r:=by obtain⟨t,ht⟩:=w;rw[ht.Hw];exact ht.root.uniq h
variable {d:Nd}
theorem DU(h:S.l[r]?=some d):S.F9 r=d.E8:=by unfold E9.F9;rw[h];rfl
theorem oJ(h:S.l[r]?=some d):S.U8 r=d.level:=by unfold E9.U8;rw[h];rfl
theorem ED(h:S.l[r]?=some d):S.I1 r=d.D5:=by unfold E9.I1;rw[h];rfl
mutual
def NT.look:NT->List Nat->List Nat
 |.mk r _ ts,o=>if r∈o then o else NT.LW ts (o++[r])
def NT.LW:List NT->List Nat->List Nat
 |[],o=>o
 |t::ts,o=>NT.LW ts (t.look o)
end
mutual
def NT.has(K:List Nat):NT->Bool
 |.mk r _ ts=>decide (r∈K)||NT.VL K ts
def NT.VL(K:List Nat):List NT->Bool
 |[]=>false
 |t::ts=>t.has K||NT.VL K ts
end
mutual
def NT.Bu(m:Nat):NT->Nat
 |.mk _ _ ts=>NT.Le m ts 1
def NT.Le(m:Nat):List NT->Nat->Nat
 |[],k=>k
 |t::ts,k=>NT.Le m ts (min (k+t.Bu m) (m+1))
end
mutual
def NT.ty:NT->Ty
 |.mk r k ts=>.mk k (if k=6 then r else 0) (NT.lu ts)
def NT.lu:List NT->List Ty
 |[]=>[]
 |t::ts=>t.ty::NT.lu ts
end
theorem NT.wE:∀ts:List NT,NT.lu ts=ts.map NT.ty
 |[]=>by simp[NT.lu]
 |t::ts=>by rw[NT.lu,NT.wE ts];rfl
def bu(l:List Nd)(vs:List Nat)(A8:Nat):List Nd:=vs.foldl (λl v=>l.modify v λd=>{ d with level:=min d.level A8 }) l
namespace E9
variable (S:E9)
def tick:E9:={ S with J8:=S.J8+1 }
def roots(n:Nat):List Nat:=(S.K5 n).look []
def vars(n:Nat):List Nat:=(S.roots n).filter λr=>S.F9 r==6
def lower(n A8:Nat):E9:={ S.tick with l:=bu S.l (S.vars n) A8 }
def BF(r t:Nat):E9:={ S with l:=S.l.modify r λd=>{ d with link:=some t } }
def link(v n:Nat):E9×Nat :=
 if S.F9 (S.root v)≠6\/S.root v=S.root n then(S,1)
 else if S.root v∈S.roots n then(S.tick,5)
 else((S.tick.BF (S.root v) (S.root n)).lower (S.root n) (S.U8 (S.root v)),0)
def add(d:Nd):E9:={ S with l:=S.l++[d],cnt:=S.cnt+1 }
def var(A8:Nat):E9×Nat×Nat:=if S.cnt=S.mx then(S,0,7)else(S.add ⟨6,A8,none,[]⟩,S.l.length,0)
def make(k a b:Nat):E9×Nat×Nat:=if S.cnt=S.mx then(S,0,7)else(S.add ⟨k,0,none,if k=8 then[a]else[a,b]⟩,S.l.length,0)
end E9
mutual
def KP:Ty->Nat
 |.mk _ _ ts=>if ts.length=0 then 0 else 1+BZ ts
def BZ:List Ty->Nat
 |[]=>0
 |t::ts=>KP t+BZ ts
end
mutual
def KZ:Ty->E9->E9×Nat
 |.mk k _ ts,S=>if ts.length=0 then(S,(k-1).toNat)else((BH ts S).1.add ⟨k.toNat,0,none,(BH ts S).2⟩,(BH ts S).1.l.length)
def BH:List Ty->E9->E9×List Nat
 |[],S=>(S,[])
 |t::ts,S=>((BH ts (KZ t S).1).1,(KZ t S).2::(BH ts (KZ t S).1).2)
end
def E9.put(S:E9)(t:Ty):E9×Nat×Nat:=if KP t>S.mx-S.cnt then(S,0,7)else((KZ t S).1,(KZ t S).2,0)
def zTy:Ty:=.mk 0 0 []
variable (K:List (Nat×Nat))
def E_(r:Nat):Option Nat:=(K.find? λe=>e.1==r).map (·.2)
mutual
def NT.copy(K:List (Nat×Nat)):NT->E9×List (Nat×Nat)->Nat×E9×List (Nat×Nat)
 |.mk r k ts,q=>
   match E_ K r with
   |some t=>(t,q)
   |none=>
     if (NT.mk r k ts).has (K.map (·.1))=false then(r,q)
     else match E_ q.2 r with
      |some m=>(m,q)
      |none=>((NT.V3 K ts q).2.1.l.length,(NT.V3 K ts q).2.1.add ⟨k,0,none,(NT.V3 K ts q).1⟩,(NT.V3 K ts q).2.2++[(r,(NT.V3 K ts q).2.1.l.length)])
def NT.V3(K:List (Nat×Nat)):List NT->E9×List (Nat×Nat)->List Nat×E9×List (Nat×Nat)
 |[],q=>([],q)
 |t::ts,q=>((t.copy K q).1::(NT.V3 K ts (t.copy K q).2).1,(NT.V3 K ts (t.copy K q).2).2)
end
namespace E9
variable (S:E9)
def keys:List Nat->List Nat->List (Nat×Nat)->Option (List (Nat×Nat))
 |[],_,K=>some K
 |f::fs,ts,K=>if S.F9 (S.root f)=6/\S.root f∉K.map (·.1)then keys fs ts.tail (K++[(S.root f,ts.headD 0)])else none
def need(K:List (Nat×Nat))(n:Nat):Nat:=((S.roots n).filter λr=>S.F9 r != 6&&(S.K5 r).has (K.map (·.1))).length
def copy(n:Nat)(from_ to:List Nat):E9×Nat×Nat :=
 match S.keys from_ to []with
 |none=>(S,0,1)
 |some K=>if S.need K n>S.mx-S.cnt then(S.tick,0,7)else(((S.K5 n).copy K (S.tick,[])).2.1,((S.K5 n).copy K (S.tick,[])).1,0)
def read(n:Nat):E9×Ty×Nat :=
 if (S.K5 n).Bu (S.mx-S.cnt)>S.mx-S.cnt then(S,zTy,7)
 else({ S with cnt:=S.cnt+(S.K5 n).Bu (S.mx-S.cnt) },(S.K5 n).ty,0)
def fresh(A8:Nat):Nat->E9->E9×List Nat×Nat
 |0,S=>(S,[],0)
 |k+1,S=>if (S.var A8).2.2=0 then((fresh A8 k (S.var A8).1).1,(S.var A8).2.1::(fresh A8 k (S.var A8).1).2.1,(fresh A8 k (S.var A8).1).2.2)else((S.var A8).1,[],(S.var A8).2.2)
def become(v w:Nat):E9×Option Nat×Nat :=
 if S.F9 w=6 then((S.link v w).1,none,(S.link v w).2)
 else if 4∉S.roots w then((S.tick.link v w).1,none,(S.tick.link v w).2)
 else if v∈S.roots w then(S.tick.tick,none,5)
 else
  let q:=fresh (S.U8 v) (S.I1 w).length S.tick.tick
  if q.2.2≠0 then(q.1,none,q.2.2)
  else
   let m:=q.1.make (S.F9 w) (q.2.1.getD 0 0) (q.2.1.getD 1 0)
   if m.2.2≠0 then(m.1,none,m.2.2)else((m.1.link v m.2.1).1,some m.2.1,(m.1.link v m.2.1).2)
def Q6:Nat->E9->List (Nat×Nat)->Option (E9×Nat×Nat×Nat)
 |0,_,_=>none
 |f+1,S,[]=>some (S,0,0,0)
 |f+1,S,p::rest=>
   let x:=S.root p.1
   let y:=S.root p.2
   if x=y then Q6 f S rest
   else if x=4 then Q6 f (S.lower y 0) rest
   else if y=4 then Q6 f (S.lower x 0) rest
   else if S.F9 x=6 then
    if (S.become x y).2.2≠0 then some ((S.become x y).1,0,0,(S.become x y).2.2)
    else match (S.become x y).2.1 with
     |none=>Q6 f (S.become x y).1 rest
     |some m=>Q6 f (S.become x y).1 (((S.become x y).1.I1 ((S.become x y).1.root m)).zip ((S.become x y).1.I1 ((S.become x y).1.root y))++rest)
   else if S.F9 y=6 then
    if (S.become y x).2.2≠0 then some ((S.become y x).1,0,0,(S.become y x).2.2)
    else match (S.become y x).2.1 with
     |none=>Q6 f (S.become y x).1 rest
     |some m=>Q6 f (S.become y x).1 (((S.become y x).1.I1 ((S.become y x).1.root x)).zip ((S.become y x).1.I1 ((S.become y x).1.root m))++rest)
   else if S.F9 x≠S.F9 y then some (S,S.F9 x,S.F9 y,4)
   else Q6 f S ((S.I1 x).zip (S.I1 y)++rest)
def agree(a b:Nat):E9×Nat×Nat×Nat:=open Classical in if h:∃f q,Q6 f S [(a,b)]=some q then h.choose_spec.choose else(S,0,0,7)
end E9
end
section
def NH(k:Nat):Nat:=if k=8 then 1 else if k=7\/k=9 then 2 else 0
theorem aV(k:Nat):NH k<=2:=by unfold NH;split<;>(try split)<;>omega
structure E9.Ok(S:E9):Prop where
 wf:∀n,n<S.l.length->∃t,U9 S n t
 base:∀j,j<5->S.l[j]?=some ⟨j+1,0,none,[]⟩
 lc:S.l.length<=5+S.cnt
 cm:S.cnt<=S.mx
 mm:S.mx<=65536
 ki:∀(n:Nat)(d:Nd),S.l[n]?=some d->d.D5.length=NH d.E8/\1<=d.E8/\d.E8<=9/\d.level<2 ^ 31/\(d.E8<=5->n+1=d.E8)
variable {S:E9}
theorem E9.Ok.five(ok:S.Ok):5<=S.l.length:=by have:=(z0q.1 (ok.base 4 (by omega))).1;omega
variable {n:Nat}
theorem E9.Ok.k2(ok:S.Ok){d:Nd}(h:S.l[n]?=some d):d.D5.length<=2:=by rw[(ok.ki n d h).1];exact aV _
variable (S:E9)
def Y6(S':E9):Prop:=∀(n:Nat)(d:Nd),S.l[n]?=some d->∃d',S'.l[n]?=some d'/\d'.E8=d.E8/\d'.link=d.link/\d'.D5=d.D5
variable {S:E9}
theorem X6.like{S':E9}(L:Y6 S S'){r:Nat}(h:X6 S n r):X6 S' n r:=by
 induction h with
 |here h1 h2=>obtain⟨d',a,-,c,-⟩:=L _ _ h1;exact .here a (c.trans h2)
 |step h1 h2 _ ih=>obtain⟨d',a,-,c,-⟩:=L _ _ h1;exact .step a (c.trans h2) ih
variable {t:NT}
theorem U9.like{S':E9}(L:Y6 S S')(h:U9 S n t):U9 S' n t:=by
 induction h with
 |mk h1 h2 h3 _ ih=>
   obtain⟨d',a,b,-,c⟩:=L _ _ h2;have:U9 S' _ _:=.mk (h1.like L) a (by rw[c];exact h3) λi h h'=>by have:=ih i (by rw[<- c];exact h) h';simpa only[c]using this
   rw[b]at this;exact this
variable (S:E9)
theorem Y6.add(d:Nd):Y6 S (S.add d):=λn e h=>⟨e,by have:=(z0q.1 h).1;simp only[E9.add];rw[zdq this];exact h,rfl,rfl,rfl⟩
theorem Y6.refl:Y6 S S:=λn d h=>⟨d,h,rfl,rfl,rfl⟩
variable {S:E9}
theorem Y6.trans{T U:E9}(h:Y6 S T)(k:Y6 T U):Y6 S U:=λn d hd=>by obtain⟨e,a,b,c,f⟩:=h n d hd;obtain⟨e',a',b',c',f'⟩:=k n e a;exact⟨e',a',b'.trans b,c'.trans c,f'.trans f⟩
variable (A8:Nat)
theorem LX(n:Nat):∀(vs:List Nat)(l:List Nd),(bu l vs A8)[n]?=(l[n]?).map λd=>if n∈vs then{ d with level:=min d.level A8 }else d:=by
 intro vs;induction vs with
 |nil=>intro l;simp[bu]
 |cons v vs ih=>
   intro l;have:bu l (v::vs) A8=bu (l.modify v λd=>{ d with level:=min d.level A8 }) vs A8:=rfl;rw[this,ih,y7q];cases l[n]? with
   |none=>rfl
   |some d=>
     simp only[zgq,D8,zkq]
     by_cases h1:v=n
     ·subst h1;by_cases h2:v∈vs
      ·simp[h2]
      ·simp[h2]
     ·by_cases h2:n∈vs
      ·simp[h1,h2]
      ·simp[h1,h2,Ne.symm h1]
theorem Y6.lower(S:E9)(n A8:Nat):Y6 S (S.lower n A8):=λk d h=>by refine⟨_,by simp only[E9.lower];rw[LX,h];rfl,?_⟩;split<;>exact⟨rfl,rfl,rfl⟩
theorem Np:∀(vs:List Nat)(l:List Nd),(bu l vs A8).length=l.length:=by
 intro vs;induction vs with
 |nil=>intro l;rfl
 |cons v vs ih=>intro l;exact(ih _).trans (by simp)
theorem Y6.tick(S:E9):Y6 S S.tick:=Y6.refl S
theorem E9.Ok.tick(ok:S.Ok):S.tick.Ok :=⟨λn hn=>by obtain⟨t,ht⟩:=ok.wf n hn;exact⟨t,ht.like (Y6.tick S)⟩,ok.base,ok.lc,ok.cm,ok.mm,ok.ki⟩
theorem U9.tick(h:U9 S n t):U9 S.tick n t:=h.like (Y6.tick S)
theorem E9.Ok.K5(ok:S.Ok)(h:n<S.l.length):U9 S n (S.K5 n):=by obtain⟨t,ht⟩:=ok.wf n h;rw[ht.eq];exact ht
theorem E9.Ok.root(ok:S.Ok)(h:n<S.l.length):X6 S n (S.root n):=(ok.K5 h).root
theorem E9.Ok.Gs(ok:S.Ok)(h:n<S.l.length):S.root n<S.l.length:=(ok.K5 h).Gs
mutual
def NT.all:NT->List Nat
 |.mk r _ ts=>r::NT.Uh ts
def NT.Uh:List NT->List Nat
 |[]=>[]
 |t::ts=>t.all++NT.Uh ts
end
theorem Qa{x:Nat}:∀{ts:List NT},x∈NT.Uh ts↔∃t∈ts,x∈t.all
 |[]=>by simp[NT.Uh]
 |t::ts=>by rw[NT.Uh,zaq,Qa];simp
variable {x:Nat}
theorem NT.CF:x∈t.all↔x=t.r\/∃u∈t.D5,x∈u.all:=by cases t;rw[NT.all,zkq,Qa];rfl
mutual
def NT.big:NT->Nat
 |.mk _ _ ts=>1+NT.zR ts
def NT.zR:List NT->Nat
 |[]=>0
 |t::ts=>t.big+NT.zR ts
end
theorem A9f:∀{ts:List NT}{t:NT},t∈ts->t.big<=NT.zR ts
 |[],_,h=>by cases h
 |u::ts,t,h=>by
   rw[NT.zR];rcases zkq.1 h with rfl | h
   ·omega
   ·have:=A9f h;omega
theorem A9e{u:NT}(h:u∈t.D5):u.big<t.big:=by cases t;rw[NT.big];have:=A9f h;simp only[NT.U7]at this;omega
theorem U9.kid{u:NT}(h:U9 S n t)(hu:u∈t.D5):∃m,U9 S m u:=by obtain⟨d,-,-,-,d4,d5⟩:=h.nd;obtain⟨j,hj,rfl⟩:=List.mem_iff_getElem.1 hu;exact⟨_,d5 j (by omega) hj⟩
variable (t:NT)
theorem U9.sub:∀(n:Nat),U9 S n t->x∈t.all->∃u,U9 S x u/\u.r=x/\u.big<=t.big/\∀y∈u.all,y∈t.all:=by
 induction t using NT.ind with
 |h r k ts ih=>
   intro n h hx;rcases NT.CF.1 hx with e | ⟨u,hu,hx⟩
   ·subst e;exact⟨_,h.self,rfl,z8q _,λy hy=>hy⟩
   ·obtain⟨m,hm⟩:=h.kid hu;obtain⟨w,w1,w2,w3,w4⟩:=ih u hu m hm hx;exact⟨w,w1,w2,Nat.le_of_lt (Nat.lt_of_le_of_lt w3 (A9e hu)),λy hy=>NT.CF.2 (.inr ⟨u,hu,w4 y hy⟩)⟩
theorem U9.fresh{t u:NT}(h:U9 S n t)(hu:u∈t.D5):t.r∉u.all:=λhx=>by obtain⟨m,hm⟩:=h.kid hu;obtain⟨w,w1,-,w3,-⟩:=U9.sub u m hm hx;have:=w1.uniq h.self;subst this;have:=A9e hu;omega
theorem U9.B1V{t:NT}(h:U9 S n t)(hx:x∈t.all):x<S.l.length:=by obtain⟨u,hu,-⟩:=U9.sub t n h hx;exact hu.lt
theorem B1c:∀(n:Nat),U9 S n t->∀o:List Nat,(∀x∈o,x∈t.all->∀u,U9 S x u->∀y∈u.all,y∈o)->∀x,x∈t.look o↔x∈o\/x∈t.all:=by
 induction t using NT.ind with
 |h r k ts ih=>
   intro n h o hc;rw[NT.look];split
   ·rename_i hr;intro x;refine⟨Or.inl,λhx=>?_⟩;rcases hx with hx | hx
    ·exact hx
    ·exact hc r hr (NT.CF.2 (.inl rfl)) _ h.self x hx
   ·rename_i hr;have key:∀(us:List NT),(∀u∈us,u∈ts)->∀o:List Nat,(∀x∈o,x∈NT.Uh us->∀u,U9 S x u->∀y∈u.all,y∈o)->∀x,x∈NT.LW us o↔x∈o\/x∈NT.Uh us:=by
     intro us;induction us with
     |nil=>intro _ o _ x;simp[NT.LW,NT.Uh]
     |cons u us ihu=>
       intro hs o ho x;obtain⟨m,hm⟩:=h.kid (hs u (z4q ..));have h1:=ih u (hs u (z4q ..)) m hm o λx hx FH=>ho x hx (by rw[NT.Uh,zaq];exact .inl FH);rw[NT.LW,ihu (λw hw=>hs w (z2q _ hw)) _ ?_ x,h1,NT.Uh,zaq,or_assoc];intro x hx FH w hw y hy;rw[h1]at hx ⊢;rcases hx with hx | hx
       ·exact .inl (ho x hx (by rw[NT.Uh,zaq];exact .inr FH) w hw y hy)
       ·obtain⟨w',w1,-,-,w4⟩:=U9.sub u m hm hx;rw[hw.uniq w1]at hy;exact .inr (w4 y hy)
    intro x;rw[key ts (λu hu=>hu) _ ?_ x,NT.all,zaq,ziq,zkq,or_assoc];intro x hx FH u hu y hy;rw[zaq,ziq]at hx;rcases hx with hx | hx
    ·exact List.mem_append_left _ (hc x hx (NT.CF.2 (.inr (Qa.1 FH))) u hu y hy)
    ·obtain⟨w,hw,FH⟩:=Qa.1 FH;subst hx;exact absurd FH (h.fresh hw)
theorem U9.B8t{t:NT}(h:U9 S n t):x∈t.look []↔x∈t.all:=by rw[B1c t n h [] (by simp)];simp
theorem B02:∀o:List Nat,o.Nodup->(t.look o).Nodup:=by
 induction t using NT.ind with
 |h r k ts ih=>
   intro o ho;rw[NT.look];split
   ·exact ho
   ·rename_i hr;have key:∀(us:List NT),(∀u∈us,u∈ts)->∀o:List Nat,o.Nodup->(NT.LW us o).Nodup:=by
     intro us;induction us with
     |nil=>intro _ o h;exact h
     |cons u us ihu=>intro hs o h;rw[NT.LW];exact ihu (λw hw=>hs w (z2q _ hw)) _ (ih u (hs u (z4q ..)) o h)
    refine key ts (λu hu=>hu) _ ?_;rw[ymq];exact⟨ho,by simp,λa ha c hc=>by simp only[ziq]at hc;subst hc;intro e;subst e;exact hr ha⟩
theorem E9.Ok.DW(ok:S.Ok)(h:n<S.l.length):x∈S.roots n↔x∈(S.K5 n).all:=(ok.K5 h).B8t
theorem E9.Ok.Lp(ok:S.Ok)(h:n<S.l.length)(hx:x∈S.roots n):x<S.l.length:=(ok.K5 h).B1V ((ok.DW h).1 hx)
theorem E9.A8K(S:E9)(n:Nat):(S.roots n).Nodup:=B02 _ [] List.nodup_nil
theorem k_:∀{l m:List Nat},l.Nodup->(∀x∈l,x∈m)->l.length<=m.length
 |[],m,_,_=>yqq _
 |x::l,m,hn,hs=>by have hx:=hs x (z4q ..);rw[ytq]at hn;have:=k_ (l:=l) (m:=m.erase x) hn.2 λy hy=>(List.mem_erase_of_ne (λe=>hn.1 (by subst e;exact hy))).2 (hs y (z2q _ hy));rw[List.length_erase_of_mem hx]at this;have:=zXq hx;simp only[zbq];omega
theorem E9.A36(ok:S.Ok)(h:n<S.l.length):(S.roots n).length<=S.l.length:=by have:=k_ (S.A8K n) (m:=List.range S.l.length) λx hx=>yyq.2 (ok.Lp h hx);simpa using this
theorem E9.Ok.lower(ok:S.Ok)(n A8:Nat):(S.lower n A8).Ok where
 wf m hm:=by
  have hm:m<S.l.length:=by rw[<- Np A8 (S.vars n) S.l];exact hm
  obtain⟨t,ht⟩:=ok.wf m hm;exact⟨t,ht.like (Y6.lower S n A8)⟩
 base j hj:=by
  have:=ok.base j hj;simp only[E9.lower];rw[LX,this,zgq];split
  ·rename_i hv;have:=(zJq.1 hv).2;rw[beq_iff_eq,DU (ok.base j hj)]at this;simp only at this;omega
  ·rfl
 lc:=by simp only[E9.lower,Np];exact ok.lc
 cm:=ok.cm
 mm:=ok.mm
 ki m d hd:=by
  simp only[E9.lower]at hd;rw[LX]at hd;cases e:S.l[m]? with
  |none=>rw[e]at hd;cases hd
  |some d0=>
    rw[e]at hd;simp only[zgq,D8]at hd;have:=ok.ki m d0 e;subst hd;split
    ·exact⟨this.1,this.2.1,this.2.2.1,by simp only;omega,this.2.2.2.2⟩
    ·exact this
theorem E9.Ok.add(ok:S.Ok){k A8:Nat}{ks:List Nat}(hc:S.cnt<S.mx)(hk:ks.length=NH k)(h1:6<=k)(h2:k<=9)(h3:A8<2 ^ 31)(hs:∀x∈ks,x<S.l.length):(S.add ⟨k,A8,none,ks⟩).Ok where
 wf m hm:=by
  by_cases e:m<S.l.length
  ·obtain⟨t,ht⟩:=ok.wf m e;exact⟨t,ht.like (Y6.add S _)⟩
  ·have hm:m<S.l.length+1:=by simpa[E9.add]using hm
   have e:m=S.l.length:=by omega
   subst e;have g:(S.add ⟨k,A8,none,ks⟩).l[S.l.length]?=some ⟨k,A8,none,ks⟩:=by simp[E9.add]
   exact⟨_,.mk (ts:=ks.map S.K5) (.here g rfl) g (by simp) λi a b=>by rw[y0q];exact(ok.K5 (hs _ (zLq a))).like (Y6.add S _)⟩
 base j hj:=by have:=ok.base j hj;have hl:=(z0q.1 this).1;simp only[E9.add];rw[zdq hl];exact this
 lc:=by have:=ok.lc;simp only[E9.add,zIq,zbq,zBq];omega
 cm:=by simp only[E9.add];omega
 mm:=ok.mm
 ki m d hd:=by
  simp only[E9.add]at hd;rw[List.getElem?_append]at hd;split at hd
  ·exact ok.ki m d hd
  ·have:d=⟨k,A8,none,ks⟩:=by
    cases e:m-S.l.length with
    |zero=>rw[e]at hd;simpa using hd.symm
    |succ q=>rw[e]at hd;simp at hd
   subst this;exact⟨hk,by simp only;omega,h2,h3,λh=>by simp only at h;omega⟩
mutual
def NT.A0l(r:Nat)(u:NT):(t:NT)->NT
 |.mk q k ts=>if q=r then u else .mk q k (NT.A1K r u ts)
def NT.A1K(r:Nat)(u:NT):(ts:List NT)->List NT
 |[]=>[]
 |t::ts=>NT.A0l r u t::NT.A1K r u ts
end
theorem A0m(r:Nat)(u:NT):∀ts:List NT,NT.A1K r u ts=ts.map (NT.A0l r u)
 |[]=>by simp[NT.A1K]
 |t::ts=>by rw[NT.A1K,A0m r u ts];rfl
theorem Ep(S:E9)(r t n:Nat):(S.BF r t).l[n]?=(S.l[n]?).map λd=>if r=n then{ d with link:=some t }else d:=by
 simp only[E9.BF];rw[y7q];split<;>rename_i h
 ·subst h;cases S.l[r]?<;>simp
 ·cases S.l[n]?<;>simp[h]
section
variable {S:E9}{r to:Nat}{d0:Nd}{u:NT}(hr:S.l[r]?=some d0)(h0:d0.link=none)(hu:U9 S to u)(hn:r∉u.all)
include hr h0
theorem X6.link{q:Nat}(h:X6 S n q):(q≠r->X6 (S.BF r to) n q):=by
 induction h with
 |here h1 h2=>intro hq;refine .here (d:=_) (by rw[Ep,h1,zgq]) ?_;rw[A7 (Ne.symm hq)];exact h2
 |step h1 h2 h3 ih=>rename_i n m q d;intro hq;refine .step (d:=d) (by rw[Ep,h1,zgq,A7];intro e;subst e;rw[hr]at h1;cases h1;rw[h0]at h2;cases h2) h2 (ih hq)
theorem U9.B9H(t:NT):∀n,U9 S n t->r∉t.all->U9 (S.BF r to) n t:=by
 induction t using NT.ind with
 |h q k ts ih=>
   intro n h hq;obtain⟨d,d1,d2,d3,d4,d5⟩:=h.nd;have ne:q≠r:=λe=>hq (NT.CF.2 (.inl e.symm));have g:(S.BF r to).l[q]?=some d:=by rw[Ep];simp only[NT.JK]at d1;rw[d1,zgq,A7 (Ne.symm ne)]
   simp only[NT.VV]at d3;subst d3;exact .mk (X6.link hr h0 h.root ne) g d4 λi a b=>ih _ (zLq b) _ (d5 i a b) λhx=>hq (NT.CF.2 (.inr ⟨_,zLq b,hx⟩))
include hu hn
theorem X6.B5O{q:Nat}(h:X6 S n q)(e:q=r):X6 (S.BF r to) n u.r:=by
 have hto:X6 (S.BF r to) to u.r:=X6.link hr h0 hu.root λe=>hn (NT.CF.2 (.inl e.symm));induction h with
 |here h1 h2=>subst e;refine .step (d:=_) (by rw[Ep,h1,zgq]) ?_ hto;rw[A9 rfl]
 |step h1 h2 h3 ih=>rename_i n m q d;refine .step (d:=d) (by rw[Ep,h1,zgq,A7];intro e;subst e;rw[hr]at h1;cases h1;rw[h0]at h2;cases h2) h2 (ih e)
theorem U9.link(t:NT):∀n,U9 S n t->U9 (S.BF r to) n (NT.A0l r u t):=by
 induction t using NT.ind with
 |h q k ts ih=>
   intro n h;rw[NT.A0l];split
   ·rename_i e;have Du:=(U9.B9H (to:=to) hr h0 u to hu hn);have:=X6.B5O hr h0 hu hn h.root e;cases Du with
    |mk g1 g2 g3 g4=>exact .mk this g2 g3 g4
   ·rename_i ne;obtain⟨d,d1,d2,d3,d4,d5⟩:=h.nd;have g:(S.BF r to).l[q]?=some d:=by rw[Ep];simp only[NT.JK]at d1;rw[d1,zgq,A7 (Ne.symm ne)]
    simp only[NT.VV]at d3;subst d3;rw[A0m];exact .mk (X6.link hr h0 h.root ne) g (by simpa using d4) λi a b=>by
     have hb:i<ts.length:=by simpa using b
     rw[y0q];exact ih _ (zLq hb) _ (d5 i a hb)
end
theorem E9.Ok.BF(ok:S.Ok){r to:Nat}{d0:Nd}{u:NT}(hr:S.l[r]?=some d0)(h0:d0.link=none)(h6:d0.E8=6)(hu:U9 S to u)(hn:r∉u.all):(S.BF r to).Ok where
 wf m hm:=by obtain⟨t,ht⟩:=ok.wf m (by simpa[E9.BF]using hm);exact⟨_,U9.link hr h0 hu hn t m ht⟩
 base j hj:=by have:=ok.base j hj;rw[Ep,this,zgq,A7];intro e;subst e;rw[hr]at this;cases this;simp only at h6;omega
 lc:=by simp only[E9.BF,List.length_modify];exact ok.lc
 cm:=ok.cm
 mm:=ok.mm
 ki m d hd:=by
  rw[Ep]at hd;cases e:S.l[m]? with
  |none=>rw[e]at hd;cases hd
  |some d0=>rw[e]at hd;simp only[zgq,D8]at hd;have:=ok.ki m d0 e;subst hd;split<;>exact this
theorem E9.Ok.nd(ok:S.Ok)(h:n<S.l.length):∃d,S.l[S.root n]?=some d/\d.link=none/\d.E8=(S.K5 n).k/\d.D5=S.I1 (S.root n)/\d.E8=S.F9 (S.root n)/\d.level=S.U8 (S.root n):=by obtain⟨d,d1,d2,d3,d4,d5⟩:=(ok.K5 h).nd;exact⟨d,d1,d2,d3,(ED d1).symm,(DU d1).symm,(oJ d1).symm⟩
theorem U9.B3i{r k:Nat}{ts:List NT}(h:U9 S n (.mk r k ts)):S.K5 r=.mk r k ts:=h.self.eq
theorem E9.Ok.rr(ok:S.Ok)(h:n<S.l.length):S.root (S.root n)=S.root n:=(ok.K5 h).self.Hw
variable (t:Ty)
def Ty.rc:Prop:=t.right=true/\t.Fw 6=true
theorem Ty.rc.kid{t k:Ty}(h:t.rc)(hk:k∈t.D5):k.rc:=by obtain⟨h1,h2⟩:=h;rw[Ty.right_eq,z5q,z7q]at h1;rw[Ty.Zw,z5q,z7q]at h2;exact⟨h1.2 k hk,h2.2 k hk⟩
theorem Ty.rc.E8{t:Ty}(h:t.rc):(t.D5=[]/\1<=t.E8/\t.E8<=5/\t.n=0)\/(t.D5≠[]/\7<=t.E8/\t.E8<=9/\t.D5.length=NH t.E8.toNat/\t.n=0):=by
 obtain⟨h1,h2⟩:=h;rw[Ty.right_eq]at h1;rw[Ty.Zw]at h2;simp only[z5q,I6,y2q,Bool.not_eq_true',QE]at h1 h2;obtain⟨⟨⟨⟨a1,a2⟩,a3⟩,a4⟩,-⟩:=h1;have hn:t.n=0:=by rcases a4 with h | h;exact absurd h h2.1;exact h
 have h6:=h2.1;unfold IJ at a1;split at a1
 ·rename_i hk;left;exact⟨zAq.1 (by omega),by omega,by omega,hn⟩
 ·split at a1
  ·rename_i hk;right;refine⟨λe=>by rw[e]at a1;simp at a1,by omega,by omega,?_,hn⟩;rw[hk];have:NH (8:Int).toNat=1:=rfl;omega
  ·split at a1
   ·rename_i hk;right;refine⟨λe=>by rw[e]at a1;simp at a1,by omega,by omega,?_,hn⟩;have:NH t.E8.toNat=2:=by rcases hk with hk | hk<;>rw[hk]<;>rfl
    omega
   ·omega
theorem TP:KP t=if t.D5.length=0 then 0 else 1+BZ t.D5:=by cases t;rw[KP];rfl
variable (S:E9)
theorem lL:KZ t S=if t.D5.length=0 then(S,(t.E8-1).toNat)else((BH t.D5 S).1.add ⟨t.E8.toNat,0,none,(BH t.D5 S).2⟩,(BH t.D5 S).1.l.length):=by cases t;rw[KZ];rfl
structure Da(S S':E9):Prop where
 like:Y6 S S'
 le:S.l.length<=S'.l.length
 mx:S'.mx=S.mx
 J8:S.J8<=S'.J8
theorem Da.refl:Da S S:=⟨Y6.refl S,z8q _,rfl,z8q _⟩
theorem Da.trans{S T U:E9}(h:Da S T)(k:Da T U):Da S U:=⟨h.like.trans k.like,zyq h.le k.le,k.mx.trans h.mx,zyq h.J8 k.J8⟩
theorem Da.add(d:Nd):Da S (S.add d):=⟨Y6.add S d,by simp[E9.add],rfl,z8q _⟩
structure A43(S S':E9)(k:Nat):Prop where
 ok:S'.Ok
 U0:Da S S'
 cnt:S'.cnt=S.cnt+k
 J8:S'.J8=S.J8
theorem aI:t.rc->∀S:E9,S.Ok->S.cnt+KP t<=S.mx->A43 S (KZ t S).1 (KP t)/\(KZ t S).2<(KZ t S).1.l.length:=by
 induction t using Ty.ind with
 |h t ih=>
   intro hr S ok hc;rw[lL,TP];rw[TP]at hc;rcases hr.E8 with⟨e,h1,h2,-⟩ | ⟨e,h1,h2,h3,-⟩
   ·rw[e];have:=ok.five;exact⟨⟨ok,Da.refl S,rfl,rfl⟩,by simp;omega⟩
   ·have hl:¬t.D5.length=0:=λg=>e (zAq.1 g);rw[A7 hl]at hc;rw[A7 hl,A7 hl];have key:∀(ts:List Ty),(∀k∈ts,k∈t.D5)->∀S:E9,S.Ok->S.cnt+BZ ts<=S.mx->A43 S (BH ts S).1 (BZ ts)/\(BH ts S).2.length=ts.length/\∀x∈(BH ts S).2,x<(BH ts S).1.l.length:=by
     intro ts;induction ts with
     |nil=>intro _ S ok _;exact⟨⟨ok,Da.refl S,rfl,rfl⟩,rfl,by simp[BH]⟩
     |cons k ts ihs=>
       intro hs S ok hc;rw[BZ]at hc;have hk:=hs k (z4q ..);obtain⟨a,a2⟩:=ih k hk (hr.kid hk) S ok (by omega);have ac:=a.cnt;have am:=a.U0.mx;obtain⟨c,c2,c3⟩:=ihs (λw hw=>hs w (z2q _ hw)) _ a.ok (by omega);rw[BH,BZ];refine⟨⟨c.ok,a.U0.trans c.U0,by have:=c.cnt;simp only;omega,c.J8.trans a.J8⟩,by simp[c2],λx hx=>?_⟩;rcases zkq.1 hx with rfl | hx
       ·exact ztq a2 c.U0.le
       ·exact c3 x hx
    obtain⟨a,a2,a3⟩:=key t.D5 (λk hk=>hk) S ok (by omega);have ac:=a.cnt;have am:=a.U0.mx;refine⟨⟨a.ok.add (by omega) (by omega) (by omega) (by omega) (by omega) a3,a.U0.trans (Da.add _ _),by simp only[E9.add];omega,a.J8⟩,by simp[E9.add]⟩
def DX(mx:Nat):E9:=⟨(List.range 5).map λj=>⟨j+1,0,none,[]⟩,mx,0,0⟩
theorem oO{mx:Nat}{d:Nd}(h:(DX mx).l[n]?=some d):n<5/\d=⟨n+1,0,none,[]⟩:=by
 simp only[DX]at h;rw[zhq]at h;cases e:(List.range 5)[n]? with
 |none=>rw[e]at h;cases h
 |some j=>rw[e]at h;obtain⟨h1,h2⟩:=z0q.1 e;simp only[List.length_range]at h1;simp only[List.getElem_range]at h2;subst h2;simp only[zgq,D8]at h;exact⟨h1,h.symm⟩
theorem RA{mx:Nat}(h:mx<=65536):(DX mx).Ok where
 wf n hn:=by
  have g:(DX mx).l[n]?=some ⟨n+1,0,none,[]⟩:=by have:=z3q hn;rw[(oO this).2]at this;exact this
  exact⟨_,.mk (ts:=[]) (.here g rfl) g rfl λi h _=>by simp at h⟩
 base j hj:=by
  have:j<(DX mx).l.length:=by simp[DX];omega
  have:=z3q this;rw[(oO this).2]at this;exact this
 lc:=by simp[DX]
 cm:=yqq _
 mm:=h
 ki n d hd:=by
  obtain⟨h1,h2⟩:=oO hd;subst h2;refine⟨?_,by simp only;omega,by simp only;omega,by simp only;omega,λ_=>rfl⟩;simp only[NH,zBq]
  split
  ·omega
  ·split<;>omega
end
section
variable {K:List (Nat×Nat)}
def LG{r:Nat}:E_ K r=none↔r∉K.map (·.1):=by
 unfold E_;simp[List.find?_eq_none];constructor
 ·intro h x hx;exact h r x hx rfl
 ·intro h a c hc e;subst e;exact h c hc
def QO{r m:Nat}(h:E_ K r=some m):(r,m)∈K:=by unfold E_ at h;obtain⟨e,h1,h2⟩:=zmq.1 h;have h3:=List.mem_of_find?_eq_some h1;have h4:=List.find?_some h1;simp only[beq_iff_eq]at h4;obtain⟨a,c⟩:=e;simp only at h4 h2;subst h4;subst h2;exact h3
def B2r{r t:Nat}(h:r∉K.map (·.1))(c:Nat):E_ (K++[(r,t)]) c=if r=c then some t else E_ K c:=by
 unfold E_;rw[List.find?_append];by_cases e:r=c
 ·subst e;have:K.find? (λe=>e.1==r)=none:=by have:=LG.2 h;unfold E_ at this;simpa using this
  simp[this]
 ·have:List.find? (λe:Nat×Nat=>e.1==c) [(r,t)]=none:=by simp[e]
  rw[this,A7 e,Option.or_none]
structure CI(S0:E9)(N:List Nat)(S:E9)(M:List (Nat×Nat)):Prop where
 ok:S.Ok
 U0:Da S0 S
 cnt:S.cnt=S0.cnt+M.length
 J8:S.J8=S0.J8
 sub:∀r∈M.map (·.1),r∈N
 nd:(M.map (·.1)).Nodup
 lt:∀e∈M,e.2<S.l.length
def jN{S0:E9}{n0:Nat}(ok0:S0.Ok)(hK:∀e∈K,e.2<S0.l.length)(hn:S0.need K n0<=S0.mx-S0.cnt){N:List Nat}(hN:N=(S0.roots n0).filter λr=>S0.F9 r != 6&&(S0.K5 r).has (K.map (·.1)))(t:NT):
 ∀n,U9 S0 n t->(∀x∈t.all,x∈S0.roots n0)->∀(S:E9)(M:List (Nat×Nat)),CI S0 N S M->CI S0 N (t.copy K (S,M)).2.1 (t.copy K (S,M)).2.2/\(t.copy K (S,M)).1<(t.copy K (S,M)).2.1.l.length/\∀r∈(t.copy K (S,M)).2.2.map (·.1),r∈M.map (·.1)\/r∈t.all:=by
 induction t using NT.ind with
 |h r k ts ih=>
   intro n hu hx S M C;have hr:=hu.Gs;simp only[NT.JK]at hr;rw[NT.copy];split
   ·rename_i t ht;exact⟨C,ztq (hK _ (QO ht)) C.U0.le,λx hx=>.inl hx⟩
   ·rename_i hf;split
    ·exact⟨C,ztq hr C.U0.le,λx hx=>.inl hx⟩
    ·rename_i hh;split
     ·rename_i m hm;exact⟨C,C.lt _ (QO hm),λx hx=>.inl hx⟩
     ·rename_i hm;have key:∀(us:List NT),(∀u∈us,u∈ts)->∀(S:E9)(M:List (Nat×Nat)),CI S0 N S M->CI S0 N (NT.V3 K us (S,M)).2.1 (NT.V3 K us (S,M)).2.2/\(NT.V3 K us (S,M)).1.length=us.length/\(∀x∈(NT.V3 K us (S,M)).1,x<(NT.V3 K us (S,M)).2.1.l.length)/\∀x∈(NT.V3 K us (S,M)).2.2.map (·.1),x∈M.map (·.1)\/x∈NT.Uh us:=by
       intro us;induction us with
       |nil=>intro _ S M C;rw[NT.V3];exact⟨C,rfl,by simp,λx hx=>.inl hx⟩
       |cons u us ihu=>
         intro hs S M C;have Du:=hs u (z4q ..);obtain⟨m,hm⟩:=hu.kid (u:=u) Du;obtain⟨a1,a2,a3⟩:=ih u Du m hm (λx FH=>hx x (NT.CF.2 (.inr ⟨u,Du,FH⟩))) S M C;obtain⟨c1,c2,c3,c4⟩:=ihu (λw hw=>hs w (z2q _ hw)) _ _ a1;rw[NT.V3];refine⟨c1,by simp[c2],λx hx=>?_,λx hx=>?_⟩
         ·rcases zkq.1 hx with rfl | hx
          ·have h5:(u.copy K (S,M)).2.1.l.length<=(NT.V3 K us (u.copy K (S,M)).2).2.1.l.length:=by
            have:∀(us:List NT)(q:E9×List (Nat×Nat)),q.1.l.length<=(NT.V3 K us q).2.1.l.length/\True:=by
             have one:∀(t:NT)(q:E9×List (Nat×Nat)),q.1.l.length<=(t.copy K q).2.1.l.length:=by
              intro t;induction t using NT.ind with
              |h r k ts ih=>
                intro q;have uu:∀(us:List NT),(∀u∈us,u∈ts)->∀q:E9×List (Nat×Nat),q.1.l.length<=(NT.V3 K us q).2.1.l.length:=by
                 intro us;induction us with
                 |nil=>intro _ q;rw[NT.V3];exact z8q _
                 |cons u us ihu=>intro hs q;rw[NT.V3];exact zyq (ih u (hs u (z4q ..)) q) (ihu (λw hw=>hs w (z2q _ hw)) _)
                rw[NT.copy];split
                ·exact z8q _
                ·split
                 ·exact z8q _
                 ·split
                  ·exact z8q _
                  ·refine zyq (uu ts (λu hu=>hu) q) ?_;simp[E9.add]
             intro us;induction us with
             |nil=>intro q;rw[NT.V3];exact⟨z8q _,trivial⟩
             |cons u us ihu=>intro q;rw[NT.V3];exact⟨zyq (one u q) (ihu _).1,trivial⟩
            exact(this us _).1
           exact ztq a2 h5
          ·exact c3 x hx
         ·rw[NT.Uh,zaq];rcases c4 x hx with h | h
          ·rcases a3 x h with h | h
           ·exact .inl h
           ·exact .inr (.inl h)
          ·exact .inr (.inr h)
      obtain⟨a1,a2,a3,a4⟩:=key ts (λu hu=>hu) S M C;generalize NT.V3 K ts (S,M)=q at a1 a2 a3 a4 ⊢;obtain⟨d,d1,d2,d3,d4,-⟩:=hu.nd;simp only[NT.JK,NT.VV,NT.U7]at d1 d3 d4;have kd:=ok0.ki _ _ d1;have k6:k≠6:=by
       intro e;subst e;have:ts.length=0:=by rw[<- d4,kd.1,d3];rfl
       rw[NT.has,zAq.1 this,NT.VL,yAq,QE]at hh;exact hh (LG.1 hf)
      have k7:6<=k:=by
       rcases zrq k 6 with g | g
       ·exfalso;have:ts.length=0:=by rw[<- d4,kd.1,d3];unfold NH;rw[A7 (by omega),A7 (by omega)]
        rw[NT.has,zAq.1 this,NT.VL,yAq,QE]at hh;exact hh (LG.1 hf)
       ·exact g
      have rN:r∈N:=by rw[hN,zJq];refine⟨hx r (NT.CF.2 (.inl rfl)),?_⟩;have:=hu.B3i;rw[DU d1,d3,this];simp[k6,hh]
      have rM:r∉q.2.2.map (·.1):=by
       intro WR;rcases a4 r WR with g | g
       ·exact absurd g (LG.1 hm)
       ·obtain⟨u,u1,u2⟩:=Qa.1 g;exact hu.fresh u1 u2
      have nd2:(r::q.2.2.map (·.1)).Nodup:=ytq.2 ⟨rM,a1.nd⟩;have ln:=k_ nd2 (m:=N) λx hx=>by
       rcases zkq.1 hx with rfl | hx
       ·exact rN
       ·exact a1.sub x hx
      have nn:N.length<=S0.mx-S0.cnt:=by rw[hN];exact hn
      simp only[zbq,zOq]at ln;have ac:=a1.cnt;have am:=a1.U0.mx;have add:=a1.ok.add (k:=k) (A8:=0) (ks:=q.1) (by omega) (by rw[a2,<- d4,kd.1,d3]) k7 (by have:=kd.2.2.1;omega) (by omega) a3;refine⟨⟨add,a1.U0.trans (Da.add _ _),by simp only[E9.add,zIq,zbq,zBq];omega,a1.J8,?_,?_,?_⟩,by simp[E9.add],?_⟩
      ·intro x hx;rw[y8q,zaq]at hx;rcases hx with hx | hx
       ·exact a1.sub x hx
       ·simp only[zeq,zUq,ziq]at hx;rw[hx];exact rN
      ·rw[y8q,ymq];exact⟨a1.nd,by simp,λx h1 y h2 e=>rM (by simp only[zeq,zUq,ziq]at h2;rw[<- h2,<- e];exact h1)⟩
      ·intro e he;rw[zaq]at he;simp only[E9.add,zIq,zbq,zBq];rcases he with he | he
       ·have:=a1.lt e he;omega
       ·simp only[ziq]at he;rw[he];simp
      ·intro x hx;rw[y8q,zaq]at hx;rcases hx with hx | hx
       ·rcases a4 x hx with h | h
        ·exact .inl h
        ·exact .inr (NT.CF.2 (.inr (Qa.1 h)))
       ·simp only[zeq,zUq,ziq]at hx;exact .inr (NT.CF.2 (.inl hx))
end
end Go.Su
