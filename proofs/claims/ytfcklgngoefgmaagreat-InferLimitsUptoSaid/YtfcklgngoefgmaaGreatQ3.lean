/-
  Parts of the proof, merged: SuDraw2, SuDraw3, SuItr, SuScope, SuCode, SuFun, SuRun, SuCont, SuCont2, SuCont3, SuAt, SuTy, SuPl, SuJoin, SuRd, SuM1, SuIt, SuM2, SuM3, SuM4, SuM5, SuRd2, SuFix, SuKeys, SuClone, SuMp, SuM6, SuM7, SuM8, SuM9, SuM10, SuM11, SuM12, SuX1, SuX2, SuX3, SuE1, SuE2, SuC1, SuT1, SuT2, SuC2, SuE3, SuE4, SuE5, SuE6, SuE7, SuE8, SuT3, SuT4, SuN1, SuN2, SuN3.
-/
import Derived.Below
import Derived.ChangeArms
import Derived.ChangeShapes
import Derived.DataReads
import Derived.IntWalk
import Derived.KernelRfl
import Derived.Lib.SliceRun
import Derived.LoopNIn
import Derived.Maps.RangeRun
import Derived.OrdersIn
import Derived.OwnWalkIn
import Derived.RangeFuncBound
import Derived.RangeFuncCalls
import Derived.RangeFuncLeaves
import Derived.Sort.KeysCollected
import Derived.Sort.OwnSorted
import Derived.Test.YtfcklgngoefgmaaGreatQ2
set_option linter.unusedVariables false
set_option linter.unusedSimpArgs false
set_option linter.unusedSectionVars false
/-
 THE DATA MACHINE, part 23: regions, in the text's order and in any.
-/
open Array renaming getElem?_eq_some_iff → z1q, getElem?_setIfInBounds_ne → z9q, getElem?_eq_getElem → zjq, getElem?_setIfInBounds_self_of_lt → zqq, getElem?_replicate → zFq, getD_eq_getD_getElem? → zMq, length_toList → zRq, getElem?_modify → y5q, getElem_toList → y8q, ext_getElem? → yhq
open Bool renaming and_eq_true → z5q, false_eq_true → zoq, eq_iff_iff → y4q, or_eq_true → yqq, not_false → yvq, not_true → yzq, or_false → yAq
open List renaming getElem?_eq_some_iff → z0q, mem_cons_of_mem → z2q, getElem?_eq_getElem → z3q, mem_cons_self → z4q, getD_eq_getElem?_getD → z6q, all_eq_true → z7q, mem_append → zaq, length_cons → zbq, getElem?_cons_succ → zcq, getElem?_append_left → zdq, map_cons → zeq, eq_nil_of_length_eq_zero → zfq, getElem?_map → zhq, mem_singleton → ziq, mem_cons → zkq, getElem?_cons_zero → zlq, drop_eq_getElem_cons → zpq, sum_cons → zsq, mem_map_of_mem → zuq, sizeOf_lt_of_mem → zvq, mem_flatMap → zwq, pairwise_append → zxq, length_eq_zero_iff → zAq, length_nil → zBq, attach_map_val → zCq, getElem?_append_right → zEq, getElem?_replicate → zGq, pairwise_cons → zHq, length_append → zIq, mem_filter → zJq, all_map → zKq, getElem_mem → zLq, getElem?_zip_eq_some → zNq, length_map → zOq, foldl_cons → zPq, find?_cons → zQq, map_nil → zUq, getElem?_set_self → zVq, length_eq_one_iff → zWq, length_pos_of_mem → zXq, drop_of_length_le → zYq, drop_length → zZq, getElem_map → y0q, getElem?_set_ne → y2q, getElem?_mapIdx → y3q, getElem?_modify → y6q, map_append → y7q, getD_cons_succ → y9q, getD_cons_zero → yaq, take_take → ycq, getElem?_ofFn → ydq, append_assoc → yeq, getElem?_set → yfq, all_cons → yiq, flatMap_cons → yjq, nodup_append → ylq, range'_succ → ymq, filter_cons → ynq, all_flatMap → yoq, length_set → yrq, append_nil → ysq, nodup_cons → ytq, mapM_cons → yuq, drop_take → ywq, drop_drop → yxq, mem_range → yyq
open Nat renaming le_refl → z8q, zero_add → znq, lt_or_ge → zrq, lt_of_lt_of_le → ztq, le_trans → zyq, le_add_right → zzq, le_add_left → zDq, add_sub_cancel_left → zSq, le_zero → zTq, le_of_not_lt → ygq, zero_mul → ykq, zero_le → ypq
open Option renaming map_some → zgq, map_eq_some_iff → zmq, bind_eq_some_iff → y1q, getD_some → ybq
namespace Go.Su
set_option linter.defProp false
section
variable {X:Type}{C:BV}{R:O7}{fl:H8}{ops:List Oper}{o:Oper}
def A2p(hg:o.guard=none)(s s1:St):AP C R fl ops o s s1↔J2 C R fl o s some=some s1:=by unfold AP;rw[hg]
variable {g:Nat}{want:Bool}{t:Nat}
def dG(hg:o.guard=some (g,want))(ht:LX ops g=some t)(s s1:St):AP C R fl ops o s s1↔K8 (s.get t).2=true /\
 (((s.get t).1=.bool want/\J2 C R fl o s some=some s1)\/(((s.get t).1=.bool !want\/(s.get t).1=.J9 [])/\s1=s.put o.dst (.J9 []) .val)):=by
 unfold AP;rw[hg];simp only[ht,D8,exists_eq_left']
def A5w(hg:o.guard=none)(s:St):Bi C fl ops o s=Z9 C fl o s:=by unfold Bi;rw[hg]
def A5x(hg:o.guard=some (g,want))(ht:LX ops g=some t)(s:St):
 Bi C fl ops o s=if eH want (s.get t).1 then(Z9 C fl o s).look t else{ rt:=[t],wt:=o.dst.toList }:=by
 unfold Bi;rw[hg];simp only[ht]
variable {st:St}{x:X}
def A6C{J:St->Option X}(hb:(st.get t).1=.bool want)(H:J2 C R fl o (st.know t (.bool want)) J=some x):
 ∃s1,J2 C R fl o st some=some s1/\J s1=some x:=by
 rw[JM hb (by simp)]at H;obtain⟨s1,h1,h2⟩:=mG H;exact⟨s1,h2 _ some,h1⟩
variable {os:List Oper}
def wY{bf:List (List Nat)}{i:Nat}{acc:List (Nat×Fp)}{k:St->Option X}(H:DI C R fl ops bf (o::os) i acc st k=some x):
 ∃s1,AP C R fl ops o st s1/\KU bf i acc ((Bi C fl ops o st).AF st s1)=true/\(∀q∈SV bf i acc ((Bi C fl ops o st).AF st s1),q.2.1[q.2.2]?=q.1[q.2.2]?)/\DI C R fl ops bf os (i+1) ((i,(Bi C fl ops o st).AF st s1)::acc) s1 k=some x:=by
 simp only[DI,ZK,A0x]at H;split at H
 ·rename_i hg;rw[A5w hg];obtain⟨s1,h1,h2⟩:=mG H;obtain⟨h3,h4⟩:=H6 h1;obtain⟨h5,h4⟩:=nO h4;exact⟨s1,(A2p hg _ _).2 (h2 _ some),h3,h5,h4⟩
 ·rename_i g want hg;obtain⟨t,ht,H⟩:=D5 H;obtain⟨hd,H⟩:=H6 H;rw[A5x hg ht];have run:(st.get t).1=.bool want->i_ C R fl o t (st.know t (.bool want)) (λf st1=>og (KU bf i acc f) (kL (SV bf i acc f) (DI C R fl ops bf os (i+1) ((i,f)::acc) st1 k)))=some x->
   ∃s1,AP C R fl ops o st s1/\KU bf i acc ((if eH want (st.get t).1 then(Z9 C fl o st).look t else{ rt:=[t],wt:=o.dst.toList }).AF st s1)=true/\(∀q∈SV bf i acc ((if eH want (st.get t).1 then(Z9 C fl o st).look t else{ rt:=[t],wt:=o.dst.toList }).AF st s1),q.2.1[q.2.2]?=q.1[q.2.2]?) /\DI C R fl ops bf os (i+1) ((i,(if eH want (st.get t).1 then(Z9 C fl o st).look t else{ rt:=[t],wt:=o.dst.toList }).AF st s1)::acc) s1 k=some x:=by
   intro dz H9;rw[C8 (Zf.2 dz)];unfold i_ at H9;obtain⟨s1,h1,h2⟩:=A6C dz H9;rw[JM dz (by simp)]at h2;obtain⟨h3,h4⟩:=H6 h2;obtain⟨h5,h4⟩:=nO h4;exact⟨s1,(dG hg ht _ _).2 ⟨hd,.inl ⟨dz,h1⟩⟩,h3,h5,h4⟩
  have skip:∀d:DV,(d=.bool !want\/d=.J9 [])->(st.get t).1=d->WK o t (st.know t d) (λf st1=>og (KU bf i acc f) (kL (SV bf i acc f) (DI C R fl ops bf os (i+1) ((i,f)::acc) st1 k)))=some x->
   ∃s1,AP C R fl ops o st s1/\KU bf i acc ((if eH want (st.get t).1 then(Z9 C fl o st).look t else{ rt:=[t],wt:=o.dst.toList }).AF st s1)=true/\(∀q∈SV bf i acc ((if eH want (st.get t).1 then(Z9 C fl o st).look t else{ rt:=[t],wt:=o.dst.toList }).AF st s1),q.2.1[q.2.2]?=q.1[q.2.2]?) /\DI C R fl ops bf os (i+1) ((i,(if eH want (st.get t).1 then(Z9 C fl o st).look t else{ rt:=[t],wt:=o.dst.toList }).AF st s1)::acc) s1 k=some x:=by
   intro d RN dz H9;rw[JM dz (by rcases RN with h | h<;>rw[h]<;>simp)]at H9;have hB:¬(eH want (st.get t).1=true):=by rw[Zf,dz];rcases RN with h | h<;>rw[h]<;>cases want<;>simp
   rw[A7 hB];unfold WK at H9;obtain⟨h3,h4⟩:=H6 H9;obtain⟨h5,h4⟩:=nO h4;exact⟨_,(dG hg ht _ _).2 ⟨hd,.inr ⟨by rw[dz];exact RN,rfl⟩⟩,h3,h5,h4⟩
  rcases A6b H with⟨hb,H9⟩ | ⟨hb,H9⟩ | ⟨hb,H9⟩
  ·cases want
   ·exact skip _ (.inl rfl) hb H9
   ·exact run hb H9
  ·cases want
   ·exact run hb H9
   ·exact skip _ (.inl rfl) hb H9
  ·exact skip _ (.inr rfl) hb H9
def A0m{k:St->Option X}(H:FB C R fl ops (o::os) st k=some x):
 ∃s1,AP C R fl ops o st s1/\FB C R fl ops os s1 k=some x:=by
 simp only[FB,ZK]at H;split at H
 ·rename_i hg;obtain⟨s1,h1,h2⟩:=mG H;exact⟨s1,(A2p hg _ _).2 (h2 _ some),h1⟩
 ·rename_i g want hg;obtain⟨t,ht,H⟩:=D5 H;obtain⟨hd,H⟩:=H6 H;have run:(st.get t).1=.bool want->J2 C R fl o (st.know t (.bool want)) (λst=>FB C R fl ops os st k)=some x->
   ∃s1,AP C R fl ops o st s1/\FB C R fl ops os s1 k=some x:=by
   intro dz H9;obtain⟨s1,h1,h2⟩:=A6C dz H9;exact⟨s1,(dG hg ht _ _).2 ⟨hd,.inl ⟨dz,h1⟩⟩,h2⟩
  have skip:∀d:DV,(d=.bool !want\/d=.J9 [])->(st.get t).1=d->FB C R fl ops os ((st.know t d).put o.dst (.J9 []) .val) k=some x->
   ∃s1,AP C R fl ops o st s1/\FB C R fl ops os s1 k=some x:=by
   intro d RN dz H9;rw[JM dz (by rcases RN with h | h<;>rw[h]<;>simp)]at H9;exact⟨_,(dG hg ht _ _).2 ⟨hd,.inr ⟨by rw[dz];exact RN,rfl⟩⟩,H9⟩
  rcases A6b H with⟨hb,H9⟩ | ⟨hb,H9⟩ | ⟨hb,H9⟩
  ·cases want
   ·exact skip _ (.inl rfl) hb H9
   ·exact run hb H9
  ·cases want
   ·exact run hb H9
   ·exact skip _ (.inl rfl) hb H9
  ·exact skip _ (.inr rfl) hb H9
def A4w(f g:Fp):Prop:=comm f g=true/\Calm f g
def Yv(C:BV)(R:O7)(fl:H8)(ops:List Oper):List (Nat×Fp)->St->St->Prop
 |[],s,t=>s=t
 |p::l,s,t=>∃o s1,ops[p.1]?=some o/\AP C R fl ops o s s1/\p.2=(Bi C fl ops o s).AF s s1/\Yv C R fl ops l s1 t
def Yv.first:∀{A B:List (Nat×Fp)}{p:Nat×Fp}{s t:St},Yv C R fl ops (A++p::B) s t->(∀q∈A,A4w q.2 p.2)->
 ∃o s1,ops[p.1]?=some o/\AP C R fl ops o s s1/\p.2=(Bi C fl ops o s).AF s s1/\Yv C R fl ops (A++B) s1 t
 |[],B,p,s,t,H,_=>H
 |q::A,B,p,s,t,H,hc=>by obtain⟨oq,s1,h1,h2,h3,H⟩:=H;obtain⟨op,s2,h4,h5,h6,H⟩:=Yv.first (A:=A) H λq' tO=>hc q' (z2q _ tO);have h7:=hc q (z4q ..);rw[h3,h6]at h7;obtain⟨s1',k1,k2,k3,k4⟩:=B2g h2 h5 h7.1 h7.2;exact⟨op,s1',h4,k1,by rw[h6,k3],oq,s2,h1,k2,by rw[h3,k4],H⟩
def sM{bf:List (List Nat)}{k:St->Option X}{x:X}:∀{os:List Oper}{i:Nat}{acc:List (Nat×Fp)}{st:St},(∀j:Nat,os[j]?=ops[i+j]?)->DI C R fl ops bf os i acc st k=some x->
 ∃l t,k t=some x/\Yv C R fl ops l st t/\l.map (·.1)=List.range' i os.length/\(∀p∈acc,∀q∈l,p.1∈bf.getD q.1 []\/A4w p.2 q.2) /\l.Pairwise λp q=>p.1∈bf.getD q.1 []\/A4w p.2 q.2
 |[],i,acc,st,_,H=>⟨[],st,H,rfl,rfl,by simp,.nil⟩
 |o::os,i,acc,st,hs,H=>by
   obtain⟨s1,h1,h2,RL,h3⟩:=wY H;have DL:∀j:Nat,os[j]?=ops[i+1+j]?:=λj=>by have:=hs (j+1);simp only[zcq]at this;rw[this];congr 1;omega
   obtain⟨l,t,k1,k2,k3,k4,k5⟩:=sM DL h3;refine⟨(i,(Bi C fl ops o st).AF st s1)::l,t,k1,⟨o,s1,?_,h1,rfl,k2⟩,?_,λp hp q hq=>?_,.cons (λq hq=>k4 _ (z4q ..) q hq) k5⟩
   ·have:=hs 0;simpa using this.symm
   ·simp only[zeq,zbq,ymq,k3]
   ·rcases zkq.1 hq with rfl | hq
    ·have:=z7q.1 h2 p hp;simp only[yqq,List.contains_eq_mem,I9]at this;by_cases hb:p.1∈bf.getD i []
     ·exact .inl hb
     ·refine .inr ⟨this.resolve_left hb,λq hq=>RL q (zwq.2 ⟨p,hp,?_⟩)⟩;have hc:(bf.getD i []).contains p.1=false:=by simpa using hb
      rw[hc];exact hq
    ·exact k4 p (z2q _ hp) q hq
end
section
variable {C:BV}{R:O7}{fl:H8}{ops:List Oper}{E:Env}{a:Act}{w:World}{K:Act->World->Prop}{Q:Exit->Act->World->Prop}
def uZ{st:St}{g t:Nat}{b:Bool}(Rl:K9 E st a w.heap)(ht:LX ops g=some t)(hd:K8 (st.get t).2=true)(hb:(st.get t).1=.bool b):yielded ops.toArray a.tmps g=some b:=by
 unfold LX at ht;obtain⟨o,h1,h2⟩:=D5 ht;have P6:t<a.tmps.size:=by
  rw[Rl.size];rcases zrq t st.tm.length with h | h
  ·exact h
  ·rw[Xq h Rl.Aa]at hb;cases hb
 have hv:a.tmps[t]?=some a.tmps[t]:=zjq P6;have:=(Rl.Bf t _ hv).data hd;rw[hb]at this;simp only[RV]at this;unfold yielded;simp[h1,h2,hv,this]
def A75{st:St}{g t:Nat}(Rl:K9 E st a w.heap)(ht:LX ops g=some t)(hd:K8 (st.get t).2=true)(hb:(st.get t).1=.J9 []):yielded ops.toArray a.tmps g=none:=by
 unfold LX at ht;obtain⟨o,h1,h2⟩:=D5 ht;have P6:t<a.tmps.size:=by
  rw[Rl.size];rcases zrq t st.tm.length with h | h
  ·exact h
  ·rw[Xq h Rl.Aa]at hb;cases hb
 have hv:a.tmps[t]?=some a.tmps[t]:=zjq P6;have:=(Rl.Bf t _ hv).data hd;rw[hb]at this;simp only[RV]at this;obtain⟨vs,h3,h4⟩:=this;unfold yielded;simp[h1,h2,hv,h3]
def J7(ro:Option Nat):Fence:={ fn:=λ_=>True,depth:=none,alive:=false,round:=ro }
variable {ro:Option Nat}{n:Nat}{P:Program}
def A7l{f:FuncId}{args:Array Value}{w:World}{R:Ending->World->Prop}(h:Calls P f args w R):CallsIn (J7 ro) n P f args w R:=by
 have h1:CallsIn Fence.wide n P f args w R:=callsIn_wide.2 h;cases ro with
 |none=>exact h1
 |some l=>exact CallsIn.inRound l h1
def Gp.wpIn{o:Oper}(hd:∀c,o.op ≠ .defer c)(H:Gp P o a w K):o.wpIn (J7 ro) n P a w K Q:=by
 refine⟨λ_ _=>trivial,?_⟩;rw[Oper.semAt_eq _ _ _ hd];rcases H with⟨v,w',h1,h2⟩ | ⟨w',h1,h2⟩ | ⟨f,args,h1,h2⟩
 ·rw[h1];exact h2
 ·rw[h1];exact h2
 ·rw[h1];exact⟨λh=>(by cases h),A7l (h2.mono λe w' ⟨v,he,hk⟩=>by subst he;exact hk)⟩
def B4y{i:Nat}{o:Oper}{s s1:St}(hO:Il C R)(ho:ops[i]?=some o)(H:AP C R fl ops o s s1)(Rl:K9 E s a w.heap)(T:∀E' a' w',a'.defers=a.defers->K9 E' s1 a' w'.heap->Pr P5 E w.heap E' w'.heap->Y9 w w'->K a' w'):wpOpIn (J7 ro) n C.P ops.toArray Q i K a w:=by
 unfold wpOpIn;have ho':ops.toArray[i]?=some o:=by simpa using ho
 simp only[ho'];unfold AP at H;have run:J2 C R fl o s some=some s1->o.wpIn (J7 ro) n C.P a w K Q:=λH=>by
  have hd:∀c,o.op ≠ .defer c:=λc hc=>by simp[J2,hc]at H
  have h0:Gp C.P o a w λa' w'=>∃E',K9 E' s1 a' w'.heap/\Pr P5 E w.heap E' w'.heap/\Y9 w w':=B7h hO H Rl λE' st' a' w' h1 h2 h3 h4=>by simp only[D8]at h1;subst h1;exact⟨E',h2,h3,h4⟩
  exact Gp.wpIn hd (h0.mono λa' w' hd ⟨E',h1,h2,h3⟩=>T E' a' w' hd h1 h2 h3)
 split at H
 ·rename_i hg;have hw:Region.wanted o (yielded ops.toArray a.tmps)=true:=by simp[Region.wanted,hg]
  rw[C8 hw];exact run H
 ·rename_i g want hg;obtain⟨t,ht,hd,H⟩:=H;rcases H with⟨hb,H⟩ | ⟨hb,H⟩
  ·have hw:Region.wanted o (yielded ops.toArray a.tmps)=true:=by simp[Region.wanted,hg,uZ Rl ht hd hb]
   rw[C8 hw];exact run H
  ·have hw:¬(Region.wanted o (yielded ops.toArray a.tmps)=true):=by
    rcases hb with hb | hb
    ·cases want<;>simp[Region.wanted,hg,uZ Rl ht hd hb]
    ·simp[Region.wanted,hg,A75 Rl ht hd hb]
   rw[A7 hw];subst H;refine⟨λ_ _=>trivial,T E _ w (iU ..) (Rl.put λt _=>?_) (Pr.refl _ _ _) (Y9.refl _)⟩;simp only[RR,L9,RV,undef];exact⟨#[],rfl,by simp[Re]⟩
def A8I{X:Type}{k:St->Option X}{x:X}{ro:Option Nat}{n:Nat}(hO:Il C R):∀{os:List Oper}{i:Nat}{st:St}{E:Env}{a:Act}{w:World},(∀j:Nat,os[j]?=ops[i+j]?)->FB C R fl ops os st k=some x->K9 E st a w.heap->
 (∀E' t a' w',k t=some x->a'.defers=a.defers->K9 E' t a' w'.heap->Pr P5 E w.heap E' w'.heap->Y9 w w'->Q .normal a' w')->wpOpsIn (J7 ro) n C.P ops.toArray Q (List.range' i os.length) a w
 |[],i,st,E,a,w,_,H,Rl,T=>T E st a w H rfl Rl (Pr.refl _ _ _) (Y9.refl _)
 |o::os,i,st,E,a,w,hs,H,Rl,T=>by
   obtain⟨s1,h1,h2⟩:=A0m H;have DL:∀j:Nat,os[j]?=ops[i+1+j]?:=λj=>by have:=hs (j+1);simp only[zcq]at this;rw[this];congr 1;omega
   simp only[zbq,ymq];rw[wpOpsIn_cons];refine B4y hO (by simpa using(hs 0).symm) h1 Rl λE' a' w' D1 R1 P1 O1=>?_;exact A8I hO DL h2 R1 λE2 t a2 w2 k1 k0 k2 k3 k4=>T E2 t a2 w2 k1 (k0.trans D1) k2 (P1.trans k3) (O1.trans k4)
end
end Go.Su

/-
 THE DATA MACHINE, part 24: a region in whatever order.
-/
namespace Go.Su
set_option linter.defProp false
def aft(o:Oper):List Edge:=o.after.toList.filter (Region.binds .any)
def gB:∀{os:List Oper}{acc:List (List Nat)}{j:Nat},j<acc.length->(ML os acc)[j]?=acc[j]?
 |[],acc,j,_=>rfl
 |o::os,acc,j,h=>by simp only[ML,Uq];rw[gB (by simp;omega),zdq h]
def zo:∀{os:List Oper}{acc:List (List Nat)},TG acc.length os=true->∀(j:Nat) o,os[j]?=some o->
 (ML os acc).getD (acc.length+j) []=uniq ((aft o).flatMap λe=>e.on::(ML os acc).getD e.on [])
 |[],acc,_,j,o,h=>by simp at h
 |o'::os,acc,he,j,o,h=>by
   simp only[TG,z5q]at he;simp only[ML,Uq];generalize hr:(acc++[uniq ((o'.after.toList.filter (Region.binds .any)).flatMap λe=>e.on::acc.getD e.on [])])=acc';have hl:acc'.length=acc.length+1:=by rw[<- hr];simp
   cases j with
   |zero=>
     simp only[zlq,D8]at h;subst h;have h1:(ML os acc').getD (acc.length+0) []=uniq ((o'.after.toList.filter (Region.binds .any)).flatMap λe=>e.on::acc.getD e.on []):=by rw[z6q,gB (by omega),<- hr];simp
     rw[h1];refine congrArg uniq (BF λe hm=>?_);have h2:=z7q.1 he.1 e hm;simp only[I9]at h2;rw[z6q,z6q,gB (by omega),<- hr,zdq h2]
   |succ j=>have:=zo (os:=os) (acc:=acc') (by rw[hl];exact he.2) j o (by simpa using h);rw[hl]at this;rw[show acc.length+(j+1)=acc.length+1+j by omega];exact this
def A4N:∀{os:List Oper}{i:Nat},TG i os=true->∀(j:Nat) o,os[j]?=some o->∀e∈aft o,e.on<i+j
 |[],i,_,j,o,h=>by simp at h
 |o'::os,i,he,j,o,h=>by
   simp only[TG,z5q]at he;cases j with
   |zero=>simp only[zlq,D8]at h;subst h;intro e hm;have h2:=z7q.1 he.1 e hm;simpa using h2
   |succ j=>intro e hm;have:=A4N he.2 j o (by simpa using h) e hm;omega
structure Inv(bf:List (List Nat))(n:Nat)(listed:Array Bool)(l:List (Nat×Fp)):Prop where
 size:listed.size=n
 idx:∀j:Nat,(∃f,(j,f)∈l)↔listed[j]?=some false
 sorted:l.Pairwise λp q=>p.1<q.1
 pw:l.Pairwise λp q=>p.1∈bf.getD q.1 []\/A4w p.2 q.2
 down:∀j:Nat,listed[j]?=some true->∀p∈bf.getD j [],listed[p]?=some true
variable {listed:Array Bool}
def xQ{j:Nat}:listed.getD j false=true↔listed[j]?=some true:=by rw[zMq];cases listed[j]?<;>simp
def bF{j:Nat}:listed.getD j true=false↔listed[j]?=some false:=by rw[zMq];cases listed[j]?<;>simp
section
variable {C:BV}{R:O7}{fl:H8}{ops:List Oper}{Q:Exit->Act->World->Prop}{ro:Option Nat}
def B5l{bf:List (List Nat)}{t:St}{m:Nat}(hO:Il C R)(hbf:∀(i:Nat) o,ops[i]?=some o->∀p,p∈bf.getD i []->p∈(aft o).flatMap λe=>e.on::bf.getD e.on [])(P6:∀(i:Nat) o,ops[i]?=some o->∀e∈aft o,e.on<i):
 ∀(n:Nat)(l:List (Nat×Fp))(listed:Array Bool)(s:St)(E:Env)(a:Act)(w:World),l.length=n->Inv bf ops.length listed l->Yv C R fl ops l s t->K9 E s a w.heap->(∀E' a' w',a'.defers=a.defers->K9 E' t a' w'.heap->Pr P5 E w.heap E' w'.heap->Y9 w w'->Q .normal a' w')->wpAnyIn (J7 ro) m C.P .any ops.toArray Q n listed a w:=by
 intro n;induction n with
 |zero=>intro l listed s E a w hl I Ch Rl T;have hl0:=zfq hl;subst hl0;simp only[Yv]at Ch;subst Ch;refine⟨?_,T E a w rfl Rl (Pr.refl _ _ _) (Y9.refl _)⟩;rw[List.eq_nil_iff_forall_not_mem];intro j hj;obtain⟨h0,-⟩:=mem_ready.1 hj;obtain⟨f,hf⟩:=(I.idx j).2 (bF.1 h0);cases hf
 |succ n ih=>
   intro l listed s E a w hl I Ch Rl T;constructor
   ·intro hr;exfalso;cases l with
    |nil=>simp at hl
    |cons p l=>
      have hp:listed[p.1]?=some false:=(I.idx p.1).1 ⟨p.2,z4q ..⟩;obtain⟨o,s1,ho,-⟩:=Ch;have:p.1∈Region.ready .any ops.toArray listed:=by
       refine mem_ready.2 ⟨bF.2 hp,o,by simpa using ho,λe he hb=>xQ.2 ?_⟩;have B9h:=P6 p.1 o ho e (zJq.2 ⟨by simpa using he,hb⟩);have pX:=(z1q.1 hp).1;have MZ:listed[e.on]?=some (listed[e.on]'(by omega)):=zjq (by omega);cases hv:(listed[e.on]'(by omega))with
       |true=>rw[MZ,hv]
       |false=>
         rw[hv]at MZ;obtain⟨f,hf⟩:=(I.idx e.on).2 MZ;rcases zkq.1 hf with h | h
         ·have:e.on=p.1:=by rw[<- h]
          omega
         ·have:=(zHq.1 I.sorted).1 _ h;simp only at this;omega
      rw[hr]at this;cases this
   ·intro i hi;obtain⟨h0,o,ho,tH⟩:=mem_ready.1 hi;have hif:=bF.1 h0;obtain⟨g,hg⟩:=(I.idx i).2 hif;obtain⟨A,B,rfl⟩:=List.append_of_mem hg;have ho':ops[i]?=some o:=by simpa using ho
    have hbi:∀p∈bf.getD i [],listed[p]?=some true:=by
     intro p hp;replace hp:=hbf i o ho' _ hp;obtain⟨e,he,hp⟩:=zwq.1 hp;obtain⟨he1,he2⟩:=zJq.1 he;have hl:=xQ.1 (tH e (by simpa using he1) he2);rcases zkq.1 hp with rfl | hp
     ·exact hl
     ·exact I.down _ hl p hp
    obtain⟨pA,pB,pAB⟩:=zxq.1 I.pw;obtain⟨sA,sB,sAB⟩:=zxq.1 I.sorted;obtain⟨sB1,sB2⟩:=zHq.1 sB;have B7N:∀q∈A,A4w q.2 g:=by
     intro q hq;rcases pAB q hq (i,g) (z4q ..)with h | h
     ·have h1:=hbi _ h;have h2:=(I.idx q.1).1 ⟨q.2,zaq.2 (.inl hq)⟩;rw[h1]at h2;cases h2
     ·exact h
    obtain⟨o',s1,k1,k2,k3,k4⟩:=Yv.first Ch B7N;have B6q:=(z1q.1 hif).1;refine B4y hO k1 k2 Rl λE' a' w' D1 R1 P1 O1=>ih (A++B) _ s1 E' a' w' ?_ ⟨?_,λj=>?_,?_,?_,λj hj p hp=>?_⟩ k4 R1 λE2 a2 w2 D2 R2 P2 O2=>T E2 a2 w2 (D2.trans D1) R2 (P1.trans P2) (O1.trans O2)
    ·simp only[zIq,zbq]at hl ⊢;omega
    ·rw[Array.size_setIfInBounds];exact I.size
    ·constructor
     ·rintro⟨f,hf⟩;have hne:i≠j:=by
       rcases zaq.1 hf with h | h
       ·have:=sAB _ h (i,g) (z4q ..);simp only at this;omega
       ·have:=sB1 _ h;simp only at this;omega
      rw[z9q hne];exact(I.idx j).1 ⟨f,by
       rcases zaq.1 hf with h | h
       ·exact zaq.2 (.inl h)
       ·exact zaq.2 (.inr (z2q _ h))⟩
     ·intro hj;by_cases hne:i=j
      ·subst hne;rw[zqq B6q]at hj;cases hj
      ·rw[z9q hne]at hj;obtain⟨f,hf⟩:=(I.idx j).2 hj;refine⟨f,?_⟩;rcases zaq.1 hf with h | h
       ·exact zaq.2 (.inl h)
       ·rcases zkq.1 h with h | h
        ·simp only[Prod.mk.injEq]at h;exact absurd h.1.symm hne
        ·exact zaq.2 (.inr h)
    ·exact zxq.2 ⟨sA,sB2,λp hp q hq=>sAB p hp q (z2q _ hq)⟩
    ·exact zxq.2 ⟨pA,(zHq.1 pB).2,λp hp q hq=>pAB p hp q (z2q _ hq)⟩
    ·have mono:∀q:Nat,listed[q]?=some true->(listed.setIfInBounds i true)[q]?=some true:=by
      intro q hq;by_cases hne:i=q
      ·subst hne;exact zqq B6q
      ·rw[z9q hne];exact hq
     by_cases hne:i=j
     ·subst hne;exact mono p (hbi p hp)
     ·rw[z9q hne]at hj;exact mono p (I.down j hj p hp)
variable {w:World}
def B0m{X:Type}{n:Nat}{k:St->Option X}{x:X}{ops:Array Oper}{id:Nat}{st:St}{E:Env}{a:Act}(hO:Il C R)(H:FB C R fl ops.toList ops.toList st k=some x)(Rl:K9 E st a w.heap)(T:∀E' t a' w',k t=some x->a'.defers=a.defers->K9 E' t a' w'.heap->Pr P5 E w.heap E' w'.heap->Y9 w w'->Q .normal a' w'):(Code.region id ops false).wpIn (J7 ro) n C.P Q a w:=by
 refine wpIn_region ?_;have:=A8I (ro:=ro) (n:=n) (i:=0) hO (λj=>by rw[znq]) H Rl T
 rwa [List.range_eq_range',<- zRq]
def B3I{X:Type}{n:Nat}{k:St->Option X}{x:X}{ops:Array Oper}{id:Nat}{st:St}{E:Env}{a:Act}(hm:C.P.follows .mixedOrders=true)(hO:Il C R)(H:og (TG 0 ops.toList) (DI C R fl ops.toList (ML ops.toList []) ops.toList 0 [] st k)=some x)(Rl:K9 E st a w.heap)(T:∀E' t a' w',k t=some x->a'.defers=a.defers->K9 E' t a' w'.heap->Pr P5 E w.heap E' w'.heap->Y9 w w'->Q .normal a' w'):(Code.region id ops true).wpIn (J7 ro) n C.P Q a w:=by
 obtain⟨he,H⟩:=H6 H;obtain⟨l,t,h1,h2,h3,h4,h5⟩:=sM (λj=>by rw[znq]) H;refine wpIn_region_any hm ?_;have GH:l.length=ops.size:=by have:=congrArg List.length h3;simpa using this
 have hidx:∀j:Nat,(∃f,(j,f)∈l)↔j<ops.size:=by
  intro j;have:j∈l.map (·.1)↔j∈List.range' 0 ops.toList.length:=by rw[h3]
  rw[List.mem_map]at this;simp only[List.mem_range'_1,ypq,true_and,znq,zRq]at this;rw[<- this];constructor
  ·rintro⟨f,hf⟩;exact⟨_,hf,rfl⟩
  ·rintro⟨p,hp,rfl⟩;exact⟨p.2,hp⟩
 have B4U:l.Pairwise λp q=>p.1<q.1:=by
  have:(l.map (·.1)).Pairwise (· < ·):=by rw[h3];exact List.pairwise_lt_range' ..
  exact List.pairwise_map.1 this
 have:=B5l (ro:=ro) (m:=n) (t:=t) (fl:=fl) (Q:=Q) (ops:=ops.toList) (bf:=ML ops.toList []) hO (λi o ho p hp=>by
  have h:=zo (acc:=[]) he i o ho;simp only[zBq,znq]at h;rw[h]at hp;exact yV.1 hp) (λi o ho e hm=>by simpa using A4N he i o ho e hm)
  ops.size l (Array.replicate ops.size false) st E a { w with drawn:=w.drawn+1 } GH ⟨by simp,λj=>?_,B4U,h5,λj hj=>?_⟩ h2 Rl λE' a' w' D1 R1 P1 O1=>T E' t a' w' h1 D1 R1 P1 ⟨O1.os,O1.tape,O1.output⟩
 ·simpa using this
 ·rw[hidx];rw[zFq];split<;>simp_all
 ·rw[zFq]at hj;split at hj<;>simp at hj
end
end Go.Su

/-
 THE DATA MACHINE, part 24a: what a loop over an iterator leaves as it was.
-/
namespace Go.Su
set_option linter.defProp false
def Marks(n:Nat)(E:Env)(h:Heap)(ms:List Deferred):Prop :=(∀m∈ms,∃D,m={ target:=.collected D,args := #[] }/\h[D]?=some (.deferred (some []))/\E.O D 0=.other/\n<=D)/\ms.Pairwise (· ≠ ·)
variable {n:Nat}{E:Env}{h:Heap}
def Marks.nil:Marks n E h []:=⟨λ_ hm=>(by cases hm),.nil⟩
variable {b:Nat}
def Pr.bK{E':Env}{h':Heap}(P:Pr P5 E h E' h'){ob:Obj}(hb:h[b]?=some ob)(hc:ob.isCells=false)(ho:E.O b 0=.other):h'[b]?=some ob:=by
 have P6:=(z1q.1 hb).1;have hk:=P.blk b P6;rw[hb]at hk;unfold V9 at hk;split at hk
 ·rename_i hx;cases hx
 ·rename_i hx;simp only[D8]at hx;subst hx;simp[Obj.isCells]at hc
 ·rename_i ob' _ hx;simp only[D8]at hx;subst hx;exact hk (by rw[ho];simp[P5])
def Pr.WY{E':Env}{h':Heap}(P:Pr P5 E h E' h'){o:Nat}(hb:b<h.size)(ho:E.O b o=.other):E'.O b o=.other:=by rw[P.tags b o hb (by rw[ho];simp[P5]),ho]
def Marks.mono{E':Env}{h':Heap}{ms:List Deferred}(H:Marks n E h ms)(P:Pr P5 E h E' h'):Marks n E' h' ms:=⟨λm hm=>by obtain⟨D,h1,h2,h3,h4⟩:=H.1 m hm;exact⟨D,h1,P.bK h2 rfl h3,P.WY (z1q.1 h2).1 h3,h4⟩,H.2⟩
def Marks.append{E0:Env}{h0:Heap}{ms ns:List Deferred}(H:Marks h0.size E h ns)(K0:Marks n E0 h0 ms)(P:Pr P5 E0 h0 E h)(hn:n<=h0.size):Marks n E h (ns++ms):=by
 have K:=K0.mono P;refine⟨λm hm=>?_,zxq.2 ⟨H.2,K.2,λx hx y hy he=>?_⟩⟩
 ·rcases zaq.1 hm with h1 | h1
  ·obtain⟨D,h1,h2,h3,h4⟩:=H.1 m h1;exact⟨D,h1,h2,h3,zyq hn h4⟩
  ·exact K.1 m h1
 ·obtain⟨D,h1,-,-,h4⟩:=H.1 x hx;obtain⟨D',k1,k2,-⟩:=K0.1 y hy;have:=(z1q.1 k2).1;rw[h1,k1]at he;simp only[Deferred.mk.injEq,Target.collected.injEq,and_true]at he;omega
variable {l:Nat}
def Pr.swap{ch:Tag->Prop}{E':Env}{h':Heap}{x y:Obj}(P:Pr ch E (h.setIfInBounds l x) E' h')(hy:h[l]?=some y):Pr ch E h E' (h'.setIfInBounds l y):=by
 have hl:=(z1q.1 hy).1;have hs:h.size<=h'.size:=by have:=P.size;simpa using this
 refine⟨by simpa using hs,λb hb=>?_,λb o hb hn=>P.tags b o (by simpa using hb) hn,P.n,P.U6,P.gD,P.Np⟩;by_cases hbl:l=b
 ·subst hbl;rw[zqq (by omega),hy];exact V9.refl _ _
 ·have:=P.blk b (by simpa using hb);rw[z9q hbl]at this;rw[z9q hbl];exact this
def Pr.uN{ch:Tag->Prop}{E':Env}{h':Heap}{x:Obj}(P:Pr ch E h E' h')(hl:h.size<=l):Pr ch E h E' (h'.setIfInBounds l x):=by refine⟨by simpa using P.size,λb hb=>?_,P.tags,P.n,P.U6,P.gD,P.Np⟩;rw[z9q (by omega)];exact P.blk b hb
def Pr.setOther{x y:Obj}(hy:h[l]?=some y)(hc:y.isCells=false)(ho:E.O l 0=.other):Pr (λT=>T=.other) E h E (h.setIfInBounds l x):=by
 refine⟨by simp,λb hb=>?_,λ_ _ _ _=>rfl,z8q _,λ_ _ _=>⟨rfl,rfl,rfl⟩,λ_ _=>rfl,Dp rfl⟩;by_cases hbl:l=b
 ·subst hbl;rw[hy];unfold V9;split
  ·trivial
  ·rename_i hx;simp only[D8]at hx;subst hx;simp[Obj.isCells]at hc
  ·exact λh0=>absurd ho h0
 ·rw[z9q hbl];exact V9.refl _ _
section
variable {E E':Env}{st:St}{a:Act}{h h':Heap}
def K9.others(Rl:K9 E st a h)(P:Pr (λT=>T=.other) E h E' h')(hn:E'.n=E.n)(hf:∀b o,h'.size<=b->E'.O b o=.other):K9 E' st a h':=by have J5:=P.Q6 (by simp) Rl.fresh;exact⟨Rl.size,Rl.Aa,Rl.CU,by rw[hn];exact Rl.n,λt v hv=>(Rl.Bf t v hv).mono P J5 (by simp) (by simp),λs cs hs=>by rw[P.gD s (by simp)];exact(Rl.j6 s cs hs).mono P J5 (by simp) (by simp),λi ob hi=>(Rl.U6 i ob hi).mono P J5 (by rw[<- Rl.n];exact(z0q.1 hi).1) (by simp) (by simp),hf⟩
def PX.pr{w w':World}(H:PX n E w w'):Pr (λT=>T=.other) E w.heap E w'.heap:=by
 refine⟨H.size,λb hb=>?_,λ_ _ _ _=>rfl,z8q _,λ_ _ _=>⟨rfl,rfl,rfl⟩,λ_ _=>rfl,Dp rfl⟩;rcases H.blk b hb with h1 | ⟨-,⟨c,T,f,c',h1,h2,h3⟩,h4⟩
 ·rw[h1];exact V9.refl _ _
 ·rw[h1,h2];exact⟨c',rfl,h3,λo ho=>absurd (h4 o) ho⟩
def PX.keep{w w':World}(H:PX n E w w'){ob:Obj}(hb:w.heap[b]?=some ob)(hc:ob.isCells=false):w'.heap[b]?=some ob:=by
 rcases H.blk b (z1q.1 hb).1 with h1 | ⟨-,⟨c,T,f,c',h1,h2,h3⟩,h4⟩
 ·rw[h1,hb]
 ·rw[hb]at h1;simp only[D8]at h1;subst h1;simp[Obj.isCells]at hc
def PX.after{w w':World}{E0:Env}{h0:Heap}(H:PX n E w w')(hn:h0.size<=n)(P:Pr P5 E0 h0 E w.heap):Pr P5 E0 h0 E w'.heap:=by
 refine⟨zyq P.size H.size,λb hb=>?_,P.tags,P.n,P.U6,P.gD,P.Np⟩;have:=P.blk b hb;rcases H.blk b (ztq hb P.size)with h1 | ⟨h1,-⟩
 ·rw[h1];exact this
 ·omega
def RR.stay{k t:Nat}{d:DV}{m:F4}{v:Value}{k' t':Nat}(R:RR E h k t d m v)(J5:AL E.S h E'.S h')(ho:∀i,E.In i->E'.In i/\E'.obj i=E.obj i):
 RR E' h' k' t' (vQ (d,m)).1 (vQ (d,m)).2 v:=by
 cases m<;>simp only[vQ,RR,L9,RV]at R ⊢
 case val=>exact R.mono J5
 case full=>exact⟨R.1.mono J5,R.2⟩
 case own=>exact R.1.mono J5
 case ptr i o=>exact⟨(ho i R.1).1,by rw[(ho i R.1).2];exact R.2⟩
 case KI=>exact⟨trivial,R.2⟩
 case map i=>exact⟨(ho i R.1).1,by rw[(ho i R.1).2];exact R.2⟩
 case RY=>exact R
 case fn f caps=>refine⟨?_,λc hc=>(ho _ (R.2 c hc)).1⟩;rw[R.1];congr 2;refine List.map_congr_left λc hc=>?_;rw[(ho _ (R.2 c hc)).2]
variable {sg:List E5}
def B1I{st:St}(hl:st.mt.length=st.tm.length)(t:Nat)(ht:t<st.tm.length):(Ac st sg).get t=vQ (st.get t):=by
 simp only[St.get,Ac,z6q,zhq,zNq];have h1:(st.tm.zip st.mt)[t]?=some (st.tm[t],st.mt[t]'(by omega)):=by rw[zNq];exact⟨z3q ht,z3q (by omega)⟩
 rw[h1];simp[z3q ht,z3q (show t<st.mt.length by omega)]
def K9.outer(Rl:K9 E st a h)(J5:AL E.S h E'.S h')(ho:∀i,E.In i->E'.In i/\E'.obj i=E.obj i)(hs:sg.length=E'.n)(hob:∀(i:Nat) ob,sg[i]?=some ob->RO E' h' i ob)(hf:∀b o,h'.size<=b->E'.O b o=.other){ds:List Deferred}:K9 E' (Ac st sg) { a with defers:=ds } h':=by
 have hl:=Rl.Aa;refine⟨?_,by simp[Ac,hl],by simp[Ac,hl,Rl.CU],hs,λt v hv=>?_,λs cs IJ=>?_,hob,hf⟩
 ·simp[Ac,hl];exact Rl.size
 ·have ht:t<st.tm.length:=by rw[<- Rl.size];exact(z1q.1 hv).1
  rw[B1I hl t ht];exact(Rl.Bf t v hv).stay J5 ho
 ·simp only[Ac,z6q,zhq]at IJ;cases hb:st.bx[s]?<;>rw[hb]at IJ<;>simp at IJ
end
def A4q(i:Nat):Tag->Tag
 |.other=>.other
 |.Q6=>.Q6
 |.Sw _=>.other
 |.obj j=>if j=i then .other else .obj j
 |.sp k a b=>if k=2/\a≠i then .sp k a b else .other
def A2r{E:Env}{h:Heap}{k a:Nat}:∀{cs:List (DV×F4)}{cd:List DV}{vs:List Value},MJ cs=some cd->cs.length=vs.length->
 (∀(j:Nat) r v,cs[j]?=some r->vs[j]?=some v->M8 r.1=true/\v.oneCell'=true/\Z4 r.2=true/\∃q,L9 E h (.sp k a q) r.1 r.2 v)->E_ E.S h cd vs
 |[],cd,vs,H,hl,_=>by simp only[MJ,D8]at H;subst H;simp only[E_];exact zfq hl.symm
 |c::cs,cd,vs,H,hl,hr=>by
   simp only[MJ]at H;obtain⟨h1,H⟩:=H6 H;obtain⟨ds,h2,H⟩:=D5 H;simp only[D8]at H;subst H;cases vs with
   |nil=>simp at hl
   |cons v vs=>obtain⟨a1,a2,a3,q,a4⟩:=hr 0 c v rfl rfl;simp only[E_];refine⟨v,vs,rfl,a1,NG a1 a2 ?_,A2r h2 (by simpa using hl) λj r u hj hu=>hr (j+1) r u (by simpa using hj) (by simpa using hu)⟩;revert a4 h1;cases c.2<;>simp only[L9]<;>intro h1 a4<;>first | exact a4 | exact a4.1 | (simp at h1)
end Go.Su

/-
 A scope through which the run goes FW a jump (functions that hold labels).
-/
namespace Go.Su
set_option linter.defProp false
open Go
def B8R(Q:Exit->Act->World->Prop):Exit->Act->World->Prop
 |.goto _,_,_=>False
 |e,a,w=>Q e a w
section
variable {P:Program}{b:Frame}{a:Act}{k:List Item}{cs:List Frame}{w:World}{Q:Exit->Act->World->Prop}{F:Fence}{n:Nat}{c:Code}
def OV:step P (lone (b.atR a (.code (.scope c)::k)) cs w)=.next (lone (b.atR a (.code c :: .inScope c::k)) cs w) :=step_lone_go (by simp[stepG,stepG.exec,Frame.atR])
def A4c:step P (lone (b.atR a (.inScope c::k)) cs w)=.next (lone (b.atR a k) cs w) :=step_lone_go (by simp[stepG,stepG.exec,Frame.atR])
def B0D(h:c.wpIn F n P (B8R Q) a w):(Code.scope c).wpIn F n P Q a w:=by
 intro b k cs Ry hb hr;have h0:(lone (b.atR a (.code (.scope c)::k)) cs w).fenced P F:=fenced_calm hb hr rfl;obtain⟨e,a₁,w₁,hq,A1J⟩:=h b (.inScope c::k) cs Ry hb hr;cases e with
 |normal=>exact⟨.normal,a₁,w₁,hq,.head h0 OV (StepsIn.trans A1J (.one (fenced_calm hb hr rfl) A4c))⟩
 |exit id=>
   have hx:exitTo id (.inScope c::k)=exitTo id k:=by simp[exitTo]
   exact⟨.exit id,a₁,w₁,hq,λk' hk=>.head h0 OV (A1J.1 k' (by rw[hx];exact hk)),λAY hk=>let⟨k₁,h1,h2⟩:=A1J.2 AY (by rw[hx];exact hk);⟨k₁,h1,.head h0 OV h2⟩⟩
 |goto l=>exact hq.elim
 |ret=>exact⟨_,a₁,w₁,hq,.of_steps (.one h0 OV) A1J⟩
 |panic ch=>exact⟨_,a₁,w₁,hq,.of_steps (.one h0 OV) A1J⟩
 |outgrown=>exact⟨_,a₁,w₁,hq,.of_steps (.one h0 OV) A1J⟩
end
end Go.Su

/-
 THE DATA MACHINE, part 25: code.
-/
namespace Go.Su
set_option linter.defProp false
def Out.A7b:Out->Exit
 |.normal=>.normal
 |.exit i=>.exit i
 |.ret=>.ret
def eO{α : Type}{ts:List Nat}{d : α}:∀{l:List α}{i j:Nat},(XD ts d i l)[j]?=(l[j]?).map λy=>if ts.contains (i+j)then y else d
 |[],i,j=>by simp[XD]
 |y::l,i,0=>by simp[XD]
 |y::l,i,j+1=>by simp only[XD,zcq];rw[eO,show i+1+j=i+(j+1)by omega]
def VA{α : Type}{ts:List Nat}{d : α}:∀{l:List α}{i:Nat},(XD ts d i l).length=l.length
 |[],i=>rfl
 |y::l,i=>by simp[XD,VA]
def nP{α : Type}{f : α -> α}{ts:List Nat}:∀{l:List α}{i j:Nat},(bL f ts i l)[j]?=(l[j]?).map λy=>if ts.contains (i+j)then f y else y
 |[],i,j=>by simp[bL]
 |y::l,i,0=>by simp[bL]
 |y::l,i,j+1=>by simp only[bL,zcq];rw[nP,show i+1+j=i+(j+1)by omega]
def iD{α : Type}{f : α -> α}{ts:List Nat}:∀{l:List α}{i:Nat},(bL f ts i l).length=l.length
 |[],i=>rfl
 |y::l,i=>by simp[bL,iD]
variable {E:Env}{h:Heap}{tg:Tag}{d:DV}{v:Value}
def xS(H:L9 E h tg d .full v):L9 E h tg d .own v:=by obtain⟨g1,⟨a1,n1,g2⟩,sz,ds,g3⟩:=H;refine⟨g1,sz,ds,g3,λx len cap hx P6=>?_⟩;rw[g2]at hx;simp only[Value.slice.injEq]at hx;omega
variable {m:F4}
def B3U(H:L9 E h tg d m v):L9 E h tg d (PQ m) v:=by cases m<;>first | exact xS H | exact H
def B3V{k a:Nat}(H:RR E h k a d m v):RR E h k a d (PQ m) v:=by cases m<;>first | exact xS H | exact H
def B2j(H:Z4 m=true):Z4 (PQ m)=true:=by cases m<;>first | rfl | exact H
def B3W(H:L9 E h tg d m v):L9 E h tg d (XG m) v:=by
 unfold XG;split
 ·rename_i hd;cases m
  case KI=>obtain⟨rfl,rfl⟩:=(H:_/\_);simp only[L9,RV]
  all_goals first | exact H | exact H.1 | (simp[K8]at hd;done) | exact H.elim
 ·exact H
def B3X{k a:Nat}(H:RR E h k a d m v):RR E h k a d (XG m) v:=by
 unfold XG;split
 ·rename_i hd;exact RR.val (RR.data hd H)
 ·exact H
def B2k(H:Z4 m=true):Z4 (XG m)=true:=by
 unfold XG;split
 ·rfl
 ·exact H
variable {st:St}{a:Act}
def K9.keep(R:K9 E st a h)(ts bs os vs:List Nat):K9 E (st.keep ts bs os vs) a h:=by
 refine⟨by simp only[St.keep,VA];exact R.size,by simp only[St.keep,VA,iD];exact R.Aa,by simp only[St.keep,VA,iD];exact R.CU,R.n,λt v hv=>?_,λs cs hs=>?_,R.U6,R.fresh⟩
 ·have ht:t<st.tm.length:=by rw[<- R.size];exact(z1q.1 hv).1
  have xL:t<st.mt.length:=by rw[R.Aa];exact ht
  have h0:=R.Bf t v hv;by_cases hc:ts.contains t=true
  ·have:(st.keep ts bs os vs).get t=((st.get t).1,(λm=>if vs.contains t then XG m else m) ((λm=>if os.contains t then PQ m else m) (st.get t).2)):=by simp only[St.get,St.keep,z6q,eO,nP,znq,hc,F6,Option.map_id',z3q xL];rfl
   rw[this];have h1:RR E h 0 t (st.get t).1 ((λm=>if os.contains t then PQ m else m) (st.get t).2) v:=by
    simp only
    split
    ·exact B3V h0
    ·exact h0
   simp only at h1 ⊢;split
   ·exact B3X h1
   ·exact h1
  ·have:(st.keep ts bs os vs).get t=(.undef,.val):=by simp only[St.get,St.keep,z6q,eO,nP,znq,hc,z3q ht,z3q xL,zgq,ybq];simp only[zoq,G8,PQ,XG,K8,ite_self]
   rw[this];simp only[RR,L9,RV]
 ·simp only[St.keep,z6q,eO,nP,znq]at hs ⊢;cases hb:st.bx[s]? with
  |none=>rw[hb]at hs;simp at hs
  |some y=>
    rw[hb]at hs;simp only[zgq,ybq]at hs ⊢;by_cases hc:bs.contains s=true
    ·simp only[hc,F6]at hs;have old:∀cs',y=some cs'->Zv E h (.Sw s) 1 s (E.blk s) cs':=λcs' hy=>R.j6 s cs' (by simp only[z6q,hb,ybq,hy]);have step1:∀cs',(if os.contains s=true then WZ y else y)=some cs'->Zv E h (.Sw s) 1 s (E.blk s) cs':=by
      intro cs hs;by_cases ho:os.contains s=true
      ·simp only[ho,F6]at hs;cases y with
       |none=>simp[WZ]at hs
       |some cs'=>simp only[WZ,D8]at hs;subst hs;obtain⟨c,T,h1,h2,h3,h4⟩:=old cs' rfl;refine⟨c,T,h1,by simpa using h2,h3,λj r v hr hv=>?_⟩;simp only[zhq,zmq]at hr;obtain⟨r0,Uy,rfl⟩:=hr;obtain⟨k1,k2,k3,k4⟩:=h4 j r0 v Uy hv;exact⟨k1,k2,B2j k3,B3U k4⟩
      ·simp only[ho,zoq,G8]at hs;exact old cs hs
     by_cases hv:vs.contains s=true
     ·simp only[hv,F6]at hs;generalize (if os.contains s=true then WZ y else y)=z at hs step1;cases z with
      |none=>simp[oK]at hs
      |some cs'=>simp only[oK,D8]at hs;subst hs;obtain⟨c,T,h1,h2,h3,h4⟩:=step1 cs' rfl;refine⟨c,T,h1,by simpa using h2,h3,λj r v hr hv=>?_⟩;simp only[zhq,zmq]at hr;obtain⟨r0,Uy,rfl⟩:=hr;obtain⟨k1,k2,k3,k4⟩:=h4 j r0 v Uy hv;exact⟨k1,k2,B2k k3,B3W k4⟩
     ·simp only[hv,zoq,G8]at hs;exact step1 cs hs
    ·simp only[hc,zoq,G8]at hs;split at hs<;>split at hs<;>simp[WZ,oK]at hs
def K9.QG(R:K9 E st a h)(fl:H8)(id:Nat):K9 E (QG fl id st) a h:=by
 unfold Su.QG;split
 ·exact R.keep _ _ _ _
 ·exact R
def K9.clean(R:K9 E st a h)(fl:H8)(c:Code):K9 E (clean fl c st) a h:=by
 unfold Su.clean;split
 ·exact R.QG fl _
 ·exact R
def ZO{S X:Type}{F:(S->Option X)->S->Option X}{s:S}{x:X}(H:JC F s=some x):∃n,iter F n s=some x:=by
 unfold JC at H;split at H
 ·rename_i h;simp only[D8]at H;obtain⟨n,hn⟩:=h.choose_spec;rw[H]at hn;exact⟨n,hn⟩
 ·cases H
section
variable {X:Type}{C:BV}{R:O7}{fl:H8}{ps:Array Nat}
def A0l{C:BV}{g:Operand}{pl:Bool}{fin:St->Option X}{step:Nat->DV->(List E5->Option X)->List E5->Option X}{x:X}(H:ut C st g ps pl fin step=some x):
 ∃t p f i it cs cd ds,g=.tmp t/\ps.toList=[p]/\(st.get t).2=.fn f [(i,0)]/\C.iter f=some it/\H5 st.sg i=some cs/\MJ cs=some cd/\it cd=some ds/\pl=true /\MV (step p) (λsg=>fin (Ac st sg)) ds (st.sg.set i (.arr 1 []))=some x:=by
 unfold ut at H;split at H
 ·rename_i t p hp;split at H
  ·rename_i f i hm;obtain⟨it,h1,H⟩:=D5 H;obtain⟨cs,h2,H⟩:=D5 H;obtain⟨cd,h3,H⟩:=D5 H;obtain⟨ds,h4,H⟩:=D5 H;obtain⟨h5,H⟩:=H6 H;exact⟨t,p,f,i,it,cs,cd,ds,rfl,hp,hm,h1,h2,h3,h4,h5,H⟩
  ·cases H
 ·cases H
def B2R{C:BV}{fin:St->Option X}{step:Nat->DV->(List E5->Option X)->List E5->Option X}{t p f i:Nat}{it:List DV->Option (List DV)}{cs:List (DV×F4)}{cd ds:List DV}(hp:ps.toList=[p])(hm:(st.get t).2=.fn f [(i,0)])(h1:C.iter f=some it)(h2:H5 st.sg i=some cs)(h3:MJ cs=some cd)(h4:it cd=some ds):
 ut C st (.tmp t) ps true fin step=MV (step p) (λsg=>fin (Ac st sg)) ds (st.sg.set i (.arr 1 [])):=by
 unfold ut;simp only[hp,hm,h1,h2,h3,h4,ob,og]
theorem A7F{step:DV->(List E5->Option X)->List E5->Option X}{fin:List E5->Option X}{ds:List DV}{k:Nat}(h:ds[k]?=some d)(sg:List E5):
 MV step fin (ds.drop k) sg=step d (MV step fin (ds.drop (k+1))) sg:=by
 obtain⟨hk,h⟩:=z0q.1 h;rw[zpq hk,h];rfl
def Left(c:Code)(n:Nat)(E:Env)(h:Heap)(ds ds':List Deferred):Prop:=∃ms,ds'=ms++ds/\Marks n E h ms/\(CZ c=true->ms=[])
variable {c:Code}
def Left.same{n:Nat}{ds ds':List Deferred}(e:ds'=ds):Left c n E h ds ds':=⟨[],e,Marks.nil,λ_=>rfl⟩
theorem Left.plain{n:Nat}{ds ds':List Deferred}(L:Left c n E h ds ds')(hp:CZ c=true):ds'=ds:=by obtain⟨ms,h1,-,h2⟩:=L;rw[h1,h2 hp];rfl
def A7L(h:nC c=true):CZ c=true:=by
 unfold nC at h;split at h
 ·rfl
 ·rfl
 ·cases h
set_option maxHeartbeats 1000000 in
def A6K(hm:C.P.follows .mixedOrders=true)(hO:Il C R):∀(c:Code){ro:Option Nat}{n:Nat}{K:Out->St->Option X}{st:St}{x:X}{E:Env}{a:Act}{w:World}{Q:Exit->Act->World->Prop},(ro=none\/CZ c=true)->AA C R fl c K st=some x->K9 E st a w.heap->
 (∀out E' st' a' w',K out st'=some x->Left c w.heap.size E' w'.heap a.defers a'.defers->K9 E' st' a' w'.heap->Pr P5 E w.heap E' w'.heap->Y9 w w'->Q out.A7b a' w')->c.wpIn (J7 ro) n C.P Q a w:=by
 intro c;induction c with
 |skip=>intro ro n K st x E a w Q Ry H Rl T;exact wpIn_skip (T .normal E st a w H (Left.same rfl) Rl (Pr.refl _ _ _) (Y9.refl _))
 |scope c ih=>
   intro ro n K st x E a w Q Ry H Rl T;simp only[AA]at H;refine B0D (ih Ry H Rl λout E' st' a' w' h1 h0 h2 h3 h4=>?_);cases out with
   |normal=>exact T .normal E' st' a' w' h1 h0 h2 h3 h4
   |exit i=>exact T (.exit i) E' st' a' w' h1 h0 h2 h3 h4
   |ret=>exact T .ret E' st' a' w' h1 h0 h2 h3 h4
 |label l=>intro ro n K st x E a w Q Ry H Rl T;exact wpIn_label (T .normal E st a w H (Left.same rfl) Rl (Pr.refl _ _ _) (Y9.refl _))
 |region id ops d=>
   intro ro n K st x E a w Q Ry H Rl T;cases d
   ·exact B0m hO H (Rl.QG fl id) λE' t a' w' h1 h0 h2 h3 h4=>by obtain⟨E2,t2,k1,k2,k3⟩:=zt h1 h2;exact T .normal E2 t2 a' w' k1 (Left.same h0) k2 (h3.trans k3) h4
   ·simp only[AA,g_]at H;exact B3I hm hO H (Rl.QG fl id) λE' t a' w' h1 h0 h2 h3 h4=>by obtain⟨E2,t2,k1,k2,k3⟩:=zt h1 h2;exact T .normal E2 t2 a' w' k1 (Left.same h0) k2 (h3.trans k3) h4
 |seq c d ihc ihd=>
   intro ro n K st x E a w Q Ry H Rl T;have hp:CZ (.seq c d)=true->CZ c=true/\CZ d=true:=λh=>by simpa[CZ]using h
   refine wpIn_seq (ihc (Ry.imp id λh=>(hp h).1) H Rl λout E' st' a' w' h1 h0 h2 h3 h4=>?_);obtain⟨ms,q1,q2,q3⟩:=h0;cases out with
   |normal=>refine ihd (Ry.imp id λh=>(hp h).2) h1 (h2.clean fl d) λout E2 st2 a2 w2 k1 k0 k2 k3 k4=>T out E2 st2 a2 w2 k1 ?_ k2 (h3.trans k3) (h4.trans k4);obtain⟨ns,p1,p2,p3⟩:=k0;exact⟨ns++ms,by rw[p1,q1,yeq],p2.append q2 k3 h3.size,λh=>by rw[p3 (hp h).2,q3 (hp h).1];rfl⟩
   |exit i=>exact T (.exit i) E' st' a' w' h1 ⟨ms,q1,q2,λh=>q3 (hp h).1⟩ h2 h3 h4
   |ret=>exact T .ret E' st' a' w' h1 ⟨ms,q1,q2,λh=>q3 (hp h).1⟩ h2 h3 h4
 |cond y c d ihc ihd=>
   intro ro n K st x E a w Q Ry H Rl T;have hp:CZ (.cond y c d)=true->CZ c=true/\CZ d=true:=λh=>by simpa[CZ]using h
   simp only[AA,A0i]at H;obtain⟨r,h1,H⟩:=D5 H;obtain⟨h2,H⟩:=H6 H;have e1:=(Rl.src h1).data h2;have fin:(r.1=.bool true/\AA C R fl c K (Su.clean fl c st)=some x)\/(r.1=.bool false/\AA C R fl d K (Su.clean fl d st)=some x):=by
    cases y with
    |tmp t=>
      simp only[src,D8]at h1;subst h1;simp only at H;rcases nN H with⟨h3,h4⟩ | ⟨h3,h4⟩
      ·rw[JM h3 (by simp)]at h4;exact .inl ⟨h3,h4⟩
      ·rw[JM h3 (by simp)]at h4;exact .inr ⟨h3,h4⟩
    |_=>exact nN H
   rcases fin with⟨h3,h4⟩ | ⟨h3,h4⟩
   ·rw[h3]at e1;simp only[RV]at e1;exact wpIn_cond_true e1 (ihc (Ry.imp id λh=>(hp h).1) h4 (Rl.clean fl c) λout E' st' a' w' h1 ⟨ms,q1,q2,q3⟩ h2 h3 h4=>T out E' st' a' w' h1 ⟨ms,q1,q2,λh=>q3 (hp h).1⟩ h2 h3 h4)
   ·rw[h3]at e1;simp only[RV]at e1;exact wpIn_cond_false e1 (ihd (Ry.imp id λh=>(hp h).2) h4 (Rl.clean fl d) λout E' st' a' w' h1 ⟨ms,q1,q2,q3⟩ h2 h3 h4=>T out E' st' a' w' h1 ⟨ms,q1,q2,λh=>q3 (hp h).2⟩ h2 h3 h4)
 |block id c ih=>
   intro ro n K st x E a w Q Ry H Rl T;refine wpIn_block (ih Ry H Rl λout E' st' a' w' h1 h0 h2 h3 h4=>?_);cases out with
   |normal=>exact T .normal E' st' a' w' h1 h0 h2 h3 h4
   |exit i=>
     simp only[Out.A7b,Exit.inBlock];have h1:(if i=id then K .normal st' else K (.exit i) st')=some x:=h1;by_cases hi:i=id
     ·rw[C8 hi]at h1 ⊢;exact T .normal E' st' a' w' h1 h0 h2 h3 h4
     ·rw[A7 hi]at h1 ⊢;exact T (.exit i) E' st' a' w' h1 h0 h2 h3 h4
   |ret=>exact T .ret E' st' a' w' h1 h0 h2 h3 h4
 |loop c ih=>
   intro ro n K st x E a w Q Ry H Rl T;simp only[AA]at H;obtain⟨m,H9⟩:=ZO H;refine wpIn_loop_rounds m ?_;clear H;have Rl9:=Rl.clean fl c;clear Rl;generalize Su.clean fl c st=st9 at H9 Rl9;clear st;induction m generalizing st9 E a w with
   |zero=>simp[iter]at H9
   |succ m ihn=>
     rw[roundsIn_succ];simp only[iter]at H9;refine ih Ry H9 Rl9 λout E' st' a' w' h1 h0 h2 h3 h4=>?_;obtain⟨ms,q1,q2,q3⟩:=h0;cases out with
     |normal=>refine ihn (λout E2 st2 a2 w2 k1 k0 k2 k3 k4=>T out E2 st2 a2 w2 k1 ?_ k2 (h3.trans k3) (h4.trans k4)) _ h1 (h2.clean fl c);obtain⟨ns,p1,p2,p3⟩:=k0;exact⟨ns++ms,by rw[p1,q1,yeq],p2.append q2 k3 h3.size,λh=>by rw[p3 h,q3 h];rfl⟩
     |exit i=>exact T (.exit i) E' st' a' w' h1 ⟨ms,q1,q2,q3⟩ h2 h3 h4
     |ret=>exact T .ret E' st' a' w' h1 ⟨ms,q1,q2,q3⟩ h2 h3 h4
 |exit id=>intro ro n K st x E a w Q Ry H Rl T;exact wpIn_exit (T (.exit id) E st a w H (Left.same rfl) Rl (Pr.refl _ _ _) (Y9.refl _))
 |ret=>intro ro n K st x E a w Q Ry H Rl T;exact wpIn_ret (T .ret E st a w H (Left.same rfl) Rl (Pr.refl _ _ _) (Y9.refl _))
 |rangeFunc g ps assign body iha ihb=>
   intro ro n K st x E a w Q Ry H Rl T;obtain rfl:ro=none:=by
    rcases Ry with h | h
    ·exact h
    ·simp[CZ]at h
   obtain⟨t,p,f,i,it,cs,cd,ds,rfl,hps,hmt,hit,hbx,hcd,Yn,Uw,H⟩:=A0l H;simp only[z5q]at Uw;obtain⟨hra,hpb⟩:=Uw;have hpa:=A7L hra;have jw:=Rl.src (P:=C.P) (t:=0) (x:=.tmp t) rfl;rw[hmt]at jw;simp only[RR,L9]at jw;obtain⟨hfv,hfi⟩:=jw;have MZ:i<E.n:=(hfi (i,0) (by simp)).1;have hsi:st.sg[i]?=some (.box cs):=by
    unfold H5 at hbx;split at hbx
    ·rename_i h;simp only[D8]at hbx;subst hbx;exact h
    ·cases hbx
   have hRO:=Rl.U6 i _ hsi;simp only[RO]at hRO;obtain⟨c,T0,b1,b2,b3,b4⟩:=hRO;have B8r:E_ E.S w.heap cd c.toList:=A2r (k:=2) (a:=i) hcd (by simp[b2]) λj r v hr hv=>by obtain⟨a1,a2,a3,a4⟩:=b4 j r v hr (by simpa using hv);exact⟨a1,a2,a3,j,a4⟩
   let E1:=E.re (A4q i)
   have hS1:AL E.S w.heap E1.S w.heap:=LG rfl;have P01:Pr P5 E w.heap E1 w.heap:=Pr.re λT hT=>by cases T<;>simp[P5]at hT<;>rfl
   have B8E:∀(j:Nat) ob,(st.sg.set i (.arr 1 []))[j]?=some ob->RO E1 w.heap j ob:=by
    intro j ob hj;by_cases RP:i=j
    ·subst RP;rw[zVq (z0q.1 hsi).1]at hj;simp only[D8]at hj;subst hj;simp[RO]
    ·rw[y2q RP]at hj;have Vq:¬j=i:=λh=>RP h.symm;refine(Rl.U6 j ob hj).to (E:=E) ⟨λb o h=>by simp only[E1,Env.re];rw[h];rfl,λb o h=>by simp only[E1,Env.re];rw[h];simp[A4q,Vq],rfl,rfl,rfl,rfl,rfl⟩ λq b o h=>by simp only[E1,Env.re];rw[h];simp[A4q,Vq]
   have B7L:∀o,o<c.size->E1.O (E.obj i) o=.other:=by
    intro o ho;simp only[E1,Env.re];rcases b3 o with h | h
    ·rw[h];simp[A4q]
    ·omega
   refine wpIn_rangeFunc λfn _=>?_;obtain⟨rec,YO⟩:∃rec:LoopState->Option Code->Loop,rec=λst pe=>{ state:=st,pending:=pe,fn,tmps:=a.tmps,params:=ps,assign,body,defers:=w.heap.size }:=⟨_,rfl⟩;obtain⟨W1,hW1⟩:∃W1,(w.alloc (.deferred (some []))).alloc (.loop (rec .ready none))=W1:=⟨_,rfl⟩;have B3d:W1.heap.size=w.heap.size+2:=by rw[<- hW1];simp
   have hL1:W1.heap[w.heap.size+1]?=some (.loop (rec .ready none)):=by rw[<- hW1];have:=World.alloc_heap_new (w.alloc (.deferred (some []))) (.loop (rec .ready none));rwa [World.size_alloc]at this
   have hK1:W1.heap[w.heap.size]?=some (.deferred (some [])):=by rw[<- hW1];exact(Go.RowKit.Below.heap_alloc _ _ _ (by simp)).trans (World.alloc_heap_new w _)
   have P1:Pr (λ_=>False) E1 w.heap E1 W1.heap:=by rw[<- hW1];exact(Pr.push (λ_ _ _ _=>rfl) (z8q _) (λ_ _ _=>⟨rfl,rfl,rfl⟩) (λ_ _=>rfl) (Dp rfl)).trans (Pr.push (λ_ _ _ _=>rfl) (z8q _) (λ_ _ _=>⟨rfl,rfl,rfl⟩) (λ_ _=>rfl) (Dp rfl))
   have A5H:∀b o,w.heap.size<=b->E1.O b o=.other:=λb o hb=>by simp only[E1,Env.re];rw[Rl.fresh b o hb];rfl
   have A9F:AL E1.S w.heap E1.S W1.heap:=P1.Q6 (by simp) A5H;have B7S:Y9 w W1:=by rw[<- hW1];exact⟨rfl,rfl,rfl⟩
   refine⟨w.heap.size+1,[{ target:=.collected w.heap.size,args := #[] }],W1,{ target:=.fn (.func f) #[.pointer (some ⟨E.obj i,0,none⟩)],args := #[.func (.yield (w.heap.size+1)) #[] #[]] },W1,f,#[.func (.yield (w.heap.size+1)) #[] #[],.pointer (some ⟨E.obj i,0,none⟩)],W1,?_,?_,λ_ _=>trivial,?_,λh=>(by cases h),?_⟩
   ·rw[<- hW1,YO];exact run_enterLoop_outer _ _ _ _ _
   ·simp only[resolve,hfv]
    simp[go_sem]
   ·have:=uM (hO.i f it hit).1 #[.func (.yield (w.heap.size+1)) #[] #[],.pointer (some ⟨E.obj i,0,none⟩)] W1;simpa[invoke,go_sem]using this
   let step:DV->(List E5->Option X)->List E5->Option X:=λd J sg=>
    AA C R fl assign (λo st1=>match o with
     |.normal=>AA C R fl body (λo st2=>match o with
       |.normal=>J st2.sg
       |.exit e=>K (.exit e) (Ac st st2.sg)
       |.ret=>K .ret (Ac st st2.sg)) (Su.clean fl body st1)
     |.exit _=>none
     |.ret=>none) (Su.clean fl assign (Wl st p d sg))
   let fin:List E5->Option X:=λsg=>K .normal (Ac st sg)
   have H:MV step fin ds (st.sg.set i (.arr 1 []))=some x:=H
   let Good:Env->World->List E5->Prop:=λE' W sg=>sg.length=E'.n/\(∀(j:Nat) ob,sg[j]?=some ob->RO E' W.heap j ob)/\(∀b o,W.heap.size<=b->E'.O b o=.other)/\Pr P5 E1 w.heap E' W.heap/\Y9 w W /\W.heap[w.heap.size]?=some (.deferred (some []))/\E'.O w.heap.size 0=.other/\E'.O (w.heap.size+1) 0=.other
   let J:Nat->Env->World->Prop:=λk E' W=>∃sg,MV step fin (ds.drop k) sg=some x/\Good E' W sg/\W.heap[w.heap.size+1]?=some (.loop (rec .ready none))
   let Jx:World->Prop:=λW=>∃(out:Out)(cd:Code)(E':Env)(sg:List E5),((out=.ret/\cd=.ret)\/∃e,out=.exit e/\cd=.exit e)/\K out (Ac st sg)=some x/\Good E' W sg/\W.heap[w.heap.size+1]?=some (.loop (rec .done (some cd)))
   have behind:∀E' W sg (dl:List Deferred),Good E' W sg->K9 E' (Ac st sg) { a with defers:=dl } W.heap:=by
    intro E' W sg dl ⟨g1,g2,g3,g4,g5,g6,g7,g8⟩;have J5:AL E.S w.heap E'.S W.heap:=by have h2:=g4.Q6 (by simp[P5]) A5H;exact⟨λb o hs=>h2.s b o (hS1.s b o hs),λb o v hs hv=>h2.c b o v (hS1.s b o hs) hv⟩
    exact Rl.outer J5 (λj hj=>⟨g4.In hj,(g4.old hj).1⟩) g1 g2 g3
   have A8p:∀E' W sg (o:Obj) (o':Obj),Good E' W sg->W.heap[w.heap.size+1]?=some o->o.isCells=false->Good E' (W.putObj (w.heap.size+1) o') sg:=by intro E' W sg o o' ⟨g1,g2,g3,g4,g5,g6,g7,g8⟩ ho hc;have Pp:Pr (λT=>T=.other) E' W.heap E' (W.putObj (w.heap.size+1) o').heap:=Pr.setOther ho hc g8;have J5:=Pp.Q6 (by simp) g3;refine⟨g1,λj ob hj=>(g2 j ob hj).mono Pp J5 (by rw[<- g1];exact(z0q.1 hj).1) (by simp) (by simp),λb o hb=>g3 b o (by simpa using hb),g4.uN (by omega),⟨g5.os,g5.tape,g5.output⟩,?_,g7,g8⟩;exact(World.putObj_heap_other (by omega)).trans g6
   have B8w:W1.heap[E.obj i]?=some (.cells c T0 (0,0)):=by have P6:=(z1q.1 b1).1;rw[<- hW1];exact(Go.RowKit.Below.heap_alloc _ _ _ (by simp;omega)).trans ((Go.RowKit.Below.heap_alloc _ _ _ P6).trans b1)
   have key:=(hO.i f it hit).2 cd ds Yn (n-1) (w.heap.size+1) (E.obj i) c T0 J Jx E1 W1 B8w B7L (E_.mono ⟨λb o hs=>A9F.s b o (hS1.s b o hs),λb o v hs hv=>A9F.c b o v (hS1.s b o hs) hv⟩ _ B8r)
    (λk E' W' ⟨sg,_,g,_⟩=>g.2.2.1) ?_ ?_ ?_
   ·refine CallsIn.mono key ?_;rintro e W2 ⟨⟨v,rfl⟩,⟨E',sg,h1,g,hl⟩ | ⟨out,cd,E',sg,ho,h1,g,hl⟩⟩
    ·-- all have come
     have g':=A8p E' W2 sg _ (.loop { rec .ready none with state:=.exhausted }) g hl rfl;refine⟨none,W2.putObj (w.heap.size+1) (.loop { rec .ready none with state:=.exhausted }),by have:=run_endLoop (P:=C.P) hl (by rw[YO];simp);rw[this];rw[YO],?_⟩;rw[zZq]at h1;refine T .normal E' _ _ _ h1 ⟨[{ target:=.collected w.heap.size,args := #[] }],rfl,?_,λh=>by simp[CZ]at h⟩ (behind E' _ sg _ g') (P01.trans g'.2.2.2.1) g'.2.2.2.2.1;refine⟨λm hm=>?_,by simp⟩;simp only[ziq]at hm;subst hm;exact⟨_,rfl,g'.2.2.2.2.2.1,g'.2.2.2.2.2.2.1,z8q _⟩
    ·-- a round has left the loop
     have g':=A8p E' W2 sg _ (.loop { rec .done (some cd)with state:=.exhausted }) g hl rfl;refine⟨some cd,W2.putObj (w.heap.size+1) (.loop { rec .done (some cd)with state:=.exhausted }),by have:=run_endLoop (P:=C.P) hl (by rw[YO];simp);rw[this];rw[YO],?_⟩;have hT:Q out.A7b { a with defers:=[{ target:=.collected w.heap.size,args := #[] }]++a.defers } (W2.putObj (w.heap.size+1) (.loop { rec .done (some cd)with state:=.exhausted })):=by refine T out E' _ _ _ h1 ⟨[{ target:=.collected w.heap.size,args := #[] }],rfl,?_,λh=>by simp[CZ]at h⟩ (behind E' _ sg _ g') (P01.trans g'.2.2.2.1) g'.2.2.2.2.1;refine⟨λm hm=>?_,by simp⟩;simp only[ziq]at hm;subst hm;exact⟨_,rfl,g'.2.2.2.2.2.1,g'.2.2.2.2.2.2.1,z8q _⟩
     rcases ho with⟨rfl,rfl⟩ | ⟨e,rfl,rfl⟩
     ·exact wpIn_ret hT
     ·exact wpIn_exit hT
   ·intro k E' Wa Wb ⟨sg,h1,⟨g1,g2,g3,g4,g5,g6,g7,g8⟩,hl⟩ hIt;have J5:=hIt.pr.Q6 (by simp) g3;exact⟨sg,h1,⟨g1,λj ob hj=>(g2 j ob hj).mono hIt.pr J5 (by rw[<- g1];exact(z0q.1 hj).1) (by simp) (by simp),λb o hb=>g3 b o (zyq hIt.size hb),hIt.after (by omega) g4,g5.trans hIt.out,hIt.keep g6 rfl,g7,g8⟩,hIt.keep hl rfl⟩
   ·-- one round
    intro k E' W d v ⟨sg,h1,g,hl⟩ hd hv;rw[A7F hd]at h1;have B6y:ps=#[p]:=by apply Array.ext';simpa using hps
    have hy:=run_yield (P:=C.P) (args := #[v]) hl (by rw[YO];simp[B6y]);rw[YO]at hy;refine⟨fn,_,assign,body,hy,roundIn_of_wpIn trivial ?_⟩;obtain⟨g1,g2,g3,g4,g5,g6,g7,g8⟩:=g;have R0:K9 E' (Wl st p d sg) ({ tmps:=a.tmps.setIfInBounds p v,defers:=[] }:Act) W.heap:=by have:=(behind E' W sg [] ⟨g1,g2,g3,g4,g5,g6,g7,g8⟩).put (dst:=some p) (d:=d) (m:=.val) (v:=v) λt0 _=>hv;exact this
    have B7I:(Array.zip ps #[v]).foldl (λtmps (t,a)=>tmps.setIfInBounds t a) a.tmps=a.tmps.setIfInBounds p v:=by rw[B6y];simp
    simp only[B7I];refine iha (ro:=some (w.heap.size+1)) (.inr hpa) h1 (R0.clean fl assign) λout E2 st1 a1 w1 k1 k0 k2 k3 k4=>?_;cases out with
    |exit e=>cases k1
    |ret=>cases k1
    |normal=>
    have d1:a1.defers=[]:=k0.plain hpa;have hl1:=k3.bK hl rfl g8;have t1:E2.O (w.heap.size+1) 0=.other:=k3.WY (z1q.1 hl).1 g8;refine⟨_,run_beginRound hl1 (by rw[YO]),?_⟩;have R2:K9 E2 (Su.clean fl body st1) a1 (w1.putObj (w.heap.size+1) (.loop { rec .ready none with state:=.busy })).heap :=(k2.others (Pr.setOther hl1 rfl t1) rfl (λb o hb=>k2.fresh b o (by simpa using hb))).clean fl body
    refine ihb (ro:=some (w.heap.size+1)) (.inr hpb) k1 R2 λout E3 st2 a3 w3 q1 q0 q2 q3 q4=>?_;have xJ:(w1.putObj (w.heap.size+1) (.loop { rec .ready none with state:=.busy })).heap[w.heap.size+1]?=some (.loop { rec .ready none with state:=.busy }):=World.putObj_heap_same (z1q.1 hl1).1;have hl3:=q3.bK xJ rfl t1;have t3:E3.O (w.heap.size+1) 0=.other:=q3.WY (z1q.1 xJ).1 t1;have lt3:=(z1q.1 hl3).1;have sz1:=k3.size;have P6:=(z1q.1 hl).1;have Pw:Pr P5 E' W.heap E3 (w3.heap.setIfInBounds (w.heap.size+1) (.loop (rec .ready none))):=k3.trans (q3.swap hl1);have Pb:∀o,Pr P5 E1 w.heap E3 (w3.heap.setIfInBounds (w.heap.size+1) o):=λo=>by
     have:=(g4.trans Pw).uN (l:=w.heap.size+1) (x:=o) (by omega)
     rwa [Array.setIfInBounds_setIfInBounds]at this
    have hD1:=k3.bK g6 rfl g7;have tD1:E2.O w.heap.size 0=.other:=k3.WY (z1q.1 g6).1 g7;have hD2:(w1.putObj (w.heap.size+1) (.loop { rec .ready none with state:=.busy })).heap[w.heap.size]?=some (.deferred (some [])):=(World.putObj_heap_other (by omega)).trans hD1;have hD3:=q3.bK hD2 rfl tD1;have tD3:E3.O w.heap.size 0=.other:=q3.WY (z1q.1 hD2).1 tD1;have A9z:∀o,Good E3 (w3.putObj (w.heap.size+1) o) st2.sg:=λo=>by have R3:=q2.others (Pr.setOther (x:=o) hl3 rfl t3) rfl (λb o hb=>q2.fresh b o (by simpa using hb));refine⟨R3.n,R3.U6,R3.fresh,Pb o,?_,(World.putObj_heap_other (by omega)).trans hD3,tD3,t3⟩;have:=(g5.trans k4).trans (Y9.trans (b:=w1.putObj (w.heap.size+1) (.loop { rec .ready none with state:=.busy })) ⟨rfl,rfl,rfl⟩ q4);exact⟨this.os,this.tape,this.output⟩
    cases out with
    |normal=>
      refine⟨_,_,run_endRound none hl3,.inl ⟨rfl,E3,⟨st2.sg,q1,A9z _,?_⟩,?_⟩⟩
      ·rw[World.putObj_heap_same lt3];rw[YO];rfl
      ·have:(Obj.loop { { rec .ready none with state:=.busy }with state:=if (none:Option Code).isNone=true then .ready else .done,pending:=none })=.loop (rec .ready none):=by rw[YO];rfl
       rw[this];exact Pw
    |ret=>refine⟨_,_,run_endRound (some .ret) hl3,.inr ⟨rfl,.ret,.ret,E3,st2.sg,.inl ⟨rfl,rfl⟩,q1,A9z _,?_⟩⟩;rw[World.putObj_heap_same lt3];rw[YO];rfl
    |exit e=>refine⟨_,_,run_endRound (some (.exit e)) hl3,.inr ⟨rfl,.exit e,.exit e,E3,st2.sg,.inr ⟨e,rfl,rfl⟩,q1,A9z _,?_⟩⟩;rw[World.putObj_heap_same lt3];rw[YO];rfl
   ·-- where it begins
    refine⟨_,H,⟨by rw[yrq];exact Rl.n,λj ob hj=>(B8E j ob hj).mono P1 A9F ?_ (by simp) (by simp),λb o hb=>A5H b o (by omega),P1.l7 (by simp),B7S,hK1,A5H _ _ (z8q _),A5H _ _ (by omega)⟩,hL1⟩;have:=(z0q.1 hj).1;rw[yrq,Rl.n]at this;exact this
 |_=>intro ro n K st x E a w Q Ry H Rl T;simp[AA]at H
end
end Go.Su

/-
 THE DATA MACHINE, part 26: a plain function's results.
-/
namespace Go.Su
set_option linter.defProp false
structure uh(E:Env)(h:Heap)(g:List E5)(S:AU):Prop where
 le:AL E.S h S h
 ob:∀(i:Nat) ob,g[i]?=some ob->RO E h i ob/\(ob ≠ .arr 1 []->∀b o,E.O b o=.obj i->S b o)
variable (E:Env)
def Env.fin:AU:=λb o=>E.O b o=.Q6\/∃i,E.O b o=.obj i
def B6d(h:Heap):AL E.S h E.fin h:=⟨λ_ _ hs=>.inl hs,λ_ _ _ _ hv=>hv⟩
variable {E:Env}{st:St}{a:Act}{h:Heap}
def B1d(Rl:K9 E st a h):uh E h st.sg E.fin:=⟨B6d E h,λi ob hi=>⟨Rl.U6 i ob hi,λ_ _ _ h=>.inr ⟨i,h⟩⟩⟩
def A91(E:Env)(h:Heap):uh E h [] E.S:=⟨⟨λ_ _ hs=>hs,λ_ _ _ _ hv=>hv⟩,λi ob hi=>by simp at hi⟩
variable {sg:List E5}{d:DV}{S:AU}
def XF{c:DV×F4}{tg:Tag}{v:Value}(H:Bn sg c=some d)(R:L9 E h tg c.1 c.2 v)(ho:uh E h sg S):
 RV S h d v/\(M8 c.1=true->c.2=.val->M8 d=true)/\(c.2 ≠ .val->M8 d=true):=by
 unfold Bn at H;split at H
 ·rename_i hm;simp only[D8]at H;subst H;rw[hm]at R;exact⟨RV.mono ho.le _ R,λh _=>h,λh=>absurd hm h⟩
 ·rename_i hm;simp only[D8]at H;subst H;rw[hm]at R;obtain⟨R1,-,sz,ds,hd⟩:=R;exact⟨R1.mono ho.le,λh _=>h,λ_=>by rw[hd];rfl⟩
 ·rename_i hm;simp only[D8]at H;subst H;rw[hm]at R;obtain⟨R1,sz,ds,hd,-⟩:=R;exact⟨R1.mono ho.le,λh _=>h,λ_=>by rw[hd];rfl⟩
 ·rename_i hm;simp only[D8]at H;subst H;rw[hm]at R;obtain⟨R1,R2⟩:=(R:_/\_);exact⟨by rw[R1,R2];simp only[RV],λh _=>h,λ_=>by rw[R1];rfl⟩
 ·rename_i hm;simp only[D8]at H;subst H;rw[hm]at R;obtain⟨R1,⟨ds,hd⟩,-⟩:=R;exact⟨R1.mono ho.le,λh _=>h,λ_=>by rw[hd];rfl⟩
 ·rename_i i sz off len hm;obtain⟨p,hp,H⟩:=D5 H;obtain⟨h1,H⟩:=H6 H;obtain⟨h2,H⟩:=M3 H;simp only[D8]at H;subst H;rw[hm]at R;simp only[L9]at R;obtain⟨hi,a,cap,rfl,ha,A1K,A9C,A9I,-⟩:=R;refine⟨?_,λ_ _=>rfl,λ_=>rfl⟩;simp only[RV,RC];have hll:((p.2.drop off).take len).length=len:=by simp;omega
  obtain⟨hob,hsh⟩:=ho.ob i _ (nU hp);simp only[beq_iff_eq]at h1;refine⟨a,len,cap,rfl,hll.symm,A1K,A9C,λhne=>?_,λx hx=>⟨λ_=>A9I x hx,?_⟩⟩
  ·simp only[RO]at hob;have:p.2≠[]:=λh=>by rw[h]at hne;simp at hne
   obtain⟨c,T,e1,e2,e3,-⟩:=hob this;rw[<- h1];exact e3
  ·rw[EJ];intro j d hj;have a_:j<len:=by have:=(z0q.1 hj).1;omega
   rw[List.getElem?_take_of_lt a_,List.getElem?_drop]at hj;have hne:p.2≠[]:=λh=>by rw[h]at hj;simp at hj
   simp only[RO]at hob;obtain⟨c,T,e1,e2,e3,e4,e5⟩:=hob hne;obtain⟨vs,v1,v2,v3⟩:=e5 (off+j) d hj;have az:=ha (by omega);rw[hx]at az;simp only[D8]at az;subst az;refine⟨vs,by rw[<- h1];exact v1,λy u hu=>?_,v3.mono ho.le⟩;have hy:y<p.1:=by have:=(z0q.1 hu).1;omega
   have hjp:off+j<p.2.length:=(z0q.1 hj).1;have P6:(off+j) * p.1+y<p.2.length * p.1:=seg_lt hjp hy;have e:E.base i+off * sz+j * sz+y=E.base i+(off+j) * p.1+y:=by rw[<- h1,Nat.add_mul];omega
   refine⟨?_,hsh (λh=>hne (by have:=congrArg (λob=>match ob with | E5.arr _ ds=>ds | _=>[]) h;exact this)) _ _ ?_⟩
   ·rw[e];simp only[hc,e1];exact v2 y u hu
   ·rw[e];exact e4 _ (by omega) (by omega)
 ·cases H
def bR{E:Env}{h:Heap}{sg:List E5}{S:AU}(ho:uh E h sg S):∀{cs:List (DV×F4)}{vs:List Value}{ds:List DV},Ej sg cs=some ds->cs.length=vs.length->
 (∀(j:Nat) r v,cs[j]?=some r->vs[j]?=some v->M8 r.1=true/\v.oneCell'=true/\∃tg,L9 E h tg r.1 r.2 v)->E_ S h ds vs
 |[],vs,ds,H,hl,_=>by simp only[Ej,D8]at H;subst H;exact zfq hl.symm
 |c::cs,[],ds,H,hl,_=>by simp at hl
 |c::cs,v::vs,ds,H,hl,hR=>by
   simp only[Ej]at H;obtain⟨d,h1,H⟩:=D5 H;obtain⟨ds',h2,H⟩:=D5 H;simp only[D8]at H;subst H;obtain⟨q1,q2,tg,q3⟩:=hR 0 c v rfl rfl;obtain⟨r1,r2,r3⟩:=XF h1 q3 ho;have hlf:M8 d=true:=by
    by_cases hm:c.2=.val
    ·exact r2 q1 hm
    ·exact r3 hm
   simp only[E_];exact⟨v,vs,rfl,hlf,NG hlf q2 r1,bR ho h2 (by simpa using hl) λj r u hr hu=>hR (j+1) r u (by simpa using hr) (by simpa using hu)⟩
variable (tmps:Array Value)
def Mi:ResultVar->Sem Value
 |.tmp t=>pure (tmps.getD t undef)
 |.cell a t=>do loadVar t (<- asAddr (tmps.getD a undef))
variable {P:Program}{rv:ResultVar}
def uL{w:World}{g:List E5}(H:bP P (st.FN g) rv=some d)(Rl:K9 E st a w.heap)(ho:uh E w.heap g S):
 ∃v,(Mi a.tmps rv).run P w=.ok v w/\RV S w.heap d v:=by
 cases rv with
 |tmp t=>
   have H:(match (st.get t).2 with
    |.EM ms=>og (K8 (.EM ms)) (some (st.get t).1)
    |_=>Bn g (st.get t))=some d:=H
   have hR:RR E w.heap 0 t (st.get t).1 (st.get t).2 (a.tmps.getD t undef):=Rl.src (P:=P) (t:=0) (x:=.tmp t) rfl;refine⟨a.tmps.getD t undef,rfl,?_⟩;split at H
   ·rename_i ms hm;obtain⟨h1,H⟩:=H6 H;simp only[D8]at H;subst H;exact(hR.data (by rw[hm];exact h1)).mono ho.le
   ·rename_i hm;have hnt:∀ms,(st.get t).2 ≠ .Ca ms:=λms h=>by unfold Bn at H;rw[h]at H;simp at H
    exact(XF H (hR.uW hnt λms h=>hm ms h) ho).1
 |cell p t=>
   have H:(match (st.get p).2 with
    |.loc s 0=>ob (st.bx.getD s none) λcs=>ob (tz P t) λz=>
      if z.1=cs.length then
       if z.2 then ob (Ej g cs) λds=>some (.agg ds)
       else match cs with
        |[c]=>Bn g c
        |_=>none
      else none
    |.ptr i 0=>ob (H5 g i) λcs=>ob (tz P t) λz=>
      if z.1=cs.length then
       if z.2 then ob (Ej g cs) λds=>some (.agg ds)
       else match cs with
        |[c]=>Bn g c
        |_=>none
      else none
    |_=>none)=some d:=H
   have hR:RR E w.heap 0 p (st.get p).1 (st.get p).2 (a.tmps.getD p undef):=Rl.src (P:=P) (t:=0) (x:=.tmp p) rfl;split at H
   ·rename_i s hm;obtain⟨cs,h1,H⟩:=D5 H;obtain⟨z,h2,H⟩:=D5 H;obtain⟨h3,H⟩:=M3 H;rw[hm]at hR;simp only[RR,L9]at hR;obtain⟨c,T,b1,b2,b3,b4⟩:=Rl.j6 s cs h1;obtain⟨v,hv,Xu,hv2⟩:=Gq (w:=w) h2 (b:=E.blk s) (off:=0) (vs:=c.toList) (by simp[b2,h3]) λj u hu=>by simp only[hc,b1,znq];simpa using hu
    have U9:(Mi a.tmps (.cell p t)).run P w=.ok v w:=by simp only[Mi,hR.2,asAddr,Sem.run_bind,Sem.run_pure,Result.andThen_ok];exact hv
    refine⟨v,U9,?_⟩;have b5:∀(j:Nat) r u,cs[j]?=some r->c.toList[j]?=some u->M8 r.1=true/\u.oneCell'=true/\∃tg,L9 E w.heap tg r.1 r.2 u:=λj r u hr hu=>by obtain⟨q1,q2,q3,q4⟩:=b4 j r u hr (by simpa using hu);exact⟨q1,q2,_,q4⟩
    by_cases hz:z.2=true
    ·rw[C8 hz]at H;obtain⟨ds,h4,H⟩:=D5 H;simp only[D8]at H;subst H;rw[Xu hz];simp only[RV];exact⟨_,rfl,bR ho h4 (by simp[b2]) b5⟩
    ·rw[A7 hz]at H;have hcv:=hv2 (by simpa using hz);have h5:∃c0,cs=[c0]/\Bn g c0=some d:=by
      split at H
      ·exact⟨_,rfl,H⟩
      ·cases H
     obtain⟨c0,rfl,h6⟩:=h5;obtain⟨q1,q2,tg,q3⟩:=b5 0 c0 v rfl (by rw[hcv];rfl);exact(XF h6 q3 ho).1
   ·rename_i i hm;obtain⟨cs,h1,H⟩:=D5 H;obtain⟨z,h2,H⟩:=D5 H;obtain⟨h3,H⟩:=M3 H;rw[hm]at hR;simp only[RR,L9]at hR;have hgi:g[i]?=some (.box cs):=by
     unfold H5 at h1;split at h1
     ·rename_i h;simp only[D8]at h1;subst h1;exact h
     ·cases h1
    have hRO:=(ho.ob i _ hgi).1;simp only[RO]at hRO;obtain⟨c,T,b1,b2,b3,b4⟩:=hRO;obtain⟨v,hv,Xu,hv2⟩:=Gq (w:=w) h2 (b:=E.obj i) (off:=0) (vs:=c.toList) (by simp[b2,h3]) λj u hu=>by simp only[hc,b1,znq];simpa using hu
    have U9:(Mi a.tmps (.cell p t)).run P w=.ok v w:=by simp only[Mi,hR.2,asAddr,Sem.run_bind,Sem.run_pure,Result.andThen_ok];exact hv
    refine⟨v,U9,?_⟩;have b5:∀(j:Nat) r u,cs[j]?=some r->c.toList[j]?=some u->M8 r.1=true/\u.oneCell'=true/\∃tg,L9 E w.heap tg r.1 r.2 u:=λj r u hr hu=>by obtain⟨q1,q2,q3,q4⟩:=b4 j r u hr (by simpa using hu);exact⟨q1,q2,_,q4⟩
    by_cases hz:z.2=true
    ·rw[C8 hz]at H;obtain⟨ds,h4,H⟩:=D5 H;simp only[D8]at H;subst H;rw[Xu hz];simp only[RV];exact⟨_,rfl,bR ho h4 (by simp[b2]) b5⟩
    ·rw[A7 hz]at H;have hcv:=hv2 (by simpa using hz);have h5:∃c0,cs=[c0]/\Bn g c0=some d:=by
      split at H
      ·exact⟨_,rfl,H⟩
      ·cases H
     obtain⟨c0,rfl,h6⟩:=h5;obtain⟨q1,q2,tg,q3⟩:=b5 0 c0 v rfl (by rw[hcv];rfl);exact(XF h6 q3 ho).1
   ·cases H
def A0W{P:Program}{E:Env}{st:St}{a:Act}{w:World}(Rl:K9 E st a w.heap):∀{rs:List ResultVar}{ds:List DV},Zn P st rs=some ds->
 ∃vs:List Value,(rs.mapM (Mi a.tmps)).run P w=.ok vs w/\Re E.fin w.heap ds vs/\vs.length=rs.length
 |[],ds,H=>by simp only[Zn,D8]at H;subst H;exact⟨[],rfl,rfl,rfl⟩
 |r::rs,ds,H=>by simp only[Zn]at H;obtain⟨d,h1,H⟩:=D5 H;obtain⟨ds',h2,H⟩:=D5 H;simp only[D8]at H;subst H;obtain⟨v,q1,q2⟩:=uL (g:=st.sg) h1 Rl (B1d Rl);obtain⟨vs,q3,q4,q5⟩:=A0W Rl h2;refine⟨v::vs,?_,⟨v,vs,rfl,q2,q4⟩,by simp[q5]⟩;simp only[yuq,Sem.run_bind,q1,q3,Result.andThen_ok,Sem.run_pure]
def nT(fn:Func)(tmps:Array Value):results fn tmps=(do
 let vs <- fn.results.toList.mapM (Mi tmps)
 pure (if h:vs.toArray.size=1 then vs.toArray[0]else .tuple vs.toArray)):=by
 have:results fn tmps=(do
  let vs <- fn.results.mapM (Mi tmps)
  pure (if h:vs.size=1 then vs[0]else .tuple vs)):=by
  unfold results;congr 1
 rw[this,Array.mapM_eq_mapM_toList];simp
def B5c{ds:List DV}{vs:List Value}(R:Re S h ds vs):RV S h (pack ds) (if h:vs.toArray.size=1 then vs.toArray[0]else .tuple vs.toArray):=by
 obtain⟨hl,hR⟩:=WB.1 R;by_cases h1:vs.toArray.size=1
 ·rw[dif_pos h1];obtain⟨v,rfl⟩:=zWq.1 (by simpa using h1);obtain⟨d,rfl⟩:=zWq.1 (by simpa using hl);exact hR 0 d v rfl rfl
 ·rw[dif_neg h1];unfold pack;split
  ·simp at hl h1;omega
  ·simp only[RV]
   exact⟨_,rfl,by simpa using R⟩
variable (us:List Nat)
def NV(sg:List E5):List E5:=sg.mapIdx λi ob=>if i∈us then ob else .arr 1 []
def GU(T:Tag):Tag :=
 match T with
 |.obj i=>if i∈us then .Q6 else .obj i
 |T=>T
variable {us:List Nat}
theorem VP{T:Tag}(h:∀i∈us,T ≠ .obj i):GU us T=T:=by
 unfold GU;split
 ·rename_i i;rw[A7 λhi=>h i hi rfl]
 ·rfl
def A6J(us:List Nat){T:Tag}(h:¬∃i∈us,T=.obj i):GU us T=T:=VP λi hi he=>h ⟨i,hi,he⟩
def B1C{i:Nat}(h:i∈us):(NV us sg)[i]?=sg[i]?:=by unfold NV;rw[y3q];cases sg[i]?<;>simp[h]
def B0h{i:Nat}(h:i∈us):Qw (NV us sg) i=Qw sg i:=by unfold Qw;rw[B1C h]
def YT{c:DV×F4}(h:∀i∈ul c.2,i∈us):Bn (NV us sg) c=Bn sg c:=by
 obtain⟨d,m⟩:=c;cases m<;>try rfl
 case arr i sz off len=>simp only[Bn];rw[B0h (h i (by simp[ul]))]
def kU{us:List Nat}{sg:List E5}:∀{cs:List (DV×F4)},(∀c∈cs,∀i∈ul c.2,i∈us)->Ej (NV us sg) cs=Ej sg cs
 |[],_=>rfl
 |c::cs,h=>by simp only[Ej];rw[YT (h c (z4q ..)),kU λc' xG=>h c' (z2q _ xG)]
def A7N(hl:yO st rv=true)(hu:∀i∈UQ st rv,i∈us)(H:bP P st rv=some d):bP P (st.FN (NV us st.sg)) rv=some d:=by
 cases rv with
 |tmp t=>
   simp only[UQ]at hu;have e:=YT (us:=us) (sg:=st.sg) (c:=st.get t) hu;show(match (st.get t).2 with
    |.EM ms=>og (K8 (.EM ms)) (some (st.get t).1)
    |_=>Bn (NV us st.sg) (st.get t))=some d
   rw[e];exact H
 |cell p t=>
   simp only[yO]at hl;simp only[UQ]at hu;simp only[bP]at H ⊢;show(match (st.get p).2 with
    |.loc s 0=>ob (st.bx.getD s none) λcs=>ob (tz P t) λz=>
      if z.1=cs.length then
       if z.2 then ob (Ej (NV us st.sg) cs) λds=>some (.agg ds)
       else match cs with
        |[c]=>Bn (NV us st.sg) c
        |_=>none
      else none
    |.ptr i 0=>ob (H5 (NV us st.sg) i) λcs=>ob (tz P t) λz=>
      if z.1=cs.length then
       if z.2 then ob (Ej (NV us st.sg) cs) λds=>some (.agg ds)
       else match cs with
        |[c]=>Bn (NV us st.sg) c
        |_=>none
      else none
    |_=>none)=some d
   cases hm:(st.get p).2 with
   |loc s o=>
     rw[hm]at H hu;cases o with
     |succ o=>simp at H
     |zero=>
       simp only at H hu ⊢;obtain⟨cs,h1,H⟩:=D5 H;rw[h1]at hu;simp only at hu;have hc:∀c∈cs,∀i∈ul c.2,i∈us:=λc hc i hi=>hu i (zwq.2 ⟨c,hc,hi⟩);rw[h1,M6,kU hc];obtain⟨z,h2,H⟩:=D5 H;rw[h2,M6];obtain⟨h3,H⟩:=M3 H;rw[C8 h3];by_cases hz:z.2=true
       ·rw[C8 hz]at H ⊢;exact H
       ·rw[A7 hz]at H ⊢
        match cs,hc,H with
        |[c],hc,H=>simp only at H ⊢;rw[YT (hc c (z4q ..))];exact H
        |[],_,H=>simp at H
        |_::_::_,_,H=>simp at H
   |_=>rw[hm]at hl;simp at hl
def A9W(Rl:K9 E st a h)(us:List Nat):uh E h (NV us st.sg) (E.re (GU us)).S:=by
 refine⟨LG (VP (by simp)),λi ob hi=>?_⟩;unfold NV at hi;rw[y3q]at hi;cases hg:st.sg[i]? with
 |none=>rw[hg]at hi;simp at hi
 |some o=>
   rw[hg]at hi;simp only[zgq,D8]at hi;by_cases hm:i∈us
   ·rw[C8 hm]at hi;subst hi;refine⟨Rl.U6 i _ hg,λ_ b o hb=>?_⟩;simp only[Env.S,Env.re];rw[hb];simp[GU,hm]
   ·rw[A7 hm]at hi;subst hi;exact⟨by simp[RO],λh=>absurd rfl h⟩
def B3g(sg:List E5):∀(us:List Nat)(i:Nat),(kill sg us)[i]?=if i∈us then(sg[i]?).map (λ_=>E5.arr 1 [])else sg[i]?:=by
 intro us;induction us generalizing sg with
 |nil=>intro i;simp[kill]
 |cons u us ih=>
   intro i;show(kill (sg.set u (.arr 1 [])) us)[i]?=_;rw[ih];by_cases h1:i∈us
   ·rw[C8 h1,C8 (z2q _ h1),yfq];split
    ·rename_i h;subst h;split<;>simp_all
    ·rfl
   ·rw[A7 h1];by_cases h2:u=i
    ·subst h2;rw[C8 (z4q ..),yfq];simp only[F6]
     split
     ·rename_i h;rw[z3q h];rfl
     ·rename_i h;rw[List.getElem?_eq_none (by omega)];rfl
    ·rw[A7 (by simp[h1];exact λh=>h2 h.symm),y2q h2]
theorem K9.Q6(R:K9 E st a h)(us:List Nat):K9 (E.re (GU us)) { st with sg:=kill st.sg us } a h:=by
 have P:Pr (λT=>∃i∈us,T=.obj i) E h (E.re (GU us)) h:=Pr.re λT hT=>A6J us hT;have J5:AL E.S h (E.re (GU us)).S h:=LG (VP (by simp));have GH:∀(us:List Nat)(g:List E5),(kill g us).length=g.length:=by
  intro us;induction us with
  |nil=>intro g;rfl
  |cons u us ih=>intro g;show(kill (g.set u _) us).length=_;rw[ih];simp
 refine⟨R.size,R.Aa,R.CU,(GH us st.sg).trans R.n,λt v hv=>(R.Bf t v hv).mono P J5 (by simp) (by simp),λs cs hs=>(R.j6 s cs hs).mono P J5 (by simp) (by simp),λi ob hi=>?_,λb o hb=>?_⟩
 ·rw[B3g]at hi;split at hi
  ·cases hg:st.sg[i]? with
   |none=>rw[hg]at hi;simp at hi
   |some o=>rw[hg]at hi;simp only[zgq,D8]at hi;subst hi;simp[RO]
  ·rename_i hm;have P6:i<E.n:=by rw[<- R.n];exact(z0q.1 hi).1
   exact(R.U6 i ob hi).mono P J5 P6 (by rintro⟨j,hj,he⟩;simp only[Tag.obj.injEq]at he;subst he;exact hm hj) (by simp)
 ·simp only[Env.re]
  rw[R.fresh b o hb];rfl
end Go.Su

/-
 THE DATA MACHINE, part 27: the program's functions give what the data machine says.
-/
namespace Go.Su
set_option linter.defProp false
section
variable {C:BV}{R:O7}{X:Type}{fl:H8}{Q:Exit->Act->World->Prop}{ops:List Oper}
end
section
variable {C:BV}{R:O7}{X:Type}(S:AU)
open Classical in
noncomputable def WL:Env where
 blk:=λ_=>0
 top:=λ_=>0
 obj:=λ_=>0
 base:=λ_=>0
 O:=λb o=>if S b o then .Q6 else .other
 n:=0
 Q7:=λ_=>0
def B6c(b o:Nat):(WL S).S b o↔S b o:=by
 simp only[Env.S,WL]
 split<;>simp_all
variable {fn:Func}{rs:List (DV×F4)}{sg:List E5}
theorem B3f{t:Nat}:(∀r,rs[t]?=some r->(I4 fn rs sg).get t=r)/\(rs.length<=t->t<rs.length+(fn.ntmps-rs.length)->(I4 fn rs sg).get t=(.J9 [],.val)):=by
 constructor
 ·intro r hr;have ht:=(z0q.1 hr).1;simp only[St.get,I4,z6q];rw[zdq (by simpa using ht),zdq (by simpa using ht)];simp[hr]
 ·intro h1 h2;simp only[St.get,I4,z6q];rw[zEq (by simpa using h1),zEq (by simpa using h1)];simp only[zOq];rw[zGq,zGq,C8 (by omega),C8 (by omega)];rfl
variable {E:Env}{w:World}
def A5L{vs:List Value}(hf:∀b o,w.heap.size<=b->E.O b o=.other)(hn:sg.length=E.n)(ho:∀(i:Nat) ob,sg[i]?=some ob->RO E w.heap i ob)(hl:vs.length=rs.length)(hr:∀(i:Nat) r v,rs[i]?=some r->vs[i]?=some v->RR E w.heap 0 i r.1 r.2 v):
 K9 E (I4 fn rs sg) { tmps:=vs.toArray++Array.replicate (fn.ntmps-vs.toArray.size) undef,defers:=[] } w.heap:=by
 refine⟨by simp[I4,hl],by simp[I4],by simp[I4],hn,λt v hv=>?_,λs cs hs=>?_,ho,hf⟩
 ·have P6:t<rs.length+(fn.ntmps-rs.length):=by have:=(z1q.1 hv).1;simpa[hl]using this
  obtain⟨i1,i2⟩:=B3f (fn:=fn) (rs:=rs) (sg:=sg) (t:=t);by_cases ht:t<rs.length
  ·have Rz:rs[t]?=some rs[t]:=z3q ht;rw[i1 _ Rz];refine hr t _ v Rz ?_;rw[Array.getElem?_append_left (by simpa[hl]using ht)]at hv;simpa using hv
  ·rw[i2 (ygq ht) P6];rw[Array.getElem?_append_right (by simpa[hl]using ygq ht)]at hv;rw[zFq]at hv;split at hv
   ·simp only[D8]at hv;subst hv;simp only[RR,L9,RV,undef];exact⟨#[],rfl,by simp[Re]⟩
   ·cases hv
 ·simp only[I4,z6q,zGq]at hs;split at hs<;>simp at hs
def B48{S:AU}{E':Env}{h h':Heap}(P:Pr P5 (WL S) h E' h'){b:Nat}(hb:b<h.size):h'[b]?=h[b]?:=by
 have hk:=P.blk b hb;have Yp:∀o,¬P5 ((WL S).O b o):=λo=>by
  simp only[WL]
  split<;>simp[P5]
 have he:h[b]?=some h[b]:=zjq hb;rw[he]at hk ⊢;unfold V9 at hk;split at hk
 ·rename_i hx;cases hx
 ·rename_i c T f hx;obtain⟨c',h1,h2,h3⟩:=hk;rw[h1,hx];congr 2;exact yhq λo=>h3 o (Yp o)
 ·have:=hk (Yp 0);simp_all
def VC{m:Nat}{P:Program}{fn:Func}{Rp:Ending->World->Prop}{E0 E:Env}{st:St}{a:Act}{w:World}
 (fin:∀w2,K9 E st a w2.heap->Pr P5 E0 w.heap E w2.heap->Y9 w w2->∃v,(results fn a.tmps).run P w2=.ok v w2/\Rp (.returned v) w2) :
 ∀(ms:List Deferred)(w1:World),Marks w.heap.size E w1.heap ms->K9 E st a w1.heap->Pr P5 E0 w.heap E w1.heap->Y9 w w1->LeavesInM Fence.wide m P fn a.tmps Rp ms .returning w1
 |[],w1,_,Rl,P1,O1=>fin w1 Rl P1 O1
 |d::ms,w1,M,Rl,P1,O1=>by obtain⟨D,rfl,h2,h3,h4⟩:=M.1 d (z4q ..);obtain⟨p1,p2⟩:=zHq.1 M.2;refine⟨by simp,.inl ⟨D,w1.putObj D (.deferred none),rfl,run_takeDeferred h2,?_⟩⟩;refine VC fin ms _ ⟨λm' Vs=>?_,p2⟩ (Rl.others (Pr.setOther h2 rfl h3) rfl λb o hb=>Rl.fresh b o (by simpa using hb)) (P1.uN h4) ⟨O1.os,O1.tape,O1.output⟩;obtain⟨D',q1,q2,q3,q4⟩:=M.1 m' (z2q _ Vs);refine⟨D',q1,?_,q3,q4⟩;have hne:D'≠D:=λh=>p1 m' Vs (by rw[q1,h]);exact(World.putObj_heap_other hne).trans q2
variable {f:FuncId}{c:Code}
def pure_ok{ds:List DV}{d:DV}(hm:C.P.follows .mixedOrders=true)(hO:Il C R)(hf:C.P.funcs[f]?=some fn)(hb:fn.body=some c)(H:AA C R (C.fl f) c (Wj C.P fn) (I4 fn (ds.map λd=>(d,.val)) [])=some d):B0F C.P f ds d:=by
 intro S w vs hS QE;obtain⟨hl,hv⟩:=WB.1 QE;have J5:AL S w.heap (WL S).S w.heap:=⟨λb o hs=>(B6c S b o).2 hs,λ_ _ _ _ h=>h⟩;have fr:∀b o,w.heap.size<=b->(WL S).O b o=.other:=λb o hb=>by simp only[WL];rw[A7 (hS b o hb)]
 refine(callsIn_wide (n:=0)).1 (callsIn_of_wp_marks hf hb trivial (A6K hm hO c (.inl rfl) H (A5L (E:=WL S) fr rfl (by simp) (by simp[hl]) λi r v hr TU=>?_) λout E' st' a' w1 h1 h0 RL h3' A4o=>?_))
 ·simp only[zhq,zmq]at hr;obtain⟨d',Eg,rfl⟩:=hr;exact RR.val ((hv i d' v Eg TU).mono J5)
 ·obtain⟨ms,e0,M,-⟩:=h0;rw[ysq]at e0;have fin:∀ds',Zn C.P st' fn.results.toList=some ds'->d=pack ds'->∀w',K9 E' st' a' w'.heap->Pr P5 (WL S) w.heap E' w'.heap->Y9 w w'->∃v,(results fn a'.tmps).run C.P w'=.ok v w'/\∃v' S',Ending.returned v=.returned v'/\Ext S w.heap S' w'.heap/\RV S' w'.heap d v'/\Y9 w w':=by
   intro ds' k1 k2 w' h2 h3 WV;obtain⟨us,q1,q2,-⟩:=A0W h2 k1;refine⟨if h:us.toArray.size=1 then us.toArray[0]else .tuple us.toArray,?_,_,E'.fin,rfl,⟨h3.size,λb hb=>B48 h3 hb,λb o hb=>?_,λb o hb=>?_⟩,by rw[k2];exact B5c q2,WV⟩
   ·rw[nT];simp only[Sem.run_bind,q1,Result.andThen_ok,Sem.run_pure]
   ·have Yp:¬P5 ((WL S).O b o):=by
     simp only[WL]
     split<;>simp[P5]
    have ht:=h3.tags b o hb Yp;simp only[Env.fin,ht,WL]
    split<;>simp_all
   ·simp only[Env.fin,h2.fresh b o hb]
    simp
  cases out with
  |exit i=>simp[Wj]at h1
  |normal=>simp only[Wj]at h1;obtain⟨ds',k1,k2⟩:=D5 h1;simp only[D8]at k2;show LeavesInM Fence.wide 0 C.P fn a'.tmps _ a'.defers .returning w1;rw[e0];exact VC (fin ds' k1 k2.symm) ms w1 M RL h3' A4o
  |ret=>simp only[Wj]at h1;obtain⟨ds',k1,k2⟩:=D5 h1;simp only[D8]at k2;show LeavesInM Fence.wide 0 C.P fn a'.tmps _ a'.defers .returning w1;rw[e0];exact VC (fin ds' k1 k2.symm) ms w1 M RL h3' A4o
def A83(E:Env)(st:St)(a:Act)(w:World)(r:ResultVar)(d:DV)(v:Value):MK->Prop
 |.val=>RV S w.heap d v
 |.own=>∃t,r=.tmp t/\Mc (st.get t).2=true/\d=(st.get t).1/\v=a.tmps.getD t undef
 |.ptr=>∃t,r=.tmp t/\A6j (st.get t)=some d/\v=a.tmps.getD t undef
 |.YH n os=>∃p t s cs,r=.cell p t/\(st.get p).2=.loc s 0/\st.bx.getD s none=some cs/\n=cs.length/\iV os 0 cs=true/\d=.agg (cs.map (·.1))/\∃c T,w.heap[E.blk s]?=some (.cells c T (0,0))/\v=.agg c
def A3f{P:Program}{sl:Bool}{us:List Nat}{E:Env}{st:St}{a:Act}{w:World}(Rl:K9 E st a w.heap):∀{ks:List MK}{rs:List ResultVar}{ds:List DV},(sl=true->∀v∈rs,∀i∈UQ st v,i∈us)->YC P sl st ks rs=some ds->
 ks.length=rs.length/\ds.length=ks.length/\∃vs:List Value,(rs.mapM (Mi a.tmps)).run P w=.ok vs w/\vs.length=rs.length /\∀(i:Nat) k r d v,ks[i]?=some k->rs[i]?=some r->ds[i]?=some d->vs[i]?=some v->A83 (E.re (GU us)).S E st a w r d v k
 |[],[],ds,_,H=>by simp only[YC,D8]at H;subst H;exact⟨rfl,rfl,[],rfl,rfl,λi k r d v h=>by simp at h⟩
 |k::ks,r::rs,ds,hu,H=>by
   simp only[YC]at H;obtain⟨d,h1,H⟩:=D5 H;obtain⟨ds',h2,H⟩:=D5 H;simp only[D8]at H;subst H;obtain⟨l1,l2,vs,q1,q2,q3⟩:=A3f Rl (λh v hv=>hu h v (z2q _ hv)) h2;have one:∃v,(Mi a.tmps r).run P w=.ok v w/\A83 (E.re (GU us)).S E st a w r d v k:=by
    cases k with
    |val=>
      simp only[A0V]at h1;split at h1
      ·rename_i hb;simp only[z5q]at hb;obtain⟨v,k1,k2⟩:=uL (g:=NV us st.sg) (A7N hb.2 (hu hb.1 r (z4q ..)) h1) Rl (A9W Rl us);exact⟨v,k1,k2⟩
      ·obtain⟨v,k1,k2⟩:=uL (g:=[]) h1 Rl (A91 E w.heap);exact⟨v,k1,k2.mono (LG (VP (by simp)))⟩
    |own=>
      simp only[A0V]at h1;cases r with
      |tmp t=>simp only at h1;obtain⟨k1,k2⟩:=H6 h1;simp only[D8]at k2;exact⟨_,rfl,t,rfl,k1,k2.symm,rfl⟩
      |cell p t=>simp at h1
    |ptr=>
      simp only[A0V]at h1;cases r with
      |tmp t=>exact⟨_,rfl,t,rfl,h1,rfl⟩
      |cell p t=>simp at h1
    |YH n os=>
      simp only[A0V]at h1;cases r with
      |tmp t=>simp at h1
      |cell p t=>
        simp only at h1;split at h1
        ·rename_i s hm;obtain⟨cs,g1,h1⟩:=D5 h1;obtain⟨z,g2,h1⟩:=D5 h1;obtain⟨g3,h1⟩:=H6 h1;simp only[z5q,beq_iff_eq]at g3;obtain⟨⟨⟨hz,g3⟩,g4⟩,g5⟩:=g3;simp only[D8]at h1;have hR:RR E w.heap 0 p (st.get p).1 (st.get p).2 (a.tmps.getD p undef):=Rl.src (P:=P) (t:=0) (x:=.tmp p) rfl;rw[hm]at hR;simp only[RR,L9]at hR;obtain⟨c,T,b1,b2,b3,b4⟩:=Rl.j6 s cs g1;obtain⟨v,hv,Xu,hv2⟩:=Gq (w:=w) g2 (b:=E.blk s) (off:=0) (vs:=c.toList) (by simp[b2,g3]) λj u hu=>by simp only[hc,b1,znq];simpa using hu
         have U9:(Mi a.tmps (.cell p t)).run P w=.ok v w:=by simp only[Mi,hR.2,asAddr,Sem.run_bind,Sem.run_pure,Result.andThen_ok];exact hv
         exact⟨v,U9,p,t,s,cs,rfl,hm,g1,by omega,g5,h1.symm,c,T,b1,by rw[Xu hz]⟩
        ·cases h1
   obtain⟨v,k1,k2⟩:=one;refine⟨by simp[l1],by simp[l2],v::vs,by simp only[yuq,Sem.run_bind,k1,q1,Result.andThen_ok,Sem.run_pure],by simp[q2],λi k' r' d' v' e1 e2 e3 e4=>?_⟩;cases i with
   |zero=>simp only[zlq,D8]at e1 e2 e3 e4;subst e1 e2 e3 e4;exact k2
   |succ i=>simp only[zcq]at e1 e2 e3 e4;exact q3 i k' r' d' v' e1 e2 e3 e4
 |[],_::_,ds,_,H=>by simp[YC]at H
 |_::_,[],ds,_,H=>by simp[YC]at H
def A0R:∀{ks:List MK}{i j:Nat}{k k':MK},(ks.filter Dt).length<=1->ks[i]?=some k->Dt k=true->ks[j]?=some k'->Dt k'=true->i=j
 |[],i,j,_,_,_,h,_,_,_=>by simp at h
 |k0::ks,i,j,k,k',hl,hi,hk,hj,FF=>by
   have nomem:Dt k0=true->∀(m:Nat) q,ks[m]?=some q->Dt q=true->False:=by intro h0 m q hm hq;have h1:q∈ks.filter Dt:=zJq.2 ⟨List.mem_of_getElem? hm,hq⟩;have h2:0<(ks.filter Dt).length:=zXq h1;simp only[ynq,h0,F6,zbq]at hl;omega
   cases i with
   |zero=>
     simp only[zlq,D8]at hi;subst hi;cases j with
     |zero=>rfl
     |succ j=>simp only[zcq]at hj;exact(nomem hk j _ hj FF).elim
   |succ i=>
     simp only[zcq]at hi;cases j with
     |zero=>simp only[zlq,D8]at hj;subst hj;exact(nomem FF i _ hi hk).elim
     |succ j=>
       simp only[zcq]at hj;have Yo:(ks.filter Dt).length<=1:=by
        simp only[ynq]at hl;split at hl
        ·simp only[zbq]at hl;omega
        ·exact hl
       rw[A0R Yo hi hk hj FF]
def A0Q(st:St)(k:MK)(r:ResultVar):Option (Nat×Nat) :=
 match k,r with
 |.own,.tmp t=>some (0,t)
 |.YH _ _,.cell p _=>match (st.get p).2 with
   |.loc s _=>some (1,s)
   |_=>none
 |_,_=>none
def bO(q:Option (Nat×Nat))(i:Nat)(T:Tag):Tag :=
 match T with
 |.sp 0 t b=>if q=some (0,t)then .sp 3 i b else .sp 0 t b
 |.sp 1 s j=>if q=some (1,s)then .sp 3 i (j+1)else .sp 1 s j
 |T=>T
def zg:∀{os:List Nat}{i0 j:Nat}{cs:List (DV×F4)}{c:DV×F4},iV os i0 cs=true->cs[j]?=some c->(if os.contains (i0+j)then Mc c.2 else K8 c.2)=true
 |os,i0,j,[],c,_,h=>by simp at h
 |os,i0,0,c0::cs,c,H,h=>by simp only[zlq,D8]at h;subst h;simp only[iV,z5q]at H;exact H.1
 |os,i0,j+1,c0::cs,c,H,h=>by
   simp only[iV,z5q]at H;have:=zg H.2 (by simpa using h)
   rwa [Nat.add_assoc,Nat.add_comm 1 j]at this
def B2O{m:F4}(h:K8 m=true)(hl:Z4 m=true):Xv m=true:=by cases m<;>simp_all[K8,Z4,Xv]
def A6y{h:Heap}{tg:Tag}{d:DV}{m:F4}{v:Value}(hr:Mc m=true)(R:L9 E h tg d m v):L9 E h tg d .own v:=by cases m<;>first | exact R | exact R.mg | (simp[Mc]at hr)
def A4A(E:Env)(w:World)(s:l8)(q:List DV×List E5)(e:Ending)(w':World):Prop :=Y9 w w'/\∃v E',e=.returned v/\Pr P5 E w.heap E' w'.heap/\(∀b o,w'.heap.size<=b->E'.O b o=.other)/\q.2.length=E'.n/\(∀(i:Nat) ob,q.2[i]?=some ob->RO E' w'.heap i ob)/\A81 E' w'.heap s.results q.1 v
variable {s:l8}{q:List DV×List E5}
def A8E{E':Env}{st':St}{a':Act}(h4:(s.results.filter Dt).length<=1){ds':List DV}(k1:YC C.P s.lock st' s.results fn.results.toList=some ds')(k2:q=(ds',match s.lock with
   |true=>kill st'.sg (fn.results.toList.flatMap (UQ st'))
   |false=>st'.sg))(w':World)(h2:K9 E' st' a' w'.heap)(h3:Pr P5 E w.heap E' w'.heap)(WV:Y9 w w'):∃v,(results fn a'.tmps).run C.P w'=.ok v w'/\A4A E w s q (.returned v) w':=by
 obtain⟨ks,Ll⟩:∃ks,(match s.lock with
  |true=>fn.results.toList.flatMap (UQ st')
  |false=>[])=ks:=⟨_,rfl⟩
 have B6s:s.lock=true->∀v∈fn.results.toList,∀i∈UQ st' v,i∈ks:=λhl v hv i hi=>by rw[<- Ll,hl];exact zwq.2 ⟨v,hv,hi⟩
 have B6t:(match s.lock with
  |true=>kill st'.sg (fn.results.toList.flatMap (UQ st'))
  |false=>st'.sg)=kill st'.sg ks:=by
  rw[<- Ll];cases s.lock<;>rfl
 rw[B6t]at k2;clear B6t Ll;subst k2;obtain⟨l1,l2,us,q1,q2,q3⟩:=A3f (us:=ks) h2 B6s k1;have h2:K9 (E'.re (GU ks)) { st' with sg:=kill st'.sg ks } a' w'.heap:=h2.Q6 ks;have h3:Pr P5 E w.heap (E'.re (GU ks)) w'.heap:=h3.trans (Pr.re λT hT=>VP λi _ he=>hT (by rw[he];simp[P5]));have q3:∀(i:Nat) k r d v,s.results[i]?=some k->fn.results.toList[i]?=some r->ds'[i]?=some d->us[i]?=some v->A83 (E'.re (GU ks)).S (E'.re (GU ks)) { st' with sg:=kill st'.sg ks } a' w' r d v k:=by intro i k r d v e1 e2 e3 e4;have:=q3 i k r d v e1 e2 e3 e4;cases k<;>exact this
 clear B6s;generalize hE:E'.re (GU ks)=E' at h2 h3 q3;generalize R6:({ st' with sg:=kill st'.sg ks }:St)=st2 at h2 q3;have hgs:st2.sg=kill st'.sg ks:=by rw[<- R6]
 rw[<- hgs];clear hgs R6 hE k1;have pick:∃(i0:Nat)(g:Option (Nat×Nat)),∀(j:Nat) k r,s.results[j]?=some k->Dt k=true->fn.results.toList[j]?=some r->j=i0/\A0Q st2 k r=g:=by
  by_cases hx:∃(i:Nat)(k:MK),s.results[i]?=some k/\Dt k=true
  ·obtain⟨i,k,hi,hk⟩:=hx;have P6:i<s.results.length:=(z0q.1 hi).1;have e2:fn.results.toList[i]?=some (fn.results.toList[i]'(by omega)):=z3q (by omega);refine⟨i,A0Q st2 k (fn.results.toList[i]'(by omega)),λj k' r hj FF hr=>?_⟩;have:=A0R h4 hi hk hj FF;subst this;rw[hi]at hj;rw[e2]at hr;simp only[D8]at hj hr;exact⟨rfl,by rw[hj,hr]⟩
  ·exact⟨0,none,λj k r hj hk=>absurd ⟨j,k,hj,hk⟩ hx⟩
 obtain⟨i0,g,B4c⟩:=pick;have J5:AL E'.S w'.heap (E'.re (bO g i0)).S w'.heap:=LG rfl;refine⟨if h:us.toArray.size=1 then us.toArray[0]else .tuple us.toArray,?_,WV,_,E'.re (bO g i0),rfl,h3.trans (Pr.re λT hT=>?_),λb o hb=>?_,?_,λi ob hi=>?_,l2,us,by omega,?_,?_⟩
 ·rw[nT];simp only[Sem.run_bind,q1,Result.andThen_ok,Sem.run_pure]
 ·unfold bO;split
  ·simp[P5]at hT
  ·simp[P5]at hT
  ·rfl
 ·simp only[Env.re];rw[h2.fresh b o hb];rfl
 ·exact h2.n
 ·exact RO.to (E:=E') ⟨λb o h=>by simp only[Env.re];rw[h];rfl,λb o h=>by simp only[Env.re];rw[h];rfl,rfl,rfl,rfl,rfl,rfl⟩ (λj b o h=>by simp only[Env.re];rw[h];rfl) (h2.U6 i ob hi)
 ·match us with
  |[]=>rfl
  |[u]=>rfl
  |u::u'::us=>rfl
 ·intro i k d v e1 e2 e3;have P6:i<s.results.length:=(z0q.1 e1).1;have e4:fn.results.toList[i]?=some (fn.results.toList[i]'(by omega)):=z3q (by omega);have a1:=q3 i k _ d v e1 e4 e2 e3;cases k with
  |val=>exact(show RV _ _ _ _ from a1).mono J5
  |own=>
    obtain⟨t,ht,NQ,rfl,rfl⟩:=a1;obtain⟨rfl,hp⟩:=B4c i _ _ e1 rfl e4;rw[ht]at hp;simp only[A0Q]at hp;have hR:RR E' w'.heap 0 t (st2.get t).1 (st2.get t).2 (a'.tmps.getD t undef):=h2.src (P:=C.P) (t:=0) (x:=.tmp t) rfl;have hR2:RR (E'.re (bO g i)) w'.heap 3 i (st2.get t).1 (st2.get t).2 (a'.tmps.getD t undef) :=hR.re rfl rfl λb=>by simp[bO,<- hp]
    show L9 _ _ (.sp 3 i 0) _ .own _;exact A6y NQ (hR2.uW (λms h=>by rw[h]at NQ;simp[Mc]at NQ) λms h=>by rw[h]at NQ;simp[Mc]at NQ)
  |ptr=>
    obtain⟨t,ht,hd,rfl⟩:=a1;have hR:RR E' w'.heap 0 t (st2.get t).1 (st2.get t).2 (a'.tmps.getD t undef):=h2.src (P:=C.P) (t:=0) (x:=.tmp t) rfl;show L9 _ _ .other (Mh .ptr d).1 (Mh .ptr d).2 _;unfold A6j at hd;split at hd
    ·rename_i n hm;simp only[D8]at hd;subst hd;rw[hm]at hR;exact hR
    ·rename_i hm;simp only[D8]at hd;subst hd;rw[hm]at hR;exact⟨rfl,hR.2⟩
    ·cases hd
  |YH n os=>
    obtain⟨p,t,s',cs,ht,hm,hb,hn,Am,rfl,c,T,hc1,rfl⟩:=a1;obtain⟨rfl,hp⟩:=B4c i _ _ e1 rfl e4;rw[ht]at hp;simp only[A0Q,hm]at hp;obtain⟨c',T',b1,b2,b3,b4⟩:=h2.j6 s' cs hb;rw[hc1]at b1;simp only[D8,Obj.cells.injEq]at b1;obtain⟨rfl,rfl,-⟩:=b1;simp only[A82,RR];refine⟨_,c,rfl,rfl,by simp[hn],by simp[hn,b2],λj m' d' u e1 e2 e3=>?_⟩;simp only[zhq,zmq]at e1 e2;obtain⟨j',P8,rfl⟩:=e1;obtain⟨r,hr,rfl⟩:=e2;have hjj:j'=j:=by have:=(z0q.1 P8);obtain⟨_,hh⟩:=this;simpa using hh.symm
    subst hjj;obtain⟨x1,x2,x3,x4⟩:=b4 j' r u hr e3;have x5:L9 (E'.re (bO g i)) w'.heap (.sp 3 i (j'+1)) r.1 r.2 u:=x4.re rfl (by simp[bO,<- hp]);have x6:=zg Am hr;rw[znq]at x6;by_cases hos:os.contains j'=true
    ·rw[C8 hos]at x6 ⊢;exact⟨x1,x2,rfl,A6y x6 x5⟩
    ·rw[A7 hos]at x6 ⊢;refine⟨x1,x2,rfl,?_⟩;exact iT (B2O x6 x3) x5
def B3x{out:Out}{E':Env}{st':St}{a':Act}(h1:bQ C.P fn s out st'=some q):(∃i,out=.exit i->False)/\(out=.normal\/out=.ret)/\∀(w':World),K9 E' st' a' w'.heap->Pr P5 E w.heap E' w'.heap->Y9 w w'->∃v,(results fn a'.tmps).run C.P w'=.ok v w'/\A4A E w s q (.returned v) w':=by
 cases out with
 |exit i=>simp[bQ]at h1
 |normal=>simp only[bQ]at h1;obtain⟨k0,h1⟩:=H6 h1;obtain⟨ds',k1,k2⟩:=D5 h1;simp only[D8]at k2;exact⟨⟨0,by simp⟩,.inl rfl,λw' h2 h3 h4=>A8E (by simpa using k0) k1 k2.symm w' h2 h3 h4⟩
 |ret=>simp only[bQ]at h1;obtain⟨k0,h1⟩:=H6 h1;obtain⟨ds',k1,k2⟩:=D5 h1;simp only[D8]at k2;exact⟨⟨0,by simp⟩,.inr rfl,λw' h2 h3 h4=>A8E (by simpa using k0) k1 k2.symm w' h2 h3 h4⟩
def B68(hm:C.P.follows .mixedOrders=true)(hO:Il C R)(hf:C.P.funcs[f]?=some fn)(hb:fn.body=some c)(H:AA C R (C.fl f) c (bQ C.P fn s) (I4 fn rs sg)=some q):B33 C.P f s rs sg q:=by
 intro E w vs hfr hn ho hl hr;refine(callsIn_wide (n:=0)).1 (callsIn_of_wp_marks hf hb trivial (A6K hm hO c (.inl rfl) H (A5L hfr hn ho hl hr) λout E' st' a' w1 h1 h0 RL h3' A4o=>?_));obtain⟨ms,e0,M,-⟩:=h0;rw[ysq]at e0;obtain⟨-,ho,fin⟩:=B3x (E:=E) (E':=E') (a':=a') (w:=w) h1;have:LeavesInM Fence.wide 0 C.P fn a'.tmps (A4A E w s q) a'.defers .returning w1:=by rw[e0];exact VC fin ms w1 M RL h3' A4o
 rcases ho with rfl | rfl<;>exact this
end
structure zJ(C:BV):Prop where
 mixed:C.P.follows .mixedOrders=true
 go:∀(f:Nat) fn,C.P.funcs[f]?=some fn->fn.name ≠ "runtime.NumGoroutine"
 uG:∀f p,C.uG f=some p->∀fn c,C.P.funcs[f]?=some fn->fn.body=some c->True
 clone:∀f,C.clone f=true->isGo C.P f=true/\ug C.P f (C.ib f)
 eQ:∀f g,C.eQ f=some g->isGo C.P f=true/\A80 C.P f g (C.ib f)
 iter:∀g it,C.iter g=some it->isGo C.P g=true/\zK C.P g it
variable {C:BV}
def A8s(hC:zJ C){f:Nat}{fn:Func}{c:Code}(hf:C.P.funcs[f]?=some fn)(hb:fn.body=some c):isGo C.P f=true:=by unfold isGo;rw[hf];simp[hC.go f fn hf,hb]
def step_ok{R:O7}(hC:zJ C)(hO:Il C R):Il C (D_ C R):=by
 refine⟨λf ds d H=>?_,λf rs sg q H=>?_,hC.clone,hC.eQ,hC.iter⟩
 ·simp only[D_]at H;obtain⟨fn,hf,H⟩:=D5 H;obtain⟨c,hb,H⟩:=D5 H;exact⟨A8s hC hf hb,pure_ok hC.mixed hO hf hb H⟩
 ·simp only[D_]at H;obtain⟨s,hs,H⟩:=D5 H;obtain⟨fn,hf,H⟩:=D5 H;obtain⟨c,hb,H⟩:=D5 H;exact⟨s,hs,A8s hC hf hb,B68 hC.mixed hO hf hb H⟩
def A1X{C:BV}(hC:zJ C):∀n,Il C (NY C n)
 |0=>⟨λf ds d H=>by simp[NY]at H,λf rs sg q H=>by simp[NY]at H,hC.clone,hC.eQ,hC.iter⟩
 |n+1=>step_ok hC (A1X hC n)
def B7e(hC:zJ C):Il C (run C):=by
 have hr:∀f rs sg q,(run C).r f rs sg=some q->∃n,(NY C n).r f rs sg=some q:=λf rs sg q H=>by
  simp only[run]at H;split at H
  ·rename_i h;simp only[D8]at H;obtain⟨n,hn⟩:=h.choose_spec;rw[H]at hn;exact⟨n,hn⟩
  ·cases H
 refine⟨λf ds d H=>?_,λf rs sg q H=>?_,hC.clone,hC.eQ,hC.iter⟩
 ·simp only[run]at H;split at H
  ·rename_i h;simp only[D8]at H;obtain⟨n,hn⟩:=h.choose_spec;rw[H]at hn;exact(A1X hC n).p f ds d hn
  ·cases H
 ·obtain⟨n,hn⟩:=hr f rs sg q H;exact(A1X hC n).r f rs sg q hn
end Go.Su

/-
 THE DATA MACHINE, part 28: more is known of the functions that are called: more comes out.
-/
namespace Go.Su
set_option linter.defProp false
structure Nr(R R':O7):Prop where
 p:∀f ds d,R.p f ds=some d->R'.p f ds=some d
 r:∀f rs sg q,R.r f rs sg=some q->R'.r f rs sg=some q
def Nr.refl(R:O7):Nr R R:=⟨λ_ _ _ h=>h,λ_ _ _ _ h=>h⟩
def Nr.trans{R S T:O7}(a:Nr R S)(b:Nr S T):Nr R T:=⟨λf ds d h=>b.p f ds d (a.p f ds d h),λf rs sg q h=>b.r f rs sg q (a.r f rs sg q h)⟩
section
variable {C:BV}{R:O7}{fl:H8}{o:Oper}{st s:St}
def A2B(H:J2 C R fl o st some=some s):(∀R':O7,J2 C R' fl o st some=some s) \/
 (∃f ds d,R.p f ds=some d/\∀R':O7,R'.p f ds=some d->J2 C R' fl o st some=some s) \/
 (∃f rs sg q,R.r f rs sg=some q/\∀R':O7,R'.r f rs sg=some q->J2 C R' fl o st some=some s):=by
 have H0:=H;unfold J2 at H;split at H
 case h_23 c F7=>
  unfold G_ at H;split at H
  ·rename_i b hb;refine .inl λR'=>?_;rw[<- H0];simp only[J2,F7,G_,hb]
  ·rename_i y hy;obtain⟨r,h1,H⟩:=D5 H;obtain⟨rs,h2,H⟩:=D5 H;split at H
   ·rename_i g caps hm;have IK:∀R':O7,J2 C R' fl o st some=Kk C R' o g c.args.toList (rs++caps.map λm=>(.undef,.ptr m.1 m.2)) st some:=by intro R';simp only[J2,F7,G_,hy,h1,h2,M6,hm]
    generalize rs++caps.map (λm=>((.undef,.ptr m.1 m.2):DV×F4))=rs' at H IK;by_cases TS:C.clone g=true
    ·refine .inl λR'=>?_;rw[<- H0,IK,IK];simp only[Kk,C8 TS]
    ·unfold Kk at H;rw[A7 TS]at H;cases xK:C.eQ g with
     |some g'=>refine .inl λR'=>?_;rw[<- H0,IK,IK];simp only[Kk,A7 TS,xK]
     |none=>
     rw[xK]at H;simp only at H;split at H
     ·rename_i hs;obtain⟨h3,H⟩:=H6 H;obtain⟨d,h4,H⟩:=D5 H;refine .inr (.inl ⟨g,_,d,h4,λR' h=>?_⟩);rw[IK];simp only[Kk,A7 TS,xK,hs,h3,X6,h,M6];exact H
     ·rename_i sg hs;obtain⟨h3,H⟩:=H6 H;obtain⟨q,h4,H⟩:=D5 H;refine .inr (.inr ⟨g,_,_,q,h4,λR' h=>?_⟩);rw[IK];simp only[Kk,A7 TS,xK,hs,h3,X6,h,M6];exact H
   ·simp at H
  ·simp at H
 all_goals first
  | (simp at H;done)
  | (rename_i F7
     refine .inl λR'=>?_;rw[<- H0];simp only[J2,F7])
def A2C{R':O7}(hR:Nr R R')(H:J2 C R fl o st some=some s):J2 C R' fl o st some=some s:=by
 rcases A2B H with h | ⟨f,ds,d,h1,h2⟩ | ⟨f,rs,sg,q,h1,h2⟩
 ·exact h R'
 ·exact h2 R' (hR.p _ _ _ h1)
 ·exact h2 R' (hR.r _ _ _ _ h1)
structure vZ(Rs:Nat->O7)(R:O7):Prop where
 up:∀n,Nr (Rs n) (Rs (n+1))
 p:∀f ds d,R.p f ds=some d->∃n,(Rs n).p f ds=some d
 r:∀f rs sg q,R.r f rs sg=some q->∃n,(Rs n).r f rs sg=some q
def vZ.le{Rs:Nat->O7}(L:vZ Rs R){n m:Nat}(h:n<=m):Nr (Rs n) (Rs m):=by
 induction m with
 |zero=>rw[zTq.1 h];exact Nr.refl _
 |succ m ih=>
   rcases zrq m n with h1 | h1
   ·rw[show n=m+1 by omega];exact Nr.refl _
   ·exact(ih h1).trans (L.up m)
def A5c{Rs:Nat->O7}(L:vZ Rs R)(H:J2 C R fl o st some=some s):∃n,J2 C (Rs n) fl o st some=some s:=by
 rcases A2B H with h | ⟨f,ds,d,h1,h2⟩ | ⟨f,rs,sg,q,h1,h2⟩
 ·exact⟨0,h _⟩
 ·obtain⟨n,hn⟩:=L.p _ _ _ h1;exact⟨n,h2 _ hn⟩
 ·obtain⟨n,hn⟩:=L.r _ _ _ _ h1;exact⟨n,h2 _ hn⟩
variable {ops:List Oper}
def AP.mono{R':O7}{s1:St}(hR:Nr R R')(H:AP C R fl ops o s s1):AP C R' fl ops o s s1:=by
 unfold AP at H ⊢;split at H
 ·exact A2C hR H
 ·obtain⟨t,h1,h2,h3⟩:=H;exact⟨t,h1,h2,h3.imp (λh=>⟨h.1,A2C hR h.2⟩) id⟩
def AP.R9{Rs:Nat->O7}{s1:St}(L:vZ Rs R)(H:AP C R fl ops o s s1):∃n,AP C (Rs n) fl ops o s s1:=by
 unfold AP at H ⊢;split at H
 ·exact A5c L H
 ·obtain⟨t,h1,h2,h3⟩:=H;rcases h3 with⟨h3,h4⟩ | h3
  ·obtain⟨n,hn⟩:=A5c L h4;exact⟨n,t,h1,h2,.inl ⟨h3,hn⟩⟩
  ·exact⟨0,t,h1,h2,.inr h3⟩
end
end Go.Su

/-
 THE DATA MACHINE, part 29: regions and code, when more is known.
-/
namespace Go.Su
set_option linter.defProp false
section
variable {X:Type}{C:BV}{R:O7}{fl:H8}{o:Oper}{st s:St}{ops:List Oper}{s1:St}
def uu(H:J2 C R fl o st some=some s1)(k:St->Option X):J2 C R fl o st k=k s1:=by obtain⟨s,h1,h2⟩:=mG H;simp only[D8]at h1;subst h1;exact h2 X k
variable {os:List Oper}
def B2T(H:AP C R fl ops o st s1)(k:St->Option X):FB C R fl ops (o::os) st k=FB C R fl ops os s1 k:=by
 simp only[FB,ZK];unfold AP at H;split at H
 ·rename_i hg;simp only[hg];exact uu H _
 ·rename_i g want hg;obtain⟨t,h1,h2,h3⟩:=H;simp only[hg,h1,M6,h2,X6];rcases h3 with⟨h3,h4⟩ | ⟨h3,h4⟩
  ·rw[h3];cases want<;>simp only[M7,F6,zoq,G8]<;>rw[JM h3 (by simp)]<;>exact uu h4 _
  ·subst h4;cases want<;>simp only[yzq,yvq]at h3<;>rcases h3 with h3 | h3<;>simp only[h3,M7,F6,zoq,G8]<;>rw[JM h3 (by simp)]
theorem B1b{bf:List (List Nat)}{i:Nat}{acc:List (Nat×Fp)}(H:AP C R fl ops o st s1)(k:St->Option X):
 DI C R fl ops bf (o::os) i acc st k=og (KU bf i acc ((Bi C fl ops o st).AF st s1)) (kL (SV bf i acc ((Bi C fl ops o st).AF st s1)) (DI C R fl ops bf os (i+1) ((i,(Bi C fl ops o st).AF st s1)::acc) s1 k)):=by
 have H0:=H;simp only[DI,ZK,A0x];unfold AP at H;split at H
 ·rename_i hg;simp only[hg];rw[uu H,A5w hg];rfl
 ·rename_i g want hg;obtain⟨t,h1,h2,h3⟩:=H;rw[A5x hg h1];simp only[hg,h1,M6,h2,X6];rcases h3 with⟨h3,h4⟩ | ⟨h3,h4⟩
  ·rw[C8 (Zf.2 h3)];rw[h3];cases want<;>simp only[M7,F6,zoq,G8,i_]<;>rw[JM h3 (by simp),uu h4]<;>rfl
  ·have hB:¬(eH want (st.get t).1=true):=by rw[Zf];rcases h3 with h | h<;>rw[h]<;>cases want<;>simp
   rw[A7 hB];subst h4;cases want<;>simp only[yzq,yvq]at h3<;>rcases h3 with h3 | h3<;>simp only[h3,M7,F6,zoq,G8,WK]<;>rw[JM h3 (by simp)]<;>rfl
end
end Go.Su

/-
 THE DATA MACHINE, part 30: the code's answers are limits; the program's functions are what one step makes of them.
-/
namespace Go.Su
set_option linter.defProp false
section
variable {X:Type}{C:BV}{fl:H8}
def Hr(p:Nat->Prop):Prop:=∃n,∀m,n<=m->p m
def Hr.mono{p q:Nat->Prop}(h:Hr p)(f:∀m,p m->q m):Hr q:=h.imp λ_ h m hm=>f m (h m hm)
def Hr.and{p q:Nat->Prop}(h:Hr p)(h':Hr q):Hr λm=>p m/\q m:=by obtain⟨n,hn⟩:=h;obtain⟨k,hk⟩:=h';exact⟨n+k,λm hm=>⟨hn m (by omega),hk m (by omega)⟩⟩
def Hr.all{p:Nat->Prop}(h:∀m,p m):Hr p:=⟨0,λm _=>h m⟩
def A2D{R:O7}{Rs:Nat->O7}(L:vZ Rs R){ops:List Oper}{k:St->Option X}{ks:Nat->St->Option X}(hk:∀st x,k st=some x->Hr λm=>ks m st=some x):
 ∀{os:List Oper}{st:St}{x:X},FB C R fl ops os st k=some x->Hr λm=>FB C (Rs m) fl ops os st (ks m)=some x
 |[],st,x,H=>by simp only[FB]at H ⊢;exact hk st x H
 |o::os,st,x,H=>by obtain⟨s1,h1,h2⟩:=A0m H;obtain⟨n,hn⟩:=h1.R9 L;refine(Hr.and ⟨n,λm hm=>hn.mono (L.le hm)⟩ (A2D L hk h2)).mono λm h=>?_;rw[B2T h.1];exact h.2
def A0j{R:O7}{Rs:Nat->O7}(L:vZ Rs R){ops:List Oper}{bf:List (List Nat)}{k:St->Option X}{ks:Nat->St->Option X}(hk:∀st x,k st=some x->Hr λm=>ks m st=some x):
 ∀{os:List Oper}{i:Nat}{acc:List (Nat×Fp)}{st:St}{x:X},DI C R fl ops bf os i acc st k=some x->Hr λm=>DI C (Rs m) fl ops bf os i acc st (ks m)=some x
 |[],i,acc,st,x,H=>by simp only[DI]at H ⊢;exact hk st x H
 |o::os,i,acc,st,x,H=>by obtain⟨s1,h1,h2,RL,h3⟩:=wY H;obtain⟨n,hn⟩:=h1.R9 L;refine(Hr.and ⟨n,λm hm=>hn.mono (L.le hm)⟩ (A0j L hk h3)).mono λm h=>?_;rw[B1b h.1,h2,X6,B1H _ RL];exact h.2
variable {id:Nat}
def mq{X:Type}{fl:H8}{st:St}{k:St->Option X}{x:X}(H:Us fl id st k=some x):∃s,k s=some x/\∀(Y:Type)(k':St->Option Y),Us fl id st k'=k' s:=by
 unfold Us at H;split at H
 ·rename_i e he;unfold A0A at H;split at H
  ·rename_i b hm;obtain⟨g,h1,H⟩:=D5 H;exact⟨_,H,λY k'=>by simp only[Us,he,A0A,hm,h1,M6]⟩
  ·cases H
 ·rename_i he;exact⟨st,H,λY k'=>by simp only[Us,he]⟩
def A7m{X:Type}{fl:H8}{st:St}{k:St->Option X}{x:X}(H:IA fl id st k=some x):∃s,k s=some x/\∀(Y:Type)(k':St->Option Y),IA fl id st k'=k' s:=by
 unfold IA at H;split at H
 ·rename_i e he;unfold Zc at H;split at H
  ·rename_i i sz len hm;obtain⟨q,h1,H⟩:=D5 H;obtain⟨d,h2,H⟩:=D5 H;obtain⟨s,H,hs⟩:=mq H;exact⟨s,H,λY k'=>by simp only[IA,he,Zc,hm,h1,h2,M6,hs]⟩
  ·rename_i b off hm;obtain⟨cs,h1,H⟩:=D5 H;obtain⟨a,h2,H⟩:=D5 H;obtain⟨q,h3,H⟩:=D5 H;obtain⟨d,h4,H⟩:=D5 H;obtain⟨s,H,hs⟩:=mq H;exact⟨s,H,λY k'=>by simp only[IA,he,Zc,hm,h1,h2,h3,h4,M6,hs]⟩
  ·cases H
 ·rename_i he;obtain⟨s,H,hs⟩:=mq H;exact⟨s,H,λY k'=>by simp only[IA,he,hs]⟩
def wV{X:Type}{fl:H8}{k:St->Option X}{ks:Nat->St->Option X}(hk:∀st x,k st=some x->Hr λm=>ks m st=some x)(st:St)(x:X)(H:IA fl id st k=some x):Hr λm=>IA fl id st (ks m)=some x:=by obtain⟨s,h1,h2⟩:=A7m H;exact(hk s x h1).mono λm h=>by rw[h2];exact h
def A1y:∀(c:Code){R:O7}{Rs:Nat->O7}{K:Out->St->Option X}{Ks:Nat->Out->St->Option X}{st:St}{x:X},vZ Rs R->
 (∀o st x,K o st=some x->Hr λm=>Ks m o st=some x)->AA C R fl c K st=some x->Hr λm=>AA C (Rs m) fl c (Ks m) st=some x:=by
 intro c;induction c with
 |skip=>intro R Rs K Ks st x L hK H;simp only[AA]at H ⊢;exact hK _ _ _ H
 |scope c ih=>intro R Rs K Ks st x L hK H;simp only[AA]at H ⊢;exact ih L hK H
 |label l=>intro R Rs K Ks st x L hK H;simp only[AA]at H ⊢;exact hK _ _ _ H
 |region id ops d=>
   intro R Rs K Ks st x L hK H;cases d
   ·simp only[AA]at H ⊢;exact A2D L (wV (hK .normal)) H
   ·simp only[AA,g_]at H ⊢;obtain⟨h1,H⟩:=H6 H;simp only[h1,X6];exact A0j L (wV (hK .normal)) H
 |seq c d ihc ihd=>
   intro R Rs K Ks st x L hK H;simp only[AA]at H ⊢;refine ihc L ?_ H;intro o s y h;cases o with
   |normal=>exact ihd L hK h
   |exit i=>exact hK _ _ _ h
   |ret=>exact hK _ _ _ h
 |cond y c d ihc ihd=>
   intro R Rs K Ks st x L hK H;simp only[AA,A0i]at H ⊢;obtain⟨r,h1,H⟩:=D5 H;obtain⟨h2,H⟩:=H6 H;simp only[h1,M6,h2,X6];cases y with
   |tmp t=>
     simp only at H ⊢;rcases nN H with⟨h3,h4⟩ | ⟨h3,h4⟩<;>rw[h3]
     ·exact ihc L hK h4
     ·exact ihd L hK h4
   |_=>
     rcases nN H with⟨h3,h4⟩ | ⟨h3,h4⟩<;>rw[h3]
     ·exact ihc L hK h4
     ·exact ihd L hK h4
 |block id c ih=>
   intro R Rs K Ks st x L hK H;simp only[AA]at H ⊢;refine ih L ?_ H;intro o s y h;cases o with
   |normal=>exact hK _ _ _ h
   |exit i=>
     simp only at h ⊢;by_cases hi:i=id
     ·simp only[C8 hi]at h ⊢;exact hK _ _ _ h
     ·simp only[A7 hi]at h ⊢;exact hK _ _ _ h
   |ret=>exact hK _ _ _ h
 |loop c ih=>
   intro R Rs K Ks st x L hK H;simp only[AA]at H ⊢;obtain⟨n,H9⟩:=ZO H;clear H;have up:∀m,Hr (λm'=>iter (λJ st=>AA C (Rs m) fl c (λo st=>match o with
    |.normal=>J (clean fl c st)
    |.exit i=>Ks m (.exit i) st
    |.ret=>Ks m .ret st) st) m' (clean fl c st)=some x)->JC (λJ st=>AA C (Rs m) fl c (λo st=>match o with
    |.normal=>J (clean fl c st)
    |.exit i=>Ks m (.exit i) st
    |.ret=>Ks m .ret st) st) (clean fl c st)=some x:=by
    intro m h;generalize clean fl c st=st9 at h ⊢;have mono:∀k s y,iter (λJ st=>AA C (Rs m) fl c (λo st=>match o with
     |.normal=>J (clean fl c st)
     |.exit i=>Ks m (.exit i) st
     |.ret=>Ks m .ret st) st) k s=some y->iter (λJ st=>AA C (Rs m) fl c (λo st=>match o with
     |.normal=>J (clean fl c st)
     |.exit i=>Ks m (.exit i) st
     |.ret=>Ks m .ret st) st) (k+1) s=some y:=by
     intro k;induction k with
     |zero=>intro s y h;simp[iter]at h
     |succ k ihk=>
       intro s y h;rw[iter]at h ⊢;have:=ih (R:=Rs m) (Rs:=λ_=>Rs m) (Ks:=λ_ o st=>match o with
        |.normal=>iter (λJ st=>AA C (Rs m) fl c (λo st=>match o with
     |.normal=>J (clean fl c st)
     |.exit i=>Ks m (.exit i) st
     |.ret=>Ks m .ret st) st) (k+1) (clean fl c st)
        |.exit i=>Ks m (.exit i) st
        |.ret=>Ks m .ret st) ⟨λ_=>Nr.refl _,λ_ _ _ h=>⟨0,h⟩,λ_ _ _ _ h=>⟨0,h⟩⟩ ?_ h
       ·obtain⟨n,hn⟩:=this;exact hn n (z8q _)
       ·intro o s y h;refine Hr.all λ_=>?_;cases o with
        |normal=>exact ihk _ _ h
        |exit i=>exact h
        |ret=>exact h
    obtain⟨k,hk⟩:=h;unfold JC;have he:∃x n,iter (λJ st=>AA C (Rs m) fl c (λo st=>match o with
     |.normal=>J (clean fl c st)
     |.exit i=>Ks m (.exit i) st
     |.ret=>Ks m .ret st) st) n st9=some x:=⟨x,k,hk k (z8q _)⟩
    rw[dif_pos he];obtain⟨j,hj⟩:=he.choose_spec;have le:∀a b s y,a<=b->iter (λJ st=>AA C (Rs m) fl c (λo st=>match o with
     |.normal=>J (clean fl c st)
     |.exit i=>Ks m (.exit i) st
     |.ret=>Ks m .ret st) st) a s=some y->iter (λJ st=>AA C (Rs m) fl c (λo st=>match o with
     |.normal=>J (clean fl c st)
     |.exit i=>Ks m (.exit i) st
     |.ret=>Ks m .ret st) st) b s=some y:=by
     intro a b s y tF h;induction b with
     |zero=>rw[zTq.1 tF]at h;exact h
     |succ b ihb=>
       rcases zrq b a with h1 | h1
       ·rw[show b+1=a by omega];exact h
       ·exact mono _ _ _ (ihb h1)
    have h1:=le j (j+k) _ _ (by omega) hj;have h2:=le k (j+k) _ _ (by omega) (hk k (z8q _));rw[h1]at h2;exact h2
   have main:Hr λm=>Hr λm'=>iter (λJ st=>AA C (Rs m) fl c (λo st=>match o with
    |.normal=>J (clean fl c st)
    |.exit i=>Ks m (.exit i) st
    |.ret=>Ks m .ret st) st) m' (clean fl c st)=some x:=by
    have R9:∀k s y,iter (λJ st=>AA C R fl c (λo st=>match o with
     |.normal=>J (clean fl c st)
     |.exit i=>K (.exit i) st
     |.ret=>K .ret st) st) k s=some y->Hr λm=>iter (λJ st=>AA C (Rs m) fl c (λo st=>match o with
     |.normal=>J (clean fl c st)
     |.exit i=>Ks m (.exit i) st
     |.ret=>Ks m .ret st) st) k s=some y:=by
     intro k;induction k with
     |zero=>intro s y h;simp[iter]at h
     |succ k ihk=>
       intro s y h;simp only[iter]at h ⊢;refine ih L ?_ h;intro o s y h;cases o with
       |normal=>exact ihk _ _ h
       |exit i=>exact hK _ _ _ h
       |ret=>exact hK _ _ _ h
    obtain⟨k,hk⟩:=R9 n _ _ H9;refine⟨k,λm hm=>⟨n,λm' Vs=>?_⟩⟩;have h0:=hk m hm;have mono:∀k s y,iter (λJ st=>AA C (Rs m) fl c (λo st=>match o with
     |.normal=>J (clean fl c st)
     |.exit i=>Ks m (.exit i) st
     |.ret=>Ks m .ret st) st) k s=some y->iter (λJ st=>AA C (Rs m) fl c (λo st=>match o with
     |.normal=>J (clean fl c st)
     |.exit i=>Ks m (.exit i) st
     |.ret=>Ks m .ret st) st) (k+1) s=some y:=by
     intro k;induction k with
     |zero=>intro s y h;simp[iter]at h
     |succ k ihk=>
       intro s y h;rw[iter]at h ⊢;have:=ih (R:=Rs m) (Rs:=λ_=>Rs m) (Ks:=λ_ o st=>match o with
        |.normal=>iter (λJ st=>AA C (Rs m) fl c (λo st=>match o with
     |.normal=>J (clean fl c st)
     |.exit i=>Ks m (.exit i) st
     |.ret=>Ks m .ret st) st) (k+1) (clean fl c st)
        |.exit i=>Ks m (.exit i) st
        |.ret=>Ks m .ret st) ⟨λ_=>Nr.refl _,λ_ _ _ h=>⟨0,h⟩,λ_ _ _ _ h=>⟨0,h⟩⟩ ?_ h
       ·obtain⟨n,hn⟩:=this;exact hn n (z8q _)
       ·intro o s y h;refine Hr.all λ_=>?_;cases o with
        |normal=>exact ihk _ _ h
        |exit i=>exact h
        |ret=>exact h
    induction m' with
    |zero=>rw[zTq.1 Vs]at h0;exact h0
    |succ b ihb=>
      rcases zrq b n with h1 | h1
      ·rw[show b+1=n by omega];exact h0
      ·exact mono _ _ _ (ihb h1)
   exact main.mono up
 |rangeFunc g ps assign body iha ihb=>
   intro R Rs K Ks st x L hK H;simp only[AA]at H ⊢;have H9:=A0l H;clear H;obtain⟨t,p,f,i,it,cs,cd,ds,rfl,h1,h2,h3,h4,h5,h6,h7,H⟩:=H9;simp only[h7,B2R h1 h2 h3 h4 h5 h6];clear h6;generalize st.sg.set i (.arr 1 [])=sg at H;induction ds generalizing sg x with
   |nil=>exact hK _ _ _ H
   |cons d ds ih=>
     simp only[MV]at H ⊢;refine iha L ?_ H;intro o s y h;cases o with
     |exit e=>cases h
     |ret=>cases h
     |normal=>
       refine ihb L ?_ h;intro o s y h;cases o with
       |normal=>exact ih _ h
       |exit e=>exact hK _ _ _ h
       |ret=>exact hK _ _ _ h
 |exit id=>intro R Rs K Ks st x L hK H;simp only[AA]at H ⊢;exact hK _ _ _ H
 |ret=>intro R Rs K Ks st x L hK H;simp only[AA]at H ⊢;exact hK _ _ _ H
 |_=>intro R Rs K Ks st x L hK H;simp[AA]at H
def oD{R:O7}{Rs:Nat->O7}(L:vZ Rs R):(∀f ds d,(D_ C R).p f ds=some d->Hr λm=>(D_ C (Rs m)).p f ds=some d) /\
 (∀f rs sg q,(D_ C R).r f rs sg=some q->Hr λm=>(D_ C (Rs m)).r f rs sg=some q):=by
 constructor
 ·intro f ds d H;simp only[D_]at H ⊢;obtain⟨fn,h1,H⟩:=D5 H;obtain⟨c,h2,H⟩:=D5 H;simp only[h1,M6,h2];exact A1y c L (λo st x h=>Hr.all λ_=>h) H
 ·intro f rs sg q H;simp only[D_]at H ⊢;obtain⟨s,h0,H⟩:=D5 H;obtain⟨fn,h1,H⟩:=D5 H;obtain⟨c,h2,H⟩:=D5 H;simp only[h0,h1,M6,h2];exact A1y c L (λo st x h=>Hr.all λ_=>h) H
def uU{R R':O7}(h:Nr R R'):Nr (D_ C R) (D_ C R'):=by
 have L:vZ (λ_=>R') R:=⟨λ_=>Nr.refl _,λ_ _ _ k=>⟨0,h.p _ _ _ k⟩,λ_ _ _ _ k=>⟨0,h.r _ _ _ _ k⟩⟩;constructor
 ·intro f ds d H;obtain⟨n,hn⟩:=(oD L).1 f ds d H;exact hn n (z8q _)
 ·intro f rs sg q H;obtain⟨n,hn⟩:=(oD L).2 f rs sg q H;exact hn n (z8q _)
def A8y(n:Nat):Nr (NY C n) (NY C (n+1)):=by
 induction n with
 |zero=>exact⟨λ_ _ _ h=>by simp[NY]at h,λ_ _ _ _ h=>by simp[NY]at h⟩
 |succ n ih=>exact uU ih
def vI{n m:Nat}(h:n<=m):Nr (NY C n) (NY C m):=by
 induction m with
 |zero=>rw[zTq.1 h];exact Nr.refl _
 |succ m ih=>
   rcases zrq m n with h1 | h1
   ·rw[show n=m+1 by omega];exact Nr.refl _
   ·exact(ih h1).trans (A8y m)
def vO:vZ (NY C) (run C):=by
 refine⟨A8y,λf ds d H=>?_,λf rs sg q H=>?_⟩
 ·simp only[run]at H;split at H
  ·rename_i h;simp only[D8]at H;rw[<- H];exact h.choose_spec
  ·cases H
 ·simp only[run]at H;split at H
  ·rename_i h;simp only[D8]at H;rw[<- H];exact h.choose_spec
  ·cases H
def vJ(n:Nat):Nr (NY C n) (run C):=by
 constructor
 ·intro f ds d H;have h:∃x n,(NY C n).p f ds=some x:=⟨d,n,H⟩;simp only[run,dif_pos h];obtain⟨m,hm⟩:=h.choose_spec;have h1:=(vI (C:=C) (zzq n m)).p _ _ _ H;have h2:=(vI (C:=C) (zDq m n)).p _ _ _ hm;rw[h1]at h2;exact h2.symm
 ·intro f rs sg q H;have h:∃x n,(NY C n).r f rs sg=some x:=⟨q,n,H⟩;simp only[run,dif_pos h];obtain⟨m,hm⟩:=h.choose_spec;have h1:=(vI (C:=C) (zzq n m)).r _ _ _ _ H;have h2:=(vI (C:=C) (zDq m n)).r _ _ _ _ hm;rw[h1]at h2;exact h2.symm
def A6D:Nr (D_ C (run C)) (run C):=by
 constructor
 ·intro f ds d H;obtain⟨n,hn⟩:=(oD vO).1 f ds d H;exact(vJ (n+1)).p _ _ _ (hn n (z8q _))
 ·intro f rs sg q H;obtain⟨n,hn⟩:=(oD vO).2 f rs sg q H;exact(vJ (n+1)).r _ _ _ _ (hn n (z8q _))
end
end Go.Su

/-
 THE DATA MACHINE, part 31: places in a code; what a loop's head says of itself.
-/
namespace Go.Su
set_option linter.defProp false
noncomputable section
section
variable {X:Type}(C:BV)(R:O7)(fl:H8)
def Dw(b:Code)(K:Out->St->Option X):(St->Option X)->St->Option X:=λJ st=>AA C R fl b (λo st=>match o with
 |.normal=>J (clean fl b st)
 |.exit i=>K (.exit i) st
 |.ret=>K .ret st) st
theorem B2S(b:Code)(K:Out->St->Option X)(st:St):AA C R fl (.loop b) K st=JC (Dw C R fl b K) (clean fl b st):=rfl
variable {b:Code}{st:St}{x:X}
def A2T{K:Out->St->Option X}{J:St->Option X}{Js:Nat->St->Option X}(hJ:∀st x,J st=some x->Hr λm=>Js m st=some x)(H:Dw C R fl b K J st=some x):Hr λm=>Dw C R fl b K (Js m) st=some x:=by
 refine A1y b (Rs:=λ_=>R) ⟨λ_=>Nr.refl _,λ_ _ _ h=>⟨0,h⟩,λ_ _ _ _ h=>⟨0,h⟩⟩ ?_ H;intro o st x h;cases o with
 |normal=>exact hJ _ _ h
 |exit i=>exact Hr.all λ_=>h
 |ret=>exact Hr.all λ_=>h
def A0G{K:Out->St->Option X}{J J':St->Option X}(hJ:∀st x,J st=some x->J' st=some x)(H:Dw C R fl b K J st=some x):Dw C R fl b K J' st=some x:=by obtain⟨n,hn⟩:=A2T C R fl (J:=J) (Js:=λ_=>J') (λst x h=>Hr.all λ_=>hJ st x h) H;exact hn n (z8q _)
def A1N{K:Out->St->Option X}:∀{n m:Nat}{st:St}{x:X},n<=m->iter (Dw C R fl b K) n st=some x->iter (Dw C R fl b K) m st=some x:=by
 intro n;induction n with
 |zero=>intro m st x _ h;simp[iter]at h
 |succ n ih=>intro m st x hm h;obtain⟨m',rfl⟩:∃m',m=m'+1:=⟨m-1,by omega⟩;simp only[iter]at h ⊢;exact A0G C R fl (λst x h=>ih (by omega) h) h
def pq{K:Out->St->Option X}{n:Nat}(h:iter (Dw C R fl b K) n st=some x):JC (Dw C R fl b K) st=some x:=by have he:∃x n,iter (Dw C R fl b K) n st=some x:=⟨x,n,h⟩;unfold JC;rw[dif_pos he];obtain⟨j,hj⟩:=he.choose_spec;have h1:=A1N C R fl (zzq j n) hj;have h2:=A1N C R fl (zDq n j) h;rw[h1]at h2;exact h2
def B3j(b:Code)(K:Out->St->Option X)(st:St):JC (Dw C R fl b K) st=Dw C R fl b K (JC (Dw C R fl b K)) st:=by
 have h1:∀x,JC (Dw C R fl b K) st=some x->Dw C R fl b K (JC (Dw C R fl b K)) st=some x:=by
  intro x h;obtain⟨n,hn⟩:=ZO h;cases n with
  |zero=>simp[iter]at hn
  |succ n=>exact A0G C R fl (λst x h=>pq C R fl h) hn
 have h2:∀x,Dw C R fl b K (JC (Dw C R fl b K)) st=some x->JC (Dw C R fl b K) st=some x:=by
  intro x h;obtain⟨n,hn⟩:=A2T C R fl (J:=JC (Dw C R fl b K)) (Js:=iter (Dw C R fl b K)) (λst x h=>by obtain⟨n,hn⟩:=ZO h;exact⟨n,λm hm=>A1N C R fl hm hn⟩) h
  exact pq C R fl (n:=n+1) (hn n (z8q _))
 cases h:JC (Dw C R fl b K) st with
 |some x=>exact(h1 x h).symm
 |none=>
   cases h':Dw C R fl b K (JC (Dw C R fl b K)) st with
   |none=>rfl
   |some x=>rw[h2 x h']at h;exact h.symm
inductive Wait where
 |seq (b:Code)
 |blk (id:Nat)
 |lp (b:Code)
variable (K0:Out->St->Option X)
def AV:List Wait->Out->St->Option X
 |[]=>K0
 |.seq b::ks=>λo st=>match o with
   |.normal=>AA C R fl b (AV ks) (clean fl b st)
   |.exit i=>AV ks (.exit i) st
   |.ret=>AV ks .ret st
 |.blk id::ks=>λo st=>match o with
   |.normal=>AV ks .normal st
   |.exit i=>if i=id then AV ks .normal st else AV ks (.exit i) st
   |.ret=>AV ks .ret st
 |.lp b::ks=>λo st=>match o with
   |.normal=>JC (Dw C R fl b (AV ks)) (clean fl b st)
   |.exit i=>AV ks (.exit i) st
   |.ret=>AV ks .ret st
def Pt(c:Code)(ks:List Wait)(st:St):Option X:=AA C R fl c (AV C R fl K0 ks) st
def PK(b:Code)(ks:List Wait)(st:St):Option X:=JC (Dw C R fl b (AV C R fl K0 ks)) st
section
variable (J JL:Code->List Wait->St->Option X)(cut:List Nat)
def Hd(go:Code->List Wait->St->Option X):List Wait->Out->St->Option X
 |[],o,st=>K0 o st
 |.seq b::ks,o,st=>match o with
   |.normal=>go b ks st
   |.exit i=>Hd go ks (.exit i) st
   |.ret=>Hd go ks .ret st
 |.blk id::ks,o,st=>match o with
   |.normal=>Hd go ks .normal st
   |.exit i=>if i=id then Hd go ks .normal st else Hd go ks (.exit i) st
   |.ret=>Hd go ks .ret st
 |.lp b::ks,o,st=>match o with
   |.normal=>JL b ks (clean fl b st)
   |.exit i=>Hd go ks (.exit i) st
   |.ret=>Hd go ks .ret st
def cutAt(b:Code):Bool :=
 match jv b with
 |some id=>cut.contains id
 |none=>false
def LM(ev:Code->List Wait->St->Option X)(b:Code)(ks:List Wait)(st:St):Option X :=
 match cutAt cut b with
 |true=>J b ks (clean fl b st)
 |false=>ev b ks (clean fl b st)
def Kq:Nat->Code->List Wait->St->Option X
 |0,c,ks,st=>J c ks st
 |n+1,c,ks,st=>
   match c with
   |.skip=>Hd fl K0 JL (LM fl J cut (Kq n)) ks .normal st
   |.label _=>Hd fl K0 JL (LM fl J cut (Kq n)) ks .normal st
   |.scope b=>Kq n b ks st
   |.region id ops false=>FB C R fl ops.toList ops.toList (QG fl id st) λst=>IA fl id st λst=>Hd fl K0 JL (LM fl J cut (Kq n)) ks .normal st
   |.region id ops true=>og (TG 0 ops.toList) (ah (ML ops.toList []) λbf=>DI C R fl ops.toList bf ops.toList 0 [] (QG fl id st) λst=>IA fl id st λst=>Hd fl K0 JL (LM fl J cut (Kq n)) ks .normal st)
   |.seq a b=>Kq n a (.seq b::ks) st
   |.cond c a b=>A0i C.P c st (λst=>LM fl J cut (Kq n) a ks st) (λst=>LM fl J cut (Kq n) b ks st)
   |.block id b=>Kq n b (.blk id::ks) st
   |.loop b=>JL b ks (clean fl b st)
   |.rangeFunc g ps a b=>J (.rangeFunc g ps a b) ks st
   |.exit id=>Hd fl K0 JL (LM fl J cut (Kq n)) ks (.exit id) st
   |.ret=>Hd fl K0 JL (LM fl J cut (Kq n)) ks .ret st
   |_=>none
end
def Qt{go:Code->List Wait->St->Option X}(h:∀b ks st,go b ks st=AA C R fl b (AV C R fl K0 ks) (clean fl b st)):∀(ks:List Wait)(o:Out)(st:St),
 Hd fl K0 (PK C R fl K0) go ks o st=AV C R fl K0 ks o st
 |[],o,st=>rfl
 |.seq b::ks,o,st=>by
   cases o with
   |normal=>simp only[Hd,AV,h]
   |exit i=>simp only[Hd,AV,Qt h ks]
   |ret=>simp only[Hd,AV,Qt h ks]
 |.blk id::ks,o,st=>by
   cases o with
   |normal=>simp only[Hd,AV,Qt h ks]
   |exit i=>simp only[Hd,AV,Qt h ks]
   |ret=>simp only[Hd,AV,Qt h ks]
 |.lp b::ks,o,st=>by
   cases o with
   |normal=>simp only[Hd,AV,PK]
   |exit i=>simp only[Hd,AV,Qt h ks]
   |ret=>simp only[Hd,AV,Qt h ks]
def A5b(cut:List Nat):∀(n:Nat)(c:Code)(ks:List Wait)(st:St),Kq C R fl K0 (Pt C R fl K0) (PK C R fl K0) cut n c ks st=Pt C R fl K0 c ks st:=by
 intro n;induction n with
 |zero=>intro c ks st;rfl
 |succ n ih=>
   intro c ks st;have hs:∀b ks st,LM fl (Pt C R fl K0) cut (Kq C R fl K0 (Pt C R fl K0) (PK C R fl K0) cut n) b ks st=AA C R fl b (AV C R fl K0 ks) (clean fl b st):=by
    intro b ks st;unfold LM;split
    ·rfl
    ·rw[ih];rfl
   have hp:∀ks o st,Hd fl K0 (PK C R fl K0) (LM fl (Pt C R fl K0) cut (Kq C R fl K0 (Pt C R fl K0) (PK C R fl K0) cut n)) ks o st=AV C R fl K0 ks o st :=λks o st=>Qt C R fl K0 hs ks o st
   cases c with
   |skip=>simp only[Kq,Pt,AA,hp]
   |label l=>simp only[Kq,Pt,AA,hp]
   |scope b=>rw[Kq,ih];rfl
   |region id ops d=>cases d<;>simp only[Kq,Pt,AA,hp]
   |seq a b=>rw[Kq,ih];rfl
   |cond y a b=>simp only[Kq,Pt,AA,hs]
   |block id b=>rw[Kq,ih];rfl
   |loop b=>simp only[Kq,Pt,B2S,PK]
   |exit id=>simp only[Kq,Pt,AA,hp]
   |ret=>simp only[Kq,Pt,AA,hp]
   |_=>simp only[Kq,Pt,AA]
def sub:List Bool->Code->List Wait->Code×List Wait
 |[],c,ks=>(c,ks)
 |false::p,.seq a b,ks=>sub p a (.seq b::ks)
 |true::p,.seq _ b,ks=>sub p b ks
 |false::p,.cond _ a _,ks=>sub p a ks
 |true::p,.cond _ _ b,ks=>sub p b ks
 |_::p,.block id b,ks=>sub p b (.blk id::ks)
 |_::p,.loop b,ks=>sub p b (.lp b::ks)
 |_::p,.scope b,ks=>sub p b ks
 |_::_,c,ks=>(c,ks)
def A9R:Code->Code
 |.loop b=>b
 |c=>c
def hide{α : Type}(a : α): α := Classical.choose (⟨a,rfl⟩:∃b,b=a)
def MX{α : Type}(a : α):hide a=a:=Classical.choose_spec (⟨a,rfl⟩:∃b,b=a)
def Ua(p:List Bool)(c:Code)(st:St):Option X:=hide (Pt C R fl K0) (sub p c []).1 (sub p c []).2 st
def A4m(p:List Bool)(c:Code)(st:St):Option X:=hide (PK C R fl K0) (A9R (sub p c []).1) (sub p c []).2 st
variable {C R fl K0}{p:List Bool}{c:Code}{r:Option X}
def H7(cut:List Nat)(h:Kq C R fl K0 (hide (Pt C R fl K0)) (hide (PK C R fl K0)) cut 200 (sub p c []).1 (sub p c []).2 st=r:=by kernel_rfl):Ua C R fl K0 p c st=r:=by rw[MX,MX,A5b]at h;unfold Ua;rw[MX];exact h
theorem L8(cut:List Nat)(h:Kq C R fl K0 (hide (Pt C R fl K0)) (hide (PK C R fl K0)) cut 200 (A9R (sub p c []).1) (.lp (A9R (sub p c []).1)::(sub p c []).2) st=r:=by kernel_rfl):A4m C R fl K0 p c st=r:=by rw[MX,MX,A5b]at h;rw[<- h];unfold A4m;rw[MX];unfold PK Pt;rw[B3j];rfl
theorem A8i:Ua C R fl K0 [] c st=AA C R fl c K0 st:=by unfold Ua;rw[MX];rfl
end
section
variable {X:Type}(C:BV)(R:O7)(fl:H8)(K0:Out->St->Option X)
def nD(p:List Bool)(c:Code)(o:Out)(st:St):Option X:=hide (AV C R fl K0) (sub p c []).2 o st
def kr(I:List E5->Option X)(Xf:Out->List E5->Option X):Out->St->Option X:=λo st=>match o with
 |.normal=>I st.sg
 |.exit e=>Xf (.exit e) st.sg
 |.ret=>Xf .ret st.sg
variable {C R fl K0}
theorem B2f(cut:List Nat)(n:Nat)(b:Code)(ks:List Wait)(st:St):LM fl (Pt C R fl K0) cut (Kq C R fl K0 (Pt C R fl K0) (PK C R fl K0) cut n) b ks st=AA C R fl b (AV C R fl K0 ks) (clean fl b st):=by
 unfold LM;split
 ·rfl
 ·rw[A5b];rfl
variable {p:List Bool}{c:Code}{st:St}
def vD{o:Out}{r:Option X}(cut:List Nat)(h:Hd fl K0 (hide (PK C R fl K0)) (LM fl (hide (Pt C R fl K0)) cut (Kq C R fl K0 (hide (Pt C R fl K0)) (hide (PK C R fl K0)) cut 200)) (sub p c []).2 o st=r):nD C R fl K0 p c o st=r:=by rw[MX,MX,Qt C R fl K0 (B2f cut 200)]at h;unfold nD;rw[MX];exact h
def B67{t f i q:Nat}{ps:Array Nat}{a b:Code}{ks:List Wait}{it:List DV->Option (List DV)}(hs:sub p c []=(.rangeFunc (.tmp t) ps a b,ks))(hm:(st.get t).2=.fn f [(i,0)])(hp:ps.toList=[q])(hi:C.iter f=some it)(ha:nC a=true)(hb:CZ b=true):
 Ua C R fl K0 p c st=ob (H5 st.sg i) λcs=>ob (MJ cs) λcd=>ob (it cd) λds=>MV (λd I sg=>Ua C R fl (kr I λo sg=>nD C R fl K0 p c o (Ac st sg)) [] (.seq a b) (clean fl a (Wl st q d sg))) (λsg=>nD C R fl K0 p c .normal (Ac st sg)) ds (st.sg.set i (.arr 1 [])):=by
 unfold Ua nD;simp only[MX];rw[hs];simp only[Pt,AA,ut,hp,hm,hi,ha,hb,ob,Bool.and_self,og];have R6:∀(d:DV)(I:List E5->Option X)(sg:List E5),AA C R fl a (λo st1=>match o with
       |.normal=>AA C R fl b (λo st2=>match o with
         |.normal=>I st2.sg
         |.exit e=>AV C R fl K0 ks (.exit e) (Ac st st2.sg)
         |.ret=>AV C R fl K0 ks .ret (Ac st st2.sg)) (clean fl b st1)
       |.exit _=>none
       |.ret=>none) (clean fl a (Wl st q d sg)) =
  AA C R fl a (λo st'=>match o with
   |.normal=>AA C R fl b (AV C R fl (kr I λo sg=>AV C R fl K0 ks o (Ac st sg)) []) (clean fl b st')
   |.exit i=>AV C R fl (kr I λo sg=>AV C R fl K0 ks o (Ac st sg)) [] (.exit i) st'
   |.ret=>AV C R fl (kr I λo sg=>AV C R fl K0 ks o (Ac st sg)) [] .ret st') (clean fl a (Wl st q d sg)):=by
  intro d I sg;cases a with
  |region id ops dr=>
    cases dr with
    |false=>
      simp only[AA]
      congr 1
    |true=>simp[nC]at ha
  |skip=>
    simp only[AA]
    congr 1
  |_=>simp[nC]at ha
 congr 1;funext cs;congr 1;funext cd;congr 1;funext ds;congr 1;funext d I sg;exact R6 d I sg
def rgT:Code->Option (Nat×Nat)
 |.rangeFunc (.tmp t) ps _ _=>match ps.toList with
   |[q]=>some (t,q)
   |_=>none
 |_=>none
def rgA:Code->Code
 |.rangeFunc _ _ a _=>a
 |_=>.skip
def rgB:Code->Code
 |.rangeFunc _ _ _ b=>b
 |_=>.skip
def A8D{t f i q:Nat}{it:List DV->Option (List DV)}(hs:rgT (sub p c []).1=some (t,q))(hm:(st.get t).2=.fn f [(i,0)])(hi:C.iter f=some it)(tF:(nC (rgA (sub p c []).1)&&CZ (rgB (sub p c []).1))=true):
 Ua C R fl K0 p c st=ob (H5 st.sg i) λcs=>ob (MJ cs) λcd=>ob (it cd) λds=>MV (λd I sg=>Ua C R fl (kr I λo sg=>nD C R fl K0 p c o (Ac st sg)) [] (.seq (rgA (sub p c []).1) (rgB (sub p c []).1)) (clean fl (rgA (sub p c []).1) (Wl st q d sg))) (λsg=>nD C R fl K0 p c .normal (Ac st sg)) ds (st.sg.set i (.arr 1 [])):=by
 simp only[z5q]at tF;generalize hc:(sub p c []).1=c1 at hs tF;cases c1 with
 |rangeFunc g ps a b=>
   cases g with
   |tmp t'=>
     simp only[rgT]at hs;split at hs
     ·rename_i q' hq;simp only[D8,Prod.mk.injEq]at hs;obtain⟨rfl,rfl⟩:=hs;simp only[rgA,rgB]at tF ⊢;exact B67 (ks:=(sub p c []).2) (by rw[<- hc]) hm hq hi tF.1 tF.2
     ·cases hs
   |_=>simp[rgT]at hs
 |_=>simp[rgT]at hs
end
def oneCell(sg:List E5)(cs:List (DV×F4)):Option DV :=
 if 1=cs.length then match cs with
  |[c]=>Bn sg c
  |_=>none
 else none
def B0d(x:Option DV):Option DV:=ob (ob x λd=>ob (some []) λds=>some (d::ds)) λds=>some (pack ds)
def B3D:List (Option DV)->Option (List DV)
 |[]=>some []
 |x::xs=>ob x λd=>ob (B3D xs) λds=>some (d::ds)
end
end Go.Su

/-
 PLAIN DATA with types: the program's types, patterns, expressions, terms; how they lie as data. By program.
-/
namespace Go.Su
set_option linter.defProp false
def JB{l:List Nat}{a:Nat}(h:a∈l):a<=l.sum:=by
 induction l with
 |nil=>simp at h
 |cons x l ih=>
   rw[zsq];rcases zkq.1 h with rfl | h
   ·omega
   ·have:=ih h;omega
def Q0(l:List Int):DV:=.list 1 (l.map λn=>.int .i64 n)
def DW(l:List ByteArray):DV:=.list 1 (l.map λs=>.str s)
inductive Ty where
 |mk (E8:Int) (n:Int) (D6:List Ty)
def Ty.E8:Ty->Int | .mk x0 _ _=>x0
def Ty.n:Ty->Int | .mk _ x1 _=>x1
def Ty.D6:Ty->List Ty | .mk _ _ x2=>x2
variable (x0:Int)(x1:Int)(x2:List Ty)
@[simp] theorem Ty.JV:(Ty.mk x0 x1 x2).E8=x0:=rfl
@[simp] theorem Ty.iB:(Ty.mk x0 x1 x2).n=x1:=rfl
@[simp] theorem Ty.X0:(Ty.mk x0 x1 x2).D6=x2:=rfl
def Ty.D9:Ty->DV
 |.mk x0 x1 x2=>.agg [.int .i64 x0,.int .i64 x1,.list 3 (x2.map Ty.D9)]
variable (t:Ty)
theorem Ty.O4:t.D9=.agg [.int .i64 t.E8,.int .i64 t.n,.list 3 (t.D6.map Ty.D9)]:=by cases t;rw[Ty.D9];rfl
noncomputable instance:DecidableEq Ty:=λa b=>Classical.propDecidable (a=b)
@[simp] theorem BN:I7 3 t.D9=true:=by rw[Ty.O4];rfl
@[simp] theorem Ty.CJ:A9 0 t.D9=.int .i64 t.E8:=by rw[Ty.O4];rfl
@[simp] theorem Ty.FL:A9 1 t.D9=.int .i64 t.n:=by rw[Ty.O4];rfl
@[simp] theorem Ty.DZ:A9 2 t.D9=.list 3 (t.D6.map Ty.D9):=by rw[Ty.O4];rfl
def Ty.BD:DV.agg [.int .i64 t.E8,.int .i64 t.n,.list 3 (t.D6.map Ty.D9)]=t.D9:=(Ty.O4 t).symm
def Ty.aO{t u:Ty}:t=u↔t.E8=u.E8/\t.n=u.n/\t.D6=u.D6:=⟨λh=>by subst h;simp,λh=>by cases t;cases u;simp_all⟩
def Ty.Jk{t k:Ty}(h:k∈t.D6):SizeOf.sizeOf k<SizeOf.sizeOf t:=by cases t;simp only[Ty.X0]at h;have:=zvq h;simp only[Ty.mk.sizeOf_spec];omega
def Ty.ind{P:Ty->Prop}(h:∀t,(∀k∈t.D6,P k)->P t)(t:Ty):P t :=h t λk hk=>Ty.ind h k
termination_by SizeOf.sizeOf t
decreasing_by exact Ty.Jk hk
def Ty.size(t:Ty):Nat:=1+(t.D6.attach.map λk=>Ty.size k.1).sum
termination_by SizeOf.sizeOf t
decreasing_by exact Ty.Jk k.2
def Ty.size_eq:t.size=1+(t.D6.map Ty.size).sum:=by rw[Ty.size];congr 2;exact zCq (f:=Ty.size) ..
def Ty.FR{t k:Ty}(h:k∈t.D6):k.size<t.size:=by rw[Ty.size_eq t];have:=JB (zuq (f:=Ty.size) h);omega
def Ty.nZ:0<t.size:=by rw[Ty.size_eq];omega
def Ty.A5P:t.D6.length<t.size:=by
 rw[Ty.size_eq];have:∀l:List Ty,l.length<=(l.map Ty.size).sum:=by
  intro l;induction l with
  |nil=>simp
  |cons x l ih=>have:=Ty.nZ x;simp only[zbq,zeq,zsq];omega
 have:=this t.D6;omega
inductive F5 where
 |mk (E8:Int) (lo:Int) (hi:Int) (name:ByteArray) (n:Int) (s:ByteArray) (D6:List F5)
def F5.E8:F5->Int | .mk x0 _ _ _ _ _ _=>x0
def F5.lo:F5->Int | .mk _ x1 _ _ _ _ _=>x1
def F5.hi:F5->Int | .mk _ _ x2 _ _ _ _=>x2
def F5.name:F5->ByteArray | .mk _ _ _ x3 _ _ _=>x3
def F5.n:F5->Int | .mk _ _ _ _ x4 _ _=>x4
def F5.s:F5->ByteArray | .mk _ _ _ _ _ x5 _=>x5
def F5.D6:F5->List F5 | .mk _ _ _ _ _ _ x6=>x6
variable (x2:Int)(x3:ByteArray)(x4:Int)(x5:ByteArray)(x6:List F5)
@[simp] theorem F5.JV:(F5.mk x0 x1 x2 x3 x4 x5 x6).E8=x0:=rfl
@[simp] theorem F5.A0F:(F5.mk x0 x1 x2 x3 x4 x5 x6).lo=x1:=rfl
@[simp] theorem F5.A0C:(F5.mk x0 x1 x2 x3 x4 x5 x6).hi=x2:=rfl
@[simp] theorem F5.Zk:(F5.mk x0 x1 x2 x3 x4 x5 x6).name=x3:=rfl
@[simp] theorem F5.iB:(F5.mk x0 x1 x2 x3 x4 x5 x6).n=x4:=rfl
@[simp] theorem F5.A16:(F5.mk x0 x1 x2 x3 x4 x5 x6).s=x5:=rfl
@[simp] theorem F5.X0:(F5.mk x0 x1 x2 x3 x4 x5 x6).D6=x6:=rfl
def F5.D9:F5->DV
 |.mk x0 x1 x2 x3 x4 x5 x6=>.agg [.int .i64 x0,.int .i64 x1,.int .i64 x2,.str x3,.int .i64 x4,.str x5,.list 7 (x6.map F5.D9)]
variable (t:F5)
theorem F5.O4:t.D9=.agg [.int .i64 t.E8,.int .i64 t.lo,.int .i64 t.hi,.str t.name,.int .i64 t.n,.str t.s,.list 7 (t.D6.map F5.D9)]:=by cases t;rw[F5.D9];rfl
noncomputable instance:DecidableEq F5:=λa b=>Classical.propDecidable (a=b)
@[simp] theorem LA:I7 7 t.D9=true:=by rw[F5.O4];rfl
@[simp] theorem F5.CJ:A9 0 t.D9=.int .i64 t.E8:=by rw[F5.O4];rfl
@[simp] theorem F5.FL:A9 1 t.D9=.int .i64 t.lo:=by rw[F5.O4];rfl
@[simp] theorem F5.DZ:A9 2 t.D9=.int .i64 t.hi:=by rw[F5.O4];rfl
@[simp] theorem F5.L_:A9 3 t.D9=.str t.name:=by rw[F5.O4];rfl
@[simp] theorem F5.ed:A9 4 t.D9=.int .i64 t.n:=by rw[F5.O4];rfl
@[simp] theorem F5.vL:A9 5 t.D9=.str t.s:=by rw[F5.O4];rfl
@[simp] theorem F5.nQ:A9 6 t.D9=.list 7 (t.D6.map F5.D9):=by rw[F5.O4];rfl
def F5.BD:DV.agg [.int .i64 t.E8,.int .i64 t.lo,.int .i64 t.hi,.str t.name,.int .i64 t.n,.str t.s,.list 7 (t.D6.map F5.D9)]=t.D9:=(F5.O4 t).symm
def F5.Jk{t k:F5}(h:k∈t.D6):SizeOf.sizeOf k<SizeOf.sizeOf t:=by cases t;simp only[F5.X0]at h;have:=zvq h;simp only[F5.mk.sizeOf_spec];omega
def F5.ind{P:F5->Prop}(h:∀t,(∀k∈t.D6,P k)->P t)(t:F5):P t :=h t λk hk=>F5.ind h k
termination_by SizeOf.sizeOf t
decreasing_by exact F5.Jk hk
def F5.size(t:F5):Nat:=1+(t.D6.attach.map λk=>F5.size k.1).sum
termination_by SizeOf.sizeOf t
decreasing_by exact F5.Jk k.2
def F5.size_eq:t.size=1+(t.D6.map F5.size).sum:=by rw[F5.size];congr 2;exact zCq (f:=F5.size) ..
def F5.FR{t k:F5}(h:k∈t.D6):k.size<t.size:=by rw[F5.size_eq t];have:=JB (zuq (f:=F5.size) h);omega
def F5.nZ:0<t.size:=by rw[F5.size_eq];omega
def F5.A5P:t.D6.length<t.size:=by
 rw[F5.size_eq];have:∀l:List F5,l.length<=(l.map F5.size).sum:=by
  intro l;induction l with
  |nil=>simp
  |cons x l ih=>have:=F5.nZ x;simp only[zbq,zeq,zsq];omega
 have:=this t.D6;omega
def F5.Y0(t:F5):Nat:=1+t.name.size+t.s.size+(t.D6.attach.map λk=>F5.Y0 k.1).sum
termination_by SizeOf.sizeOf t
decreasing_by exact F5.Jk k.2
def F5.CF:t.Y0=1+t.name.size+t.s.size+(t.D6.map F5.Y0).sum:=by rw[F5.Y0];congr 2;exact zCq (f:=F5.Y0) ..
def F5.yU:0<t.Y0:=by rw[F5.CF];omega
def F5.bJ{t k:F5}(h:k∈t.D6):k.Y0<t.Y0:=by rw[F5.CF t];have:=JB (zuq (f:=F5.Y0) h);omega
def F5.uA:t.name.size<t.Y0:=by rw[F5.CF];omega
def F5.A50:t.s.size<t.Y0:=by rw[F5.CF];omega
inductive Ex where
 |mk (E8:Int) (lo:Int) (hi:Int) (name:ByteArray) (arg:ByteArray) (n:Int) (s:ByteArray) (op:Int) (a:Ty) (b:Ty) (J8:List F5) (D6:List Ex)
def Ex.E8:Ex->Int | .mk x0 _ _ _ _ _ _ _ _ _ _ _=>x0
def Ex.lo:Ex->Int | .mk _ x1 _ _ _ _ _ _ _ _ _ _=>x1
def Ex.hi:Ex->Int | .mk _ _ x2 _ _ _ _ _ _ _ _ _=>x2
def Ex.name:Ex->ByteArray | .mk _ _ _ x3 _ _ _ _ _ _ _ _=>x3
def Ex.arg:Ex->ByteArray | .mk _ _ _ _ x4 _ _ _ _ _ _ _=>x4
def Ex.n:Ex->Int | .mk _ _ _ _ _ x5 _ _ _ _ _ _=>x5
def Ex.s:Ex->ByteArray | .mk _ _ _ _ _ _ x6 _ _ _ _ _=>x6
def Ex.op:Ex->Int | .mk _ _ _ _ _ _ _ x7 _ _ _ _=>x7
def Ex.a:Ex->Ty | .mk _ _ _ _ _ _ _ _ x8 _ _ _=>x8
def Ex.b:Ex->Ty | .mk _ _ _ _ _ _ _ _ _ x9 _ _=>x9
def Ex.J8:Ex->List F5 | .mk _ _ _ _ _ _ _ _ _ _ x10 _=>x10
def Ex.D6:Ex->List Ex | .mk _ _ _ _ _ _ _ _ _ _ _ x11=>x11
variable (x4:ByteArray)(x5:Int)(x6:ByteArray)(x7:Int)(x8:Ty)(x9:Ty)(x10:List F5)(x11:List Ex)
@[simp] theorem Ex.JV:(Ex.mk x0 x1 x2 x3 x4 x5 x6 x7 x8 x9 x10 x11).E8=x0:=rfl
@[simp] theorem Ex.A0F:(Ex.mk x0 x1 x2 x3 x4 x5 x6 x7 x8 x9 x10 x11).lo=x1:=rfl
@[simp] theorem Ex.A0C:(Ex.mk x0 x1 x2 x3 x4 x5 x6 x7 x8 x9 x10 x11).hi=x2:=rfl
@[simp] theorem Ex.Zk:(Ex.mk x0 x1 x2 x3 x4 x5 x6 x7 x8 x9 x10 x11).name=x3:=rfl
@[simp] theorem Ex.A4D:(Ex.mk x0 x1 x2 x3 x4 x5 x6 x7 x8 x9 x10 x11).arg=x4:=rfl
@[simp] theorem Ex.iB:(Ex.mk x0 x1 x2 x3 x4 x5 x6 x7 x8 x9 x10 x11).n=x5:=rfl
@[simp] theorem Ex.A16:(Ex.mk x0 x1 x2 x3 x4 x5 x6 x7 x8 x9 x10 x11).s=x6:=rfl
@[simp] theorem Ex.A93:(Ex.mk x0 x1 x2 x3 x4 x5 x6 x7 x8 x9 x10 x11).op=x7:=rfl
@[simp] theorem Ex.B2s:(Ex.mk x0 x1 x2 x3 x4 x5 x6 x7 x8 x9 x10 x11).a=x8:=rfl
@[simp] theorem Ex.B2D:(Ex.mk x0 x1 x2 x3 x4 x5 x6 x7 x8 x9 x10 x11).b=x9:=rfl
@[simp] theorem Ex.A1Z:(Ex.mk x0 x1 x2 x3 x4 x5 x6 x7 x8 x9 x10 x11).J8=x10:=rfl
@[simp] theorem Ex.X0:(Ex.mk x0 x1 x2 x3 x4 x5 x6 x7 x8 x9 x10 x11).D6=x11:=rfl
def Ex.D9:Ex->DV
 |.mk x0 x1 x2 x3 x4 x5 x6 x7 x8 x9 x10 x11=>.agg [.int .i64 x0,.int .i64 x1,.int .i64 x2,.str x3,.str x4,.int .i64 x5,.str x6,.int .i64 x7,.int .i64 x8.E8,.int .i64 x8.n,.list 3 (x8.D6.map Ty.D9),.int .i64 x9.E8,.int .i64 x9.n,.list 3 (x9.D6.map Ty.D9),.list 7 (x10.map F5.D9),.list 16 (x11.map Ex.D9)]
variable (t:Ex)
theorem Ex.O4:t.D9=.agg [.int .i64 t.E8,.int .i64 t.lo,.int .i64 t.hi,.str t.name,.str t.arg,.int .i64 t.n,.str t.s,.int .i64 t.op,.int .i64 t.a.E8,.int .i64 t.a.n,.list 3 (t.a.D6.map Ty.D9),.int .i64 t.b.E8,.int .i64 t.b.n,.list 3 (t.b.D6.map Ty.D9),.list 7 (t.J8.map F5.D9),.list 16 (t.D6.map Ex.D9)]:=by cases t;rw[Ex.D9];rfl
noncomputable instance:DecidableEq Ex:=λa b=>Classical.propDecidable (a=b)
@[simp] theorem AJ:I7 16 t.D9=true:=by rw[Ex.O4];rfl
@[simp] theorem Ex.CJ:A9 0 t.D9=.int .i64 t.E8:=by rw[Ex.O4];rfl
@[simp] theorem Ex.FL:A9 1 t.D9=.int .i64 t.lo:=by rw[Ex.O4];rfl
@[simp] theorem Ex.DZ:A9 2 t.D9=.int .i64 t.hi:=by rw[Ex.O4];rfl
@[simp] theorem Ex.L_:A9 3 t.D9=.str t.name:=by rw[Ex.O4];rfl
@[simp] theorem Ex.ed:A9 4 t.D9=.str t.arg:=by rw[Ex.O4];rfl
@[simp] theorem Ex.vL:A9 5 t.D9=.int .i64 t.n:=by rw[Ex.O4];rfl
@[simp] theorem Ex.nQ:A9 6 t.D9=.str t.s:=by rw[Ex.O4];rfl
@[simp] theorem Ex.A96:A9 7 t.D9=.int .i64 t.op:=by rw[Ex.O4];rfl
@[simp] theorem Ex.A97:A9 8 t.D9=.int .i64 t.a.E8:=by rw[Ex.O4];rfl
@[simp] theorem Ex.B4o:A9 9 t.D9=.int .i64 t.a.n:=by rw[Ex.O4];rfl
@[simp] theorem Ex.B1L:A9 10 t.D9=.list 3 (t.a.D6.map Ty.D9):=by rw[Ex.O4];rfl
@[simp] theorem Ex.B1M:A9 11 t.D9=.int .i64 t.b.E8:=by rw[Ex.O4];rfl
@[simp] theorem Ex.B1N:A9 12 t.D9=.int .i64 t.b.n:=by rw[Ex.O4];rfl
@[simp] theorem Ex.B1O:A9 13 t.D9=.list 3 (t.b.D6.map Ty.D9):=by rw[Ex.O4];rfl
@[simp] theorem Ex.A0T:A9 14 t.D9=.list 7 (t.J8.map F5.D9):=by rw[Ex.O4];rfl
@[simp] theorem Ex.A6h:A9 15 t.D9=.list 16 (t.D6.map Ex.D9):=by rw[Ex.O4];rfl
def Ex.BD:DV.agg [.int .i64 t.E8,.int .i64 t.lo,.int .i64 t.hi,.str t.name,.str t.arg,.int .i64 t.n,.str t.s,.int .i64 t.op,.int .i64 t.a.E8,.int .i64 t.a.n,.list 3 (t.a.D6.map Ty.D9),.int .i64 t.b.E8,.int .i64 t.b.n,.list 3 (t.b.D6.map Ty.D9),.list 7 (t.J8.map F5.D9),.list 16 (t.D6.map Ex.D9)]=t.D9:=(Ex.O4 t).symm
def Ex.Jk{t k:Ex}(h:k∈t.D6):SizeOf.sizeOf k<SizeOf.sizeOf t:=by cases t;simp only[Ex.X0]at h;have:=zvq h;simp only[Ex.mk.sizeOf_spec];omega
def Ex.ind{P:Ex->Prop}(h:∀t,(∀k∈t.D6,P k)->P t)(t:Ex):P t :=h t λk hk=>Ex.ind h k
termination_by SizeOf.sizeOf t
decreasing_by exact Ex.Jk hk
def Ex.size(t:Ex):Nat:=1+(t.D6.attach.map λk=>Ex.size k.1).sum
termination_by SizeOf.sizeOf t
decreasing_by exact Ex.Jk k.2
def Ex.size_eq:t.size=1+(t.D6.map Ex.size).sum:=by rw[Ex.size];congr 2;exact zCq (f:=Ex.size) ..
def Ex.FR{t k:Ex}(h:k∈t.D6):k.size<t.size:=by rw[Ex.size_eq t];have:=JB (zuq (f:=Ex.size) h);omega
def Ex.Y0(t:Ex):Nat:=1+t.name.size+t.arg.size+t.s.size+t.a.size+t.b.size+(t.J8.map F5.Y0).sum+(t.D6.attach.map λk=>Ex.Y0 k.1).sum
termination_by SizeOf.sizeOf t
decreasing_by exact Ex.Jk k.2
def Ex.CF:t.Y0=1+t.name.size+t.arg.size+t.s.size+t.a.size+t.b.size+(t.J8.map F5.Y0).sum+(t.D6.map Ex.Y0).sum:=by rw[Ex.Y0];congr 2;exact zCq (f:=Ex.Y0) ..
def Ex.yU:0<t.Y0:=by rw[Ex.CF];omega
def Ex.bJ{t k:Ex}(h:k∈t.D6):k.Y0<t.Y0:=by rw[Ex.CF t];have:=JB (zuq (f:=Ex.Y0) h);omega
def Ex.A5Z:t.D6.length<t.Y0:=by
 rw[Ex.CF];have:∀l:List Ex,l.length<=(l.map Ex.Y0).sum:=by
  intro l;induction l with
  |nil=>simp
  |cons x l ih=>have:=Ex.yU x;simp only[zbq,zeq,zsq];omega
 have:=this t.D6;omega
def Ex.uA:t.name.size<t.Y0:=by rw[Ex.CF];omega
def Ex.B3m:t.arg.size<t.Y0:=by rw[Ex.CF];omega
def Ex.A50:t.s.size<t.Y0:=by rw[Ex.CF];omega
def Ex.A5X:t.a.size<t.Y0:=by rw[Ex.CF];omega
def Ex.A5Y:t.b.size<t.Y0:=by rw[Ex.CF];omega
def Ex.uB:(t.J8.map F5.Y0).sum<t.Y0:=by rw[Ex.CF];omega
inductive Tm where
 |mk (E8:Int) (lo:Int) (hi:Int) (name:ByteArray) (arg:ByteArray) (n:Int) (s:ByteArray) (op:Int) (label:Int) (neg:Bool) (vars:List Int) (a:Ty) (b:Ty) (args:List Ty) (J8:List F5) (D6:List Tm)
noncomputable instance:DecidableEq Tm:=λa b=>Classical.propDecidable (a=b)
inductive J6 where
 |mk (types:List Ty) (vars:List Int) (D6:List J6)
def J6.types:J6->List Ty | .mk x0 _ _=>x0
def J6.vars:J6->List Int | .mk _ x1 _=>x1
def J6.D6:J6->List J6 | .mk _ _ x2=>x2
variable (x0:List Ty)(x1:List Int)(x2:List J6)
@[simp] theorem J6.zF:(J6.mk x0 x1 x2).types=x0:=rfl
@[simp] theorem J6.A8W:(J6.mk x0 x1 x2).vars=x1:=rfl
@[simp] theorem J6.X0:(J6.mk x0 x1 x2).D6=x2:=rfl
def J6.D9:J6->DV
 |.mk x0 x1 x2=>.agg [.list 3 (x0.map Ty.D9),Q0 x1,.list 3 (x2.map J6.D9)]
variable (t:J6)
theorem J6.O4:t.D9=.agg [.list 3 (t.types.map Ty.D9),Q0 t.vars,.list 3 (t.D6.map J6.D9)]:=by cases t;rw[J6.D9];rfl
noncomputable instance:DecidableEq J6:=λa b=>Classical.propDecidable (a=b)
@[simp] theorem Jj:I7 3 t.D9=true:=by rw[J6.O4];rfl
@[simp] theorem J6.CJ:A9 0 t.D9=.list 3 (t.types.map Ty.D9):=by rw[J6.O4];rfl
@[simp] theorem J6.FL:A9 1 t.D9=Q0 t.vars:=by rw[J6.O4];rfl
@[simp] theorem J6.DZ:A9 2 t.D9=.list 3 (t.D6.map J6.D9):=by rw[J6.O4];rfl
def J6.BD:DV.agg [.list 3 (t.types.map Ty.D9),Q0 t.vars,.list 3 (t.D6.map J6.D9)]=t.D9:=(J6.O4 t).symm
def J6.aO{t u:J6}:t=u↔t.types=u.types/\t.vars=u.vars/\t.D6=u.D6:=⟨λh=>by subst h;simp,λh=>by cases t;cases u;simp_all⟩
def J6.Jk{t k:J6}(h:k∈t.D6):SizeOf.sizeOf k<SizeOf.sizeOf t:=by cases t;simp only[J6.X0]at h;have:=zvq h;simp only[J6.mk.sizeOf_spec];omega
def J6.ind{P:J6->Prop}(h:∀t,(∀k∈t.D6,P k)->P t)(t:J6):P t :=h t λk hk=>J6.ind h k
termination_by SizeOf.sizeOf t
decreasing_by exact J6.Jk hk
inductive B2r where
 |mk (E8:Int) (head:Int) (label:Int) (neg:Bool) (D6:List B2r)
noncomputable instance:DecidableEq B2r:=λa b=>Classical.propDecidable (a=b)
inductive Val where
 |mk (E8:Int) (n:Int) (s:ByteArray) (c:B2r) (D6:List Val)
noncomputable instance:DecidableEq Val:=λa b=>Classical.propDecidable (a=b)
@[simp] theorem Ty.ag(t:Ty):Cv t.D9=t.D9:=by rw[Ty.O4];rfl
@[simp] theorem J6.ag:Cv t.D9=t.D9:=by rw[J6.O4];rfl
@[simp] theorem F5.ag(t:F5):TD t.D9=t.D9:=by rw[F5.O4];rfl
@[simp] theorem Ex.ag(t:Ex):X4 t.D9=t.D9:=by rw[Ex.O4];rfl
def Ex.pj(t:Ex):A9 0 t.D9=.int .i64 t.E8/\A9 1 t.D9=.int .i64 t.lo/\A9 2 t.D9=.int .i64 t.hi/\A9 3 t.D9=.str t.name/\A9 4 t.D9=.str t.arg/\A9 5 t.D9=.int .i64 t.n/\A9 6 t.D9=.str t.s/\A9 7 t.D9=.int .i64 t.op/\A9 8 t.D9=.int .i64 t.a.E8/\A9 9 t.D9=.int .i64 t.a.n/\A9 10 t.D9=.list 3 (t.a.D6.map Ty.D9)/\A9 11 t.D9=.int .i64 t.b.E8/\A9 12 t.D9=.int .i64 t.b.n/\A9 13 t.D9=.list 3 (t.b.D6.map Ty.D9)/\A9 14 t.D9=.list 7 (t.J8.map F5.D9)/\A9 15 t.D9=.list 16 (t.D6.map Ex.D9):=⟨t.CJ,t.FL,t.DZ,t.L_,t.ed,t.vL,t.nQ,t.A96,t.A97,t.B4o,t.B1L,t.B1M,t.B1N,t.B1O,t.A0T,t.A6h⟩
def F5.pj(t:F5):A9 0 t.D9=.int .i64 t.E8/\A9 1 t.D9=.int .i64 t.lo/\A9 2 t.D9=.int .i64 t.hi/\A9 3 t.D9=.str t.name/\A9 4 t.D9=.int .i64 t.n/\A9 5 t.D9=.str t.s/\A9 6 t.D9=.list 7 (t.D6.map F5.D9):=⟨t.CJ,t.FL,t.DZ,t.L_,t.ed,t.vL,t.nQ⟩
end Go.Su

/-
 PLAIN DATA: what the data's operations make of numbers, texts, lists.
-/
namespace Go.Su
set_option linter.defProp false
variable {α : Type}{β : Type}
@[simp] theorem M4(a : α)(f : α->Option β):ob (some a) f=f a:=rfl
@[simp] theorem B8T(f : α->Option β):ob none f=none:=rfl
@[simp] theorem F8(x:Option β):og true x=x:=rfl
@[simp] theorem B8k(x:Option β):og false x=none:=rfl
@[simp] theorem F3(b:Bool)(x y:Option β):G9 (.bool b) x y=if b=true then x else y:=by cases b<;>rfl
@[simp] theorem Q4(b:Bool)(x y z:Option β):M7 (.bool b) x y z=if b=true then x else y:=by cases b<;>rfl
variable (sz:Nat)(ds:List DV)
@[simp] theorem Gz:O3 (.list sz ds)=some (.int .i64 ds.length):=rfl
variable (l:List Int)
@[simp] def B04:O3 (Q0 l)=some (.int .i64 l.length):=by simp[Q0]
variable (l:List ByteArray)
@[simp] def B8f:O3 (DW l)=some (.int .i64 l.length):=by simp[DW]
@[simp] theorem A9i:A4h (.list sz ds)=some (sz,ds):=rfl
variable (s:ByteArray)
@[simp] theorem FY:Er (.str s)=some (.int .i64 s.size):=rfl
variable (k:IntKind)
@[simp] theorem BJ(a b:Int):D7 .eql (.int k a) (.int k b)=some (.bool (decide (a=b))):=by simp only[D7,KT,MO,F6];rfl
@[simp] theorem Dm(a b:Int):D7 .neq (.int k a) (.int k b)=some (.bool (!decide (a=b))):=by simp only[D7,KT,MO,F6];rfl
@[simp] def GD(a b:Int):D7 .lss (.int k a) (.int k b)=some (.bool (decide (a<b))):=by simp only[D7,KT,MO,F6]
@[simp] def NL(a b:Int):D7 .leq (.int k a) (.int k b)=some (.bool (decide (a<=b))):=by simp only[D7,KT,MO,F6]
@[simp] def EQ(a b:Int):D7 .gtr (.int k a) (.int k b)=some (.bool (decide (b<a))):=by simp only[D7,KT,MO,F6,gt_iff_lt]
@[simp] def WI(a b:Int):D7 .geq (.int k a) (.int k b)=some (.bool (decide (b<=a))):=by simp only[D7,KT,MO,F6,ge_iff_le]
def lK(a b:Int):D7 .add (.int k a) (.int k b)=some (.int k (k.wrap (a+b))):=by simp only[D7,KT,MO,F6]
def Je(a b:Int):D7 .sub (.int k a) (.int k b)=some (.int k (k.wrap (a-b))):=by simp only[D7,KT,MO,F6]
def GX{n:Int}(h1 : -9223372036854775808<=n)(h2:n<=9223372036854775807):IntKind.i64.wrap n=n:=Go.IntWalk.i64_in n ⟨h1,h2⟩
def WH{a b:Int}(h1 : -9223372036854775808<=a+b)(h2:a+b<=9223372036854775807):D7 .add (.int .i64 a) (.int .i64 b)=some (.int .i64 (a+b)):=by rw[lK,GX h1 h2]
variable {i:Nat}
def Co(h:i<9223372036854775807):D7 .add (.int .i64 (i:Int)) (.int .i64 1)=some (.int .i64 ((i+1:Nat):Int)):=by rw[WH (by omega) (by omega)];simp
variable {c:Prop}
theorem B6G[Decidable c]{a b:Bool}:(if c then some (DV.bool a)else some (DV.bool b))=some (DV.bool (if c then a else b)):=by split<;>rfl
theorem B1o[Decidable c]{a b:Bool}:(if c then DV.bool a else DV.bool b)=DV.bool (if c then a else b):=by split<;>rfl
theorem B7Y[Decidable c]{a b:DV}:(if c then some a else some b)=some (if c then a else b):=by split<;>rfl
def B7f{a b:Bool}(h:a=true↔b=true):some (DV.bool a)=some (DV.bool b):=by rw[y4q.2 h]
def rO:s.toList=s.data.toList:=by
 have loop:∀(n i:Nat)(r:List UInt8),s.size-i=n->ByteArray.toList.loop s i r=r.reverse++s.data.toList.drop i:=by
  intro n;induction n with
  |zero=>
    intro i r h;rw[ByteArray.toList.loop,A7 (by omega)];have:s.data.toList.length<=i:=by simp only[zRq];exact Nat.le_of_sub_eq_zero h
    simp[zYq this]
  |succ n ih=>
    intro i r h;have hi:i<s.size:=by omega
    rw[ByteArray.toList.loop,C8 hi,ih (i+1) _ (by omega)];have hl:i<s.data.toList.length:=by simpa using hi
    rw[zpq hl];have:s.get! i=s.data.toList[i]:=by simp only[ByteArray.get!,y8q];exact getElem!_pos s.data i hi
    rw[this];simp
 rw[ByteArray.toList,loop _ 0 [] rfl];simp
def A2t{a b:ByteArray}(h:a.toList=b.toList):a=b:=by rw[rO,rO]at h;cases a;cases b;simp only[ByteArray.mk.injEq];exact Array.ext' h
def rJ(a b:ByteArray):(a.toList==b.toList)=decide (a=b):=by
 by_cases h:a=b
 ·subst h;simp
 ·have:a.toList≠b.toList:=λh'=>h (A2t h');simp[h,this]
@[simp] def rT(a b:ByteArray):D7 .eql (.str a) (.str b)=some (.bool (decide (a=b))):=by simp only[D7,iy];rw[rJ]
@[simp] def TF(a b:ByteArray):D7 .neq (.str a) (.str b)=some (.bool (!decide (a=b))):=by simp only[D7,iy];rw[rJ]
@[simp] theorem B8e(a b:Bool):A9f (.bool a) (.bool b)=some (a==b):=rfl
@[simp] theorem U1(b:Bool):j5 .not (.bool b)=some (.bool !b):=rfl
variable (n:Int)
@[simp] theorem Qm:J3 (.int k n)=true:=rfl
@[simp] theorem B7y(b:Bool):J3 (.bool b)=true:=rfl
@[simp] theorem U_:J3 (.str s)=true:=rfl
@[simp] theorem XC:J3 (.list sz ds)=true:=rfl
@[simp] theorem B7z(l:List Int):J3 (Q0 l)=true:=rfl
@[simp] theorem B7A:J3 (DW l)=true:=rfl
@[simp] theorem ZM:M8 (.int k n)=true:=rfl
@[simp] theorem A9M:M8 (.str s)=true:=rfl
@[simp] theorem B8g:AB false (.int .i64 n)=true:=rfl
@[simp] theorem B1n:AB true (.str s)=true:=rfl
def B02(i:Nat):M9 sz (.list sz ds) (.int k (i:Int))=ds[i]?:=by simp[M9]
variable {k:IntKind}
theorem V5{e : α->DV}{sz:Nat}{l:List α}(h:i<l.length):M9 sz (.list sz (l.map e)) (.int k (i:Int))=some (e l[i]):=by rw[B02,zhq,z3q h];rfl
def dM{l:List Int}(h:i<l.length):M9 1 (Q0 l) (.int k (i:Int))=some (.int .i64 l[i]):=V5 h
def A2A{l:List ByteArray}(h:i<l.length):M9 1 (DW l) (.int k (i:Int))=some (.str l[i]):=V5 h
def Kn{sz:Nat}{a b:List DV}(h:a.length+b.length<=R9):EP sz (.list sz a) (.list sz b)=some (.list sz (a++b)):=by simp[EP,h]
def A2U{A X:Type}{l:List α}{P:Int->A->Option X}{I:Nat->A->Prop}{F:List α->A->Option X}(stop:∀a,I l.length a->P l.length a=F [] a)(step:∀(i:Nat)(h:i<l.length) a,I i a->(∀a',I (i+1) a'->P ((i:Int)+1) a'=F (l.drop (i+1)) a')->P i a=F (l[i]::l.drop (i+1)) a):
 ∀a,I 0 a->P 0 a=F l a:=by
 have key:∀(n i:Nat) a,i+n=l.length->I i a->P i a=F (l.drop i) a:=by
  intro n;induction n with
  |zero=>
    intro i a hi ha;have:i=l.length:=by omega
    subst this;rw[stop a ha,zZq]
  |succ n ih=>
    intro i a hi ha;have h:i<l.length:=by omega
    rw[zpq h];refine step i h a ha λa' ha'=>?_;have:=ih (i+1) a' (by omega) ha';push_cast at this;exact this
 intro a ha;have:=key l.length 0 a (by omega) ha;simpa using this
def bG{X:Type}{l:List α}{P:Int->Option X}{f : α->Bool}{y n:X}(stop:P l.length=some y)(step:∀(i:Nat)(h:i<l.length),P i=if f l[i]=true then P ((i:Int)+1)else some n):P 0=some (if l.all f=true then y else n):=by
 have:=A2U (l:=l) (P:=λi (_:Unit)=>P i) (I:=λ_ _=>True) (F:=λl _=>some (if l.all f=true then y else n)) (λ_ _=>by simpa using stop)
  (λi h a _ ih=>by
    rw[step i h];have h2:=ih () trivial;rw[h2];simp only[yiq,z5q]
    by_cases h3:f l[i]=true<;>simp[h3]) () trivial
 exact this
theorem A2V{A X:Type}{l:List α}{P:Int->A->Option X}{g:A -> α->A}{fin:A->Option X}{I:Nat->A->Prop}(stop:∀a,I l.length a->P l.length a=fin a)(step:∀(i:Nat)(h:i<l.length) a,I i a->P i a=P ((i:Int)+1) (g a l[i])/\I (i+1) (g a l[i])):∀a,I 0 a->P 0 a=fin (l.foldl g a):=by refine A2U (F:=λl a=>fin (l.foldl g a)) (λa ha=>by simpa using stop a ha) λi h a ha ih=>?_;obtain⟨h1,h2⟩:=step i h a ha;rw[h1,ih _ h2];rfl
def bH{X:Type}[DecidableEq α]{l m:List α}(hl:l.length=m.length){P:Int->Option X}{y n:X}(stop:P l.length=some y)(step:∀(i:Nat)(h:i<l.length),P i=if l[i]=m[i]'(by omega)then P ((i:Int)+1)else some n):P 0=some (if l=m then y else n):=by
 have key:∀(k i:Nat),i+k=l.length->P i=some (if l.drop i=m.drop i then y else n):=by
  intro k;induction k with
  |zero=>
    intro i hi;have:i=l.length:=by omega
    subst this;rw[stop,zZq,zYq (by omega),C8 rfl]
  |succ k ih=>
    intro i hi;have h:i<l.length:=by omega
    have h':i<m.length:=by omega
    have h2:=ih (i+1) (by omega);push_cast at h2;have e1:l.drop i=l[i]::l.drop (i+1):=zpq h;have e2:m.drop i=m[i]::m.drop (i+1):=zpq h';have e3:(l.drop i=m.drop i)↔(l[i]=m[i]/\l.drop (i+1)=m.drop (i+1)):=by rw[e1,e2,List.cons.injEq]
    rw[step i h,h2];by_cases h3:l[i]=m[i]<;>by_cases h4:l.drop (i+1)=m.drop (i+1)<;>simp only[e3,h3,h4,true_and,and_true,false_and,and_false,F6,G8]
 have:=key l.length 0 (by omega);simpa using this
theorem Xy{l:List α}{P:Int->Option DV}{f : α->Bool}(stop:P l.length=some (.bool true))(step:∀(i:Nat)(h:i<l.length),P i=if f l[i]=true then P ((i:Int)+1)else some (.bool false)):P 0=some (.bool (l.all f)):=by rw[bG stop step];cases l.all f<;>rfl
theorem B1y{l:List α}{P:Int->Option DV}{f : α->Bool}(stop:P l.length=some (.bool false))(step:∀(i:Nat)(h:i<l.length),P i=if f l[i]=true then some (.bool true)else P ((i:Int)+1)):P 0=some (.bool (l.any f)):=by have:=bG (l:=l) (P:=P) (f:=λx=> !f x) (y:=.bool false) (n:=.bool true) stop (λi h=>by rw[step i h];cases f l[i]<;>rfl);rw[this,show l.any f=!l.all (λx=> !f x)by rw[List.all_eq_not_any_not];simp];cases l.all (λx=> !f x)<;>rfl
end Go.Su

/-
 FROM A READING TO DATA: what an argument reads as lies in memory as plain data.
-/
namespace Go.Su
set_option linter.defProp false
mutual
def BP{H:Type}:DataW H->Nat
 |.lit (.string bytes)=>bytes.length+1
 |.lit _=>1
 |.nil=>1
 |.ptr d=>BP d+1
 |.slice elems spare=>JR elems+JR spare+1
 |.agg parts=>JR parts+1
 |.iface _ d=>BP d+1
 |.map entries=>Rh entries+1
 |.held _=>1
def JR{H:Type}:List (DataW H)->Nat
 |[]=>0
 |d::r=>BP d+JR r
def Rh{H:Type}:List (Lit×DataW H)->Nat
 |[]=>0
 |x::r=>rH x+Rh r
def rH{H:Type}:Lit×DataW H->Nat
 | (.string bytes,d)=>bytes.length+BP d+1
 | (_,d)=>BP d+1
end
variable (w:World)
def iM:AU:=λb _=>b<w.heap.size
section
variable {H:Type}{D9:TypeId×Value->H}{P:Program}{w:World}{held:Bool}
abbrev Rd(D9:TypeId×Value->H)(P:Program)(w:World)(held:Bool):Nat->TypeId->List Value->Option (DataW H×List MemPlace):=DataW.trod D9 P w 0 (λ_=>true) held
def A88{l:List (DataW H)}{m:List Nat}(h1:m.length=l.length)(h2:∀(i:Nat)(a:Nat)(d:DataW H),m[i]?=some a->l[i]?=some d->a<=BP d):m.sum<=JR l:=by
 induction l generalizing m with
 |nil=>cases m<;>simp_all
 |cons d l ih=>
   cases m with
   |nil=>simp at h1
   |cons a m=>simp only[zsq,JR];have h3:=h2 0 a d rfl rfl;have h4:=ih (m:=m) (by simpa using h1) λi a d ha hd=>h2 (i+1) a d (by simpa using ha) (by simpa using hd);omega
theorem add_block(a:Addr)(k:Nat):(a.add k).block=a.block:=by unfold Addr.add;split<;>rfl
def B4B(a:Addr)(k:Nat):(a.add k).off=a.off+k:=by unfold Addr.add;split<;>simp_all
variable {cs:List Value}
def A6r{a:Addr}{n:Nat}(h:w.cells? 0 a n=some cs)(hn:0<n):a.spot=none/\cs.length=n/\At (iM w) w.heap a.block a.off cs:=by
 obtain⟨-,hl,hc⟩:=World.cells?_some h;have hs:a.spot=none:=by
  have h0:=hc 0 hn;have:cs[0]?=some (cs[0]'(by omega)):=z3q (by omega);rw[this]at h0;unfold World.cell? at h0;split at h0
  ·split at h0
   ·cases h0
   ·rename_i hsp;simpa[Addr.add]using hsp
  ·cases h0
 refine⟨hs,hl,λj v hv=>?_⟩;have hj:j<n:=by rw[<- hl];exact(z0q.1 hv).1
 have h1:=hc j hj;have e:a.add j=⟨a.block,a.off+j,none⟩:=by
  unfold Addr.add;split
  ·rename_i h0;cases a;simp only at hs;subst hs;simp[h0]
  ·rfl
 rw[e,MM,hv]at h1;refine⟨h1,?_⟩;unfold Su.hc at h1;split at h1
 ·rename_i hb;exact(z1q.1 hb).1
 ·cases h1
variable {t:TypeId}{fuel:Nat}{x:DataW H×List MemPlace}
def nR{α : Type}{e : α->DV}{sz : α->Nat}{el:TypeId}(ht:P.underlying t=some (.slice el))(hz:0<P.cellsOf el)(h:∀n cs x,n<fuel->Rd D9 P w held n el cs=some x->∃a : α,RC (iM w) w.heap (e a) cs/\sz a<=BP x.1)(hr:Rd D9 P w held fuel t cs=some x):
 ∃l:List α,RC (iM w) w.heap (.list (P.cellsOf el) (l.map e)) cs/\(l.map sz).sum+1<=BP x.1:=by
 rcases DataW.trod_slice ht hr with⟨rfl,rfl⟩ | ⟨a,len,cap,elems,rest,n,rfl,rfl,rfl,hb,hlc,hcm,xI,hi,hsp,-⟩
 ·refine⟨[],?_,by simp[BP]⟩;simp only[RC,zUq];exact⟨none,0,0,rfl,rfl,z8q _,λ_=>rfl,by simp,by simp⟩
 ·have each:∀i:Fin len,∃y : α,((i.1=0->a.spot=none)/\Elem (iM w) w.heap (P.cellsOf el) a.block (a.off+i.1 * P.cellsOf el) (e y))/\∀d,(elems.map (·.1))[i.1]?=some d->sz y<=BP d:=by intro i;have h1:=hi i.1 i.2;have h2:elems[i.1]?=some (elems[i.1]'(by omega)):=z3q (by omega);rw[h2]at h1;obtain⟨cs',h3,h4⟩:=y1q.1 h1;obtain⟨y,h5,h6⟩:=h n cs' _ (Nat.lt_succ_self n) h4;obtain⟨q1,q2,q3⟩:=A6r h3 hz;rw[add_block,B4B]at q3;refine⟨y,⟨λh0=>by rw[h0]at q1;simpa[Addr.add]using q1,cs',q2,q3,h5⟩,λd hd=>?_⟩;rw[zhq,h2]at hd;simp only[zgq,D8]at hd;rw[<- hd];exact h6
  let f:Fin len -> α := λi=>(each i).choose
  have hf:=λi:Fin len=>(each i).choose_spec;refine⟨List.ofFn f,?_,?_⟩
  ·simp only[RC]
   refine⟨some a,len,cap,rfl,by simp,hlc,by simp,λ_=>hz,λy hy=>?_⟩;simp only[D8]at hy;subst hy;refine⟨λA1K=>?_,?_⟩
   ·by_cases hl:0<len
    ·exact(hf ⟨0,hl⟩).1.1 rfl
    ·obtain⟨r1,r2⟩:=hsp rfl;have h1:=r2 0 (by omega);have h2:rest[0]?=some (rest[0]'(by omega)):=z3q (by omega);rw[h2]at h1;obtain⟨cs',h3,-⟩:=y1q.1 h1;have hl0:len=0:=by omega
     have:=(A6r h3 hz).1;simpa[Addr.add,hl0]using this
   ·rw[EJ];intro i d hd;rw[zhq,zmq]at hd;obtain⟨y,hy,rfl⟩:=hd;have P6:i<len:=by have:=(z0q.1 hy).1;simpa using this
    rw[ydq,dif_pos P6]at hy;simp only[D8]at hy;subst hy;exact(hf ⟨i,P6⟩).1.2
  ·simp only[BP]
   have:=A88 (l:=elems.map (·.1)) (m:=(List.ofFn f).map sz) (by simp[xI]) λi b d hb hd=>by
    rw[zhq,zmq]at hb;obtain⟨y,hy,rfl⟩:=hb;have P6:i<len:=by have:=(z0q.1 hy).1;simpa using this
    rw[ydq,dif_pos P6]at hy;simp only[D8]at hy;subst hy;exact(hf ⟨i,P6⟩).2 d hd
   omega
def Aw{S:AU}{h:Heap}:∀{a b:List DV}{p q:List Value},E_ S h a p->E_ S h b q->E_ S h (a++b) (p++q)
 |[],b,p,q,ha,hb=>by simp only[E_]at ha;subst ha;simpa using hb
 |d::a,b,p,q,ha,hb=>by simp only[E_]at ha;obtain⟨v,vs',rfl,h1,h2,h3⟩:=ha;simp only[List.cons_append,E_];exact⟨v,vs'++q,rfl,h1,h2,Aw h3 hb⟩
def Dz{S:AU}{h:Heap}{d:DV}(hd:M8 d=true)(hr:RC S h d cs):E_ S h [d] cs:=by obtain⟨v,rfl⟩:=MH hd hr;exact⟨v,[],rfl,hd,hr,rfl⟩
def fA{fs:Array Field}(ht:P.underlying t=some (.struct fs))(hr:Rd D9 P w held fuel t cs=some x):
 ∃(n:Nat)(ds:List (DataW H)),fuel=n+1/\BP x.1=JR ds+1/\cs.length=P.cellsOf t/\ds.length=fs.size /\∀(i:Nat) f,fs[i]?=some f->∃y,Rd D9 P w held n f.type ((cs.drop f.offset).take (P.cellsOf f.type))=some y/\ds[i]?=some y.1:=by
 obtain⟨xs,n,rfl,rfl,h1,h2,h3⟩:=DataW.trod_struct ht hr;refine⟨n,xs.map (·.1),rfl,by simp[BP],h1,by simpa using h2,λi f hf=>?_⟩;have hi:i<xs.length:=by rw[h2];exact(z1q.1 hf).1
 refine⟨xs[i],?_,by simp[z3q hi]⟩;have h4:=h3 i f hf;rw[z3q hi]at h4;exact h4
def QN{k:IntKind}(ht:P.underlying t=some (.int k))(hr:Rd D9 P w held fuel t cs=some x):∃n:Int,RC (iM w) w.heap (.int k n) cs/\(Lit.int k n).wf=true/\1<=BP x.1:=by obtain⟨n,rfl,rfl,hw⟩:=DataW.trod_int ht hr;exact⟨n,by simp only[RC],hw,by simp[BP]⟩
def uH(ht:P.underlying t=some .string)(hr:Rd D9 P w held fuel t cs=some x):∃s:ByteArray,RC (iM w) w.heap (.str s) cs/\s.size+1<=BP x.1:=by obtain⟨s,rfl,rfl,hw⟩:=DataW.trod_string ht hr;exact⟨s,by simp only[RC],by simp[BP]⟩
def B0O(d:DataW H):1<=BP d:=by
 cases d with
 |lit l=>cases l<;>simp[BP]
 |_=>simp[BP]
end
end Go.Su

/-
 FROM A READING TO DATA: the program's types, one by one. By program.
-/
namespace Go.Su
set_option linter.defProp false
variable (P:Program)(t:TypeId)
def Tq:Prop:=P.underlying t=some (.int .i64)/\P.cellsOf t=1
def ui:Prop:=P.underlying t=some .string/\P.cellsOf t=1
def SliceAt(el:TypeId):Prop:=P.underlying t=some (.slice el)/\P.cellsOf t=1
def zf:Prop:=∃f0 f1:Field,P.underlying t=some (.struct #[f0,f1])/\P.cellsOf t=2/\(Tq P f0.type/\f0.offset=0)/\(Tq P f1.type/\f1.offset=1)
section
variable {H:Type}{D9:TypeId×Value->H}{P:Program}{w:World}{held:Bool}{t:TypeId}
def A8F(A:zf P t){fuel:Nat}{cs:List Value}{x:DataW H×List MemPlace}(hr:Rd D9 P w held fuel t cs=some x):∃a b:Int,E_ (iM w) w.heap [.int .i64 a,.int .i64 b] cs/\1<=BP x.1:=by
 obtain⟨f0,f1,hu,hc,⟨t0,o0⟩,t1,o1⟩:=A;obtain⟨n,ds,rfl,hb,hl,hd,hf⟩:=fA hu hr;obtain⟨y0,r0,d0⟩:=hf 0 f0 rfl;obtain⟨y1,r1,d1⟩:=hf 1 f1 rfl;rw[o0,t0.2]at r0;rw[o1,t1.2]at r1;rw[hc]at hl;obtain⟨k,q0,-,b0⟩:=QN t0.1 r0;obtain⟨m,q1,-,b1⟩:=QN t1.1 r1;refine⟨k,m,?_,B0O _⟩;have e:cs=(cs.drop 0).take 1++(cs.drop 1).take 1:=by
  match cs,hl with
  |[a,b],_=>rfl
 rw[e];exact Aw (a:=[_]) (Dz rfl q0) (Dz rfl q1)
def A1g(P:Program)(t:TypeId):Prop:=∃f0 f1 f2:Field,P.underlying t=some (.struct #[f0,f1,f2])/\P.cellsOf t=3/\(Tq P f0.type/\f0.offset=0)/\(Tq P f1.type/\f1.offset=1)/\(SliceAt P f2.type t/\f2.offset=2)
def A1g.cells(A:A1g P t):P.cellsOf t=3:=by obtain⟨_,_,_,_,h,_⟩:=A;exact h
def B4r(A:A1g P t):∀(fuel:Nat)(cs:List Value)(x:DataW H×List MemPlace),Rd D9 P w held fuel t cs=some x->∃a:Ty,RC (iM w) w.heap a.D9 cs/\a.size<=BP x.1:=by
 intro fuel;induction fuel using Nat.strongRecOn with
 |ind fuel ih=>
   intro cs x hr;have A0:=A;obtain⟨f0,f1,f2,hu,hc,⟨t0,o0⟩,⟨t1,o1⟩,t2,o2⟩:=A;obtain⟨n,ds,rfl,hb,hl,hd,hf⟩:=fA hu hr;rw[hc]at hl;obtain⟨y0,r0,d0⟩:=hf 0 f0 rfl;rw[o0,t0.2]at r0;obtain⟨v0,q0,-,b0⟩:=QN t0.1 r0;obtain⟨y1,r1,d1⟩:=hf 1 f1 rfl;rw[o1,t1.2]at r1;obtain⟨v1,q1,-,b1⟩:=QN t1.1 r1;obtain⟨y2,r2,d2⟩:=hf 2 f2 rfl;rw[o2,t2.2]at r2;obtain⟨v2,q2,b2⟩:=nR (sz:=Ty.size) t2.1 (by rw[hc];omega) (λn' cs x hn h=>ih n' (by omega) cs x h) r2;rw[hc]at q2;refine⟨.mk v0 v1 v2,?_,?_⟩
   ·rw[Ty.O4];simp only[RC,Ty.JV,Ty.iB,Ty.X0];have e:cs=(cs.drop 0).take 1++((cs.drop 1).take 1++((cs.drop 2).take 1)):=by
     match cs,hl with
     |[c0,c1,c2],_=>rfl
    rw[e];exact(Aw (a:=[_]) (Dz rfl q0) (Aw (a:=[_]) (Dz rfl q1) (Dz rfl q2)))
   ·rw[Ty.size_eq,hb];simp only[Ty.JV,Ty.iB,Ty.X0];have hs:ds=[y0.1,y1.1,y2.1]:=by
     have hd:ds.length=3:=hd
     match ds,hd,d0,d1,d2 with
     |[a0,a1,a2],_,d0,d1,d2=>simp_all
    rw[hs];simp only[JR];omega
def zZ(P:Program)(t:TypeId):Prop:=∃f0 f1 f2 f3 f4 f5:Field,P.underlying t=some (.struct #[f0,f1,f2,f3,f4,f5])/\P.cellsOf t=7/\(Tq P f0.type/\f0.offset=0)/\(zf P f1.type/\f1.offset=1)/\(ui P f2.type/\f2.offset=3)/\(Tq P f3.type/\f3.offset=4)/\(ui P f4.type/\f4.offset=5)/\(SliceAt P f5.type t/\f5.offset=6)
def zZ.cells(A:zZ P t):P.cellsOf t=7:=by obtain⟨_,_,_,_,_,_,_,h,_⟩:=A;exact h
def B69(A:zZ P t):∀(fuel:Nat)(cs:List Value)(x:DataW H×List MemPlace),Rd D9 P w held fuel t cs=some x->∃a:F5,RC (iM w) w.heap a.D9 cs/\a.Y0<=BP x.1:=by
 intro fuel;induction fuel using Nat.strongRecOn with
 |ind fuel ih=>
   intro cs x hr;have A0:=A;obtain⟨f0,f1,f2,f3,f4,f5,hu,hc,⟨t0,o0⟩,⟨t1,o1⟩,⟨t2,o2⟩,⟨t3,o3⟩,⟨t4,o4⟩,t5,o5⟩:=A;obtain⟨n,ds,rfl,hb,hl,hd,hf⟩:=fA hu hr;rw[hc]at hl;obtain⟨y0,r0,d0⟩:=hf 0 f0 rfl;rw[o0,t0.2]at r0;obtain⟨v0,q0,-,b0⟩:=QN t0.1 r0;obtain⟨y1,r1,d1⟩:=hf 1 f1 rfl;obtain⟨g10,g11,gu1,gc1,gr1⟩:=id t1;rw[o1,gc1]at r1;obtain⟨v1,v1b,q1,b1⟩:=A8F t1 r1;obtain⟨y2,r2,d2⟩:=hf 2 f2 rfl;rw[o2,t2.2]at r2;obtain⟨v2,q2,b2⟩:=uH t2.1 r2;obtain⟨y3,r3,d3⟩:=hf 3 f3 rfl;rw[o3,t3.2]at r3;obtain⟨v3,q3,-,b3⟩:=QN t3.1 r3;obtain⟨y4,r4,d4⟩:=hf 4 f4 rfl;rw[o4,t4.2]at r4;obtain⟨v4,q4,b4⟩:=uH t4.1 r4;obtain⟨y5,r5,d5⟩:=hf 5 f5 rfl;rw[o5,t5.2]at r5;obtain⟨v5,q5,b5⟩:=nR (sz:=F5.Y0) t5.1 (by rw[hc];omega) (λn' cs x hn h=>ih n' (by omega) cs x h) r5;rw[hc]at q5;refine⟨.mk v0 v1 v1b v2 v3 v4 v5,?_,?_⟩
   ·rw[F5.O4];simp only[RC,F5.JV,F5.A0F,F5.A0C,F5.Zk,F5.iB,F5.A16,F5.X0];have e:cs=(cs.drop 0).take 1++((cs.drop 1).take 2++((cs.drop 3).take 1++((cs.drop 4).take 1++((cs.drop 5).take 1++((cs.drop 6).take 1))))):=by
     match cs,hl with
     |[c0,c1,c2,c3,c4,c5,c6],_=>rfl
    rw[e];exact(Aw (a:=[_]) (Dz rfl q0) (Aw (a:=[_,_]) (q1) (Aw (a:=[_]) (Dz rfl q2) (Aw (a:=[_]) (Dz rfl q3) (Aw (a:=[_]) (Dz rfl q4) (Dz rfl q5))))))
   ·rw[F5.CF,hb];simp only[F5.JV,F5.A0F,F5.A0C,F5.Zk,F5.iB,F5.A16,F5.X0];have hs:ds=[y0.1,y1.1,y2.1,y3.1,y4.1,y5.1]:=by
     have hd:ds.length=6:=hd
     match ds,hd,d0,d1,d2,d3,d4,d5 with
     |[a0,a1,a2,a3,a4,a5],_,d0,d1,d2,d3,d4,d5=>simp_all
    rw[hs];simp only[JR];omega
def B5Q(P:Program)(t:TypeId):Prop:=∃f0 f1 f2 f3 f4 f5 f6 f7 f8 f9 f10:Field,P.underlying t=some (.struct #[f0,f1,f2,f3,f4,f5,f6,f7,f8,f9,f10])/\P.cellsOf t=16/\(Tq P f0.type/\f0.offset=0)/\(zf P f1.type/\f1.offset=1)/\(ui P f2.type/\f2.offset=3)/\(ui P f3.type/\f3.offset=4)/\(Tq P f4.type/\f4.offset=5)/\(ui P f5.type/\f5.offset=6)/\(Tq P f6.type/\f6.offset=7)/\(A1g P f7.type/\f7.offset=8)/\(A1g P f8.type/\f8.offset=11)/\((∃el,SliceAt P f9.type el/\zZ P el)/\f9.offset=14)/\(SliceAt P f10.type t/\f10.offset=15)
def B77(A:B5Q P t):∀(fuel:Nat)(cs:List Value)(x:DataW H×List MemPlace),Rd D9 P w held fuel t cs=some x->∃a:Ex,RC (iM w) w.heap a.D9 cs/\a.Y0<=BP x.1:=by
 intro fuel;induction fuel using Nat.strongRecOn with
 |ind fuel ih=>
   intro cs x hr;have A0:=A;obtain⟨f0,f1,f2,f3,f4,f5,f6,f7,f8,f9,f10,hu,hc,⟨t0,o0⟩,⟨t1,o1⟩,⟨t2,o2⟩,⟨t3,o3⟩,⟨t4,o4⟩,⟨t5,o5⟩,⟨t6,o6⟩,⟨t7,o7⟩,⟨t8,o8⟩,⟨t9,o9⟩,t10,o10⟩:=A;obtain⟨n,ds,rfl,hb,hl,hd,hf⟩:=fA hu hr;rw[hc]at hl;obtain⟨y0,r0,d0⟩:=hf 0 f0 rfl;rw[o0,t0.2]at r0;obtain⟨v0,q0,-,b0⟩:=QN t0.1 r0;obtain⟨y1,r1,d1⟩:=hf 1 f1 rfl;obtain⟨g10,g11,gu1,gc1,gr1⟩:=id t1;rw[o1,gc1]at r1;obtain⟨v1,v1b,q1,b1⟩:=A8F t1 r1;obtain⟨y2,r2,d2⟩:=hf 2 f2 rfl;rw[o2,t2.2]at r2;obtain⟨v2,q2,b2⟩:=uH t2.1 r2;obtain⟨y3,r3,d3⟩:=hf 3 f3 rfl;rw[o3,t3.2]at r3;obtain⟨v3,q3,b3⟩:=uH t3.1 r3;obtain⟨y4,r4,d4⟩:=hf 4 f4 rfl;rw[o4,t4.2]at r4;obtain⟨v4,q4,-,b4⟩:=QN t4.1 r4;obtain⟨y5,r5,d5⟩:=hf 5 f5 rfl;rw[o5,t5.2]at r5;obtain⟨v5,q5,b5⟩:=uH t5.1 r5;obtain⟨y6,r6,d6⟩:=hf 6 f6 rfl;rw[o6,t6.2]at r6;obtain⟨v6,q6,-,b6⟩:=QN t6.1 r6;obtain⟨y7,r7,d7⟩:=hf 7 f7 rfl;rw[o7,t7.cells]at r7;obtain⟨v7,q7,b7⟩:=B4r t7 _ _ _ r7;rw[Ty.O4]at q7;simp only[RC]at q7;obtain⟨y8,r8,d8⟩:=hf 8 f8 rfl;rw[o8,t8.cells]at r8;obtain⟨v8,q8,b8⟩:=B4r t8 _ _ _ r8;rw[Ty.O4]at q8;simp only[RC]at q8;obtain⟨y9,r9,d9⟩:=hf 9 f9 rfl;obtain⟨e9,s9,z9⟩:=t9;rw[o9,s9.2]at r9;obtain⟨v9,q9,b9⟩:=nR (sz:=F5.Y0) s9.1 (by rw[z9.cells];omega) (λn' cs x hn h=>B69 z9 n' cs x h) r9;rw[z9.cells]at q9;obtain⟨y10,r10,d10⟩:=hf 10 f10 rfl;rw[o10,t10.2]at r10;obtain⟨v10,q10,b10⟩:=nR (sz:=Ex.Y0) t10.1 (by rw[hc];omega) (λn' cs x hn h=>ih n' (by omega) cs x h) r10;rw[hc]at q10;refine⟨.mk v0 v1 v1b v2 v3 v4 v5 v6 v7 v8 v9 v10,?_,?_⟩
   ·rw[Ex.O4];simp only[RC,Ex.JV,Ex.A0F,Ex.A0C,Ex.Zk,Ex.A4D,Ex.iB,Ex.A16,Ex.A93,Ex.B2s,Ex.B2D,Ex.A1Z,Ex.X0];have e:cs=(cs.drop 0).take 1++((cs.drop 1).take 2++((cs.drop 3).take 1++((cs.drop 4).take 1++((cs.drop 5).take 1++((cs.drop 6).take 1++((cs.drop 7).take 1++((cs.drop 8).take 3++((cs.drop 11).take 3++((cs.drop 14).take 1++((cs.drop 15).take 1)))))))))):=by
     match cs,hl with
     |[c0,c1,c2,c3,c4,c5,c6,c7,c8,c9,c10,c11,c12,c13,c14,c15],_=>rfl
    rw[e];exact(Aw (a:=[_]) (Dz rfl q0) (Aw (a:=[_,_]) (q1) (Aw (a:=[_]) (Dz rfl q2) (Aw (a:=[_]) (Dz rfl q3) (Aw (a:=[_]) (Dz rfl q4) (Aw (a:=[_]) (Dz rfl q5) (Aw (a:=[_]) (Dz rfl q6) (Aw (a:=[_,_,_]) (q7) (Aw (a:=[_,_,_]) (q8) (Aw (a:=[_]) (Dz rfl q9) (Dz rfl q10)))))))))))
   ·rw[Ex.CF,hb];simp only[Ex.JV,Ex.A0F,Ex.A0C,Ex.Zk,Ex.A4D,Ex.iB,Ex.A16,Ex.A93,Ex.B2s,Ex.B2D,Ex.A1Z,Ex.X0];have hs:ds=[y0.1,y1.1,y2.1,y3.1,y4.1,y5.1,y6.1,y7.1,y8.1,y9.1,y10.1]:=by
     have hd:ds.length=11:=hd
     match ds,hd,d0,d1,d2,d3,d4,d5,d6,d7,d8,d9,d10 with
     |[a0,a1,a2,a3,a4,a5,a6,a7,a8,a9,a10],_,d0,d1,d2,d3,d4,d5,d6,d7,d8,d9,d10=>simp_all
    rw[hs];simp only[JR];omega
end
end Go.Su

/-
 TYPES: what is said of them.
-/
namespace Go.Su
set_option linter.defProp false
def Ov(k:Int):Int :=if k=1\/k=2\/k=3\/k=4\/k=5\/k=6 then 0 else if k=8 then 1 else if k=7\/k=9 then 2 else -1
def Ty.right:Ty->Bool
 |.mk k n ks=>decide (Ov k=ks.length)&&decide (0<=n)&&decide (n<=1048576)&&(decide (k=6)||decide (n=0))&&(ks.map Ty.right).all id
variable (t:Ty)
theorem Ty.right_eq:t.right=(decide (Ov t.E8=t.D6.length)&&decide (0<=t.n)&&decide (t.n<=1048576)&&(decide (t.E8=6)||decide (t.n=0))&&t.D6.all Ty.right):=by cases t;rw[Ty.right];simp[zKq];rfl
def Ty.FW(q:Int):Ty->Bool
 |.mk k _ ks=> !decide (k=q)&&(ks.map (Ty.FW q)).all id
theorem Ty.Zb(q:Int)(t:Ty):t.FW q=(!decide (t.E8=q)&&t.D6.all (Ty.FW q)):=by cases t;rw[Ty.FW];simp[zKq];rfl
def Ty.Dj:Ty->List Int->List Int
 |.mk k n ks,l=>ks.foldl (λl k=>Ty.Dj k l) (if k=6/\n∉l then l++[n]else l)
def Ty.vars:List Int:=t.Dj []
theorem Ty.uX(l:List Int):t.Dj l=t.D6.foldl (λl k=>k.Dj l) (if t.E8=6/\t.n∉l then l++[t.n]else l):=by cases t;rw[Ty.Dj];rfl
def Ty.B0A:∀l:List Int,(t.Dj l).length<=l.length+t.size:=by
 induction t using Ty.ind with
 |h t ih=>
   intro l;rw[Ty.uX];have key:∀(ks:List Ty),(∀k∈ks,∀l:List Int,(k.Dj l).length<=l.length+k.size)->∀l:List Int,(ks.foldl (λl k=>k.Dj l) l).length<=l.length+(ks.map Ty.size).sum:=by
    intro ks;induction ks with
    |nil=>intro _ l;simp
    |cons k ks ihk=>intro h l;simp only[zPq,zeq,zsq];have h1:=ihk (λk' FF=>h k' (z2q _ FF)) (k.Dj l);have h2:=h k (z4q ..) l;omega
   have h1:=key t.D6 ih (if t.E8=6/\t.n∉l then l++[t.n]else l);rw[Ty.size_eq];have h2:(if t.E8=6/\t.n∉l then l++[t.n]else l).length<=l.length+1:=by split<;>simp
   omega
def Ty.thin:Ty->Bool
 |.mk _ _ ks=>decide (ks.length<=R9)&&(ks.map Ty.thin).all id
theorem Ty.Te:t.thin=(decide (t.D6.length<=R9)&&t.D6.all Ty.thin):=by cases t;rw[Ty.thin];simp[zKq];rfl
def Ty.IZ(h:t.thin=true):t.D6.length<4294967297:=by rw[Ty.Te]at h;simp only[z5q,I9]at h;have:=h.1;unfold R9 at this;omega
def Ty.IY{t k:Ty}(h:t.thin=true)(hk:k∈t.D6):k.thin=true:=by rw[Ty.Te]at h;simp only[z5q,z7q]at h;exact h.2 k hk
def Ty.Hm{t:Ty}:t.size<=R9->t.thin=true:=by
 induction t using Ty.ind with
 |h t ih=>intro h;rw[Ty.Te];simp only[z5q,I9,z7q];refine⟨by have:=t.A5P;omega,λk hk=>ih k hk (by have:=Ty.FR hk;omega)⟩
def Ty.Dk:Ty->Nat
 |.mk k _ ks=>(if k=6 then 1 else 0)+(ks.map Ty.Dk).sum
theorem Ty.uY:t.Dk=(if t.E8=6 then 1 else 0)+(t.D6.map Ty.Dk).sum:=by cases t;rw[Ty.Dk];rfl
def B0w{α : Type}{l:List α}{f g : α->Nat}(h:∀a∈l,f a<=g a):(l.map f).sum<=(l.map g).sum:=by
 induction l with
 |nil=>simp
 |cons a l ih=>simp only[zeq,zsq];have:=h a (z4q ..);have:=ih λb hb=>h b (z2q _ hb);omega
def Ty.iJ:t.Dk<=t.size:=by
 induction t using Ty.ind with
 |h t ih=>rw[Ty.uY,Ty.size_eq];have:=B0w ih;split<;>omega
def Ty.A74:∀l:List Int,(t.Dj l).length<=l.length+t.Dk:=by
 induction t using Ty.ind with
 |h t ih=>
   intro l;rw[Ty.uX];have key:∀(ks:List Ty),(∀k∈ks,∀l:List Int,(k.Dj l).length<=l.length+k.Dk)->∀l:List Int,(ks.foldl (λl k=>k.Dj l) l).length<=l.length+(ks.map Ty.Dk).sum:=by
    intro ks;induction ks with
    |nil=>intro _ l;simp
    |cons k ks ihk=>intro h l;simp only[zPq,zeq,zsq];have h1:=ihk (λk' FF=>h k' (z2q _ FF)) (k.Dj l);have h2:=h k (z4q ..) l;omega
   have h1:=key t.D6 ih (if t.E8=6/\t.n∉l then l++[t.n]else l);rw[Ty.uY];have h2:(if t.E8=6/\t.n∉l then l++[t.n]else l).length<=l.length+(if t.E8=6 then 1 else 0):=by
    by_cases h6:t.E8=6
    ·by_cases hn:t.n∈l<;>simp[h6,hn]
    ·simp[h6]
   omega
end Go.Su

/-
 THE DATA MACHINE: iterators over trees: which elements come.
-/
namespace Go.Su
set_option linter.defProp false
def NP(f:DV->Option (List DV)):List DV->Option (List DV)
 |[]=>some []
 |d::ds=>ob (f d) λa=>ob (NP f ds) λb=>some (a++b)
def BL(sz kf:Nat):Nat->DV->Option (List DV)
 |0,_=>none
 |n+1,d=>
   match d with
   |.agg cs=>og (cs.length==sz) (match cs.getD kf .undef with
     |.list s ds=>og (s==sz&&decide (ds.length<=R9)) (ob (NP (BL sz kf n) ds) λl=>some (.agg cs::l))
     |_=>none)
   |_=>none
open Classical in
noncomputable def SY(sz kf:Nat)(cs:List DV):Option (List DV) :=if h:∃ds n,BL sz kf n (.agg cs)=some ds then some h.choose else none
def ZJ{f g:DV->Option (List DV)}(h:∀d l,f d=some l->g d=some l):∀{ds l:List DV},NP f ds=some l->NP g ds=some l
 |[],l,H=>H
 |d::ds,l,H=>by simp only[NP]at H ⊢;obtain⟨a,h1,H⟩:=D5 H;obtain⟨b,h2,H⟩:=D5 H;rw[h _ _ h1,ZJ h h2];exact H
def A5r{sz kf:Nat}:∀{n:Nat}{d:DV}{l:List DV},BL sz kf n d=some l->BL sz kf (n+1) d=some l
 |0,d,l,H=>by simp[BL]at H
 |n+1,d,l,H=>by
   cases d with
   |agg cs=>
     rw[BL]at H ⊢;obtain⟨h1,H⟩:=H6 H;rw[h1];cases hk:cs.getD kf .undef with
     |list s ds=>rw[hk]at H;simp only at H ⊢;obtain⟨h2,H⟩:=H6 H;rw[h2];obtain⟨a,h3,H⟩:=D5 H;rw[ZJ (λd l h=>A5r h) h3];exact H
     |_=>rw[hk]at H;simp at H
   |_=>simp[BL]at H
variable {n:Nat}{d:DV}{l:List DV}
def WS{sz kf m:Nat}(h:n<=m)(H:BL sz kf n d=some l):BL sz kf m d=some l:=by
 induction m with
 |zero=>rw[zTq.1 h]at H;exact H
 |succ m ih=>
   rcases zrq m n with h1 | h1
   ·rw[show m+1=n by omega];exact H
   ·exact A5r (ih h1)
def A5q{sz kf:Nat}{cs ds:List DV}(H:BL sz kf n (.agg cs)=some ds):SY sz kf cs=some ds:=by have h:∃ds n,BL sz kf n (.agg cs)=some ds:=⟨ds,n,H⟩;unfold SY;rw[dif_pos h];obtain⟨m,hm⟩:=h.choose_spec;have h1:=WS (zzq n m) H;have h2:=WS (zDq m n) hm;rw[h1]at h2;exact h2.symm
def A0w{sz kf:Nat}{cs ds:List DV}(H:SY sz kf cs=some ds):∃n,BL sz kf n (.agg cs)=some ds:=by
 unfold SY at H;split at H
 ·rename_i h;simp only[D8]at H;rw[<- H];exact h.choose_spec
 ·cases H
structure Oq(E:Env)(W:World)(E':Env)(W':World):Prop where
 size:W.heap.size<=W'.heap.size
 blk:∀b,b<W.heap.size->(∀o,E.O b o=.other)->W'.heap[b]?=W.heap[b]?/\∀o,E'.O b o=.other
 sh:AL E.S W.heap E'.S W'.heap
variable {E:Env}{W:World}
def Oq.trans{E1 E2:Env}{W1 W2:World}(h:Oq E W E1 W1)(k:Oq E1 W1 E2 W2):Oq E W E2 W2:=by refine⟨zyq h.size k.size,λb hb ho=>?_,⟨λb o hs=>k.sh.s b o (h.sh.s b o hs),λb o v hs hv=>k.sh.c b o v (h.sh.s b o hs) (h.sh.c b o v hs hv)⟩⟩;obtain⟨h1,h2⟩:=h.blk b hb ho;obtain⟨h3,h4⟩:=k.blk b (ztq hb h.size) h2;exact⟨h3.trans h1,h4⟩
def Oq.B4m{E':Env}{W':World}(P:Pr P5 E W.heap E' W'.heap)(hf:∀b o,W.heap.size<=b->E.O b o=.other):Oq E W E' W':=by
 refine⟨P.size,λb hb ho=>⟨?_,λo=>P.WY hb (ho o)⟩,P.Q6 (by simp[P5]) hf⟩;have hk:=P.blk b hb;have P_:W.heap[b]?=some W.heap[b]:=zjq hb;rw[P_]at hk ⊢;unfold V9 at hk;split at hk
 ·rename_i hx;cases hx
 ·rename_i c T f hx;simp only[D8]at hx;obtain⟨c',h1,h2,h3⟩:=hk;rw[h1,hx];congr 2;refine yhq λo=>h3 o ?_;rw[ho o];simp[P5]
 ·rename_i ob _ hx;simp only[D8]at hx;rw[hx];exact hk (by rw[ho 0];simp[P5])
def PX.alloc(o:Obj):PX n E W (W.alloc o):=by refine⟨by simp,λb hb=>.inl ?_,⟨rfl,rfl,rfl⟩⟩;exact Go.RowKit.Below.heap_alloc _ _ _ hb
def Oq.alloc(o:Obj)(hf:∀b o,W.heap.size<=b->E.O b o=.other):Oq E W E (W.alloc o):=by
 refine⟨by simp,λb hb ho=>⟨Go.RowKit.Below.heap_alloc _ _ _ hb,ho⟩,λ_ _ h=>h,λb o' v hs hv=>?_⟩;have hb:b<W.heap.size:=by
  rcases zrq b W.heap.size with h | h
  ·exact h
  ·have h9:=hf b o' h;rw[show E.O b o'=.Q6 from hs]at h9;cases h9
 unfold hc at hv ⊢;rw[show(W.alloc o).heap[b]?=W.heap[b]? from Go.RowKit.Below.heap_alloc _ _ _ hb];exact hv
def Oq.same{W':World}(hs:W.heap.size<=W'.heap.size)(h:∀b,b<W.heap.size->W'.heap[b]?=W.heap[b]?)(hf:∀b o,W.heap.size<=b->E.O b o=.other):Oq E W E W':=by
 refine⟨hs,λb hb ho=>⟨h b hb,ho⟩,λ_ _ h=>h,λb o' v hv tJ=>?_⟩;have hb:b<W.heap.size:=by
  rcases zrq b W.heap.size with h | h
  ·exact h
  ·have h9:=hf b o' h;rw[show E.O b o'=.Q6 from hv]at h9;cases h9
 unfold hc at tJ ⊢;rw[h b hb];exact tJ
def PX.same{W':World}(hs:W.heap.size<=W'.heap.size)(h:∀b,b<W.heap.size->W'.heap[b]?=W.heap[b]?)(ho:Y9 W W'):PX n E W W' :=⟨hs,λb hb=>.inl (h b hb),ho⟩
def flat_agg{sz kf:Nat}{S:AU}{h:Heap}{us:List Value}(H:BL sz kf n d=some l)(R:RC S h d us):RV S h d (.agg us.toArray):=by
 cases n with
 |zero=>simp[BL]at H
 |succ n=>
   cases d with
   |agg cs=>simp only[RC]at R;simp only[RV];exact⟨_,rfl,R⟩
   |_=>simp[BL]at H
def A8l{ds ks pre sa sb:List DV}{k:Nat}(MZ:∀(j:Nat) x,(d::ks)[j]?=some x->ds[k+j]?=some x)(hk:ks=pre++(sa++sb))(j:Nat)(x:DV)(hj:sa[j]?=some x):ds[k+1+pre.length+j]?=some x:=by
 have a_:=(z0q.1 hj).1;have:=MZ (pre.length+j+1) x (by rw[zcq,hk,zEq (by omega),zSq,zdq a_];exact hj)
 rw[<- this];congr 1;omega
def AX{P:Program}{b j:Nat}{c:Array Value}{T:TypeId}{u:Value}(hb:W.heap[b]?=some (.cells c T (0,0)))(hj:j<c.size)(hu:u.oneCell'=true):
 ∃W',(store ⟨b,j,none⟩ u).run P W=.ok () W'/\W'.heap[b]?=some (.cells (c.setIfInBounds j u) T (0,0))/\(∀b',b'≠b->W'.heap[b']?=W.heap[b']?)/\W'.heap.size=W.heap.size/\Y9 W W':=by
 refine⟨W.setCell ⟨b,j,none⟩ u,?_,?_,λb' P_=>?_,by simp[World.setCell],⟨rfl,rfl,rfl⟩⟩
 ·rw[run_store _ _ _ _ _ hu];simp[World.cell?,World.frozen?,hb,hj]
 ·simp[World.setCell,y5q,hb]
 ·simp[World.setCell,y5q,Ne.symm P_]
end Go.Su

/-
 NAMES and PATTERNS: what is said of them.
-/
namespace Go.Su
set_option linter.defProp false
variable (s:ByteArray)
def Br:List Int:=s.data.toList.map λb=>(b.toNat:Int)
def OL:(Br s).length=s.size:=by simp[Br]
variable {k:IntKind}
def aG{s:ByteArray}{i:Nat}(h:i<(Br s).length):IC (.str s) (.int k (i:Int))=some (.int .u8 (Br s)[i]):=by
 have h':i<s.data.size:=by simpa[Br]using h
 have e:s.data[i]?=some s.data[i]:=zjq h';simp only[IC,Int.natCast_nonneg,F6,Int.toNat_natCast,e,zgq,Br,y0q,y8q]
variable (c:Int)
def Fy:Bool:=decide (97<=c)&&decide (c<=122)
def rU:Bool:=decide (48<=c)&&decide (c<=57)
def Qs:Bool:=Fy c||rU c||(decide (65<=c)&&decide (c<=90))||decide (c=95)||decide (c=39)
def tX:List (List UInt8):=[[108,101,116],[114,101,99],[105,110],[102,117,110],[105,102],[116,104,101,110],[101,108,115,101],[109,97,116,99,104],[119,105,116,104],[101,110,100],[116,114,117,101],[102,97,108,115,101],[105,110,116],[98,111,111,108],[115,116,114,105,110,103],[117,110,105,116],[108,105,115,116]]
def yP:Bool:=decide (s.data.toList∈tX)
def KA:Bool :=decide (1<=s.size)&&decide (s.size<=32)&&Fy ((Br s).getD 0 0)&&(Br s).all Qs&&!yP s
def DK:List UInt8:=[32,108,101,116,32,114,101,99,32,105,110,32,102,117,110,32,105,102,32,116,104,101,110,32,101,108,115,101,32,109,97,116,99,104,32,119,105,116,104,32,101,110,100,32,116,114,117,101,32,102,97,108,115,101,32,105,110,116,32,98,111,111,108,32,115,116,114,105,110,103,32,117,110,105,116,32,108,105,115,116,32]
def yS(c:UInt8):Bool:=decide (97<=c)&&decide (c<=122)
def B0C:(List.range 81).all (λj=>(List.range 80).all λn=>
 !(decide (j+n+2<=81)&&((DK.drop j).take 1==[32])&&((DK.drop (j+n+1)).take 1==[32])&&((DK.drop (j+1)).take n).all yS&&decide (0<n))||decide ((DK.drop (j+1)).take n∈tX))=true:=by
 decide +kernel
def B1r:tX.all (λx=>decide (0<x.length)&&x.all yS&&(List.range 81).any λj=>decide (j+(x.length+2)<=81)&&(DK.drop j).take (x.length+2)==32::x++[32])=true:=by decide +kernel
theorem B2o:DK.length=81:=rfl
def B2n(x:List UInt8):(x.all yS=true/\0<x.length/\∃j:Nat,j+(x.length+2)<=81/\(DK.drop j).take (x.length+2)=32::x++[32])↔x∈tX:=by
 constructor
 ·rintro⟨h1,h2,j,h3,h4⟩;have h5:=z7q.1 (z7q.1 B0C j (by simp;omega)) x.length (by simp;omega);have e:(DK.drop (j+1)).take x.length=x:=by have:=congrArg (λl=>(l.drop 1).take x.length) h4;simp only[ywq,yxq]at this;simpa[ycq]using this
  have e1:(DK.drop j).take 1=[32]:=by have:=congrArg (λl=>l.take 1) h4;simpa[ycq]using this
  have e2:(DK.drop (j+x.length+1)).take 1=[32]:=by have:=congrArg (λl=>(l.drop (x.length+1)).take 1) h4;simp only[ywq,yxq]at this;simpa[ycq,Nat.add_assoc,zSq,show x.length+2-(x.length+1)=1 by omega]using this
  rw[e,e1,e2]at h5;simpa[h1,h2,show j+x.length+2<=81 by omega]using h5
 ·intro h;have h5:=z7q.1 B1r x h;simp only[z5q,I9,List.any_eq_true,beq_iff_eq,yyq]at h5;obtain⟨⟨h1,h2⟩,j,h3,h4,h6⟩:=h5;exact⟨h2,h1,j,h4,h6⟩
def A2S(a b:ByteArray):FH (.str a) (.str b)=decide (a=b):=by simp only[FH];exact rJ a b
theorem A2R(k k':IntKind)(a b:Int):FH (.int k a) (.int k' b)=decide (a=b):=by simp only[FH];rfl
def A9P{a:ByteArray}{d:DV}(h:FH (.str a) d=true):d=.str a:=by
 cases d<;>simp only[FH]at h<;>try cases h
 rename_i s;have:=A2t (a:=a) (b:=s) (by simpa using h);rw[this]
variable (es:List (DV×DV))
def B3k(a b:ByteArray)(v:DV):Y1 (Bt es (.str a) v) (.str b)=if a=b then some v else Y1 es (.str b):=by
 induction es with
 |nil=>by_cases h:a=b<;>simp[Bt,Y1,A2S,h,eq_comm]
 |cons e es ih=>
   unfold Bt;by_cases h1:FH (.str a) e.1=true
   ·rw[C8 h1];have:=A9P h1;simp only[Y1,zQq,this,A2S]
    by_cases h:a=b
    ·subst h;simp
    ·have:¬b=a:=λh'=>h h'.symm;simp[h,this]
   ·rw[A7 h1];simp only[Y1,zQq]at ih ⊢;by_cases h2:FH (.str b) e.1=true
    ·simp only[h2]
     by_cases h:a=b
     ·subst h;exact absurd h2 h1
     ·simp[h]
    ·simp only[h2]
     exact ih
def A9O{a:Int}{d:DV}(h:FH (.int k a) d=true):∃k',d=.int k' a:=by
 cases d<;>simp only[FH]at h<;>try cases h
 rename_i k' n;exact⟨k',by rw[show a=n by simpa using h]⟩
def tq(a b:Int)(v:DV):Y1 (Bt es (.int .i64 a) v) (.int .i64 b)=if a=b then some v else Y1 es (.int .i64 b):=by
 induction es with
 |nil=>by_cases h:a=b<;>simp[Bt,Y1,A2R,h,eq_comm]
 |cons e es ih=>
   unfold Bt;by_cases h1:FH (.int .i64 a) e.1=true
   ·rw[C8 h1];obtain⟨k',this⟩:=A9O h1;simp only[Y1,zQq,this,A2R]
    by_cases h:a=b
    ·subst h;simp
    ·have:¬b=a:=λh'=>h h'.symm;simp[h,this]
   ·rw[A7 h1];simp only[Y1,zQq]at ih ⊢;by_cases h2:FH (.int .i64 b) e.1=true
    ·simp only[h2]
     by_cases h:a=b
     ·subst h;exact absurd h2 h1
     ·simp[h]
    ·simp only[h2]
     exact ih
def Z5:ByteArray:=⟨#[]⟩
variable (p:F5)
def F5.one:Bool :=
 if p.E8=1\/p.E8=6\/p.E8=8 then decide (p.D6.length=0)&&decide (p.name=Z5)&&decide (p.n=0)&&decide (p.s=Z5)
 else if p.E8=2 then KA p.name&&decide (p.D6.length=0)&&decide (p.n=0)&&decide (p.s=Z5)
 else if p.E8=3 then decide (p.D6.length=0)&&decide (p.name=Z5)&&decide (p.s=Z5)
 else if p.E8=4 then decide (p.n=0\/p.n=1)&&decide (p.D6.length=0)&&decide (p.name=Z5)&&decide (p.s=Z5)
 else if p.E8=5 then decide (p.s.size<=200)&&decide (p.D6.length=0)&&decide (p.name=Z5)&&decide (p.n=0)
 else if p.E8=7\/p.E8=9 then decide (p.D6.length=2)&&decide (p.name=Z5)&&decide (p.n=0)&&decide (p.s=Z5)
 else false
def F5.thin:F5->Bool
 |.mk _ _ _ _ _ _ ks=>decide (ks.length<=R9)&&(ks.map F5.thin).all id
variable (t:F5)
theorem F5.Te:t.thin=(decide (t.D6.length<=R9)&&t.D6.all F5.thin):=by cases t;rw[F5.thin];simp[zKq];rfl
def F5.IZ(h:t.thin=true):t.D6.length<4294967297:=by rw[F5.Te]at h;simp only[z5q,I9]at h;have:=h.1;unfold R9 at this;omega
def F5.IY{t k:F5}(h:t.thin=true)(hk:k∈t.D6):k.thin=true:=by rw[F5.Te]at h;simp only[z5q,z7q]at h;exact h.2 k hk
def F5.Hm{t:F5}:t.size<=R9->t.thin=true:=by
 induction t using F5.ind with
 |h t ih=>intro h;rw[F5.Te];simp only[z5q,I9,z7q];refine⟨by have:=t.A5P;omega,λk hk=>ih k hk (by have:=F5.FR hk;omega)⟩
def F5.pat:F5->Bool
 |.mk a b c d e f ks=>F5.one (.mk a b c d e f ks)&&(ks.map F5.pat).all id
def F5.kP:t.pat=(t.one&&t.D6.all F5.pat):=by cases t;rw[F5.pat];simp[zKq]
def F5.GM:F5->List ByteArray->List ByteArray
 |.mk k _ _ nm _ _ ks,l=>ks.foldl (λl k=>F5.GM k l) (if k=2 then l++[nm]else l)
theorem F5.nJ(l:List ByteArray):t.GM l=t.D6.foldl (λl k=>k.GM l) (if t.E8=2 then l++[t.name]else l):=by cases t;rw[F5.GM];rfl
def F5.names:List ByteArray:=t.GM []
def F5.xR:∀l:List ByteArray,(t.GM l).length<=l.length+t.size:=by
 induction t using F5.ind with
 |h t ih=>
   intro l;rw[F5.nJ];have key:∀(ks:List F5),(∀k∈ks,∀l:List ByteArray,(k.GM l).length<=l.length+k.size)->∀l:List ByteArray,(ks.foldl (λl k=>k.GM l) l).length<=l.length+(ks.map F5.size).sum:=by
    intro ks;induction ks with
    |nil=>intro _ l;simp
    |cons k ks ihk=>intro h l;simp only[zPq,zeq,zsq];have h1:=ihk (λk' FF=>h k' (z2q _ FF)) (k.GM l);have h2:=h k (z4q ..) l;omega
   have h1:=key t.D6 ih (if t.E8=2 then l++[t.name]else l);rw[F5.size_eq];have h2:(if t.E8=2 then l++[t.name]else l).length<=l.length+1:=by split<;>simp
   omega
def F5.subs:F5->List F5
 |.mk a b c d e f ks=>.mk a b c d e f ks::(ks.map F5.subs).flatten
theorem F5.OW:t.subs=t::t.D6.flatMap F5.subs:=by cases t;rw[F5.subs];rfl
def YQ:List ByteArray:=if p.E8=2 then[p.name]else[]
def F5.A54:∀l:List ByteArray,t.GM l=l++t.subs.flatMap YQ:=by
 induction t using F5.ind with
 |h t ih=>
   intro l;have key:∀(ks:List F5),(∀k∈ks,∀l:List ByteArray,k.GM l=l++k.subs.flatMap YQ)->∀l:List ByteArray,ks.foldl (λl k=>k.GM l) l=l++(ks.flatMap F5.subs).flatMap YQ:=by
    intro ks;induction ks with
    |nil=>intro _ l;simp
    |cons k ks ihk=>intro h l;simp only[zPq,yjq,List.flatMap_append];rw[ihk (λk' FF=>h k' (z2q _ FF)),h k (z4q ..)];simp
   rw[F5.nJ,key t.D6 ih,F5.OW];simp only[yjq,YQ]
   by_cases h:t.E8=2<;>simp[h,YQ]
def F5.B3t:t.pat=t.subs.all F5.one:=by
 induction t using F5.ind with
 |h t ih=>
   rw[F5.kP,F5.OW];simp only[yiq,yoq]
   congr 1;rw[y4q];simp only[z7q];constructor
   ·intro h k hk x hx;have:=h k hk;rw[ih k hk]at this;exact z7q.1 this x hx
   ·intro h k hk;rw[ih k hk];exact z7q.2 (h k hk)
def F5.right:Bool:=t.pat&&decide t.names.Nodup
def B2X:t.thin=true->∃n,BL 7 6 n t.D9=some (t.subs.map F5.D9):=by
 induction t using F5.ind with
 |h t ih=>
   intro ht;have key:∀ks:List F5,(∀k∈ks,∃n,BL 7 6 n k.D9=some (k.subs.map F5.D9))->∃n,NP (BL 7 6 n) (ks.map F5.D9)=some ((ks.flatMap F5.subs).map F5.D9):=by
    intro ks;induction ks with
    |nil=>intro _;exact⟨0,rfl⟩
    |cons k ks ihk=>
      intro h;obtain⟨n,hn⟩:=h k (z4q ..);obtain⟨m,hm⟩:=ihk λk' FF=>h k' (z2q _ FF);refine⟨n+m,?_⟩;simp only[zeq,NP,WS (zzq n m) hn,ZJ (λd l h=>WS (zDq m n) h) hm,M4]
      simp
   obtain⟨n,hn⟩:=key t.D6 λk hk=>ih k hk (F5.IY ht hk);refine⟨n+1,?_⟩;rw[F5.Te]at ht;simp only[z5q,I9]at ht;rw[F5.O4,BL];simp only[zbq,zBq,y9q,yaq,zOq,hn,M4,F5.OW t,zeq];simp[ht.1,F5.O4]
def F5.texts:Prop:=p.name.size<=4294967000/\p.s.size<=4294967000
def F5.txt:Prop:=∀q∈p.subs,q.texts
def F5.B3C:p∈p.subs:=by rw[F5.OW];exact z4q ..
def F5.B4X{p k q:F5}(h:k∈p.D6)(hq:q∈k.subs):q∈p.subs:=by rw[F5.OW];exact z2q _ (zwq.2 ⟨k,h,hq⟩)
def F5.B5M{p k:F5}(h:p.txt)(hk:k∈p.D6):k.txt:=λq hq=>h q (F5.B4X hk hq)
end Go.Su

/-
 TERMS and EXPRESSIONS: what is said of them.
-/
namespace Go.Su
set_option linter.defProp false
structure F5.fit(p:F5):Prop where
 size:p.size<=R9
 txt:p.txt
variable {p:F5}
def F5.yE(h:p.fit):p.thin=true:=F5.Hm h.size
structure Ex.Sm(t:Ex):Prop where
 name:t.name.size<=4294967000
 arg:t.arg.size<=4294967000
 s:t.s.size<=4294967000
 a:t.a.thin=true
 b:t.b.thin=true
 avc:t.a.Dk<=R9
 bvc:t.b.Dk<=R9
 J8:t.J8.length<R9
 pat:∀p∈t.J8,p.fit
 D6:t.D6.length<R9
inductive Ex.fit:Ex->Prop where
 |mk (t:Ex):t.Sm->(∀k∈t.D6,k.fit)->t.fit
def Ex.fit.one{t:Ex}(h:t.fit):t.Sm:=by cases h;assumption
def Ex.fit.kid{t k:Ex}(h:t.fit)(hk:k∈t.D6):k.fit:=by cases h with | mk _ _ g=>exact g k hk
def F5.Tc(p:F5):p.size<=p.Y0:=by
 induction p using F5.ind with
 |h p ih=>
   rw[F5.size_eq,F5.CF];have key:∀ks:List F5,(∀k∈ks,k.size<=k.Y0)->(ks.map F5.size).sum<=(ks.map F5.Y0).sum:=by
    intro ks;induction ks with
    |nil=>simp
    |cons k ks ihk=>intro h;simp only[zeq,zsq];have:=h k (z4q ..);have:=ihk λk' FF=>h k' (z2q _ FF);omega
   have:=key p.D6 ih;omega
def F5.B3T:∀q∈p.subs,q.Y0<=p.Y0:=by
 induction p using F5.ind with
 |h p ih=>
   intro q hq;rw[F5.OW]at hq;rcases zkq.1 hq with rfl | hq
   ·exact z8q _
   ·obtain⟨k,hk,hq⟩:=zwq.1 hq;have:=ih k hk q hq;have:=F5.bJ hk;omega
def F5.aP(h:p.Y0<=4294967000):p.fit:=by refine⟨by have:=p.Tc;unfold R9;omega,λq hq=>?_⟩;have:=F5.B3T q hq;exact⟨by have:=q.uA;omega,by have:=q.A50;omega⟩
def B5K{l:List Nat}(h:∀a∈l,0<a):l.length<=l.sum:=by
 induction l with
 |nil=>simp
 |cons a l ih=>have:=h a (z4q ..);have:=ih λb hb=>h b (z2q _ hb);simp only[zbq,zsq];omega
def A8t{α : Type}{l:List α}{f : α->Nat}(h:∀a,0<f a):l.length<=(l.map f).sum:=by have:=B5K (l:=l.map f) (by intro a ha;obtain⟨x,_,rfl⟩:=List.mem_map.1 ha;exact h x);simpa using this
def B4Z{α : Type}{l:List α}{f : α->Nat}{a : α}(h:a∈l):f a<=(l.map f).sum:=JB (zuq (f:=f) h)
def Ex.aP{t:Ex}:t.Y0<=4294967000->t.fit:=by
 induction t using Ex.ind with
 |h t ih=>
   intro h;refine .mk t ⟨by have:=t.uA;omega,by have:=t.B3m;omega,by have:=t.A50;omega,Ty.Hm (by have:=t.A5X;unfold R9;omega),Ty.Hm (by have:=t.A5Y;unfold R9;omega),by have:=t.A5X;have:=t.a.iJ;unfold R9;omega,by have:=t.A5Y;have:=t.b.iJ;unfold R9;omega,?_,λp hp=>?_,?_⟩ λk hk=>ih k hk (by have:=Ex.bJ hk;omega)
   ·have:=t.uB;have:=A8t (l:=t.J8) F5.yU;unfold R9;omega
   ·have:=t.uB;have:=B4Z (f:=F5.Y0) hp;exact F5.aP (by omega)
   ·have:=t.A5Z;unfold R9;omega
def Ty.none(t:Ty):Bool:=decide (t.E8=0)&&decide (t.n=0)&&decide (t.D6.length=0)
def Ty.A58{t:Ty}:t.none=true↔t=.mk 0 0 []:=by unfold Ty.none;rw[Ty.aO];simp[and_assoc]
def Xz(h:Bool)(s:ByteArray):Bool:=if h=true then KA s else decide (s=Z5)
end Go.Su

/-
 TERMS, as the reference has them.
-/
namespace Go.Su
theorem A2Y:Z5.size=0:=rfl
end Go.Su

/-
 TYPES put for variables, types that agree, and the CHECKER of terms: what is said of them, FW any program.
-/
namespace Go.Su
def look(l:List (Int×Ty))(n:Int):Option Ty:=(l.find? λe=>decide (e.1=n)).map (·.2)
structure Nm where
 name:ByteArray
 ty:Ty
 vars:List Int
abbrev Res:=Except Int Ty
def takes(S:List Int)(l:List Int):Bool:=decide (l.Nodup)&&l.all λv=> !decide (v∈S)
abbrev Chk:=List Nm->List Int->Res
end Go.Su

/-
 FROM A READING TO DATA: binds, numbers, slices.
-/
namespace Go.Su
set_option linter.defProp false
section
variable {H:Type}{D9:TypeId×Value->H}{P:Program}{w:World}{held:Bool}
end
def A2o{P:Program}{w:World}{r:Reach}{b:Nat}{t:TypeId}{v:Value}{S:AU}{h':Heap}{k:IntKind}{n:Int}(ht:P.underlying t=some (.int k))(h:Value.okWide P w r b t v)(hr:RC S h' (.int k n) v.cells.toList):RV S h' (.int k n) v:=by
 unfold Value.okWide at h;rw[ht]at h;have hv:v.cells=#[v]:=by cases v<;>first | rfl | (exfalso;revert h;simp[Cell.okWide,Cell.ok,ht])
 rw[hv]at hr;simpa[RC,RV]using hr
section
variable {H:Type}{D9:TypeId×Value->H}{P:Program}{w:World}{base:Nat}{spare:Nat->Bool}{held:Bool}
end
end Go.Su

/-
 THE DATA MACHINE: the program's functions are what one step makes of them: as an equation; runs on closed data by rewriting.
-/
namespace Go.Su
set_option linter.defProp false
variable {C:BV}
def A8H:Nr (run C) (D_ C (run C)):=by
 constructor
 ·intro f ds d H;obtain⟨n,hn⟩:=vO.p f ds d H;cases n with
  |zero=>simp[NY]at hn
  |succ n=>exact(uU (vJ n)).p _ _ _ hn
 ·intro f rs sg q H;obtain⟨n,hn⟩:=vO.r f rs sg q H;cases n with
  |zero=>simp[NY]at hn
  |succ n=>exact(uU (vJ n)).r _ _ _ _ hn
variable {α : Type}
def A4U{x y:Option α}(h:∀a,x=some a->y=some a)(h':∀a,y=some a->x=some a):x=y:=by
 cases hx:x with
 |some a=>exact(h a hx).symm
 |none=>
   cases hy:y with
   |none=>rfl
   |some b=>have:=h' b hy;rw[hx]at this;cases this
variable {f:FuncId}{fn:Func}
def A5f{c:Code}{ds:List DV}(hp:C.uG f=none)(hf:C.P.funcs[f]?=some fn)(hb:fn.body=some c):
 (run C).p f ds=Ua C (run C) (C.fl f) (Wj C.P fn) [] c (I4 fn (ds.map λd=>(d,.val)) []):=by
 rw[A8i];have e:(D_ C (run C)).p f ds=AA C (run C) (C.fl f) c (Wj C.P fn) (I4 fn (ds.map λd=>(d,.val)) []):=by simp only[D_,hf,hb,M6]
 rw[<- e];exact A4U (λa h=>A8H.p _ _ _ h) (λa h=>A6D.p _ _ _ h)
def B4N{c:Code}{s:l8}{rs:List (DV×F4)}{sg:List E5}(hs:C.sig f=some s)(hf:C.P.funcs[f]?=some fn)(hb:fn.body=some c)(hp:C.B2P f=none:=by rfl):
 (run C).r f rs sg=Ua C (run C) (C.fl f) (bQ C.P fn s) [] c (I4 fn rs sg):=by
 rw[A8i];have e:(D_ C (run C)).r f rs sg=AA C (run C) (C.fl f) c (bQ C.P fn s) (I4 fn rs sg):=by simp only[D_,hs,hf,hb,M6]
 rw[<- e];exact A4U (λa h=>A8H.r _ _ _ _ h) (λa h=>A6D.r _ _ _ _ h)
def B9c{x y:Option (List DV×List E5)}(h:x=y)(k:DV->List E5->Option α):oc x k=oc y k:=by rw[h]
theorem B9d(v:DV)(l:List DV)(s:List E5)(k:DV->List E5->Option α):oc (some (v::l,s)) k=k v s:=rfl
end Go.Su

/-
 THE DATA MACHINE, part 36: a map's keys, collected by a loop and sorted.
-/
namespace Go.Su
set_option linter.defProp false
open Go.Sort
structure Tu where
 type:TypeId
 pos:String
 after:Array Edge
def Tu.mk'(r:Tu)(dst:Option Nat)(op:Op):Oper:=⟨dst,op,r.type,r.pos,r.after,none⟩
def B8p(P:Program):BV:={ P:=P,fl:=λ_=>{},sig:=λ_=>none,uG:=λ_=>none,clone:=λ_=>false,ib:=λ_=>0 }
section
variable {P:Program}{n:Nat}{ops:Array Oper}{Q:Exit->Act->World->Prop}{a:Act}{w w':World}{o:Oper}{rest:List Oper}{v:Value}
def Qy(hg:o.guard=none)(hd:∀c,o.op ≠ .defer c)(hr:(execOp a.eval o).run P w=.ok (.value v) w')(hk:wpListIn (J7 none) n P ops Q rest (a.put o.dst v) w'):wpListIn (J7 none) n P ops Q (o::rest) a w :=wpListIn_plain hg λK hK=>Gp.wpIn hd (Ay hr (hK _ _ hk))
def A3p{r:Tu}{t u:Nat}(hk:wpListIn (J7 none) n P ops Q rest (a.put (some t) (a.eval (.tmp u))) w):wpListIn (J7 none) n P ops Q (r.mk' (some t) (.move (.tmp u))::rest) a w :=Qy rfl (λc h=>by cases h) (by simp[Tu.mk',execOp]) hk
def A72{r:Tu}{t u:Nat}(hk:wpListIn (J7 none) n P ops Q rest (a.put (some t) (a.eval (.tmp u))) w):wpListIn (J7 none) n P ops Q (r.mk' (some t) (.assign (.tmp u))::rest) a w :=Qy rfl (λc h=>by cases h) (by simp[Tu.mk',execOp]) hk
end
end Go.Su

/-
 THE DATA MACHINE, part 37: the library's copy of a slice.
-/
namespace Go.Su
set_option linter.defProp false
variable (c:Code)(p:List Bool)
def B7a:List Oper :=
 match (sub p c []).1 with
 |.region _ ops _=>ops.toList
 |_=>[]
def opR(j:Nat):Tu :=
 match (B7a c p)[j]? with
 |some o=>⟨o.type,o.pos,o.after⟩
 |none=>⟨0, "",#[]⟩
def B81(j:Nat):TypeId :=
 match (B7a c p)[j]? with
 |some o=>
   match o.op with
   |.binOp _ _ _ _ t=>t
   |_=>0
 |none=>0
structure ClP where
 i0:Nat
 i1:Nat
 i2:Nat
 i3:Nat
 r0:Tu
 r1:Tu
 r2:Tu
 r3:Tu
 r4:Tu
 r5:Tu
 r6:Tu
 r7:Tu
 ts:TypeId
 ty:TypeId
def ClP.code(q:ClP):Code :=
 .seq (.region q.i0 #[q.r0.mk' (some 2) (.assign (.const (.slice none 0 0)))] false)
  (.seq (.seq (.region q.i1 #[q.r1.mk' (some 3) (.move (.tmp 0)),q.r2.mk' (some 4) (.binOp .eql q.ts (.tmp 3) (.const (.slice none 0 0)) q.ty)] false)
    (.cond (.tmp 4) (.seq (.region q.i2 #[q.r3.mk' (some 2) (.assign (.const (.slice none 0 0)))] false) .ret) .skip))
    (.seq (.region q.i3 #[q.r4.mk' (some 5) (.buildSlice q.ts 0 #[]),q.r5.mk' (some 6) (.move (.tmp 0)),q.r6.mk' (some 7) (.call { callee:=.builtin .append,args := #[.tmp 5,.tmp 6],argTypes := #[q.ts,q.ts] }),q.r7.mk' (some 2) (.assign (.tmp 7))] false) .ret))
section
variable {P:Program}{n:Nat}{ops:Array Oper}{Q:Exit->Act->World->Prop}{a:Act}{w:World}{rest:List Oper}{r:Tu}{t:Nat}
def uT{v:Value}(hk:wpListIn (J7 none) n P ops Q rest (a.put (some t) v) w):wpListIn (J7 none) n P ops Q (r.mk' (some t) (.assign (.const v))::rest) a w :=Qy rfl (λc h=>by cases h) (by simp[Tu.mk',execOp,Act.eval]) hk
def A73{u:Nat}{ts te ty:TypeId}{b:Option Addr}{l c:Nat}(hs:P.underlying ts=some (.slice te))(hv:a.eval (.tmp u)=.slice b l c)(hk:wpListIn (J7 none) n P ops Q rest (a.put (some t) (.bool b.isNone)) w):wpListIn (J7 none) n P ops Q (r.mk' (some t) (.binOp .eql ts (.tmp u) (.const (.slice none 0 0)) ty)::rest) a w:=by refine Qy (v:=.bool b.isNone) rfl (λc h=>by cases h) ?_ hk;simp only[Tu.mk',execOp,hv];exact CK (Go.Lib.run_eql_slice_nil w ts te b l c 0 0 hs)
theorem A2h{ts te:TypeId}{i:TypeInfo}(hs:P.underlying ts=some (.slice te))(hi:P.info? te=some i)(hk:wpListIn (J7 none) n P ops Q rest (a.put (some t) (.slice (some ⟨w.heap.size,0,none⟩) 0 0)) (w.alloc (.cells #[] te))):
 wpListIn (J7 none) n P ops Q (r.mk' (some t) (.buildSlice ts 0 #[])::rest) a w:=by
 refine Qy (v:=.slice (some ⟨w.heap.size,0,none⟩) 0 0) rfl (λc h=>by cases h) ?_ hk;simp only[Tu.mk',execOp];refine CK ?_;unfold Instr.buildSlice;have Cw:(sizeOf te).run P w=.ok i.size w:=by simp[sizeOf,typeInfo,hi]
 simp only[Sem.run_bind,run_underlying hs,Result.andThen_ok,Cw,Sem.run_ite];rw[A7 (by simp),C8 (by simp)];simp only[Sem.run_pure,Result.andThen_ok];have:Instr.fill (λj=>some (j * i.size,i.size)) ((Array.range (0 * i.size)).map ((#[]:Array Value)[· % (#[]:Array Value).size]!)) (Array.map (λx:Nat×Operand=>(x.1,a.eval x.2)) #[]).toList=some #[]:=by rw[ykq];simp[Instr.fill]
 simp only[this];rfl
end
def B2J{P:Program}{f:FuncId}{fn:Func}{q:ClP}{sz:Nat}(Cw:uk P q.ts q.ts=some sz)(hf:P.funcs[f]?=some fn)(hb:fn.body=some q.code)(B3c:fn.results=#[.tmp 2])(hnt:fn.ntmps=8):ug P f sz:=by
 intro S w v ds hl hS hv;obtain⟨e,e',z,inf,zv,hu,Bv,hz,HZ,hpos,Ap,Uu,RQ,Vu⟩:=UO Cw;rw[hu]at Bv;simp only[D8,TypeDesc.slice.injEq]at Bv;subst Bv;have Cq:inf.size=sz:=by obtain⟨i',d',q1,-,q2,-⟩:=IU hz;rw[Ap]at q1;simp only[D8]at q1;rw[<- HZ,q2,q1]
 obtain⟨b,len,cap,all,rfl,f1,f2,f3,f4,f5,f6,f7⟩:=Ku (P:=P) hv;have fin:∀(a:Act)(v:Value)(w1:World),a.defers=[]->a.tmps.getD 2 undef=v->∀R:Ending->World->Prop,R (.returned v) w1->bodyPost P fn R .ret a w1:=by intro a v w1 h1 h2 R h3;refine⟨h1,v,?_,h3⟩;rw[nT,B3c,<- h2];simp[Mi]
 refine(callsIn_wide (n:=0)).1 (callsIn_of_wp hf hb trivial ?_);rw[hnt];show Code.wpIn (J7 none) 0 P _ _ _ _;have B8A:(#[Value.slice b len cap]++Array.replicate (8 - #[Value.slice b len cap].size) undef:Array Value)=#[.slice b len cap,undef,undef,undef,undef,undef,undef,undef]:=by rfl
 rw[B8A];refine wpIn_seq (wpIn_region_list (show wpListIn _ _ _ _ _ [_] _ _ from uT ?_));refine wpIn_seq (wpIn_seq (wpIn_region_list (show wpListIn _ _ _ _ _ [_,_] _ _ from A3p (A73 (b:=b) (l:=len) (c:=cap) hu rfl ?_))));cases b with
 |none=>have h0:=f3 rfl;have Yn:ds=[]:=zfq (by omega);subst Yn;refine wpIn_cond_true rfl (wpIn_seq (wpIn_region_list (show wpListIn _ _ _ _ _ [_] _ _ from uT ?_)));show Code.wpIn _ _ _ Code.ret _ _ _;refine wpIn_ret ?_;dsimp only[Exit.then];exact fin _ _ _ rfl rfl _ ⟨none,0,0,0,rfl,by simp,by simp,by simp,by simp,z8q _,Y9.refl _,λ_ _=>rfl,by simp⟩
 |some p=>
   refine wpIn_cond_false rfl (wpIn_skip ?_);refine wpIn_seq (wpIn_region_list (show wpListIn _ _ _ _ _ [_,_,_,_] _ _ from A2h hu Ap (A3p ?_)));have hw1:∀w':World,w'.heap=(w.alloc (.cells #[] e)).heap->(Builtin.firstCells sz len (Value.slice (some p) len cap)).run P w'=.ok all.toArray w':=by
    intro w' hw';show(loadCells p (len * sz)).run P w'=_;obtain⟨hp,hc⟩:=f5 p rfl;have xJ:len * sz=all.length:=by rw[f4.1,f1]
    by_cases h0:0<cap
    ·rw[xJ,hp h0];refine WX λj u hu=>?_;rw[hw'];have h3:=(hc j u hu).1;have h4:w.heap[p.block]?≠none:=λh=>by simp[Su.hc,h]at h3
     have h5:p.block<w.heap.size:=by
      rcases zrq p.block w.heap.size with h | h
      ·exact h
      ·exact absurd (Array.getElem?_eq_none h) h4
     unfold Su.hc at h3 ⊢;rw[show(w.alloc (.cells #[] e)).heap[p.block]?=w.heap[p.block]? from Go.RowKit.Below.heap_alloc _ _ _ h5];exact h3
    ·have h0:len=0:=by omega
     have h9:all=[]:=zfq (by rw[<- xJ,h0];simp);rw[h9,h0,ykq];rfl
   have go:∀(v':Value)(w':World),(Builtin.append_ #[q.ts,q.ts] q.r6.type #[.slice (some ⟨w.heap.size,0,none⟩) 0 0,.slice (some p) len cap]).run P (w.alloc (.cells #[] e))=.ok v' w'->∀R:Ending->World->Prop,R (.returned v') w'->
    wpListIn (J7 none) 0 P #[q.r4.mk' (some 5) (.buildSlice q.ts 0 #[]),q.r5.mk' (some 6) (.move (.tmp 0)),q.r6.mk' (some 7) (.call { callee:=.builtin .append,args := #[.tmp 5,.tmp 6],argTypes := #[q.ts,q.ts] }),q.r7.mk' (some 2) (.assign (.tmp 7))]
     (Exit.then (Code.ret.wpIn (J7 none) 0 P (bodyPost P fn R)) (bodyPost P fn R)) [q.r6.mk' (some 7) (.call { callee:=.builtin .append,args := #[.tmp 5,.tmp 6],argTypes := #[q.ts,q.ts] }),q.r7.mk' (some 2) (.assign (.tmp 7))]
     { tmps := #[.slice (some p) len cap,undef,.slice none 0 0,.slice (some p) len cap,.bool false,.slice (some ⟨w.heap.size,0,none⟩) 0 0,.slice (some p) len cap,undef],defers:=[] } (w.alloc (.cells #[] e)):=by
    intro v' w' hr R hR;refine Qy (v:=v') (w':=w') rfl (λc h=>by cases h) ?_ (A72 ?_)
    ·refine Gy (C:=B8p P) (b:=.append) rfl rfl ?_;simp only[List.map_toArray,zeq,zUq];exact CK hr
    ·show Code.wpIn _ _ _ Code.ret _ _ _;refine wpIn_ret ?_;show bodyPost P fn R .ret _ _;exact fin _ _ _ rfl rfl _ hR
   by_cases Yn:ds=[]
   ·subst Yn;have h0:len=0:=f1;have h9:all=[]:=zfq (by rw[f4.1];simp);refine go _ (w.alloc (.cells #[] e)) (IM (n:=len) hu hu Ap (xO _ _ _) (by rw[Cq];exact hw1 _ rfl) (by omega) (by rw[h9];simp[storeCells])) _ ⟨some ⟨w.heap.size,0,none⟩,0,0,0,?_,by simp,by simp,by simp,by simp,by simp,⟨rfl,rfl,rfl⟩,λb' P_=>Go.RowKit.Below.heap_alloc _ _ _ P_,by simp⟩;simp[h0]
   ·have GH:0<len:=by rw[f1];exact List.length_pos_iff.2 Yn
    obtain⟨nc,hnc,hr⟩:=run_append_grow (P:=P) (t:=q.ts) (u:=q.ts) (ty:=q.r6.type) (b:=some ⟨w.heap.size,0,none⟩) (len:=0) (cap:=0) (n:=len) (all:=[]) (all':=all) (v:=.slice (some p) len cap) (w:=w.alloc (.cells #[] e)) hu hu Ap (xO _ _ _) (by rw[Cq];exact hw1) (λw' _=>by show(loadCells _ (0 * inf.size)).run P w'=_;rw[ykq];rfl) RQ (by omega) (by unfold R9 at hl;omega) Uu;simp only[znq,List.nil_append]at hr;have B3d:(w.alloc (.cells #[] e)).heap.size=w.heap.size+1:=by simp
    refine go _ _ hr _ ⟨_,w.heap.size+1,0,nc,by rw[f1,B3d],λ_=>rfl,by omega,by simp,λx hx=>?_,?_,⟨rfl,rfl,rfl⟩,λb' P_=>?_,λ_=>⟨by omega,(all++(Builtin.zeroCells zv.cells (nc-len)).toList).toArray,e,?_,?_,hpos,λj d hj=>?_⟩⟩
    ·simp only[D8]at hx;subst hx;rfl
    ·simp;omega
    ·refine(Go.RowKit.Below.heap_alloc _ _ _ (by show b'<(w.alloc (.cells #[] e)).heap.size;omega)).trans ?_;exact Go.RowKit.Below.heap_alloc _ _ _ P_
    ·rw[<- B3d];exact World.alloc_heap_new _ _
    ·simp[f4.1]
    ·obtain⟨vs,v1,v2,v3⟩:=f4.2 j d hj;refine⟨vs,v1,λx u hx=>?_,v3.mono ⟨λ_ _ h=>h,λb o v hs hv=>?_⟩⟩
     ·have h1:=v2 x u hx;have h2:=(z0q.1 h1).1;rw[znq,List.getElem?_toArray,zdq h2];exact h1
     ·have hb:b<w.heap.size:=by
       rcases zrq b w.heap.size with h | h
       ·exact h
       ·exact absurd hs (hS b o h)
      unfold Su.hc at hv ⊢;have e1:((w.alloc (.cells #[] e)).drew.alloc (.cells (all++(Builtin.zeroCells zv.cells (nc-len)).toList).toArray e)).heap[b]?=w.heap[b]? :=(Go.RowKit.Below.heap_alloc _ _ _ (by show b<(w.alloc (.cells #[] e)).heap.size;omega)).trans (Go.RowKit.Below.heap_alloc _ _ _ hb)
      rw[e1];exact hv
end Go.Su

/-
 MAPS of numbers and texts in the shared part, cells of the shared part.
-/
namespace Go.Su
set_option linter.defProp false
variable (es:List (DV×DV))
def SA(c:Int->Int):Prop:=∀v,(Y1 es (.int .i64 v)).getD (.int .i64 0)=.int .i64 (c v)
theorem SA.nil:SA [] λ_=>0:=λ_=>rfl
variable {es:List (DV×DV)}
def SA.set{c:Int->Int}(h:SA es c)(a n:Int):SA (Bt es (.int .i64 a) (.int .i64 n)) λv=>if a=v then n else c v:=by
 intro v;rw[tq];by_cases e:a=v
 ·simp[e]
 ·simp[e,h v]
variable {sg:List E5}{i:Nat}
def A6I{x:Bool×List (DV×DV)}(h:S9 sg i=some x):i<sg.length:=by
 unfold S9 at h;cases hi:sg[i]? with
 |none=>rw[hi]at h;cases h
 |some o=>exact(z0q.1 hi).1
def B1Z(h:i<sg.length)(ks:Bool)(es:List (DV×DV)):S9 (sg.set i (.map ks es)) i=some (ks,es):=by unfold S9;rw[zVq h]
def B3E{ks:Bool}(h:S9 sg i=some (ks,es)):sg.set i (.map ks es)=sg:=by
 have hl:=A6I h;unfold S9 at h;have hg:sg[i]?=some sg[i]:=z3q hl;rw[hg]at h;have e:sg[i]=.map ks es:=by
  cases hx:sg[i]with
  |map a b=>rw[hx]at h;simp at h;rw[h.1,h.2]
  |_=>rw[hx]at h;cases h
 rw[<- e];exact List.set_getElem_self hl
def CV{x:List (DV×F4)}(h:H5 sg i=some x):i<sg.length:=by
 unfold H5 at h;cases hi:sg[i]? with
 |none=>rw[hi]at h;cases h
 |some o=>exact(z0q.1 hi).1
@[simp] theorem B84(a:DV)(l:List DV):Q3 0 (.J9 (a::l))=some a:=rfl
@[simp] theorem B85(a b:DV)(l:List DV):Q3 1 (.J9 (a::b::l))=some b:=rfl
@[simp] theorem B86(a b c:DV)(l:List DV):Q3 2 (.J9 (a::b::c::l))=some c:=rfl
@[simp] theorem B87(a b c d:DV)(l:List DV):Q3 3 (.J9 (a::b::c::d::l))=some d:=rfl
def B2M{α : Type}{e : α->DV}{sz:Nat}{l:List α}{x : α}(h:l.length<R9):EP sz (.list sz (l.map e)) (.list sz [e x])=some (.list sz ((l++[x]).map e)):=by rw[Kn (by simp;omega)];simp
end Go.Su

/-
 PATTERNS and types: what is bound.
-/
namespace Go.Su
end Go.Su

/-
 The CHECKER of terms, E8 by E8.
-/
namespace Go.Su
end Go.Su

/-
 The CHECKER: which errors there are; how many names stand at once; scopes as maps of counters.
-/
namespace Go.Su
end Go.Su

/-
 The CHECKER: a term's type has no variables but those in scope.
-/
namespace Go.Su
end Go.Su

/-
 NAMES THAT ARE FREE: rows that rise, what a term binds, which names are free in it.
-/
namespace Go.Su
def B6H(s:ByteArray):List UInt8:=s.data.toList
def B8c(a b:ByteArray):Bool:=decide (B6H a<B6H b)
def rise:List ByteArray->ByteArray->List ByteArray
 |[],s=>[s]
 |x::l,s=>if B8c x s=true then x::rise l s else if x=s then x::l else s::x::l
end Go.Su

/-
 A closed term put for a name that has no variables.
-/
namespace Go.Su
end Go.Su

/-
 A closed term put for a name: what it makes of free names, in which order two are put.
-/
namespace Go.Su
end Go.Su

/-
 EXPRESSIONS: what is right, what is free, what is put for a name.
-/
namespace Go.Su
set_option linter.defProp false
variable (k:Int)
def AQ:Bool:=decide (k=1\/k=9\/k=11\/k=12)
def Bl:Bool:=decide (k=12)
def eN:Bool:=decide (k=2\/k=3)
def eS:Bool:=decide (k=4)
def Dq:Bool:=decide (k=16)
def eA:Bool:=decide (k=9\/k=11\/k=12\/k=15)
def eB:Bool:=decide (k=12)
def Ao:Bool:=decide (k=15)
def Jf(np:Nat):Bool:=decide (1<=k)&&decide (k<=16)&&(!decide (k=14)||decide (0<np))
def O5(np:Nat):Int :=if k=6\/k=8\/k=10\/k=11\/k=12\/k=16 then 2 else if k=9\/k=15 then 1 else if k=13 then 3 else if k=14 then np+1 else 0
def Ty.closed(t:Ty):Bool:=t.right&&t.FW 6
def XE(has must:Bool)(t:Ty):Bool:=if t.none=true then !must else has&&t.closed
variable (t:Ex)
def Ex.A1V:Bool:=t.J8.all F5.right
def Ex.uE:Bool:=XE (eB t.E8) false t.b&&t.A1V
def Ex.iC:Bool:=XE (eA t.E8) (Ao t.E8) t.a&&t.uE
def Ex.yf:Bool:=(!Dq t.E8||(decide (1<=t.op)&&decide (t.op<=7)))&&(Dq t.E8||decide (t.op=0))&&t.iC
def Ex.yc:Bool:=(eS t.E8||decide (t.s=Z5))&&decide (t.s.size<=200)&&t.yf
def Ex.yZ:Bool:=(eN t.E8||decide (t.n=0))&&(!decide (t.E8=3)||decide (t.n=0)||decide (t.n=1))&&t.yc
def Ex.yY:Bool:=Xz (Bl t.E8) t.arg&&t.yZ
def Ex.yX:Bool:=Xz (AQ t.E8) t.name&&t.yY
def Ex.one:Bool:=Jf t.E8 t.J8.length&&decide ((t.D6.length:Int)=O5 t.E8 t.J8.length)&&(decide (t.E8=14)||decide (t.J8.length=0))&&t.yX
def Ex.right:Ex->Bool
 |.mk a b c d e f g h i j k ks=>Ex.one (.mk a b c d e f g h i j k ks)&&(ks.map Ex.right).all id
def Ex.right_eq:t.right=(t.one&&t.D6.all Ex.right):=by cases t;rw[Ex.right];simp[zKq]
def Ex.YD{t:Ex}(h:t.right=true):t.one=true:=by rw[Ex.right_eq,z5q]at h;exact h.1
def Ex.Hf{t k:Ex}(h:t.right=true)(hk:k∈t.D6):k.right=true:=by rw[Ex.right_eq,z5q,z7q]at h;exact h.2 k hk
def Ex.B3q{t:Ex}(h:t.one=true):(t.D6.length:Int)=O5 t.E8 t.J8.length:=by unfold Ex.one at h;simp only[z5q,I9]at h;exact h.1.1.2
def Ex.subs:Ex->List Ex
 |.mk a b c d e f g h i j k ks=>.mk a b c d e f g h i j k ks::(ks.map Ex.subs).flatten
theorem Ex.OW:t.subs=t::t.D6.flatMap Ex.subs:=by cases t;rw[Ex.subs];rfl
def Ex.B0e:t.right=t.subs.all Ex.one:=by
 induction t using Ex.ind with
 |h t ih=>
   rw[Ex.right_eq,Ex.OW];simp only[yiq,yoq]
   congr 1;rw[y4q];simp only[z7q];constructor
   ·intro h k hk x hx;have:=h k hk;rw[ih k hk]at this;exact z7q.1 this x hx
   ·intro h k hk;rw[ih k hk];exact z7q.2 (h k hk)
def Ex.B4M{p:Ex}:p.fit->∀q∈p.subs,q.fit:=by
 induction p using Ex.ind with
 |h p ih=>
   intro h q hq;rw[Ex.OW]at hq;rcases zkq.1 hq with rfl | hq
   ·exact h
   ·obtain⟨k,hk,hq⟩:=zwq.1 hq;exact ih k hk (h.kid hk) q hq
def B4O:t.fit->∃n,BL 16 15 n t.D9=some (t.subs.map Ex.D9):=by
 induction t using Ex.ind with
 |h t ih=>
   intro ht;have key:∀ks:List Ex,(∀k∈ks,∃n,BL 16 15 n k.D9=some (k.subs.map Ex.D9))->∃n,NP (BL 16 15 n) (ks.map Ex.D9)=some ((ks.flatMap Ex.subs).map Ex.D9):=by
    intro ks;induction ks with
    |nil=>intro _;exact⟨0,rfl⟩
    |cons k ks ihk=>
      intro h;obtain⟨n,hn⟩:=h k (z4q ..);obtain⟨m,hm⟩:=ihk λk' FF=>h k' (z2q _ FF);refine⟨n+m,?_⟩;simp only[zeq,NP,WS (zzq n m) hn,ZJ (λd l h=>WS (zDq m n) h) hm,M4]
      simp
   obtain⟨n,hn⟩:=key t.D6 λk hk=>ih k hk (ht.kid hk);refine⟨n+1,?_⟩;have hl:=Nat.le_of_lt ht.one.D6;rw[Ex.O4,BL];simp only[zbq,zBq,y9q,yaq,zOq,hn,M4,Ex.OW t,zeq];simp[hl,Ex.O4]
def Ex.Tc:t.size<=t.Y0:=by
 induction t using Ex.ind with
 |h t ih=>
   rw[Ex.size_eq,Ex.CF];have key:∀ks:List Ex,(∀k∈ks,k.size<=k.Y0)->(ks.map Ex.size).sum<=(ks.map Ex.Y0).sum:=by
    intro ks;induction ks with
    |nil=>simp
    |cons k ks ihk=>intro h;simp only[zeq,zsq];have:=h k (z4q ..);have:=ihk λk' FF=>h k' (z2q _ FF);omega
   have:=key t.D6 ih;omega
def Ex.value:Ex->Bool
 |.mk k _ _ _ _ _ _ _ _ _ _ ks=>if k=1\/k=2\/k=3\/k=4\/k=5\/k=7\/k=9 then true else if k=6\/k=8 then((ks.map Ex.value).take 2).all id else false
theorem Ex.B3Z:t.value=if t.E8=1\/t.E8=2\/t.E8=3\/t.E8=4\/t.E8=5\/t.E8=7\/t.E8=9 then true else if t.E8=6\/t.E8=8 then(t.D6.take 2).all Ex.value else false:=by cases t;rw[Ex.value];simp only[Ex.JV,Ex.X0,<- List.map_take,zKq];rfl
end Go.Su

/-
 EXPRESSIONS: how deep, how great, FW places, their annotations.
-/
namespace Go.Su
def most{α : Type}(f : α->Nat)(l:List α)(n:Nat):Nat:=l.foldl (λa k=>max a (f k)) n
end Go.Su

/-
 EXPRESSIONS: other annotations in the places of its own.
-/
namespace Go.Su
def part{α : Type}(g : α -> α)(l:List α)(j:Nat):List α:=(l.take j).map g++l.drop j
end Go.Su

/-
 EXPRESSIONS WITHOUT TYPES: what a step comes to.
-/
namespace Go.Su
structure R3 where
 E8:Int
 lo:Int
 hi:Int
end Go.Su

/-
 EXPRESSIONS WITHOUT TYPES: a step leaves closed what is closed.
-/
namespace Go.Su
end Go.Su

/-
 THE CHECKER: what a type B89 on; a closed term put for a name.
-/
namespace Go.Su
section
variable {t:Tm}{ks:List Tm}{fs gs:List Chk}{L M:List Nm}{S Q:List Int}
end
end Go.Su

/-
 TERMS: types put for variables.
-/
namespace Go.Su
end Go.Su

/-
 TERMS: types put for variables leave a right term right.
-/
namespace Go.Su
end Go.Su

/-
 THE CHECKER OF TERMS: what has a type is turned by no types put for variables that it neither binds nor has in scope.
-/
namespace Go.Su
end Go.Su

/-
 EXPRESSIONS WITHOUT TYPES: a step leaves closed what is closed.
-/
namespace Go.Su
end Go.Su

/-
 EXPRESSIONS WITHOUT TYPES: a step leaves closed what is closed.
-/
namespace Go.Su
end Go.Su

/-
 EXPRESSIONS WITHOUT TYPES: how great what stands at one place may become.
-/
namespace Go.Su
end Go.Su

/-
 EXPRESSIONS WITHOUT TYPES: a run, and what it tells.
-/
namespace Go.Su
end Go.Su

/-
 EXPRESSIONS WITHOUT TYPES: a run is its steps, and then reading.
-/
namespace Go.Su
end Go.Su

/-
 EXPRESSIONS WITHOUT TYPES: annotations turn nothing of a run.
-/
namespace Go.Su
end Go.Su

/-
 TERMS: a term put for a name, its variables for the name's types.
-/
namespace Go.Su
end Go.Su

/-
 TERMS: what a substitution with variables leaves is within bounds.
-/
namespace Go.Su
end Go.Su

/-
 STORES OF TYPES that are not known yet: nodes, what they stand for, what is within them; what the operations make of a store.
-/
namespace Go.Su
set_option linter.defProp false
noncomputable section
structure Nd where
 E8:Nat
 level:Nat
 link:Option Nat
 D6:List Nat
structure E9 where
 l:List Nd
 mx:Nat
 cnt:Nat
 J7:Nat
inductive NT where
 |mk (r k:Nat) (D6:List NT)
def NT.r:NT->Nat | .mk r _ _=>r
def NT.k:NT->Nat | .mk _ k _=>k
def NT.D6:NT->List NT | .mk _ _ ts=>ts
@[simp] theorem NT.Jm(r k:Nat)(ts:List NT):(NT.mk r k ts).r=r:=rfl
@[simp] theorem NT.WW(r k:Nat)(ts:List NT):(NT.mk r k ts).k=k:=rfl
@[simp] theorem NT.X0(r k:Nat)(ts:List NT):(NT.mk r k ts).D6=ts:=rfl
variable {t:NT}
def NT.Jk{k:NT}(h:k∈t.D6):SizeOf.sizeOf k<SizeOf.sizeOf t:=by cases t;simp only[NT.X0]at h;have:=zvq h;simp only[NT.mk.sizeOf_spec];omega
def NT.ind{P:NT->Prop}(h:∀r k ts,(∀t∈ts,P t)->P (.mk r k ts))(t:NT):P t:=by
 cases t with
 |mk r k ts=>exact h r k ts λt ht=>NT.ind h t
termination_by SizeOf.sizeOf t
decreasing_by subst_vars;exact NT.Jk (t:=.mk r k ts) ht
inductive X5(S:E9):Nat->Nat->Prop
 |here {n:Nat} {d:Nd}:S.l[n]?=some d->d.link=none->X5 S n n
 |step {n m r:Nat} {d:Nd}:S.l[n]?=some d->d.link=some m->X5 S m r->X5 S n r
inductive U8(S:E9):Nat->NT->Prop
 |mk {n r:Nat} {d:Nd} {ts:List NT}:X5 S n r->S.l[r]?=some d->d.D6.length=ts.length->(∀(i:Nat)(h:i<d.D6.length)(h':i<ts.length),U8 S d.D6[i] ts[i])->U8 S n (.mk r d.E8 ts)
variable {S:E9}{n:Nat}
def X5.lt{r:Nat}(h:X5 S n r):n<S.l.length:=by
 cases h with
 |here h _=>exact(z0q.1 h).1
 |step h _ _=>exact(z0q.1 h).1
def X5.top{r:Nat}(h:X5 S n r):∃d,S.l[r]?=some d/\d.link=none:=by
 induction h with
 |here h1 h2=>exact⟨_,h1,h2⟩
 |step _ _ _ ih=>exact ih
def X5.uniq{r q:Nat}(h:X5 S n r)(h':X5 S n q):r=q:=by
 induction h generalizing q with
 |here h1 h2=>
   cases h' with
   |here=>rfl
   |step g1 g2 _=>rw[h1]at g1;cases g1;rw[h2]at g2;cases g2
 |step h1 h2 _ ih=>
   cases h' with
   |here g1 g2=>rw[h1]at g1;cases g1;rw[h2]at g2;cases g2
   |step g1 g2 g3=>rw[h1]at g1;cases g1;rw[h2]at g2;cases g2;exact ih g3
def X5.self{r:Nat}(h:X5 S n r):X5 S r r:=by obtain⟨d,h1,h2⟩:=h.top;exact .here h1 h2
def U8.root(h:U8 S n t):X5 S n t.r:=by cases h;assumption
def U8.uniq{u:NT}(h:U8 S n t)(h':U8 S n u):t=u:=by
 induction h generalizing u with
 |mk h1 h2 h3 _ ih=>
   cases h' with
   |mk g1 g2 g3 g4=>cases h1.uniq g1;rw[h2]at g2;cases g2;congr 1;refine List.ext_getElem (by omega) λi a b=>ih i (by omega) a (g4 i (by omega) b)
def U8.lt(h:U8 S n t):n<S.l.length:=h.root.lt
def U8.Hg(h:U8 S n t):t.r<S.l.length:=h.root.self.lt
def U8.nd(h:U8 S n t):∃d,S.l[t.r]?=some d/\d.link=none/\d.E8=t.k/\d.D6.length=t.D6.length/\∀(i:Nat)(h:i<d.D6.length)(h':i<t.D6.length),U8 S d.D6[i] t.D6[i]:=by
 cases h with
 |mk h1 h2 h3 h4=>obtain⟨e,g1,g2⟩:=h1.top;rw[h2]at g1;cases g1;exact⟨_,h2,g2,rfl,h3,h4⟩
def U8.self(h:U8 S n t):U8 S t.r t:=by cases h with | mk h1 h2 h3 h4=>exact .mk h1.self h2 h3 h4
namespace E9
variable (S:E9)
def L6(n:Nat):NT:=open Classical in if h:∃t,U8 S n t then h.choose else .mk n 0 []
def root(n:Nat):Nat:=(S.L6 n).r
def F9(r:Nat):Nat:=((S.l[r]?).map Nd.E8).getD 0
def X8(r:Nat):Nat:=((S.l[r]?).map Nd.level).getD 0
def I5(r:Nat):List Nat:=((S.l[r]?).map Nd.D6).getD []
end E9
def U8.eq(h:U8 S n t):S.L6 n=t:=by have:∃t,U8 S n t:=⟨t,h⟩;unfold E9.L6;rw[dif_pos this];exact this.choose_spec.uniq h
def U8.Hl(h:U8 S n t):S.root n=t.r:=by unfold E9.root;rw[h.eq]
variable {r:Nat}
def X5.eq(h:X5 S n r)(w:∃t,U8 S n t):S.root n=r:=by obtain⟨t,ht⟩:=w;rw[ht.Hl];exact ht.root.uniq h
variable {d:Nd}
theorem Dv(h:S.l[r]?=some d):S.F9 r=d.E8:=by unfold E9.F9;rw[h];rfl
theorem nG(h:S.l[r]?=some d):S.X8 r=d.level:=by unfold E9.X8;rw[h];rfl
theorem Du(h:S.l[r]?=some d):S.I5 r=d.D6:=by unfold E9.I5;rw[h];rfl
mutual
def NT.look:NT->List Nat->List Nat
 |.mk r _ ts,o=>if r∈o then o else NT.VF ts (o++[r])
def NT.VF:List NT->List Nat->List Nat
 |[],o=>o
 |t::ts,o=>NT.VF ts (t.look o)
end
mutual
def NT.has(K:List Nat):NT->Bool
 |.mk r _ ts=>decide (r∈K)||NT.aj K ts
def NT.aj(K:List Nat):List NT->Bool
 |[]=>false
 |t::ts=>t.has K||NT.aj K ts
end
mutual
def NT.Bh(m:Nat):NT->Nat
 |.mk _ _ ts=>NT.IR m ts 1
def NT.IR(m:Nat):List NT->Nat->Nat
 |[],k=>k
 |t::ts,k=>NT.IR m ts (min (k+t.Bh m) (m+1))
end
mutual
def NT.ty:NT->Ty
 |.mk r k ts=>.mk k (if k=6 then r else 0) (NT.tyL ts)
def NT.tyL:List NT->List Ty
 |[]=>[]
 |t::ts=>t.ty::NT.tyL ts
end
theorem NT.A7c:∀ts:List NT,NT.tyL ts=ts.map NT.ty
 |[]=>by simp[NT.tyL]
 |t::ts=>by rw[NT.tyL,NT.A7c ts];rfl
def bI(l:List Nd)(vs:List Nat)(A8:Nat):List Nd:=vs.foldl (λl v=>l.modify v λd=>{ d with level:=min d.level A8 }) l
namespace E9
variable (S:E9)
def tick:E9:={ S with J7:=S.J7+1 }
def roots(n:Nat):List Nat:=(S.L6 n).look []
def vars(n:Nat):List Nat:=(S.roots n).filter λr=>S.F9 r==6
def lower(n A8:Nat):E9:={ S.tick with l:=bI S.l (S.vars n) A8 }
def BM(r t:Nat):E9:={ S with l:=S.l.modify r λd=>{ d with link:=some t } }
def link(v n:Nat):E9×Nat :=
 if S.F9 (S.root v)≠6\/S.root v=S.root n then(S,1)
 else if S.root v∈S.roots n then(S.tick,5)
 else((S.tick.BM (S.root v) (S.root n)).lower (S.root n) (S.X8 (S.root v)),0)
def add(d:Nd):E9:={ S with l:=S.l++[d],cnt:=S.cnt+1 }
def var(A8:Nat):E9×Nat×Nat:=if S.cnt=S.mx then(S,0,7)else(S.add ⟨6,A8,none,[]⟩,S.l.length,0)
def make(k a b:Nat):E9×Nat×Nat:=if S.cnt=S.mx then(S,0,7)else(S.add ⟨k,0,none,if k=8 then[a]else[a,b]⟩,S.l.length,0)
end E9
mutual
def JA:Ty->Nat
 |.mk _ _ ts=>if ts.length=0 then 0 else 1+Bc ts
def Bc:List Ty->Nat
 |[]=>0
 |t::ts=>JA t+Bc ts
end
mutual
def La:Ty->E9->E9×Nat
 |.mk k _ ts,S=>if ts.length=0 then(S,(k-1).toNat)else((BR ts S).1.add ⟨k.toNat,0,none,(BR ts S).2⟩,(BR ts S).1.l.length)
def BR:List Ty->E9->E9×List Nat
 |[],S=>(S,[])
 |t::ts,S=>((BR ts (La t S).1).1,(La t S).2::(BR ts (La t S).1).2)
end
def E9.put(S:E9)(t:Ty):E9×Nat×Nat:=if JA t>S.mx-S.cnt then(S,0,7)else((La t S).1,(La t S).2,0)
def zTy:Ty:=.mk 0 0 []
variable (K:List (Nat×Nat))
def Gh(r:Nat):Option Nat:=(K.find? λe=>e.1==r).map (·.2)
mutual
def NT.copy(K:List (Nat×Nat)):NT->E9×List (Nat×Nat)->Nat×E9×List (Nat×Nat)
 |.mk r k ts,q=>
   match Gh K r with
   |some t=>(t,q)
   |none=>
     if (NT.mk r k ts).has (K.map (·.1))=false then(r,q)
     else match Gh q.2 r with
      |some m=>(m,q)
      |none=>((NT.T9 K ts q).2.1.l.length,(NT.T9 K ts q).2.1.add ⟨k,0,none,(NT.T9 K ts q).1⟩,(NT.T9 K ts q).2.2++[(r,(NT.T9 K ts q).2.1.l.length)])
def NT.T9(K:List (Nat×Nat)):List NT->E9×List (Nat×Nat)->List Nat×E9×List (Nat×Nat)
 |[],q=>([],q)
 |t::ts,q=>((t.copy K q).1::(NT.T9 K ts (t.copy K q).2).1,(NT.T9 K ts (t.copy K q).2).2)
end
namespace E9
variable (S:E9)
def keys:List Nat->List Nat->List (Nat×Nat)->Option (List (Nat×Nat))
 |[],_,K=>some K
 |f::fs,ts,K=>if S.F9 (S.root f)=6/\S.root f∉K.map (·.1)then keys fs ts.tail (K++[(S.root f,ts.headD 0)])else none
def need(K:List (Nat×Nat))(n:Nat):Nat:=((S.roots n).filter λr=>S.F9 r != 6&&(S.L6 r).has (K.map (·.1))).length
def copy(n:Nat)(from_ to:List Nat):E9×Nat×Nat :=
 match S.keys from_ to []with
 |none=>(S,0,1)
 |some K=>if S.need K n>S.mx-S.cnt then(S.tick,0,7)else(((S.L6 n).copy K (S.tick,[])).2.1,((S.L6 n).copy K (S.tick,[])).1,0)
def read(n:Nat):E9×Ty×Nat :=
 if (S.L6 n).Bh (S.mx-S.cnt)>S.mx-S.cnt then(S,zTy,7)
 else({ S with cnt:=S.cnt+(S.L6 n).Bh (S.mx-S.cnt) },(S.L6 n).ty,0)
def fresh(A8:Nat):Nat->E9->E9×List Nat×Nat
 |0,S=>(S,[],0)
 |k+1,S=>if (S.var A8).2.2=0 then((fresh A8 k (S.var A8).1).1,(S.var A8).2.1::(fresh A8 k (S.var A8).1).2.1,(fresh A8 k (S.var A8).1).2.2)else((S.var A8).1,[],(S.var A8).2.2)
def become(v w:Nat):E9×Option Nat×Nat :=
 if S.F9 w=6 then((S.link v w).1,none,(S.link v w).2)
 else if 4∉S.roots w then((S.tick.link v w).1,none,(S.tick.link v w).2)
 else if v∈S.roots w then(S.tick.tick,none,5)
 else
  let q:=fresh (S.X8 v) (S.I5 w).length S.tick.tick
  if q.2.2≠0 then(q.1,none,q.2.2)
  else
   let m:=q.1.make (S.F9 w) (q.2.1.getD 0 0) (q.2.1.getD 1 0)
   if m.2.2≠0 then(m.1,none,m.2.2)else((m.1.link v m.2.1).1,some m.2.1,(m.1.link v m.2.1).2)
def O9:Nat->E9->List (Nat×Nat)->Option (E9×Nat×Nat×Nat)
 |0,_,_=>none
 |f+1,S,[]=>some (S,0,0,0)
 |f+1,S,p::rest=>
   let x:=S.root p.1
   let y:=S.root p.2
   if x=y then O9 f S rest
   else if x=4 then O9 f (S.lower y 0) rest
   else if y=4 then O9 f (S.lower x 0) rest
   else if S.F9 x=6 then
    if (S.become x y).2.2≠0 then some ((S.become x y).1,0,0,(S.become x y).2.2)
    else match (S.become x y).2.1 with
     |none=>O9 f (S.become x y).1 rest
     |some m=>O9 f (S.become x y).1 (((S.become x y).1.I5 ((S.become x y).1.root m)).zip ((S.become x y).1.I5 ((S.become x y).1.root y))++rest)
   else if S.F9 y=6 then
    if (S.become y x).2.2≠0 then some ((S.become y x).1,0,0,(S.become y x).2.2)
    else match (S.become y x).2.1 with
     |none=>O9 f (S.become y x).1 rest
     |some m=>O9 f (S.become y x).1 (((S.become y x).1.I5 ((S.become y x).1.root x)).zip ((S.become y x).1.I5 ((S.become y x).1.root m))++rest)
   else if S.F9 x≠S.F9 y then some (S,S.F9 x,S.F9 y,4)
   else O9 f S ((S.I5 x).zip (S.I5 y)++rest)
def agree(a b:Nat):E9×Nat×Nat×Nat:=open Classical in if h:∃f q,O9 f S [(a,b)]=some q then h.choose_spec.choose else(S,0,0,7)
end E9
end
end Go.Su

/-
 STORES are kept right: every node unfolds, whatever is done.
-/
namespace Go.Su
def Nu(k:Nat):Nat:=if k=8 then 1 else if k=7\/k=9 then 2 else 0
theorem Zz(k:Nat):Nu k<=2:=by unfold Nu;split<;>(try split)<;>omega
structure E9.Ok(S:E9):Prop where
 wf:∀n,n<S.l.length->∃t,U8 S n t
 base:∀j,j<5->S.l[j]?=some ⟨j+1,0,none,[]⟩
 lc:S.l.length<=5+S.cnt
 cm:S.cnt<=S.mx
 mm:S.mx<=65536
 ki:∀(n:Nat)(d:Nd),S.l[n]?=some d->d.D6.length=Nu d.E8/\1<=d.E8/\d.E8<=9/\d.level<2 ^ 31/\(d.E8<=5->n+1=d.E8)
variable {S:E9}
theorem E9.Ok.five(ok:S.Ok):5<=S.l.length:=by have:=(z0q.1 (ok.base 4 (by omega))).1;omega
variable {n:Nat}
theorem E9.Ok.k2(ok:S.Ok){d:Nd}(h:S.l[n]?=some d):d.D6.length<=2:=by rw[(ok.ki n d h).1];exact Zz _
variable (S:E9)
def Z0(S':E9):Prop:=∀(n:Nat)(d:Nd),S.l[n]?=some d->∃d',S'.l[n]?=some d'/\d'.E8=d.E8/\d'.link=d.link/\d'.D6=d.D6
variable {S:E9}
theorem X5.like{S':E9}(L:Z0 S S'){r:Nat}(h:X5 S n r):X5 S' n r:=by
 induction h with
 |here h1 h2=>obtain⟨d',a,-,c,-⟩:=L _ _ h1;exact .here a (c.trans h2)
 |step h1 h2 _ ih=>obtain⟨d',a,-,c,-⟩:=L _ _ h1;exact .step a (c.trans h2) ih
variable {t:NT}
theorem U8.like{S':E9}(L:Z0 S S')(h:U8 S n t):U8 S' n t:=by
 induction h with
 |mk h1 h2 h3 _ ih=>
   obtain⟨d',a,b,-,c⟩:=L _ _ h2;have:U8 S' _ _:=.mk (h1.like L) a (by rw[c];exact h3) λi h h'=>by have:=ih i (by rw[<- c];exact h) h';simpa only[c]using this
   rw[b]at this;exact this
variable (S:E9)
theorem Z0.add(d:Nd):Z0 S (S.add d):=λn e h=>⟨e,by have:=(z0q.1 h).1;simp only[E9.add];rw[zdq this];exact h,rfl,rfl,rfl⟩
theorem Z0.refl:Z0 S S:=λn d h=>⟨d,h,rfl,rfl,rfl⟩
variable {S:E9}
theorem Z0.trans{T U:E9}(h:Z0 S T)(k:Z0 T U):Z0 S U:=λn d hd=>by obtain⟨e,a,b,c,f⟩:=h n d hd;obtain⟨e',a',b',c',f'⟩:=k n e a;exact⟨e',a',b'.trans b,c'.trans c,f'.trans f⟩
variable (A8:Nat)
theorem VG(n:Nat):∀(vs:List Nat)(l:List Nd),(bI l vs A8)[n]?=(l[n]?).map λd=>if n∈vs then{ d with level:=min d.level A8 }else d:=by
 intro vs;induction vs with
 |nil=>intro l;simp[bI]
 |cons v vs ih=>
   intro l;have:bI l (v::vs) A8=bI (l.modify v λd=>{ d with level:=min d.level A8 }) vs A8:=rfl;rw[this,ih,y6q];cases l[n]? with
   |none=>rfl
   |some d=>
     simp only[zgq,D8,zkq]
     by_cases h1:v=n
     ·subst h1;by_cases h2:v∈vs
      ·simp[h2]
      ·simp[h2]
     ·by_cases h2:n∈vs
      ·simp[h1,h2]
      ·simp[h1,h2,Ne.symm h1]
theorem Z0.lower(S:E9)(n A8:Nat):Z0 S (S.lower n A8):=λk d h=>by refine⟨_,by simp only[E9.lower];rw[VG,h];rfl,?_⟩;split<;>exact⟨rfl,rfl,rfl⟩
theorem NU:∀(vs:List Nat)(l:List Nd),(bI l vs A8).length=l.length:=by
 intro vs;induction vs with
 |nil=>intro l;rfl
 |cons v vs ih=>intro l;exact(ih _).trans (by simp)
theorem Z0.tick(S:E9):Z0 S S.tick:=Z0.refl S
theorem E9.Ok.tick(ok:S.Ok):S.tick.Ok :=⟨λn hn=>by obtain⟨t,ht⟩:=ok.wf n hn;exact⟨t,ht.like (Z0.tick S)⟩,ok.base,ok.lc,ok.cm,ok.mm,ok.ki⟩
theorem U8.tick(h:U8 S n t):U8 S.tick n t:=h.like (Z0.tick S)
theorem E9.Ok.L6(ok:S.Ok)(h:n<S.l.length):U8 S n (S.L6 n):=by obtain⟨t,ht⟩:=ok.wf n h;rw[ht.eq];exact ht
theorem E9.Ok.root(ok:S.Ok)(h:n<S.l.length):X5 S n (S.root n):=(ok.L6 h).root
theorem E9.Ok.Hg(ok:S.Ok)(h:n<S.l.length):S.root n<S.l.length:=(ok.L6 h).Hg
mutual
def NT.all:NT->List Nat
 |.mk r _ ts=>r::NT.UM ts
def NT.UM:List NT->List Nat
 |[]=>[]
 |t::ts=>t.all++NT.UM ts
end
theorem QH{x:Nat}:∀{ts:List NT},x∈NT.UM ts↔∃t∈ts,x∈t.all
 |[]=>by simp[NT.UM]
 |t::ts=>by rw[NT.UM,zaq,QH];simp
variable {x:Nat}
theorem NT.Au:x∈t.all↔x=t.r\/∃u∈t.D6,x∈u.all:=by cases t;rw[NT.all,zkq,QH];rfl
mutual
def NT.big:NT->Nat
 |.mk _ _ ts=>1+NT.xu ts
def NT.xu:List NT->Nat
 |[]=>0
 |t::ts=>t.big+NT.xu ts
end
theorem A8d:∀{ts:List NT}{t:NT},t∈ts->t.big<=NT.xu ts
 |[],_,h=>by cases h
 |u::ts,t,h=>by
   rw[NT.xu];rcases zkq.1 h with rfl | h
   ·omega
   ·have:=A8d h;omega
theorem A8c{u:NT}(h:u∈t.D6):u.big<t.big:=by cases t;rw[NT.big];have:=A8d h;simp only[NT.X0]at this;omega
theorem U8.kid{u:NT}(h:U8 S n t)(hu:u∈t.D6):∃m,U8 S m u:=by obtain⟨d,-,-,-,d4,d5⟩:=h.nd;obtain⟨j,hj,rfl⟩:=List.mem_iff_getElem.1 hu;exact⟨_,d5 j (by omega) hj⟩
variable (t:NT)
theorem U8.sub:∀(n:Nat),U8 S n t->x∈t.all->∃u,U8 S x u/\u.r=x/\u.big<=t.big/\∀y∈u.all,y∈t.all:=by
 induction t using NT.ind with
 |h r k ts ih=>
   intro n h hx;rcases NT.Au.1 hx with e | ⟨u,hu,hx⟩
   ·subst e;exact⟨_,h.self,rfl,z8q _,λy hy=>hy⟩
   ·obtain⟨m,hm⟩:=h.kid hu;obtain⟨w,w1,w2,w3,w4⟩:=ih u hu m hm hx;exact⟨w,w1,w2,Nat.le_of_lt (Nat.lt_of_le_of_lt w3 (A8c hu)),λy hy=>NT.Au.2 (.inr ⟨u,hu,w4 y hy⟩)⟩
theorem U8.fresh{t u:NT}(h:U8 S n t)(hu:u∈t.D6):t.r∉u.all:=λhx=>by obtain⟨m,hm⟩:=h.kid hu;obtain⟨w,w1,-,w3,-⟩:=U8.sub u m hm hx;have:=w1.uniq h.self;subst this;have:=A8c hu;omega
theorem U8.B0L{t:NT}(h:U8 S n t)(hx:x∈t.all):x<S.l.length:=by obtain⟨u,hu,-⟩:=U8.sub t n h hx;exact hu.lt
theorem A92:∀(n:Nat),U8 S n t->∀o:List Nat,(∀x∈o,x∈t.all->∀u,U8 S x u->∀y∈u.all,y∈o)->∀x,x∈t.look o↔x∈o\/x∈t.all:=by
 induction t using NT.ind with
 |h r k ts ih=>
   intro n h o hc;rw[NT.look];split
   ·rename_i hr;intro x;refine⟨Or.inl,λhx=>?_⟩;rcases hx with hx | hx
    ·exact hx
    ·exact hc r hr (NT.Au.2 (.inl rfl)) _ h.self x hx
   ·rename_i hr;have key:∀(us:List NT),(∀u∈us,u∈ts)->∀o:List Nat,(∀x∈o,x∈NT.UM us->∀u,U8 S x u->∀y∈u.all,y∈o)->∀x,x∈NT.VF us o↔x∈o\/x∈NT.UM us:=by
     intro us;induction us with
     |nil=>intro _ o _ x;simp[NT.VF,NT.UM]
     |cons u us ihu=>
       intro hs o ho x;obtain⟨m,hm⟩:=h.kid (hs u (z4q ..));have h1:=ih u (hs u (z4q ..)) m hm o λx hx Dr=>ho x hx (by rw[NT.UM,zaq];exact .inl Dr);rw[NT.VF,ihu (λw hw=>hs w (z2q _ hw)) _ ?_ x,h1,NT.UM,zaq,or_assoc];intro x hx Dr w hw y hy;rw[h1]at hx ⊢;rcases hx with hx | hx
       ·exact .inl (ho x hx (by rw[NT.UM,zaq];exact .inr Dr) w hw y hy)
       ·obtain⟨w',w1,-,-,w4⟩:=U8.sub u m hm hx;rw[hw.uniq w1]at hy;exact .inr (w4 y hy)
    intro x;rw[key ts (λu hu=>hu) _ ?_ x,NT.all,zaq,ziq,zkq,or_assoc];intro x hx Dr u hu y hy;rw[zaq,ziq]at hx;rcases hx with hx | hx
    ·exact List.mem_append_left _ (hc x hx (NT.Au.2 (.inr (QH.1 Dr))) u hu y hy)
    ·obtain⟨w,hw,Dr⟩:=QH.1 Dr;subst hx;exact absurd Dr (h.fresh hw)
theorem U8.B6M{t:NT}(h:U8 S n t):x∈t.look []↔x∈t.all:=by rw[A92 t n h [] (by simp)];simp
theorem A9T:∀o:List Nat,o.Nodup->(t.look o).Nodup:=by
 induction t using NT.ind with
 |h r k ts ih=>
   intro o ho;rw[NT.look];split
   ·exact ho
   ·rename_i hr;have key:∀(us:List NT),(∀u∈us,u∈ts)->∀o:List Nat,o.Nodup->(NT.VF us o).Nodup:=by
     intro us;induction us with
     |nil=>intro _ o h;exact h
     |cons u us ihu=>intro hs o h;rw[NT.VF];exact ihu (λw hw=>hs w (z2q _ hw)) _ (ih u (hs u (z4q ..)) o h)
    refine key ts (λu hu=>hu) _ ?_;rw[ylq];exact⟨ho,by simp,λa ha c hc=>by simp only[ziq]at hc;subst hc;intro e;subst e;exact hr ha⟩
theorem E9.Ok.CP(ok:S.Ok)(h:n<S.l.length):x∈S.roots n↔x∈(S.L6 n).all:=(ok.L6 h).B6M
theorem E9.Ok.NZ(ok:S.Ok)(h:n<S.l.length)(hx:x∈S.roots n):x<S.l.length:=(ok.L6 h).B0L ((ok.CP h).1 hx)
theorem E9.xW(S:E9)(n:Nat):(S.roots n).Nodup:=A9T _ [] List.nodup_nil
theorem Zg:∀{l m:List Nat},l.Nodup->(∀x∈l,x∈m)->l.length<=m.length
 |[],m,_,_=>ypq _
 |x::l,m,hn,hs=>by have hx:=hs x (z4q ..);rw[ytq]at hn;have:=Zg (l:=l) (m:=m.erase x) hn.2 λy hy=>(List.mem_erase_of_ne (λe=>hn.1 (by subst e;exact hy))).2 (hs y (z2q _ hy));rw[List.length_erase_of_mem hx]at this;have:=zXq hx;simp only[zbq];omega
theorem E9.A3g(ok:S.Ok)(h:n<S.l.length):(S.roots n).length<=S.l.length:=by have:=Zg (S.xW n) (m:=List.range S.l.length) λx hx=>yyq.2 (ok.NZ h hx);simpa using this
theorem E9.Ok.lower(ok:S.Ok)(n A8:Nat):(S.lower n A8).Ok where
 wf m hm:=by
  have hm:m<S.l.length:=by rw[<- NU A8 (S.vars n) S.l];exact hm
  obtain⟨t,ht⟩:=ok.wf m hm;exact⟨t,ht.like (Z0.lower S n A8)⟩
 base j hj:=by
  have:=ok.base j hj;simp only[E9.lower];rw[VG,this,zgq];split
  ·rename_i hv;have:=(zJq.1 hv).2;rw[beq_iff_eq,Dv (ok.base j hj)]at this;simp only at this;omega
  ·rfl
 lc:=by simp only[E9.lower,NU];exact ok.lc
 cm:=ok.cm
 mm:=ok.mm
 ki m d hd:=by
  simp only[E9.lower]at hd;rw[VG]at hd;cases e:S.l[m]? with
  |none=>rw[e]at hd;cases hd
  |some d0=>
    rw[e]at hd;simp only[zgq,D8]at hd;have:=ok.ki m d0 e;subst hd;split
    ·exact⟨this.1,this.2.1,this.2.2.1,by simp only;omega,this.2.2.2.2⟩
    ·exact this
theorem E9.Ok.add(ok:S.Ok){k A8:Nat}{ks:List Nat}(hc:S.cnt<S.mx)(hk:ks.length=Nu k)(h1:6<=k)(h2:k<=9)(h3:A8<2 ^ 31)(hs:∀x∈ks,x<S.l.length):(S.add ⟨k,A8,none,ks⟩).Ok where
 wf m hm:=by
  by_cases e:m<S.l.length
  ·obtain⟨t,ht⟩:=ok.wf m e;exact⟨t,ht.like (Z0.add S _)⟩
  ·have hm:m<S.l.length+1:=by simpa[E9.add]using hm
   have e:m=S.l.length:=by omega
   subst e;have g:(S.add ⟨k,A8,none,ks⟩).l[S.l.length]?=some ⟨k,A8,none,ks⟩:=by simp[E9.add]
   exact⟨_,.mk (ts:=ks.map S.L6) (.here g rfl) g (by simp) λi a b=>by rw[y0q];exact(ok.L6 (hs _ (zLq a))).like (Z0.add S _)⟩
 base j hj:=by have:=ok.base j hj;have hl:=(z0q.1 this).1;simp only[E9.add];rw[zdq hl];exact this
 lc:=by have:=ok.lc;simp only[E9.add,zIq,zbq,zBq];omega
 cm:=by simp only[E9.add];omega
 mm:=ok.mm
 ki m d hd:=by
  simp only[E9.add]at hd;rw[List.getElem?_append]at hd;split at hd
  ·exact ok.ki m d hd
  ·have:d=⟨k,A8,none,ks⟩:=by
    cases e:m-S.l.length with
    |zero=>rw[e]at hd;simpa using hd.symm
    |succ q=>rw[e]at hd;simp at hd
   subst this;exact⟨hk,by simp only;omega,h2,h3,λh=>by simp only at h;omega⟩
mutual
def NT.yn(r:Nat)(u:NT):(t:NT)->NT
 |.mk q k ts=>if q=r then u else .mk q k (NT.A0S r u ts)
def NT.A0S(r:Nat)(u:NT):(ts:List NT)->List NT
 |[]=>[]
 |t::ts=>NT.yn r u t::NT.A0S r u ts
end
theorem yo(r:Nat)(u:NT):∀ts:List NT,NT.A0S r u ts=ts.map (NT.yn r u)
 |[]=>by simp[NT.A0S]
 |t::ts=>by rw[NT.A0S,yo r u ts];rfl
theorem JN(S:E9)(r t n:Nat):(S.BM r t).l[n]?=(S.l[n]?).map λd=>if r=n then{ d with link:=some t }else d:=by
 simp only[E9.BM];rw[y6q];split<;>rename_i h
 ·subst h;cases S.l[r]?<;>simp
 ·cases S.l[n]?<;>simp[h]
section
variable {S:E9}{r to:Nat}{d0:Nd}{u:NT}(hr:S.l[r]?=some d0)(h0:d0.link=none)(hu:U8 S to u)(hn:r∉u.all)
include hr h0
theorem X5.link{q:Nat}(h:X5 S n q):(q≠r->X5 (S.BM r to) n q):=by
 induction h with
 |here h1 h2=>intro hq;refine .here (d:=_) (by rw[JN,h1,zgq]) ?_;rw[A7 (Ne.symm hq)];exact h2
 |step h1 h2 h3 ih=>rename_i n m q d;intro hq;refine .step (d:=d) (by rw[JN,h1,zgq,A7];intro e;subst e;rw[hr]at h1;cases h1;rw[h0]at h2;cases h2) h2 (ih hq)
theorem U8.B70(t:NT):∀n,U8 S n t->r∉t.all->U8 (S.BM r to) n t:=by
 induction t using NT.ind with
 |h q k ts ih=>
   intro n h hq;obtain⟨d,d1,d2,d3,d4,d5⟩:=h.nd;have ne:q≠r:=λe=>hq (NT.Au.2 (.inl e.symm));have g:(S.BM r to).l[q]?=some d:=by rw[JN];simp only[NT.Jm]at d1;rw[d1,zgq,A7 (Ne.symm ne)]
   simp only[NT.WW]at d3;subst d3;exact .mk (X5.link hr h0 h.root ne) g d4 λi a b=>ih _ (zLq b) _ (d5 i a b) λhx=>hq (NT.Au.2 (.inr ⟨_,zLq b,hx⟩))
include hu hn
theorem X5.B4j{q:Nat}(h:X5 S n q)(e:q=r):X5 (S.BM r to) n u.r:=by
 have hto:X5 (S.BM r to) to u.r:=X5.link hr h0 hu.root λe=>hn (NT.Au.2 (.inl e.symm));induction h with
 |here h1 h2=>subst e;refine .step (d:=_) (by rw[JN,h1,zgq]) ?_ hto;rw[C8 rfl]
 |step h1 h2 h3 ih=>rename_i n m q d;refine .step (d:=d) (by rw[JN,h1,zgq,A7];intro e;subst e;rw[hr]at h1;cases h1;rw[h0]at h2;cases h2) h2 (ih e)
theorem U8.link(t:NT):∀n,U8 S n t->U8 (S.BM r to) n (NT.yn r u t):=by
 induction t using NT.ind with
 |h q k ts ih=>
   intro n h;rw[NT.yn];split
   ·rename_i e;have Bv:=(U8.B70 (to:=to) hr h0 u to hu hn);have:=X5.B4j hr h0 hu hn h.root e;cases Bv with
    |mk g1 g2 g3 g4=>exact .mk this g2 g3 g4
   ·rename_i ne;obtain⟨d,d1,d2,d3,d4,d5⟩:=h.nd;have g:(S.BM r to).l[q]?=some d:=by rw[JN];simp only[NT.Jm]at d1;rw[d1,zgq,A7 (Ne.symm ne)]
    simp only[NT.WW]at d3;subst d3;rw[yo];exact .mk (X5.link hr h0 h.root ne) g (by simpa using d4) λi a b=>by
     have hb:i<ts.length:=by simpa using b
     rw[y0q];exact ih _ (zLq hb) _ (d5 i a hb)
end
theorem E9.Ok.BM(ok:S.Ok){r to:Nat}{d0:Nd}{u:NT}(hr:S.l[r]?=some d0)(h0:d0.link=none)(h6:d0.E8=6)(hu:U8 S to u)(hn:r∉u.all):(S.BM r to).Ok where
 wf m hm:=by obtain⟨t,ht⟩:=ok.wf m (by simpa[E9.BM]using hm);exact⟨_,U8.link hr h0 hu hn t m ht⟩
 base j hj:=by have:=ok.base j hj;rw[JN,this,zgq,A7];intro e;subst e;rw[hr]at this;cases this;simp only at h6;omega
 lc:=by simp only[E9.BM,List.length_modify];exact ok.lc
 cm:=ok.cm
 mm:=ok.mm
 ki m d hd:=by
  rw[JN]at hd;cases e:S.l[m]? with
  |none=>rw[e]at hd;cases hd
  |some d0=>rw[e]at hd;simp only[zgq,D8]at hd;have:=ok.ki m d0 e;subst hd;split<;>exact this
theorem E9.Ok.nd(ok:S.Ok)(h:n<S.l.length):∃d,S.l[S.root n]?=some d/\d.link=none/\d.E8=(S.L6 n).k/\d.D6=S.I5 (S.root n)/\d.E8=S.F9 (S.root n)/\d.level=S.X8 (S.root n):=by obtain⟨d,d1,d2,d3,d4,d5⟩:=(ok.L6 h).nd;exact⟨d,d1,d2,d3,(Du d1).symm,(Dv d1).symm,(nG d1).symm⟩
theorem U8.A6z{r k:Nat}{ts:List NT}(h:U8 S n (.mk r k ts)):S.L6 r=.mk r k ts:=h.self.eq
theorem E9.Ok.rr(ok:S.Ok)(h:n<S.l.length):S.root (S.root n)=S.root n:=(ok.L6 h).self.Hl
variable (t:Ty)
def Ty.rc:Prop:=t.right=true/\t.FW 6=true
theorem Ty.rc.kid{t k:Ty}(h:t.rc)(hk:k∈t.D6):k.rc:=by obtain⟨h1,h2⟩:=h;rw[Ty.right_eq,z5q,z7q]at h1;rw[Ty.Zb,z5q,z7q]at h2;exact⟨h1.2 k hk,h2.2 k hk⟩
theorem Ty.rc.E8{t:Ty}(h:t.rc):(t.D6=[]/\1<=t.E8/\t.E8<=5/\t.n=0)\/(t.D6≠[]/\7<=t.E8/\t.E8<=9/\t.D6.length=Nu t.E8.toNat/\t.n=0):=by
 obtain⟨h1,h2⟩:=h;rw[Ty.right_eq]at h1;rw[Ty.Zb]at h2;simp only[z5q,I9,yqq,Bool.not_eq_true',Ph]at h1 h2;obtain⟨⟨⟨⟨a1,a2⟩,a3⟩,a4⟩,-⟩:=h1;have hn:t.n=0:=by rcases a4 with h | h;exact absurd h h2.1;exact h
 have h6:=h2.1;unfold Ov at a1;split at a1
 ·rename_i hk;left;exact⟨zAq.1 (by omega),by omega,by omega,hn⟩
 ·split at a1
  ·rename_i hk;right;refine⟨λe=>by rw[e]at a1;simp at a1,by omega,by omega,?_,hn⟩;rw[hk];have:Nu (8:Int).toNat=1:=rfl;omega
  ·split at a1
   ·rename_i hk;right;refine⟨λe=>by rw[e]at a1;simp at a1,by omega,by omega,?_,hn⟩;have:Nu t.E8.toNat=2:=by rcases hk with hk | hk<;>rw[hk]<;>rfl
    omega
   ·omega
theorem Sr:JA t=if t.D6.length=0 then 0 else 1+Bc t.D6:=by cases t;rw[JA];rfl
variable (S:E9)
theorem A10:La t S=if t.D6.length=0 then(S,(t.E8-1).toNat)else((BR t.D6 S).1.add ⟨t.E8.toNat,0,none,(BR t.D6 S).2⟩,(BR t.D6 S).1.l.length):=by cases t;rw[La];rfl
structure DC(S S':E9):Prop where
 like:Z0 S S'
 le:S.l.length<=S'.l.length
 mx:S'.mx=S.mx
 J7:S.J7<=S'.J7
theorem DC.refl:DC S S:=⟨Z0.refl S,z8q _,rfl,z8q _⟩
theorem DC.trans{S T U:E9}(h:DC S T)(k:DC T U):DC S U:=⟨h.like.trans k.like,zyq h.le k.le,k.mx.trans h.mx,zyq h.J7 k.J7⟩
theorem DC.add(d:Nd):DC S (S.add d):=⟨Z0.add S d,by simp[E9.add],rfl,z8q _⟩
structure A4d(S S':E9)(k:Nat):Prop where
 ok:S'.Ok
 U2:DC S S'
 cnt:S'.cnt=S.cnt+k
 J7:S'.J7=S.J7
theorem We:t.rc->∀S:E9,S.Ok->S.cnt+JA t<=S.mx->A4d S (La t S).1 (JA t)/\(La t S).2<(La t S).1.l.length:=by
 induction t using Ty.ind with
 |h t ih=>
   intro hr S ok hc;rw[A10,Sr];rw[Sr]at hc;rcases hr.E8 with⟨e,h1,h2,-⟩ | ⟨e,h1,h2,h3,-⟩
   ·rw[e];have:=ok.five;exact⟨⟨ok,DC.refl S,rfl,rfl⟩,by simp;omega⟩
   ·have hl:¬t.D6.length=0:=λg=>e (zAq.1 g);rw[A7 hl]at hc;rw[A7 hl,A7 hl];have key:∀(ts:List Ty),(∀k∈ts,k∈t.D6)->∀S:E9,S.Ok->S.cnt+Bc ts<=S.mx->A4d S (BR ts S).1 (Bc ts)/\(BR ts S).2.length=ts.length/\∀x∈(BR ts S).2,x<(BR ts S).1.l.length:=by
     intro ts;induction ts with
     |nil=>intro _ S ok _;exact⟨⟨ok,DC.refl S,rfl,rfl⟩,rfl,by simp[BR]⟩
     |cons k ts ihs=>
       intro hs S ok hc;rw[Bc]at hc;have hk:=hs k (z4q ..);obtain⟨a,a2⟩:=ih k hk (hr.kid hk) S ok (by omega);have ac:=a.cnt;have am:=a.U2.mx;obtain⟨c,c2,c3⟩:=ihs (λw hw=>hs w (z2q _ hw)) _ a.ok (by omega);rw[BR,Bc];refine⟨⟨c.ok,a.U2.trans c.U2,by have:=c.cnt;simp only;omega,c.J7.trans a.J7⟩,by simp[c2],λx hx=>?_⟩;rcases zkq.1 hx with rfl | hx
       ·exact ztq a2 c.U2.le
       ·exact c3 x hx
    obtain⟨a,a2,a3⟩:=key t.D6 (λk hk=>hk) S ok (by omega);have ac:=a.cnt;have am:=a.U2.mx;refine⟨⟨a.ok.add (by omega) (by omega) (by omega) (by omega) (by omega) a3,a.U2.trans (DC.add _ _),by simp only[E9.add];omega,a.J7⟩,by simp[E9.add]⟩
def EU(mx:Nat):E9:=⟨(List.range 5).map λj=>⟨j+1,0,none,[]⟩,mx,0,0⟩
theorem nK{mx:Nat}{d:Nd}(h:(EU mx).l[n]?=some d):n<5/\d=⟨n+1,0,none,[]⟩:=by
 simp only[EU]at h;rw[zhq]at h;cases e:(List.range 5)[n]? with
 |none=>rw[e]at h;cases h
 |some j=>rw[e]at h;obtain⟨h1,h2⟩:=z0q.1 e;simp only[List.length_range]at h1;simp only[List.getElem_range]at h2;subst h2;simp only[zgq,D8]at h;exact⟨h1,h.symm⟩
theorem OQ{mx:Nat}(h:mx<=65536):(EU mx).Ok where
 wf n hn:=by
  have g:(EU mx).l[n]?=some ⟨n+1,0,none,[]⟩:=by have:=z3q hn;rw[(nK this).2]at this;exact this
  exact⟨_,.mk (ts:=[]) (.here g rfl) g rfl λi h _=>by simp at h⟩
 base j hj:=by
  have:j<(EU mx).l.length:=by simp[EU];omega
  have:=z3q this;rw[(nK this).2]at this;exact this
 lc:=by simp[EU]
 cm:=ypq _
 mm:=h
 ki n d hd:=by
  obtain⟨h1,h2⟩:=nK hd;subst h2;refine⟨?_,by simp only;omega,by simp only;omega,by simp only;omega,λ_=>rfl⟩;simp only[Nu,zBq]
  split
  ·omega
  ·split<;>omega
end Go.Su

/-
 STORES are kept right: copies, links, what a variable becomes.
-/
namespace Go.Su
set_option linter.defProp false
variable {K:List (Nat×Nat)}
def Kt{r:Nat}:Gh K r=none↔r∉K.map (·.1):=by
 unfold Gh;simp[List.find?_eq_none];constructor
 ·intro h x hx;exact h r x hx rfl
 ·intro h a c hc e;subst e;exact h c hc
def Kr{r m:Nat}(h:Gh K r=some m):(r,m)∈K:=by unfold Gh at h;obtain⟨e,h1,h2⟩:=zmq.1 h;have h3:=List.mem_of_find?_eq_some h1;have h4:=List.find?_some h1;simp only[beq_iff_eq]at h4;obtain⟨a,c⟩:=e;simp only at h4 h2;subst h4;subst h2;exact h3
def B1e{r t:Nat}(h:r∉K.map (·.1))(c:Nat):Gh (K++[(r,t)]) c=if r=c then some t else Gh K c:=by
 unfold Gh;rw[List.find?_append];by_cases e:r=c
 ·subst e;have:K.find? (λe=>e.1==r)=none:=by have:=Kt.2 h;unfold Gh at this;simpa using this
  simp[this]
 ·have:List.find? (λe:Nat×Nat=>e.1==c) [(r,t)]=none:=by simp[e]
  rw[this,A7 e,Option.or_none]
theorem A5D{K:List Nat}:∀{ts:List NT},NT.aj K ts=ts.any (NT.has K)
 |[]=>by rw[NT.aj];rfl
 |t::ts=>by rw[NT.aj,A5D];rfl
structure CI(S0:E9)(N:List Nat)(S:E9)(M:List (Nat×Nat)):Prop where
 ok:S.Ok
 U2:DC S0 S
 cnt:S.cnt=S0.cnt+M.length
 J7:S.J7=S0.J7
 sub:∀r∈M.map (·.1),r∈N
 nd:(M.map (·.1)).Nodup
 lt:∀e∈M,e.2<S.l.length
def Zd{S0:E9}{n0:Nat}(ok0:S0.Ok)(hK:∀e∈K,e.2<S0.l.length)(hn:S0.need K n0<=S0.mx-S0.cnt){N:List Nat}(hN:N=(S0.roots n0).filter λr=>S0.F9 r != 6&&(S0.L6 r).has (K.map (·.1)))(t:NT):
 ∀n,U8 S0 n t->(∀x∈t.all,x∈S0.roots n0)->∀(S:E9)(M:List (Nat×Nat)),CI S0 N S M->CI S0 N (t.copy K (S,M)).2.1 (t.copy K (S,M)).2.2/\(t.copy K (S,M)).1<(t.copy K (S,M)).2.1.l.length/\∀r∈(t.copy K (S,M)).2.2.map (·.1),r∈M.map (·.1)\/r∈t.all:=by
 induction t using NT.ind with
 |h r k ts ih=>
   intro n hu hx S M C;have hr:=hu.Hg;simp only[NT.Jm]at hr;rw[NT.copy];split
   ·rename_i t ht;exact⟨C,ztq (hK _ (Kr ht)) C.U2.le,λx hx=>.inl hx⟩
   ·rename_i hf;split
    ·exact⟨C,ztq hr C.U2.le,λx hx=>.inl hx⟩
    ·rename_i hh;split
     ·rename_i m hm;exact⟨C,C.lt _ (Kr hm),λx hx=>.inl hx⟩
     ·rename_i hm;have key:∀(us:List NT),(∀u∈us,u∈ts)->∀(S:E9)(M:List (Nat×Nat)),CI S0 N S M->CI S0 N (NT.T9 K us (S,M)).2.1 (NT.T9 K us (S,M)).2.2/\(NT.T9 K us (S,M)).1.length=us.length/\(∀x∈(NT.T9 K us (S,M)).1,x<(NT.T9 K us (S,M)).2.1.l.length)/\∀x∈(NT.T9 K us (S,M)).2.2.map (·.1),x∈M.map (·.1)\/x∈NT.UM us:=by
       intro us;induction us with
       |nil=>intro _ S M C;rw[NT.T9];exact⟨C,rfl,by simp,λx hx=>.inl hx⟩
       |cons u us ihu=>
         intro hs S M C;have Bv:=hs u (z4q ..);obtain⟨m,hm⟩:=hu.kid (u:=u) Bv;obtain⟨a1,a2,a3⟩:=ih u Bv m hm (λx Dr=>hx x (NT.Au.2 (.inr ⟨u,Bv,Dr⟩))) S M C;obtain⟨c1,c2,c3,c4⟩:=ihu (λw hw=>hs w (z2q _ hw)) _ _ a1;rw[NT.T9];refine⟨c1,by simp[c2],λx hx=>?_,λx hx=>?_⟩
         ·rcases zkq.1 hx with rfl | hx
          ·have h5:(u.copy K (S,M)).2.1.l.length<=(NT.T9 K us (u.copy K (S,M)).2).2.1.l.length:=by
            have:∀(us:List NT)(q:E9×List (Nat×Nat)),q.1.l.length<=(NT.T9 K us q).2.1.l.length/\True:=by
             have one:∀(t:NT)(q:E9×List (Nat×Nat)),q.1.l.length<=(t.copy K q).2.1.l.length:=by
              intro t;induction t using NT.ind with
              |h r k ts ih=>
                intro q;have tX:∀(us:List NT),(∀u∈us,u∈ts)->∀q:E9×List (Nat×Nat),q.1.l.length<=(NT.T9 K us q).2.1.l.length:=by
                 intro us;induction us with
                 |nil=>intro _ q;rw[NT.T9];exact z8q _
                 |cons u us ihu=>intro hs q;rw[NT.T9];exact zyq (ih u (hs u (z4q ..)) q) (ihu (λw hw=>hs w (z2q _ hw)) _)
                rw[NT.copy];split
                ·exact z8q _
                ·split
                 ·exact z8q _
                 ·split
                  ·exact z8q _
                  ·refine zyq (tX ts (λu hu=>hu) q) ?_;simp[E9.add]
             intro us;induction us with
             |nil=>intro q;rw[NT.T9];exact⟨z8q _,trivial⟩
             |cons u us ihu=>intro q;rw[NT.T9];exact⟨zyq (one u q) (ihu _).1,trivial⟩
            exact(this us _).1
           exact ztq a2 h5
          ·exact c3 x hx
         ·rw[NT.UM,zaq];rcases c4 x hx with h | h
          ·rcases a3 x h with h | h
           ·exact .inl h
           ·exact .inr (.inl h)
          ·exact .inr (.inr h)
      obtain⟨a1,a2,a3,a4⟩:=key ts (λu hu=>hu) S M C;generalize NT.T9 K ts (S,M)=q at a1 a2 a3 a4 ⊢;obtain⟨d,d1,d2,d3,d4,-⟩:=hu.nd;simp only[NT.Jm,NT.WW,NT.X0]at d1 d3 d4;have kd:=ok0.ki _ _ d1;have k6:k≠6:=by
       intro e;subst e;have:ts.length=0:=by rw[<- d4,kd.1,d3];rfl
       rw[NT.has,zAq.1 this,NT.aj,yAq,Ph]at hh;exact hh (Kt.1 hf)
      have k7:6<=k:=by
       rcases zrq k 6 with g | g
       ·exfalso;have:ts.length=0:=by rw[<- d4,kd.1,d3];unfold Nu;rw[A7 (by omega),A7 (by omega)]
        rw[NT.has,zAq.1 this,NT.aj,yAq,Ph]at hh;exact hh (Kt.1 hf)
       ·exact g
      have rN:r∈N:=by rw[hN,zJq];refine⟨hx r (NT.Au.2 (.inl rfl)),?_⟩;have:=hu.A6z;rw[Dv d1,d3,this];simp[k6,hh]
      have rM:r∉q.2.2.map (·.1):=by
       intro Vs;rcases a4 r Vs with g | g
       ·exact absurd g (Kt.1 hm)
       ·obtain⟨u,u1,u2⟩:=QH.1 g;exact hu.fresh u1 u2
      have nd2:(r::q.2.2.map (·.1)).Nodup:=ytq.2 ⟨rM,a1.nd⟩;have ln:=Zg nd2 (m:=N) λx hx=>by
       rcases zkq.1 hx with rfl | hx
       ·exact rN
       ·exact a1.sub x hx
      have nn:N.length<=S0.mx-S0.cnt:=by rw[hN];exact hn
      simp only[zbq,zOq]at ln;have ac:=a1.cnt;have am:=a1.U2.mx;have add:=a1.ok.add (k:=k) (A8:=0) (ks:=q.1) (by omega) (by rw[a2,<- d4,kd.1,d3]) k7 (by have:=kd.2.2.1;omega) (by omega) a3;refine⟨⟨add,a1.U2.trans (DC.add _ _),by simp only[E9.add,zIq,zbq,zBq];omega,a1.J7,?_,?_,?_⟩,by simp[E9.add],?_⟩
      ·intro x hx;rw[y7q,zaq]at hx;rcases hx with hx | hx
       ·exact a1.sub x hx
       ·simp only[zeq,zUq,ziq]at hx;rw[hx];exact rN
      ·rw[y7q,ylq];exact⟨a1.nd,by simp,λx h1 y h2 e=>rM (by simp only[zeq,zUq,ziq]at h2;rw[<- h2,<- e];exact h1)⟩
      ·intro e he;rw[zaq]at he;simp only[E9.add,zIq,zbq,zBq];rcases he with he | he
       ·have:=a1.lt e he;omega
       ·simp only[ziq]at he;rw[he];simp
      ·intro x hx;rw[y7q,zaq]at hx;rcases hx with hx | hx
       ·rcases a4 x hx with h | h
        ·exact .inl h
        ·exact .inr (NT.Au.2 (.inr (QH.1 h)))
       ·simp only[zeq,zUq,ziq]at hx;exact .inr (NT.Au.2 (.inl hx))
end Go.Su
