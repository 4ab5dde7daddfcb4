/-
  Parts of the proof, merged: SuDraw2, SuDraw3, SuItr, SuScope, SuCode, SuFun, SuRun, SuCont, SuCont2, SuCont3, SuAt, SuTy, SuPl, SuJoin, SuRd, SuM1, SuIt, SuM2, SuM3, SuM4, SuM5, SuRd2, SuFix.
-/
import Derived.Below
import Derived.ChangeArms
import Derived.ChangeShapes
import Derived.DataReads
import Derived.IntWalk
import Derived.KernelRfl
import Derived.LoopNIn
import Derived.OrdersIn
import Derived.RangeFuncBound
import Derived.RangeFuncCalls
import Derived.RangeFuncLeaves
import Derived.Test.YtglacjdohajkeaaGreatP2
set_option linter.unusedVariables false
set_option linter.unusedSimpArgs false
/-
 THE DATA MACHINE, part 23: regions, in the text's order and in any.
-/
open Array renaming getElem?_eq_some_iff → z0q, getElem?_setIfInBounds_ne → z7q, getElem?_eq_getElem → zeq, getElem?_setIfInBounds_self_of_lt → zkq, getElem?_replicate → zAq, getD_eq_getD_getElem? → zEq, length_toList → zIq, getElem?_modify → zZq, getElem_toList → y2q, ext_getElem? → yaq
open Bool renaming and_eq_true → z3q, false_eq_true → ziq, eq_iff_iff → zXq, or_eq_true → yeq, not_false → yjq, not_true → ymq
open List renaming getElem?_eq_some_iff → z1q, getElem?_eq_getElem → z2q, mem_cons_of_mem → z4q, getD_eq_getElem?_getD → z5q, mem_cons_self → z6q, all_eq_true → z8q, getElem?_cons_succ → z9q, length_cons → zaq, getElem?_map → zcq, getElem?_append_left → zdq, getElem?_cons_zero → zfq, drop_eq_getElem_cons → zjq, mem_append → zlq, map_cons → zmq, sum_cons → znq, mem_map_of_mem → zoq, sizeOf_lt_of_mem → zpq, pairwise_append → zqq, eq_nil_of_length_eq_zero → zsq, attach_map_val → zuq, getElem?_append_right → zwq, append_assoc → zxq, mem_flatMap → zzq, getElem?_replicate → zBq, pairwise_cons → zCq, mem_cons → zDq, getElem?_zip_eq_some → zGq, find?_cons → zHq, all_map → zLq, length_eq_one_iff → zMq, drop_of_length_le → zNq, range'_succ → zOq, drop_length → zPq, cons_append → zQq, mem_filter → zSq, range_eq_range' → zTq, length_nil → zUq, getElem?_set_ne → zVq, getElem?_mapIdx → zWq, foldl_cons → zYq, map_congr_left → y1q, take_take → y4q, length_append → y5q, mem_singleton → y6q, getElem?_ofFn → y7q, getElem?_set → y8q, flatMap_cons → ybq, filter_cons → ycq, mem_map → ydq, length_set → yfq, length_map → ygq, append_nil → yhq, mapM_cons → yiq, drop_take → ykq, drop_drop → ylq, all_cons → ynq
open Nat renaming le_refl → zbq, zero_add → zhq, lt_or_ge → zrq, le_add_right → ztq, le_add_left → zvq, le_trans → zFq, add_sub_cancel_left → zJq, le_zero → zKq, lt_of_lt_of_le → y0q, le_of_not_lt → y9q
open Option renaming map_eq_some_iff → zgq, map_some → zyq, bind_eq_some_iff → zRq, getD_some → y3q
namespace Go.Su
section
variable {X:Type} {C:X4} {R:O4} {fl:Flags} {ops:List Oper} {o:Oper}
theorem A6m (hg:o.guard=none) (s s1:St):Y2 C R fl ops o s s1 ↔ I7 C R fl o s some=some s1:=by unfold Y2;rw [hg]
variable {g:Nat} {want:Bool} {t:Nat}
theorem fq (hg:o.guard=some (g,want)) (ht:Ji ops g=some t) (s s1:St):Y2 C R fl ops o s s1 ↔ J5 (s.get t).2=true /\
 (((s.get t).1 = .bool want/\I7 C R fl o s some=some s1)\/(((s.get t).1 = .bool !want\/(s.get t).1 = .F3 [])/\s1=s.put o.dst (.F3 []) .val)):=by
 unfold Y2;rw [hg];simp only [ht,Option.some.injEq,exists_eq_left']
theorem A8N (hg:o.guard=none) (s:St):CF C fl ops o s=W9 C fl o s:=by unfold CF;rw [hg]
theorem A8O (hg:o.guard=some (g,want)) (ht:Ji ops g=some t) (s:St) :
 CF C fl ops o s=if uV want (s.get t).1 then (W9 C fl o s).look t else { rt:=[t],wt:=o.dst.toList }:=by
 unfold CF;rw [hg];simp only [ht]
variable {st:St} {x:X}
theorem A9v {J:St->Option X} (hb:(st.get t).1 = .bool want) (H:I7 C R fl o (st.know t (.bool want)) J=some x) :
 ∃ s1,I7 C R fl o st some=some s1/\J s1=some x:=by
 rw [FB hb (by simp)] at H
 obtain ⟨s1,h1,h2⟩:=SE H;exact ⟨s1,h2 _ some,h1⟩
variable {os:List Oper}
theorem A13 {bf:List (List Nat)} {i:Nat} {acc:List (Nat × Fp)} {k:St->Option X} (H:Co C R fl ops bf (o::os) i acc st k=some x) :
 ∃ s1,Y2 C R fl ops o st s1/\Iy bf i acc ((CF C fl ops o st).Aq st s1)=true/\Co C R fl ops bf os (i+1) ((i,(CF C fl ops o st).Aq st s1)::acc) s1 k=some x:=by
 simp only [Co,Ui,A4E] at H
 split at H
 ·rename_i hg
  rw [A8N hg];obtain ⟨s1,h1,h2⟩:=SE H;obtain ⟨h3,h4⟩:=F4 h1;exact ⟨s1,(A6m hg _ _).2 (h2 _ some),h3,h4⟩
 ·rename_i g want hg
  obtain ⟨t,ht,H⟩:=A9 H;obtain ⟨hd,H⟩:=F4 H;rw [A8O hg ht];have run:(st.get t).1 = .bool want->kY C R fl o t (st.know t (.bool want)) (fun f st1=>og (Iy bf i acc f) (Co C R fl ops bf os (i+1) ((i,f)::acc) st1 k))=some x ->
   ∃ s1,Y2 C R fl ops o st s1/\Iy bf i acc ((if uV want (st.get t).1 then (W9 C fl o st).look t else { rt:=[t],wt:=o.dst.toList }).Aq st s1)=true /\
     Co C R fl ops bf os (i+1) ((i,(if uV want (st.get t).1 then (W9 C fl o st).look t else { rt:=[t],wt:=o.dst.toList }).Aq st s1)::acc) s1 k=some x:=by
   intro iB H9;rw [if_pos (aF.2 iB)];unfold kY at H9;obtain ⟨s1,h1,h2⟩:=A9v iB H9;rw [FB iB (by simp)] at h2
   obtain ⟨h3,h4⟩:=F4 h2;exact ⟨s1,(fq hg ht _ _).2 ⟨hd, .inl ⟨iB,h1⟩⟩,h3,h4⟩
  have skip:∀ d:DV,(d = .bool !want\/d = .F3 [])->(st.get t).1=d->Ve o t (st.know t d) (fun f st1=>og (Iy bf i acc f) (Co C R fl ops bf os (i+1) ((i,f)::acc) st1 k))=some x ->
   ∃ s1,Y2 C R fl ops o st s1/\Iy bf i acc ((if uV want (st.get t).1 then (W9 C fl o st).look t else { rt:=[t],wt:=o.dst.toList }).Aq st s1)=true /\
     Co C R fl ops bf os (i+1) ((i,(if uV want (st.get t).1 then (W9 C fl o st).look t else { rt:=[t],wt:=o.dst.toList }).Aq st s1)::acc) s1 k=some x:=by
   intro d Qh iB H9;rw [FB iB (by rcases Qh with h | h <;> rw [h] <;> simp)] at H9
   have hB:¬ (uV want (st.get t).1=true):=by
    rw [aF,iB];rcases Qh with h | h <;> rw [h] <;> cases want <;> simp
   rw [if_neg hB];unfold Ve at H9;obtain ⟨h3,h4⟩:=F4 H9;exact ⟨_,(fq hg ht _ _).2 ⟨hd, .inr ⟨by rw [iB];exact Qh,rfl⟩⟩,h3,h4⟩
  rcases A9g H with ⟨hb,H9⟩ | ⟨hb,H9⟩ | ⟨hb,H9⟩
  ·cases want
   ·exact skip _ (.inl rfl) hb H9
   ·exact run hb H9
  ·cases want
   ·exact run hb H9
   ·exact skip _ (.inl rfl) hb H9
  ·exact skip _ (.inr rfl) hb H9
theorem oI {k:St->Option X} (H:Bt C R fl ops (o::os) st k=some x) :
 ∃ s1,Y2 C R fl ops o st s1/\Bt C R fl ops os s1 k=some x:=by
 simp only [Bt,Ui] at H
 split at H
 ·rename_i hg
  obtain ⟨s1,h1,h2⟩:=SE H;exact ⟨s1,(A6m hg _ _).2 (h2 _ some),h1⟩
 ·rename_i g want hg
  obtain ⟨t,ht,H⟩:=A9 H;obtain ⟨hd,H⟩:=F4 H;have run:(st.get t).1 = .bool want->I7 C R fl o (st.know t (.bool want)) (fun st=>Bt C R fl ops os st k)=some x ->
   ∃ s1,Y2 C R fl ops o st s1/\Bt C R fl ops os s1 k=some x:=by
   intro iB H9;obtain ⟨s1,h1,h2⟩:=A9v iB H9;exact ⟨s1,(fq hg ht _ _).2 ⟨hd, .inl ⟨iB,h1⟩⟩,h2⟩
  have skip:∀ d:DV,(d = .bool !want\/d = .F3 [])->(st.get t).1=d->Bt C R fl ops os ((st.know t d).put o.dst (.F3 []) .val) k=some x ->
   ∃ s1,Y2 C R fl ops o st s1/\Bt C R fl ops os s1 k=some x:=by
   intro d Qh iB H9;rw [FB iB (by rcases Qh with h | h <;> rw [h] <;> simp)] at H9
   exact ⟨_,(fq hg ht _ _).2 ⟨hd, .inr ⟨by rw [iB];exact Qh,rfl⟩⟩,H9⟩
  rcases A9g H with ⟨hb,H9⟩ | ⟨hb,H9⟩ | ⟨hb,H9⟩
  ·cases want
   ·exact skip _ (.inl rfl) hb H9
   ·exact run hb H9
  ·cases want
   ·exact run hb H9
   ·exact skip _ (.inl rfl) hb H9
  ·exact skip _ (.inr rfl) hb H9
def ZO (C:X4) (R:O4) (fl:Flags) (ops:List Oper):List (Nat × Fp)->St->St->Prop
 | [],s,t=>s=t
 | p::l,s,t=>∃ o s1,ops[p.1]?=some o/\Y2 C R fl ops o s s1/\p.2=(CF C fl ops o s).Aq s s1/\ZO C R fl ops l s1 t
theorem ZO.first:∀ {A B:List (Nat × Fp)} {p:Nat × Fp} {s t:St},ZO C R fl ops (A++p::B) s t->(∀ q∈A,comm q.2 p.2=true) ->
 ∃ o s1,ops[p.1]?=some o/\Y2 C R fl ops o s s1/\p.2=(CF C fl ops o s).Aq s s1/\ZO C R fl ops (A++B) s1 t
 | [],B,p,s,t,H,_=>H
 | q::A,B,p,s,t,H,hc=>by
   obtain ⟨oq,s1,h1,h2,h3,H⟩:=H;obtain ⟨op,s2,h4,h5,h6,H⟩:=ZO.first (A:=A) H fun q' hq'=>hc q' (z4q _ hq')
   have h7:=hc q (z6q ..);rw [h3,h6] at h7;obtain ⟨s1',k1,k2,k3,k4⟩:=B4X h2 h5 h7;exact ⟨op,s1',h4,k1,by rw [h6,k3],oq,s2,h1,k2,by rw [h3,k4],H⟩
theorem xS {bf:List (List Nat)} {k:St->Option X} {x:X}:∀ {os:List Oper} {i:Nat} {acc:List (Nat × Fp)} {st:St},(∀ j:Nat,os[j]?=ops[i+j]?)->Co C R fl ops bf os i acc st k=some x ->
 ∃ l t,k t=some x/\ZO C R fl ops l st t/\l.map (·.1)=List.range' i os.length/\(∀ p∈acc,∀ q∈l,p.1∈bf.getD q.1 []\/comm p.2 q.2=true) /\
   l.Pairwise fun p q=>p.1∈bf.getD q.1 []\/comm p.2 q.2=true
 | [],i,acc,st,_,H=>⟨[],st,H,rfl,rfl,by simp, .nil⟩
 | o::os,i,acc,st,hs,H=>by
   obtain ⟨s1,h1,h2,h3⟩:=A13 H;have Cz:∀ j:Nat,os[j]?=ops[i+1+j]?:=fun j=>by
    have:=hs (j+1);simp only [z9q] at this;rw [this];congr 1;omega
   obtain ⟨l,t,k1,k2,k3,k4,k5⟩:=xS Cz h3;refine ⟨(i,(CF C fl ops o st).Aq st s1)::l,t,k1,⟨o,s1, ?_,h1,rfl,k2⟩, ?_,fun p hp q hq => ?_, .cons (fun q hq=>k4 _ (z6q ..) q hq) k5⟩
   ·have:=hs 0
    simpa using this.symm
   ·simp only [zmq,zaq,zOq,k3]
   ·rcases zDq.1 hq with rfl | hq
    ·have:=z8q.1 h2 p hp
     simp only [yeq,List.contains_eq_mem,decide_eq_true_eq] at this;exact this
    ·exact k4 p (z4q _ hp) q hq
end
section
variable {C:X4} {R:O4} {fl:Flags} {ops:List Oper} {E:Env} {a:Act} {w:World} {K:Act->World->Prop} {Q:Exit->Act->World->Prop}
theorem A0j {st:St} {g t:Nat} {b:Bool} (Rl:J6 E st a w.heap) (ht:Ji ops g=some t) (hd:J5 (st.get t).2=true) (hb:(st.get t).1 = .bool b):yielded ops.toArray a.tmps g=some b:=by
 unfold Ji at ht;obtain ⟨o,h1,h2⟩:=A9 ht;have M4:t<a.tmps.size:=by
  rw [Rl.size];rcases zrq t st.tm.length with h | h
  ·exact h
  ·rw [g_ h Rl.AP] at hb;cases hb
 have hv:a.tmps[t]?=some a.tmps[t]:=zeq M4;have:=(Rl.regs t _ hv).data hd;rw [hb] at this;simp only [RV] at this;unfold yielded;simp [h1,h2,hv,this]
theorem B09 {st:St} {g t:Nat} (Rl:J6 E st a w.heap) (ht:Ji ops g=some t) (hd:J5 (st.get t).2=true) (hb:(st.get t).1 = .F3 []):yielded ops.toArray a.tmps g=none:=by
 unfold Ji at ht;obtain ⟨o,h1,h2⟩:=A9 ht;have M4:t<a.tmps.size:=by
  rw [Rl.size];rcases zrq t st.tm.length with h | h
  ·exact h
  ·rw [g_ h Rl.AP] at hb;cases hb
 have hv:a.tmps[t]?=some a.tmps[t]:=zeq M4;have:=(Rl.regs t _ hv).data hd;rw [hb] at this;simp only [RV] at this;obtain ⟨vs,h3,h4⟩:=this;unfold yielded;simp [h1,h2,hv,h3]
def Bo (ro:Option Nat):Fence:={ fn:=fun _=>True,depth:=none,alive:=false,round:=ro }
variable {ro:Option Nat} {n:Nat} {P:Program}
theorem B0l {f:FuncId} {args:Array Value} {w:World} {R:Ending->World->Prop} (h:Calls P f args w R):CallsIn (Bo ro) n P f args w R:=by
 have h1:CallsIn Fence.wide n P f args w R:=callsIn_wide.2 h;cases ro with
 | none=>exact h1
 | some l=>exact CallsIn.inRound l h1
theorem Gp.wpIn {o:Oper} (hd:∀ c,o.op ≠ .defer c) (H:Gp P o a w K):o.wpIn (Bo ro) n P a w K Q:=by
 refine ⟨fun _ _=>trivial, ?_⟩
 rw [Oper.semAt_eq _ _ _ hd];rcases H with ⟨v,w',h1,h2⟩ | ⟨w',h1,h2⟩ | ⟨f,args,h1,h2⟩
 ·rw [h1];exact h2
 ·rw [h1];exact h2
 ·rw [h1]
  exact ⟨fun h=>(by cases h),B0l (h2.mono fun e w' ⟨v,he,hk⟩=>by subst he;exact hk)⟩
theorem B2Z {i:Nat} {o:Oper} {s s1:St} (hO:C_ C R) (ho:ops[i]?=some o) (H:Y2 C R fl ops o s s1) (Rl:J6 E s a w.heap) (T:∀ E' a' w',a'.defers=a.defers->J6 E' s1 a' w'.heap->Pr L8 E w.heap E' w'.heap->Q3 w w'->K a' w'):wpOpIn (Bo ro) n C.P ops.toArray Q i K a w:=by
 unfold wpOpIn;have ho':ops.toArray[i]?=some o:=by simpa using ho
 simp only [ho'];unfold Y2 at H;have run:I7 C R fl o s some=some s1->o.wpIn (Bo ro) n C.P a w K Q:=fun H=>by
  have hd:∀ c,o.op ≠ .defer c:=fun c hc=>by simp [I7,hc] at H
  have h0:Gp C.P o a w fun a' w'=>∃ E',J6 E' s1 a' w'.heap/\Pr L8 E w.heap E' w'.heap/\Q3 w w':=C0Z hO H Rl fun E' st' a' w' h1 h2 h3 h4=>by
   simp only [Option.some.injEq] at h1;subst h1;exact ⟨E',h2,h3,h4⟩
  exact Gp.wpIn hd (h0.mono fun a' w' hd ⟨E',h1,h2,h3⟩=>T E' a' w' hd h1 h2 h3)
 split at H
 ·rename_i hg
  have hw:Region.wanted o (yielded ops.toArray a.tmps)=true:=by simp [Region.wanted,hg]
  rw [if_pos hw];exact run H
 ·rename_i g want hg
  obtain ⟨t,ht,hd,H⟩:=H;rcases H with ⟨hb,H⟩ | ⟨hb,H⟩
  ·have hw:Region.wanted o (yielded ops.toArray a.tmps)=true:=by simp [Region.wanted,hg,A0j Rl ht hd hb]
   rw [if_pos hw];exact run H
  ·have hw:¬ (Region.wanted o (yielded ops.toArray a.tmps)=true):=by
    rcases hb with hb | hb
    ·cases want <;> simp [Region.wanted,hg,A0j Rl ht hd hb]
    ·simp [Region.wanted,hg,B09 Rl ht hd hb]
   rw [if_neg hw];subst H;refine ⟨fun _ _=>trivial,T E _ w (Va ..) (Rl.put fun t _ => ?_) (Pr.refl _ _ _) (Q3.refl _)⟩
   simp only [RR,J8,RV,undef];exact ⟨#[],rfl,by simp [Pj]⟩
theorem B1B {X:Type} {k:St->Option X} {x:X} {ro:Option Nat} {n:Nat} (hO:C_ C R):∀ {os:List Oper} {i:Nat} {st:St} {E:Env} {a:Act} {w:World},(∀ j:Nat,os[j]?=ops[i+j]?)->Bt C R fl ops os st k=some x->J6 E st a w.heap ->
 (∀ E' t a' w',k t=some x->a'.defers=a.defers->J6 E' t a' w'.heap->Pr L8 E w.heap E' w'.heap->Q3 w w'->Q .normal a' w')->wpOpsIn (Bo ro) n C.P ops.toArray Q (List.range' i os.length) a w
 | [],i,st,E,a,w,_,H,Rl,T=>T E st a w H rfl Rl (Pr.refl _ _ _) (Q3.refl _)
 | o::os,i,st,E,a,w,hs,H,Rl,T=>by
   obtain ⟨s1,h1,h2⟩:=oI H;have Cz:∀ j:Nat,os[j]?=ops[i+1+j]?:=fun j=>by
    have:=hs (j+1);simp only [z9q] at this;rw [this];congr 1;omega
   simp only [zaq,zOq];rw [wpOpsIn_cons];refine B2Z hO (by simpa using (hs 0).symm) h1 Rl fun E' a' w' D1 R1 P1 O1 => ?_
   exact B1B hO Cz h2 R1 fun E2 t a2 w2 k1 k0 k2 k3 k4=>T E2 t a2 w2 k1 (k0.trans D1) k2 (P1.trans k3) (O1.trans k4)
end
end Go.Su

/-
 THE DATA MACHINE, part 24: a region in whatever order.
-/
namespace Go.Su
def aft (o:Oper):List Edge:=o.after.toList.filter (Region.binds .any)
theorem jC:∀ {os:List Oper} {acc:List (List Nat)} {j:Nat},j<acc.length->(KU os acc)[j]?=acc[j]?
 | [],acc,j,_=>rfl
 | o::os,acc,j,h=>by
   simp only [KU,Uh];rw [jC (by simp;omega),zdq h]
theorem A36:∀ {os:List Oper} {acc:List (List Nat)},Sq acc.length os=true->∀ (j:Nat) o,os[j]?=some o ->
 (KU os acc).getD (acc.length+j) []=uniq ((aft o).flatMap fun e=>e.on::(KU os acc).getD e.on [])
 | [],acc,_,j,o,h=>by simp at h
 | o'::os,acc,he,j,o,h=>by
   simp only [Sq,z3q] at he;simp only [KU,Uh];generalize hr:(acc++[uniq ((o'.after.toList.filter (Region.binds .any)).flatMap fun e=>e.on::acc.getD e.on [])])=acc'
   have hl:acc'.length=acc.length+1:=by rw [<- hr];simp
   cases j with
   | zero =>
     simp only [zfq,Option.some.injEq] at h;subst h;have h1:(KU os acc').getD (acc.length+0) []=uniq ((o'.after.toList.filter (Region.binds .any)).flatMap fun e=>e.on::acc.getD e.on []):=by
      rw [z5q,jC (by omega),<- hr]
      simp
     rw [h1];refine congrArg uniq (AX fun e hm => ?_)
     have h2:=z8q.1 he.1 e hm;simp only [decide_eq_true_eq] at h2;rw [z5q,z5q,jC (by omega),<- hr,zdq h2]
   | succ j =>
     have:=A36 (os:=os) (acc:=acc') (by rw [hl];exact he.2) j o (by simpa using h)
     rw [hl] at this;rw [show acc.length+(j+1)=acc.length+1+j by omega]
     exact this
theorem A8w:∀ {os:List Oper} {i:Nat},Sq i os=true->∀ (j:Nat) o,os[j]?=some o->∀ e∈aft o,e.on<i+j
 | [],i,_,j,o,h=>by simp at h
 | o'::os,i,he,j,o,h=>by
   simp only [Sq,z3q] at he;cases j with
   | zero =>
     simp only [zfq,Option.some.injEq] at h;subst h;intro e hm;have h2:=z8q.1 he.1 e hm;simpa using h2
   | succ j =>
     intro e hm;have:=A8w he.2 j o (by simpa using h) e hm
     omega
structure Inv (bf:List (List Nat)) (n:Nat) (listed:Array Bool) (l:List (Nat × Fp)):Prop where
 size:listed.size=n
 idx:∀ j:Nat,(∃ f,(j,f)∈l) ↔ listed[j]?=some false
 sorted:l.Pairwise fun p q=>p.1<q.1
 pw:l.Pairwise fun p q=>p.1∈bf.getD q.1 []\/comm p.2 q.2=true
 down:∀ j:Nat,listed[j]?=some true->∀ p∈bf.getD j [],listed[p]?=some true
variable {listed:Array Bool}
theorem A2y {j:Nat}:listed.getD j false=true ↔ listed[j]?=some true:=by
 rw [zEq];cases listed[j]? <;> simp
theorem eB {j:Nat}:listed.getD j true=false ↔ listed[j]?=some false:=by
 rw [zEq];cases listed[j]? <;> simp
section
variable {C:X4} {R:O4} {fl:Flags} {ops:List Oper} {Q:Exit->Act->World->Prop} {ro:Option Nat}
theorem B8J {bf:List (List Nat)} {t:St} {m:Nat} (hO:C_ C R) (hbf:∀ (i:Nat) o,ops[i]?=some o->∀ p,p∈bf.getD i []->p∈(aft o).flatMap fun e=>e.on::bf.getD e.on []) (M4:∀ (i:Nat) o,ops[i]?=some o->∀ e∈aft o,e.on<i) :
 ∀ (n:Nat) (l:List (Nat × Fp)) (listed:Array Bool) (s:St) (E:Env) (a:Act) (w:World),l.length=n->Inv bf ops.length listed l->ZO C R fl ops l s t->J6 E s a w.heap ->
   (∀ E' a' w',a'.defers=a.defers->J6 E' t a' w'.heap->Pr L8 E w.heap E' w'.heap->Q3 w w'->Q .normal a' w')->wpAnyIn (Bo ro) m C.P .any ops.toArray Q n listed a w:=by
 intro n
 induction n with
 | zero =>
   intro l listed s E a w hl I Ch Rl T;have hl0:=zsq hl;subst hl0;simp only [ZO] at Ch;subst Ch;refine ⟨?_,T E a w rfl Rl (Pr.refl _ _ _) (Q3.refl _)⟩;rw [List.eq_nil_iff_forall_not_mem];intro j hj;obtain ⟨h0,-⟩:=mem_ready.1 hj;obtain ⟨f,hf⟩:=(I.idx j).2 (eB.1 h0);cases hf
 | succ n ih =>
   intro l listed s E a w hl I Ch Rl T;constructor
   ·intro hr
    exfalso;cases l with
    | nil=>simp at hl
    | cons p l =>
      have hp:listed[p.1]?=some false:=(I.idx p.1).1 ⟨p.2,z6q ..⟩;obtain ⟨o,s1,ho,-⟩:=Ch;have:p.1∈Region.ready .any ops.toArray listed:=by
       refine mem_ready.2 ⟨eB.2 hp,o,by simpa using ho,fun e he hb=>A2y.2 ?_⟩
       have C3T:=M4 p.1 o ho e (zSq.2 ⟨by simpa using he,hb⟩)
       have Pt:=(z0q.1 hp).1;have iE:listed[e.on]?=some (listed[e.on]'(by omega)):=zeq (by omega)
       cases hv:(listed[e.on]'(by omega)) with
       | true=>rw [iE,hv]
       | false =>
         rw [hv] at iE;obtain ⟨f,hf⟩:=(I.idx e.on).2 iE;rcases zDq.1 hf with h | h
         ·have:e.on=p.1:=by rw [<- h]
          omega
         ·have:=(zCq.1 I.sorted).1 _ h
          simp only at this;omega
      rw [hr] at this;cases this
   ·intro i hi
    obtain ⟨h0,o,ho,WE⟩:=mem_ready.1 hi;have hif:=eB.1 h0;obtain ⟨g,hg⟩:=(I.idx i).2 hif;obtain ⟨A,B,rfl⟩:=List.append_of_mem hg;have ho':ops[i]?=some o:=by simpa using ho
    have iA:∀ p∈bf.getD i [],listed[p]?=some true:=by
     intro p hp
     replace hp:=hbf i o ho' _ hp
     obtain ⟨e,he,hp⟩:=zzq.1 hp;obtain ⟨he1,he2⟩:=zSq.1 he;have hl:=A2y.1 (WE e (by simpa using he1) he2)
     rcases zDq.1 hp with rfl | hp
     ·exact hl
     ·exact I.down _ hl p hp
    obtain ⟨pA,pB,pAB⟩:=zqq.1 I.pw;obtain ⟨sA,sB,sAB⟩:=zqq.1 I.sorted;obtain ⟨sB1,sB2⟩:=zCq.1 sB;have C1B:∀ q∈A,comm q.2 g=true:=by
     intro q hq;rcases pAB q hq (i,g) (z6q ..) with h | h
     ·have h1:=iA _ h
      have h2:=(I.idx q.1).1 ⟨q.2,zlq.2 (.inl hq)⟩;rw [h1] at h2;cases h2
     ·exact h
    obtain ⟨o',s1,k1,k2,k3,k4⟩:=ZO.first Ch C1B
    have B94:=(z0q.1 hif).1;refine B2Z hO k1 k2 Rl fun E' a' w' D1 R1 P1 O1=>ih (A++B) _ s1 E' a' w' ?_ ⟨?_,fun j => ?_, ?_, ?_,fun j hj p hp => ?_⟩ k4 R1 fun E2 a2 w2 D2 R2 P2 O2=>T E2 a2 w2 (D2.trans D1) R2 (P1.trans P2) (O1.trans O2)
    ·simp only [y5q,zaq] at hl ⊢;omega
    ·rw [Array.size_setIfInBounds];exact I.size
    ·constructor
     ·rintro ⟨f,hf⟩
      have hne:i≠j:=by
       rcases zlq.1 hf with h | h
       ·have:=sAB _ h (i,g) (z6q ..)
        simp only at this;omega
       ·have:=sB1 _ h
        simp only at this;omega
      rw [z7q hne];exact (I.idx j).1 ⟨f,by
       rcases zlq.1 hf with h | h
       ·exact zlq.2 (.inl h)
       ·exact zlq.2 (.inr (z4q _ h))⟩
     ·intro hj
      by_cases hne:i=j
      ·subst hne
       rw [zkq B94] at hj;cases hj
      ·rw [z7q hne] at hj
       obtain ⟨f,hf⟩:=(I.idx j).2 hj;refine ⟨f, ?_⟩;rcases zlq.1 hf with h | h
       ·exact zlq.2 (.inl h)
       ·rcases zDq.1 h with h | h
        ·simp only [Prod.mk.injEq] at h;exact absurd h.1.symm hne
        ·exact zlq.2 (.inr h)
    ·exact zqq.2 ⟨sA,sB2,fun p hp q hq=>sAB p hp q (z4q _ hq)⟩
    ·exact zqq.2 ⟨pA,(zCq.1 pB).2,fun p hp q hq=>pAB p hp q (z4q _ hq)⟩
    ·have mono:∀ q:Nat,listed[q]?=some true->(listed.setIfInBounds i true)[q]?=some true:=by
      intro q hq
      by_cases hne:i=q
      ·subst hne;exact zkq B94
      ·rw [z7q hne];exact hq
     by_cases hne:i=j
     ·subst hne;exact mono p (iA p hp)
     ·rw [z7q hne] at hj
      exact mono p (I.down j hj p hp)
variable {w:World}
theorem B22 {X:Type} {n:Nat} {k:St->Option X} {x:X} {ops:Array Oper} {id:Nat} {st:St} {E:Env} {a:Act} (hO:C_ C R) (H:Bt C R fl ops.toList ops.toList st k=some x) (Rl:J6 E st a w.heap) (T:∀ E' t a' w',k t=some x->a'.defers=a.defers->J6 E' t a' w'.heap->Pr L8 E w.heap E' w'.heap->Q3 w w'->Q .normal a' w'):(Code.region id ops false).wpIn (Bo ro) n C.P Q a w:=by
 refine wpIn_region ?_;have:=B1B (ro:=ro) (n:=n) (i:=0) hO (fun j=>by rw [zhq]) H Rl T
 rwa [zTq,<- zIq]
theorem B6F {X:Type} {n:Nat} {k:St->Option X} {x:X} {ops:Array Oper} {id:Nat} {st:St} {E:Env} {a:Act} (hm:C.P.follows .mixedOrders=true) (hO:C_ C R) (H:og (Sq 0 ops.toList) (Co C R fl ops.toList (KU ops.toList []) ops.toList 0 [] st k)=some x) (Rl:J6 E st a w.heap) (T:∀ E' t a' w',k t=some x->a'.defers=a.defers->J6 E' t a' w'.heap->Pr L8 E w.heap E' w'.heap->Q3 w w'->Q .normal a' w'):(Code.region id ops true).wpIn (Bo ro) n C.P Q a w:=by
 obtain ⟨he,H⟩:=F4 H;obtain ⟨l,t,h1,h2,h3,h4,h5⟩:=xS (fun j=>by rw [zhq]) H
 refine wpIn_region_any hm ?_;have Dh:l.length=ops.size:=by
  have:=congrArg List.length h3;simpa using this
 have hidx:∀ j:Nat,(∃ f,(j,f)∈l) ↔ j<ops.size:=by
  intro j;have:j∈l.map (·.1) ↔ j∈List.range' 0 ops.toList.length:=by rw [h3]
  rw [ydq] at this;simp only [List.mem_range'_1,Nat.zero_le,true_and,zhq,zIq] at this;rw [<- this];constructor
  ·rintro ⟨f,hf⟩;exact ⟨_,hf,rfl⟩
  ·rintro ⟨p,hp,rfl⟩;exact ⟨p.2,hp⟩
 have B75:l.Pairwise fun p q=>p.1<q.1:=by
  have:(l.map (·.1)).Pairwise (· < ·):=by rw [h3];exact List.pairwise_lt_range' ..
  exact List.pairwise_map.1 this
 have:=B8J (ro:=ro) (m:=n) (t:=t) (fl:=fl) (Q:=Q) (ops:=ops.toList) (bf:=KU ops.toList []) hO (fun i o ho p hp=>by
  have h:=A36 (acc:=[]) he i o ho;simp only [zUq,zhq] at h;rw [h] at hp;exact A25.1 hp) (fun i o ho e hm=>by simpa using A8w he i o ho e hm)
  ops.size l (Array.replicate ops.size false) st E a { w with drawn:=w.drawn+1 } Dh ⟨by simp,fun j => ?_,B75,h5,fun j hj => ?_⟩ h2 Rl fun E' a' w' D1 R1 P1 O1=>T E' t a' w' h1 D1 R1 P1 ⟨O1.os,O1.tape,O1.output⟩
 ·simpa using this
 ·rw [hidx]
  rw [zAq]
  split <;> simp_all
 ·rw [zAq] at hj
  split at hj <;> simp at hj
end
end Go.Su

/-
 THE DATA MACHINE, part 24a: what a loop over an iterator leaves as it was.
-/
namespace Go.Su
def Marks (n:Nat) (E:Env) (h:Heap) (ms:List Deferred):Prop :=
 (∀ m∈ms,∃ D,m={ target := .collected D,args := #[] }/\h[D]?=some (.deferred (some []))/\E.O D 0 = .other/\n<=D)/\ms.Pairwise (· ≠ ·)
variable {n:Nat} {E:Env} {h:Heap}
theorem Marks.nil:Marks n E h []:=⟨fun _ hm=>(by cases hm), .nil⟩
variable {b:Nat}
theorem Pr.eH {E':Env} {h':Heap} (P:Pr L8 E h E' h') {ob:Obj} (hb:h[b]?=some ob) (hc:ob.isCells=false) (ho:E.O b 0 = .other):h'[b]?=some ob:=by
 have M4:=(z0q.1 hb).1;have hk:=P.blk b M4;rw [hb] at hk;unfold U6 at hk
 split at hk
 ·rename_i hx;cases hx
 ·rename_i hx
  simp only [Option.some.injEq] at hx;subst hx;simp [Obj.isCells] at hc
 ·rename_i ob' _ hx
  simp only [Option.some.injEq] at hx;subst hx;exact hk (by rw [ho];simp [L8])
theorem Pr.WK {E':Env} {h':Heap} (P:Pr L8 E h E' h') {o:Nat} (hb:b<h.size) (ho:E.O b o = .other):E'.O b o = .other:=by
 rw [P.tags b o hb (by rw [ho];simp [L8]),ho]
theorem Marks.mono {E':Env} {h':Heap} {ms:List Deferred} (H:Marks n E h ms) (P:Pr L8 E h E' h'):Marks n E' h' ms:=⟨fun m hm=>by
 obtain ⟨D,h1,h2,h3,h4⟩:=H.1 m hm;exact ⟨D,h1,P.eH h2 rfl h3,P.WK (z0q.1 h2).1 h3,h4⟩,H.2⟩
theorem Marks.append {E0:Env} {h0:Heap} {ms ns:List Deferred} (H:Marks h0.size E h ns) (K0:Marks n E0 h0 ms) (P:Pr L8 E0 h0 E h) (hn:n<=h0.size):Marks n E h (ns++ms):=by
 have K:=K0.mono P;refine ⟨fun m hm => ?_,zqq.2 ⟨H.2,K.2,fun x hx y hy he => ?_⟩⟩
 ·rcases zlq.1 hm with h1 | h1
  ·obtain ⟨D,h1,h2,h3,h4⟩:=H.1 m h1
   exact ⟨D,h1,h2,h3,zFq hn h4⟩
  ·exact K.1 m h1
 ·obtain ⟨D,h1,-,-,h4⟩:=H.1 x hx
  obtain ⟨D',k1,k2,-⟩:=K0.1 y hy;have:=(z0q.1 k2).1;rw [h1,k1] at he;simp only [Deferred.mk.injEq,Target.collected.injEq,and_true] at he;omega
variable {l:Nat}
theorem Pr.swap {ch:Tag->Prop} {E':Env} {h':Heap} {x y:Obj} (P:Pr ch E (h.setIfInBounds l x) E' h') (hy:h[l]?=some y):Pr ch E h E' (h'.setIfInBounds l y):=by
 have hl:=(z0q.1 hy).1;have hs:h.size<=h'.size:=by have:=P.size;simpa using this
 refine ⟨by simpa using hs,fun b hb => ?_,fun b o hb hn=>P.tags b o (by simpa using hb) hn,P.n,P.Q0,P.jD,P.Mw⟩
 by_cases zA:l=b
 ·subst zA
  rw [zkq (by omega),hy]
  exact U6.refl _ _
 ·have:=P.blk b (by simpa using hb)
  rw [z7q zA] at this;rw [z7q zA];exact this
theorem Pr.zg {ch:Tag->Prop} {E':Env} {h':Heap} {x:Obj} (P:Pr ch E h E' h') (hl:h.size<=l):Pr ch E h E' (h'.setIfInBounds l x):=by
 refine ⟨by simpa using P.size,fun b hb => ?_,P.tags,P.n,P.Q0,P.jD,P.Mw⟩
 rw [z7q (by omega)]
 exact P.blk b hb
theorem Pr.setOther {x y:Obj} (hy:h[l]?=some y) (hc:y.isCells=false) (ho:E.O l 0 = .other):Pr (fun T=>T = .other) E h E (h.setIfInBounds l x):=by
 refine ⟨by simp,fun b hb => ?_,fun _ _ _ _=>rfl,zbq _,fun _ _ _=>⟨rfl,rfl,rfl⟩,fun _ _=>rfl,DK rfl⟩
 by_cases zA:l=b
 ·subst zA
  rw [hy];unfold U6
  split
  ·trivial
  ·rename_i hx
   simp only [Option.some.injEq] at hx;subst hx;simp [Obj.isCells] at hc
  ·exact fun h0=>absurd ho h0
 ·rw [z7q zA]
  exact U6.refl _ _
section
variable {E E':Env} {st:St} {a:Act} {h h':Heap}
theorem J6.others (Rl:J6 E st a h) (P:Pr (fun T=>T = .other) E h E' h') (hn:E'.n=E.n) (hf:∀ b o,h'.size<=b->E'.O b o = .other):J6 E' st a h':=by
 have J3:=P.shut (by simp) Rl.fresh
 exact ⟨Rl.size,Rl.AP,Rl.Bi,by rw [hn];exact Rl.n,fun t v hv=>(Rl.regs t v hv).mono P J3 (by simp) (by simp),fun s cs hs=>by rw [P.jD s (by simp)];exact (Rl.boxes s cs hs).mono P J3 (by simp) (by simp),
  fun i ob hi=>(Rl.Q0 i ob hi).mono P J3 (by rw [<- Rl.n];exact (z1q.1 hi).1) (by simp) (by simp),hf⟩
theorem TZ.pr {w w':World} (H:TZ n E w w'):Pr (fun T=>T = .other) E w.heap E w'.heap:=by
 refine ⟨H.size,fun b hb => ?_,fun _ _ _ _=>rfl,zbq _,fun _ _ _=>⟨rfl,rfl,rfl⟩,fun _ _=>rfl,DK rfl⟩
 rcases H.blk b hb with h1 | ⟨-,⟨c,T,f,c',h1,h2,h3⟩,h4⟩
 ·rw [h1];exact U6.refl _ _
 ·rw [h1,h2]
  exact ⟨c',rfl,h3,fun o ho=>absurd (h4 o) ho⟩
theorem TZ.keep {w w':World} (H:TZ n E w w') {ob:Obj} (hb:w.heap[b]?=some ob) (hc:ob.isCells=false):w'.heap[b]?=some ob:=by
 rcases H.blk b (z0q.1 hb).1 with h1 | ⟨-,⟨c,T,f,c',h1,h2,h3⟩,h4⟩
 ·rw [h1,hb]
 ·rw [hb] at h1
  simp only [Option.some.injEq] at h1;subst h1;simp [Obj.isCells] at hc
theorem TZ.after {w w':World} {E0:Env} {h0:Heap} (H:TZ n E w w') (hn:h0.size<=n) (P:Pr L8 E0 h0 E w.heap):Pr L8 E0 h0 E w'.heap:=by
 refine ⟨zFq P.size H.size,fun b hb => ?_,P.tags,P.n,P.Q0,P.jD,P.Mw⟩
 have:=P.blk b hb;rcases H.blk b (y0q hb P.size) with h1 | ⟨h1,-⟩
 ·rw [h1];exact this
 ·omega
theorem RR.stay {k t:Nat} {d:DV} {m:Meta} {v:Value} {k' t':Nat} (R:RR E h k t d m v) (J3:Y0 E.S h E'.S h') (ho:∀ i,E.In i->E'.In i/\E'.obj i=E.obj i) :
 RR E' h' k' t' (VE (d,m)).1 (VE (d,m)).2 v:=by
 cases m <;> simp only [VE,RR,J8,RV] at R ⊢
 case val=>exact R.mono J3
 case full=>exact ⟨R.1.mono J3,R.2⟩
 case own=>exact R.1.mono J3
 case ptr i o=>exact ⟨(ho i R.1).1,by rw [(ho i R.1).2];exact R.2⟩
 case Di=>exact ⟨trivial,R.2⟩
 case map i=>exact ⟨(ho i R.1).1,by rw [(ho i R.1).2];exact R.2⟩
 case QL=>exact R
 case fn f caps =>
  refine ⟨?_,fun c hc=>(ho _ (R.2 c hc)).1⟩
  rw [R.1]
  congr 2
  refine y1q fun c hc => ?_
  rw [(ho _ (R.2 c hc)).2]
variable {sg:List D8}
theorem B4C {st:St} (hl:st.mt.length=st.tm.length) (t:Nat) (ht:t<st.tm.length):(AB st sg).get t=VE (st.get t):=by
 simp only [St.get,AB,z5q,zcq,zGq];have h1:(st.tm.zip st.mt)[t]?=some (st.tm[t],st.mt[t]'(by omega)):=by
  rw [zGq];exact ⟨z2q ht,z2q (by omega)⟩
 rw [h1];simp [z2q ht,z2q (show t<st.mt.length by omega)]
theorem J6.outer (Rl:J6 E st a h) (J3:Y0 E.S h E'.S h') (ho:∀ i,E.In i->E'.In i/\E'.obj i=E.obj i) (hs:sg.length=E'.n) (hob:∀ (i:Nat) ob,sg[i]?=some ob->RO E' h' i ob) (hf:∀ b o,h'.size<=b->E'.O b o = .other) {ds:List Deferred}:J6 E' (AB st sg) { a with defers:=ds } h':=by
 have hl:=Rl.AP;refine ⟨?_,by simp [AB,hl],by simp [AB,hl,Rl.Bi],hs,fun t v hv => ?_,fun s cs Fe => ?_,hob,hf⟩
 ·simp [AB,hl];exact Rl.size
 ·have ht:t<st.tm.length:=by rw [<- Rl.size];exact (z0q.1 hv).1
  rw [B4C hl t ht];exact (Rl.regs t v hv).stay J3 ho
 ·simp only [AB,z5q,zcq] at Fe
  cases hb:st.bx[s]? <;> rw [hb] at Fe <;> simp at Fe
end
def A76 (i:Nat):Tag->Tag
 | .other => .other
 | .shut => .shut
 | .SX _ => .other
 | .obj j=>if j=i then .other else .obj j
 | .sp k a b=>if k=2/\a≠i then .sp k a b else .other
theorem A6n {E:Env} {h:Heap} {k a:Nat}:∀ {cs:List (DV × Meta)} {cd:List DV} {vs:List Value},BQ cs=some cd->cs.length=vs.length ->
 (∀ (j:Nat) r v,cs[j]?=some r->vs[j]?=some v->K6 r.1=true/\v.oneCell'=true/\X0 r.2=true/\∃ q,J8 E h (.sp k a q) r.1 r.2 v)->Gq E.S h cd vs
 | [],cd,vs,H,hl,_=>by
   simp only [BQ,Option.some.injEq] at H;subst H;simp only [Gq];exact zsq hl.symm
 | c::cs,cd,vs,H,hl,hr=>by
   simp only [BQ] at H;obtain ⟨h1,H⟩:=F4 H;obtain ⟨ds,h2,H⟩:=A9 H;simp only [Option.some.injEq] at H;subst H;cases vs with
   | nil=>simp at hl
   | cons v vs =>
     obtain ⟨a1,a2,a3,q,a4⟩:=hr 0 c v rfl rfl;simp only [Gq];refine ⟨v,vs,rfl,a1,Nq a1 a2 ?_,A6n h2 (by simpa using hl) fun j r u hj hu=>hr (j+1) r u (by simpa using hj) (by simpa using hu)⟩
     revert a4 h1
     cases c.2 <;> simp only [J8] <;> intro h1 a4 <;> first | exact a4 | exact a4.1 | (simp at h1)
end Go.Su

/-
 A scope through which the run goes without a jump (functions that hold labels).
-/
namespace Go.Su
open Go
def C3e (Q:Exit->Act->World->Prop):Exit->Act->World->Prop
 | .goto _,_,_=>False
 | e,a,w=>Q e a w
section
variable {P:Program} {b:Frame} {a:Act} {k:List Item} {cs:List Frame} {w:World} {Q:Exit->Act->World->Prop} {F:Fence} {n:Nat} {c:Code}
theorem Mm:step P (lone (b.atR a (.code (.scope c)::k)) cs w) = .next (lone (b.atR a (.code c :: .inScope c::k)) cs w) :=
 step_lone_go (by simp [stepG,stepG.exec,Frame.atR])
theorem A7U:step P (lone (b.atR a (.inScope c::k)) cs w) = .next (lone (b.atR a k) cs w) :=
 step_lone_go (by simp [stepG,stepG.exec,Frame.atR])
theorem B3j (h:c.wpIn F n P (C3e Q) a w):(Code.scope c).wpIn F n P Q a w:=by
 intro b k cs Qj hb hr;have h0:(lone (b.atR a (.code (.scope c)::k)) cs w).fenced P F:=fenced_calm hb hr rfl;obtain ⟨e,a₁,w₁,hq,A5M⟩:=h b (.inScope c::k) cs Qj hb hr;cases e with
 | normal=>exact ⟨.normal,a₁,w₁,hq, .head h0 Mm (StepsIn.trans A5M (.one (fenced_calm hb hr rfl) A7U))⟩
 | exit id =>
   have hx:exitTo id (.inScope c::k)=exitTo id k:=by simp [exitTo]
   exact ⟨.exit id,a₁,w₁,hq,fun k' hk => .head h0 Mm (A5M.1 k' (by rw [hx];exact hk)),
    fun Aw hk=>let ⟨k₁,h1,h2⟩:=A5M.2 Aw (by rw [hx];exact hk);⟨k₁,h1, .head h0 Mm h2⟩⟩
 | goto l=>exact hq.elim
 | ret=>exact ⟨_,a₁,w₁,hq, .of_steps (.one h0 Mm) A5M⟩
 | panic ch=>exact ⟨_,a₁,w₁,hq, .of_steps (.one h0 Mm) A5M⟩
 | outgrown=>exact ⟨_,a₁,w₁,hq, .of_steps (.one h0 Mm) A5M⟩
end
end Go.Su

/-
 THE DATA MACHINE, part 25: code.
-/
namespace Go.Su
def Out.Xr:Out->Exit
 | .normal => .normal
 | .exit i => .exit i
 | .ret => .ret
theorem iG {α : Type} {ts:List Nat} {d : α}:∀ {l:List α} {i j:Nat},(Wx ts d i l)[j]?=(l[j]?).map fun y=>if ts.contains (i+j) then y else d
 | [],i,j=>by simp [Wx]
 | y::l,i,0=>by simp [Wx]
 | y::l,i,j+1=>by
   simp only [Wx,z9q];rw [iG,show i+1+j=i+(j+1) by omega]
theorem Uq {α : Type} {ts:List Nat} {d : α}:∀ {l:List α} {i:Nat},(Wx ts d i l).length=l.length
 | [],i=>rfl
 | y::l,i=>by simp [Wx,Uq]
theorem pK {α : Type} {f : α -> α} {ts:List Nat}:∀ {l:List α} {i j:Nat},(eO f ts i l)[j]?=(l[j]?).map fun y=>if ts.contains (i+j) then f y else y
 | [],i,j=>by simp [eO]
 | y::l,i,0=>by simp [eO]
 | y::l,i,j+1=>by
   simp only [eO,z9q];rw [pK,show i+1+j=i+(j+1) by omega]
theorem jc {α : Type} {f : α -> α} {ts:List Nat}:∀ {l:List α} {i:Nat},(eO f ts i l).length=l.length
 | [],i=>rfl
 | y::l,i=>by simp [eO,jc]
variable {E:Env} {h:Heap} {tg:Tag} {d:DV} {v:Value}
theorem A2z (H:J8 E h tg d .full v):J8 E h tg d .own v:=by
 obtain ⟨g1,⟨a1,n1,g2⟩,sz,ds,g3⟩:=H;refine ⟨g1,sz,ds,g3,fun x len cap hx M4 => ?_⟩
 rw [g2] at hx;simp only [Value.slice.injEq] at hx;omega
variable {m:Meta}
theorem B6P (H:J8 E h tg d m v):J8 E h tg d (NZ m) v:=by
 cases m <;> first | exact A2z H | exact H
theorem B6Q {k a:Nat} (H:RR E h k a d m v):RR E h k a d (NZ m) v:=by
 cases m <;> first | exact A2z H | exact H
theorem B4Z (H:X0 m=true):X0 (NZ m)=true:=by
 cases m <;> first | rfl | exact H
theorem B6R (H:J8 E h tg d m v):J8 E h tg d (XG m) v:=by
 unfold XG
 split
 ·rename_i hd
  cases m
  case Di=>obtain ⟨rfl,rfl⟩:=(H:_/\_);simp only [J8,RV]
  all_goals first | exact H | exact H.1 | (simp [J5] at hd;done) | exact H.elim
 ·exact H
theorem B6S {k a:Nat} (H:RR E h k a d m v):RR E h k a d (XG m) v:=by
 unfold XG
 split
 ·rename_i hd
  exact RR.val (RR.data hd H)
 ·exact H
theorem B40 (H:X0 m=true):X0 (XG m)=true:=by
 unfold XG
 split
 ·rfl
 ·exact H
variable {st:St} {a:Act}
theorem J6.keep (R:J6 E st a h) (ts bs os vs:List Nat):J6 E (st.keep ts bs os vs) a h:=by
 refine ⟨by simp only [St.keep,Uq];exact R.size,by simp only [St.keep,Uq,jc];exact R.AP,by simp only [St.keep,Uq,jc];exact R.Bi,R.n,fun t v hv => ?_,fun s cs hs => ?_,R.Q0,R.fresh⟩
 ·have ht:t<st.tm.length:=by rw [<- R.size];exact (z0q.1 hv).1
  have ht':t<st.mt.length:=by rw [R.AP];exact ht
  have h0:=R.regs t v hv
  by_cases hc:ts.contains t=true
  ·have:(st.keep ts bs os vs).get t=((st.get t).1,(fun m=>if vs.contains t then XG m else m) ((fun m=>if os.contains t then NZ m else m) (st.get t).2)):=by
    simp only [St.get,St.keep,z5q,iG,pK,zhq,hc,if_true,Option.map_id',z2q ht'];rfl
   rw [this];have h1:RR E h 0 t (st.get t).1 ((fun m=>if os.contains t then NZ m else m) (st.get t).2) v:=by
    simp only
    split
    ·exact B6Q h0
    ·exact h0
   simp only at h1 ⊢
   split
   ·exact B6S h1
   ·exact h1
  ·have:(st.keep ts bs os vs).get t=(.undef, .val):=by
    simp only [St.get,St.keep,z5q,iG,pK,zhq,hc,z2q ht,z2q ht',zyq,y3q];simp only [ziq,if_false,NZ,XG,J5,ite_self]
   rw [this];simp only [RR,J8,RV]
 ·simp only [St.keep,z5q,iG,pK,zhq] at hs ⊢
  cases hb:st.bx[s]? with
  | none=>rw [hb] at hs;simp at hs
  | some y =>
    rw [hb] at hs;simp only [zyq,y3q] at hs ⊢
    by_cases hc:bs.contains s=true
    ·simp only [hc,if_true] at hs
     have old:∀ cs',y=some cs'->ak E h (.SX s) 1 s (E.blk s) cs':=fun cs' hy=>R.boxes s cs' (by simp only [z5q,hb,y3q,hy])
     have step1:∀ cs',(if os.contains s=true then WL y else y)=some cs'->ak E h (.SX s) 1 s (E.blk s) cs':=by
      intro cs hs
      by_cases ho:os.contains s=true
      ·simp only [ho,if_true] at hs
       cases y with
       | none=>simp [WL] at hs
       | some cs' =>
         simp only [WL,Option.some.injEq] at hs;subst hs;obtain ⟨c,T,h1,h2,h3,h4⟩:=old cs' rfl;refine ⟨c,T,h1,by simpa using h2,h3,fun j r v hr hv => ?_⟩
         simp only [zcq,zgq] at hr;obtain ⟨r0,zK,rfl⟩:=hr;obtain ⟨k1,k2,k3,k4⟩:=h4 j r0 v zK hv;exact ⟨k1,k2,B4Z k3,B6P k4⟩
      ·simp only [ho,ziq,if_false] at hs
       exact old cs hs
     by_cases hv:vs.contains s=true
     ·simp only [hv,if_true] at hs
      generalize (if os.contains s=true then WL y else y)=z at hs step1
      cases z with
      | none=>simp [qL] at hs
      | some cs' =>
        simp only [qL,Option.some.injEq] at hs;subst hs;obtain ⟨c,T,h1,h2,h3,h4⟩:=step1 cs' rfl;refine ⟨c,T,h1,by simpa using h2,h3,fun j r v hr hv => ?_⟩
        simp only [zcq,zgq] at hr;obtain ⟨r0,zK,rfl⟩:=hr;obtain ⟨k1,k2,k3,k4⟩:=h4 j r0 v zK hv;exact ⟨k1,k2,B40 k3,B6R k4⟩
     ·simp only [hv,ziq,if_false] at hs
      exact step1 cs hs
    ·simp only [hc,ziq,if_false] at hs
     split at hs <;> split at hs <;> simp [WL,qL] at hs
theorem J6.Gu (R:J6 E st a h) (fl:Flags) (id:Nat):J6 E (Gu fl id st) a h:=by
 unfold Su.Gu
 split
 ·exact R.keep _ _ _ _
 ·exact R
theorem J6.clean (R:J6 E st a h) (fl:Flags) (c:Code):J6 E (clean fl c st) a h:=by
 unfold Su.clean
 split
 ·exact R.Gu fl _
 ·exact R
theorem Zm {S X:Type} {F:(S->Option X)->S->Option X} {s:S} {x:X} (H:Ha F s=some x):∃ n,iter F n s=some x:=by
 unfold Ha at H
 split at H
 ·rename_i h
  simp only [Option.some.injEq] at H;obtain ⟨n,hn⟩:=h.choose_spec;rw [H] at hn;exact ⟨n,hn⟩
 ·cases H
section
variable {X:Type} {C:X4} {R:O4} {fl:Flags} {ps:Array Nat}
theorem A4t {C:X4} {g:Operand} {pl:Bool} {fin:St->Option X} {step:Nat->DV->(List D8->Option X)->List D8->Option X} {x:X} (H:A0v C st g ps pl fin step=some x) :
 ∃ t p f i it cs cd ds,g = .tmp t/\ps.toList=[p]/\(st.get t).2 = .fn f [(i,0)]/\C.iter f=some it/\M5 st.sg i=some cs/\BQ cs=some cd/\it cd=some ds/\pl=true /\
   MM (step p) (fun sg=>fin (AB st sg)) ds (st.sg.set i (.arr 1 []))=some x:=by
 unfold A0v at H
 split at H
 ·rename_i t p hp
  split at H
  ·rename_i f i hm
   obtain ⟨it,h1,H⟩:=A9 H;obtain ⟨cs,h2,H⟩:=A9 H;obtain ⟨cd,h3,H⟩:=A9 H;obtain ⟨ds,h4,H⟩:=A9 H;obtain ⟨h5,H⟩:=F4 H;exact ⟨t,p,f,i,it,cs,cd,ds,rfl,hp,hm,h1,h2,h3,h4,h5,H⟩
  ·cases H
 ·cases H
theorem B5I {C:X4} {fin:St->Option X} {step:Nat->DV->(List D8->Option X)->List D8->Option X} {t p f i:Nat} {it:List DV->Option (List DV)} {cs:List (DV × Meta)} {cd ds:List DV} (hp:ps.toList=[p]) (hm:(st.get t).2 = .fn f [(i,0)]) (h1:C.iter f=some it) (h2:M5 st.sg i=some cs) (h3:BQ cs=some cd) (h4:it cd=some ds) :
 A0v C st (.tmp t) ps true fin step=MM (step p) (fun sg=>fin (AB st sg)) ds (st.sg.set i (.arr 1 [])):=by
 unfold A0v;simp only [hp,hm,h1,h2,h3,h4,ob,og]
theorem B0w {step:DV->(List D8->Option X)->List D8->Option X} {fin:List D8->Option X} {ds:List DV} {k:Nat} (h:ds[k]?=some d) (sg:List D8) :
 MM step fin (ds.drop k) sg=step d (MM step fin (ds.drop (k+1))) sg:=by
 obtain ⟨hk,h⟩:=z1q.1 h;rw [zjq hk,h];rfl
def Left (c:Code) (n:Nat) (E:Env) (h:Heap) (ds ds':List Deferred):Prop:=∃ ms,ds'=ms++ds/\Marks n E h ms/\(P8 c=true->ms=[])
variable {c:Code}
theorem Left.same {n:Nat} {ds ds':List Deferred} (e:ds'=ds):Left c n E h ds ds':=⟨[],e,Marks.nil,fun _=>rfl⟩
theorem Left.plain {n:Nat} {ds ds':List Deferred} (L:Left c n E h ds ds') (hp:P8 c=true):ds'=ds:=by
 obtain ⟨ms,h1,-,h2⟩:=L;rw [h1,h2 hp];rfl
theorem B0B (h:pF c=true):P8 c=true:=by
 unfold pF at h
 split at h
 ·rfl
 ·rfl
 ·cases h
set_option maxHeartbeats 1000000 in
theorem Jn (hm:C.P.follows .mixedOrders=true) (hO:C_ C R):∀ (c:Code) {ro:Option Nat} {n:Nat} {K:Out->St->Option X} {st:St} {x:X} {E:Env} {a:Act} {w:World} {Q:Exit->Act->World->Prop},(ro=none\/P8 c=true)->R8 C R fl c K st=some x->J6 E st a w.heap ->
 (∀ out E' st' a' w',K out st'=some x->Left c w.heap.size E' w'.heap a.defers a'.defers->J6 E' st' a' w'.heap->Pr L8 E w.heap E' w'.heap->Q3 w w'->Q out.Xr a' w')->c.wpIn (Bo ro) n C.P Q a w:=by
 intro c
 induction c with
 | skip =>
   intro ro n K st x E a w Q Qj H Rl T;exact wpIn_skip (T .normal E st a w H (Left.same rfl) Rl (Pr.refl _ _ _) (Q3.refl _))
 | scope c ih =>
   intro ro n K st x E a w Q Qj H Rl T;simp only [R8] at H;refine B3j (ih Qj H Rl fun out E' st' a' w' h1 h0 h2 h3 h4 => ?_)
   cases out with
   | normal=>exact T .normal E' st' a' w' h1 h0 h2 h3 h4
   | exit i=>exact T (.exit i) E' st' a' w' h1 h0 h2 h3 h4
   | ret=>exact T .ret E' st' a' w' h1 h0 h2 h3 h4
 | label l =>
   intro ro n K st x E a w Q Qj H Rl T;exact wpIn_label (T .normal E st a w H (Left.same rfl) Rl (Pr.refl _ _ _) (Q3.refl _))
 | region id ops d =>
   intro ro n K st x E a w Q Qj H Rl T;cases d
   ·exact B22 hO H (Rl.Gu fl id) fun E' t a' w' h1 h0 h2 h3 h4=>by
     obtain ⟨E2,t2,k1,k2,k3⟩:=A4b h1 h2;exact T .normal E2 t2 a' w' k1 (Left.same h0) k2 (h3.trans k3) h4
   ·simp only [R8,jV] at H
    exact B6F hm hO H (Rl.Gu fl id) fun E' t a' w' h1 h0 h2 h3 h4=>by
     obtain ⟨E2,t2,k1,k2,k3⟩:=A4b h1 h2;exact T .normal E2 t2 a' w' k1 (Left.same h0) k2 (h3.trans k3) h4
 | seq c d ihc ihd =>
   intro ro n K st x E a w Q Qj H Rl T;have hp:P8 (.seq c d)=true->P8 c=true/\P8 d=true:=fun h=>by simpa [P8] using h
   refine wpIn_seq (ihc (Qj.imp id fun h=>(hp h).1) H Rl fun out E' st' a' w' h1 h0 h2 h3 h4 => ?_)
   obtain ⟨ms,q1,q2,q3⟩:=h0;cases out with
   | normal =>
     refine ihd (Qj.imp id fun h=>(hp h).2) h1 (h2.clean fl d) fun out E2 st2 a2 w2 k1 k0 k2 k3 k4=>T out E2 st2 a2 w2 k1 ?_ k2 (h3.trans k3) (h4.trans k4)
     obtain ⟨ns,p1,p2,p3⟩:=k0;exact ⟨ns++ms,by rw [p1,q1,zxq],p2.append q2 k3 h3.size,fun h=>by rw [p3 (hp h).2,q3 (hp h).1];rfl⟩
   | exit i=>exact T (.exit i) E' st' a' w' h1 ⟨ms,q1,q2,fun h=>q3 (hp h).1⟩ h2 h3 h4
   | ret=>exact T .ret E' st' a' w' h1 ⟨ms,q1,q2,fun h=>q3 (hp h).1⟩ h2 h3 h4
 | cond y c d ihc ihd =>
   intro ro n K st x E a w Q Qj H Rl T;have hp:P8 (.cond y c d)=true->P8 c=true/\P8 d=true:=fun h=>by simpa [P8] using h
   simp only [R8,bV] at H;obtain ⟨r,h1,H⟩:=A9 H;obtain ⟨h2,H⟩:=F4 H;have e1:=(Rl.src h1).data h2;have fin:(r.1 = .bool true/\R8 C R fl c K (Su.clean fl c st)=some x)\/(r.1 = .bool false/\R8 C R fl d K (Su.clean fl d st)=some x):=by
    cases y with
    | tmp t =>
      simp only [src,Option.some.injEq] at h1;subst h1;simp only at H;rcases OP H with ⟨h3,h4⟩ | ⟨h3,h4⟩
      ·rw [FB h3 (by simp)] at h4
       exact .inl ⟨h3,h4⟩
      ·rw [FB h3 (by simp)] at h4
       exact .inr ⟨h3,h4⟩
    | _=>exact OP H
   rcases fin with ⟨h3,h4⟩ | ⟨h3,h4⟩
   ·rw [h3] at e1
    simp only [RV] at e1;exact wpIn_cond_true e1 (ihc (Qj.imp id fun h=>(hp h).1) h4 (Rl.clean fl c) fun out E' st' a' w' h1 ⟨ms,q1,q2,q3⟩ h2 h3 h4=>T out E' st' a' w' h1 ⟨ms,q1,q2,fun h=>q3 (hp h).1⟩ h2 h3 h4)
   ·rw [h3] at e1
    simp only [RV] at e1;exact wpIn_cond_false e1 (ihd (Qj.imp id fun h=>(hp h).2) h4 (Rl.clean fl d) fun out E' st' a' w' h1 ⟨ms,q1,q2,q3⟩ h2 h3 h4=>T out E' st' a' w' h1 ⟨ms,q1,q2,fun h=>q3 (hp h).2⟩ h2 h3 h4)
 | block id c ih =>
   intro ro n K st x E a w Q Qj H Rl T;refine wpIn_block (ih Qj H Rl fun out E' st' a' w' h1 h0 h2 h3 h4 => ?_)
   cases out with
   | normal=>exact T .normal E' st' a' w' h1 h0 h2 h3 h4
   | exit i =>
     simp only [Out.Xr,Exit.inBlock];have h1:(if i=id then K .normal st' else K (.exit i) st')=some x:=h1
     by_cases hi:i=id
     ·rw [if_pos hi] at h1 ⊢
      exact T .normal E' st' a' w' h1 h0 h2 h3 h4
     ·rw [if_neg hi] at h1 ⊢
      exact T (.exit i) E' st' a' w' h1 h0 h2 h3 h4
   | ret=>exact T .ret E' st' a' w' h1 h0 h2 h3 h4
 | loop c ih =>
   intro ro n K st x E a w Q Qj H Rl T;simp only [R8] at H;obtain ⟨m,H9⟩:=Zm H;refine wpIn_loop_rounds m ?_;clear H;have Rl9:=Rl.clean fl c;clear Rl;generalize Su.clean fl c st=st9 at H9 Rl9;clear st
   induction m generalizing st9 E a w with
   | zero=>simp [iter] at H9
   | succ m ihn =>
     rw [roundsIn_succ];simp only [iter] at H9;refine ih Qj H9 Rl9 fun out E' st' a' w' h1 h0 h2 h3 h4 => ?_
     obtain ⟨ms,q1,q2,q3⟩:=h0;cases out with
     | normal =>
       refine ihn (fun out E2 st2 a2 w2 k1 k0 k2 k3 k4=>T out E2 st2 a2 w2 k1 ?_ k2 (h3.trans k3) (h4.trans k4)) _ h1 (h2.clean fl c)
       obtain ⟨ns,p1,p2,p3⟩:=k0;exact ⟨ns++ms,by rw [p1,q1,zxq],p2.append q2 k3 h3.size,fun h=>by rw [p3 h,q3 h];rfl⟩
     | exit i=>exact T (.exit i) E' st' a' w' h1 ⟨ms,q1,q2,q3⟩ h2 h3 h4
     | ret=>exact T .ret E' st' a' w' h1 ⟨ms,q1,q2,q3⟩ h2 h3 h4
 | exit id =>
   intro ro n K st x E a w Q Qj H Rl T;exact wpIn_exit (T (.exit id) E st a w H (Left.same rfl) Rl (Pr.refl _ _ _) (Q3.refl _))
 | ret =>
   intro ro n K st x E a w Q Qj H Rl T;exact wpIn_ret (T .ret E st a w H (Left.same rfl) Rl (Pr.refl _ _ _) (Q3.refl _))
 | rangeFunc g ps assign body iha ihb =>
   intro ro n K st x E a w Q Qj H Rl T;obtain rfl:ro=none:=by
    rcases Qj with h | h
    ·exact h
    ·simp [P8] at h
   obtain ⟨t,p,f,i,it,cs,cd,ds,rfl,hps,hmt,hit,hbx,hcd,iC,VL,H⟩:=A4t H;simp only [z3q] at VL;obtain ⟨hra,hpb⟩:=VL;have hpa:=B0B hra;have hfn:=Rl.src (P:=C.P) (t:=0) (x := .tmp t) rfl;rw [hmt] at hfn;simp only [RR,J8] at hfn;obtain ⟨hfv,hfi⟩:=hfn;have iE:i<E.n:=(hfi (i,0) (by simp)).1
   have hsi:st.sg[i]?=some (.box cs):=by
    unfold M5 at hbx
    split at hbx
    ·rename_i h;simp only [Option.some.injEq] at hbx;subst hbx;exact h
    ·cases hbx
   have hRO:=Rl.Q0 i _ hsi;simp only [RO] at hRO;obtain ⟨c,T0,b1,b2,b3,b4⟩:=hRO;have C2M:Gq E.S w.heap cd c.toList:=A6n (k:=2) (a:=i) hcd (by simp [b2]) fun j r v hr hv=>by
    obtain ⟨a1,a2,a3,a4⟩:=b4 j r v hr (by simpa using hv)
    exact ⟨a1,a2,a3,j,a4⟩
   let E1:=E.re (A76 i)
   have hS1:Y0 E.S w.heap E1.S w.heap:=KE rfl;have P01:Pr L8 E w.heap E1 w.heap:=Pr.re fun T hT=>by
    cases T <;> simp [L8] at hT <;> rfl
   have C2Z:∀ (j:Nat) ob,(st.sg.set i (.arr 1 []))[j]?=some ob->RO E1 w.heap j ob:=by
    intro j ob hj
    by_cases MN:i=j
    ·subst MN
     rw [List.getElem?_set_self (z1q.1 hsi).1] at hj;simp only [Option.some.injEq] at hj;subst hj;simp [RO]
    ·rw [zVq MN] at hj
     have hji:¬ j=i:=fun h=>MN h.symm
     refine (Rl.Q0 j ob hj).to (E:=E) ⟨fun b o h=>by simp only [E1,Env.re];rw [h];rfl,fun b o h=>by simp only [E1,Env.re];rw [h];simp [A76,hji],rfl,rfl,rfl,rfl,rfl⟩ fun q b o h=>by
      simp only [E1,Env.re];rw [h];simp [A76,hji]
   have C1z:∀ o,o<c.size->E1.O (E.obj i) o = .other:=by
    intro o ho;simp only [E1,Env.re];rcases b3 o with h | h
    ·rw [h];simp [A76]
    ·omega
   refine wpIn_rangeFunc fun fn _ => ?_
   obtain ⟨rec,Ye⟩:∃ rec:LoopState->Option Code->Loop,rec=fun st pe=>{ state:=st,pending:=pe,fn,tmps:=a.tmps,params:=ps,assign,body,defers:=w.heap.size }:=⟨_,rfl⟩
   obtain ⟨W1,hW1⟩:∃ W1,(w.alloc (.deferred (some []))).alloc (.loop (rec .ready none))=W1:=⟨_,rfl⟩;have B57:W1.heap.size=w.heap.size+2:=by rw [<- hW1];simp
   have hL1:W1.heap[w.heap.size+1]?=some (.loop (rec .ready none)):=by
    rw [<- hW1];have:=World.alloc_heap_new (w.alloc (.deferred (some []))) (.loop (rec .ready none));rwa [World.size_alloc] at this
   have hK1:W1.heap[w.heap.size]?=some (.deferred (some [])):=by
    rw [<- hW1];exact (Go.RowKit.Below.heap_alloc _ _ _ (by simp)).trans (World.alloc_heap_new w _)
   have P1:Pr (fun _=>False) E1 w.heap E1 W1.heap:=by
    rw [<- hW1];exact (Pr.push (fun _ _ _ _=>rfl) (zbq _) (fun _ _ _=>⟨rfl,rfl,rfl⟩) (fun _ _=>rfl) (DK rfl)).trans (Pr.push (fun _ _ _ _=>rfl) (zbq _) (fun _ _ _=>⟨rfl,rfl,rfl⟩) (fun _ _=>rfl) (DK rfl))
   have A8W:∀ b o,w.heap.size<=b->E1.O b o = .other:=fun b o hb=>by simp only [E1,Env.re];rw [Rl.fresh b o hb];rfl
   have B2l:Y0 E1.S w.heap E1.S W1.heap:=P1.shut (by simp) A8W
   have C1F:Q3 w W1:=by rw [<- hW1];exact ⟨rfl,rfl,rfl⟩
   refine ⟨w.heap.size+1,[{ target := .collected w.heap.size,args := #[] }],W1,{ target := .fn (.func f) #[.pointer (some ⟨E.obj i,0,none⟩)],args := #[.func (.yield (w.heap.size+1)) #[] #[]] },W1,f,
    #[.func (.yield (w.heap.size+1)) #[] #[], .pointer (some ⟨E.obj i,0,none⟩)],W1, ?_, ?_,fun _ _=>trivial, ?_,fun h=>(by cases h), ?_⟩
   ·rw [<- hW1,Ye];exact run_enterLoop_outer _ _ _ _ _
   ·simp only [resolve,hfv]
    simp [go_sem]
   ·have:=U_ (hO.i f it hit).1 #[.func (.yield (w.heap.size+1)) #[] #[], .pointer (some ⟨E.obj i,0,none⟩)] W1
    simpa [invoke,go_sem] using this
   let step:DV->(List D8->Option X)->List D8->Option X:=fun d J sg =>
    R8 C R fl assign (fun o st1=>match o with
     | .normal=>R8 C R fl body (fun o st2=>match o with
       | .normal=>J st2.sg
       | .exit e=>K (.exit e) (AB st st2.sg)
       | .ret=>K .ret (AB st st2.sg)) (Su.clean fl body st1)
     | .exit _=>none
     | .ret=>none) (Su.clean fl assign (WP st p d sg))
   let fin:List D8->Option X:=fun sg=>K .normal (AB st sg)
   have H:MM step fin ds (st.sg.set i (.arr 1 []))=some x:=H
   let Good:Env->World->List D8->Prop:=fun E' W sg=>sg.length=E'.n/\(∀ (j:Nat) ob,sg[j]?=some ob->RO E' W.heap j ob)/\(∀ b o,W.heap.size<=b->E'.O b o = .other)/\Pr L8 E1 w.heap E' W.heap/\Q3 w W /\
    W.heap[w.heap.size]?=some (.deferred (some []))/\E'.O w.heap.size 0 = .other/\E'.O (w.heap.size+1) 0 = .other
   let J:Nat->Env->World->Prop:=fun k E' W=>∃ sg,MM step fin (ds.drop k) sg=some x/\Good E' W sg/\W.heap[w.heap.size+1]?=some (.loop (rec .ready none))
   let Jx:World->Prop:=fun W=>∃ (out:Out) (cd:Code) (E':Env) (sg:List D8),((out = .ret/\cd = .ret)\/∃ e,out = .exit e/\cd = .exit e)/\K out (AB st sg)=some x/\Good E' W sg/\W.heap[w.heap.size+1]?=some (.loop (rec .done (some cd)))
   have behind:∀ E' W sg (dl:List Deferred),Good E' W sg->J6 E' (AB st sg) { a with defers:=dl } W.heap:=by
    intro E' W sg dl ⟨g1,g2,g3,g4,g5,g6,g7,g8⟩;have J3:Y0 E.S w.heap E'.S W.heap:=by
     have h2:=g4.shut (by simp [L8]) A8W
     exact ⟨fun b o hs=>h2.s b o (hS1.s b o hs),fun b o v hs hv=>h2.c b o v (hS1.s b o hs) hv⟩
    exact Rl.outer J3 (fun j hj=>⟨g4.In hj,(g4.old hj).1⟩) g1 g2 g3
   have B1k:∀ E' W sg (o:Obj) (o':Obj),Good E' W sg->W.heap[w.heap.size+1]?=some o->o.isCells=false->Good E' (W.putObj (w.heap.size+1) o') sg:=by
    intro E' W sg o o' ⟨g1,g2,g3,g4,g5,g6,g7,g8⟩ ho hc;have Pp:Pr (fun T=>T = .other) E' W.heap E' (W.putObj (w.heap.size+1) o').heap:=Pr.setOther ho hc g8
    have J3:=Pp.shut (by simp) g3
    refine ⟨g1,fun j ob hj=>(g2 j ob hj).mono Pp J3 (by rw [<- g1];exact (z1q.1 hj).1) (by simp) (by simp),fun b o hb=>g3 b o (by simpa using hb),g4.zg (by omega),⟨g5.os,g5.tape,g5.output⟩, ?_,g7,g8⟩
    exact (World.putObj_heap_other (by omega)).trans g6
   have C2O:W1.heap[E.obj i]?=some (.cells c T0 (0,0)):=by
    have M4:=(z0q.1 b1).1;rw [<- hW1];exact (Go.RowKit.Below.heap_alloc _ _ _ (by simp;omega)).trans ((Go.RowKit.Below.heap_alloc _ _ _ M4).trans b1)
   have key:=(hO.i f it hit).2 cd ds iC (n-1) (w.heap.size+1) (E.obj i) c T0 J Jx E1 W1 C2O C1z (Gq.mono ⟨fun b o hs=>B2l.s b o (hS1.s b o hs),fun b o v hs hv=>B2l.c b o v (hS1.s b o hs) hv⟩ _ C2M)
    (fun k E' W' ⟨sg,_,g,_⟩=>g.2.2.1) ?_ ?_ ?_
   ·refine CallsIn.mono key ?_
    rintro e W2 ⟨⟨v,rfl⟩,⟨E',sg,h1,g,hl⟩ | ⟨out,cd,E',sg,ho,h1,g,hl⟩⟩
    ·-- all have come
     have g':=B1k E' W2 sg _ (.loop { rec .ready none with state := .exhausted }) g hl rfl
     refine ⟨none,W2.putObj (w.heap.size+1) (.loop { rec .ready none with state := .exhausted }),by have:=run_endLoop (P:=C.P) hl (by rw [Ye];simp);rw [this];rw [Ye], ?_⟩
     rw [zPq] at h1;refine T .normal E' _ _ _ h1 ⟨[{ target := .collected w.heap.size,args := #[] }],rfl, ?_,fun h=>by simp [P8] at h⟩ (behind E' _ sg _ g') (P01.trans g'.2.2.2.1) g'.2.2.2.2.1
     refine ⟨fun m hm => ?_,by simp⟩
     simp only [y6q] at hm;subst hm;exact ⟨_,rfl,g'.2.2.2.2.2.1,g'.2.2.2.2.2.2.1,zbq _⟩
    ·-- a round has left the loop
     have g':=B1k E' W2 sg _ (.loop { rec .done (some cd) with state := .exhausted }) g hl rfl
     refine ⟨some cd,W2.putObj (w.heap.size+1) (.loop { rec .done (some cd) with state := .exhausted }),by have:=run_endLoop (P:=C.P) hl (by rw [Ye];simp);rw [this];rw [Ye], ?_⟩
     have hT:Q out.Xr { a with defers:=[{ target := .collected w.heap.size,args := #[] }]++a.defers } (W2.putObj (w.heap.size+1) (.loop { rec .done (some cd) with state := .exhausted })):=by
      refine T out E' _ _ _ h1 ⟨[{ target := .collected w.heap.size,args := #[] }],rfl, ?_,fun h=>by simp [P8] at h⟩ (behind E' _ sg _ g') (P01.trans g'.2.2.2.1) g'.2.2.2.2.1
      refine ⟨fun m hm => ?_,by simp⟩
      simp only [y6q] at hm;subst hm;exact ⟨_,rfl,g'.2.2.2.2.2.1,g'.2.2.2.2.2.2.1,zbq _⟩
     rcases ho with ⟨rfl,rfl⟩ | ⟨e,rfl,rfl⟩
     ·exact wpIn_ret hT
     ·exact wpIn_exit hT
   ·intro k E' Wa Wb ⟨sg,h1,⟨g1,g2,g3,g4,g5,g6,g7,g8⟩,hl⟩ hIt
    have J3:=hIt.pr.shut (by simp) g3
    exact ⟨sg,h1,⟨g1,fun j ob hj=>(g2 j ob hj).mono hIt.pr J3 (by rw [<- g1];exact (z1q.1 hj).1) (by simp) (by simp),fun b o hb=>g3 b o (zFq hIt.size hb),hIt.after (by omega) g4,g5.trans hIt.out,hIt.keep g6 rfl,g7,g8⟩,hIt.keep hl rfl⟩
   ·-- one round
    intro k E' W d v ⟨sg,h1,g,hl⟩ hd hv;rw [B0w hd] at h1;have C0a:ps = #[p]:=by
     apply Array.ext';simpa using hps
    have hy:=run_yield (P:=C.P) (args := #[v]) hl (by rw [Ye];simp [C0a])
    rw [Ye] at hy;refine ⟨fn,_,assign,body,hy,roundIn_of_wpIn trivial ?_⟩;obtain ⟨g1,g2,g3,g4,g5,g6,g7,g8⟩:=g;have R0:J6 E' (WP st p d sg) ({ tmps:=a.tmps.setIfInBounds p v,defers:=[] }:Act) W.heap:=by
     have:=(behind E' W sg [] ⟨g1,g2,g3,g4,g5,g6,g7,g8⟩).put (dst:=some p) (d:=d) (m := .val) (v:=v) fun t0 _=>hv
     exact this
    have C1w:(Array.zip ps #[v]).foldl (fun tmps (t,a)=>tmps.setIfInBounds t a) a.tmps=a.tmps.setIfInBounds p v:=by rw [C0a];simp
    simp only [C1w];refine iha (ro:=some (w.heap.size+1)) (.inr hpa) h1 (R0.clean fl assign) fun out E2 st1 a1 w1 k1 k0 k2 k3 k4 => ?_
    cases out with
    | exit e=>cases k1
    | ret=>cases k1
    | normal =>
    have d1:a1.defers=[]:=k0.plain hpa;have hl1:=k3.eH hl rfl g8;have t1:E2.O (w.heap.size+1) 0 = .other:=k3.WK (z0q.1 hl).1 g8;refine ⟨_,run_beginRound hl1 (by rw [Ye]), ?_⟩
    have R2:J6 E2 (Su.clean fl body st1) a1 (w1.putObj (w.heap.size+1) (.loop { rec .ready none with state := .busy })).heap :=
     (k2.others (Pr.setOther hl1 rfl t1) rfl (fun b o hb=>k2.fresh b o (by simpa using hb))).clean fl body
    refine ihb (ro:=some (w.heap.size+1)) (.inr hpb) k1 R2 fun out E3 st2 a3 w3 q1 q0 q2 q3 q4 => ?_
    have hl2:(w1.putObj (w.heap.size+1) (.loop { rec .ready none with state := .busy })).heap[w.heap.size+1]?=some (.loop { rec .ready none with state := .busy }):=World.putObj_heap_same (z0q.1 hl1).1
    have hl3:=q3.eH hl2 rfl t1;have t3:E3.O (w.heap.size+1) 0 = .other:=q3.WK (z0q.1 hl2).1 t1;have lt3:=(z0q.1 hl3).1;have sz1:=k3.size;have M4:=(z0q.1 hl).1;have Pw:Pr L8 E' W.heap E3 (w3.heap.setIfInBounds (w.heap.size+1) (.loop (rec .ready none))):=k3.trans (q3.swap hl1);have Pb:∀ o,Pr L8 E1 w.heap E3 (w3.heap.setIfInBounds (w.heap.size+1) o):=fun o=>by
     have:=(g4.trans Pw).zg (l:=w.heap.size+1) (x:=o) (by omega)
     rwa [Array.setIfInBounds_setIfInBounds] at this
    have hD1:=k3.eH g6 rfl g7;have tD1:E2.O w.heap.size 0 = .other:=k3.WK (z0q.1 g6).1 g7;have hD2:(w1.putObj (w.heap.size+1) (.loop { rec .ready none with state := .busy })).heap[w.heap.size]?=some (.deferred (some [])):=(World.putObj_heap_other (by omega)).trans hD1
    have hD3:=q3.eH hD2 rfl tD1;have tD3:E3.O w.heap.size 0 = .other:=q3.WK (z0q.1 hD2).1 tD1;have B2f:∀ o,Good E3 (w3.putObj (w.heap.size+1) o) st2.sg:=fun o=>by
     have R3:=q2.others (Pr.setOther (x:=o) hl3 rfl t3) rfl (fun b o hb=>q2.fresh b o (by simpa using hb))
     refine ⟨R3.n,R3.Q0,R3.fresh,Pb o, ?_,(World.putObj_heap_other (by omega)).trans hD3,tD3,t3⟩
     have:=(g5.trans k4).trans (Q3.trans (b:=w1.putObj (w.heap.size+1) (.loop { rec .ready none with state := .busy })) ⟨rfl,rfl,rfl⟩ q4)
     exact ⟨this.os,this.tape,this.output⟩
    cases out with
    | normal =>
      refine ⟨_,_,run_endRound none hl3, .inl ⟨rfl,E3,⟨st2.sg,q1,B2f _, ?_⟩, ?_⟩⟩
      ·rw [World.putObj_heap_same lt3];rw [Ye];rfl
      ·have:(Obj.loop { { rec .ready none with state := .busy } with state:=if (none:Option Code).isNone=true then .ready else .done,pending:=none }) = .loop (rec .ready none):=by rw [Ye];rfl
       rw [this];exact Pw
    | ret =>
      refine ⟨_,_,run_endRound (some .ret) hl3, .inr ⟨rfl, .ret, .ret,E3,st2.sg, .inl ⟨rfl,rfl⟩,q1,B2f _, ?_⟩⟩;rw [World.putObj_heap_same lt3];rw [Ye];rfl
    | exit e =>
      refine ⟨_,_,run_endRound (some (.exit e)) hl3, .inr ⟨rfl, .exit e, .exit e,E3,st2.sg, .inr ⟨e,rfl,rfl⟩,q1,B2f _, ?_⟩⟩;rw [World.putObj_heap_same lt3];rw [Ye];rfl
   ·-- where it begins
    refine ⟨_,H,⟨by rw [yfq];exact Rl.n,fun j ob hj=>(C2Z j ob hj).mono P1 B2l ?_ (by simp) (by simp),fun b o hb=>A8W b o (by omega),P1.weaken (by simp),C1F,hK1,A8W _ _ (zbq _),A8W _ _ (by omega)⟩,hL1⟩
    have:=(z1q.1 hj).1;rw [yfq,Rl.n] at this;exact this
 | _ =>
   intro ro n K st x E a w Q Qj H Rl T;simp [R8] at H
end
end Go.Su

/-
 THE DATA MACHINE, part 26: a plain function's results.
-/
namespace Go.Su
structure A0o (E:Env) (h:Heap) (g:List D8) (S:X6):Prop where
 le:Y0 E.S h S h
 ob:∀ (i:Nat) ob,g[i]?=some ob->RO E h i ob/\(ob ≠ .arr 1 []->∀ b o,E.O b o = .obj i->S b o)
def Env.fin (E:Env):X6:=fun b o=>E.O b o = .shut\/∃ i,E.O b o = .obj i
theorem B9O (E:Env) (h:Heap):Y0 E.S h E.fin h:=⟨fun _ _ hs => .inl hs,fun _ _ _ _ hv=>hv⟩
variable {E:Env} {st:St} {a:Act} {h:Heap}
theorem B35 (Rl:J6 E st a h):A0o E h st.sg E.fin:=⟨B9O E h,fun i ob hi=>⟨Rl.Q0 i ob hi,fun _ _ _ h => .inr ⟨i,h⟩⟩⟩
theorem B2C (E:Env) (h:Heap):A0o E h [] E.S:=⟨⟨fun _ _ hs=>hs,fun _ _ _ _ hv=>hv⟩,fun i ob hi=>by simp at hi⟩
variable {sg:List D8} {d:DV} {S:X6}
theorem XA {c:DV × Meta} {tg:Tag} {v:Value} (H:Q7 sg c=some d) (R:J8 E h tg c.1 c.2 v) (ho:A0o E h sg S) :
 RV S h d v/\(K6 c.1=true->c.2 = .val->K6 d=true)/\(c.2 ≠ .val->K6 d=true):=by
 unfold Q7 at H
 split at H
 ·rename_i hm
  simp only [Option.some.injEq] at H;subst H;rw [hm] at R;exact ⟨RV.mono ho.le _ R,fun h _=>h,fun h=>absurd hm h⟩
 ·rename_i hm
  simp only [Option.some.injEq] at H;subst H;rw [hm] at R;obtain ⟨R1,-,sz,ds,hd⟩:=R;exact ⟨R1.mono ho.le,fun h _=>h,fun _=>by rw [hd];rfl⟩
 ·rename_i hm
  simp only [Option.some.injEq] at H;subst H;rw [hm] at R;obtain ⟨R1,sz,ds,hd,-⟩:=R;exact ⟨R1.mono ho.le,fun h _=>h,fun _=>by rw [hd];rfl⟩
 ·rename_i hm
  simp only [Option.some.injEq] at H;subst H;rw [hm] at R;obtain ⟨R1,R2⟩:=(R:_/\_);exact ⟨by rw [R1,R2];simp only [RV],fun h _=>h,fun _=>by rw [R1];rfl⟩
 ·rename_i i sz off len hm
  obtain ⟨p,hp,H⟩:=A9 H;obtain ⟨h1,H⟩:=F4 H;obtain ⟨h2,H⟩:=L6 H;simp only [Option.some.injEq] at H;subst H;rw [hm] at R;simp only [J8] at R;obtain ⟨hi,a,cap,rfl,ha,zC,B2h,B2o,-⟩:=R;refine ⟨?_,fun _ _=>rfl,fun _=>rfl⟩
  simp only [RV,RC];have hll:((p.2.drop off).take len).length=len:=by simp;omega
  obtain ⟨hob,hsh⟩:=ho.ob i _ (Zw hp);simp only [beq_iff_eq] at h1;refine ⟨a,len,cap,rfl,hll.symm,zC,B2h,fun hne => ?_,fun x hx=>⟨fun _=>B2o x hx, ?_⟩⟩
  ·simp only [RO] at hob
   have:p.2≠[]:=fun h=>by rw [h] at hne;simp at hne
   obtain ⟨c,T,e1,e2,e3,-⟩:=hob this;rw [<- h1];exact e3
  ·rw [Dp]
   intro j d hj;have uQ:j<len:=by
    have:=(z1q.1 hj).1;omega
   rw [List.getElem?_take_of_lt uQ,List.getElem?_drop] at hj;have hne:p.2≠[]:=fun h=>by rw [h] at hj;simp at hj
   simp only [RO] at hob;obtain ⟨c,T,e1,e2,e3,e4,e5⟩:=hob hne;obtain ⟨vs,v1,v2,v3⟩:=e5 (off+j) d hj;have hax:=ha (by omega)
   rw [hx] at hax;simp only [Option.some.injEq] at hax;subst hax;refine ⟨vs,by rw [<- h1];exact v1,fun y u hu => ?_,v3.mono ho.le⟩
   have hy:y<p.1:=by have:=(z1q.1 hu).1;omega
   have hjp:off+j<p.2.length:=(z1q.1 hj).1;have M4:(off+j) * p.1+y<p.2.length * p.1:=seg_lt hjp hy;have e:E.base i+off * sz+j * sz+y=E.base i+(off+j) * p.1+y:=by rw [<- h1,Nat.add_mul];omega
   refine ⟨?_,hsh (fun h=>hne (by have:=congrArg (fun ob=>match ob with | D8.arr _ ds=>ds | _=>[]) h;exact this)) _ _ ?_⟩
   ·rw [e]
    simp only [hc,e1];exact v2 y u hu
   ·rw [e]
    exact e4 _ (by omega) (by omega)
 ·cases H
theorem fA {E:Env} {h:Heap} {sg:List D8} {S:X6} (ho:A0o E h sg S):∀ {cs:List (DV × Meta)} {vs:List Value} {ds:List DV},U0 sg cs=some ds->cs.length=vs.length ->
 (∀ (j:Nat) r v,cs[j]?=some r->vs[j]?=some v->K6 r.1=true/\v.oneCell'=true/\∃ tg,J8 E h tg r.1 r.2 v)->Gq S h ds vs
 | [],vs,ds,H,hl,_=>by
   simp only [U0,Option.some.injEq] at H;subst H;exact zsq hl.symm
 | c::cs,[],ds,H,hl,_=>by simp at hl
 | c::cs,v::vs,ds,H,hl,hR=>by
   simp only [U0] at H;obtain ⟨d,h1,H⟩:=A9 H;obtain ⟨ds',h2,H⟩:=A9 H;simp only [Option.some.injEq] at H;subst H;obtain ⟨q1,q2,tg,q3⟩:=hR 0 c v rfl rfl;obtain ⟨r1,r2,r3⟩:=XA h1 q3 ho;have hlf:K6 d=true:=by
    by_cases hm:c.2 = .val
    ·exact r2 q1 hm
    ·exact r3 hm
   simp only [Gq];exact ⟨v,vs,rfl,hlf,Nq hlf q2 r1,fA ho h2 (by simpa using hl) fun j r u hr hu=>hR (j+1) r u (by simpa using hr) (by simpa using hu)⟩
variable (tmps:Array Value)
def Ko:ResultVar->Sem Value
 | .tmp t=>pure (tmps.getD t undef)
 | .cell a t=>do loadVar t (<- asAddr (tmps.getD a undef))
variable {P:Program} {rv:ResultVar}
theorem zf {w:World} {g:List D8} (H:ed P (st.En g) rv=some d) (Rl:J6 E st a w.heap) (ho:A0o E w.heap g S) :
 ∃ v,(Ko a.tmps rv).run P w = .ok v w/\RV S w.heap d v:=by
 cases rv with
 | tmp t =>
   have H:(match (st.get t).2 with
    | .Dw ms=>og (J5 (.Dw ms)) (some (st.get t).1)
    | _=>Q7 g (st.get t))=some d:=H
   have hR:RR E w.heap 0 t (st.get t).1 (st.get t).2 (a.tmps.getD t undef):=Rl.src (P:=P) (t:=0) (x := .tmp t) rfl;refine ⟨a.tmps.getD t undef,rfl, ?_⟩
   split at H
   ·rename_i ms hm
    obtain ⟨h1,H⟩:=F4 H;simp only [Option.some.injEq] at H;subst H;exact (hR.data (by rw [hm];exact h1)).mono ho.le
   ·rename_i hm
    have hnt:∀ ms,(st.get t).2 ≠ .Br ms:=fun ms h=>by
     unfold Q7 at H;rw [h] at H;simp at H
    exact (XA H (hR.A0f hnt fun ms h=>hm ms h) ho).1
 | cell p t =>
   have H:(match (st.get p).2 with
    | .loc s 0=>ob (st.bx.getD s none) fun cs=>ob (tz P t) fun z =>
      if z.1=cs.length then
       if z.2 then ob (U0 g cs) fun ds=>some (.agg ds)
       else match cs with
        | [c]=>Q7 g c
        | _=>none
      else none
    | .ptr i 0=>ob (M5 g i) fun cs=>ob (tz P t) fun z =>
      if z.1=cs.length then
       if z.2 then ob (U0 g cs) fun ds=>some (.agg ds)
       else match cs with
        | [c]=>Q7 g c
        | _=>none
      else none
    | _=>none)=some d:=H
   have hR:RR E w.heap 0 p (st.get p).1 (st.get p).2 (a.tmps.getD p undef):=Rl.src (P:=P) (t:=0) (x := .tmp p) rfl
   split at H
   ·rename_i s hm
    obtain ⟨cs,h1,H⟩:=A9 H;obtain ⟨z,h2,H⟩:=A9 H;obtain ⟨h3,H⟩:=L6 H;rw [hm] at hR;simp only [RR,J8] at hR;obtain ⟨c,T,b1,b2,b3,b4⟩:=Rl.boxes s cs h1;obtain ⟨v,hv,Xh,hv2⟩:=Fu (w:=w) h2 (b:=E.blk s) (off:=0) (vs:=c.toList) (by simp [b2,h3]) fun j u hu=>by
     simp only [hc,b1,zhq];simpa using hu
    have O8:(Ko a.tmps (.cell p t)).run P w = .ok v w:=by
     simp only [Ko,hR.2,asAddr,Sem.run_bind,Sem.run_pure,Result.andThen_ok];exact hv
    refine ⟨v,O8, ?_⟩;have b5:∀ (j:Nat) r u,cs[j]?=some r->c.toList[j]?=some u->K6 r.1=true/\u.oneCell'=true/\∃ tg,J8 E w.heap tg r.1 r.2 u:=fun j r u hr hu=>by
     obtain ⟨q1,q2,q3,q4⟩:=b4 j r u hr (by simpa using hu)
     exact ⟨q1,q2,_,q4⟩
    by_cases hz:z.2=true
    ·rw [if_pos hz] at H
     obtain ⟨ds,h4,H⟩:=A9 H;simp only [Option.some.injEq] at H;subst H;rw [Xh hz];simp only [RV];exact ⟨_,rfl,fA ho h4 (by simp [b2]) b5⟩
    ·rw [if_neg hz] at H
     have hcv:=hv2 (by simpa using hz)
     have h5:∃ c0,cs=[c0]/\Q7 g c0=some d:=by
      split at H
      ·exact ⟨_,rfl,H⟩
      ·cases H
     obtain ⟨c0,rfl,h6⟩:=h5;obtain ⟨q1,q2,tg,q3⟩:=b5 0 c0 v rfl (by rw [hcv];rfl)
     exact (XA h6 q3 ho).1
   ·rename_i i hm
    obtain ⟨cs,h1,H⟩:=A9 H;obtain ⟨z,h2,H⟩:=A9 H;obtain ⟨h3,H⟩:=L6 H;rw [hm] at hR;simp only [RR,J8] at hR;have hgi:g[i]?=some (.box cs):=by
     unfold M5 at h1
     split at h1
     ·rename_i h;simp only [Option.some.injEq] at h1;subst h1;exact h
     ·cases h1
    have hRO:=(ho.ob i _ hgi).1;simp only [RO] at hRO;obtain ⟨c,T,b1,b2,b3,b4⟩:=hRO;obtain ⟨v,hv,Xh,hv2⟩:=Fu (w:=w) h2 (b:=E.obj i) (off:=0) (vs:=c.toList) (by simp [b2,h3]) fun j u hu=>by
     simp only [hc,b1,zhq];simpa using hu
    have O8:(Ko a.tmps (.cell p t)).run P w = .ok v w:=by
     simp only [Ko,hR.2,asAddr,Sem.run_bind,Sem.run_pure,Result.andThen_ok];exact hv
    refine ⟨v,O8, ?_⟩;have b5:∀ (j:Nat) r u,cs[j]?=some r->c.toList[j]?=some u->K6 r.1=true/\u.oneCell'=true/\∃ tg,J8 E w.heap tg r.1 r.2 u:=fun j r u hr hu=>by
     obtain ⟨q1,q2,q3,q4⟩:=b4 j r u hr (by simpa using hu)
     exact ⟨q1,q2,_,q4⟩
    by_cases hz:z.2=true
    ·rw [if_pos hz] at H
     obtain ⟨ds,h4,H⟩:=A9 H;simp only [Option.some.injEq] at H;subst H;rw [Xh hz];simp only [RV];exact ⟨_,rfl,fA ho h4 (by simp [b2]) b5⟩
    ·rw [if_neg hz] at H
     have hcv:=hv2 (by simpa using hz)
     have h5:∃ c0,cs=[c0]/\Q7 g c0=some d:=by
      split at H
      ·exact ⟨_,rfl,H⟩
      ·cases H
     obtain ⟨c0,rfl,h6⟩:=h5;obtain ⟨q1,q2,tg,q3⟩:=b5 0 c0 v rfl (by rw [hcv];rfl)
     exact (XA h6 q3 ho).1
   ·cases H
theorem A5a {P:Program} {E:Env} {st:St} {a:Act} {w:World} (Rl:J6 E st a w.heap):∀ {rs:List ResultVar} {ds:List DV},aH P st rs=some ds ->
 ∃ vs:List Value,(rs.mapM (Ko a.tmps)).run P w = .ok vs w/\Pj E.fin w.heap ds vs/\vs.length=rs.length
 | [],ds,H=>by
   simp only [aH,Option.some.injEq] at H;subst H;exact ⟨[],rfl,rfl,rfl⟩
 | r::rs,ds,H=>by
   simp only [aH] at H;obtain ⟨d,h1,H⟩:=A9 H;obtain ⟨ds',h2,H⟩:=A9 H;simp only [Option.some.injEq] at H;subst H;obtain ⟨v,q1,q2⟩:=zf (g:=st.sg) h1 Rl (B35 Rl);obtain ⟨vs,q3,q4,q5⟩:=A5a Rl h2;refine ⟨v::vs, ?_,⟨v,vs,rfl,q2,q4⟩,by simp [q5]⟩
   simp only [yiq,Sem.run_bind,q1,q3,Result.andThen_ok,Sem.run_pure]
theorem pR (fn:Func) (tmps:Array Value):results fn tmps=(do
 let vs <- fn.results.toList.mapM (Ko tmps)
 pure (if h:vs.toArray.size=1 then vs.toArray[0] else .tuple vs.toArray)):=by
 have:results fn tmps=(do
  let vs <- fn.results.mapM (Ko tmps)
  pure (if h:vs.size=1 then vs[0] else .tuple vs)):=by
  unfold results
  congr 1
 rw [this,Array.mapM_eq_mapM_toList];simp
theorem B8r {ds:List DV} {vs:List Value} (R:Pj S h ds vs):RV S h (pack ds) (if h:vs.toArray.size=1 then vs.toArray[0] else .tuple vs.toArray):=by
 obtain ⟨hl,hR⟩:=VY.1 R
 by_cases h1:vs.toArray.size=1
 ·rw [dif_pos h1]
  obtain ⟨v,rfl⟩:=zMq.1 (by simpa using h1)
  obtain ⟨d,rfl⟩:=zMq.1 (by simpa using hl)
  exact hR 0 d v rfl rfl
 ·rw [dif_neg h1]
  unfold pack
  split
  ·simp at hl h1;omega
  ·simp only [RV]
   exact ⟨_,rfl,by simpa using R⟩
variable (us:List Nat)
def Lj (sg:List D8):List D8:=sg.mapIdx fun i ob=>if i∈us then ob else .arr 1 []
def Fa (T:Tag):Tag :=
 match T with
 | .obj i=>if i∈us then .shut else .obj i
 | T=>T
variable {us:List Nat}
theorem VC {T:Tag} (h:∀ i∈us,T ≠ .obj i):Fa us T=T:=by
 unfold Fa
 split
 ·rename_i i
  rw [if_neg fun hi=>h i hi rfl]
 ·rfl
theorem A9B (us:List Nat) {T:Tag} (h:¬ ∃ i∈us,T = .obj i):Fa us T=T:=VC fun i hi he=>h ⟨i,hi,he⟩
theorem B4t {i:Nat} (h:i∈us):(Lj us sg)[i]?=sg[i]?:=by
 unfold Lj;rw [zWq];cases sg[i]? <;> simp [h]
theorem B2Y {i:Nat} (h:i∈us):BN (Lj us sg) i=BN sg i:=by
 unfold BN;rw [B4t h]
theorem Ym {c:DV × Meta} (h:∀ i∈A0r c.2,i∈us):Q7 (Lj us sg) c=Q7 sg c:=by
 obtain ⟨d,m⟩:=c;cases m <;> try rfl
 case arr i sz off len =>
  simp only [Q7];rw [B2Y (h i (by simp [A0r]))]
theorem nC {us:List Nat} {sg:List D8}:∀ {cs:List (DV × Meta)},(∀ c∈cs,∀ i∈A0r c.2,i∈us)->U0 (Lj us sg) cs=U0 sg cs
 | [],_=>rfl
 | c::cs,h=>by
   simp only [U0];rw [Ym (h c (z6q ..)),nC fun c' hc'=>h c' (z4q _ hc')]
theorem B0H (hl:A20 st rv=true) (hu:∀ i∈Tz st rv,i∈us) (H:ed P st rv=some d):ed P (st.En (Lj us st.sg)) rv=some d:=by
 cases rv with
 | tmp t =>
   simp only [Tz] at hu;have e:=Ym (us:=us) (sg:=st.sg) (c:=st.get t) hu
   show (match (st.get t).2 with
    | .Dw ms=>og (J5 (.Dw ms)) (some (st.get t).1)
    | _=>Q7 (Lj us st.sg) (st.get t))=some d
   rw [e];exact H
 | cell p t =>
   simp only [A20] at hl;simp only [Tz] at hu;simp only [ed] at H ⊢
   show (match (st.get p).2 with
    | .loc s 0=>ob (st.bx.getD s none) fun cs=>ob (tz P t) fun z =>
      if z.1=cs.length then
       if z.2 then ob (U0 (Lj us st.sg) cs) fun ds=>some (.agg ds)
       else match cs with
        | [c]=>Q7 (Lj us st.sg) c
        | _=>none
      else none
    | .ptr i 0=>ob (M5 (Lj us st.sg) i) fun cs=>ob (tz P t) fun z =>
      if z.1=cs.length then
       if z.2 then ob (U0 (Lj us st.sg) cs) fun ds=>some (.agg ds)
       else match cs with
        | [c]=>Q7 (Lj us st.sg) c
        | _=>none
      else none
    | _=>none)=some d
   cases hm:(st.get p).2 with
   | loc s o =>
     rw [hm] at H hu;cases o with
     | succ o=>simp at H
     | zero =>
       simp only at H hu ⊢;obtain ⟨cs,h1,H⟩:=A9 H;rw [h1] at hu;simp only at hu;have hc:∀ c∈cs,∀ i∈A0r c.2,i∈us:=fun c hc i hi=>hu i (zzq.2 ⟨c,hc,hi⟩)
       rw [h1,K3,nC hc];obtain ⟨z,h2,H⟩:=A9 H;rw [h2,K3];obtain ⟨h3,H⟩:=L6 H;rw [if_pos h3]
       by_cases hz:z.2=true
       ·rw [if_pos hz] at H ⊢
        exact H
       ·rw [if_neg hz] at H ⊢
        match cs,hc,H with
        | [c],hc,H =>
          simp only at H ⊢;rw [Ym (hc c (z6q ..))];exact H
        | [],_,H=>simp at H
        | _::_::_,_,H=>simp at H
   | _=>rw [hm] at hl;simp at hl
theorem B2z (Rl:J6 E st a h) (us:List Nat):A0o E h (Lj us st.sg) (E.re (Fa us)).S:=by
 refine ⟨KE (VC (by simp)),fun i ob hi => ?_⟩
 unfold Lj at hi;rw [zWq] at hi;cases hg:st.sg[i]? with
 | none=>rw [hg] at hi;simp at hi
 | some o =>
   rw [hg] at hi;simp only [zyq,Option.some.injEq] at hi
   by_cases hm:i∈us
   ·rw [if_pos hm] at hi
    subst hi;refine ⟨Rl.Q0 i _ hg,fun _ b o hb => ?_⟩
    simp only [Env.S,Env.re];rw [hb];simp [Fa,hm]
   ·rw [if_neg hm] at hi
    subst hi;exact ⟨by simp [RO],fun h=>absurd rfl h⟩
theorem B6c (sg:List D8):∀ (us:List Nat) (i:Nat),(kill sg us)[i]?=if i∈us then (sg[i]?).map (fun _=>D8.arr 1 []) else sg[i]?:=by
 intro us
 induction us generalizing sg with
 | nil=>intro i;simp [kill]
 | cons u us ih =>
   intro i
   show (kill (sg.set u (.arr 1 [])) us)[i]?=_
   rw [ih]
   by_cases h1:i∈us
   ·rw [if_pos h1,if_pos (z4q _ h1),y8q]
    split
    ·rename_i h;subst h;split <;> simp_all
    ·rfl
   ·rw [if_neg h1]
    by_cases h2:u=i
    ·subst h2
     rw [if_pos (z6q ..),y8q];simp only [if_true]
     split
     ·rename_i h;rw [z2q h];rfl
     ·rename_i h;rw [List.getElem?_eq_none (by omega)];rfl
    ·rw [if_neg (by simp [h1];exact fun h=>h2 h.symm),zVq h2]
theorem J6.shut (R:J6 E st a h) (us:List Nat):J6 (E.re (Fa us)) { st with sg:=kill st.sg us } a h:=by
 have P:Pr (fun T=>∃ i∈us,T = .obj i) E h (E.re (Fa us)) h:=Pr.re fun T hT=>A9B us hT
 have J3:Y0 E.S h (E.re (Fa us)).S h:=KE (VC (by simp))
 have Dh:∀ (us:List Nat) (g:List D8),(kill g us).length=g.length:=by
  intro us
  induction us with
  | nil=>intro g;rfl
  | cons u us ih=>intro g;show (kill (g.set u _) us).length=_;rw [ih];simp
 refine ⟨R.size,R.AP,R.Bi,(Dh us st.sg).trans R.n,fun t v hv=>(R.regs t v hv).mono P J3 (by simp) (by simp),fun s cs hs=>(R.boxes s cs hs).mono P J3 (by simp) (by simp),fun i ob hi => ?_,fun b o hb => ?_⟩
 ·rw [B6c] at hi
  split at hi
  ·cases hg:st.sg[i]? with
   | none=>rw [hg] at hi;simp at hi
   | some o =>
     rw [hg] at hi;simp only [zyq,Option.some.injEq] at hi;subst hi;simp [RO]
  ·rename_i hm
   have M4:i<E.n:=by rw [<- R.n];exact (z1q.1 hi).1
   exact (R.Q0 i ob hi).mono P J3 M4 (by rintro ⟨j,hj,he⟩;simp only [Tag.obj.injEq] at he;subst he;exact hm hj) (by simp)
 ·simp only [Env.re]
  rw [R.fresh b o hb];rfl
end Go.Su

/-
 THE DATA MACHINE, part 27: the program's functions give what the data machine says.
-/
namespace Go.Su
section
variable {C:X4} {R:O4} {X:Type} {fl:Flags} {Q:Exit->Act->World->Prop} {ops:List Oper}
theorem A50 {k:St->Option X} {x:X} {ro:Option Nat} {n:Nat} {rest:List Nat} (hO:C_ C R):∀ {os:List Oper} {i:Nat} {st:St} {E:Env} {a:Act} {w:World},(∀ (j:Nat) o,os[j]?=some o->ops[i+j]?=some o)->Bt C R fl ops os st k=some x->J6 E st a w.heap ->
 (∀ E' t a' w',k t=some x->a'.defers=a.defers->J6 E' t a' w'.heap->Pr L8 E w.heap E' w'.heap->Q3 w w'->wpOpsIn (Bo ro) n C.P ops.toArray Q rest a' w')->wpOpsIn (Bo ro) n C.P ops.toArray Q (List.range' i os.length++rest) a w
 | [],i,st,E,a,w,_,H,Rl,T=>T E st a w H rfl Rl (Pr.refl _ _ _) (Q3.refl _)
 | o::os,i,st,E,a,w,hs,H,Rl,T=>by
   obtain ⟨s1,h1,h2⟩:=oI H;have Cz:∀ (j:Nat) o,os[j]?=some o->ops[i+1+j]?=some o:=fun j o ho=>by
    rw [show i+1+j=i+(j+1) by omega]
    exact hs (j+1) o (by simpa using ho)
   simp only [zaq,zOq,zQq];rw [wpOpsIn_cons];refine B2Z hO (by simpa using hs 0 o rfl) h1 Rl fun E' a' w' D1 R1 P1 O1 => ?_
   exact A50 hO Cz h2 R1 fun E2 t a2 w2 k1 k0 k2 k3 k4=>T E2 t a2 w2 k1 (k0.trans D1) k2 (P1.trans k3) (O1.trans k4)
end
section
variable {C:X4} {R:O4} {X:Type} (S:X6)
open Classical in
noncomputable def Vf:Env where
 blk:=fun _=>0
 top:=fun _=>0
 obj:=fun _=>0
 base:=fun _=>0
 O:=fun b o=>if S b o then .shut else .other
 n:=0
 Al:=fun _=>0
theorem B9N (b o:Nat):(Vf S).S b o ↔ S b o:=by
 simp only [Env.S,Vf]
 split <;> simp_all
variable {fn:Func} {rs:List (DV × Meta)} {sg:List D8}
theorem B59 {t:Nat}:(∀ r,rs[t]?=some r->(F7 fn rs sg).get t=r)/\(rs.length<=t->t<rs.length+(fn.ntmps-rs.length)->(F7 fn rs sg).get t=(.F3 [], .val)):=by
 constructor
 ·intro r hr
  have ht:=(z1q.1 hr).1;simp only [St.get,F7,z5q];rw [zdq (by simpa using ht),zdq (by simpa using ht)]
  simp [hr]
 ·intro h1 h2
  simp only [St.get,F7,z5q];rw [zwq (by simpa using h1),zwq (by simpa using h1)]
  simp only [ygq];rw [zBq,zBq,if_pos (by omega),if_pos (by omega)]
  rfl
variable {E:Env} {w:World}
theorem pE {vs:List Value} (hf:∀ b o,w.heap.size<=b->E.O b o = .other) (hn:sg.length=E.n) (ho:∀ (i:Nat) ob,sg[i]?=some ob->RO E w.heap i ob) (hl:vs.length=rs.length) (hr:∀ (i:Nat) r v,rs[i]?=some r->vs[i]?=some v->RR E w.heap 0 i r.1 r.2 v) :
 J6 E (F7 fn rs sg) { tmps:=vs.toArray++Array.replicate (fn.ntmps-vs.toArray.size) undef,defers:=[] } w.heap:=by
 refine ⟨by simp [F7,hl],by simp [F7],by simp [F7],hn,fun t v hv => ?_,fun s cs hs => ?_,ho,hf⟩
 ·have M4:t<rs.length+(fn.ntmps-rs.length):=by
   have:=(z0q.1 hv).1;simpa [hl] using this
  obtain ⟨i1,i2⟩:=B59 (fn:=fn) (rs:=rs) (sg:=sg) (t:=t)
  by_cases ht:t<rs.length
  ·have hrt:rs[t]?=some rs[t]:=z2q ht
   rw [i1 _ hrt];refine hr t _ v hrt ?_;rw [Array.getElem?_append_left (by simpa [hl] using ht)] at hv
   simpa using hv
  ·rw [i2 (y9q ht) M4]
   rw [Array.getElem?_append_right (by simpa [hl] using y9q ht)] at hv
   rw [zAq] at hv
   split at hv
   ·simp only [Option.some.injEq] at hv
    subst hv;simp only [RR,J8,RV,undef];exact ⟨#[],rfl,by simp [Pj]⟩
   ·cases hv
 ·simp only [F7,z5q,zBq] at hs
  split at hs <;> simp at hs
variable {h:Heap}
theorem B8j {S:X6} {E':Env} {h':Heap} (P:Pr L8 (Vf S) h E' h') {b:Nat} (hb:b<h.size):h'[b]?=h[b]?:=by
 have hk:=P.blk b hb;have ZL:∀ o,¬ L8 ((Vf S).O b o):=fun o=>by
  simp only [Vf]
  split <;> simp [L8]
 have he:h[b]?=some h[b]:=zeq hb;rw [he] at hk ⊢;unfold U6 at hk
 split at hk
 ·rename_i hx;cases hx
 ·rename_i c T f hx
  obtain ⟨c',h1,h2,h3⟩:=hk;rw [h1,hx]
  congr 2
  exact yaq fun o=>h3 o (ZL o)
 ·have:=hk (ZL 0)
  simp_all
theorem Ur {m:Nat} {P:Program} {fn:Func} {Rp:Ending->World->Prop} {E0 E:Env} {st:St} {a:Act} {w:World}
 (fin:∀ w2,J6 E st a w2.heap->Pr L8 E0 w.heap E w2.heap->Q3 w w2->∃ v,(results fn a.tmps).run P w2 = .ok v w2/\Rp (.returned v) w2) :
 ∀ (ms:List Deferred) (w1:World),Marks w.heap.size E w1.heap ms->J6 E st a w1.heap->Pr L8 E0 w.heap E w1.heap->Q3 w w1->LeavesInM Fence.wide m P fn a.tmps Rp ms .returning w1
 | [],w1,_,Rl,P1,O1=>fin w1 Rl P1 O1
 | d::ms,w1,M,Rl,P1,O1=>by
   obtain ⟨D,rfl,h2,h3,h4⟩:=M.1 d (z6q ..);obtain ⟨p1,p2⟩:=zCq.1 M.2;refine ⟨by simp, .inl ⟨D,w1.putObj D (.deferred none),rfl,run_takeDeferred h2, ?_⟩⟩
   refine Ur fin ms _ ⟨fun m' Ps => ?_,p2⟩ (Rl.others (Pr.setOther h2 rfl h3) rfl fun b o hb=>Rl.fresh b o (by simpa using hb)) (P1.zg h4) ⟨O1.os,O1.tape,O1.output⟩
   obtain ⟨D',q1,q2,q3,q4⟩:=M.1 m' (z4q _ Ps);refine ⟨D',q1, ?_,q3,q4⟩;have hne:D'≠D:=fun h=>p1 m' Ps (by rw [q1,h])
   exact (World.putObj_heap_other hne).trans q2
def A3r (P:Program) (c:Code) (p:Cut):Prop :=
 ∃ M:Code,c=CX p.pre M/\(P8 M=true->P8 p.post=true) /\
   ∀ {n:Nat} {E:Env} {st st2:St} {a:Act} {w:World} {Q:Exit->Act->World->Prop},J6 E st a w.heap->p.mid st=some st2 ->
     (∀ E' a' w',a'.defers=a.defers->J6 E' st2 a' w'.heap->Pr L8 E w.heap E' w'.heap->Q3 w w'->p.post.wpIn (Bo none) n P Q a' w')->M.wpIn (Bo none) n P Q a w
variable {n:Nat}
theorem Marks.weak {m:Nat} {ms:List Deferred} (H:Marks n E h ms) (hn:m<=n):Marks m E h ms :=
 ⟨fun x hx=>let ⟨D,h1,h2,h3,h4⟩:=H.1 x hx;⟨D,h1,h2,h3,zFq hn h4⟩,H.2⟩
theorem A9H (hm:C.P.follows .mixedOrders=true) (hO:C_ C R) {fl:Flags} {M:Code}:∀ (ps:List Code) {n:Nat} {K:Out->St->Option X} {st:St} {x:X} {E:Env} {a:Act} {w:World} {Q:Exit->Act->World->Prop},
 R8 C R fl (CX ps .skip) K st=some x->J6 E st a w.heap ->
 (∀ out E' st' a' w',out ≠ .normal->K out st'=some x->Left (CX ps .skip) w.heap.size E' w'.heap a.defers a'.defers->J6 E' st' a' w'.heap->Pr L8 E w.heap E' w'.heap->Q3 w w'->Q out.Xr a' w') ->
 (∀ E' st' a' w',K .normal st'=some x->Left (CX ps .skip) w.heap.size E' w'.heap a.defers a'.defers->J6 E' st' a' w'.heap->Pr L8 E w.heap E' w'.heap->Q3 w w'->M.wpIn (Bo none) n C.P Q a' w')->(CX ps M).wpIn (Bo none) n C.P Q a w
 | [],n,K,st,x,E,a,w,Q,H,Rl,T,N=>N E st a w H (Left.same rfl) Rl (Pr.refl _ _ _) (Q3.refl _)
 | p::ps,n,K,st,x,E,a,w,Q,H,Rl,T,N=>by
   have hp:P8 (.seq p (CX ps .skip))=true->P8 p=true/\P8 (CX ps .skip)=true:=fun h=>by simpa [P8] using h
   refine wpIn_seq (Jn hm hO p (.inl rfl) H Rl fun out E' st' a' w' h1 h0 h2 h3 h4 => ?_)
   obtain ⟨ms,q1,q2,q3⟩:=h0;have join:∀ {E2:Env} {a2:Act} {w2:World},Left (CX ps .skip) w'.heap.size E2 w2.heap a'.defers a2.defers->Pr L8 E' w'.heap E2 w2.heap->Left (CX (p::ps) .skip) w.heap.size E2 w2.heap a.defers a2.defers:=by
    rintro E2 a2 w2 ⟨ns,p1,p2,p3⟩ k3;exact ⟨ns++ms,by rw [p1,q1,zxq],p2.append q2 k3 h3.size,fun h=>by rw [p3 (hp h).2,q3 (hp h).1];rfl⟩
   cases out with
   | normal =>
     exact A9H hm hO ps h1 (h2.clean fl _) (fun out E2 st2 a2 w2 hn k1 k0 k2 k3 k4=>T out E2 st2 a2 w2 hn k1 (join k0 k3) k2 (h3.trans k3) (h4.trans k4))
      fun E2 st2 a2 w2 k1 k0 k2 k3 k4=>N E2 st2 a2 w2 k1 (join k0 k3) k2 (h3.trans k3) (h4.trans k4)
   | exit i=>exact T (.exit i) E' st' a' w' (by simp) h1 ⟨ms,q1,q2,fun h=>q3 (hp h).1⟩ h2 h3 h4
   | ret=>exact T .ret E' st' a' w' (by simp) h1 ⟨ms,q1,q2,fun h=>q3 (hp h).1⟩ h2 h3 h4
theorem Zr:∀ (ps:List Code) (M:Code),P8 (CX ps M)=true->P8 (CX ps .skip)=true/\P8 M=true
 | [],M,h=>⟨rfl,h⟩
 | p::ps,M,h=>by
   simp only [CX,P8,z3q] at h ⊢;obtain ⟨h1,h2⟩:=Zr ps M h.2;exact ⟨⟨h.1,h1⟩,h2⟩
variable {fl:Flags} {c:Code}
theorem B8M (hm:C.P.follows .mixedOrders=true) (hO:C_ C R) {p:Cut} (hc:A3r C.P c p) {K:Out->St->Option X} {st:St} {x:X} {a:Act} {Q:Exit->Act->World->Prop} (H:R8 C R fl (CX p.pre .skip) (jE C R fl p K) st=some x) (Rl:J6 E st a w.heap) (T:∀ out E' st' a' w',K out st'=some x->Left c w.heap.size E' w'.heap a.defers a'.defers->J6 E' st' a' w'.heap->Pr L8 E w.heap E' w'.heap->Q3 w w'->Q out.Xr a' w'):c.wpIn (Bo none) n C.P Q a w:=by
 obtain ⟨M,rfl,hM,C2Y⟩:=hc;refine A9H hm hO p.pre H Rl (fun out E1 st1 a1 w1 hn h1 h0 h2 h3 h4 => ?_) fun E1 st1 a1 w1 h1 h0 h2 h3 h4 => ?_
 ·obtain ⟨ms,q1,q2,q3⟩:=h0
  cases out with
  | exit i=>simp [jE] at h1
  | ret=>exact T .ret E1 st1 a1 w1 h1 ⟨ms,q1,q2,fun h=>q3 (Zr _ _ h).1⟩ h2 h3 h4
  | normal=>exact absurd rfl hn
 ·obtain ⟨ms,q1,q2,q3⟩:=h0
  simp only [jE] at h1;obtain ⟨st2,k1,k2⟩:=A9 h1;refine C2Y h2 k1 fun E2 a2 w2 d2 r2 p2 o2 => ?_
  refine Jn hm hO p.post (.inl rfl) k2 (r2.clean fl p.post) fun out E3 st3 a3 w3 g1 g0 g2 g3 g4=>T out E3 st3 a3 w3 g1 ?_ g2 ((h3.trans p2).trans g3) ((h4.trans o2).trans g4)
  obtain ⟨ns,p1,p2',p3⟩:=g0;exact ⟨ns++ms,by rw [p1,d2,q1,zxq],(p2'.weak p2.size).append q2 (p2.trans g3) h3.size,fun h=>by rw [p3 (hM (Zr _ _ h).2),q3 (Zr _ _ h).1];rfl⟩
theorem B6C (hm:C.P.follows .mixedOrders=true) (hO:C_ C R) {q:Option Cut} (hc:∀ p,q=some p->A3r C.P c p) {K:Out->St->Option X} {st:St} {x:X} {a:Act} {Q:Exit->Act->World->Prop} (H:xR C R fl q c K st=some x) (Rl:J6 E st a w.heap) (T:∀ out E' st' a' w',K out st'=some x->Left c w.heap.size E' w'.heap a.defers a'.defers->J6 E' st' a' w'.heap->Pr L8 E w.heap E' w'.heap->Q3 w w'->Q out.Xr a' w'):c.wpIn (Bo none) n C.P Q a w:=by
 cases q with
 | none=>exact Jn hm hO c (.inl rfl) H Rl T
 | some p=>exact B8M hm hO (hc p rfl) H Rl T
variable {f:FuncId}
theorem pure_ok {ds:List DV} {d:DV} {cut:Option Cut} (hm:C.P.follows .mixedOrders=true) (hO:C_ C R) (hf:C.P.funcs[f]?=some fn) (hb:fn.body=some c) (C2Q:∀ p,cut=some p->A3r C.P c p) (H:xR C R (C.fl f) cut c (SY C.P fn) (F7 fn (ds.map fun d=>(d, .val)) [])=some d):B3m C.P f ds d:=by
 intro S w vs hS VM;obtain ⟨hl,hv⟩:=VY.1 VM;have J3:Y0 S w.heap (Vf S).S w.heap:=⟨fun b o hs=>(B9N S b o).2 hs,fun _ _ _ _ h=>h⟩
 have fr:∀ b o,w.heap.size<=b->(Vf S).O b o = .other:=fun b o hb=>by
  simp only [Vf];rw [if_neg (hS b o hb)]
 refine (callsIn_wide (n:=0)).1 (callsIn_of_wp_marks hf hb trivial (B6C hm hO C2Q H (pE (E:=Vf S) fr rfl (by simp) (by simp [hl]) fun i r v hr MO => ?_) fun out E' st' a' w1 h1 h0 Pq dR A0B => ?_))
 ·simp only [zcq,zgq] at hr
  obtain ⟨d',ES,rfl⟩:=hr;exact RR.val ((hv i d' v ES MO).mono J3)
 ·obtain ⟨ms,e0,M,-⟩:=h0
  rw [yhq] at e0;have fin:∀ ds',aH C.P st' fn.results.toList=some ds'->d=pack ds'->∀ w',J6 E' st' a' w'.heap->Pr L8 (Vf S) w.heap E' w'.heap->Q3 w w'->∃ v,(results fn a'.tmps).run C.P w' = .ok v w'/\∃ v' S',Ending.returned v = .returned v'/\Ext S w.heap S' w'.heap/\RV S' w'.heap d v'/\Q3 w w':=by
   intro ds' k1 k2 w' h2 h3 WG;obtain ⟨us,q1,q2,-⟩:=A5a h2 k1;refine ⟨if h:us.toArray.size=1 then us.toArray[0] else .tuple us.toArray, ?_,_,E'.fin,rfl,⟨h3.size,fun b hb=>B8j h3 hb,fun b o hb => ?_,fun b o hb => ?_⟩,by rw [k2];exact B8r q2,WG⟩
   ·rw [pR]
    simp only [Sem.run_bind,q1,Result.andThen_ok,Sem.run_pure]
   ·have ZL:¬ L8 ((Vf S).O b o):=by
     simp only [Vf]
     split <;> simp [L8]
    have ht:=h3.tags b o hb ZL;simp only [Env.fin,ht,Vf]
    split <;> simp_all
   ·simp only [Env.fin,h2.fresh b o hb]
    simp
  cases out with
  | exit i=>simp [SY] at h1
  | normal =>
    simp only [SY] at h1;obtain ⟨ds',k1,k2⟩:=A9 h1;simp only [Option.some.injEq] at k2
    show LeavesInM Fence.wide 0 C.P fn a'.tmps _ a'.defers .returning w1
    rw [e0];exact Ur (fin ds' k1 k2.symm) ms w1 M Pq dR A0B
  | ret =>
    simp only [SY] at h1;obtain ⟨ds',k1,k2⟩:=A9 h1;simp only [Option.some.injEq] at k2
    show LeavesInM Fence.wide 0 C.P fn a'.tmps _ a'.defers .returning w1
    rw [e0];exact Ur (fin ds' k1 k2.symm) ms w1 M Pq dR A0B
def B1N (E:Env) (st:St) (a:Act) (w:World) (r:ResultVar) (d:DV) (v:Value):MK->Prop
 | .val=>RV S w.heap d v
 | .own=>∃ t,r = .tmp t/\Kg (st.get t).2=true/\d=(st.get t).1/\v=a.tmps.getD t undef
 | .ptr=>∃ t,r = .tmp t/\A9n (st.get t)=some d/\v=a.tmps.getD t undef
 | .YK n os=>∃ p t s cs,r = .cell p t/\(st.get p).2 = .loc s 0/\st.bx.getD s none=some cs/\n=cs.length/\kJ os 0 cs=true/\d = .agg (cs.map (·.1))/\∃ c T,w.heap[E.blk s]?=some (.cells c T (0,0))/\v = .agg c
theorem A64 {P:Program} {sl:Bool} {us:List Nat} {E:Env} {st:St} {a:Act} {w:World} (Rl:J6 E st a w.heap):∀ {ks:List MK} {rs:List ResultVar} {ds:List DV},(sl=true->∀ v∈rs,∀ i∈Tz st v,i∈us)->Xp P sl st ks rs=some ds ->
 ks.length=rs.length/\ds.length=ks.length/\∃ vs:List Value,(rs.mapM (Ko a.tmps)).run P w = .ok vs w/\vs.length=rs.length /\
  ∀ (i:Nat) k r d v,ks[i]?=some k->rs[i]?=some r->ds[i]?=some d->vs[i]?=some v->B1N (E.re (Fa us)).S E st a w r d v k
 | [],[],ds,_,H=>by
   simp only [Xp,Option.some.injEq] at H;subst H;exact ⟨rfl,rfl,[],rfl,rfl,fun i k r d v h=>by simp at h⟩
 | k::ks,r::rs,ds,hu,H=>by
   simp only [Xp] at H;obtain ⟨d,h1,H⟩:=A9 H;obtain ⟨ds',h2,H⟩:=A9 H;simp only [Option.some.injEq] at H;subst H;obtain ⟨l1,l2,vs,q1,q2,q3⟩:=A64 Rl (fun h v hv=>hu h v (z4q _ hv)) h2
   have one:∃ v,(Ko a.tmps r).run P w = .ok v w/\B1N (E.re (Fa us)).S E st a w r d v k:=by
    cases k with
    | val =>
      simp only [A49] at h1
      split at h1
      ·rename_i hb
       simp only [z3q] at hb;obtain ⟨v,k1,k2⟩:=zf (g:=Lj us st.sg) (B0H hb.2 (hu hb.1 r (z6q ..)) h1) Rl (B2z Rl us);exact ⟨v,k1,k2⟩
      ·obtain ⟨v,k1,k2⟩:=zf (g:=[]) h1 Rl (B2C E w.heap)
       exact ⟨v,k1,k2.mono (KE (VC (by simp)))⟩
    | own =>
      simp only [A49] at h1;cases r with
      | tmp t =>
        simp only at h1;obtain ⟨k1,k2⟩:=F4 h1;simp only [Option.some.injEq] at k2;exact ⟨_,rfl,t,rfl,k1,k2.symm,rfl⟩
      | cell p t=>simp at h1
    | ptr =>
      simp only [A49] at h1;cases r with
      | tmp t=>exact ⟨_,rfl,t,rfl,h1,rfl⟩
      | cell p t=>simp at h1
    | YK n os =>
      simp only [A49] at h1;cases r with
      | tmp t=>simp at h1
      | cell p t =>
        simp only at h1
        split at h1
        ·rename_i s hm
         obtain ⟨cs,g1,h1⟩:=A9 h1;obtain ⟨z,g2,h1⟩:=A9 h1;obtain ⟨g3,h1⟩:=F4 h1;simp only [z3q,beq_iff_eq] at g3;obtain ⟨⟨⟨hz,g3⟩,g4⟩,g5⟩:=g3;simp only [Option.some.injEq] at h1;have hR:RR E w.heap 0 p (st.get p).1 (st.get p).2 (a.tmps.getD p undef):=Rl.src (P:=P) (t:=0) (x := .tmp p) rfl;rw [hm] at hR;simp only [RR,J8] at hR;obtain ⟨c,T,b1,b2,b3,b4⟩:=Rl.boxes s cs g1;obtain ⟨v,hv,Xh,hv2⟩:=Fu (w:=w) g2 (b:=E.blk s) (off:=0) (vs:=c.toList) (by simp [b2,g3]) fun j u hu=>by
          simp only [hc,b1,zhq];simpa using hu
         have O8:(Ko a.tmps (.cell p t)).run P w = .ok v w:=by
          simp only [Ko,hR.2,asAddr,Sem.run_bind,Sem.run_pure,Result.andThen_ok];exact hv
         exact ⟨v,O8,p,t,s,cs,rfl,hm,g1,by omega,g5,h1.symm,c,T,b1,by rw [Xh hz]⟩
        ·cases h1
   obtain ⟨v,k1,k2⟩:=one;refine ⟨by simp [l1],by simp [l2],v::vs,by simp only [yiq,Sem.run_bind,k1,q1,Result.andThen_ok,Sem.run_pure],by simp [q2],fun i k' r' d' v' e1 e2 e3 e4 => ?_⟩
   cases i with
   | zero =>
     simp only [zfq,Option.some.injEq] at e1 e2 e3 e4;subst e1 e2 e3 e4;exact k2
   | succ i =>
     simp only [z9q] at e1 e2 e3 e4;exact q3 i k' r' d' v' e1 e2 e3 e4
 | [],_::_,ds,_,H=>by simp [Xp] at H
 | _::_,[],ds,_,H=>by simp [Xp] at H
theorem A4Z:∀ {ks:List MK} {i j:Nat} {k k':MK},(ks.filter DT).length<=1->ks[i]?=some k->DT k=true->ks[j]?=some k'->DT k'=true->i=j
 | [],i,j,_,_,_,h,_,_,_=>by simp at h
 | k0::ks,i,j,k,k',hl,hi,hk,hj,Ik=>by
   have nomem:DT k0=true->∀ (m:Nat) q,ks[m]?=some q->DT q=true->False:=by
    intro h0 m q hm hq;have h1:q∈ks.filter DT:=zSq.2 ⟨List.mem_of_getElem? hm,hq⟩;have h2:0<(ks.filter DT).length:=List.length_pos_of_mem h1;simp only [ycq,h0,if_true,zaq] at hl;omega
   cases i with
   | zero =>
     simp only [zfq,Option.some.injEq] at hi;subst hi;cases j with
     | zero=>rfl
     | succ j=>simp only [z9q] at hj;exact (nomem hk j _ hj Ik).elim
   | succ i =>
     simp only [z9q] at hi;cases j with
     | zero =>
       simp only [zfq,Option.some.injEq] at hj;subst hj;exact (nomem Ik i _ hi hk).elim
     | succ j =>
       simp only [z9q] at hj;have hl':(ks.filter DT).length<=1:=by
        simp only [ycq] at hl
        split at hl
        ·simp only [zaq] at hl;omega
        ·exact hl
       rw [A4Z hl' hi hk hj Ik]
def A4Y (st:St) (k:MK) (r:ResultVar):Option (Nat × Nat) :=
 match k,r with
 | .own, .tmp t=>some (0,t)
 | .YK _ _, .cell p _=>match (st.get p).2 with
   | .loc s _=>some (1,s)
   | _=>none
 | _,_=>none
def eZ (q:Option (Nat × Nat)) (i:Nat) (T:Tag):Tag :=
 match T with
 | .sp 0 t b=>if q=some (0,t) then .sp 3 i b else .sp 0 t b
 | .sp 1 s j=>if q=some (1,s) then .sp 3 i (j+1) else .sp 1 s j
 | T=>T
theorem A31:∀ {os:List Nat} {i0 j:Nat} {cs:List (DV × Meta)} {c:DV × Meta},kJ os i0 cs=true->cs[j]?=some c->(if os.contains (i0+j) then Kg c.2 else J5 c.2)=true
 | os,i0,j,[],c,_,h=>by simp at h
 | os,i0,0,c0::cs,c,H,h=>by
   simp only [zfq,Option.some.injEq] at h;subst h;simp only [kJ,z3q] at H;exact H.1
 | os,i0,j+1,c0::cs,c,H,h=>by
   simp only [kJ,z3q] at H;have:=A31 H.2 (by simpa using h)
   rwa [Nat.add_assoc,Nat.add_comm 1 j] at this
theorem B5G {m:Meta} (h:J5 m=true) (hl:X0 m=true):m = .val\/m = .full\/m = .own\/m = .Di:=by
 cases m <;> simp_all [J5,X0]
variable {v:Value}
theorem A9u {tg:Tag} {d:DV} {m:Meta} (hr:Kg m=true) (R:J8 E h tg d m v):J8 E h tg d .own v:=by
 cases m <;> first | exact R | exact R.oZ | (simp [Kg] at hr)
def kI (E:Env) (w:World) (s:CZ) (q:List DV × List D8) (e:Ending) (w':World):Prop :=
 Q3 w w'/\∃ v E',e = .returned v/\Pr L8 E w.heap E' w'.heap/\(∀ b o,w'.heap.size<=b->E'.O b o = .other)/\q.2.length=E'.n/\(∀ (i:Nat) ob,q.2[i]?=some ob->RO E' w'.heap i ob)/\A8g E' w'.heap s.results q.1 v
variable {s:CZ} {q:List DV × List D8}
theorem B1u {E':Env} {st':St} {a':Act} (h4:(s.results.filter DT).length<=1) {ds':List DV} (k1:Xp C.P s.lock st' s.results fn.results.toList=some ds') (k2:q=(ds',match s.lock with
   | true=>kill st'.sg (fn.results.toList.flatMap (Tz st'))
   | false=>st'.sg)) (w':World) (h2:J6 E' st' a' w'.heap) (h3:Pr L8 E w.heap E' w'.heap) (WG:Q3 w w'):∃ v,(results fn a'.tmps).run C.P w' = .ok v w'/\kI E w s q (.returned v) w':=by
 obtain ⟨ks,zG⟩:∃ ks,(match s.lock with
  | true=>fn.results.toList.flatMap (Tz st')
  | false=>[])=ks:=⟨_,rfl⟩
 have B95:s.lock=true->∀ v∈fn.results.toList,∀ i∈Tz st' v,i∈ks:=fun hl v hv i hi=>by
  rw [<- zG,hl];exact zzq.2 ⟨v,hv,hi⟩
 have B96:(match s.lock with
  | true=>kill st'.sg (fn.results.toList.flatMap (Tz st'))
  | false=>st'.sg)=kill st'.sg ks:=by
  rw [<- zG];cases s.lock <;> rfl
 rw [B96] at k2;clear B96 zG;subst k2;obtain ⟨l1,l2,us,q1,q2,q3⟩:=A64 (us:=ks) h2 B95 k1;have h2:J6 (E'.re (Fa ks)) { st' with sg:=kill st'.sg ks } a' w'.heap:=h2.shut ks
 have h3:Pr L8 E w.heap (E'.re (Fa ks)) w'.heap:=h3.trans (Pr.re fun T hT=>VC fun i _ he=>hT (by rw [he];simp [L8]))
 have q3:∀ (i:Nat) k r d v,s.results[i]?=some k->fn.results.toList[i]?=some r->ds'[i]?=some d->us[i]?=some v->B1N (E'.re (Fa ks)).S (E'.re (Fa ks)) { st' with sg:=kill st'.sg ks } a' w' r d v k:=by
  intro i k r d v e1 e2 e3 e4;have:=q3 i k r d v e1 e2 e3 e4;cases k <;> exact this
 clear B95;generalize hE:E'.re (Fa ks)=E' at h2 h3 q3;generalize R6:({ st' with sg:=kill st'.sg ks }:St)=st2 at h2 q3
 have hgs:st2.sg=kill st'.sg ks:=by rw [<- R6]
 rw [<- hgs];clear hgs R6 hE k1;have pick:∃ (i0:Nat) (g:Option (Nat × Nat)),∀ (j:Nat) k r,s.results[j]?=some k->DT k=true->fn.results.toList[j]?=some r->j=i0/\A4Y st2 k r=g:=by
  by_cases hx:∃ (i:Nat) (k:MK),s.results[i]?=some k/\DT k=true
  ·obtain ⟨i,k,hi,hk⟩:=hx
   have M4:i<s.results.length:=(z1q.1 hi).1;have e2:fn.results.toList[i]?=some (fn.results.toList[i]'(by omega)):=z2q (by omega)
   refine ⟨i,A4Y st2 k (fn.results.toList[i]'(by omega)),fun j k' r hj Ik hr => ?_⟩
   have:=A4Z h4 hi hk hj Ik;subst this;rw [hi] at hj;rw [e2] at hr;simp only [Option.some.injEq] at hj hr;exact ⟨rfl,by rw [hj,hr]⟩
  ·exact ⟨0,none,fun j k r hj hk=>absurd ⟨j,k,hj,hk⟩ hx⟩
 obtain ⟨i0,g,B7l⟩:=pick;have J3:Y0 E'.S w'.heap (E'.re (eZ g i0)).S w'.heap:=KE rfl;refine ⟨if h:us.toArray.size=1 then us.toArray[0] else .tuple us.toArray, ?_,WG,_,E'.re (eZ g i0),rfl,h3.trans (Pr.re fun T hT => ?_),fun b o hb => ?_, ?_,fun i ob hi => ?_,l2,us,by omega, ?_, ?_⟩
 ·rw [pR]
  simp only [Sem.run_bind,q1,Result.andThen_ok,Sem.run_pure]
 ·unfold eZ
  split
  ·simp [L8] at hT
  ·simp [L8] at hT
  ·rfl
 ·simp only [Env.re];rw [h2.fresh b o hb];rfl
 ·exact h2.n
 ·exact RO.to (E:=E') ⟨fun b o h=>by simp only [Env.re];rw [h];rfl,fun b o h=>by simp only [Env.re];rw [h];rfl,rfl,rfl,rfl,rfl,rfl⟩ (fun j b o h=>by simp only [Env.re];rw [h];rfl) (h2.Q0 i ob hi)
 ·match us with
  | []=>rfl
  | [u]=>rfl
  | u::u'::us=>rfl
 ·intro i k d v e1 e2 e3
  have M4:i<s.results.length:=(z1q.1 e1).1;have e4:fn.results.toList[i]?=some (fn.results.toList[i]'(by omega)):=z2q (by omega)
  have a1:=q3 i k _ d v e1 e4 e2 e3;cases k with
  | val=>exact (show RV _ _ _ _ from a1).mono J3
  | own =>
    obtain ⟨t,ht,Lg,rfl,rfl⟩:=a1;obtain ⟨rfl,hp⟩:=B7l i _ _ e1 rfl e4;rw [ht] at hp;simp only [A4Y] at hp;have hR:RR E' w'.heap 0 t (st2.get t).1 (st2.get t).2 (a'.tmps.getD t undef):=h2.src (P:=C.P) (t:=0) (x := .tmp t) rfl;have hR2:RR (E'.re (eZ g i)) w'.heap 3 i (st2.get t).1 (st2.get t).2 (a'.tmps.getD t undef) :=
     hR.re rfl rfl fun b=>by simp [eZ,<- hp]
    show J8 _ _ (.sp 3 i 0) _ .own _
    exact A9u Lg (hR2.A0f (fun ms h=>by rw [h] at Lg;simp [Kg] at Lg) fun ms h=>by rw [h] at Lg;simp [Kg] at Lg)
  | ptr =>
    obtain ⟨t,ht,hd,rfl⟩:=a1;have hR:RR E' w'.heap 0 t (st2.get t).1 (st2.get t).2 (a'.tmps.getD t undef):=h2.src (P:=C.P) (t:=0) (x := .tmp t) rfl
    show J8 _ _ .other (Km .ptr d).1 (Km .ptr d).2 _
    unfold A9n at hd
    split at hd
    ·rename_i n hm
     simp only [Option.some.injEq] at hd;subst hd;rw [hm] at hR;exact hR
    ·rename_i hm
     simp only [Option.some.injEq] at hd;subst hd;rw [hm] at hR;exact ⟨rfl,hR.2⟩
    ·cases hd
  | YK n os =>
    obtain ⟨p,t,s',cs,ht,hm,hb,hn,w9,rfl,c,T,hc1,rfl⟩:=a1;obtain ⟨rfl,hp⟩:=B7l i _ _ e1 rfl e4;rw [ht] at hp;simp only [A4Y,hm] at hp;obtain ⟨c',T',b1,b2,b3,b4⟩:=h2.boxes s' cs hb;rw [hc1] at b1;simp only [Option.some.injEq,Obj.cells.injEq] at b1;obtain ⟨rfl,rfl,-⟩:=b1;simp only [B1L,RR];refine ⟨_,c,rfl,rfl,by simp [hn],by simp [hn,b2],fun j m' d' u e1 e2 e3 => ?_⟩
    simp only [zcq,zgq] at e1 e2;obtain ⟨j',Bg,rfl⟩:=e1;obtain ⟨r,hr,rfl⟩:=e2;have hjj:j'=j:=by
     have:=(z1q.1 Bg);obtain ⟨_,hh⟩:=this;simpa using hh.symm
    subst hjj;obtain ⟨x1,x2,x3,x4⟩:=b4 j' r u hr e3;have x5:J8 (E'.re (eZ g i)) w'.heap (.sp 3 i (j'+1)) r.1 r.2 u:=x4.re rfl (by simp [eZ,<- hp])
    have x6:=A31 w9 hr;rw [zhq] at x6
    by_cases hos:os.contains j'=true
    ·rw [if_pos hos] at x6 ⊢
     exact ⟨x1,x2,rfl,A9u x6 x5⟩
    ·rw [if_neg hos] at x6 ⊢
     refine ⟨x1,x2,rfl, ?_⟩;exact kH (B5G x6 x3) x5
theorem pU {out:Out} {E':Env} {st':St} {a':Act} (h1:Jm C.P fn s out st'=some q):(∃ i,out = .exit i->False)/\(out = .normal\/out = .ret)/\∀ (w':World),J6 E' st' a' w'.heap->Pr L8 E w.heap E' w'.heap->Q3 w w'->∃ v,(results fn a'.tmps).run C.P w' = .ok v w'/\kI E w s q (.returned v) w':=by
 cases out with
 | exit i=>simp [Jm] at h1
 | normal =>
   simp only [Jm] at h1;obtain ⟨k0,h1⟩:=F4 h1;obtain ⟨ds',k1,k2⟩:=A9 h1;simp only [Option.some.injEq] at k2;exact ⟨⟨0,by simp⟩, .inl rfl,fun w' h2 h3 h4=>B1u (by simpa using k0) k1 k2.symm w' h2 h3 h4⟩
 | ret =>
   simp only [Jm] at h1;obtain ⟨k0,h1⟩:=F4 h1;obtain ⟨ds',k1,k2⟩:=A9 h1;simp only [Option.some.injEq] at k2;exact ⟨⟨0,by simp⟩, .inr rfl,fun w' h2 h3 h4=>B1u (by simpa using k0) k1 k2.symm w' h2 h3 h4⟩
theorem C0I (hm:C.P.follows .mixedOrders=true) (hO:C_ C R) (hf:C.P.funcs[f]?=some fn) (hb:fn.body=some c) (H:R8 C R (C.fl f) c (Jm C.P fn s) (F7 fn rs sg)=some q):B1M C.P f s rs sg q:=by
 intro E w vs zD hn ho hl hr;refine (callsIn_wide (n:=0)).1 (callsIn_of_wp_marks hf hb trivial (Jn hm hO c (.inl rfl) H (pE zD hn ho hl hr) fun out E' st' a' w1 h1 h0 Pq dR A0B => ?_))
 obtain ⟨ms,e0,M,-⟩:=h0;rw [yhq] at e0;obtain ⟨-,ho,fin⟩:=pU (E:=E) (E':=E') (a':=a') (w:=w) h1;have:LeavesInM Fence.wide 0 C.P fn a'.tmps (kI E w s q) a'.defers .returning w1:=by
  rw [e0];exact Ur fin ms w1 M Pq dR A0B
 rcases ho with rfl | rfl <;> exact this
theorem B8x (hm:C.P.follows .mixedOrders=true) (hO:C_ C R) (hf:C.P.funcs[f]?=some fn) (hb:fn.body=some c) (hp:P8 c=true) (H:R8 C R (C.fl f) c (Jm C.P fn s) (F7 fn rs sg)=some q):B3p C.P f s rs sg q:=by
 intro E w vs zD hn ho hl hr u;refine callsDIn_of_wp hf hb trivial (Jn (ro:=none) (n:=0) hm hO c (.inl rfl) H (pE zD hn ho hl hr) fun out E' st' a' w1 h1 h0 Pq dR A0B => ?_)
 obtain ⟨-,ho,fin⟩:=pU (E:=E) (E':=E') (a':=a') (w:=w) h1;have hd:a'.defers=[]:=h0.plain hp;obtain ⟨v,g1,g2⟩:=fin w1 Pq dR A0B;rcases ho with rfl | rfl <;> exact ⟨hd,v,g1,g2⟩
def B3l (c:Code) (p:A5x):Prop:=c=CX p.pre (.seq (.seq p.r (.cond p.c (.seq p.a (.region p.id (p.ops++[p.gD]).toArray false)) .skip)) p.post)/\P8 c=true
theorem A69 (hm:C.P.follows .mixedOrders=true) (hO:C_ C R) {fl:Flags} {r B D:Code}:∀ (ps:List Code) {n:Nat} {K:Out->St->Option X} {st:St} {x:X} {E:Env} {a:Act} {w:World} {Q:Exit->Act->World->Prop},
 R8 C R fl (CX (ps++[r]) .skip) K st=some x->J6 E st a w.heap ->
 (∀ out E' st' a' w',out ≠ .normal->K out st'=some x->Left (CX (ps++[r]) .skip) w.heap.size E' w'.heap a.defers a'.defers->J6 E' st' a' w'.heap->Pr L8 E w.heap E' w'.heap->Q3 w w'->Q out.Xr a' w') ->
 (∀ E' st' a' w',K .normal st'=some x->Left (CX (ps++[r]) .skip) w.heap.size E' w'.heap a.defers a'.defers->J6 E' st' a' w'.heap->Pr L8 E w.heap E' w'.heap->Q3 w w'->B.wpIn (Bo none) n C.P (Exit.then (D.wpIn (Bo none) n C.P Q) Q) a' w')->(CX ps (.seq (.seq r B) D)).wpIn (Bo none) n C.P Q a w
 | [],n,K,st,x,E,a,w,Q,H,Rl,T,N=>by
   have hp:P8 (.seq r .skip)=true->P8 r=true:=fun h=>by simpa [P8] using h
   refine wpIn_seq (wpIn_seq (Jn hm hO r (.inl rfl) H Rl fun out E' st' a' w' h1 h0 h2 h3 h4 => ?_))
   obtain ⟨ms,q1,q2,q3⟩:=h0;cases out with
   | normal=>exact N E' st' a' w' h1 ⟨ms,q1,q2,fun h=>q3 (hp h)⟩ h2 h3 h4
   | exit i=>exact T (.exit i) E' st' a' w' (by simp) h1 ⟨ms,q1,q2,fun h=>q3 (hp h)⟩ h2 h3 h4
   | ret=>exact T .ret E' st' a' w' (by simp) h1 ⟨ms,q1,q2,fun h=>q3 (hp h)⟩ h2 h3 h4
 | p::ps,n,K,st,x,E,a,w,Q,H,Rl,T,N=>by
   have hp:P8 (.seq p (CX (ps++[r]) .skip))=true->P8 p=true/\P8 (CX (ps++[r]) .skip)=true:=fun h=>by simpa [P8] using h
   refine wpIn_seq (Jn hm hO p (.inl rfl) H Rl fun out E' st' a' w' h1 h0 h2 h3 h4 => ?_)
   obtain ⟨ms,q1,q2,q3⟩:=h0;have join:∀ {E2:Env} {a2:Act} {w2:World},Left (CX (ps++[r]) .skip) w'.heap.size E2 w2.heap a'.defers a2.defers->Pr L8 E' w'.heap E2 w2.heap->Left (CX (p::ps++[r]) .skip) w.heap.size E2 w2.heap a.defers a2.defers:=by
    rintro E2 a2 w2 ⟨ns,p1,p2,p3⟩ k3;exact ⟨ns++ms,by rw [p1,q1,zxq],p2.append q2 k3 h3.size,fun h=>by rw [p3 (hp h).2,q3 (hp h).1];rfl⟩
   cases out with
   | normal =>
     exact A69 hm hO ps h1 (h2.clean fl _) (fun out E2 st2 a2 w2 hn k1 k0 k2 k3 k4=>T out E2 st2 a2 w2 hn k1 (join k0 k3) k2 (h3.trans k3) (h4.trans k4))
      fun E2 st2 a2 w2 k1 k0 k2 k3 k4=>N E2 st2 a2 w2 k1 (join k0 k3) k2 (h3.trans k3) (h4.trans k4)
   | exit i=>exact T (.exit i) E' st' a' w' (by simp) h1 ⟨ms,q1,q2,fun h=>q3 (hp h).1⟩ h2 h3 h4
   | ret=>exact T .ret E' st' a' w' (by simp) h1 ⟨ms,q1,q2,fun h=>q3 (hp h).1⟩ h2 h3 h4
theorem A2B:∀ (ps:List Code) (r B D:Code),P8 (CX ps (.seq (.seq r B) D))=true->P8 (CX (ps++[r]) .skip)=true/\P8 B=true/\P8 D=true
 | [],r,B,D,h=>by
   simp only [CX,P8,z3q,List.nil_append] at h ⊢;exact ⟨⟨h.1.1,trivial⟩,h.1.2,h.2⟩
 | p::ps,r,B,D,h=>by
   simp only [CX,P8,z3q,zQq] at h ⊢;obtain ⟨h1,h2⟩:=A2B ps r B D h.2;exact ⟨⟨h.1,h1⟩,h2⟩
theorem B9n {E':Env} {h':Heap} (P:Pr L8 E h E' h') (zD:∀ b o,h.size<=b->E.O b o = .other) {k a:Nat} {r:DV × Meta} (R:RR E h k a r.1 r.2 v) (k' a':Nat):RR E' h' k' a' (VE (r.1,QY r.2)).1 (VE (r.1,QY r.2)).2 v :=
 (B30 R).stay (P.shut (by simp [L8]) zD) fun i hi=>⟨P.In hi,(P.old hi).1⟩
theorem B2M {p:A5x} (hm:C.P.follows .mixedOrders=true) (hO:C_ C R) (hf:C.P.funcs[f]?=some fn) (hb:fn.body=some c) (hc:B3l c p) (H:R8 C R (C.fl f) (CX (p.pre++[p.r]) .skip) (gB C R (C.fl f) p (Jm C.P fn s) (A8s R (Jm C.P fn s))) (F7 fn rs sg)=some q):B1M C.P f s rs sg q:=by
 intro E w vs zD hn ho hl hr;obtain ⟨NU,VL⟩:=hc;rw [NU] at VL;obtain ⟨pl1,pl2,plp⟩:=A2B _ _ _ _ VL;have pla:P8 p.a=true:=by simpa [P8] using pl2
 have zX:∀ {out:Out} {E':Env} {st':St} {a':Act} {w1:World},Jm C.P fn s out st'=some q->a'.defers=[]->J6 E' st' a' w1.heap->Pr L8 E w.heap E' w1.heap->Q3 w w1->bodyPostM Fence.wide 0 C.P fn (kI E w s q) out.Xr a' w1:=by
  intro out E' st' a' w1 h1 hd h2 h3 h4;obtain ⟨-,ho,fin⟩:=pU (E:=E) (E':=E') (a':=a') (w:=w) h1;have:LeavesInM Fence.wide 0 C.P fn a'.tmps (kI E w s q) a'.defers .returning w1:=by
   rw [hd];obtain ⟨v,g1,g2⟩:=fin w1 h2 h3 h4;exact ⟨v,g1,g2⟩
  rcases ho with rfl | rfl <;> exact this
 refine (callsIn_wide (n:=0)).1 (callsIn_of_wp_marks hf (hb.trans (congrArg some NU)) trivial (A69 hm hO p.pre H (pE zD hn ho hl hr) (fun out E1 st1 a1 w1 hnn h1 h0 h2 h3 h4 => ?_) fun E1 st1 a1 w1 h1 h0 h2 h3 h4 => ?_))
 ·cases out with
  | normal=>exact absurd rfl hnn
  | exit i=>simp [gB] at h1
  | ret=>exact zX h1 (h0.plain pl1) h2 h3 h4
 ·have hd1:a1.defers=[]:=h0.plain pl1
  simp only [gB,bV] at h1;obtain ⟨r,k1,h1⟩:=A9 h1;obtain ⟨k2,h1⟩:=F4 h1;have e1:=(h2.src k1).data k2;have fin:(r.1 = .bool true/\R8 C R (C.fl f) p.a (fun o st=>match o with
   | .normal=>Bt C R (C.fl f) (p.ops++[p.gD]) p.ops (Gu (C.fl f) p.id st) fun st=>ob (kX C p.gD st) fun q=>R8 C R (C.fl f) p.post (A8s R (Jm C.P fn s) q) (clean (C.fl f) p.post st)
   | .exit _=>none
   | .ret=>Jm C.P fn s .ret st) (clean (C.fl f) p.a st1)=some q)\/(r.1 = .bool false/\R8 C R (C.fl f) p.post (Jm C.P fn s) (clean (C.fl f) p.post st1)=some q):=by
   cases hy:p.c with
   | tmp t =>
     rw [hy] at k1 h1;simp only [src,Option.some.injEq] at k1;subst k1;simp only at h1;rcases OP h1 with ⟨h3,h4⟩ | ⟨h3,h4⟩
     ·rw [FB h3 (by simp)] at h4
      exact .inl ⟨h3,h4⟩
     ·rw [FB h3 (by simp)] at h4
      exact .inr ⟨h3,h4⟩
   | _=>rw [hy] at h1;exact OP h1
  clear h1;rcases fin with ⟨g1,g2⟩ | ⟨g1,g2⟩
  ·rw [g1] at e1
   simp only [RV] at e1;refine wpIn_cond_true e1 (wpIn_seq (Jn hm hO p.a (.inl rfl) g2 (h2.clean _ p.a) fun out E2 st2 a2 w2 k1 k0 k2 k3 k4 => ?_))
   have Kz:a2.defers=[]:=(k0.plain pla).trans hd1;cases out with
   | exit i=>simp at k1
   | ret=>exact zX k1 Kz k2 (h3.trans k3) (h4.trans k4)
   | normal =>
     simp only at k1;refine wpIn_region ?_;have hls:List.range (p.ops++[p.gD]).toArray.size=List.range' 0 p.ops.length++[p.ops.length]:=by
      rw [zTq];simp only [List.size_toArray,y5q,zaq,zUq,zhq];rw [List.range'_concat];simp
     rw [hls];refine A50 hO (os:=p.ops) (i:=0) (fun j o hj=>by
      rw [zhq,zdq (z1q.1 hj).1];exact hj) k1 (k2.Gu _ _) fun E3 st3 a3 w3 l1 l0 l2 l3 l4 => ?_
     obtain ⟨g,m1,l1⟩:=A9 l1;have hd3:a3.defers=[]:=l0.trans Kz;have D9:(p.ops++[p.gD]).toArray[p.ops.length]?=some p.gD:=by simp
     unfold kX at m1
     split at m1
     ·rename_i cl Ul
      split at m1
      ·rename_i fg hfg
       obtain ⟨rs',n1,m1⟩:=A9 m1;obtain ⟨n2,m1⟩:=F4 m1;simp only [Option.some.injEq] at m1;subst m1;simp only [z3q,Option.isNone_iff_eq_none] at n2;obtain ⟨⟨⟨hdf,hgd⟩,FE⟩,R6⟩:=n2;obtain ⟨s1,s2⟩:=A0b l2 n1;have C23:(p.gD.semAt (Bo none).round a3.eval).run C.P w3 = .ok (.defer { target := .fn (.func fg) #[],args:=cl.args.map a3.eval }) w3:=by
        show (p.gD.semAt none a3.eval).run C.P w3=_
        rw [Oper.semAt_none];simp only [execOp,Ul,resolve,hfg,Sem.run_bind];simp [Deferred.ofValue,Act.eval]
       rw [wpOpsIn_cons];unfold wpOpIn;simp only [D9];rw [if_pos (by simp [Region.wanted,hgd])]
       refine ⟨fun _ _=>trivial, ?_⟩
       rw [C23,Oper.uponIn_defer,FE];simp only [wpOpsIn];have R4:J6 E3 st3 { a3 with defers:={ target := .fn (.func fg) #[],args:=cl.args.map a3.eval }::a3.defers } w3.heap:=⟨l2.size,l2.AP,l2.Bi,l2.n,l2.regs,l2.boxes,l2.Q0,l2.fresh⟩
       refine Jn hm hO p.post (.inl rfl) l1 (R4.clean _ p.post) fun out E5 st5 a5 w5 z1 z0 z2 z3 z4 => ?_
       have hd5:a5.defers=[{ target := .fn (.func fg) #[],args:=cl.args.map a3.eval }]:=by
        rw [z0.plain plp,hd3];rfl
       have key:(out = .normal\/out = .ret)/\∃ pq,R.r fg (rs'.map fun r=>VE (r.1,QY r.2)) st5.sg=some pq/\Jm C.P fn s out { st5 with sg:=pq.2 }=some q:=by
        cases out with
        | exit i=>simp [A8s] at z1
        | normal=>obtain ⟨pq,y1,y2⟩:=A9 z1;exact ⟨.inl rfl,pq,y1,y2⟩
        | ret=>obtain ⟨pq,y1,y2⟩:=A9 z1;exact ⟨.inr rfl,pq,y1,y2⟩
       obtain ⟨WG,pq,y1,y2⟩:=key;obtain ⟨s',Cz,hgo,hD⟩:=hO.d fg _ _ _ hdf y1;obtain ⟨c1,c2,c3⟩:=B5z z2;have C2N:∀ (i:Nat) r v,(rs'.map fun r=>VE (r.1,QY r.2))[i]?=some r->(cl.args.map a3.eval).toList[i]?=some v->RR (E5.re O9) w5.heap 0 i r.1 r.2 v:=by
        intro i r v hr hv;simp only [zcq,zgq] at hr;obtain ⟨r0,zK,rfl⟩:=hr;obtain ⟨y,t,-,-,-,hRy⟩:=s2 i r0 v zK (by simpa using hv)
        have:=B9n z3 l2.fresh hRy 4 i;exact this.re rfl rfl fun b=>rfl
       have B4d:=hD (E5.re O9) w5 (cl.args.map a3.eval).toList c1 c2 c3 (by simp [s1]) C2N .returning
       have B97:LeavesInM Fence.wide 0 C.P fn a5.tmps (kI E w s q) a5.defers .returning w5:=by
        rw [hd5];refine ⟨by simp, .inr ⟨fun h=>by simp [Fence.wide] at h, .func fg,#[],fg,cl.args.map a3.eval,rfl, ?_,fun _ _=>trivial, ?_⟩⟩
        ·simp only [invoke,Array.append_empty]
         exact U_ hgo _ _
        ·rw [Array.toArray_toList] at B4d
         refine B4d.mono ?_;rintro e u' w6 ⟨rfl,ho6,v6,E6,rfl,P6,f6,n6,o6,-⟩;obtain ⟨E7,R7,P7⟩:=B3A z2 P6 f6 n6 o6;obtain ⟨-,-,fin⟩:=pU (E:=E) (E':=E7) (a':=a5) (w:=w) y2;obtain ⟨v,x1,x2⟩:=fin w6 R7 ((h3.trans k3).trans (l3.trans (z3.trans P7))) ((h4.trans k4).trans (l4.trans (z4.trans ho6)));exact ⟨v,x1,x2⟩
       rcases WG with rfl | rfl <;> exact B97
      ·cases m1
     ·cases m1
  ·rw [g1] at e1
   simp only [RV] at e1;refine wpIn_cond_false e1 (wpIn_skip (Jn hm hO p.post (.inl rfl) g2 (h2.clean _ p.post) fun out E2 st2 a2 w2 k1 k0 k2 k3 k4 => ?_))
   exact zX k1 ((k0.plain plp).trans hd1) k2 (h3.trans k3) (h4.trans k4)
end
structure A3q (C:X4):Prop where
 mixed:C.P.follows .mixedOrders=true
 go:∀ (f:Nat) fn,C.P.funcs[f]?=some fn->fn.name ≠ "runtime.NumGoroutine"
 Yj:∀ f p,C.Yj f=some p->∀ fn c,C.P.funcs[f]?=some fn->fn.body=some c->A3r C.P c p
 clone:∀ f,C.clone f=true->isGo C.P f=true/\aC C.P f (C.kU f)
 iL:∀ f g,C.iL f=some g->isGo C.P f=true/\B5n C.P f g (C.kU f)
 iter:∀ g it,C.iter g=some it->isGo C.P g=true/\A8c C.P g it
 jI:∀ f p,C.jI f=some p->∀ fn c,C.P.funcs[f]?=some fn->fn.body=some c->B3l c p:=by exact fun f p h=>by cases h
 dfn:∀ f,C.dfn f=true->C.jI f=none/\∀ fn c,C.P.funcs[f]?=some fn->fn.body=some c->P8 c=true:=by exact fun f h=>by cases h
variable {C:X4}
theorem A0C (hC:A3q C) {f:Nat} {fn:Func} {c:Code} (hf:C.P.funcs[f]?=some fn) (hb:fn.body=some c):isGo C.P f=true:=by
 unfold isGo;rw [hf];simp [hC.go f fn hf,hb]
theorem step_ok {R:O4} (hC:A3q C) (hO:C_ C R):C_ C (CE C R):=by
 refine ⟨fun f ds d H => ?_,fun f rs sg q H => ?_,hC.clone,hC.iL,hC.iter,fun f rs sg q hd H => ?_⟩
 ·simp only [CE] at H
  obtain ⟨fn,hf,H⟩:=A9 H;obtain ⟨c,hb,H⟩:=A9 H;exact ⟨A0C hC hf hb,pure_ok hC.mixed hO hf hb (fun p hp=>hC.Yj f p hp fn c hf hb) H⟩
 ·simp only [CE] at H
  obtain ⟨s,hs,H⟩:=A9 H;obtain ⟨fn,hf,H⟩:=A9 H;obtain ⟨c,hb,H⟩:=A9 H;cases hp:C.jI f with
  | none =>
    rw [hp] at H;exact ⟨s,hs,A0C hC hf hb,C0I hC.mixed hO hf hb H⟩
  | some p =>
    rw [hp] at H;exact ⟨s,hs,A0C hC hf hb,B2M hC.mixed hO hf hb (hC.jI f p hp fn c hf hb) H⟩
 ·simp only [CE] at H
  obtain ⟨s,hs,H⟩:=A9 H;obtain ⟨fn,hf,H⟩:=A9 H;obtain ⟨c,hb,H⟩:=A9 H;obtain ⟨h1,h2⟩:=hC.dfn f hd;rw [h1] at H;exact ⟨s,hs,A0C hC hf hb,B8x hC.mixed hO hf hb (h2 fn c hf hb) H⟩
theorem A0I {C:X4} (hC:A3q C):∀ n,C_ C (Kk C n)
 | 0=>⟨fun f ds d H=>by simp [Kk] at H,fun f rs sg q H=>by simp [Kk] at H,hC.clone,hC.iL,hC.iter,fun f rs sg q _ H=>by simp [Kk] at H⟩
 | n+1=>step_ok hC (A0I hC n)
theorem C0O (hC:A3q C):C_ C (run C):=by
 have hr:∀ f rs sg q,(run C).r f rs sg=some q->∃ n,(Kk C n).r f rs sg=some q:=fun f rs sg q H=>by
  simp only [run] at H
  split at H
  ·rename_i h
   simp only [Option.some.injEq] at H;obtain ⟨n,hn⟩:=h.choose_spec;rw [H] at hn;exact ⟨n,hn⟩
  ·cases H
 refine ⟨fun f ds d H => ?_,fun f rs sg q H => ?_,hC.clone,hC.iL,hC.iter,fun f rs sg q hd H => ?_⟩
 ·simp only [run] at H
  split at H
  ·rename_i h
   simp only [Option.some.injEq] at H;obtain ⟨n,hn⟩:=h.choose_spec;rw [H] at hn;exact (A0I hC n).p f ds d hn
  ·cases H
 ·obtain ⟨n,hn⟩:=hr f rs sg q H
  exact (A0I hC n).r f rs sg q hn
 ·obtain ⟨n,hn⟩:=hr f rs sg q H
  exact (A0I hC n).d f rs sg q hd hn
end Go.Su

/-
 THE DATA MACHINE, part 28: more is known of the functions that are called: more comes out.
-/
namespace Go.Su
structure L_ (R R':O4):Prop where
 p:∀ f ds d,R.p f ds=some d->R'.p f ds=some d
 r:∀ f rs sg q,R.r f rs sg=some q->R'.r f rs sg=some q
theorem L_.refl (R:O4):L_ R R:=⟨fun _ _ _ h=>h,fun _ _ _ _ h=>h⟩
theorem L_.trans {R S T:O4} (a:L_ R S) (b:L_ S T):L_ R T:=⟨fun f ds d h=>b.p f ds d (a.p f ds d h),fun f rs sg q h=>b.r f rs sg q (a.r f rs sg q h)⟩
section
variable {C:X4} {R:O4} {fl:Flags} {o:Oper} {st s:St}
theorem A6C (H:I7 C R fl o st some=some s):(∀ R':O4,I7 C R' fl o st some=some s) \/
 (∃ f ds d,R.p f ds=some d/\∀ R':O4,R'.p f ds=some d->I7 C R' fl o st some=some s) \/
 (∃ f rs sg q,R.r f rs sg=some q/\∀ R':O4,R'.r f rs sg=some q->I7 C R' fl o st some=some s):=by
 have H0:=H;unfold I7 at H
 split at H
 case h_24 c D9 =>
  unfold FL at H
  split at H
  ·rename_i b hb
   refine .inl fun R' => ?_
   rw [<- H0];simp only [I7,D9,FL,hb]
  ·rename_i y hy
   obtain ⟨r,h1,H⟩:=A9 H;obtain ⟨rs,h2,H⟩:=A9 H
   split at H
   ·rename_i g caps hm
    have Fz:∀ R':O4,I7 C R' fl o st some=JI C R' o g c.args.toList (rs++caps.map fun m=>(.undef, .ptr m.1 m.2)) st some:=by
     intro R';simp only [I7,D9,FL,hy,h1,h2,K3,hm]
    generalize rs++caps.map (fun m=>((.undef, .ptr m.1 m.2):DV × Meta))=rs' at H Fz
    by_cases Ul:C.clone g=true
    ·refine .inl fun R' => ?_
     rw [<- H0,Fz,Fz];simp only [JI,if_pos Ul]
    ·unfold JI at H
     rw [if_neg Ul] at H;cases uR:C.iL g with
     | some g' =>
       refine .inl fun R' => ?_
       rw [<- H0,Fz,Fz];simp only [JI,if_neg Ul,uR]
     | none =>
     rw [uR] at H;simp only at H
     split at H
     ·rename_i hs
      obtain ⟨h3,H⟩:=F4 H;obtain ⟨d,h4,H⟩:=A9 H;refine .inr (.inl ⟨g,_,d,h4,fun R' h => ?_⟩)
      rw [Fz];simp only [JI,if_neg Ul,uR,hs,h3,S9,h,K3];exact H
     ·rename_i sg hs
      obtain ⟨h3,H⟩:=F4 H;obtain ⟨q,h4,H⟩:=A9 H;refine .inr (.inr ⟨g,_,_,q,h4,fun R' h => ?_⟩)
      rw [Fz];simp only [JI,if_neg Ul,uR,hs,h3,S9,h,K3];exact H
   ·simp at H
  ·simp at H
 all_goals first
  | (simp at H;done)
  | (rename_i D9
     refine .inl fun R' => ?_
     rw [<- H0];simp only [I7,D9])
theorem A6D {R':O4} (hR:L_ R R') (H:I7 C R fl o st some=some s):I7 C R' fl o st some=some s:=by
 rcases A6C H with h | ⟨f,ds,d,h1,h2⟩ | ⟨f,rs,sg,q,h1,h2⟩
 ·exact h R'
 ·exact h2 R' (hR.p _ _ _ h1)
 ·exact h2 R' (hR.r _ _ _ _ h1)
structure jv (Rs:Nat->O4) (R:O4):Prop where
 up:∀ n,L_ (Rs n) (Rs (n+1))
 p:∀ f ds d,R.p f ds=some d->∃ n,(Rs n).p f ds=some d
 r:∀ f rs sg q,R.r f rs sg=some q->∃ n,(Rs n).r f rs sg=some q
theorem jv.le {Rs:Nat->O4} (L:jv Rs R) {n m:Nat} (h:n<=m):L_ (Rs n) (Rs m):=by
 induction m with
 | zero=>rw [zKq.1 h];exact L_.refl _
 | succ m ih =>
   rcases zrq m n with h1 | h1
   ·rw [show n=m+1 by omega];exact L_.refl _
   ·exact (ih h1).trans (L.up m)
theorem A8A {Rs:Nat->O4} (L:jv Rs R) (H:I7 C R fl o st some=some s):∃ n,I7 C (Rs n) fl o st some=some s:=by
 rcases A6C H with h | ⟨f,ds,d,h1,h2⟩ | ⟨f,rs,sg,q,h1,h2⟩
 ·exact ⟨0,h _⟩
 ·obtain ⟨n,hn⟩:=L.p _ _ _ h1;exact ⟨n,h2 _ hn⟩
 ·obtain ⟨n,hn⟩:=L.r _ _ _ _ h1;exact ⟨n,h2 _ hn⟩
variable {ops:List Oper}
theorem Y2.mono {R':O4} {s1:St} (hR:L_ R R') (H:Y2 C R fl ops o s s1):Y2 C R' fl ops o s s1:=by
 unfold Y2 at H ⊢
 split at H
 ·exact A6D hR H
 ·obtain ⟨t,h1,h2,h3⟩:=H
  exact ⟨t,h1,h2,h3.imp (fun h=>⟨h.1,A6D hR h.2⟩) id⟩
theorem Y2.lim {Rs:Nat->O4} {s1:St} (L:jv Rs R) (H:Y2 C R fl ops o s s1):∃ n,Y2 C (Rs n) fl ops o s s1:=by
 unfold Y2 at H ⊢
 split at H
 ·exact A8A L H
 ·obtain ⟨t,h1,h2,h3⟩:=H
  rcases h3 with ⟨h3,h4⟩ | h3
  ·obtain ⟨n,hn⟩:=A8A L h4
   exact ⟨n,t,h1,h2, .inl ⟨h3,hn⟩⟩
  ·exact ⟨0,t,h1,h2, .inr h3⟩
end
end Go.Su

/-
 THE DATA MACHINE, part 29: regions and code, when more is known.
-/
namespace Go.Su
section
variable {X:Type} {C:X4} {R:O4} {fl:Flags} {o:Oper} {st s:St} {ops:List Oper} {s1:St}
theorem A0w (H:I7 C R fl o st some=some s1) (k:St->Option X):I7 C R fl o st k=k s1:=by
 obtain ⟨s,h1,h2⟩:=SE H;simp only [Option.some.injEq] at h1;subst h1;exact h2 X k
variable {os:List Oper}
theorem B5K (H:Y2 C R fl ops o st s1) (k:St->Option X):Bt C R fl ops (o::os) st k=Bt C R fl ops os s1 k:=by
 simp only [Bt,Ui];unfold Y2 at H
 split at H
 ·rename_i hg
  simp only [hg];exact A0w H _
 ·rename_i g want hg
  obtain ⟨t,h1,h2,h3⟩:=H;simp only [hg,h1,K3,h2,S9];rcases h3 with ⟨h3,h4⟩ | ⟨h3,h4⟩
  ·rw [h3]
   cases want <;> simp only [I1,if_true,ziq,if_false] <;> rw [FB h3 (by simp)] <;> exact A0w h4 _
  ·subst h4
   cases want <;> simp only [ymq,yjq] at h3 <;> rcases h3 with h3 | h3 <;> simp only [h3,I1,if_true,ziq,if_false] <;> rw [FB h3 (by simp)]
theorem B32 {bf:List (List Nat)} {i:Nat} {acc:List (Nat × Fp)} (H:Y2 C R fl ops o st s1) (k:St->Option X) :
 Co C R fl ops bf (o::os) i acc st k=og (Iy bf i acc ((CF C fl ops o st).Aq st s1)) (Co C R fl ops bf os (i+1) ((i,(CF C fl ops o st).Aq st s1)::acc) s1 k):=by
 have H0:=H;simp only [Co,Ui,A4E];unfold Y2 at H
 split at H
 ·rename_i hg
  simp only [hg];rw [A0w H,A8N hg];rfl
 ·rename_i g want hg
  obtain ⟨t,h1,h2,h3⟩:=H;rw [A8O hg h1];simp only [hg,h1,K3,h2,S9];rcases h3 with ⟨h3,h4⟩ | ⟨h3,h4⟩
  ·rw [if_pos (aF.2 h3)]
   rw [h3];cases want <;> simp only [I1,if_true,ziq,if_false,kY] <;> rw [FB h3 (by simp),A0w h4] <;> rfl
  ·have hB:¬ (uV want (st.get t).1=true):=by
    rw [aF];rcases h3 with h | h <;> rw [h] <;> cases want <;> simp
   rw [if_neg hB];subst h4;cases want <;> simp only [ymq,yjq] at h3 <;> rcases h3 with h3 | h3 <;> simp only [h3,I1,if_true,ziq,if_false,Ve] <;> rw [FB h3 (by simp)] <;> rfl
end
end Go.Su

/-
 THE DATA MACHINE, part 30: the code's answers are limits; the program's functions are what one step makes of them.
-/
namespace Go.Su
section
variable {X:Type} {C:X4} {fl:Flags}
def DZ (p:Nat->Prop):Prop:=∃ n,∀ m,n<=m->p m
theorem DZ.mono {p q:Nat->Prop} (h:DZ p) (f:∀ m,p m->q m):DZ q:=h.imp fun _ h m hm=>f m (h m hm)
theorem DZ.and {p q:Nat->Prop} (h:DZ p) (h':DZ q):DZ fun m=>p m/\q m:=by
 obtain ⟨n,hn⟩:=h;obtain ⟨k,hk⟩:=h';exact ⟨n+k,fun m hm=>⟨hn m (by omega),hk m (by omega)⟩⟩
theorem DZ.all {p:Nat->Prop} (h:∀ m,p m):DZ p:=⟨0,fun m _=>h m⟩
theorem xU {R:O4} {Rs:Nat->O4} (L:jv Rs R) {ops:List Oper} {k:St->Option X} {ks:Nat->St->Option X} (hk:∀ st x,k st=some x->DZ fun m=>ks m st=some x) :
 ∀ {os:List Oper} {st:St} {x:X},Bt C R fl ops os st k=some x->DZ fun m=>Bt C (Rs m) fl ops os st (ks m)=some x
 | [],st,x,H=>by
   simp only [Bt] at H ⊢;exact hk st x H
 | o::os,st,x,H=>by
   obtain ⟨s1,h1,h2⟩:=oI H;obtain ⟨n,hn⟩:=h1.lim L;refine (DZ.and ⟨n,fun m hm=>hn.mono (L.le hm)⟩ (xU L hk h2)).mono fun m h => ?_
   rw [B5K h.1];exact h.2
theorem A4s {R:O4} {Rs:Nat->O4} (L:jv Rs R) {ops:List Oper} {bf:List (List Nat)} {k:St->Option X} {ks:Nat->St->Option X} (hk:∀ st x,k st=some x->DZ fun m=>ks m st=some x) :
 ∀ {os:List Oper} {i:Nat} {acc:List (Nat × Fp)} {st:St} {x:X},Co C R fl ops bf os i acc st k=some x->DZ fun m=>Co C (Rs m) fl ops bf os i acc st (ks m)=some x
 | [],i,acc,st,x,H=>by
   simp only [Co] at H ⊢;exact hk st x H
 | o::os,i,acc,st,x,H=>by
   obtain ⟨s1,h1,h2,h3⟩:=A13 H;obtain ⟨n,hn⟩:=h1.lim L;refine (DZ.and ⟨n,fun m hm=>hn.mono (L.le hm)⟩ (A4s L hk h3)).mono fun m h => ?_
   rw [B32 h.1,h2];exact h.2
theorem B0m {X:Type} {fl:Flags} {id:Nat} {st:St} {k:St->Option X} {x:X} (H:GQ fl id st k=some x):∃ s,k s=some x/\∀ (Y:Type) (k':St->Option Y),GQ fl id st k'=k' s:=by
 unfold GQ at H
 split at H
 ·rename_i e he
  unfold aD at H
  split at H
  ·rename_i i sz len hm
   obtain ⟨q,h1,H⟩:=A9 H;obtain ⟨d,h2,H⟩:=A9 H;exact ⟨_,H,fun Y k'=>by simp only [GQ,he,aD,hm,h1,h2,K3]⟩
  ·rename_i b off hm
   obtain ⟨cs,h1,H⟩:=A9 H;obtain ⟨a,h2,H⟩:=A9 H;obtain ⟨q,h3,H⟩:=A9 H;obtain ⟨d,h4,H⟩:=A9 H;exact ⟨_,H,fun Y k'=>by simp only [GQ,he,aD,hm,h1,h2,h3,h4,K3]⟩
  ·cases H
 ·rename_i he
  exact ⟨st,H,fun Y k'=>by simp only [GQ,he]⟩
theorem A1u {X:Type} {fl:Flags} {id:Nat} {k:St->Option X} {ks:Nat->St->Option X} (hk:∀ st x,k st=some x->DZ fun m=>ks m st=some x) (st:St) (x:X) (H:GQ fl id st k=some x):DZ fun m=>GQ fl id st (ks m)=some x:=by
 obtain ⟨s,h1,h2⟩:=B0m H;exact (hk s x h1).mono fun m h=>by rw [h2];exact h
theorem PG:∀ (c:Code) {R:O4} {Rs:Nat->O4} {K:Out->St->Option X} {Ks:Nat->Out->St->Option X} {st:St} {x:X},jv Rs R ->
 (∀ o st x,K o st=some x->DZ fun m=>Ks m o st=some x)->R8 C R fl c K st=some x->DZ fun m=>R8 C (Rs m) fl c (Ks m) st=some x:=by
 intro c
 induction c with
 | skip =>
   intro R Rs K Ks st x L hK H;simp only [R8] at H ⊢;exact hK _ _ _ H
 | scope c ih =>
   intro R Rs K Ks st x L hK H;simp only [R8] at H ⊢;exact ih L hK H
 | label l =>
   intro R Rs K Ks st x L hK H;simp only [R8] at H ⊢;exact hK _ _ _ H
 | region id ops d =>
   intro R Rs K Ks st x L hK H;cases d
   ·simp only [R8] at H ⊢
    exact xU L (A1u (hK .normal)) H
   ·simp only [R8,jV] at H ⊢
    obtain ⟨h1,H⟩:=F4 H;simp only [h1,S9];exact A4s L (A1u (hK .normal)) H
 | seq c d ihc ihd =>
   intro R Rs K Ks st x L hK H;simp only [R8] at H ⊢;refine ihc L ?_ H;intro o s y h;cases o with
   | normal=>exact ihd L hK h
   | exit i=>exact hK _ _ _ h
   | ret=>exact hK _ _ _ h
 | cond y c d ihc ihd =>
   intro R Rs K Ks st x L hK H;simp only [R8,bV] at H ⊢;obtain ⟨r,h1,H⟩:=A9 H;obtain ⟨h2,H⟩:=F4 H;simp only [h1,K3,h2,S9];cases y with
   | tmp t =>
     simp only at H ⊢;rcases OP H with ⟨h3,h4⟩ | ⟨h3,h4⟩ <;> rw [h3]
     ·exact ihc L hK h4
     ·exact ihd L hK h4
   | _ =>
     rcases OP H with ⟨h3,h4⟩ | ⟨h3,h4⟩ <;> rw [h3]
     ·exact ihc L hK h4
     ·exact ihd L hK h4
 | block id c ih =>
   intro R Rs K Ks st x L hK H;simp only [R8] at H ⊢;refine ih L ?_ H;intro o s y h;cases o with
   | normal=>exact hK _ _ _ h
   | exit i =>
     simp only at h ⊢
     by_cases hi:i=id
     ·simp only [if_pos hi] at h ⊢;exact hK _ _ _ h
     ·simp only [if_neg hi] at h ⊢;exact hK _ _ _ h
   | ret=>exact hK _ _ _ h
 | loop c ih =>
   intro R Rs K Ks st x L hK H;simp only [R8] at H ⊢;obtain ⟨n,H9⟩:=Zm H;clear H;have up:∀ m,DZ (fun m'=>iter (fun J st=>R8 C (Rs m) fl c (fun o st=>match o with
    | .normal=>J (clean fl c st)
    | .exit i=>Ks m (.exit i) st
    | .ret=>Ks m .ret st) st) m' (clean fl c st)=some x)->Ha (fun J st=>R8 C (Rs m) fl c (fun o st=>match o with
    | .normal=>J (clean fl c st)
    | .exit i=>Ks m (.exit i) st
    | .ret=>Ks m .ret st) st) (clean fl c st)=some x:=by
    intro m h;generalize clean fl c st=st9 at h ⊢;have mono:∀ k s y,iter (fun J st=>R8 C (Rs m) fl c (fun o st=>match o with
     | .normal=>J (clean fl c st)
     | .exit i=>Ks m (.exit i) st
     | .ret=>Ks m .ret st) st) k s=some y->iter (fun J st=>R8 C (Rs m) fl c (fun o st=>match o with
     | .normal=>J (clean fl c st)
     | .exit i=>Ks m (.exit i) st
     | .ret=>Ks m .ret st) st) (k+1) s=some y:=by
     intro k
     induction k with
     | zero=>intro s y h;simp [iter] at h
     | succ k ihk =>
       intro s y h;rw [iter] at h ⊢;have:=ih (R:=Rs m) (Rs:=fun _=>Rs m) (Ks:=fun _ o st=>match o with
        | .normal=>iter (fun J st=>R8 C (Rs m) fl c (fun o st=>match o with
     | .normal=>J (clean fl c st)
     | .exit i=>Ks m (.exit i) st
     | .ret=>Ks m .ret st) st) (k+1) (clean fl c st)
        | .exit i=>Ks m (.exit i) st
        | .ret=>Ks m .ret st) ⟨fun _=>L_.refl _,fun _ _ _ h=>⟨0,h⟩,fun _ _ _ _ h=>⟨0,h⟩⟩ ?_ h
       ·obtain ⟨n,hn⟩:=this
        exact hn n (zbq _)
       ·intro o s y h
        refine DZ.all fun _ => ?_
        cases o with
        | normal=>exact ihk _ _ h
        | exit i=>exact h
        | ret=>exact h
    obtain ⟨k,hk⟩:=h;unfold Ha;have he:∃ x n,iter (fun J st=>R8 C (Rs m) fl c (fun o st=>match o with
     | .normal=>J (clean fl c st)
     | .exit i=>Ks m (.exit i) st
     | .ret=>Ks m .ret st) st) n st9=some x:=⟨x,k,hk k (zbq _)⟩
    rw [dif_pos he];obtain ⟨j,hj⟩:=he.choose_spec;have le:∀ a b s y,a<=b->iter (fun J st=>R8 C (Rs m) fl c (fun o st=>match o with
     | .normal=>J (clean fl c st)
     | .exit i=>Ks m (.exit i) st
     | .ret=>Ks m .ret st) st) a s=some y->iter (fun J st=>R8 C (Rs m) fl c (fun o st=>match o with
     | .normal=>J (clean fl c st)
     | .exit i=>Ks m (.exit i) st
     | .ret=>Ks m .ret st) st) b s=some y:=by
     intro a b s y Cy h
     induction b with
     | zero=>rw [zKq.1 Cy] at h;exact h
     | succ b ihb =>
       rcases zrq b a with h1 | h1
       ·rw [show b+1=a by omega];exact h
       ·exact mono _ _ _ (ihb h1)
    have h1:=le j (j+k) _ _ (by omega) hj
    have h2:=le k (j+k) _ _ (by omega) (hk k (zbq _))
    rw [h1] at h2;exact h2
   have main:DZ fun m=>DZ fun m'=>iter (fun J st=>R8 C (Rs m) fl c (fun o st=>match o with
    | .normal=>J (clean fl c st)
    | .exit i=>Ks m (.exit i) st
    | .ret=>Ks m .ret st) st) m' (clean fl c st)=some x:=by
    have lim:∀ k s y,iter (fun J st=>R8 C R fl c (fun o st=>match o with
     | .normal=>J (clean fl c st)
     | .exit i=>K (.exit i) st
     | .ret=>K .ret st) st) k s=some y->DZ fun m=>iter (fun J st=>R8 C (Rs m) fl c (fun o st=>match o with
     | .normal=>J (clean fl c st)
     | .exit i=>Ks m (.exit i) st
     | .ret=>Ks m .ret st) st) k s=some y:=by
     intro k
     induction k with
     | zero=>intro s y h;simp [iter] at h
     | succ k ihk =>
       intro s y h;simp only [iter] at h ⊢;refine ih L ?_ h;intro o s y h;cases o with
       | normal=>exact ihk _ _ h
       | exit i=>exact hK _ _ _ h
       | ret=>exact hK _ _ _ h
    obtain ⟨k,hk⟩:=lim n _ _ H9;refine ⟨k,fun m hm=>⟨n,fun m' Ps => ?_⟩⟩
    have h0:=hk m hm;have mono:∀ k s y,iter (fun J st=>R8 C (Rs m) fl c (fun o st=>match o with
     | .normal=>J (clean fl c st)
     | .exit i=>Ks m (.exit i) st
     | .ret=>Ks m .ret st) st) k s=some y->iter (fun J st=>R8 C (Rs m) fl c (fun o st=>match o with
     | .normal=>J (clean fl c st)
     | .exit i=>Ks m (.exit i) st
     | .ret=>Ks m .ret st) st) (k+1) s=some y:=by
     intro k
     induction k with
     | zero=>intro s y h;simp [iter] at h
     | succ k ihk =>
       intro s y h;rw [iter] at h ⊢;have:=ih (R:=Rs m) (Rs:=fun _=>Rs m) (Ks:=fun _ o st=>match o with
        | .normal=>iter (fun J st=>R8 C (Rs m) fl c (fun o st=>match o with
     | .normal=>J (clean fl c st)
     | .exit i=>Ks m (.exit i) st
     | .ret=>Ks m .ret st) st) (k+1) (clean fl c st)
        | .exit i=>Ks m (.exit i) st
        | .ret=>Ks m .ret st) ⟨fun _=>L_.refl _,fun _ _ _ h=>⟨0,h⟩,fun _ _ _ _ h=>⟨0,h⟩⟩ ?_ h
       ·obtain ⟨n,hn⟩:=this
        exact hn n (zbq _)
       ·intro o s y h
        refine DZ.all fun _ => ?_
        cases o with
        | normal=>exact ihk _ _ h
        | exit i=>exact h
        | ret=>exact h
    induction m' with
    | zero=>rw [zKq.1 Ps] at h0;exact h0
    | succ b ihb =>
      rcases zrq b n with h1 | h1
      ·rw [show b+1=n by omega];exact h0
      ·exact mono _ _ _ (ihb h1)
   exact main.mono up
 | rangeFunc g ps assign body iha ihb =>
   intro R Rs K Ks st x L hK H;simp only [R8] at H ⊢;have H9:=A4t H;clear H;obtain ⟨t,p,f,i,it,cs,cd,ds,rfl,h1,h2,h3,h4,h5,h6,h7,H⟩:=H9;simp only [h7,B5I h1 h2 h3 h4 h5 h6];clear h6;generalize st.sg.set i (.arr 1 [])=sg at H
   induction ds generalizing sg x with
   | nil=>exact hK _ _ _ H
   | cons d ds ih =>
     simp only [MM] at H ⊢;refine iha L ?_ H;intro o s y h;cases o with
     | exit e=>cases h
     | ret=>cases h
     | normal =>
       refine ihb L ?_ h;intro o s y h;cases o with
       | normal=>exact ih _ h
       | exit e=>exact hK _ _ _ h
       | ret=>exact hK _ _ _ h
 | exit id =>
   intro R Rs K Ks st x L hK H;simp only [R8] at H ⊢;exact hK _ _ _ H
 | ret =>
   intro R Rs K Ks st x L hK H;simp only [R8] at H ⊢;exact hK _ _ _ H
 | _ =>
   intro R Rs K Ks st x L hK H;simp [R8] at H
variable {R:O4}
theorem jv.B7e {Rs:Nat->O4} (L:jv Rs R) {f:FuncId} {rs:List (DV × Meta)} {sg:List D8} {q:List DV × List D8} (h:R.r f rs sg=some q):DZ fun m=>(Rs m).r f rs sg=some q:=by
 obtain ⟨n,hn⟩:=L.r f rs sg q h;exact ⟨n,fun m hm=>(L.le hm).r _ _ _ _ hn⟩
theorem B3Z {X:Type} {fl:Flags} {Rs:Nat->O4} (L:jv Rs R) {p:A5x} {K:Out->St->Option X} {Ks:Nat->Out->St->Option X} {D:FuncId × List (DV × Meta)->Out->St->Option X} {Ds:Nat->FuncId × List (DV × Meta)->Out->St->Option X} (hK:∀ o st x,K o st=some x->DZ fun m=>Ks m o st=some x) (hD:∀ q o st x,D q o st=some x->DZ fun m=>Ds m q o st=some x) {o:Out} {st:St} {x:X} (H:gB C R fl p K D o st=some x) :
 DZ fun m=>gB C (Rs m) fl p (Ks m) (Ds m) o st=some x:=by
 cases o with
 | exit i=>simp [gB] at H
 | ret=>exact hK _ _ _ H
 | normal =>
   simp only [gB,bV] at H ⊢;obtain ⟨r,h1,H⟩:=A9 H;obtain ⟨h2,H⟩:=F4 H;simp only [h1,K3,h2,S9];have A:∀ st x,R8 C R fl p.a (fun o st=>match o with
    | .normal=>Bt C R fl (p.ops++[p.gD]) p.ops (Gu fl p.id st) fun st=>ob (kX C p.gD st) fun q=>R8 C R fl p.post (D q) (clean fl p.post st)
    | .exit _=>none
    | .ret=>K .ret st) (clean fl p.a st)=some x->DZ fun m=>R8 C (Rs m) fl p.a (fun o st=>match o with
    | .normal=>Bt C (Rs m) fl (p.ops++[p.gD]) p.ops (Gu fl p.id st) fun st=>ob (kX C p.gD st) fun q=>R8 C (Rs m) fl p.post (Ds m q) (clean fl p.post st)
    | .exit _=>none
    | .ret=>Ks m .ret st) (clean fl p.a st)=some x:=by
    intro st x H;refine PG p.a L (fun o st x h => ?_) H
    cases o with
    | exit i=>cases h
    | ret=>exact hK _ _ _ h
    | normal =>
      refine xU L (fun st x h => ?_) h
      obtain ⟨q,k1,k2⟩:=A9 h;simp only [k1,K3];exact PG p.post L (hD q) k2
   have B:∀ st x,R8 C R fl p.post K (clean fl p.post st)=some x->DZ fun m=>R8 C (Rs m) fl p.post (Ks m) (clean fl p.post st)=some x:=fun st x H=>PG p.post L hK H
   cases hy:p.c with
   | tmp t =>
     rw [hy] at H;simp only at H ⊢;rcases OP H with ⟨h3,h4⟩ | ⟨h3,h4⟩
     ·exact (A _ _ h4).mono fun m hm=>by rw [h3];exact hm
     ·exact (B _ _ h4).mono fun m hm=>by rw [h3];exact hm
   | _ =>
     rw [hy] at H;simp only at H ⊢;rcases OP H with ⟨h3,h4⟩ | ⟨h3,h4⟩
     ·exact (A _ _ h4).mono fun m hm=>by rw [h3];exact hm
     ·exact (B _ _ h4).mono fun m hm=>by rw [h3];exact hm
theorem qF {Rs:Nat->O4} (L:jv Rs R):(∀ f ds d,(CE C R).p f ds=some d->DZ fun m=>(CE C (Rs m)).p f ds=some d) /\
 (∀ f rs sg q,(CE C R).r f rs sg=some q->DZ fun m=>(CE C (Rs m)).r f rs sg=some q):=by
 constructor
 ·intro f ds d H
  simp only [CE] at H ⊢;obtain ⟨fn,h1,H⟩:=A9 H;obtain ⟨c,h2,H⟩:=A9 H;simp only [h1,K3,h2];cases hq:C.Yj f with
  | none =>
    rw [hq] at H;exact PG c L (fun o st x h=>DZ.all fun _=>h) H
  | some p =>
    rw [hq] at H;refine PG (CX p.pre .skip) L (fun o st x h => ?_) H
    cases o with
    | exit i=>simp [jE] at h
    | ret=>exact DZ.all fun _=>h
    | normal =>
      simp only [jE] at h ⊢;obtain ⟨st2,k1,k2⟩:=A9 h;simp only [k1,K3];exact PG p.post L (fun o st x h=>DZ.all fun _=>h) k2
 ·intro f rs sg q H
  simp only [CE] at H ⊢;obtain ⟨s,h0,H⟩:=A9 H;obtain ⟨fn,h1,H⟩:=A9 H;obtain ⟨c,h2,H⟩:=A9 H;simp only [h0,h1,K3,h2];cases hq:C.jI f with
  | none =>
    rw [hq] at H;exact PG c L (fun o st x h=>DZ.all fun _=>h) H
  | some p =>
    rw [hq] at H;refine PG (CX (p.pre++[p.r]) .skip) L (fun o st x h => ?_) H
    refine B3Z L (fun o st x h=>DZ.all fun _=>h) (fun g o st x h => ?_) h
    cases o with
    | exit i=>simp [A8s] at h
    | normal =>
      obtain ⟨pq,y1,y2⟩:=A9 h;refine (L.B7e y1).mono fun m hm => ?_
      show ob ((Rs m).r g.1 g.2 st.sg) _=some x
      rw [hm];exact y2
    | ret =>
      obtain ⟨pq,y1,y2⟩:=A9 h;refine (L.B7e y1).mono fun m hm => ?_
      show ob ((Rs m).r g.1 g.2 st.sg) _=some x
      rw [hm];exact y2
theorem A0d {R':O4} (h:L_ R R'):L_ (CE C R) (CE C R'):=by
 have L:jv (fun _=>R') R:=⟨fun _=>L_.refl _,fun _ _ _ k=>⟨0,h.p _ _ _ k⟩,fun _ _ _ _ k=>⟨0,h.r _ _ _ _ k⟩⟩
 constructor
 ·intro f ds d H
  obtain ⟨n,hn⟩:=(qF L).1 f ds d H;exact hn n (zbq _)
 ·intro f rs sg q H
  obtain ⟨n,hn⟩:=(qF L).2 f rs sg q H;exact hn n (zbq _)
theorem B1s (n:Nat):L_ (Kk C n) (Kk C (n+1)):=by
 induction n with
 | zero=>exact ⟨fun _ _ _ h=>by simp [Kk] at h,fun _ _ _ _ h=>by simp [Kk] at h⟩
 | succ n ih=>exact A0d ih
theorem A0H {n m:Nat} (h:n<=m):L_ (Kk C n) (Kk C m):=by
 induction m with
 | zero=>rw [zKq.1 h];exact L_.refl _
 | succ m ih =>
   rcases zrq m n with h1 | h1
   ·rw [show n=m+1 by omega];exact L_.refl _
   ·exact (ih h1).trans (B1s m)
theorem A0N:jv (Kk C) (run C):=by
 refine ⟨B1s,fun f ds d H => ?_,fun f rs sg q H => ?_⟩
 ·simp only [run] at H
  split at H
  ·rename_i h
   simp only [Option.some.injEq] at H;rw [<- H];exact h.choose_spec
  ·cases H
 ·simp only [run] at H
  split at H
  ·rename_i h
   simp only [Option.some.injEq] at H;rw [<- H];exact h.choose_spec
  ·cases H
theorem A0J (n:Nat):L_ (Kk C n) (run C):=by
 constructor
 ·intro f ds d H
  have h:∃ x n,(Kk C n).p f ds=some x:=⟨d,n,H⟩;simp only [run,dif_pos h];obtain ⟨m,hm⟩:=h.choose_spec;have h1:=(A0H (C:=C) (ztq n m)).p _ _ _ H;have h2:=(A0H (C:=C) (zvq m n)).p _ _ _ hm;rw [h1] at h2;exact h2.symm
 ·intro f rs sg q H
  have h:∃ x n,(Kk C n).r f rs sg=some x:=⟨q,n,H⟩;simp only [run,dif_pos h];obtain ⟨m,hm⟩:=h.choose_spec;have h1:=(A0H (C:=C) (ztq n m)).r _ _ _ _ H;have h2:=(A0H (C:=C) (zvq m n)).r _ _ _ _ hm;rw [h1] at h2;exact h2.symm
theorem A3c:L_ (CE C (run C)) (run C):=by
 constructor
 ·intro f ds d H
  obtain ⟨n,hn⟩:=(qF A0N).1 f ds d H;exact (A0J (n+1)).p _ _ _ (hn n (zbq _))
 ·intro f rs sg q H
  obtain ⟨n,hn⟩:=(qF A0N).2 f rs sg q H;exact (A0J (n+1)).r _ _ _ _ (hn n (zbq _))
end
end Go.Su

/-
 THE DATA MACHINE, part 31: places in a code; what a loop's head says of itself.
-/
namespace Go.Su
noncomputable section
section
variable {X:Type} (C:X4) (R:O4) (fl:Flags)
def DU (b:Code) (K:Out->St->Option X):(St->Option X)->St->Option X:=fun J st=>R8 C R fl b (fun o st=>match o with
 | .normal=>J (clean fl b st)
 | .exit i=>K (.exit i) st
 | .ret=>K .ret st) st
theorem B5J (b:Code) (K:Out->St->Option X) (st:St):R8 C R fl (.loop b) K st=Ha (DU C R fl b K) (clean fl b st):=rfl
variable {b:Code} {st:St} {x:X}
theorem A6N {K:Out->St->Option X} {J:St->Option X} {Js:Nat->St->Option X} (hJ:∀ st x,J st=some x->DZ fun m=>Js m st=some x) (H:DU C R fl b K J st=some x):DZ fun m=>DU C R fl b K (Js m) st=some x:=by
 refine PG b (Rs:=fun _=>R) ⟨fun _=>L_.refl _,fun _ _ _ h=>⟨0,h⟩,fun _ _ _ _ h=>⟨0,h⟩⟩ ?_ H
 intro o st x h;cases o with
 | normal=>exact hJ _ _ h
 | exit i=>exact DZ.all fun _=>h
 | ret=>exact DZ.all fun _=>h
theorem A4S {K:Out->St->Option X} {J J':St->Option X} (hJ:∀ st x,J st=some x->J' st=some x) (H:DU C R fl b K J st=some x):DU C R fl b K J' st=some x:=by
 obtain ⟨n,hn⟩:=A6N C R fl (J:=J) (Js:=fun _=>J') (fun st x h=>DZ.all fun _=>hJ st x h) H
 exact hn n (zbq _)
theorem A5O {K:Out->St->Option X}:∀ {n m:Nat} {st:St} {x:X},n<=m->iter (DU C R fl b K) n st=some x->iter (DU C R fl b K) m st=some x:=by
 intro n
 induction n with
 | zero=>intro m st x _ h;simp [iter] at h
 | succ n ih =>
   intro m st x hm h;obtain ⟨m',rfl⟩:∃ m',m=m'+1:=⟨m-1,by omega⟩
   simp only [iter] at h ⊢;exact A4S C R fl (fun st x h=>ih (by omega) h) h
theorem uX {K:Out->St->Option X} {n:Nat} (h:iter (DU C R fl b K) n st=some x):Ha (DU C R fl b K) st=some x:=by
 have he:∃ x n,iter (DU C R fl b K) n st=some x:=⟨x,n,h⟩;unfold Ha;rw [dif_pos he];obtain ⟨j,hj⟩:=he.choose_spec;have h1:=A5O C R fl (ztq j n) hj;have h2:=A5O C R fl (zvq n j) h;rw [h1] at h2;exact h2
theorem B6f (b:Code) (K:Out->St->Option X) (st:St):Ha (DU C R fl b K) st=DU C R fl b K (Ha (DU C R fl b K)) st:=by
 have h1:∀ x,Ha (DU C R fl b K) st=some x->DU C R fl b K (Ha (DU C R fl b K)) st=some x:=by
  intro x h;obtain ⟨n,hn⟩:=Zm h;cases n with
  | zero=>simp [iter] at hn
  | succ n=>exact A4S C R fl (fun st x h=>uX C R fl h) hn
 have h2:∀ x,DU C R fl b K (Ha (DU C R fl b K)) st=some x->Ha (DU C R fl b K) st=some x:=by
  intro x h;obtain ⟨n,hn⟩:=A6N C R fl (J:=Ha (DU C R fl b K)) (Js:=iter (DU C R fl b K)) (fun st x h=>by
   obtain ⟨n,hn⟩:=Zm h;exact ⟨n,fun m hm=>A5O C R fl hm hn⟩) h
  exact uX C R fl (n:=n+1) (hn n (zbq _))
 cases h:Ha (DU C R fl b K) st with
 | some x=>exact (h1 x h).symm
 | none =>
   cases h':DU C R fl b K (Ha (DU C R fl b K)) st with
   | none=>rfl
   | some x=>rw [h2 x h'] at h;exact h.symm
inductive Wait where
 | seq (b:Code)
 | blk (id:Nat)
 | lp (b:Code)
variable (K0:Out->St->Option X)
def Y5:List Wait->Out->St->Option X
 | []=>K0
 | .seq b::ks=>fun o st=>match o with
   | .normal=>R8 C R fl b (Y5 ks) (clean fl b st)
   | .exit i=>Y5 ks (.exit i) st
   | .ret=>Y5 ks .ret st
 | .blk id::ks=>fun o st=>match o with
   | .normal=>Y5 ks .normal st
   | .exit i=>if i=id then Y5 ks .normal st else Y5 ks (.exit i) st
   | .ret=>Y5 ks .ret st
 | .lp b::ks=>fun o st=>match o with
   | .normal=>Ha (DU C R fl b (Y5 ks)) (clean fl b st)
   | .exit i=>Y5 ks (.exit i) st
   | .ret=>Y5 ks .ret st
def OD (c:Code) (ks:List Wait) (st:St):Option X:=R8 C R fl c (Y5 C R fl K0 ks) st
def NV (b:Code) (ks:List Wait) (st:St):Option X:=Ha (DU C R fl b (Y5 C R fl K0 ks)) st
section
variable (J JL:Code->List Wait->St->Option X) (cut:List Nat)
def GA (go:Code->List Wait->St->Option X):List Wait->Out->St->Option X
 | [],o,st=>K0 o st
 | .seq b::ks,o,st=>match o with
   | .normal=>go b ks st
   | .exit i=>GA go ks (.exit i) st
   | .ret=>GA go ks .ret st
 | .blk id::ks,o,st=>match o with
   | .normal=>GA go ks .normal st
   | .exit i=>if i=id then GA go ks .normal st else GA go ks (.exit i) st
   | .ret=>GA go ks .ret st
 | .lp b::ks,o,st=>match o with
   | .normal=>JL b ks (clean fl b st)
   | .exit i=>GA go ks (.exit i) st
   | .ret=>GA go ks .ret st
def cutAt (b:Code):Bool :=
 match mX b with
 | some id=>cut.contains id
 | none=>false
def JZ (ev:Code->List Wait->St->Option X) (b:Code) (ks:List Wait) (st:St):Option X :=
 match cutAt cut b with
 | true=>J b ks (clean fl b st)
 | false=>ev b ks (clean fl b st)
def JO:Nat->Code->List Wait->St->Option X
 | 0,c,ks,st=>J c ks st
 | n+1,c,ks,st =>
   match c with
   | .skip=>GA fl K0 JL (JZ fl J cut (JO n)) ks .normal st
   | .label _=>GA fl K0 JL (JZ fl J cut (JO n)) ks .normal st
   | .scope b=>JO n b ks st
   | .region id ops false=>Bt C R fl ops.toList ops.toList (Gu fl id st) fun st=>GQ fl id st fun st=>GA fl K0 JL (JZ fl J cut (JO n)) ks .normal st
   | .region id ops true=>og (Sq 0 ops.toList) (dN (KU ops.toList []) fun bf=>Co C R fl ops.toList bf ops.toList 0 [] (Gu fl id st) fun st=>GQ fl id st fun st=>GA fl K0 JL (JZ fl J cut (JO n)) ks .normal st)
   | .seq a b=>JO n a (.seq b::ks) st
   | .cond c a b=>bV C.P c st (fun st=>JZ fl J cut (JO n) a ks st) (fun st=>JZ fl J cut (JO n) b ks st)
   | .block id b=>JO n b (.blk id::ks) st
   | .loop b=>JL b ks (clean fl b st)
   | .rangeFunc g ps a b=>J (.rangeFunc g ps a b) ks st
   | .exit id=>GA fl K0 JL (JZ fl J cut (JO n)) ks (.exit id) st
   | .ret=>GA fl K0 JL (JZ fl J cut (JO n)) ks .ret st
   | _=>none
end
theorem PV {go:Code->List Wait->St->Option X} (h:∀ b ks st,go b ks st=R8 C R fl b (Y5 C R fl K0 ks) (clean fl b st)):∀ (ks:List Wait) (o:Out) (st:St),
 GA fl K0 (NV C R fl K0) go ks o st=Y5 C R fl K0 ks o st
 | [],o,st=>rfl
 | .seq b::ks,o,st=>by
   cases o with
   | normal=>simp only [GA,Y5,h]
   | exit i=>simp only [GA,Y5,PV h ks]
   | ret=>simp only [GA,Y5,PV h ks]
 | .blk id::ks,o,st=>by
   cases o with
   | normal=>simp only [GA,Y5,PV h ks]
   | exit i=>simp only [GA,Y5,PV h ks]
   | ret=>simp only [GA,Y5,PV h ks]
 | .lp b::ks,o,st=>by
   cases o with
   | normal=>simp only [GA,Y5,NV]
   | exit i=>simp only [GA,Y5,PV h ks]
   | ret=>simp only [GA,Y5,PV h ks]
theorem A8z (cut:List Nat):∀ (n:Nat) (c:Code) (ks:List Wait) (st:St),JO C R fl K0 (OD C R fl K0) (NV C R fl K0) cut n c ks st=OD C R fl K0 c ks st:=by
 intro n
 induction n with
 | zero=>intro c ks st;rfl
 | succ n ih =>
   intro c ks st;have hs:∀ b ks st,JZ fl (OD C R fl K0) cut (JO C R fl K0 (OD C R fl K0) (NV C R fl K0) cut n) b ks st=R8 C R fl b (Y5 C R fl K0 ks) (clean fl b st):=by
    intro b ks st;unfold JZ
    split
    ·rfl
    ·rw [ih];rfl
   have hp:∀ ks o st,GA fl K0 (NV C R fl K0) (JZ fl (OD C R fl K0) cut (JO C R fl K0 (OD C R fl K0) (NV C R fl K0) cut n)) ks o st=Y5 C R fl K0 ks o st :=
    fun ks o st=>PV C R fl K0 hs ks o st
   cases c with
   | skip=>simp only [JO,OD,R8,hp]
   | label l=>simp only [JO,OD,R8,hp]
   | scope b=>rw [JO,ih];rfl
   | region id ops d=>cases d <;> simp only [JO,OD,R8,hp]
   | seq a b=>rw [JO,ih];rfl
   | cond y a b=>simp only [JO,OD,R8,hs]
   | block id b=>rw [JO,ih];rfl
   | loop b=>simp only [JO,OD,B5J,NV]
   | exit id=>simp only [JO,OD,R8,hp]
   | ret=>simp only [JO,OD,R8,hp]
   | _=>simp only [JO,OD,R8]
def sub:List Bool->Code->List Wait->Code × List Wait
 | [],c,ks=>(c,ks)
 | false::p, .seq a b,ks=>sub p a (.seq b::ks)
 | true::p, .seq _ b,ks=>sub p b ks
 | false::p, .cond _ a _,ks=>sub p a ks
 | true::p, .cond _ _ b,ks=>sub p b ks
 | _::p, .block id b,ks=>sub p b (.blk id::ks)
 | _::p, .loop b,ks=>sub p b (.lp b::ks)
 | _::p, .scope b,ks=>sub p b ks
 | _::_,c,ks=>(c,ks)
def B2v:Code->Code
 | .loop b=>b
 | c=>c
def hide {α : Type} (a : α) : α := Classical.choose (⟨a,rfl⟩:∃ b,b=a)
theorem Ke {α : Type} (a : α):hide a=a:=Classical.choose_spec (⟨a,rfl⟩:∃ b,b=a)
def Qb (p:List Bool) (c:Code) (st:St):Option X:=hide (OD C R fl K0) (sub p c []).1 (sub p c []).2 st
def A74 (p:List Bool) (c:Code) (st:St):Option X:=hide (NV C R fl K0) (B2v (sub p c []).1) (sub p c []).2 st
variable {C R fl K0} {p:List Bool} {c:Code} {r:Option X}
theorem E8 (cut:List Nat) (h:JO C R fl K0 (hide (OD C R fl K0)) (hide (NV C R fl K0)) cut 200 (sub p c []).1 (sub p c []).2 st=r:=by kernel_rfl):Qb C R fl K0 p c st=r:=by
 rw [Ke,Ke,A8z] at h;unfold Qb;rw [Ke];exact h
theorem I5 (cut:List Nat) (h:JO C R fl K0 (hide (OD C R fl K0)) (hide (NV C R fl K0)) cut 200 (B2v (sub p c []).1) (.lp (B2v (sub p c []).1)::(sub p c []).2) st=r:=by kernel_rfl):A74 C R fl K0 p c st=r:=by
 rw [Ke,Ke,A8z] at h;rw [<- h];unfold A74;rw [Ke];unfold NV OD;rw [B6f];rfl
theorem A5G:Qb C R fl K0 [] c st=R8 C R fl c K0 st:=by
 unfold Qb;rw [Ke];rfl
end
section
variable {X:Type} (C:X4) (R:O4) (fl:Flags) (K0:Out->St->Option X)
def zP (p:List Bool) (c:Code) (o:Out) (st:St):Option X:=hide (Y5 C R fl K0) (sub p c []).2 o st
def kr (I:List D8->Option X) (Xf:Out->List D8->Option X):Out->St->Option X:=fun o st=>match o with
 | .normal=>I st.sg
 | .exit e=>Xf (.exit e) st.sg
 | .ret=>Xf .ret st.sg
variable {C R fl K0}
theorem B4W (cut:List Nat) (n:Nat) (b:Code) (ks:List Wait) (st:St):JZ fl (OD C R fl K0) cut (JO C R fl K0 (OD C R fl K0) (NV C R fl K0) cut n) b ks st=R8 C R fl b (Y5 C R fl K0 ks) (clean fl b st):=by
 unfold JZ
 split
 ·rfl
 ·rw [A8z];rfl
variable {p:List Bool} {c:Code} {st:St}
theorem B1n {o:Out} {r:Option X} (cut:List Nat) (h:GA fl K0 (hide (NV C R fl K0)) (JZ fl (hide (OD C R fl K0)) cut (JO C R fl K0 (hide (OD C R fl K0)) (hide (NV C R fl K0)) cut 200)) (sub p c []).2 o st=r):zP C R fl K0 p c o st=r:=by
 rw [Ke,Ke,PV C R fl K0 (B4W cut 200)] at h;unfold zP;rw [Ke];exact h
theorem C0H {t f i q:Nat} {ps:Array Nat} {a b:Code} {ks:List Wait} {it:List DV->Option (List DV)} (hs:sub p c []=(.rangeFunc (.tmp t) ps a b,ks)) (hm:(st.get t).2 = .fn f [(i,0)]) (hp:ps.toList=[q]) (hi:C.iter f=some it) (ha:pF a=true) (hb:P8 b=true) :
 Qb C R fl K0 p c st=ob (M5 st.sg i) fun cs=>ob (BQ cs) fun cd=>ob (it cd) fun ds =>
  MM (fun d I sg=>Qb C R fl (kr I fun o sg=>zP C R fl K0 p c o (AB st sg)) [] (.seq a b) (clean fl a (WP st q d sg))) (fun sg=>zP C R fl K0 p c .normal (AB st sg)) ds (st.sg.set i (.arr 1 [])):=by
 unfold Qb zP;simp only [Ke];rw [hs];simp only [OD,R8,A0v,hp,hm,hi,ha,hb,ob,Bool.and_self,og];have R6:∀ (d:DV) (I:List D8->Option X) (sg:List D8),R8 C R fl a (fun o st1=>match o with
       | .normal=>R8 C R fl b (fun o st2=>match o with
         | .normal=>I st2.sg
         | .exit e=>Y5 C R fl K0 ks (.exit e) (AB st st2.sg)
         | .ret=>Y5 C R fl K0 ks .ret (AB st st2.sg)) (clean fl b st1)
       | .exit _=>none
       | .ret=>none) (clean fl a (WP st q d sg)) =
  R8 C R fl a (fun o st'=>match o with
   | .normal=>R8 C R fl b (Y5 C R fl (kr I fun o sg=>Y5 C R fl K0 ks o (AB st sg)) []) (clean fl b st')
   | .exit i=>Y5 C R fl (kr I fun o sg=>Y5 C R fl K0 ks o (AB st sg)) [] (.exit i) st'
   | .ret=>Y5 C R fl (kr I fun o sg=>Y5 C R fl K0 ks o (AB st sg)) [] .ret st') (clean fl a (WP st q d sg)):=by
  intro d I sg;cases a with
  | region id ops dr =>
    cases dr with
    | false =>
      simp only [R8]
      congr 1
    | true=>simp [pF] at ha
  | skip =>
    simp only [R8]
    congr 1
  | _=>simp [pF] at ha
 congr 1
 funext cs
 congr 1
 funext cd
 congr 1
 funext ds
 congr 1
 funext d I sg
 exact R6 d I sg
def rgT:Code->Option (Nat × Nat)
 | .rangeFunc (.tmp t) ps _ _=>match ps.toList with
   | [q]=>some (t,q)
   | _=>none
 | _=>none
def rgA:Code->Code
 | .rangeFunc _ _ a _=>a
 | _ => .skip
def rgB:Code->Code
 | .rangeFunc _ _ _ b=>b
 | _ => .skip
theorem B8w {t f i q:Nat} {it:List DV->Option (List DV)} (hs:rgT (sub p c []).1=some (t,q)) (hm:(st.get t).2 = .fn f [(i,0)]) (hi:C.iter f=some it) (Cy:(pF (rgA (sub p c []).1) && P8 (rgB (sub p c []).1))=true) :
 Qb C R fl K0 p c st=ob (M5 st.sg i) fun cs=>ob (BQ cs) fun cd=>ob (it cd) fun ds =>
  MM (fun d I sg=>Qb C R fl (kr I fun o sg=>zP C R fl K0 p c o (AB st sg)) [] (.seq (rgA (sub p c []).1) (rgB (sub p c []).1)) (clean fl (rgA (sub p c []).1) (WP st q d sg))) (fun sg=>zP C R fl K0 p c .normal (AB st sg)) ds (st.sg.set i (.arr 1 [])):=by
 simp only [z3q] at Cy;generalize hc:(sub p c []).1=c1 at hs Cy;cases c1 with
 | rangeFunc g ps a b =>
   cases g with
   | tmp t' =>
     simp only [rgT] at hs
     split at hs
     ·rename_i q' hq
      simp only [Option.some.injEq,Prod.mk.injEq] at hs;obtain ⟨rfl,rfl⟩:=hs;simp only [rgA,rgB] at Cy ⊢;exact C0H (ks:=(sub p c []).2) (by rw [<- hc]) hm hq hi Cy.1 Cy.2
     ·cases hs
   | _=>simp [rgT] at hs
 | _=>simp [rgT] at hs
end
def oneCell (sg:List D8) (cs:List (DV × Meta)):Option DV :=
 if 1=cs.length then match cs with
  | [c]=>Q7 sg c
  | _=>none
 else none
def B6x (x:Option DV):Option DV:=ob (ob x fun d=>ob (some []) fun ds=>some (d::ds)) fun ds=>some (pack ds)
def fB:List (Option DV)->Option (List DV)
 | []=>some []
 | x::xs=>ob x fun d=>ob (fB xs) fun ds=>some (d::ds)
def A9s (xs:List (Option DV)):Option DV:=ob (fB xs) fun ds=>some (pack ds)
end
end Go.Su

/-
 PLAIN DATA with types: the program's types, patterns, expressions, terms; how they lie as data. By program.
-/
namespace Go.Su
theorem PQ {l:List Nat} {a:Nat} (h:a∈l):a<=l.sum:=by
 induction l with
 | nil=>simp at h
 | cons x l ih =>
   rw [znq];rcases zDq.1 h with rfl | h
   ·omega
   ·have:=ih h;omega
def J9 (l:List Int):DV := .list 1 (l.map fun n => .int .i64 n)
def J7 (l:List ByteArray):DV := .list 1 (l.map fun s => .str s)
inductive Ty where
 | mk (kind:Int) (n:Int) (kids:List Ty)
def Ty.kind:Ty->Int | .mk x0 _ _=>x0
def Ty.n:Ty->Int | .mk _ x1 _=>x1
def Ty.kids:Ty->List Ty | .mk _ _ x2=>x2
variable (x0:Int) (x1:Int) (x2:List Ty)
@[simp] theorem Ty.Ca:(Ty.mk x0 x1 x2).kind=x0:=rfl
@[simp] theorem Ty.SV:(Ty.mk x0 x1 x2).n=x1:=rfl
@[simp] theorem Ty.Q6:(Ty.mk x0 x1 x2).kids=x2:=rfl
def Ty.enc:Ty->DV
 | .mk x0 x1 x2 => .agg [.int .i64 x0, .int .i64 x1, .list 3 (x2.map Ty.enc)]
variable (t:Ty)
theorem Ty.H8:t.enc = .agg [.int .i64 t.kind, .int .i64 t.n, .list 3 (t.kids.map Ty.enc)]:=by cases t;rw [Ty.enc];rfl
noncomputable instance:DecidableEq Ty:=fun a b=>Classical.propDecidable (a=b)
@[simp] theorem R5:C9 3 t.enc=true:=by rw [Ty.H8];rfl
@[simp] theorem Ty.Y3:A7 0 t.enc = .int .i64 t.kind:=by rw [Ty.H8];rfl
@[simp] theorem Ty.JX:A7 1 t.enc = .int .i64 t.n:=by rw [Ty.H8];rfl
@[simp] theorem Ty.El:A7 2 t.enc = .list 3 (t.kids.map Ty.enc):=by rw [Ty.H8];rfl
theorem Ty.Q9:DV.agg [.int .i64 t.kind, .int .i64 t.n, .list 3 (t.kids.map Ty.enc)]=t.enc:=(Ty.H8 t).symm
theorem Ty.FU {t u:Ty}:t=u ↔ t.kind=u.kind/\t.n=u.n/\t.kids=u.kids:=⟨fun h=>by subst h;simp,fun h=>by cases t;cases u;simp_all⟩
theorem Ty.JS {t k:Ty} (h:k∈t.kids):SizeOf.sizeOf k<SizeOf.sizeOf t:=by
 cases t;simp only [Ty.Q6] at h;have:=zpq h;simp only [Ty.mk.sizeOf_spec];omega
theorem Ty.ind {P:Ty->Prop} (h:∀ t,(∀ k∈t.kids,P k)->P t) (t:Ty):P t :=
 h t fun k hk=>Ty.ind h k
termination_by SizeOf.sizeOf t
decreasing_by exact Ty.JS hk
def Ty.size (t:Ty):Nat:=1+(t.kids.attach.map fun k=>Ty.size k.1).sum
termination_by SizeOf.sizeOf t
decreasing_by exact Ty.JS k.2
theorem Ty.size_eq:t.size=1+(t.kids.map Ty.size).sum:=by
 rw [Ty.size]
 congr 2
 exact zuq (f:=Ty.size) ..
theorem Ty.Dy {t k:Ty} (h:k∈t.kids):k.size<t.size:=by
 rw [Ty.size_eq t];have:=PQ (zoq (f:=Ty.size) h);omega
theorem Ty.Dz:0<t.size:=by rw [Ty.size_eq];omega
theorem Ty.A4Q:t.kids.length<t.size:=by
 rw [Ty.size_eq];have:∀ l:List Ty,l.length<=(l.map Ty.size).sum:=by
  intro l
  induction l with
  | nil=>simp
  | cons x l ih=>have:=Ty.Dz x;simp only [zaq,zmq,znq];omega
 have:=this t.kids;omega
inductive D5 where
 | mk (kind:Int) (lo:Int) (hi:Int) (name:ByteArray) (n:Int) (s:ByteArray) (kids:List D5)
def D5.kind:D5->Int | .mk x0 _ _ _ _ _ _=>x0
def D5.lo:D5->Int | .mk _ x1 _ _ _ _ _=>x1
def D5.hi:D5->Int | .mk _ _ x2 _ _ _ _=>x2
def D5.name:D5->ByteArray | .mk _ _ _ x3 _ _ _=>x3
def D5.n:D5->Int | .mk _ _ _ _ x4 _ _=>x4
def D5.s:D5->ByteArray | .mk _ _ _ _ _ x5 _=>x5
def D5.kids:D5->List D5 | .mk _ _ _ _ _ _ x6=>x6
variable (x2:Int) (x3:ByteArray) (x4:Int) (x5:ByteArray) (x6:List D5)
@[simp] theorem D5.Ca:(D5.mk x0 x1 x2 x3 x4 x5 x6).kind=x0:=rfl
@[simp] theorem D5.Wy:(D5.mk x0 x1 x2 x3 x4 x5 x6).lo=x1:=rfl
@[simp] theorem D5.Ww:(D5.mk x0 x1 x2 x3 x4 x5 x6).hi=x2:=rfl
@[simp] theorem D5.Cb:(D5.mk x0 x1 x2 x3 x4 x5 x6).name=x3:=rfl
@[simp] theorem D5.SV:(D5.mk x0 x1 x2 x3 x4 x5 x6).n=x4:=rfl
@[simp] theorem D5.Ls:(D5.mk x0 x1 x2 x3 x4 x5 x6).s=x5:=rfl
@[simp] theorem D5.Q6:(D5.mk x0 x1 x2 x3 x4 x5 x6).kids=x6:=rfl
def D5.enc:D5->DV
 | .mk x0 x1 x2 x3 x4 x5 x6 => .agg [.int .i64 x0, .int .i64 x1, .int .i64 x2, .str x3, .int .i64 x4, .str x5, .list 7 (x6.map D5.enc)]
variable (t:D5)
theorem D5.H8:t.enc = .agg [.int .i64 t.kind, .int .i64 t.lo, .int .i64 t.hi, .str t.name, .int .i64 t.n, .str t.s, .list 7 (t.kids.map D5.enc)]:=by cases t;rw [D5.enc];rfl
noncomputable instance:DecidableEq D5:=fun a b=>Classical.propDecidable (a=b)
@[simp] theorem PP:C9 7 t.enc=true:=by rw [D5.H8];rfl
@[simp] theorem D5.Y3:A7 0 t.enc = .int .i64 t.kind:=by rw [D5.H8];rfl
@[simp] theorem D5.JX:A7 1 t.enc = .int .i64 t.lo:=by rw [D5.H8];rfl
@[simp] theorem D5.El:A7 2 t.enc = .int .i64 t.hi:=by rw [D5.H8];rfl
@[simp] theorem D5.CU:A7 3 t.enc = .str t.name:=by rw [D5.H8];rfl
@[simp] theorem D5.KD:A7 4 t.enc = .int .i64 t.n:=by rw [D5.H8];rfl
@[simp] theorem D5.Bf:A7 5 t.enc = .str t.s:=by rw [D5.H8];rfl
@[simp] theorem D5.Hd:A7 6 t.enc = .list 7 (t.kids.map D5.enc):=by rw [D5.H8];rfl
theorem D5.Q9:DV.agg [.int .i64 t.kind, .int .i64 t.lo, .int .i64 t.hi, .str t.name, .int .i64 t.n, .str t.s, .list 7 (t.kids.map D5.enc)]=t.enc:=(D5.H8 t).symm
theorem D5.FU {t u:D5}:t=u ↔ t.kind=u.kind/\t.lo=u.lo/\t.hi=u.hi/\t.name=u.name/\t.n=u.n/\t.s=u.s/\t.kids=u.kids:=⟨fun h=>by subst h;simp,fun h=>by cases t;cases u;simp_all⟩
theorem D5.JS {t k:D5} (h:k∈t.kids):SizeOf.sizeOf k<SizeOf.sizeOf t:=by
 cases t;simp only [D5.Q6] at h;have:=zpq h;simp only [D5.mk.sizeOf_spec];omega
theorem D5.ind {P:D5->Prop} (h:∀ t,(∀ k∈t.kids,P k)->P t) (t:D5):P t :=
 h t fun k hk=>D5.ind h k
termination_by SizeOf.sizeOf t
decreasing_by exact D5.JS hk
def D5.size (t:D5):Nat:=1+(t.kids.attach.map fun k=>D5.size k.1).sum
termination_by SizeOf.sizeOf t
decreasing_by exact D5.JS k.2
theorem D5.size_eq:t.size=1+(t.kids.map D5.size).sum:=by
 rw [D5.size]
 congr 2
 exact zuq (f:=D5.size) ..
theorem D5.Dy {t k:D5} (h:k∈t.kids):k.size<t.size:=by
 rw [D5.size_eq t];have:=PQ (zoq (f:=D5.size) h);omega
theorem D5.Dz:0<t.size:=by rw [D5.size_eq];omega
theorem D5.A4Q:t.kids.length<t.size:=by
 rw [D5.size_eq];have:∀ l:List D5,l.length<=(l.map D5.size).sum:=by
  intro l
  induction l with
  | nil=>simp
  | cons x l ih=>have:=D5.Dz x;simp only [zaq,zmq,znq];omega
 have:=this t.kids;omega
def D5.N8 (t:D5):Nat:=1+t.name.size+t.s.size+(t.kids.attach.map fun k=>D5.N8 k.1).sum
termination_by SizeOf.sizeOf t
decreasing_by exact D5.JS k.2
theorem D5.Ak:t.N8=1+t.name.size+t.s.size+(t.kids.map D5.N8).sum:=by
 rw [D5.N8]
 congr 2
 exact zuq (f:=D5.N8) ..
theorem D5.WI:0<t.N8:=by rw [D5.Ak];omega
theorem D5.eD {t k:D5} (h:k∈t.kids):k.N8<t.N8:=by
 rw [D5.Ak t];have:=PQ (zoq (f:=D5.N8) h);omega
theorem D5.zS:t.name.size<t.N8:=by rw [D5.Ak];omega
theorem D5.A9a:t.s.size<t.N8:=by rw [D5.Ak];omega
inductive Ex where
 | mk (kind:Int) (lo:Int) (hi:Int) (name:ByteArray) (arg:ByteArray) (n:Int) (s:ByteArray) (op:Int) (a:Ty) (b:Ty) (H6:List D5) (kids:List Ex)
def Ex.kind:Ex->Int | .mk x0 _ _ _ _ _ _ _ _ _ _ _=>x0
def Ex.lo:Ex->Int | .mk _ x1 _ _ _ _ _ _ _ _ _ _=>x1
def Ex.hi:Ex->Int | .mk _ _ x2 _ _ _ _ _ _ _ _ _=>x2
def Ex.name:Ex->ByteArray | .mk _ _ _ x3 _ _ _ _ _ _ _ _=>x3
def Ex.arg:Ex->ByteArray | .mk _ _ _ _ x4 _ _ _ _ _ _ _=>x4
def Ex.n:Ex->Int | .mk _ _ _ _ _ x5 _ _ _ _ _ _=>x5
def Ex.s:Ex->ByteArray | .mk _ _ _ _ _ _ x6 _ _ _ _ _=>x6
def Ex.op:Ex->Int | .mk _ _ _ _ _ _ _ x7 _ _ _ _=>x7
def Ex.a:Ex->Ty | .mk _ _ _ _ _ _ _ _ x8 _ _ _=>x8
def Ex.b:Ex->Ty | .mk _ _ _ _ _ _ _ _ _ x9 _ _=>x9
def Ex.H6:Ex->List D5 | .mk _ _ _ _ _ _ _ _ _ _ x10 _=>x10
def Ex.kids:Ex->List Ex | .mk _ _ _ _ _ _ _ _ _ _ _ x11=>x11
variable (x4:ByteArray) (x5:Int) (x6:ByteArray) (x7:Int) (x8:Ty) (x9:Ty) (x10:List D5) (x11:List Ex)
@[simp] theorem Ex.Ca:(Ex.mk x0 x1 x2 x3 x4 x5 x6 x7 x8 x9 x10 x11).kind=x0:=rfl
@[simp] theorem Ex.Wy:(Ex.mk x0 x1 x2 x3 x4 x5 x6 x7 x8 x9 x10 x11).lo=x1:=rfl
@[simp] theorem Ex.Ww:(Ex.mk x0 x1 x2 x3 x4 x5 x6 x7 x8 x9 x10 x11).hi=x2:=rfl
@[simp] theorem Ex.Cb:(Ex.mk x0 x1 x2 x3 x4 x5 x6 x7 x8 x9 x10 x11).name=x3:=rfl
@[simp] theorem Ex.Gr:(Ex.mk x0 x1 x2 x3 x4 x5 x6 x7 x8 x9 x10 x11).arg=x4:=rfl
@[simp] theorem Ex.SV:(Ex.mk x0 x1 x2 x3 x4 x5 x6 x7 x8 x9 x10 x11).n=x5:=rfl
@[simp] theorem Ex.Ls:(Ex.mk x0 x1 x2 x3 x4 x5 x6 x7 x8 x9 x10 x11).s=x6:=rfl
@[simp] theorem Ex.pJ:(Ex.mk x0 x1 x2 x3 x4 x5 x6 x7 x8 x9 x10 x11).op=x7:=rfl
@[simp] theorem Ex.av:(Ex.mk x0 x1 x2 x3 x4 x5 x6 x7 x8 x9 x10 x11).a=x8:=rfl
@[simp] theorem Ex.a_:(Ex.mk x0 x1 x2 x3 x4 x5 x6 x7 x8 x9 x10 x11).b=x9:=rfl
@[simp] theorem Ex.Et:(Ex.mk x0 x1 x2 x3 x4 x5 x6 x7 x8 x9 x10 x11).H6=x10:=rfl
@[simp] theorem Ex.Q6:(Ex.mk x0 x1 x2 x3 x4 x5 x6 x7 x8 x9 x10 x11).kids=x11:=rfl
def Ex.enc:Ex->DV
 | .mk x0 x1 x2 x3 x4 x5 x6 x7 x8 x9 x10 x11 => .agg [.int .i64 x0, .int .i64 x1, .int .i64 x2, .str x3, .str x4, .int .i64 x5, .str x6, .int .i64 x7, .int .i64 x8.kind, .int .i64 x8.n, .list 3 (x8.kids.map Ty.enc), .int .i64 x9.kind, .int .i64 x9.n, .list 3 (x9.kids.map Ty.enc), .list 7 (x10.map D5.enc), .list 16 (x11.map Ex.enc)]
variable (t:Ex)
theorem Ex.H8:t.enc = .agg [.int .i64 t.kind, .int .i64 t.lo, .int .i64 t.hi, .str t.name, .str t.arg, .int .i64 t.n, .str t.s, .int .i64 t.op, .int .i64 t.a.kind, .int .i64 t.a.n, .list 3 (t.a.kids.map Ty.enc), .int .i64 t.b.kind, .int .i64 t.b.n, .list 3 (t.b.kids.map Ty.enc), .list 7 (t.H6.map D5.enc), .list 16 (t.kids.map Ex.enc)]:=by cases t;rw [Ex.enc];rfl
noncomputable instance:DecidableEq Ex:=fun a b=>Classical.propDecidable (a=b)
@[simp] theorem C2e:C9 16 t.enc=true:=by rw [Ex.H8];rfl
@[simp] theorem Ex.Y3:A7 0 t.enc = .int .i64 t.kind:=by rw [Ex.H8];rfl
@[simp] theorem Ex.JX:A7 1 t.enc = .int .i64 t.lo:=by rw [Ex.H8];rfl
@[simp] theorem Ex.El:A7 2 t.enc = .int .i64 t.hi:=by rw [Ex.H8];rfl
@[simp] theorem Ex.CU:A7 3 t.enc = .str t.name:=by rw [Ex.H8];rfl
@[simp] theorem Ex.KD:A7 4 t.enc = .str t.arg:=by rw [Ex.H8];rfl
@[simp] theorem Ex.Bf:A7 5 t.enc = .int .i64 t.n:=by rw [Ex.H8];rfl
@[simp] theorem Ex.Hd:A7 6 t.enc = .str t.s:=by rw [Ex.H8];rfl
@[simp] theorem Ex.Zt:A7 7 t.enc = .int .i64 t.op:=by rw [Ex.H8];rfl
@[simp] theorem Ex.W_:A7 8 t.enc = .int .i64 t.a.kind:=by rw [Ex.H8];rfl
@[simp] theorem Ex.Ux:A7 9 t.enc = .int .i64 t.a.n:=by rw [Ex.H8];rfl
@[simp] theorem Ex.OU:A7 10 t.enc = .list 3 (t.a.kids.map Ty.enc):=by rw [Ex.H8];rfl
@[simp] theorem Ex.Qm:A7 11 t.enc = .int .i64 t.b.kind:=by rw [Ex.H8];rfl
@[simp] theorem Ex.A42:A7 12 t.enc = .int .i64 t.b.n:=by rw [Ex.H8];rfl
@[simp] theorem Ex.eU:A7 13 t.enc = .list 3 (t.b.kids.map Ty.enc):=by rw [Ex.H8];rfl
@[simp] theorem Ex.Uw:A7 14 t.enc = .list 7 (t.H6.map D5.enc):=by rw [Ex.H8];rfl
@[simp] theorem Ex.A9l:A7 15 t.enc = .list 16 (t.kids.map Ex.enc):=by rw [Ex.H8];rfl
theorem Ex.Q9:DV.agg [.int .i64 t.kind, .int .i64 t.lo, .int .i64 t.hi, .str t.name, .str t.arg, .int .i64 t.n, .str t.s, .int .i64 t.op, .int .i64 t.a.kind, .int .i64 t.a.n, .list 3 (t.a.kids.map Ty.enc), .int .i64 t.b.kind, .int .i64 t.b.n, .list 3 (t.b.kids.map Ty.enc), .list 7 (t.H6.map D5.enc), .list 16 (t.kids.map Ex.enc)]=t.enc:=(Ex.H8 t).symm
theorem Ex.FU {t u:Ex}:t=u ↔ t.kind=u.kind/\t.lo=u.lo/\t.hi=u.hi/\t.name=u.name/\t.arg=u.arg/\t.n=u.n/\t.s=u.s/\t.op=u.op/\t.a=u.a/\t.b=u.b/\t.H6=u.H6/\t.kids=u.kids:=⟨fun h=>by subst h;simp,fun h=>by cases t;cases u;simp_all⟩
theorem Ex.JS {t k:Ex} (h:k∈t.kids):SizeOf.sizeOf k<SizeOf.sizeOf t:=by
 cases t;simp only [Ex.Q6] at h;have:=zpq h;simp only [Ex.mk.sizeOf_spec];omega
theorem Ex.ind {P:Ex->Prop} (h:∀ t,(∀ k∈t.kids,P k)->P t) (t:Ex):P t :=
 h t fun k hk=>Ex.ind h k
termination_by SizeOf.sizeOf t
decreasing_by exact Ex.JS hk
inductive Tm where
 | mk (kind:Int) (lo:Int) (hi:Int) (name:ByteArray) (arg:ByteArray) (n:Int) (s:ByteArray) (op:Int) (label:Int) (neg:Bool) (vars:List Int) (a:Ty) (b:Ty) (args:List Ty) (H6:List D5) (kids:List Tm)
def Tm.kind:Tm->Int | .mk x0 _ _ _ _ _ _ _ _ _ _ _ _ _ _ _=>x0
def Tm.lo:Tm->Int | .mk _ x1 _ _ _ _ _ _ _ _ _ _ _ _ _ _=>x1
def Tm.hi:Tm->Int | .mk _ _ x2 _ _ _ _ _ _ _ _ _ _ _ _ _=>x2
def Tm.name:Tm->ByteArray | .mk _ _ _ x3 _ _ _ _ _ _ _ _ _ _ _ _=>x3
def Tm.arg:Tm->ByteArray | .mk _ _ _ _ x4 _ _ _ _ _ _ _ _ _ _ _=>x4
def Tm.n:Tm->Int | .mk _ _ _ _ _ x5 _ _ _ _ _ _ _ _ _ _=>x5
def Tm.s:Tm->ByteArray | .mk _ _ _ _ _ _ x6 _ _ _ _ _ _ _ _ _=>x6
def Tm.op:Tm->Int | .mk _ _ _ _ _ _ _ x7 _ _ _ _ _ _ _ _=>x7
def Tm.label:Tm->Int | .mk _ _ _ _ _ _ _ _ x8 _ _ _ _ _ _ _=>x8
def Tm.neg:Tm->Bool | .mk _ _ _ _ _ _ _ _ _ x9 _ _ _ _ _ _=>x9
def Tm.vars:Tm->List Int | .mk _ _ _ _ _ _ _ _ _ _ x10 _ _ _ _ _=>x10
def Tm.a:Tm->Ty | .mk _ _ _ _ _ _ _ _ _ _ _ x11 _ _ _ _=>x11
def Tm.b:Tm->Ty | .mk _ _ _ _ _ _ _ _ _ _ _ _ x12 _ _ _=>x12
def Tm.args:Tm->List Ty | .mk _ _ _ _ _ _ _ _ _ _ _ _ _ x13 _ _=>x13
def Tm.H6:Tm->List D5 | .mk _ _ _ _ _ _ _ _ _ _ _ _ _ _ x14 _=>x14
def Tm.kids:Tm->List Tm | .mk _ _ _ _ _ _ _ _ _ _ _ _ _ _ _ x15=>x15
variable (x8:Int) (x9:Bool) (x10:List Int) (x11:Ty) (x12:Ty) (x13:List Ty) (x14:List D5) (x15:List Tm)
@[simp] theorem Tm.Ca:(Tm.mk x0 x1 x2 x3 x4 x5 x6 x7 x8 x9 x10 x11 x12 x13 x14 x15).kind=x0:=rfl
@[simp] theorem Tm.Wy:(Tm.mk x0 x1 x2 x3 x4 x5 x6 x7 x8 x9 x10 x11 x12 x13 x14 x15).lo=x1:=rfl
@[simp] theorem Tm.Ww:(Tm.mk x0 x1 x2 x3 x4 x5 x6 x7 x8 x9 x10 x11 x12 x13 x14 x15).hi=x2:=rfl
@[simp] theorem Tm.Cb:(Tm.mk x0 x1 x2 x3 x4 x5 x6 x7 x8 x9 x10 x11 x12 x13 x14 x15).name=x3:=rfl
@[simp] theorem Tm.Gr:(Tm.mk x0 x1 x2 x3 x4 x5 x6 x7 x8 x9 x10 x11 x12 x13 x14 x15).arg=x4:=rfl
@[simp] theorem Tm.SV:(Tm.mk x0 x1 x2 x3 x4 x5 x6 x7 x8 x9 x10 x11 x12 x13 x14 x15).n=x5:=rfl
@[simp] theorem Tm.Ls:(Tm.mk x0 x1 x2 x3 x4 x5 x6 x7 x8 x9 x10 x11 x12 x13 x14 x15).s=x6:=rfl
@[simp] theorem Tm.pJ:(Tm.mk x0 x1 x2 x3 x4 x5 x6 x7 x8 x9 x10 x11 x12 x13 x14 x15).op=x7:=rfl
@[simp] theorem Tm.SN:(Tm.mk x0 x1 x2 x3 x4 x5 x6 x7 x8 x9 x10 x11 x12 x13 x14 x15).label=x8:=rfl
@[simp] theorem Tm.eG:(Tm.mk x0 x1 x2 x3 x4 x5 x6 x7 x8 x9 x10 x11 x12 x13 x14 x15).neg=x9:=rfl
@[simp] theorem Tm.GX:(Tm.mk x0 x1 x2 x3 x4 x5 x6 x7 x8 x9 x10 x11 x12 x13 x14 x15).vars=x10:=rfl
@[simp] theorem Tm.av:(Tm.mk x0 x1 x2 x3 x4 x5 x6 x7 x8 x9 x10 x11 x12 x13 x14 x15).a=x11:=rfl
@[simp] theorem Tm.a_:(Tm.mk x0 x1 x2 x3 x4 x5 x6 x7 x8 x9 x10 x11 x12 x13 x14 x15).b=x12:=rfl
@[simp] theorem Tm.O_:(Tm.mk x0 x1 x2 x3 x4 x5 x6 x7 x8 x9 x10 x11 x12 x13 x14 x15).args=x13:=rfl
@[simp] theorem Tm.Et:(Tm.mk x0 x1 x2 x3 x4 x5 x6 x7 x8 x9 x10 x11 x12 x13 x14 x15).H6=x14:=rfl
@[simp] theorem Tm.Q6:(Tm.mk x0 x1 x2 x3 x4 x5 x6 x7 x8 x9 x10 x11 x12 x13 x14 x15).kids=x15:=rfl
def Tm.enc:Tm->DV
 | .mk x0 x1 x2 x3 x4 x5 x6 x7 x8 x9 x10 x11 x12 x13 x14 x15 => .agg [.int .i64 x0, .int .i64 x1, .int .i64 x2, .str x3, .str x4, .int .i64 x5, .str x6, .int .i64 x7, .int .i64 x8, .bool x9,J9 x10, .int .i64 x11.kind, .int .i64 x11.n, .list 3 (x11.kids.map Ty.enc), .int .i64 x12.kind, .int .i64 x12.n, .list 3 (x12.kids.map Ty.enc), .list 3 (x13.map Ty.enc), .list 7 (x14.map D5.enc), .list 20 (x15.map Tm.enc)]
variable (t:Tm)
theorem Tm.H8:t.enc = .agg [.int .i64 t.kind, .int .i64 t.lo, .int .i64 t.hi, .str t.name, .str t.arg, .int .i64 t.n, .str t.s, .int .i64 t.op, .int .i64 t.label, .bool t.neg,J9 t.vars, .int .i64 t.a.kind, .int .i64 t.a.n, .list 3 (t.a.kids.map Ty.enc), .int .i64 t.b.kind, .int .i64 t.b.n, .list 3 (t.b.kids.map Ty.enc), .list 3 (t.args.map Ty.enc), .list 7 (t.H6.map D5.enc), .list 20 (t.kids.map Tm.enc)]:=by cases t;rw [Tm.enc];rfl
noncomputable instance:DecidableEq Tm:=fun a b=>Classical.propDecidable (a=b)
@[simp] theorem F9:C9 20 t.enc=true:=by rw [Tm.H8];rfl
@[simp] theorem Tm.Y3:A7 0 t.enc = .int .i64 t.kind:=by rw [Tm.H8];rfl
@[simp] theorem Tm.JX:A7 1 t.enc = .int .i64 t.lo:=by rw [Tm.H8];rfl
@[simp] theorem Tm.El:A7 2 t.enc = .int .i64 t.hi:=by rw [Tm.H8];rfl
@[simp] theorem Tm.CU:A7 3 t.enc = .str t.name:=by rw [Tm.H8];rfl
@[simp] theorem Tm.KD:A7 4 t.enc = .str t.arg:=by rw [Tm.H8];rfl
@[simp] theorem Tm.Bf:A7 5 t.enc = .int .i64 t.n:=by rw [Tm.H8];rfl
@[simp] theorem Tm.Hd:A7 6 t.enc = .str t.s:=by rw [Tm.H8];rfl
@[simp] theorem Tm.Zt:A7 7 t.enc = .int .i64 t.op:=by rw [Tm.H8];rfl
@[simp] theorem Tm.W_:A7 8 t.enc = .int .i64 t.label:=by rw [Tm.H8];rfl
@[simp] theorem Tm.Ux:A7 9 t.enc = .bool t.neg:=by rw [Tm.H8];rfl
@[simp] theorem Tm.OU:A7 10 t.enc=J9 t.vars:=by rw [Tm.H8];rfl
@[simp] theorem Tm.Qm:A7 11 t.enc = .int .i64 t.a.kind:=by rw [Tm.H8];rfl
@[simp] theorem Tm.A42:A7 12 t.enc = .int .i64 t.a.n:=by rw [Tm.H8];rfl
@[simp] theorem Tm.eU:A7 13 t.enc = .list 3 (t.a.kids.map Ty.enc):=by rw [Tm.H8];rfl
@[simp] theorem Tm.Uw:A7 14 t.enc = .int .i64 t.b.kind:=by rw [Tm.H8];rfl
@[simp] theorem Tm.A9l:A7 15 t.enc = .int .i64 t.b.n:=by rw [Tm.H8];rfl
@[simp] theorem Tm.A9m:A7 16 t.enc = .list 3 (t.b.kids.map Ty.enc):=by rw [Tm.H8];rfl
@[simp] theorem Tm.Ib:A7 17 t.enc = .list 3 (t.args.map Ty.enc):=by rw [Tm.H8];rfl
@[simp] theorem Tm.A43:A7 18 t.enc = .list 7 (t.H6.map D5.enc):=by rw [Tm.H8];rfl
@[simp] theorem Tm.Cs:A7 19 t.enc = .list 20 (t.kids.map Tm.enc):=by rw [Tm.H8];rfl
theorem Tm.Q9:DV.agg [.int .i64 t.kind, .int .i64 t.lo, .int .i64 t.hi, .str t.name, .str t.arg, .int .i64 t.n, .str t.s, .int .i64 t.op, .int .i64 t.label, .bool t.neg,J9 t.vars, .int .i64 t.a.kind, .int .i64 t.a.n, .list 3 (t.a.kids.map Ty.enc), .int .i64 t.b.kind, .int .i64 t.b.n, .list 3 (t.b.kids.map Ty.enc), .list 3 (t.args.map Ty.enc), .list 7 (t.H6.map D5.enc), .list 20 (t.kids.map Tm.enc)]=t.enc:=(Tm.H8 t).symm
theorem Tm.JS {t k:Tm} (h:k∈t.kids):SizeOf.sizeOf k<SizeOf.sizeOf t:=by
 cases t;simp only [Tm.Q6] at h;have:=zpq h;simp only [Tm.mk.sizeOf_spec];omega
theorem Tm.ind {P:Tm->Prop} (h:∀ t,(∀ k∈t.kids,P k)->P t) (t:Tm):P t :=
 h t fun k hk=>Tm.ind h k
termination_by SizeOf.sizeOf t
decreasing_by exact Tm.JS hk
def Tm.size (t:Tm):Nat:=1+(t.kids.attach.map fun k=>Tm.size k.1).sum
termination_by SizeOf.sizeOf t
decreasing_by exact Tm.JS k.2
theorem Tm.size_eq:t.size=1+(t.kids.map Tm.size).sum:=by
 rw [Tm.size]
 congr 2
 exact zuq (f:=Tm.size) ..
theorem Tm.Dy {t k:Tm} (h:k∈t.kids):k.size<t.size:=by
 rw [Tm.size_eq t];have:=PQ (zoq (f:=Tm.size) h);omega
theorem Tm.Dz:0<t.size:=by rw [Tm.size_eq];omega
def Tm.N8 (t:Tm):Nat:=1+t.name.size+t.arg.size+t.s.size+t.vars.length+t.a.size+t.b.size+(t.args.map Ty.size).sum+(t.H6.map D5.N8).sum+(t.kids.attach.map fun k=>Tm.N8 k.1).sum
termination_by SizeOf.sizeOf t
decreasing_by exact Tm.JS k.2
theorem Tm.Ak:t.N8=1+t.name.size+t.arg.size+t.s.size+t.vars.length+t.a.size+t.b.size+(t.args.map Ty.size).sum+(t.H6.map D5.N8).sum+(t.kids.map Tm.N8).sum:=by
 rw [Tm.N8]
 congr 2
 exact zuq (f:=Tm.N8) ..
theorem Tm.WI:0<t.N8:=by rw [Tm.Ak];omega
theorem Tm.eD {t k:Tm} (h:k∈t.kids):k.N8<t.N8:=by
 rw [Tm.Ak t];have:=PQ (zoq (f:=Tm.N8) h);omega
theorem Tm.B6i:t.kids.length<t.N8:=by
 rw [Tm.Ak];have:∀ l:List Tm,l.length<=(l.map Tm.N8).sum:=by
  intro l
  induction l with
  | nil=>simp
  | cons x l ih=>have:=Tm.WI x;simp only [zaq,zmq,znq];omega
 have:=this t.kids;omega
theorem Tm.zS:t.name.size<t.N8:=by rw [Tm.Ak];omega
theorem Tm.B6h:t.arg.size<t.N8:=by rw [Tm.Ak];omega
theorem Tm.A9a:t.s.size<t.N8:=by rw [Tm.Ak];omega
theorem Tm.B4u:t.vars.length<t.N8:=by rw [Tm.Ak];omega
theorem Tm.A88:t.a.size<t.N8:=by rw [Tm.Ak];omega
theorem Tm.A89:t.b.size<t.N8:=by rw [Tm.Ak];omega
theorem Tm.iK:(t.args.map Ty.size).sum<t.N8:=by rw [Tm.Ak];omega
theorem Tm.A6Q:(t.H6.map D5.N8).sum<t.N8:=by rw [Tm.Ak];omega
inductive B63 where
 | mk (types:List Ty) (vars:List Int) (kids:List B63)
noncomputable instance:DecidableEq B63:=fun a b=>Classical.propDecidable (a=b)
inductive X3 where
 | mk (kind:Int) (head:Int) (label:Int) (neg:Bool) (kids:List X3)
def X3.kind:X3->Int | .mk x0 _ _ _ _=>x0
def X3.head:X3->Int | .mk _ x1 _ _ _=>x1
def X3.label:X3->Int | .mk _ _ x2 _ _=>x2
def X3.neg:X3->Bool | .mk _ _ _ x3 _=>x3
def X3.kids:X3->List X3 | .mk _ _ _ _ x4=>x4
variable (x3:Bool) (x4:List X3)
@[simp] theorem X3.Ca:(X3.mk x0 x1 x2 x3 x4).kind=x0:=rfl
@[simp] theorem X3.C3D:(X3.mk x0 x1 x2 x3 x4).head=x1:=rfl
@[simp] theorem X3.SN:(X3.mk x0 x1 x2 x3 x4).label=x2:=rfl
@[simp] theorem X3.eG:(X3.mk x0 x1 x2 x3 x4).neg=x3:=rfl
@[simp] theorem X3.Q6:(X3.mk x0 x1 x2 x3 x4).kids=x4:=rfl
def X3.enc:X3->DV
 | .mk x0 x1 x2 x3 x4 => .agg [.int .i64 x0, .int .i64 x1, .int .i64 x2, .bool x3, .list 5 (x4.map X3.enc)]
variable (t:X3)
theorem X3.H8:t.enc = .agg [.int .i64 t.kind, .int .i64 t.head, .int .i64 t.label, .bool t.neg, .list 5 (t.kids.map X3.enc)]:=by cases t;rw [X3.enc];rfl
noncomputable instance:DecidableEq X3:=fun a b=>Classical.propDecidable (a=b)
@[simp] theorem C1f:C9 5 t.enc=true:=by rw [X3.H8];rfl
@[simp] theorem X3.Y3:A7 0 t.enc = .int .i64 t.kind:=by rw [X3.H8];rfl
@[simp] theorem X3.JX:A7 1 t.enc = .int .i64 t.head:=by rw [X3.H8];rfl
@[simp] theorem X3.El:A7 2 t.enc = .int .i64 t.label:=by rw [X3.H8];rfl
@[simp] theorem X3.CU:A7 3 t.enc = .bool t.neg:=by rw [X3.H8];rfl
@[simp] theorem X3.KD:A7 4 t.enc = .list 5 (t.kids.map X3.enc):=by rw [X3.H8];rfl
inductive Val where
 | mk (kind:Int) (n:Int) (s:ByteArray) (c:X3) (kids:List Val)
def Val.kind:Val->Int | .mk x0 _ _ _ _=>x0
def Val.n:Val->Int | .mk _ x1 _ _ _=>x1
def Val.s:Val->ByteArray | .mk _ _ x2 _ _=>x2
def Val.c:Val->X3 | .mk _ _ _ x3 _=>x3
def Val.kids:Val->List Val | .mk _ _ _ _ x4=>x4
variable (x2:ByteArray) (x3:X3) (x4:List Val)
@[simp] theorem Val.Ca:(Val.mk x0 x1 x2 x3 x4).kind=x0:=rfl
@[simp] theorem Val.SV:(Val.mk x0 x1 x2 x3 x4).n=x1:=rfl
@[simp] theorem Val.Ls:(Val.mk x0 x1 x2 x3 x4).s=x2:=rfl
@[simp] theorem Val.C3P:(Val.mk x0 x1 x2 x3 x4).c=x3:=rfl
@[simp] theorem Val.Q6:(Val.mk x0 x1 x2 x3 x4).kids=x4:=rfl
def Val.enc:Val->DV
 | .mk x0 x1 x2 x3 x4 => .agg [.int .i64 x0, .int .i64 x1, .str x2, .int .i64 x3.kind, .int .i64 x3.head, .int .i64 x3.label, .bool x3.neg, .list 5 (x3.kids.map X3.enc), .list 9 (x4.map Val.enc)]
variable (t:Val)
theorem Val.H8:t.enc = .agg [.int .i64 t.kind, .int .i64 t.n, .str t.s, .int .i64 t.c.kind, .int .i64 t.c.head, .int .i64 t.c.label, .bool t.c.neg, .list 5 (t.c.kids.map X3.enc), .list 9 (t.kids.map Val.enc)]:=by cases t;rw [Val.enc];rfl
noncomputable instance:DecidableEq Val:=fun a b=>Classical.propDecidable (a=b)
@[simp] theorem A4L:C9 9 t.enc=true:=by rw [Val.H8];rfl
@[simp] theorem Val.Y3:A7 0 t.enc = .int .i64 t.kind:=by rw [Val.H8];rfl
@[simp] theorem Val.JX:A7 1 t.enc = .int .i64 t.n:=by rw [Val.H8];rfl
@[simp] theorem Val.El:A7 2 t.enc = .str t.s:=by rw [Val.H8];rfl
@[simp] theorem Val.CU:A7 3 t.enc = .int .i64 t.c.kind:=by rw [Val.H8];rfl
@[simp] theorem Val.KD:A7 4 t.enc = .int .i64 t.c.head:=by rw [Val.H8];rfl
@[simp] theorem Val.Bf:A7 5 t.enc = .int .i64 t.c.label:=by rw [Val.H8];rfl
@[simp] theorem Val.Hd:A7 6 t.enc = .bool t.c.neg:=by rw [Val.H8];rfl
@[simp] theorem Val.Zt:A7 7 t.enc = .list 5 (t.c.kids.map X3.enc):=by rw [Val.H8];rfl
@[simp] theorem Val.W_:A7 8 t.enc = .list 9 (t.kids.map Val.enc):=by rw [Val.H8];rfl
theorem Val.Q9:DV.agg [.int .i64 t.kind, .int .i64 t.n, .str t.s, .int .i64 t.c.kind, .int .i64 t.c.head, .int .i64 t.c.label, .bool t.c.neg, .list 5 (t.c.kids.map X3.enc), .list 9 (t.kids.map Val.enc)]=t.enc:=(Val.H8 t).symm
theorem Val.JS {t k:Val} (h:k∈t.kids):SizeOf.sizeOf k<SizeOf.sizeOf t:=by
 cases t;simp only [Val.Q6] at h;have:=zpq h;simp only [Val.mk.sizeOf_spec];omega
theorem Val.ind {P:Val->Prop} (h:∀ t,(∀ k∈t.kids,P k)->P t) (t:Val):P t :=
 h t fun k hk=>Val.ind h k
termination_by SizeOf.sizeOf t
decreasing_by exact Val.JS hk
@[simp] theorem Ty.ag (t:Ty):V9 t.enc=t.enc:=by rw [Ty.H8];rfl
@[simp] theorem X3.ag (t:X3):ag5 t.enc=t.enc:=by rw [X3.H8];rfl
@[simp] theorem D5.ag (t:D5):IQ t.enc=t.enc:=by rw [D5.H8];rfl
@[simp] theorem Val.ag:ag9 t.enc=t.enc:=by rw [Val.H8];rfl
@[simp] theorem Ex.ag (t:Ex):A2O t.enc=t.enc:=by rw [Ex.H8];rfl
@[simp] theorem Tm.ag (t:Tm):F6 t.enc=t.enc:=by rw [Tm.H8];rfl
theorem Ex.pj (t:Ex):A7 0 t.enc = .int .i64 t.kind/\A7 1 t.enc = .int .i64 t.lo/\A7 2 t.enc = .int .i64 t.hi/\A7 3 t.enc = .str t.name/\A7 4 t.enc = .str t.arg/\A7 5 t.enc = .int .i64 t.n/\A7 6 t.enc = .str t.s/\A7 7 t.enc = .int .i64 t.op/\A7 8 t.enc = .int .i64 t.a.kind/\A7 9 t.enc = .int .i64 t.a.n/\A7 10 t.enc = .list 3 (t.a.kids.map Ty.enc)/\A7 11 t.enc = .int .i64 t.b.kind/\A7 12 t.enc = .int .i64 t.b.n/\A7 13 t.enc = .list 3 (t.b.kids.map Ty.enc)/\A7 14 t.enc = .list 7 (t.H6.map D5.enc)/\A7 15 t.enc = .list 16 (t.kids.map Ex.enc):=⟨t.Y3,t.JX,t.El,t.CU,t.KD,t.Bf,t.Hd,t.Zt,t.W_,t.Ux,t.OU,t.Qm,t.A42,t.eU,t.Uw,t.A9l⟩
theorem D5.pj (t:D5):A7 0 t.enc = .int .i64 t.kind/\A7 1 t.enc = .int .i64 t.lo/\A7 2 t.enc = .int .i64 t.hi/\A7 3 t.enc = .str t.name/\A7 4 t.enc = .int .i64 t.n/\A7 5 t.enc = .str t.s/\A7 6 t.enc = .list 7 (t.kids.map D5.enc):=⟨t.Y3,t.JX,t.El,t.CU,t.KD,t.Bf,t.Hd⟩
theorem Tm.pj (t:Tm):A7 0 t.enc = .int .i64 t.kind/\A7 1 t.enc = .int .i64 t.lo/\A7 2 t.enc = .int .i64 t.hi/\A7 3 t.enc = .str t.name/\A7 4 t.enc = .str t.arg/\A7 5 t.enc = .int .i64 t.n/\A7 6 t.enc = .str t.s/\A7 7 t.enc = .int .i64 t.op/\A7 8 t.enc = .int .i64 t.label/\A7 9 t.enc = .bool t.neg/\A7 10 t.enc=J9 t.vars/\A7 11 t.enc = .int .i64 t.a.kind/\A7 12 t.enc = .int .i64 t.a.n/\A7 13 t.enc = .list 3 (t.a.kids.map Ty.enc)/\A7 14 t.enc = .int .i64 t.b.kind/\A7 15 t.enc = .int .i64 t.b.n/\A7 16 t.enc = .list 3 (t.b.kids.map Ty.enc)/\A7 17 t.enc = .list 3 (t.args.map Ty.enc)/\A7 18 t.enc = .list 7 (t.H6.map D5.enc)/\A7 19 t.enc = .list 20 (t.kids.map Tm.enc):=⟨t.Y3,t.JX,t.El,t.CU,t.KD,t.Bf,t.Hd,t.Zt,t.W_,t.Ux,t.OU,t.Qm,t.A42,t.eU,t.Uw,t.A9l,t.A9m,t.Ib,t.A43,t.Cs⟩
theorem Val.pj:A7 0 t.enc = .int .i64 t.kind/\A7 1 t.enc = .int .i64 t.n/\A7 2 t.enc = .str t.s/\A7 3 t.enc = .int .i64 t.c.kind/\A7 4 t.enc = .int .i64 t.c.head/\A7 5 t.enc = .int .i64 t.c.label/\A7 6 t.enc = .bool t.c.neg/\A7 7 t.enc = .list 5 (t.c.kids.map X3.enc)/\A7 8 t.enc = .list 9 (t.kids.map Val.enc):=⟨t.Y3,t.JX,t.El,t.CU,t.KD,t.Bf,t.Hd,t.Zt,t.W_⟩
end Go.Su

/-
 PLAIN DATA: what the data's operations make of numbers, texts, lists.
-/
namespace Go.Su
variable {α : Type} {β : Type}
@[simp] theorem E9 (a : α) (f : α -> Option β):ob (some a) f=f a:=rfl
@[simp] theorem B6n (f : α -> Option β):ob none f=none:=rfl
@[simp] theorem D6 (x:Option β):og true x=x:=rfl
@[simp] theorem B4y (x:Option β):og false x=none:=rfl
@[simp] theorem C8 (b:Bool) (x y:Option β):D7 (.bool b) x y=if b=true then x else y:=by cases b <;> rfl
@[simp] theorem H5 (b:Bool) (x y z:Option β):I1 (.bool b) x y z=if b=true then x else y:=by cases b <;> rfl
variable (sz:Nat) (ds:List DV)
@[simp] theorem K5:dLen (.list sz ds)=some (.int .i64 ds.length):=rfl
variable (l:List Int)
@[simp] theorem Kv:dLen (J9 l)=some (.int .i64 l.length):=by simp [J9]
variable (l:List ByteArray)
@[simp] theorem XV:dLen (J7 l)=some (.int .i64 l.length):=by simp [J7]
@[simp] theorem A4e:Wp (.list sz ds)=some (sz,ds):=rfl
variable (s:ByteArray)
@[simp] theorem Ev:DC (.str s)=some (.int .i64 s.size):=rfl
variable (k:IntKind)
@[simp] theorem M0 (a b:Int):A8 .eql (.int k a) (.int k b)=some (.bool (decide (a=b))):=by
  simp only [A8,Iu,KX,if_true];rfl
@[simp] theorem Ap (a b:Int):A8 .neq (.int k a) (.int k b)=some (.bool (!decide (a=b))):=by
  simp only [A8,Iu,KX,if_true];rfl
@[simp] theorem H7 (a b:Int):A8 .lss (.int k a) (.int k b)=some (.bool (decide (a<b))):=by
  simp only [A8,Iu,KX,if_true]
@[simp] theorem Ao (a b:Int):A8 .leq (.int k a) (.int k b)=some (.bool (decide (a<=b))):=by
  simp only [A8,Iu,KX,if_true]
@[simp] theorem X8 (a b:Int):A8 .gtr (.int k a) (.int k b)=some (.bool (decide (b<a))):=by
  simp only [A8,Iu,KX,if_true,gt_iff_lt]
@[simp] theorem IR (a b:Int):A8 .geq (.int k a) (.int k b)=some (.bool (decide (b<=a))):=by
  simp only [A8,Iu,KX,if_true,ge_iff_le]
theorem U9 (a b:Int):A8 .add (.int k a) (.int k b)=some (.int k (k.wrap (a+b))):=by
 simp only [A8,Iu,KX,if_true]
theorem IU (a b:Int):A8 .sub (.int k a) (.int k b)=some (.int k (k.wrap (a-b))):=by
 simp only [A8,Iu,KX,if_true]
theorem A8p (a b:Int):A8 .mul (.int k a) (.int k b)=some (.int k (k.wrap (a * b))):=by
 simp only [A8,Iu,KX,if_true]
theorem U2 {n:Int} (h1 : -9223372036854775808<=n) (h2:n<=9223372036854775807):IntKind.i64.wrap n=n:=Go.IntWalk.i64_in n ⟨h1,h2⟩
theorem Nt {a b:Int} (h1 : -9223372036854775808<=a+b) (h2:a+b<=9223372036854775807):A8 .add (.int .i64 a) (.int .i64 b)=some (.int .i64 (a+b)):=by
 rw [U9,U2 h1 h2]
variable {i:Nat}
theorem N9 (h:i<9223372036854775807):A8 .add (.int .i64 (i:Int)) (.int .i64 1)=some (.int .i64 ((i+1:Nat):Int)):=by
 rw [Nt (by omega) (by omega)]
 simp
variable {c:Prop}
theorem B4j [Decidable c] {a b:Bool}:(if c then some (DV.bool a) else some (DV.bool b))=some (DV.bool (if c then a else b)):=by split <;> rfl
theorem A81 [Decidable c] {a b:Bool}:(if c then DV.bool a else DV.bool b)=DV.bool (if c then a else b):=by split <;> rfl
theorem C1Q [Decidable c] {a b:DV}:(if c then some a else some b)=some (if c then a else b):=by split <;> rfl
theorem C0T {a b:Bool} (h:a=true ↔ b=true):some (DV.bool a)=some (DV.bool b):=by rw [zXq.2 h]
theorem KV:s.toList=s.data.toList:=by
 have loop:∀ (n i:Nat) (r:List UInt8),s.size-i=n->ByteArray.toList.loop s i r=r.reverse++s.data.toList.drop i:=by
  intro n
  induction n with
  | zero =>
    intro i r h;rw [ByteArray.toList.loop,if_neg (by omega)]
    have:s.data.toList.length<=i:=by simp only [zIq];exact Nat.le_of_sub_eq_zero h
    simp [zNq this]
  | succ n ih =>
    intro i r h;have hi:i<s.size:=by omega
    rw [ByteArray.toList.loop,if_pos hi,ih (i+1) _ (by omega)]
    have hl:i<s.data.toList.length:=by simpa using hi
    rw [zjq hl];have:s.get! i=s.data.toList[i]:=by
     simp only [ByteArray.get!,y2q];exact getElem!_pos s.data i hi
    rw [this];simp
 rw [ByteArray.toList,loop _ 0 [] rfl];simp
theorem wM {a b:ByteArray} (h:a.toList=b.toList):a=b:=by
 rw [KV,KV] at h;cases a;cases b;simp only [ByteArray.mk.injEq];exact Array.ext' h
theorem f_ (a b:ByteArray):(a.toList == b.toList)=decide (a=b):=by
 by_cases h:a=b
 ·subst h;simp
 ·have:a.toList≠b.toList:=fun h'=>h (wM h')
  simp [h,this]
@[simp] theorem JJ (a b:ByteArray):A8 .eql (.str a) (.str b)=some (.bool (decide (a=b))):=by
  simp only [A8,kW];rw [f_]
@[simp] theorem wQ (a b:ByteArray):A8 .neq (.str a) (.str b)=some (.bool (!decide (a=b))):=by
  simp only [A8,kW];rw [f_]
@[simp] theorem B3N (a b:Bool):jF (.bool a) (.bool b)=some (a == b):=rfl
@[simp] theorem M8 (b:Bool):O6 .not (.bool b)=some (.bool !b):=rfl
variable (n:Int)
@[simp] theorem AJ:I6 (.int k n)=true:=rfl
@[simp] theorem A2v (b:Bool):I6 (.bool b)=true:=rfl
@[simp] theorem Uo:I6 (.str s)=true:=rfl
@[simp] theorem jY:I6 (.list sz ds)=true:=rfl
@[simp] theorem C1g (l:List Int):I6 (J9 l)=true:=rfl
@[simp] theorem C1h:I6 (J7 l)=true:=rfl
@[simp] theorem C1P:K6 (.int k n)=true:=rfl
@[simp] theorem Zl:K6 (.str s)=true:=rfl
@[simp] theorem C2f:isKey false (.int .i64 n)=true:=rfl
@[simp] theorem Xi:isKey true (.str s)=true:=rfl
theorem B3S (i:Nat):F5 sz (.list sz ds) (.int k (i:Int))=ds[i]?:=by
 simp [F5]
variable {k:IntKind}
theorem I8 {e : α -> DV} {sz:Nat} {l:List α} (h:i<l.length):F5 sz (.list sz (l.map e)) (.int k (i:Int))=some (e l[i]):=by
 rw [B3S,zcq,z2q h];rfl
theorem Hm {l:List Int} (h:i<l.length):F5 1 (J9 l) (.int k (i:Int))=some (.int .i64 l[i]):=I8 h
theorem Ku {l:List ByteArray} (h:i<l.length):F5 1 (J7 l) (.int k (i:Int))=some (.str l[i]):=I8 h
theorem Sn {sz:Nat} {a b:List DV} (h:a.length+b.length<=lim):Be sz (.list sz a) (.list sz b)=some (.list sz (a++b)):=by
 simp [Be,h]
theorem A6O {A X:Type} {l:List α} {P:Int->A->Option X} {I:Nat->A->Prop} {F:List α -> A->Option X} (stop:∀ a,I l.length a->P l.length a=F [] a) (step:∀ (i:Nat) (h:i<l.length) a,I i a->(∀ a',I (i+1) a'->P ((i:Int)+1) a'=F (l.drop (i+1)) a')->P i a=F (l[i]::l.drop (i+1)) a) :
 ∀ a,I 0 a->P 0 a=F l a:=by
 have key:∀ (n i:Nat) a,i+n=l.length->I i a->P i a=F (l.drop i) a:=by
  intro n
  induction n with
  | zero =>
    intro i a hi ha;have:i=l.length:=by omega
    subst this;rw [stop a ha,zPq]
  | succ n ih =>
    intro i a hi ha;have h:i<l.length:=by omega
    rw [zjq h];refine step i h a ha fun a' ha' => ?_
    have:=ih (i+1) a' (by omega) ha'
    push_cast at this;exact this
 intro a ha;have:=key l.length 0 a (by omega) ha
 simpa using this
theorem Lh {X:Type} {l:List α} {P:Int->Option X} {f : α -> Bool} {y n:X} (stop:P l.length=some y) (step:∀ (i:Nat) (h:i<l.length),P i=if f l[i]=true then P ((i:Int)+1) else some n):P 0=some (if l.all f=true then y else n):=by
 have:=A6O (l:=l) (P:=fun i (_:Unit)=>P i) (I:=fun _ _=>True) (F:=fun l _=>some (if l.all f=true then y else n)) (fun _ _=>by simpa using stop)
  (fun i h a _ ih=>by
    rw [step i h];have h2:=ih () trivial;rw [h2];simp only [ynq,z3q]
    by_cases h3:f l[i]=true <;> simp [h3]) () trivial
 exact this
theorem JU {A X:Type} {l:List α} {P:Int->A->Option X} {g:A -> α -> A} {fin:A->Option X} {I:Nat->A->Prop} (stop:∀ a,I l.length a->P l.length a=fin a) (step:∀ (i:Nat) (h:i<l.length) a,I i a->P i a=P ((i:Int)+1) (g a l[i])/\I (i+1) (g a l[i])):∀ a,I 0 a->P 0 a=fin (l.foldl g a):=by
 refine A6O (F:=fun l a=>fin (l.foldl g a)) (fun a ha=>by simpa using stop a ha) fun i h a ha ih => ?_
 obtain ⟨h1,h2⟩:=step i h a ha;rw [h1,ih _ h2];rfl
theorem SQ {X:Type} [DecidableEq α] {l m:List α} (hl:l.length=m.length) {P:Int->Option X} {y n:X} (stop:P l.length=some y) (step:∀ (i:Nat) (h:i<l.length),P i=if l[i]=m[i]'(by omega) then P ((i:Int)+1) else some n):P 0=some (if l=m then y else n):=by
 have key:∀ (k i:Nat),i+k=l.length->P i=some (if l.drop i=m.drop i then y else n):=by
  intro k
  induction k with
  | zero =>
    intro i hi;have:i=l.length:=by omega
    subst this;rw [stop,zPq,zNq (by omega),if_pos rfl]
  | succ k ih =>
    intro i hi;have h:i<l.length:=by omega
    have h':i<m.length:=by omega
    have h2:=ih (i+1) (by omega)
    push_cast at h2;have e1:l.drop i=l[i]::l.drop (i+1):=zjq h;have e2:m.drop i=m[i]::m.drop (i+1):=zjq h';have e3:(l.drop i=m.drop i) ↔ (l[i]=m[i]/\l.drop (i+1)=m.drop (i+1)):=by rw [e1,e2,List.cons.injEq]
    rw [step i h,h2]
    by_cases h3:l[i]=m[i] <;> by_cases h4:l.drop (i+1)=m.drop (i+1) <;> simp only [e3,h3,h4,true_and,and_true,false_and,and_false,if_true,if_false]
 have:=key l.length 0 (by omega)
 simpa using this
theorem iJ {l:List α} {P:Int->Option DV} {f : α -> Bool} (stop:P l.length=some (.bool true)) (step:∀ (i:Nat) (h:i<l.length),P i=if f l[i]=true then P ((i:Int)+1) else some (.bool false)):P 0=some (.bool (l.all f)):=by
 rw [Lh stop step];cases l.all f <;> rfl
theorem zQ {l:List α} {P:Int->Option DV} {f : α -> Bool} (stop:P l.length=some (.bool false)) (step:∀ (i:Nat) (h:i<l.length),P i=if f l[i]=true then some (.bool true) else P ((i:Int)+1)):P 0=some (.bool (l.any f)):=by
 have:=Lh (l:=l) (P:=P) (f:=fun x => !f x) (y := .bool false) (n := .bool true) stop (fun i h=>by rw [step i h];cases f l[i] <;> rfl)
 rw [this,show l.any f = !l.all (fun x => !f x) by rw [List.all_eq_not_any_not];simp]
 cases l.all (fun x => !f x) <;> rfl
theorem Xl [DecidableEq α] {l m:List α} (hl:l.length=m.length) {P:Int->Option DV} (stop:P l.length=some (.bool true)) (step:∀ (i:Nat) (h:i<l.length),P i=if l[i]=m[i]'(by omega) then P ((i:Int)+1) else some (.bool false)):P 0=some (.bool (decide (l=m))):=by
 rw [SQ hl stop step]
 by_cases h:l=m <;> simp [h]
end Go.Su

/-
 FROM A READING TO DATA: what an argument reads as lies in memory as plain data.
-/
namespace Go.Su
mutual
def AZ {H:Type}:DataW H->Nat
 | .lit (.string bytes)=>bytes.length+1
 | .lit _=>1
 | .nil=>1
 | .ptr d=>AZ d+1
 | .slice elems spare=>H_ elems+H_ spare+1
 | .agg parts=>H_ parts+1
 | .iface _ d=>AZ d+1
 | .map entries=>QW entries+1
 | .held _=>1
def H_ {H:Type}:List (DataW H)->Nat
 | []=>0
 | d::r=>AZ d+H_ r
def QW {H:Type}:List (Lit × DataW H)->Nat
 | []=>0
 | x::r=>wL x+QW r
def wL {H:Type}:Lit × DataW H->Nat
 | (.string bytes,d)=>bytes.length+AZ d+1
 | (_,d)=>AZ d+1
end
variable (w:World)
def aW:X6:=fun b _=>b<w.heap.size
section
variable {H:Type} {enc:TypeId × Value->H} {P:Program} {w:World} {held:Bool}
abbrev Rd (enc:TypeId × Value->H) (P:Program) (w:World) (held:Bool):Nat->TypeId->List Value->Option (DataW H × List MemPlace):=DataW.trod enc P w 0 (fun _=>true) held
theorem B1Q {l:List (DataW H)} {m:List Nat} (h1:m.length=l.length) (h2:∀ (i:Nat) (a:Nat) (d:DataW H),m[i]?=some a->l[i]?=some d->a<=AZ d):m.sum<=H_ l:=by
 induction l generalizing m with
 | nil=>cases m <;> simp_all
 | cons d l ih =>
   cases m with
   | nil=>simp at h1
   | cons a m =>
     simp only [znq,H_];have h3:=h2 0 a d rfl rfl;have h4:=ih (m:=m) (by simpa using h1) fun i a d ha hd=>h2 (i+1) a d (by simpa using ha) (by simpa using hd)
     omega
theorem add_block (a:Addr) (k:Nat):(a.add k).block=a.block:=by unfold Addr.add;split <;> rfl
theorem B7I (a:Addr) (k:Nat):(a.add k).off=a.off+k:=by unfold Addr.add;split <;> simp_all
variable {cs:List Value}
theorem A9q {a:Addr} {n:Nat} (h:w.cells? 0 a n=some cs) (hn:0<n):a.spot=none/\cs.length=n/\At (aW w) w.heap a.block a.off cs:=by
 obtain ⟨-,hl,hc⟩:=World.cells?_some h;have hs:a.spot=none:=by
  have h0:=hc 0 hn;have:cs[0]?=some (cs[0]'(by omega)):=z2q (by omega)
  rw [this] at h0;unfold World.cell? at h0
  split at h0
  ·split at h0
   ·cases h0
   ·rename_i hsp
    simpa [Addr.add] using hsp
  ·cases h0
 refine ⟨hs,hl,fun j v hv => ?_⟩
 have hj:j<n:=by rw [<- hl];exact (z1q.1 hv).1
 have h1:=hc j hj;have e:a.add j=⟨a.block,a.off+j,none⟩:=by
  unfold Addr.add
  split
  ·rename_i h0;cases a;simp only at hs;subst hs;simp [h0]
  ·rfl
 rw [e,Sl,hv] at h1;refine ⟨h1, ?_⟩;unfold Su.hc at h1
 split at h1
 ·rename_i hb
  exact (z0q.1 hb).1
 ·cases h1
variable {t:TypeId} {fuel:Nat} {x:DataW H × List MemPlace}
theorem WM {α : Type} {e : α -> DV} {sz : α -> Nat} {el:TypeId} (ht:P.underlying t=some (.slice el)) (hz:0<P.cellsOf el) (h:∀ n cs x,n<fuel->Rd enc P w held n el cs=some x->∃ a : α,RC (aW w) w.heap (e a) cs/\sz a<=AZ x.1) (hr:Rd enc P w held fuel t cs=some x) :
 ∃ l:List α,RC (aW w) w.heap (.list (P.cellsOf el) (l.map e)) cs/\(l.map sz).sum+1<=AZ x.1:=by
 rcases DataW.trod_slice ht hr with ⟨rfl,rfl⟩ | ⟨a,len,cap,elems,rest,n,rfl,rfl,rfl,hb,hlc,hcm,hel,hi,hsp,-⟩
 ·refine ⟨[], ?_,by simp [AZ]⟩
  simp only [RC,List.map_nil];exact ⟨none,0,0,rfl,rfl,zbq _,fun _=>rfl,by simp,by simp⟩
 ·have each:∀ i:Fin len,∃ y : α,((i.1=0->a.spot=none)/\Elem (aW w) w.heap (P.cellsOf el) a.block (a.off+i.1 * P.cellsOf el) (e y))/\∀ d,(elems.map (·.1))[i.1]?=some d->sz y<=AZ d:=by
   intro i;have h1:=hi i.1 i.2;have h2:elems[i.1]?=some (elems[i.1]'(by omega)):=z2q (by omega)
   rw [h2] at h1;obtain ⟨cs',h3,h4⟩:=zRq.1 h1;obtain ⟨y,h5,h6⟩:=h n cs' _ (Nat.lt_succ_self n) h4;obtain ⟨q1,q2,q3⟩:=A9q h3 hz;rw [add_block,B7I] at q3;refine ⟨y,⟨fun h0=>by rw [h0] at q1;simpa [Addr.add] using q1,cs',q2,q3,h5⟩,fun d hd => ?_⟩
   rw [zcq,h2] at hd;simp only [zyq,Option.some.injEq] at hd;rw [<- hd];exact h6
  let f:Fin len -> α := fun i=>(each i).choose
  have hf:=fun i:Fin len=>(each i).choose_spec
  refine ⟨List.ofFn f, ?_, ?_⟩
  ·simp only [RC]
   refine ⟨some a,len,cap,rfl,by simp,hlc,by simp,fun _=>hz,fun y hy => ?_⟩
   simp only [Option.some.injEq] at hy;subst hy;refine ⟨fun zC => ?_, ?_⟩
   ·by_cases hl:0<len
    ·exact (hf ⟨0,hl⟩).1.1 rfl
    ·obtain ⟨r1,r2⟩:=hsp rfl
     have h1:=r2 0 (by omega)
     have h2:rest[0]?=some (rest[0]'(by omega)):=z2q (by omega)
     rw [h2] at h1;obtain ⟨cs',h3,-⟩:=zRq.1 h1;have hl0:len=0:=by omega
     have:=(A9q h3 hz).1;simpa [Addr.add,hl0] using this
   ·rw [Dp]
    intro i d hd;rw [zcq,zgq] at hd;obtain ⟨y,hy,rfl⟩:=hd;have M4:i<len:=by have:=(z1q.1 hy).1;simpa using this
    rw [y7q,dif_pos M4] at hy;simp only [Option.some.injEq] at hy;subst hy;exact (hf ⟨i,M4⟩).1.2
  ·simp only [AZ]
   have:=B1Q (l:=elems.map (·.1)) (m:=(List.ofFn f).map sz) (by simp [hel]) fun i b d hb hd=>by
    rw [zcq,zgq] at hb;obtain ⟨y,hy,rfl⟩:=hb;have M4:i<len:=by have:=(z1q.1 hy).1;simpa using this
    rw [y7q,dif_pos M4] at hy;simp only [Option.some.injEq] at hy;subst hy;exact (hf ⟨i,M4⟩).2 d hd
   omega
theorem V6 {S:X6} {h:Heap}:∀ {a b:List DV} {p q:List Value},Gq S h a p->Gq S h b q->Gq S h (a++b) (p++q)
 | [],b,p,q,ha,hb=>by simp only [Gq] at ha;subst ha;simpa using hb
 | d::a,b,p,q,ha,hb=>by
   simp only [Gq] at ha;obtain ⟨v,vs',rfl,h1,h2,h3⟩:=ha;simp only [zQq,Gq];exact ⟨v,vs'++q,rfl,h1,h2,V6 h3 hb⟩
theorem BZ {S:X6} {h:Heap} {d:DV} (hd:K6 d=true) (hr:RC S h d cs):Gq S h [d] cs:=by
 obtain ⟨v,rfl⟩:=KS hd hr;exact ⟨v,[],rfl,hd,hr,rfl⟩
theorem iP {fs:Array Field} (ht:P.underlying t=some (.struct fs)) (hr:Rd enc P w held fuel t cs=some x) :
 ∃ (n:Nat) (ds:List (DataW H)),fuel=n+1/\AZ x.1=H_ ds+1/\cs.length=P.cellsOf t/\ds.length=fs.size /\
   ∀ (i:Nat) f,fs[i]?=some f->∃ y,Rd enc P w held n f.type ((cs.drop f.offset).take (P.cellsOf f.type))=some y/\ds[i]?=some y.1:=by
 obtain ⟨xs,n,rfl,rfl,h1,h2,h3⟩:=DataW.trod_struct ht hr;refine ⟨n,xs.map (·.1),rfl,by simp [AZ],h1,by simpa using h2,fun i f hf => ?_⟩
 have hi:i<xs.length:=by rw [h2];exact (z0q.1 hf).1
 refine ⟨xs[i], ?_,by simp [z2q hi]⟩
 have h4:=h3 i f hf;rw [z2q hi] at h4;exact h4
theorem MQ {k:IntKind} (ht:P.underlying t=some (.int k)) (hr:Rd enc P w held fuel t cs=some x):∃ n:Int,RC (aW w) w.heap (.int k n) cs/\(Lit.int k n).wf=true/\1<=AZ x.1:=by
 obtain ⟨n,rfl,rfl,hw⟩:=DataW.trod_int ht hr;exact ⟨n,by simp only [RC],hw,by simp [AZ]⟩
theorem B8y (ht:P.underlying t=some .bool) (hr:Rd enc P w held fuel t cs=some x):∃ b:Bool,RC (aW w) w.heap (.bool b) cs/\1<=AZ x.1:=by
 obtain ⟨b,rfl,rfl⟩:=DataW.trod_bool ht hr;exact ⟨b,by simp only [RC],by simp [AZ]⟩
theorem zb (ht:P.underlying t=some .string) (hr:Rd enc P w held fuel t cs=some x):∃ s:ByteArray,RC (aW w) w.heap (.str s) cs/\s.size+1<=AZ x.1:=by
 obtain ⟨s,rfl,rfl,hw⟩:=DataW.trod_string ht hr;exact ⟨s,by simp only [RC],by simp [AZ]⟩
theorem B3z (d:DataW H):1<=AZ d:=by
 cases d with
 | lit l=>cases l <;> simp [AZ]
 | _=>simp [AZ]
end
end Go.Su

/-
 FROM A READING TO DATA: the program's types, one by one. By program.
-/
namespace Go.Su
variable (P:Program) (t:TypeId)
def Oj:Prop:=P.underlying t=some (.int .i64)/\P.cellsOf t=1
def A0p:Prop:=P.underlying t=some .string/\P.cellsOf t=1
def B3k:Prop:=P.underlying t=some .bool/\P.cellsOf t=1
def SliceAt (el:TypeId):Prop:=P.underlying t=some (.slice el)/\P.cellsOf t=1
def A30:Prop:=∃ f0 f1:Field,P.underlying t=some (.struct #[f0,f1])/\P.cellsOf t=2/\(Oj P f0.type/\f0.offset=0)/\(Oj P f1.type/\f1.offset=1)
def A8b:Prop:=∃ el,SliceAt P t el/\Oj P el
section
variable {H:Type} {enc:TypeId × Value->H} {P:Program} {w:World} {held:Bool} {t:TypeId} {fuel:Nat} {cs:List Value} {x:DataW H × List MemPlace}
theorem B8z (A:A8b P t) (hr:Rd enc P w held fuel t cs=some x):∃ l:List Int,RC (aW w) w.heap (J9 l) cs/\l.length+1<=AZ x.1:=by
 obtain ⟨el,A1,A2⟩:=A;obtain ⟨l,h1,h2⟩:=WM (e:=fun n:Int => .int .i64 n) (sz:=fun _=>1) A1.1 (by rw [A2.2];omega) (fun n cs x _ h=>by obtain ⟨n,h1,-,h2⟩:=MQ A2.1 h;exact ⟨n,h1,h2⟩) hr
 rw [A2.2] at h1;have h3:∀ l:List Int,(l.map fun _=>1).sum=l.length:=by
  intro l
  induction l with
  | nil=>rfl
  | cons a l ih=>simp only [zmq,znq,ih,zaq];omega
 rw [h3] at h2;exact ⟨l,h1,h2⟩
theorem B1v (A:A30 P t) (hr:Rd enc P w held fuel t cs=some x):∃ a b:Int,Gq (aW w) w.heap [.int .i64 a, .int .i64 b] cs/\1<=AZ x.1:=by
 obtain ⟨f0,f1,hu,hc,⟨t0,o0⟩,t1,o1⟩:=A;obtain ⟨n,ds,rfl,hb,hl,hd,hf⟩:=iP hu hr;obtain ⟨y0,r0,d0⟩:=hf 0 f0 rfl;obtain ⟨y1,r1,d1⟩:=hf 1 f1 rfl;rw [o0,t0.2] at r0;rw [o1,t1.2] at r1;rw [hc] at hl;obtain ⟨k,q0,-,b0⟩:=MQ t0.1 r0;obtain ⟨m,q1,-,b1⟩:=MQ t1.1 r1;refine ⟨k,m, ?_,B3z _⟩;have e:cs=(cs.drop 0).take 1++(cs.drop 1).take 1:=by
  match cs,hl with
  | [a,b],_=>rfl
 rw [e];exact V6 (a:=[_]) (BZ rfl q0) (BZ rfl q1)
def A2N (P:Program) (t:TypeId):Prop:=∃ f0 f1 f2:Field,P.underlying t=some (.struct #[f0,f1,f2])/\P.cellsOf t=3/\(Oj P f0.type/\f0.offset=0)/\(Oj P f1.type/\f1.offset=1)/\(SliceAt P f2.type t/\f2.offset=2)
theorem A2N.cells (A:A2N P t):P.cellsOf t=3:=by obtain ⟨_,_,_,_,h,_⟩:=A;exact h
theorem B2N (A:A2N P t):∀ (fuel:Nat) (cs:List Value) (x:DataW H × List MemPlace),Rd enc P w held fuel t cs=some x->∃ a:Ty,RC (aW w) w.heap a.enc cs/\a.size<=AZ x.1:=by
 intro fuel
 induction fuel using Nat.strongRecOn with
 | ind fuel ih =>
   intro cs x hr;have A0:=A;obtain ⟨f0,f1,f2,hu,hc,⟨t0,o0⟩,⟨t1,o1⟩,t2,o2⟩:=A;obtain ⟨n,ds,rfl,hb,hl,hd,hf⟩:=iP hu hr;rw [hc] at hl;obtain ⟨y0,r0,d0⟩:=hf 0 f0 rfl;rw [o0,t0.2] at r0;obtain ⟨v0,q0,-,b0⟩:=MQ t0.1 r0;obtain ⟨y1,r1,d1⟩:=hf 1 f1 rfl;rw [o1,t1.2] at r1;obtain ⟨v1,q1,-,b1⟩:=MQ t1.1 r1;obtain ⟨y2,r2,d2⟩:=hf 2 f2 rfl;rw [o2,t2.2] at r2;obtain ⟨v2,q2,b2⟩:=WM (sz:=Ty.size) t2.1 (by rw [hc];omega) (fun n' cs x hn h=>ih n' (by omega) cs x h) r2
   rw [hc] at q2;refine ⟨.mk v0 v1 v2, ?_, ?_⟩
   ·rw [Ty.H8]
    simp only [RC,Ty.Ca,Ty.SV,Ty.Q6];have e:cs=(cs.drop 0).take 1++((cs.drop 1).take 1++((cs.drop 2).take 1)):=by
     match cs,hl with
     | [c0,c1,c2],_=>rfl
    rw [e];exact (V6 (a:=[_]) (BZ rfl q0) (V6 (a:=[_]) (BZ rfl q1) (BZ rfl q2)))
   ·rw [Ty.size_eq,hb]
    simp only [Ty.Ca,Ty.SV,Ty.Q6];have hs:ds=[y0.1,y1.1,y2.1]:=by
     have hd:ds.length=3:=hd
     match ds,hd,d0,d1,d2 with
     | [a0,a1,a2],_,d0,d1,d2=>simp_all
    rw [hs];simp only [H_];omega
def A3Z (P:Program) (t:TypeId):Prop:=∃ f0 f1 f2 f3 f4 f5:Field,P.underlying t=some (.struct #[f0,f1,f2,f3,f4,f5])/\P.cellsOf t=7/\(Oj P f0.type/\f0.offset=0)/\(A30 P f1.type/\f1.offset=1)/\(A0p P f2.type/\f2.offset=3)/\(Oj P f3.type/\f3.offset=4)/\(A0p P f4.type/\f4.offset=5)/\(SliceAt P f5.type t/\f5.offset=6)
theorem A3Z.cells (A:A3Z P t):P.cellsOf t=7:=by obtain ⟨_,_,_,_,_,_,_,h,_⟩:=A;exact h
theorem C0K (A:A3Z P t):∀ (fuel:Nat) (cs:List Value) (x:DataW H × List MemPlace),Rd enc P w held fuel t cs=some x->∃ a:D5,RC (aW w) w.heap a.enc cs/\a.N8<=AZ x.1:=by
 intro fuel
 induction fuel using Nat.strongRecOn with
 | ind fuel ih =>
   intro cs x hr;have A0:=A;obtain ⟨f0,f1,f2,f3,f4,f5,hu,hc,⟨t0,o0⟩,⟨t1,o1⟩,⟨t2,o2⟩,⟨t3,o3⟩,⟨t4,o4⟩,t5,o5⟩:=A;obtain ⟨n,ds,rfl,hb,hl,hd,hf⟩:=iP hu hr;rw [hc] at hl;obtain ⟨y0,r0,d0⟩:=hf 0 f0 rfl;rw [o0,t0.2] at r0;obtain ⟨v0,q0,-,b0⟩:=MQ t0.1 r0;obtain ⟨y1,r1,d1⟩:=hf 1 f1 rfl;obtain ⟨g10,g11,gu1,gc1,gr1⟩:=id t1;rw [o1,gc1] at r1;obtain ⟨v1,v1b,q1,b1⟩:=B1v t1 r1;obtain ⟨y2,r2,d2⟩:=hf 2 f2 rfl;rw [o2,t2.2] at r2;obtain ⟨v2,q2,b2⟩:=zb t2.1 r2;obtain ⟨y3,r3,d3⟩:=hf 3 f3 rfl;rw [o3,t3.2] at r3;obtain ⟨v3,q3,-,b3⟩:=MQ t3.1 r3;obtain ⟨y4,r4,d4⟩:=hf 4 f4 rfl;rw [o4,t4.2] at r4;obtain ⟨v4,q4,b4⟩:=zb t4.1 r4;obtain ⟨y5,r5,d5⟩:=hf 5 f5 rfl;rw [o5,t5.2] at r5;obtain ⟨v5,q5,b5⟩:=WM (sz:=D5.N8) t5.1 (by rw [hc];omega) (fun n' cs x hn h=>ih n' (by omega) cs x h) r5
   rw [hc] at q5;refine ⟨.mk v0 v1 v1b v2 v3 v4 v5, ?_, ?_⟩
   ·rw [D5.H8]
    simp only [RC,D5.Ca,D5.Wy,D5.Ww,D5.Cb,D5.SV,D5.Ls,D5.Q6];have e:cs=(cs.drop 0).take 1++((cs.drop 1).take 2++((cs.drop 3).take 1++((cs.drop 4).take 1++((cs.drop 5).take 1++((cs.drop 6).take 1))))):=by
     match cs,hl with
     | [c0,c1,c2,c3,c4,c5,c6],_=>rfl
    rw [e];exact (V6 (a:=[_]) (BZ rfl q0) (V6 (a:=[_,_]) (q1) (V6 (a:=[_]) (BZ rfl q2) (V6 (a:=[_]) (BZ rfl q3) (V6 (a:=[_]) (BZ rfl q4) (BZ rfl q5))))))
   ·rw [D5.Ak,hb]
    simp only [D5.Ca,D5.Wy,D5.Ww,D5.Cb,D5.SV,D5.Ls,D5.Q6];have hs:ds=[y0.1,y1.1,y2.1,y3.1,y4.1,y5.1]:=by
     have hd:ds.length=6:=hd
     match ds,hd,d0,d1,d2,d3,d4,d5 with
     | [a0,a1,a2,a3,a4,a5],_,d0,d1,d2,d3,d4,d5=>simp_all
    rw [hs];simp only [H_];omega
def B9u (P:Program) (t:TypeId):Prop:=∃ f0 f1 f2 f3 f4 f5 f6 f7 f8 f9 f10 f11 f12 f13 f14:Field,P.underlying t=some (.struct #[f0,f1,f2,f3,f4,f5,f6,f7,f8,f9,f10,f11,f12,f13,f14])/\P.cellsOf t=20/\(Oj P f0.type/\f0.offset=0)/\(A30 P f1.type/\f1.offset=1)/\(A0p P f2.type/\f2.offset=3)/\(A0p P f3.type/\f3.offset=4)/\(Oj P f4.type/\f4.offset=5)/\(A0p P f5.type/\f5.offset=6)/\(Oj P f6.type/\f6.offset=7)/\(Oj P f7.type/\f7.offset=8)/\(B3k P f8.type/\f8.offset=9)/\(A8b P f9.type/\f9.offset=10)/\(A2N P f10.type/\f10.offset=11)/\(A2N P f11.type/\f11.offset=14)/\((∃ el,SliceAt P f12.type el/\A2N P el)/\f12.offset=17)/\((∃ el,SliceAt P f13.type el/\A3Z P el)/\f13.offset=18)/\(SliceAt P f14.type t/\f14.offset=19)
theorem C15 (A:B9u P t):∀ (fuel:Nat) (cs:List Value) (x:DataW H × List MemPlace),Rd enc P w held fuel t cs=some x->∃ a:Tm,RC (aW w) w.heap a.enc cs/\a.N8<=AZ x.1:=by
 intro fuel
 induction fuel using Nat.strongRecOn with
 | ind fuel ih =>
   intro cs x hr;have A0:=A;obtain ⟨f0,f1,f2,f3,f4,f5,f6,f7,f8,f9,f10,f11,f12,f13,f14,hu,hc,⟨t0,o0⟩,⟨t1,o1⟩,⟨t2,o2⟩,⟨t3,o3⟩,⟨t4,o4⟩,⟨t5,o5⟩,⟨t6,o6⟩,⟨t7,o7⟩,⟨t8,o8⟩,⟨t9,o9⟩,⟨t10,o10⟩,⟨t11,o11⟩,⟨t12,o12⟩,⟨t13,o13⟩,t14,o14⟩:=A;obtain ⟨n,ds,rfl,hb,hl,hd,hf⟩:=iP hu hr;rw [hc] at hl;obtain ⟨y0,r0,d0⟩:=hf 0 f0 rfl;rw [o0,t0.2] at r0;obtain ⟨v0,q0,-,b0⟩:=MQ t0.1 r0;obtain ⟨y1,r1,d1⟩:=hf 1 f1 rfl;obtain ⟨g10,g11,gu1,gc1,gr1⟩:=id t1;rw [o1,gc1] at r1;obtain ⟨v1,v1b,q1,b1⟩:=B1v t1 r1;obtain ⟨y2,r2,d2⟩:=hf 2 f2 rfl;rw [o2,t2.2] at r2;obtain ⟨v2,q2,b2⟩:=zb t2.1 r2;obtain ⟨y3,r3,d3⟩:=hf 3 f3 rfl;rw [o3,t3.2] at r3;obtain ⟨v3,q3,b3⟩:=zb t3.1 r3;obtain ⟨y4,r4,d4⟩:=hf 4 f4 rfl;rw [o4,t4.2] at r4;obtain ⟨v4,q4,-,b4⟩:=MQ t4.1 r4;obtain ⟨y5,r5,d5⟩:=hf 5 f5 rfl;rw [o5,t5.2] at r5;obtain ⟨v5,q5,b5⟩:=zb t5.1 r5;obtain ⟨y6,r6,d6⟩:=hf 6 f6 rfl;rw [o6,t6.2] at r6;obtain ⟨v6,q6,-,b6⟩:=MQ t6.1 r6;obtain ⟨y7,r7,d7⟩:=hf 7 f7 rfl;rw [o7,t7.2] at r7;obtain ⟨v7,q7,-,b7⟩:=MQ t7.1 r7;obtain ⟨y8,r8,d8⟩:=hf 8 f8 rfl;rw [o8,t8.2] at r8;obtain ⟨v8,q8,b8⟩:=B8y t8.1 r8;obtain ⟨y9,r9,d9⟩:=hf 9 f9 rfl;obtain ⟨e9,s9,z9⟩:=id t9;rw [o9,s9.2] at r9;obtain ⟨v9,q9,b9⟩:=B8z t9 r9;obtain ⟨y10,r10,d10⟩:=hf 10 f10 rfl;rw [o10,t10.cells] at r10;obtain ⟨v10,Il,b10⟩:=B2N t10 _ _ _ r10;rw [Ty.H8] at Il;simp only [RC] at Il;obtain ⟨y11,r11,d11⟩:=hf 11 f11 rfl;rw [o11,t11.cells] at r11;obtain ⟨v11,q11,b11⟩:=B2N t11 _ _ _ r11;rw [Ty.H8] at q11;simp only [RC] at q11;obtain ⟨y12,r12,d12⟩:=hf 12 f12 rfl;obtain ⟨e12,s12,z12⟩:=t12;rw [o12,s12.2] at r12;obtain ⟨v12,q12,b12⟩:=WM (sz:=Ty.size) s12.1 (by rw [z12.cells];omega) (fun n' cs x hn h=>B2N z12 n' cs x h) r12
   rw [z12.cells] at q12;obtain ⟨y13,r13,d13⟩:=hf 13 f13 rfl;obtain ⟨e13,s13,z13⟩:=t13;rw [o13,s13.2] at r13;obtain ⟨v13,q13,b13⟩:=WM (sz:=D5.N8) s13.1 (by rw [z13.cells];omega) (fun n' cs x hn h=>C0K z13 n' cs x h) r13
   rw [z13.cells] at q13;obtain ⟨y14,r14,d14⟩:=hf 14 f14 rfl;rw [o14,t14.2] at r14;obtain ⟨v14,q14,b14⟩:=WM (sz:=Tm.N8) t14.1 (by rw [hc];omega) (fun n' cs x hn h=>ih n' (by omega) cs x h) r14
   rw [hc] at q14;refine ⟨.mk v0 v1 v1b v2 v3 v4 v5 v6 v7 v8 v9 v10 v11 v12 v13 v14, ?_, ?_⟩
   ·rw [Tm.H8]
    simp only [RC,Tm.Ca,Tm.Wy,Tm.Ww,Tm.Cb,Tm.Gr,Tm.SV,Tm.Ls,Tm.pJ,Tm.SN,Tm.eG,Tm.GX,Tm.av,Tm.a_,Tm.O_,Tm.Et,Tm.Q6];have e:cs=(cs.drop 0).take 1++((cs.drop 1).take 2++((cs.drop 3).take 1++((cs.drop 4).take 1++((cs.drop 5).take 1++((cs.drop 6).take 1++((cs.drop 7).take 1++((cs.drop 8).take 1++((cs.drop 9).take 1++((cs.drop 10).take 1++((cs.drop 11).take 3++((cs.drop 14).take 3++((cs.drop 17).take 1++((cs.drop 18).take 1++((cs.drop 19).take 1)))))))))))))):=by
     match cs,hl with
     | [c0,c1,c2,c3,c4,c5,c6,c7,c8,c9,c10,c11,c12,c13,c14,c15,c16,c17,c18,c19],_=>rfl
    rw [e];exact (V6 (a:=[_]) (BZ rfl q0) (V6 (a:=[_,_]) (q1) (V6 (a:=[_]) (BZ rfl q2) (V6 (a:=[_]) (BZ rfl q3) (V6 (a:=[_]) (BZ rfl q4) (V6 (a:=[_]) (BZ rfl q5) (V6 (a:=[_]) (BZ rfl q6) (V6 (a:=[_]) (BZ rfl q7) (V6 (a:=[_]) (BZ rfl q8) (V6 (a:=[_]) (BZ rfl q9) (V6 (a:=[_,_,_]) (Il) (V6 (a:=[_,_,_]) (q11) (V6 (a:=[_]) (BZ rfl q12) (V6 (a:=[_]) (BZ rfl q13) (BZ rfl q14)))))))))))))))
   ·rw [Tm.Ak,hb]
    simp only [Tm.Ca,Tm.Wy,Tm.Ww,Tm.Cb,Tm.Gr,Tm.SV,Tm.Ls,Tm.pJ,Tm.SN,Tm.eG,Tm.GX,Tm.av,Tm.a_,Tm.O_,Tm.Et,Tm.Q6];have hs:ds=[y0.1,y1.1,y2.1,y3.1,y4.1,y5.1,y6.1,y7.1,y8.1,y9.1,y10.1,y11.1,y12.1,y13.1,y14.1]:=by
     have hd:ds.length=15:=hd
     match ds,hd,d0,d1,d2,d3,d4,d5,d6,d7,d8,d9,d10,d11,d12,d13,d14 with
     | [a0,a1,a2,a3,a4,a5,a6,a7,a8,a9,a10,a11,a12,a13,a14],_,d0,d1,d2,d3,d4,d5,d6,d7,d8,d9,d10,d11,d12,d13,d14=>simp_all
    rw [hs];simp only [H_];omega
end
end Go.Su

/-
 TYPES: what is said of them.
-/
namespace Go.Su
def arity (k:Int):Int :=
 if k=1\/k=2\/k=3\/k=4\/k=5\/k=6 then 0 else if k=8 then 1 else if k=7\/k=9 then 2 else -1
def Ty.right:Ty->Bool
 | .mk k n ks=>decide (arity k=ks.length) && decide (0<=n) && decide (n<=1048576) && (decide (k=6) || decide (n=0)) && (ks.map Ty.right).all id
variable (t:Ty)
theorem Ty.right_eq:t.right=(decide (arity t.kind=t.kids.length) && decide (0<=t.n) && decide (t.n<=1048576) && (decide (t.kind=6) || decide (t.n=0)) && t.kids.all Ty.right):=by
 cases t;rw [Ty.right];simp [zLq];rfl
def Ty.deep:Ty->Int->Bool
 | .mk _ _ ks,n=>decide (n<=0) || (ks.map fun k=>Ty.deep k (n-1)).any id
def Ty.MS:Ty->List Int->List Int
 | .mk k n ks,l=>ks.foldl (fun l k=>Ty.MS k l) (if k=6/\n∉l then l++[n] else l)
def Ty.vars:List Int:=t.MS []
theorem Ty.A7i (l:List Int):t.MS l=t.kids.foldl (fun l k=>k.MS l) (if t.kind=6/\t.n∉l then l++[t.n] else l):=by
 cases t;rw [Ty.MS];rfl
theorem Ty.B7Q (n:Int):t.deep n=(decide (n<=0) || t.kids.any fun k=>k.deep (n-1)):=by
 cases t;rw [Ty.deep];simp [List.any_map]
theorem Ty.B3h:∀ l:List Int,(t.MS l).length<=l.length+t.size:=by
 induction t using Ty.ind with
 | h t ih =>
   intro l;rw [Ty.A7i];have key:∀ (ks:List Ty),(∀ k∈ks,∀ l:List Int,(k.MS l).length<=l.length+k.size)->∀ l:List Int,(ks.foldl (fun l k=>k.MS l) l).length<=l.length+(ks.map Ty.size).sum:=by
    intro ks
    induction ks with
    | nil=>intro _ l;simp
    | cons k ks ihk =>
      intro h l;simp only [zYq,zmq,znq];have h1:=ihk (fun k' Ik=>h k' (z4q _ Ik)) (k.MS l)
      have h2:=h k (z6q ..) l;omega
   have h1:=key t.kids ih (if t.kind=6/\t.n∉l then l++[t.n] else l)
   rw [Ty.size_eq];have h2:(if t.kind=6/\t.n∉l then l++[t.n] else l).length<=l.length+1:=by split <;> simp
   omega
def Ty.thin:Ty->Bool
 | .mk _ _ ks=>decide (ks.length<=lim) && (ks.map Ty.thin).all id
theorem Ty.Kq:t.thin=(decide (t.kids.length<=lim) && t.kids.all Ty.thin):=by
 cases t;rw [Ty.thin];simp [zLq];rfl
theorem Ty.D_ (h:t.thin=true):t.kids.length<4294967297:=by
 rw [Ty.Kq] at h;simp only [z3q,decide_eq_true_eq] at h;have:=h.1;unfold lim at this;omega
theorem Ty.Gg {t k:Ty} (h:t.thin=true) (hk:k∈t.kids):k.thin=true:=by
 rw [Ty.Kq] at h;simp only [z3q,z8q] at h;exact h.2 k hk
theorem Ty.Dk {t:Ty}:t.size<=lim->t.thin=true:=by
 induction t using Ty.ind with
 | h t ih =>
   intro h;rw [Ty.Kq];simp only [z3q,decide_eq_true_eq,z8q];refine ⟨by have:=t.A4Q;omega,fun k hk=>ih k hk (by have:=Ty.Dy hk;omega)⟩
theorem A2Q (k:Int):arity k<=2:=by unfold arity;split <;> (try split) <;> (try split) <;> omega
theorem Ty.Bq {t:Ty}:t.right=true->t.thin=true:=by
 induction t using Ty.ind with
 | h t ih =>
   intro h;rw [Ty.right_eq] at h;simp only [z3q,decide_eq_true_eq,z8q] at h;rw [Ty.Kq];simp only [z3q,decide_eq_true_eq,z8q];have:=A2Q t.kind;refine ⟨by unfold lim;omega,fun k hk=>ih k hk (h.2 k hk)⟩
def Ty.Kr:Ty->Nat
 | .mk k _ ks=>(if k=6 then 1 else 0)+(ks.map Ty.Kr).sum
theorem Ty.A0i:t.Kr=(if t.kind=6 then 1 else 0)+(t.kids.map Ty.Kr).sum:=by
 cases t;rw [Ty.Kr];rfl
theorem B3c {α : Type} {l:List α} {f g : α -> Nat} (h:∀ a∈l,f a<=g a):(l.map f).sum<=(l.map g).sum:=by
 induction l with
 | nil=>simp
 | cons a l ih =>
   simp only [zmq,znq];have:=h a (z6q ..);have:=ih fun b hb=>h b (z4q _ hb)
   omega
theorem Ty.XH:t.Kr<=t.size:=by
 induction t using Ty.ind with
 | h t ih =>
   rw [Ty.A0i,Ty.size_eq];have:=B3c ih
   split <;> omega
end Go.Su

/-
 THE DATA MACHINE: iterators over trees: which elements come.
-/
namespace Go.Su
def KA (f:DV->Option (List DV)):List DV->Option (List DV)
 | []=>some []
 | d::ds=>ob (f d) fun a=>ob (KA f ds) fun b=>some (a++b)
def BK (sz kf:Nat):Nat->DV->Option (List DV)
 | 0,_=>none
 | n+1,d =>
   match d with
   | .agg cs=>og (cs.length == sz) (match cs.getD kf .undef with
     | .list s ds=>og (s == sz && decide (ds.length<=lim)) (ob (KA (BK sz kf n) ds) fun l=>some (.agg cs::l))
     | _=>none)
   | _=>none
open Classical in
noncomputable def Rb (sz kf:Nat) (cs:List DV):Option (List DV) :=
 if h:∃ ds n,BK sz kf n (.agg cs)=some ds then some h.choose else none
theorem Zk {f g:DV->Option (List DV)} (h:∀ d l,f d=some l->g d=some l):∀ {ds l:List DV},KA f ds=some l->KA g ds=some l
 | [],l,H=>H
 | d::ds,l,H=>by
   simp only [KA] at H ⊢;obtain ⟨a,h1,H⟩:=A9 H;obtain ⟨b,h2,H⟩:=A9 H;rw [h _ _ h1,Zk h h2];exact H
theorem A8K {sz kf:Nat}:∀ {n:Nat} {d:DV} {l:List DV},BK sz kf n d=some l->BK sz kf (n+1) d=some l
 | 0,d,l,H=>by simp [BK] at H
 | n+1,d,l,H=>by
   cases d with
   | agg cs =>
     rw [BK] at H ⊢;obtain ⟨h1,H⟩:=F4 H;rw [h1];cases hk:cs.getD kf .undef with
     | list s ds =>
       rw [hk] at H;simp only at H ⊢;obtain ⟨h2,H⟩:=F4 H;rw [h2];obtain ⟨a,h3,H⟩:=A9 H;rw [Zk (fun d l h=>A8K h) h3]
       exact H
     | _=>rw [hk] at H;simp at H
   | _=>simp [BK] at H
variable {n:Nat} {d:DV} {l:List DV}
theorem WC {sz kf m:Nat} (h:n<=m) (H:BK sz kf n d=some l):BK sz kf m d=some l:=by
 induction m with
 | zero=>rw [zKq.1 h] at H;exact H
 | succ m ih =>
   rcases zrq m n with h1 | h1
   ·rw [show m+1=n by omega];exact H
   ·exact A8K (ih h1)
theorem A2W {sz kf:Nat} {cs ds:List DV} (H:BK sz kf n (.agg cs)=some ds):Rb sz kf cs=some ds:=by
 have h:∃ ds n,BK sz kf n (.agg cs)=some ds:=⟨ds,n,H⟩;unfold Rb;rw [dif_pos h];obtain ⟨m,hm⟩:=h.choose_spec;have h1:=WC (ztq n m) H;have h2:=WC (zvq m n) hm;rw [h1] at h2;exact h2.symm
theorem oV {sz kf:Nat} {cs ds:List DV} (H:Rb sz kf cs=some ds):∃ n,BK sz kf n (.agg cs)=some ds:=by
 unfold Rb at H
 split at H
 ·rename_i h
  simp only [Option.some.injEq] at H;rw [<- H];exact h.choose_spec
 ·cases H
structure XK (E:Env) (W:World) (E':Env) (W':World):Prop where
 size:W.heap.size<=W'.heap.size
 blk:∀ b,b<W.heap.size->(∀ o,E.O b o = .other)->W'.heap[b]?=W.heap[b]?/\∀ o,E'.O b o = .other
 sh:Y0 E.S W.heap E'.S W'.heap
variable {E:Env} {W:World}
theorem XK.trans {E1 E2:Env} {W1 W2:World} (h:XK E W E1 W1) (k:XK E1 W1 E2 W2):XK E W E2 W2:=by
 refine ⟨zFq h.size k.size,fun b hb ho => ?_,⟨fun b o hs=>k.sh.s b o (h.sh.s b o hs),fun b o v hs hv=>k.sh.c b o v (h.sh.s b o hs) (h.sh.c b o v hs hv)⟩⟩
 obtain ⟨h1,h2⟩:=h.blk b hb ho;obtain ⟨h3,h4⟩:=k.blk b (y0q hb h.size) h2;exact ⟨h3.trans h1,h4⟩
theorem XK.C1X {E':Env} {W':World} (P:Pr L8 E W.heap E' W'.heap) (hf:∀ b o,W.heap.size<=b->E.O b o = .other):XK E W E' W':=by
 refine ⟨P.size,fun b hb ho=>⟨?_,fun o=>P.WK hb (ho o)⟩,P.shut (by simp [L8]) hf⟩
 have hk:=P.blk b hb;have Ef:W.heap[b]?=some W.heap[b]:=zeq hb;rw [Ef] at hk ⊢;unfold U6 at hk
 split at hk
 ·rename_i hx;cases hx
 ·rename_i c T f hx
  simp only [Option.some.injEq] at hx;obtain ⟨c',h1,h2,h3⟩:=hk;rw [h1,hx]
  congr 2
  refine yaq fun o=>h3 o ?_
  rw [ho o];simp [L8]
 ·rename_i ob _ hx
  simp only [Option.some.injEq] at hx;rw [hx];exact hk (by rw [ho 0];simp [L8])
theorem TZ.alloc (o:Obj):TZ n E W (W.alloc o):=by
 refine ⟨by simp,fun b hb => .inl ?_,⟨rfl,rfl,rfl⟩⟩
 exact Go.RowKit.Below.heap_alloc _ _ _ hb
theorem XK.alloc (o:Obj) (hf:∀ b o,W.heap.size<=b->E.O b o = .other):XK E W E (W.alloc o):=by
 refine ⟨by simp,fun b hb ho=>⟨Go.RowKit.Below.heap_alloc _ _ _ hb,ho⟩,fun _ _ h=>h,fun b o' v hs hv => ?_⟩
 have hb:b<W.heap.size:=by
  rcases zrq b W.heap.size with h | h
  ·exact h
  ·have h9:=hf b o' h
   rw [show E.O b o' = .shut from hs] at h9;cases h9
 unfold hc at hv ⊢;rw [show (W.alloc o).heap[b]?=W.heap[b]? from Go.RowKit.Below.heap_alloc _ _ _ hb]
 exact hv
theorem XK.same {W':World} (hs:W.heap.size<=W'.heap.size) (h:∀ b,b<W.heap.size->W'.heap[b]?=W.heap[b]?) (hf:∀ b o,W.heap.size<=b->E.O b o = .other):XK E W E W':=by
 refine ⟨hs,fun b hb ho=>⟨h b hb,ho⟩,fun _ _ h=>h,fun b o' v hv hc0 => ?_⟩
 have hb:b<W.heap.size:=by
  rcases zrq b W.heap.size with h | h
  ·exact h
  ·have h9:=hf b o' h
   rw [show E.O b o' = .shut from hv] at h9;cases h9
 unfold hc at hc0 ⊢;rw [h b hb];exact hc0
theorem TZ.same {W':World} (hs:W.heap.size<=W'.heap.size) (h:∀ b,b<W.heap.size->W'.heap[b]?=W.heap[b]?) (ho:Q3 W W'):TZ n E W W' :=
 ⟨hs,fun b hb => .inl (h b hb),ho⟩
theorem flat_agg {sz kf:Nat} {S:X6} {h:Heap} {us:List Value} (H:BK sz kf n d=some l) (R:RC S h d us):RV S h d (.agg us.toArray):=by
 cases n with
 | zero=>simp [BK] at H
 | succ n =>
   cases d with
   | agg cs =>
     simp only [RC] at R;simp only [RV];exact ⟨_,rfl,R⟩
   | _=>simp [BK] at H
theorem B7X {ds ks pre sa sb:List DV} {k:Nat} (iE:∀ (j:Nat) x,(d::ks)[j]?=some x->ds[k+j]?=some x) (hk:ks=pre++(sa++sb)) (j:Nat) (x:DV) (hj:sa[j]?=some x):ds[k+1+pre.length+j]?=some x:=by
 have uQ:=(z1q.1 hj).1;have:=iE (pre.length+j+1) x (by
  rw [z9q,hk,zwq (by omega),zJq,zdq uQ]
  exact hj)
 rw [<- this];congr 1;omega
theorem Oa {P:Program} {b j:Nat} {c:Array Value} {T:TypeId} {u:Value} (hb:W.heap[b]?=some (.cells c T (0,0))) (hj:j<c.size) (hu:u.oneCell'=true) :
 ∃ W',(store ⟨b,j,none⟩ u).run P W = .ok () W'/\W'.heap[b]?=some (.cells (c.setIfInBounds j u) T (0,0))/\(∀ b',b'≠b->W'.heap[b']?=W.heap[b']?)/\W'.heap.size=W.heap.size/\Q3 W W':=by
 refine ⟨W.setCell ⟨b,j,none⟩ u, ?_, ?_,fun b' Ef => ?_,by simp [World.setCell],⟨rfl,rfl,rfl⟩⟩
 ·rw [run_store _ _ _ _ _ hu]
  simp [World.cell?,World.frozen?,hb,hj]
 ·simp [World.setCell,zZq,hb]
 ·simp [World.setCell,zZq,Ne.symm Ef]
end Go.Su

/-
 NAMES and PATTERNS: what is said of them.
-/
namespace Go.Su
variable (s:ByteArray)
def Az:List Int:=s.data.toList.map fun b=>(b.toNat:Int)
theorem Md:(Az s).length=s.size:=by simp [Az]
variable {k:IntKind}
theorem bF {s:ByteArray} {i:Nat} (h:i<(Az s).length):Y4 (.str s) (.int k (i:Int))=some (.int .u8 (Az s)[i]):=by
 have h':i<s.data.size:=by simpa [Az] using h
 have e:s.data[i]?=some s.data[i]:=zeq h';simp only [Y4,Int.natCast_nonneg,if_true,Int.toNat_natCast,e,zyq,Az,List.getElem_map,y2q]
variable (c:Int)
def lowerB:Bool:=decide (97<=c) && decide (c<=122)
def wS:Bool:=decide (48<=c) && decide (c<=57)
def PU:Bool:=lowerB c || wS c || (decide (65<=c) && decide (c<=90)) || decide (c=95) || decide (c=39)
def A5P:List (List UInt8):=[[108,101,116],[114,101,99],[105,110],[102,117,110],[105,102],[116,104,101,110],[101,108,115,101],[109,97,116,99,104],[119,105,116,104],[101,110,100],[116,114,117,101],
 [102,97,108,115,101],[105,110,116],[98,111,111,108],[115,116,114,105,110,103],[117,110,105,116],[108,105,115,116]]
def A22:Bool:=decide (s.data.toList∈A5P)
def DW:Bool :=
 decide (1<=s.size) && decide (s.size<=32) && lowerB ((Az s).getD 0 0) && (Az s).all PU && !A22 s
def Cv:List UInt8:=[32,108,101,116,32,114,101,99,32,105,110,32,102,117,110,32,105,102,32,116,104,101,110,32,101,108,115,101,32,109,97,116,99,104,32,119,105,116,104,32,101,110,100,32,116,114,117,101,32,102,97,108,115,101,32,105,110,116,32,98,111,111,108,32,115,116,114,105,110,103,32,117,110,105,116,32,108,105,115,116,32]
def A24 (c:UInt8):Bool:=decide (97<=c) && decide (c<=122)
theorem B3i:(List.range 81).all (fun j=>(List.range 80).all fun n =>
 !(decide (j+n+2<=81) && ((Cv.drop j).take 1 == [32]) && ((Cv.drop (j+n+1)).take 1 == [32]) && ((Cv.drop (j+1)).take n).all A24 && decide (0<n)) || decide ((Cv.drop (j+1)).take n∈A5P))=true:=by
 decide +kernel
theorem B4m:A5P.all (fun x=>decide (0<x.length) && x.all A24 && (List.range 81).any fun j=>decide (j+(x.length+2)<=81) && (Cv.drop j).take (x.length+2) == 32::x++[32])=true:=by
 decide +kernel
theorem B5k:Cv.length=81:=rfl
theorem B5j (x:List UInt8):(x.all A24=true/\0<x.length/\∃ j:Nat,j+(x.length+2)<=81/\(Cv.drop j).take (x.length+2)=32::x++[32]) ↔ x∈A5P:=by
 constructor
 ·rintro ⟨h1,h2,j,h3,h4⟩
  have h5:=z8q.1 (z8q.1 B3i j (by simp;omega)) x.length (by simp;omega)
  have e:(Cv.drop (j+1)).take x.length=x:=by
   have:=congrArg (fun l=>(l.drop 1).take x.length) h4
   simp only [ykq,ylq] at this;simpa [y4q] using this
  have e1:(Cv.drop j).take 1=[32]:=by
   have:=congrArg (fun l=>l.take 1) h4
   simpa [y4q] using this
  have e2:(Cv.drop (j+x.length+1)).take 1=[32]:=by
   have:=congrArg (fun l=>(l.drop (x.length+1)).take 1) h4
   simp only [ykq,ylq] at this;simpa [y4q,Nat.add_assoc,zJq,show x.length+2-(x.length+1)=1 by omega] using this
  rw [e,e1,e2] at h5;simpa [h1,h2,show j+x.length+2<=81 by omega] using h5
 ·intro h
  have h5:=z8q.1 B4m x h;simp only [z3q,decide_eq_true_eq,List.any_eq_true,beq_iff_eq,List.mem_range] at h5;obtain ⟨⟨h1,h2⟩,j,h3,h4,h6⟩:=h5;exact ⟨h2,h1,j,h4,h6⟩
theorem zM (a b:ByteArray):Bu (.str a) (.str b)=decide (a=b):=by
 simp only [Bu];exact f_ a b
theorem A6M (k k':IntKind) (a b:Int):Bu (.int k a) (.int k' b)=decide (a=b):=by
 simp only [Bu];rfl
theorem B2t {a:ByteArray} {d:DV} (h:Bu (.str a) d=true):d = .str a:=by
 cases d <;> simp only [Bu] at h <;> try cases h
 rename_i s;have:=wM (a:=a) (b:=s) (by simpa using h)
 rw [this]
variable (es:List (DV × DV))
theorem A85 (a b:ByteArray) (v:DV):AO (BC es (.str a) v) (.str b)=if a=b then some v else AO es (.str b):=by
 induction es with
 | nil=>by_cases h:a=b <;> simp [BC,AO,zM,h,eq_comm]
 | cons e es ih =>
   unfold BC
   by_cases h1:Bu (.str a) e.1=true
   ·rw [if_pos h1]
    have:=B2t h1;simp only [AO,zHq,this,zM]
    by_cases h:a=b
    ·subst h;simp
    ·have:¬ b=a:=fun h'=>h h'.symm
     simp [h,this]
   ·rw [if_neg h1]
    simp only [AO,zHq] at ih ⊢
    by_cases h2:Bu (.str b) e.1=true
    ·simp only [h2]
     by_cases h:a=b
     ·subst h;exact absurd h2 h1
     ·simp [h]
    ·simp only [h2]
     exact ih
theorem B2s {a:Int} {d:DV} (h:Bu (.int k a) d=true):∃ k',d = .int k' a:=by
 cases d <;> simp only [Bu] at h <;> try cases h
 rename_i k' n;exact ⟨k',by rw [show a=n by simpa using h]⟩
theorem B4r (a b:Int) (v:DV):AO (BC es (.int .i64 a) v) (.int .i64 b)=if a=b then some v else AO es (.int .i64 b):=by
 induction es with
 | nil=>by_cases h:a=b <;> simp [BC,AO,A6M,h,eq_comm]
 | cons e es ih =>
   unfold BC
   by_cases h1:Bu (.int .i64 a) e.1=true
   ·rw [if_pos h1]
    obtain ⟨k',this⟩:=B2s h1;simp only [AO,zHq,this,A6M]
    by_cases h:a=b
    ·subst h;simp
    ·have:¬ b=a:=fun h'=>h h'.symm
     simp [h,this]
   ·rw [if_neg h1]
    simp only [AO,zHq] at ih ⊢
    by_cases h2:Bu (.int .i64 b) e.1=true
    ·simp only [h2]
     by_cases h:a=b
     ·subst h;exact absurd h2 h1
     ·simp [h]
    ·simp only [h2]
     exact ih
def O0:ByteArray:=⟨#[]⟩
variable (p:D5)
def D5.one:Bool :=
 if p.kind=1\/p.kind=6\/p.kind=8 then decide (p.kids.length=0) && decide (p.name=O0) && decide (p.n=0) && decide (p.s=O0)
 else if p.kind=2 then DW p.name && decide (p.kids.length=0) && decide (p.n=0) && decide (p.s=O0)
 else if p.kind=3 then decide (p.kids.length=0) && decide (p.name=O0) && decide (p.s=O0)
 else if p.kind=4 then decide (p.n=0\/p.n=1) && decide (p.kids.length=0) && decide (p.name=O0) && decide (p.s=O0)
 else if p.kind=5 then decide (p.s.size<=200) && decide (p.kids.length=0) && decide (p.name=O0) && decide (p.n=0)
 else if p.kind=7\/p.kind=9 then decide (p.kids.length=2) && decide (p.name=O0) && decide (p.n=0) && decide (p.s=O0)
 else false
def D5.thin:D5->Bool
 | .mk _ _ _ _ _ _ ks=>decide (ks.length<=lim) && (ks.map D5.thin).all id
variable (t:D5)
theorem D5.Kq:t.thin=(decide (t.kids.length<=lim) && t.kids.all D5.thin):=by
 cases t;rw [D5.thin];simp [zLq];rfl
theorem D5.D_ (h:t.thin=true):t.kids.length<4294967297:=by
 rw [D5.Kq] at h;simp only [z3q,decide_eq_true_eq] at h;have:=h.1;unfold lim at this;omega
theorem D5.Gg {t k:D5} (h:t.thin=true) (hk:k∈t.kids):k.thin=true:=by
 rw [D5.Kq] at h;simp only [z3q,z8q] at h;exact h.2 k hk
theorem D5.Dk {t:D5}:t.size<=lim->t.thin=true:=by
 induction t using D5.ind with
 | h t ih =>
   intro h;rw [D5.Kq];simp only [z3q,decide_eq_true_eq,z8q];refine ⟨by have:=t.A4Q;omega,fun k hk=>ih k hk (by have:=D5.Dy hk;omega)⟩
def D5.pat:D5->Bool
 | .mk a b c d e f ks=>D5.one (.mk a b c d e f ks) && (ks.map D5.pat).all id
theorem D5.eT:t.pat=(t.one && t.kids.all D5.pat):=by
 cases t;rw [D5.pat];simp [zLq]
def D5.Cc:D5->List ByteArray->List ByteArray
 | .mk k _ _ nm _ _ ks,l=>ks.foldl (fun l k=>D5.Cc k l) (if k=2 then l++[nm] else l)
theorem D5.Ll (l:List ByteArray):t.Cc l=t.kids.foldl (fun l k=>k.Cc l) (if t.kind=2 then l++[t.name] else l):=by
 cases t;rw [D5.Cc];rfl
def D5.names:List ByteArray:=t.Cc []
theorem D5.Ql:∀ l:List ByteArray,(t.Cc l).length<=l.length+t.size:=by
 induction t using D5.ind with
 | h t ih =>
   intro l;rw [D5.Ll];have key:∀ (ks:List D5),(∀ k∈ks,∀ l:List ByteArray,(k.Cc l).length<=l.length+k.size)->∀ l:List ByteArray,(ks.foldl (fun l k=>k.Cc l) l).length<=l.length+(ks.map D5.size).sum:=by
    intro ks
    induction ks with
    | nil=>intro _ l;simp
    | cons k ks ihk =>
      intro h l;simp only [zYq,zmq,znq];have h1:=ihk (fun k' Ik=>h k' (z4q _ Ik)) (k.Cc l)
      have h2:=h k (z6q ..) l;omega
   have h1:=key t.kids ih (if t.kind=2 then l++[t.name] else l)
   rw [D5.size_eq];have h2:(if t.kind=2 then l++[t.name] else l).length<=l.length+1:=by split <;> simp
   omega
def D5.subs:D5->List D5
 | .mk a b c d e f ks => .mk a b c d e f ks::(ks.map D5.subs).flatten
theorem D5.aJ:t.subs=t::t.kids.flatMap D5.subs:=by
 cases t;rw [D5.subs];rfl
def Yg:List ByteArray:=if p.kind=2 then [p.name] else []
theorem D5.eF:∀ l:List ByteArray,t.Cc l=l++t.subs.flatMap Yg:=by
 induction t using D5.ind with
 | h t ih =>
   intro l;have key:∀ (ks:List D5),(∀ k∈ks,∀ l:List ByteArray,k.Cc l=l++k.subs.flatMap Yg)->∀ l:List ByteArray,ks.foldl (fun l k=>k.Cc l) l=l++(ks.flatMap D5.subs).flatMap Yg:=by
    intro ks
    induction ks with
    | nil=>intro _ l;simp
    | cons k ks ihk =>
      intro h l;simp only [zYq,ybq,List.flatMap_append];rw [ihk (fun k' Ik=>h k' (z4q _ Ik)),h k (z6q ..)]
      simp
   rw [D5.Ll,key t.kids ih,D5.aJ];simp only [ybq,Yg]
   by_cases h:t.kind=2 <;> simp [h,Yg]
theorem D5.B6r:t.pat=t.subs.all D5.one:=by
 induction t using D5.ind with
 | h t ih =>
   rw [D5.eT,D5.aJ];simp only [ynq,List.all_flatMap]
   congr 1
   rw [zXq];simp only [z8q];constructor
   ·intro h k hk x hx
    have:=h k hk;rw [ih k hk] at this;exact z8q.1 this x hx
   ·intro h k hk
    rw [ih k hk];exact z8q.2 (h k hk)
def D5.right:Bool:=t.pat && decide t.names.Nodup
theorem B5Q:t.thin=true->∃ n,BK 7 6 n t.enc=some (t.subs.map D5.enc):=by
 induction t using D5.ind with
 | h t ih =>
   intro ht;have key:∀ ks:List D5,(∀ k∈ks,∃ n,BK 7 6 n k.enc=some (k.subs.map D5.enc))->∃ n,KA (BK 7 6 n) (ks.map D5.enc)=some ((ks.flatMap D5.subs).map D5.enc):=by
    intro ks
    induction ks with
    | nil=>intro _;exact ⟨0,rfl⟩
    | cons k ks ihk =>
      intro h;obtain ⟨n,hn⟩:=h k (z6q ..);obtain ⟨m,hm⟩:=ihk fun k' Ik=>h k' (z4q _ Ik)
      refine ⟨n+m, ?_⟩;simp only [zmq,KA,WC (ztq n m) hn,Zk (fun d l h=>WC (zvq m n) h) hm,E9]
      simp
   obtain ⟨n,hn⟩:=key t.kids fun k hk=>ih k hk (D5.Gg ht hk)
   refine ⟨n+1, ?_⟩;rw [D5.Kq] at ht;simp only [z3q,decide_eq_true_eq] at ht;rw [D5.H8,BK];simp only [zaq,zUq,List.getD_cons_succ,List.getD_cons_zero,ygq,hn,E9,D5.aJ t,zmq];simp [ht.1,D5.H8]
def D5.texts:Prop:=p.name.size<=4294967000/\p.s.size<=4294967000
def D5.txt:Prop:=∀ q∈p.subs,q.texts
theorem D5.B6A:p∈p.subs:=by rw [D5.aJ];exact z6q ..
theorem D5.B8c {p k q:D5} (h:k∈p.kids) (hq:q∈k.subs):q∈p.subs:=by
 rw [D5.aJ];exact z4q _ (zzq.2 ⟨k,h,hq⟩)
theorem D5.B8X {p k:D5} (h:p.txt) (hk:k∈p.kids):k.txt:=fun q hq=>h q (D5.B8c hk hq)
end Go.Su

/-
 TERMS and EXPRESSIONS: what is said of them.
-/
namespace Go.Su
structure D5.fit (p:D5):Prop where
 size:p.size<=lim
 txt:p.txt
theorem D5.oL {p:D5} (h:p.fit):p.thin=true:=D5.Dk h.size
def D5.bare:D5->D5
 | .mk k _ _ nm n s ks => .mk k 0 0 nm n s (ks.map D5.bare)
variable (p:D5)
@[simp] theorem D5.B3w:p.bare.kind=p.kind:=by cases p;rw [D5.bare];rfl
@[simp] theorem D5.B7K:p.bare.lo=0:=by cases p;rw [D5.bare];rfl
@[simp] theorem D5.B7J:p.bare.hi=0:=by cases p;rw [D5.bare];rfl
@[simp] theorem D5.B3x:p.bare.name=p.name:=by cases p;rw [D5.bare];rfl
@[simp] theorem D5.B9y:p.bare.n=p.n:=by cases p;rw [D5.bare];rfl
@[simp] theorem D5.B9z:p.bare.s=p.s:=by cases p;rw [D5.bare];rfl
@[simp] theorem D5.B3v:p.bare.kids=p.kids.map D5.bare:=by cases p;rw [D5.bare];rfl
def Ex.bare:Ex->Ex
 | .mk k _ _ nm ar n s op a b ps ks => .mk k 0 0 nm ar n s op a b (ps.map D5.bare) (ks.map Ex.bare)
variable (p:Ex)
@[simp] theorem Ex.B3w:p.bare.kind=p.kind:=by cases p;rw [Ex.bare];rfl
@[simp] theorem Ex.B7K:p.bare.lo=0:=by cases p;rw [Ex.bare];rfl
@[simp] theorem Ex.B7J:p.bare.hi=0:=by cases p;rw [Ex.bare];rfl
@[simp] theorem Ex.B3x:p.bare.name=p.name:=by cases p;rw [Ex.bare];rfl
@[simp] theorem Ex.C2i:p.bare.arg=p.arg:=by cases p;rw [Ex.bare];rfl
@[simp] theorem Ex.B9y:p.bare.n=p.n:=by cases p;rw [Ex.bare];rfl
@[simp] theorem Ex.B9z:p.bare.s=p.s:=by cases p;rw [Ex.bare];rfl
@[simp] theorem Ex.C3y:p.bare.op=p.op:=by cases p;rw [Ex.bare];rfl
@[simp] theorem Ex.C3E:p.bare.a=p.a:=by cases p;rw [Ex.bare];rfl
@[simp] theorem Ex.C3F:p.bare.b=p.b:=by cases p;rw [Ex.bare];rfl
@[simp] theorem Ex.C2d:p.bare.H6=p.H6.map D5.bare:=by cases p;rw [Ex.bare];rfl
@[simp] theorem Ex.B3v:p.bare.kids=p.kids.map Ex.bare:=by cases p;rw [Ex.bare];rfl
structure Ex.Mr (t:Ex):Prop where
 name:t.name.size<=4294967000
 arg:t.arg.size<=4294967000
 s:t.s.size<=4294967000
 a:t.a.thin=true
 b:t.b.thin=true
 avc:t.a.Kr<=lim
 bvc:t.b.Kr<=lim
 H6:t.H6.length<lim
 pat:∀ p∈t.H6,p.fit
 kids:t.kids.length<lim
inductive Ex.fit:Ex->Prop where
 | mk (t:Ex):t.Mr->(∀ k∈t.kids,k.fit)->t.fit
theorem Ex.fit.one {t:Ex} (h:t.fit):t.Mr:=by cases h;assumption
theorem Ex.fit.kid {t k:Ex} (h:t.fit) (hk:k∈t.kids):k.fit:=by cases h with | mk _ _ g=>exact g k hk
structure Tm.Mr (t:Tm):Prop where
 name:t.name.size<=4294967000
 arg:t.arg.size<=4294967000
 s:t.s.size<=4294967000
 vars:t.vars.length<lim
 a:t.a.thin=true
 b:t.b.thin=true
 avc:t.a.Kr<=lim
 bvc:t.b.Kr<=lim
 args:t.args.length<lim
 A8i:∀ y∈t.args,y.thin=true
 C3I:∀ y∈t.args,y.Kr<=lim
 H6:t.H6.length<lim
 pat:∀ p∈t.H6,p.fit
 kids:t.kids.length<lim
inductive Tm.fit:Tm->Prop where
 | mk (t:Tm):t.Mr->(∀ k∈t.kids,k.fit)->t.fit
variable {t:Tm}
theorem Tm.fit.one (h:t.fit):t.Mr:=by cases h;assumption
theorem Tm.fit.kid {k:Tm} (h:t.fit) (hk:k∈t.kids):k.fit:=by cases h with | mk _ _ g=>exact g k hk
theorem D5.TE (p:D5):p.size<=p.N8:=by
 induction p using D5.ind with
 | h p ih =>
   rw [D5.size_eq,D5.Ak];have key:∀ ks:List D5,(∀ k∈ks,k.size<=k.N8)->(ks.map D5.size).sum<=(ks.map D5.N8).sum:=by
    intro ks
    induction ks with
    | nil=>simp
    | cons k ks ihk =>
      intro h;simp only [zmq,znq];have:=h k (z6q ..);have:=ihk fun k' Ik=>h k' (z4q _ Ik)
      omega
   have:=key p.kids ih;omega
theorem D5.B6O {p:D5}:∀ q∈p.subs,q.N8<=p.N8:=by
 induction p using D5.ind with
 | h p ih =>
   intro q hq;rw [D5.aJ] at hq;rcases zDq.1 hq with rfl | hq
   ·exact zbq _
   ·obtain ⟨k,hk,hq⟩:=zzq.1 hq
    have:=ih k hk q hq;have:=D5.eD hk;omega
theorem D5.bW {p:D5} (h:p.N8<=4294967000):p.fit:=by
 refine ⟨by have:=p.TE;unfold lim;omega,fun q hq => ?_⟩
 have:=D5.B6O q hq;exact ⟨by have:=q.zS;omega,by have:=q.A9a;omega⟩
theorem B8W {l:List Nat} (h:∀ a∈l,0<a):l.length<=l.sum:=by
 induction l with
 | nil=>simp
 | cons a l ih =>
   have:=h a (z6q ..);have:=ih fun b hb=>h b (z4q _ hb)
   simp only [zaq,znq];omega
theorem ma {α : Type} {l:List α} {f : α -> Nat} (h:∀ a,0<f a):l.length<=(l.map f).sum:=by
 have:=B8W (l:=l.map f) (by intro a ha;obtain ⟨x,_,rfl⟩:=ydq.1 ha;exact h x)
 simpa using this
theorem Ki {α : Type} {l:List α} {f : α -> Nat} {a : α} (h:a∈l):f a<=(l.map f).sum:=PQ (zoq (f:=f) h)
theorem Tm.bW:t.N8<=4294967000->t.fit:=by
 induction t using Tm.ind with
 | h t ih =>
   intro h;refine .mk t ⟨by have:=t.zS;omega,by have:=t.B6h;omega,by have:=t.A9a;omega,by have:=t.B4u;unfold lim;omega,Ty.Dk (by have:=t.A88;unfold lim;omega),Ty.Dk (by have:=t.A89;unfold lim;omega),by have:=t.A88;have:=t.a.XH;unfold lim;omega,by have:=t.A89;have:=t.b.XH;unfold lim;omega, ?_,fun p hp => ?_,fun p hp => ?_, ?_,fun p hp => ?_, ?_⟩ fun k hk=>ih k hk (by have:=Tm.eD hk;omega)
   ·have:=t.iK;have:=ma (l:=t.args) Ty.Dz;unfold lim;omega
   ·have:=t.iK;have:=Ki (f:=Ty.size) hp;exact Ty.Dk (by unfold lim;omega)
   ·have:=t.iK;have:=Ki (f:=Ty.size) hp;have:=p.XH;unfold lim;omega
   ·have:=t.A6Q;have:=ma (l:=t.H6) D5.WI;unfold lim;omega
   ·have:=t.A6Q;have:=Ki (f:=D5.N8) hp;exact D5.bW (by omega)
   ·have:=t.B6i;unfold lim;omega
inductive Tm.sized:Tm->Prop where
 | mk (t:Tm):t.a.size<=lim->t.b.size<=lim->(∀ y∈t.args,y.size<=lim)->(∀ k∈t.kids,k.sized)->t.sized
theorem Tm.sized.a (h:t.sized):t.a.size<=lim:=by cases h;assumption
theorem Tm.sized.b (h:t.sized):t.b.size<=lim:=by cases h;assumption
theorem Tm.sized.args (h:t.sized):∀ y∈t.args,y.size<=lim:=by cases h;assumption
theorem Tm.sized.kid {k:Tm} (h:t.sized) (hk:k∈t.kids):k.sized:=by cases h with | mk _ _ _ _ g=>exact g k hk
theorem Tm.B23:t.N8<=4294967000->t.sized:=by
 induction t using Tm.ind with
 | h t ih =>
   intro h;refine .mk t (by have:=t.A88;unfold lim;omega) (by have:=t.A89;unfold lim;omega) (fun y hy => ?_) fun k hk=>ih k hk (by have:=Tm.eD hk;omega)
   have:=t.iK;have:=Ki (f:=Ty.size) hy;unfold lim;omega
def Ty.none (t:Ty):Bool:=decide (t.kind=0) && decide (t.n=0) && decide (t.kids.length=0)
theorem Ty.B6m {t:Ty}:t.none=true ↔ t = .mk 0 0 []:=by
 unfold Ty.none;rw [Ty.FU];simp [and_assoc]
variable (k:Int)
def P9:Bool:=decide (k=1\/k=9\/k=11\/k=12)
def V3:Bool:=decide (k=12)
def kN:Bool:=decide (k=2\/k=3)
def kS:Bool:=decide (k=4)
def Ah:Bool:=decide (k=15)
def Ag:Bool:=decide (k=14\/k=15)
def Q5:Bool:=decide (k=11\/k=12)
def Q8:Bool:=decide (k=1)
def Q4:Bool:=decide (k=14)
def kA:Bool:=decide (k=7\/k=9\/k=12\/k=16)
def kB:Bool:=decide (k=12\/k=16)
def M9:Bool:=decide (k=16)
def Bn (np:Nat):Bool:=decide (1<=k) && decide (k<=16) && (!decide (k=14) || decide (0<np))
def O5 (np:Nat):Int :=
 if k=6\/k=8\/k=10\/k=11\/k=12\/k=15 then 2 else if k=9\/k=16 then 1 else if k=13 then 3 else if k=14 then np+1 else 0
def z8 (h:Bool) (s:ByteArray):Bool:=if h=true then DW s else decide (s=O0)
def X7 (h:Bool) (t:Ty):Bool:=if h=true then t.right else t.none
variable (t:Tm)
def Tm.lists:Bool:=t.vars.all (fun v=>decide (0<=v) && decide (v<=1048576)) && t.args.all Ty.right && t.H6.all D5.right
def Tm.OQ:Bool:=(Q5 t.kind || decide (t.vars.length=0)) && (Q8 t.kind || decide (t.args.length=0)) && (Q4 t.kind || decide (t.H6.length=0)) && t.lists
def Tm.Mt:Bool:=(M9 t.kind || (decide (t.label=0) && !t.neg)) && (decide (0<=t.label) && decide (t.label<=1048576)) && t.OQ
def Tm.Lp:Bool:=(!Ah t.kind || (decide (1<=t.op) && decide (t.op<=7))) && (Ah t.kind || decide (t.op=0)) && t.Mt
def Tm.Lm:Bool:=(kS t.kind || decide (t.s=O0)) && decide (t.s.size<=200) && (Ag t.kind || (decide (t.lo=0) && decide (t.hi=0))) && t.Lp
def Tm.Kj:Bool:=(kN t.kind || decide (t.n=0)) && (!decide (t.kind=3) || decide (t.n=0) || decide (t.n=1)) && t.Lm
def Tm.one:Bool:=Bn t.kind t.H6.length && decide ((t.kids.length:Int)=O5 t.kind t.H6.length) && z8 (P9 t.kind) t.name && z8 (V3 t.kind) t.arg && X7 (kA t.kind) t.a && X7 (kB t.kind) t.b && t.Kj
def Tm.right:Tm->Bool
 | .mk a b c d e f g h i j k l m n o ks=>Tm.one (.mk a b c d e f g h i j k l m n o ks) && (ks.map Tm.right).all id
theorem Tm.right_eq:t.right=(t.one && t.kids.all Tm.right):=by
 cases t;rw [Tm.right];simp [zLq]
end Go.Su

/-
 TERMS, as the reference has them.
-/
namespace Go.Su
variable (t:Tm)
def Tm.Zc:Tm :=
 .mk t.kind (if Ag t.kind=true then t.lo else 0) (if Ag t.kind=true then t.hi else 0) (if P9 t.kind=true then t.name else O0) (if V3 t.kind=true then t.arg else O0) (if kN t.kind=true then t.n else 0)
  (if kS t.kind=true then t.s else O0) (if Ah t.kind=true then t.op else 0) (if M9 t.kind=true then t.label else 0) (if M9 t.kind=true then t.neg else false) (if Q5 t.kind=true then t.vars else [])
  (if kA t.kind=true then t.a else .mk 0 0 []) (if kB t.kind=true then t.b else .mk 0 0 []) (if Q8 t.kind=true then t.args else []) (if Q4 t.kind=true then t.H6 else []) []
def Tm.FH:Int:=if 1<=t.kind/\t.kind<=16 then O5 t.kind t.H6.length else -1
noncomputable def Tm.A0x (a b:Tm):Bool :=
 decide (a.kind=b.kind) && (decide (a.lo=b.lo) && decide (a.hi=b.hi)) && decide (a.name=b.name) && decide (a.arg=b.arg) && decide (a.n=b.n) && decide (a.s=b.s) && decide (a.op=b.op) && decide (a.label=b.label) && decide (a.neg=b.neg) &&
  decide (a.args=b.args) && decide (a.a=b.a) && decide (a.b=b.b) && decide (a.vars=b.vars) && decide (a.H6=b.H6)
theorem Tm.B3u {t:Tm} (h:t.Mr):t.Zc.Mr:=by
 have t0:(Ty.mk 0 0 []).thin=true:=by rw [Ty.Kq];simp [lim]
 obtain ⟨a1,a2,a3,a4,a5,a6,b1,b2,a7,a8,b3,a9,a10,a11⟩:=h;have t1:(Ty.mk 0 0 []).Kr<=lim:=by rw [Ty.A0i];simp [lim]
 have n0:O0.size=0:=rfl;constructor <;> simp only [Tm.Zc,Tm.Cb,Tm.Gr,Tm.Ls,Tm.GX,Tm.av,Tm.a_,Tm.O_,Tm.Et,Tm.Q6] <;> (try split) <;> simp_all [lim]
def Tm.Jl:Bool :=
 if t.kind=1 then DW t.name
 else if t.kind=11 then DW t.name
 else if t.kind=3 then decide (t.n=0) || decide (t.n=1)
 else if t.kind=4 then decide (t.s.size<=200)
 else if t.kind=7 then t.a.right
 else if t.kind=9 then DW t.name && t.a.right
 else if t.kind=12 then DW t.name && DW t.arg && t.a.right && t.b.right
 else if t.kind=14 then decide (0<t.H6.length)
 else if t.kind=15 then decide (1<=t.op) && decide (t.op<=7)
 else if t.kind=16 then decide (0<=t.label) && decide (t.label<=1048576) && t.a.right && t.b.right
 else true
theorem B4x:O0.size=0:=rfl
theorem Es {t:Ty}:t.none=true ↔ Ty.mk 0 0 []=t:=by rw [Ty.B6m];exact eq_comm
set_option maxHeartbeats 2000000 in
theorem Tm.B8m:(decide (t.FH=(t.kids.length:Int)) && t.Zc.A0x t && t.lists && t.Jl)=t.one:=by
 have e8:∀ s:ByteArray,(O0=s) ↔ (s=O0):=fun s=>eq_comm
 have e0:∀ n:Int,(0=n) ↔ (n=0):=fun s=>eq_comm
 have eb:∀ n:Bool,(false=n) ↔ (n=false):=fun s=>eq_comm
 have ek:∀ n:Int,(n=(t.kids.length:Int)) ↔ ((t.kids.length:Int)=n):=fun s=>eq_comm
 have el:∀ {α : Type} (l:List α),([]=l) ↔ (l.length=0):=fun l=>by cases l <;> simp
 have es:t.s=O0->t.s.size<=200:=fun h=>by rw [h,B4x];omega
 rw [zXq];simp only [Tm.A0x,Tm.Zc,Tm.Ca,Tm.Wy,Tm.Ww,Tm.Cb,Tm.Gr,Tm.SV,Tm.Ls,Tm.pJ,Tm.SN,Tm.eG,Tm.O_,Tm.av,Tm.a_,Tm.GX,Tm.Et,Tm.FH,Tm.one,Tm.Kj,Tm.Lm,Tm.Lp,Tm.Mt,Tm.OQ];generalize t.lists=LL
 by_cases k1:t.kind=1
 ·simp [k1,Tm.Jl,Bn,P9,V3,kN,kS,Ah,Ag,Q5,Q8,Q4,kA,kB,M9,O5,z8,X7,Es,e8,e0,eb,ek,el];grind
 by_cases k2:t.kind=2
 ·simp [k2,Tm.Jl,Bn,P9,V3,kN,kS,Ah,Ag,Q5,Q8,Q4,kA,kB,M9,O5,z8,X7,Es,e8,e0,eb,ek,el];grind
 by_cases k3:t.kind=3
 ·simp [k3,Tm.Jl,Bn,P9,V3,kN,kS,Ah,Ag,Q5,Q8,Q4,kA,kB,M9,O5,z8,X7,Es,e8,e0,eb,ek,el];grind
 by_cases k4:t.kind=4
 ·simp [k4,Tm.Jl,Bn,P9,V3,kN,kS,Ah,Ag,Q5,Q8,Q4,kA,kB,M9,O5,z8,X7,Es,e8,e0,eb,ek,el];grind
 by_cases k5:t.kind=5
 ·simp [k5,Tm.Jl,Bn,P9,V3,kN,kS,Ah,Ag,Q5,Q8,Q4,kA,kB,M9,O5,z8,X7,Es,e8,e0,eb,ek,el];grind
 by_cases k6:t.kind=6
 ·simp [k6,Tm.Jl,Bn,P9,V3,kN,kS,Ah,Ag,Q5,Q8,Q4,kA,kB,M9,O5,z8,X7,Es,e8,e0,eb,ek,el];grind
 by_cases k7:t.kind=7
 ·simp [k7,Tm.Jl,Bn,P9,V3,kN,kS,Ah,Ag,Q5,Q8,Q4,kA,kB,M9,O5,z8,X7,Es,e8,e0,eb,ek,el];grind
 by_cases k8:t.kind=8
 ·simp [k8,Tm.Jl,Bn,P9,V3,kN,kS,Ah,Ag,Q5,Q8,Q4,kA,kB,M9,O5,z8,X7,Es,e8,e0,eb,ek,el];grind
 by_cases k9:t.kind=9
 ·simp [k9,Tm.Jl,Bn,P9,V3,kN,kS,Ah,Ag,Q5,Q8,Q4,kA,kB,M9,O5,z8,X7,Es,e8,e0,eb,ek,el];grind
 by_cases k10:t.kind=10
 ·simp [k10,Tm.Jl,Bn,P9,V3,kN,kS,Ah,Ag,Q5,Q8,Q4,kA,kB,M9,O5,z8,X7,Es,e8,e0,eb,ek,el];grind
 by_cases k11:t.kind=11
 ·simp [k11,Tm.Jl,Bn,P9,V3,kN,kS,Ah,Ag,Q5,Q8,Q4,kA,kB,M9,O5,z8,X7,Es,e8,e0,eb,ek,el];grind
 by_cases k12:t.kind=12
 ·simp [k12,Tm.Jl,Bn,P9,V3,kN,kS,Ah,Ag,Q5,Q8,Q4,kA,kB,M9,O5,z8,X7,Es,e8,e0,eb,ek,el];grind
 by_cases k13:t.kind=13
 ·simp [k13,Tm.Jl,Bn,P9,V3,kN,kS,Ah,Ag,Q5,Q8,Q4,kA,kB,M9,O5,z8,X7,Es,e8,e0,eb,ek,el];grind
 by_cases k14:t.kind=14
 ·simp [k14,Tm.Jl,Bn,P9,V3,kN,kS,Ah,Ag,Q5,Q8,Q4,kA,kB,M9,O5,z8,X7,Es,e8,e0,eb,ek,el];grind
 by_cases k15:t.kind=15
 ·simp [k15,Tm.Jl,Bn,P9,V3,kN,kS,Ah,Ag,Q5,Q8,Q4,kA,kB,M9,O5,z8,X7,Es,e8,e0,eb,ek,el];grind
 by_cases k16:t.kind=16
 ·simp [k16,Tm.Jl,Bn,P9,V3,kN,kS,Ah,Ag,Q5,Q8,Q4,kA,kB,M9,O5,z8,X7,Es,e8,e0,eb,ek,el];grind
 have hk:¬ (1<=t.kind/\t.kind<=16):=by omega
 have Ik:¬ ((-1:Int)=(t.kids.length:Int)):=by omega
 have hk2:Bn t.kind t.H6.length=false:=by
  unfold Bn;rw [Bool.eq_false_iff];intro h;simp only [z3q,decide_eq_true_eq] at h;omega
 simp [hk,Ik,hk2]
end Go.Su

/-
 TYPES put for variables, types that agree, and the CHECKER of terms: what is said of them, without any program.
-/
namespace Go.Su
variable (l:List (Int × Ty))
def look (n:Int):Option Ty:=(l.find? fun e=>decide (e.1=n)).map (·.2)
def Ty.put (l:List (Int × Ty)):Ty->Ty
 | .mk k n ks=>if k=6 then (look l n).getD (.mk k n ks) else .mk k n (ks.map (Ty.put l))
theorem Ty.put_eq (t:Ty):t.put l=if t.kind=6 then (look l t.n).getD t else .mk t.kind t.n (t.kids.map (Ty.put l)):=by
 cases t;rw [Ty.put];rfl
def Z0:Bool:=l.all fun e=>decide (0<=e.1) && decide (e.1<=1048576) && e.2.right
def BA:Ty := .mk 0 0 []
def U7 (e:Int × Ty):DV := .agg [.int .i64 e.1, .int .i64 e.2.kind, .int .i64 e.2.n, .list 3 (e.2.kids.map Ty.enc)]
def M6:DV := .list 4 (l.map U7)
variable {l:List (Int × Ty)}
theorem B6e {n:Int} {t:Ty} (h:look l n=some t):(n,t)∈l:=by
 unfold look at h;cases hf:l.find? fun e=>decide (e.1=n) with
 | none=>rw [hf] at h;cases h
 | some e =>
   rw [hf] at h;simp only [zyq,Option.some.injEq] at h;have h1:=List.find?_some hf;simp only [decide_eq_true_eq] at h1;have h2:=List.mem_of_find?_eq_some hf;rw [<- h,<- h1];exact h2
theorem Ty.GD {t:Ty}:t.right=true ↔ arity t.kind=t.kids.length/\0<=t.n/\t.n<=1048576/\(t.kind=6\/t.n=0)/\∀ k∈t.kids,k.right=true:=by
 rw [Ty.right_eq];simp only [z3q,yeq,decide_eq_true_eq,z8q,and_assoc]
theorem Ty.B6y {k n:Int} {ks:List Ty}:(Ty.mk k n ks).right=true ↔ arity k=ks.length/\0<=n/\n<=1048576/\(k=6\/n=0)/\∀ t∈ks,t.right=true :=
 Ty.GD (t := .mk k n ks)
theorem Ty.BU {t k:Ty} (h:t.right=true) (hk:k∈t.kids):k.right=true:=(Ty.GD.1 h).2.2.2.2 k hk
theorem WO:Z0 l=true ↔ ∀ e∈l,0<=e.1/\e.1<=1048576/\e.2.right=true:=by
 unfold Z0;simp [and_assoc]
theorem Ty.B4H (hl:∀ e∈l,e.2.right=true) (t:Ty):t.right=true->(t.put l).right=true:=by
 induction t using Ty.ind with
 | h t ih =>
   intro h;rw [Ty.put_eq]
   split
   ·cases hk:look l t.n with
    | none=>exact h
    | some u=>exact hl _ (B6e hk)
   ·rw [Ty.B6y]
    rw [Ty.GD] at h;obtain ⟨h1,h2,h3,h4,h5⟩:=h;refine ⟨by simpa using h1,h2,h3,h4,fun k hk => ?_⟩
    obtain ⟨k',Ik,rfl⟩:=ydq.1 hk;exact ih k' Ik (h5 k' Ik)
theorem Ty.B8s (t:Ty):t.put []=t:=by
 induction t using Ty.ind with
 | h t ih =>
   rw [Ty.put_eq]
   split
   ·rfl
   ·rw [Ty.FU]
    refine ⟨rfl,rfl, ?_⟩;simp only [Ty.Q6]
    conv=>rhs;rw [<- List.map_id t.kids]
    exact y1q fun k hk=>ih k hk
structure Nm where
 name:ByteArray
 ty:Ty
 vars:List Int
abbrev Res:=Except Int Ty
def takes (S:List Int) (l:List Int):Bool:=decide (l.Nodup) && l.all fun v => !decide (v∈S)
abbrev Chk:=List Nm->List Int->Res
end Go.Su

/-
 FROM A READING TO DATA: binds, numbers, slices.
-/
namespace Go.Su
section
variable {H:Type} {enc:TypeId × Value->H} {P:Program} {w:World} {held:Bool}
end
theorem B3o {P:Program} {w:World} {r:Reach} {b:Nat} {t:TypeId} {v:Value} {S:X6} {h':Heap} {k:IntKind} {n:Int} (ht:P.underlying t=some (.int k)) (h:Value.okWide P w r b t v) (hr:RC S h' (.int k n) v.cells.toList):RV S h' (.int k n) v:=by
 unfold Value.okWide at h;rw [ht] at h;have hv:v.cells = #[v]:=by
  cases v <;> first | rfl | (exfalso;revert h;simp [Cell.okWide,Cell.ok,ht])
 rw [hv] at hr;simpa [RC,RV] using hr
section
variable {H:Type} {enc:TypeId × Value->H} {P:Program} {w:World} {base:Nat} {spare:Nat->Bool} {held:Bool}
end
end Go.Su

/-
 THE DATA MACHINE: the program's functions are what one step makes of them: as an equation; runs on closed data by rewriting.
-/
namespace Go.Su
variable {C:X4}
theorem A5W:L_ (run C) (CE C (run C)):=by
 constructor
 ·intro f ds d H
  obtain ⟨n,hn⟩:=A0N.p f ds d H;cases n with
  | zero=>simp [Kk] at hn
  | succ n=>exact (A0d (A0J n)).p _ _ _ hn
 ·intro f rs sg q H
  obtain ⟨n,hn⟩:=A0N.r f rs sg q H;cases n with
  | zero=>simp [Kk] at hn
  | succ n=>exact (A0d (A0J n)).r _ _ _ _ hn
variable {α : Type}
theorem oF {x y:Option α} (h:∀ a,x=some a->y=some a) (h':∀ a,y=some a->x=some a):x=y:=by
 cases hx:x with
 | some a=>exact (h a hx).symm
 | none =>
   cases hy:y with
   | none=>rfl
   | some b=>have:=h' b hy;rw [hx] at this;cases this
variable {f:FuncId} {fn:Func} {c:Code} {ds:List DV}
theorem A8E (hp:C.Yj f=none) (hf:C.P.funcs[f]?=some fn) (hb:fn.body=some c) :
 (run C).p f ds=Qb C (run C) (C.fl f) (SY C.P fn) [] c (F7 fn (ds.map fun d=>(d, .val)) []):=by
 rw [A5G];have e:(CE C (run C)).p f ds=R8 C (run C) (C.fl f) c (SY C.P fn) (F7 fn (ds.map fun d=>(d, .val)) []):=by simp only [CE,xR,hp,hf,hb,K3]
 rw [<- e];exact oF (fun a h=>A5W.p _ _ _ h) (fun a h=>A3c.p _ _ _ h)
theorem B7V {p:Cut} (hp:C.Yj f=some p) (hf:C.P.funcs[f]?=some fn) (hb:fn.body=some c) :
 (run C).p f ds=Qb C (run C) (C.fl f) (jE C (run C) (C.fl f) p (SY C.P fn)) [] (CX p.pre .skip) (F7 fn (ds.map fun d=>(d, .val)) []):=by
 rw [A5G];have e:(CE C (run C)).p f ds=R8 C (run C) (C.fl f) (CX p.pre .skip) (jE C (run C) (C.fl f) p (SY C.P fn)) (F7 fn (ds.map fun d=>(d, .val)) []):=by simp only [CE,xR,hp,hf,hb,K3]
 rw [<- e];exact oF (fun a h=>A5W.p _ _ _ h) (fun a h=>A3c.p _ _ _ h)
theorem B7W {s:CZ} {rs:List (DV × Meta)} {sg:List D8} (hs:C.sig f=some s) (hf:C.P.funcs[f]?=some fn) (hb:fn.body=some c) (hp:C.jI f=none:=by rfl) :
 (run C).r f rs sg=Qb C (run C) (C.fl f) (Jm C.P fn s) [] c (F7 fn rs sg):=by
 rw [A5G];have e:(CE C (run C)).r f rs sg=R8 C (run C) (C.fl f) c (Jm C.P fn s) (F7 fn rs sg):=by simp only [CE,hs,hp,hf,hb,K3]
 rw [<- e];exact oF (fun a h=>A5W.r _ _ _ _ h) (fun a h=>A3c.r _ _ _ _ h)
variable {β : Type}
theorem C1T {x y:Option α} (h:x=y) (f : α -> Option β):ob x f=ob y f:=by rw [h]
theorem C1Y {x y:Bool} (h:x=y) (f:Option β):og x f=og y f:=by rw [h]
theorem C0w {x y:DV} (h:x=y) (a b:Option β):D7 x a b=D7 y a b:=by rw [h]
theorem C0v {x y:DV} (h:x=y) (a b c:Option β):I1 x a b c=I1 y a b c:=by rw [h]
theorem B7x (x y:Option β):D7 (.bool true) x y=x:=rfl
theorem B7w (x y:Option β):D7 (.bool false) x y=y:=rfl
theorem B7v (x y z:Option β):I1 (.bool true) x y z=x:=rfl
theorem B7u (x y z:Option β):I1 (.bool false) x y z=y:=rfl
noncomputable def Xd (sz kf:Nat):List DV->Option (List DV):=KA fun d=>match d with
 | .agg cs=>Rb sz kf cs
 | _=>none
theorem B36 {sz kf:Nat} {cs l:List DV} (h:cs.length=sz) (hk:cs.getD kf .undef = .list sz ds) (hl:ds.length<=lim) (hs:Xd sz kf ds=some l):Rb sz kf cs=some (.agg cs::l):=by
 have key:∀ (ds l:List DV),Xd sz kf ds=some l->∃ n,KA (BK sz kf n) ds=some l:=by
  intro ds
  induction ds with
  | nil=>intro l h;exact ⟨0,h⟩
  | cons d ds ih =>
    intro l h;simp only [Xd,KA] at h;obtain ⟨a,h1,h5⟩:=A9 h;obtain ⟨b,h2,h6⟩:=A9 h5;obtain ⟨m,hm⟩:=ih b h2;cases d with
    | agg cs =>
      simp only at h1;obtain ⟨n,hn⟩:=oV h1;refine ⟨n+m, ?_⟩;simp only [KA,WC (ztq n m) hn,Zk (fun d l h=>WC (zvq m n) h) hm,K3]
      exact h6
    | _=>simp at h1
 obtain ⟨n,hn⟩:=key ds l hs;refine A2W (n:=n+1) ?_;rw [BK,hk];simp only [h,beq_self_eq_true,Bool.true_and,decide_eq_true hl,hn,K3,S9]
theorem B19 (sz kf:Nat):Xd sz kf []=some []:=rfl
theorem A2t (sz kf:Nat) (cs:List DV) (ds:List DV):Xd sz kf (.agg cs::ds)=ob (Rb sz kf cs) fun a=>ob (Xd sz kf ds) fun b=>some (a++b):=rfl
noncomputable def flatK (sz kf:Nat) (cs:List DV):DV->Option (List DV)
 | .list s ds=>og (s == sz && decide (ds.length<=lim)) (ob (Xd sz kf ds) fun l=>some (.agg cs::l))
 | _=>none
theorem B5P {sz kf n:Nat}:∀ {ds l:List DV},KA (BK sz kf n) ds=some l->Xd sz kf ds=some l:=by
 intro ds
 induction ds with
 | nil=>intro l h;exact h
 | cons d ds ih =>
   intro l h;simp only [KA] at h;obtain ⟨a,h1,h2⟩:=A9 h;obtain ⟨b,h3,h4⟩:=A9 h2;cases d with
   | agg cs =>
     rw [A2t,A2W h1,ih h3];exact h4
   | _=>cases n <;> simp [BK] at h1
theorem B5O (sz kf:Nat) (cs:List DV):Rb sz kf cs=og (cs.length == sz) (flatK sz kf cs (cs.getD kf .undef)):=by
 refine oF (fun l h => ?_) fun l h => ?_
 ·obtain ⟨n,hn⟩:=oV h
  cases n with
  | zero=>simp [BK] at hn
  | succ n =>
    rw [BK] at hn;obtain ⟨h1,hn⟩:=F4 hn;rw [h1];cases hk:cs.getD kf .undef with
    | list s ds =>
      rw [hk] at hn;simp only at hn;obtain ⟨h2,hn⟩:=F4 hn;obtain ⟨a,h3,h4⟩:=A9 hn;simp only [flatK,h2,S9,B5P h3,K3];exact h4
    | _=>rw [hk] at hn;simp at hn
 ·obtain ⟨h1,h⟩:=F4 h
  cases hk:cs.getD kf .undef with
  | list s ds =>
    rw [hk] at h;simp only [flatK] at h;obtain ⟨h2,h⟩:=F4 h;obtain ⟨a,h3,h4⟩:=A9 h;simp only [z3q,decide_eq_true_eq,beq_iff_eq] at h2 h1;obtain ⟨rfl,h2⟩:=h2;simp only [Option.some.injEq] at h4;rw [<- h4];exact B36 h1 hk h2 h3
  | _=>rw [hk] at h;simp [flatK] at h
theorem C1V {x y:Option (List DV × List D8)} (h:x=y) (k:DV->List D8->Option α):oc x k=oc y k:=by rw [h]
theorem C1W (v:DV) (l:List DV) (s:List D8) (k:DV->List D8->Option α):oc (some (v::l,s)) k=k v s:=rfl
end Go.Su
