/-
  Parts of the proof, merged: SuCode, SuFun, SuRun, SuCont, SuCont2, SuCont3, SuAt, SuTy, SuPl, SuJoin, SuRd, SuM1, SuIt, SuM2, SuM3, SuM4, SuM5, SuRd2, SuFix, SuKeys, SuClone, SuMp, SuM6.
-/
import Derived.Below
import Derived.ChangeArms
import Derived.ChangeShapes
import Derived.DataReads
import Derived.IntWalk
import Derived.KernelRfl
import Derived.Lib.SliceRun
import Derived.Maps.RangeRun
import Derived.OwnWalkIn
import Derived.RangeFuncBound
import Derived.Sort.KeysCollected
import Derived.Sort.OwnSorted
import Derived.Test.YtglacjdohajkeaaGreatQ2
set_option linter.unusedVariables false
set_option linter.unusedSimpArgs false
/-
 THE DATA MACHINE, part 25: code.
-/
open Array renaming getElem?_eq_some_iff → z2q, getElem?_toList → znq, getElem?_eq_getElem → zpq, getElem?_setIfInBounds_ne → zqq, getElem?_setIfInBounds_self_of_lt → zuq, getD_eq_getD_getElem? → zyq, getElem?_modify → zXq, getElem_toList → zZq, length_toList → y4q, toList_filter → y6q, ext_getElem? → y9q
open Bool renaming and_eq_true → z3q, false_eq_true → zeq, eq_iff_iff → zWq, not_true → yaq, not_false → ymq
open List renaming getElem?_eq_some_iff → z0q, getElem?_eq_getElem → z1q, mem_cons_of_mem → z4q, mem_cons_self → z5q, getD_eq_getElem?_getD → z6q, all_eq_true → z7q, map_cons → z9q, getElem?_map → zaq, getElem?_cons_succ → zbq, length_cons → zcq, eq_nil_of_length_eq_zero → zdq, sum_cons → zfq, mem_map_of_mem → zgq, getElem?_replicate → zhq, getElem?_cons_zero → ziq, drop_eq_getElem_cons → zkq, getElem?_append_left → zlq, attach_map_val → zmq, sizeOf_lt_of_mem → zvq, getElem?_append_right → zxq, mem_iff_getElem → zzq, mem_singleton → zBq, getElem?_set_self → zCq, length_eq_one_iff → zDq, map_nil → zEq, append_assoc → zFq, mem_flatMap → zGq, all_map → zHq, length_map → zIq, foldl_cons → zJq, find?_cons → zKq, map_append → zLq, getElem?_take_of_lt → zMq, length_pos_of_mem → zPq, drop_of_length_le → zQq, drop_length → zRq, map_toArray → zSq, getElem?_set_ne → zUq, getElem?_mapIdx → zVq, mem_append → zYq, mem_map → y1q, take_take → y3q, getElem?_ofFn → y5q, getElem?_set → y7q, mem_cons → ybq, flatMap_cons → ycq, cons_append → yeq, filter_cons → yfq, getElem_map → ygq, length_set → yhq, append_nil → yiq, length_nil → yjq, nodup_cons → ykq, mapM_cons → ylq, drop_take → ynq, drop_drop → yoq, all_cons → ypq
open Nat renaming le_refl → z8q, zero_add → zoq, lt_or_ge → zrq, le_add_right → zsq, le_add_left → ztq, add_sub_cancel_left → zNq, le_zero → zOq, le_trans → zTq, lt_of_lt_of_le → y0q, le_of_not_lt → y8q, zero_mul → ydq
open Option renaming map_eq_some_iff → zjq, bind_eq_some_iff → zwq, map_some → zAq, getD_some → y2q
namespace Go.Su
set_option linter.defProp false
def Out.wI:Out->Exit
 |.normal=>.normal
 |.exit i=>.exit i
 |.ret=>.ret
def pM{α : Type}{ts:List Nat}{d : α}:∀{l:List α}{i j:Nat},(aO ts d i l)[j]?=(l[j]?).map λy=>if ts.contains (i+j)then y else d
 |[],i,j=>by simp[aO]
 |y::l,i,0=>by simp[aO]
 |y::l,i,j+1=>by simp only[aO,zbq];rw[pM,show i+1+j=i+(j+1)by omega]
def YA{α : Type}{ts:List Nat}{d : α}:∀{l:List α}{i:Nat},(aO ts d i l).length=l.length
 |[],i=>rfl
 |y::l,i=>by simp[aO,YA]
def yC{α : Type}{f : α -> α}{ts:List Nat}:∀{l:List α}{i j:Nat},(mP f ts i l)[j]?=(l[j]?).map λy=>if ts.contains (i+j)then f y else y
 |[],i,j=>by simp[mP]
 |y::l,i,0=>by simp[mP]
 |y::l,i,j+1=>by simp only[mP,zbq];rw[yC,show i+1+j=i+(j+1)by omega]
def rT{α : Type}{f : α -> α}{ts:List Nat}:∀{l:List α}{i:Nat},(mP f ts i l).length=l.length
 |[],i=>rfl
 |y::l,i=>by simp[mP,rT]
variable {E:Env}{h:Heap}{tg:Tag}{d:DV}{v:Value}
def A6B(H:O0 E h tg d .full v):O0 E h tg d .own v:=by obtain⟨g1,⟨a1,n1,g2⟩,sz,ds,g3⟩:=H;refine⟨g1,sz,ds,g3,λx len cap hx P8=>?_⟩;rw[g2]at hx;simp only[Value.slice.injEq]at hx;omega
variable {m:H6}
def C2u(H:O0 E h tg d m v):O0 E h tg d (Qd m) v:=by cases m<;>first | exact A6B H | exact H
def C2v{k a:Nat}(H:RR E h k a d m v):RR E h k a d (Qd m) v:=by cases m<;>first | exact A6B H | exact H
def C0z(H:w9 m=true):w9 (Qd m)=true:=by cases m<;>first | rfl | exact H
def C2w(H:O0 E h tg d m v):O0 E h tg d (aV m) v:=by
 unfold aV;split
 ·rename_i hd;cases m
  case FZ=>obtain⟨rfl,rfl⟩:=(H:_/\_);simp only[O0,RV]
  all_goals first | exact H | exact H.1 | (simp[M6]at hd;done) | exact H.elim
 ·exact H
def C2x{k a:Nat}(H:RR E h k a d m v):RR E h k a d (aV m) v:=by
 unfold aV;split
 ·rename_i hd;exact RR.val (RR.data hd H)
 ·exact H
def C0A(H:w9 m=true):w9 (aV m)=true:=by
 unfold aV;split
 ·rfl
 ·exact H
variable {st:St}{a:Act}
def M9.keep(R:M9 E st a h)(ts bs os vs:List Nat):M9 E (st.keep ts bs os vs) a h:=by
 refine⟨by simp only[St.keep,YA];exact R.size,by simp only[St.keep,YA,rT];exact R.Ba,by simp only[St.keep,YA,rT];exact R.Dm,R.n,λt v hv=>?_,λs cs hs=>?_,R.V8,R.fresh⟩
 ·have ht:t<st.tm.length:=by rw[<- R.size];exact(z2q.1 hv).1
  have ht':t<st.mt.length:=by rw[R.Ba];exact ht
  have h0:=R.AA t v hv;by_cases hc:ts.contains t=true
  ·have:(st.keep ts bs os vs).get t=((st.get t).1,(λm=>if vs.contains t then aV m else m) ((λm=>if os.contains t then Qd m else m) (st.get t).2)):=by simp only[St.get,St.keep,z6q,pM,yC,zoq,hc,H5,Option.map_id',z1q ht'];rfl
   rw[this];have h1:RR E h 0 t (st.get t).1 ((λm=>if os.contains t then Qd m else m) (st.get t).2) v:=by
    simp only
    split
    ·exact C2v h0
    ·exact h0
   simp only at h1 ⊢;split
   ·exact C2x h1
   ·exact h1
  ·have:(st.keep ts bs os vs).get t=(.undef,.val):=by simp only[St.get,St.keep,z6q,pM,yC,zoq,hc,z1q ht,z1q ht',zAq,y2q];simp only[zeq,F9,Qd,aV,M6,ite_self]
   rw[this];simp only[RR,O0,RV]
 ·simp only[St.keep,z6q,pM,yC,zoq]at hs ⊢;cases hb:st.bx[s]? with
  |none=>rw[hb]at hs;simp at hs
  |some y=>
    rw[hb]at hs;simp only[zAq,y2q]at hs ⊢;by_cases hc:bs.contains s=true
    ·simp only[hc,H5]at hs;have old:∀cs',y=some cs'->jT E h (.Vo s) 1 s (E.blk s) cs':=λcs' hy=>R.Ad s cs' (by simp only[z6q,hb,y2q,hy]);have step1:∀cs',(if os.contains s=true then ZZ y else y)=some cs'->jT E h (.Vo s) 1 s (E.blk s) cs':=by
      intro cs hs;by_cases ho:os.contains s=true
      ·simp only[ho,H5]at hs;cases y with
       |none=>simp[ZZ]at hs
       |some cs'=>simp only[ZZ,D9]at hs;subst hs;obtain⟨c,T,h1,h2,h3,h4⟩:=old cs' rfl;refine⟨c,T,h1,by simpa using h2,h3,λj r v hr hv=>?_⟩;simp only[zaq,zjq]at hr;obtain⟨r0,hr0,rfl⟩:=hr;obtain⟨k1,k2,k3,k4⟩:=h4 j r0 v hr0 hv;exact⟨k1,k2,C0z k3,C2u k4⟩
      ·simp only[ho,zeq,F9]at hs;exact old cs hs
     by_cases hv:vs.contains s=true
     ·simp only[hv,H5]at hs;generalize (if os.contains s=true then ZZ y else y)=z at hs step1;cases z with
      |none=>simp[yo]at hs
      |some cs'=>simp only[yo,D9]at hs;subst hs;obtain⟨c,T,h1,h2,h3,h4⟩:=step1 cs' rfl;refine⟨c,T,h1,by simpa using h2,h3,λj r v hr hv=>?_⟩;simp only[zaq,zjq]at hr;obtain⟨r0,hr0,rfl⟩:=hr;obtain⟨k1,k2,k3,k4⟩:=h4 j r0 v hr0 hv;exact⟨k1,k2,C0A k3,C2w k4⟩
     ·simp only[hv,zeq,F9]at hs;exact step1 cs hs
    ·simp only[hc,zeq,F9]at hs;split at hs<;>split at hs<;>simp[ZZ,yo]at hs
def M9.RQ(R:M9 E st a h)(fl:I5)(id:Nat):M9 E (RQ fl id st) a h:=by
 unfold Su.RQ;split
 ·exact R.keep _ _ _ _
 ·exact R
def M9.clean(R:M9 E st a h)(fl:I5)(c:Code):M9 E (clean fl c st) a h:=by
 unfold Su.clean;split
 ·exact R.RQ fl _
 ·exact R
def iC{S X:Type}{F:(S->Option X)->S->Option X}{s:S}{x:X}(H:Jt F s=some x):∃n,iter F n s=some x:=by
 unfold Jt at H;split at H
 ·rename_i h;simp only[D9]at H;obtain⟨n,hn⟩:=h.choose_spec;rw[H]at hn;exact⟨n,hn⟩
 ·cases H
section
variable {X:Type}{C:AB}{R:U1}{fl:I5}{ps:Array Nat}
def A8K{C:AB}{g:Operand}{pl:Bool}{fin:St->Option X}{step:Nat->DV->(List H7->Option X)->List H7->Option X}{x:X}(H:A4l C st g ps pl fin step=some x):
 ∃t p f i it cs cd ds,g=.tmp t/\ps.toList=[p]/\(st.get t).2=.fn f [(i,0)]/\C.iter f=some it/\Q7 st.sg i=some cs/\Ce cs=some cd/\it cd=some ds/\pl=true /\PL (step p) (λsg=>fin (BA st sg)) ds (st.sg.set i (.arr 1 []))=some x:=by
 unfold A4l at H;split at H
 ·rename_i t p hp;split at H
  ·rename_i f i hm;obtain⟨it,h1,H⟩:=D8 H;obtain⟨cs,h2,H⟩:=D8 H;obtain⟨cd,h3,H⟩:=D8 H;obtain⟨ds,h4,H⟩:=D8 H;obtain⟨h5,H⟩:=I9 H;exact⟨t,p,f,i,it,cs,cd,ds,rfl,hp,hm,h1,h2,h3,h4,h5,H⟩
  ·cases H
 ·cases H
def C1k{C:AB}{fin:St->Option X}{step:Nat->DV->(List H7->Option X)->List H7->Option X}{t p f i:Nat}{it:List DV->Option (List DV)}{cs:List (DV×H6)}{cd ds:List DV}(hp:ps.toList=[p])(hm:(st.get t).2=.fn f [(i,0)])(h1:C.iter f=some it)(h2:Q7 st.sg i=some cs)(h3:Ce cs=some cd)(h4:it cd=some ds):
 A4l C st (.tmp t) ps true fin step=PL (step p) (λsg=>fin (BA st sg)) ds (st.sg.set i (.arr 1 [])):=by
 unfold A4l;simp only[hp,hm,h1,h2,h3,h4,ob,og]
theorem B5K{step:DV->(List H7->Option X)->List H7->Option X}{fin:List H7->Option X}{ds:List DV}{k:Nat}(h:ds[k]?=some d)(sg:List H7):
 PL step fin (ds.drop k) sg=step d (PL step fin (ds.drop (k+1))) sg:=by
 obtain⟨hk,h⟩:=z0q.1 h;rw[zkq hk,h];rfl
def Left(c:Code)(n:Nat)(E:Env)(h:Heap)(ds ds':List Deferred):Prop:=∃ms,ds'=ms++ds/\Marks n E h ms/\(Aq c=true->ms=[])
variable {c:Code}
def Left.same{n:Nat}{ds ds':List Deferred}(e:ds'=ds):Left c n E h ds ds':=⟨[],e,Marks.nil,λ_=>rfl⟩
theorem Left.plain{n:Nat}{ds ds':List Deferred}(L:Left c n E h ds ds')(hp:Aq c=true):ds'=ds:=by obtain⟨ms,h1,-,h2⟩:=L;rw[h1,h2 hp];rfl
def B5P(h:xu c=true):Aq c=true:=by
 unfold xu at h;split at h
 ·rfl
 ·rfl
 ·cases h
set_option maxHeartbeats 1000000 in
def yO(hm:C.P.follows .mixedOrders=true)(hO:GI C R):∀(c:Code){ro:Option Nat}{n:Nat}{K:Out->St->Option X}{st:St}{x:X}{E:Env}{a:Act}{w:World}{Q:Exit->Act->World->Prop},(ro=none\/Aq c=true)->AC C R fl c K st=some x->M9 E st a w.heap->
 (∀out E' st' a' w',K out st'=some x->Left c w.heap.size E' w'.heap a.defers a'.defers->M9 E' st' a' w'.heap->Pr Q4 E w.heap E' w'.heap->W9 w w'->Q out.wI a' w')->c.wpIn (EI ro) n C.P Q a w:=by
 intro c;induction c with
 |skip=>intro ro n K st x E a w Q gF H Rl T;exact wpIn_skip (T .normal E st a w H (Left.same rfl) Rl (Pr.refl _ _ _) (W9.refl _))
 |region id ops d=>
   intro ro n K st x E a w Q gF H Rl T;cases d
   ·exact B8G hO H (Rl.RQ fl id) λE' t a' w' h1 h0 h2 h3 h4=>by obtain⟨E2,t2,k1,k2,k3⟩:=A8n h1 h2;exact T .normal E2 t2 a' w' k1 (Left.same h0) k2 (h3.trans k3) h4
   ·simp only[AC,rO]at H;exact C2j hm hO H (Rl.RQ fl id) λE' t a' w' h1 h0 h2 h3 h4=>by obtain⟨E2,t2,k1,k2,k3⟩:=A8n h1 h2;exact T .normal E2 t2 a' w' k1 (Left.same h0) k2 (h3.trans k3) h4
 |seq c d ihc ihd=>
   intro ro n K st x E a w Q gF H Rl T;have hp:Aq (.seq c d)=true->Aq c=true/\Aq d=true:=λh=>by simpa[Aq]using h
   refine wpIn_seq (ihc (gF.imp id λh=>(hp h).1) H Rl λout E' st' a' w' h1 h0 h2 h3 h4=>?_);obtain⟨ms,q1,q2,q3⟩:=h0;cases out with
   |normal=>refine ihd (gF.imp id λh=>(hp h).2) h1 (h2.clean fl d) λout E2 st2 a2 w2 k1 k0 k2 k3 k4=>T out E2 st2 a2 w2 k1 ?_ k2 (h3.trans k3) (h4.trans k4);obtain⟨ns,p1,p2,p3⟩:=k0;exact⟨ns++ms,by rw[p1,q1,zFq],p2.append q2 k3 h3.size,λh=>by rw[p3 (hp h).2,q3 (hp h).1];rfl⟩
   |exit i=>exact T (.exit i) E' st' a' w' h1 ⟨ms,q1,q2,λh=>q3 (hp h).1⟩ h2 h3 h4
   |ret=>exact T .ret E' st' a' w' h1 ⟨ms,q1,q2,λh=>q3 (hp h).1⟩ h2 h3 h4
 |cond y c d ihc ihd=>
   intro ro n K st x E a w Q gF H Rl T;have hp:Aq (.cond y c d)=true->Aq c=true/\Aq d=true:=λh=>by simpa[Aq]using h
   simp only[AC,A8I]at H;obtain⟨r,h1,H⟩:=D8 H;obtain⟨h2,H⟩:=I9 H;have e1:=(Rl.src h1).data h2;have fin:(r.1=.bool true/\AC C R fl c K (Su.clean fl c st)=some x)\/(r.1=.bool false/\AC C R fl d K (Su.clean fl d st)=some x):=by
    cases y with
    |tmp t=>
      simp only[src,D9]at h1;subst h1;simp only at H;rcases yA H with⟨h3,h4⟩ | ⟨h3,h4⟩
      ·rw[KG h3 (by simp)]at h4;exact .inl ⟨h3,h4⟩
      ·rw[KG h3 (by simp)]at h4;exact .inr ⟨h3,h4⟩
    |_=>exact yA H
   rcases fin with⟨h3,h4⟩ | ⟨h3,h4⟩
   ·rw[h3]at e1;simp only[RV]at e1;exact wpIn_cond_true e1 (ihc (gF.imp id λh=>(hp h).1) h4 (Rl.clean fl c) λout E' st' a' w' h1 ⟨ms,q1,q2,q3⟩ h2 h3 h4=>T out E' st' a' w' h1 ⟨ms,q1,q2,λh=>q3 (hp h).1⟩ h2 h3 h4)
   ·rw[h3]at e1;simp only[RV]at e1;exact wpIn_cond_false e1 (ihd (gF.imp id λh=>(hp h).2) h4 (Rl.clean fl d) λout E' st' a' w' h1 ⟨ms,q1,q2,q3⟩ h2 h3 h4=>T out E' st' a' w' h1 ⟨ms,q1,q2,λh=>q3 (hp h).2⟩ h2 h3 h4)
 |block id c ih=>
   intro ro n K st x E a w Q gF H Rl T;refine wpIn_block (ih gF H Rl λout E' st' a' w' h1 h0 h2 h3 h4=>?_);cases out with
   |normal=>exact T .normal E' st' a' w' h1 h0 h2 h3 h4
   |exit i=>
     simp only[Out.wI,Exit.inBlock];have h1:(if i=id then K .normal st' else K (.exit i) st')=some x:=h1;by_cases hi:i=id
     ·rw[D5 hi]at h1 ⊢;exact T .normal E' st' a' w' h1 h0 h2 h3 h4
     ·rw[C8 hi]at h1 ⊢;exact T (.exit i) E' st' a' w' h1 h0 h2 h3 h4
   |ret=>exact T .ret E' st' a' w' h1 h0 h2 h3 h4
 |loop c ih=>
   intro ro n K st x E a w Q gF H Rl T;simp only[AC]at H;obtain⟨m,H9⟩:=iC H;refine wpIn_loop_rounds m ?_;clear H;have Rl9:=Rl.clean fl c;clear Rl;generalize Su.clean fl c st=st9 at H9 Rl9;clear st;induction m generalizing st9 E a w with
   |zero=>simp[iter]at H9
   |succ m ihn=>
     rw[roundsIn_succ];simp only[iter]at H9;refine ih gF H9 Rl9 λout E' st' a' w' h1 h0 h2 h3 h4=>?_;obtain⟨ms,q1,q2,q3⟩:=h0;cases out with
     |normal=>refine ihn (λout E2 st2 a2 w2 k1 k0 k2 k3 k4=>T out E2 st2 a2 w2 k1 ?_ k2 (h3.trans k3) (h4.trans k4)) _ h1 (h2.clean fl c);obtain⟨ns,p1,p2,p3⟩:=k0;exact⟨ns++ms,by rw[p1,q1,zFq],p2.append q2 k3 h3.size,λh=>by rw[p3 h,q3 h];rfl⟩
     |exit i=>exact T (.exit i) E' st' a' w' h1 ⟨ms,q1,q2,q3⟩ h2 h3 h4
     |ret=>exact T .ret E' st' a' w' h1 ⟨ms,q1,q2,q3⟩ h2 h3 h4
 |exit id=>intro ro n K st x E a w Q gF H Rl T;exact wpIn_exit (T (.exit id) E st a w H (Left.same rfl) Rl (Pr.refl _ _ _) (W9.refl _))
 |ret=>intro ro n K st x E a w Q gF H Rl T;exact wpIn_ret (T .ret E st a w H (Left.same rfl) Rl (Pr.refl _ _ _) (W9.refl _))
 |rangeFunc g ps assign body iha ihb=>
   intro ro n K st x E a w Q gF H Rl T;obtain rfl:ro=none:=by
    rcases gF with h | h
    ·exact h
    ·simp[Aq]at h
   obtain⟨t,p,f,i,it,cs,cd,ds,rfl,hps,hmt,hit,hbx,hcd,pI,YZ,H⟩:=A8K H;simp only[z3q]at YZ;obtain⟨hra,hpb⟩:=YZ;have hpa:=B5P hra;have hfn:=Rl.src (P:=C.P) (t:=0) (x:=.tmp t) rfl;rw[hmt]at hfn;simp only[RR,O0]at hfn;obtain⟨hfv,hfi⟩:=hfn;have Qa:i<E.n:=(hfi (i,0) (by simp)).1;have hsi:st.sg[i]?=some (.box cs):=by
    unfold Q7 at hbx;split at hbx
    ·rename_i h;simp only[D9]at hbx;subst hbx;exact h
    ·cases hbx
   have hRO:=Rl.V8 i _ hsi;simp only[RO]at hRO;obtain⟨c,T0,b1,b2,b3,b4⟩:=hRO;have C8s:Jb E.S w.heap cd c.toList:=B0T (k:=2) (a:=i) hcd (by simp[b2]) λj r v hr hv=>by obtain⟨a1,a2,a3,a4⟩:=b4 j r v hr (by simpa using hv);exact⟨a1,a2,a3,j,a4⟩
   let E1:=E.re (B23 i)
   have hS1:AZ E.S w.heap E1.S w.heap:=NA rfl;have P01:Pr Q4 E w.heap E1 w.heap:=Pr.re λT hT=>by cases T<;>simp[Q4]at hT<;>rfl
   have C8G:∀(j:Nat) ob,(st.sg.set i (.arr 1 []))[j]?=some ob->RO E1 w.heap j ob:=by
    intro j ob hj;by_cases PM:i=j
    ·subst PM;rw[zCq (z0q.1 hsi).1]at hj;simp only[D9]at hj;subst hj;simp[RO]
    ·rw[zUq PM]at hj;have hji:¬j=i:=λh=>PM h.symm;refine(Rl.V8 j ob hj).to (E:=E) ⟨λb o h=>by simp only[E1,Env.re];rw[h];rfl,λb o h=>by simp only[E1,Env.re];rw[h];simp[B23,hji],rfl,rfl,rfl,rfl,rfl⟩ λq b o h=>by simp only[E1,Env.re];rw[h];simp[B23,hji]
   have C7g:∀o,o<c.size->E1.O (E.obj i) o=.other:=by
    intro o ho;simp only[E1,Env.re];rcases b3 o with h | h
    ·rw[h];simp[B23]
    ·omega
   refine wpIn_rangeFunc λfn _=>?_;obtain⟨rec,eU⟩:∃rec:LoopState->Option Code->Loop,rec=λst pe=>{ state:=st,pending:=pe,fn,tmps:=a.tmps,params:=ps,assign,body,defers:=w.heap.size }:=⟨_,rfl⟩;obtain⟨W1,hW1⟩:∃W1,(w.alloc (.deferred (some []))).alloc (.loop (rec .ready none))=W1:=⟨_,rfl⟩;have C1L:W1.heap.size=w.heap.size+2:=by rw[<- hW1];simp
   have hL1:W1.heap[w.heap.size+1]?=some (.loop (rec .ready none)):=by rw[<- hW1];have:=World.alloc_heap_new (w.alloc (.deferred (some []))) (.loop (rec .ready none));rwa [World.size_alloc]at this
   have hK1:W1.heap[w.heap.size]?=some (.deferred (some [])):=by rw[<- hW1];exact(Go.RowKit.Below.heap_alloc _ _ _ (by simp)).trans (World.alloc_heap_new w _)
   have P1:Pr (λ_=>False) E1 w.heap E1 W1.heap:=by rw[<- hW1];exact(Pr.push (λ_ _ _ _=>rfl) (z8q _) (λ_ _ _=>⟨rfl,rfl,rfl⟩) (λ_ _=>rfl) (Ee rfl)).trans (Pr.push (λ_ _ _ _=>rfl) (z8q _) (λ_ _ _=>⟨rfl,rfl,rfl⟩) (λ_ _=>rfl) (Ee rfl))
   have B34:∀b o,w.heap.size<=b->E1.O b o=.other:=λb o hb=>by simp only[E1,Env.re];rw[Rl.fresh b o hb];rfl
   have B7V:AZ E1.S w.heap E1.S W1.heap:=P1.U0 (by simp) B34;have C7m:W9 w W1:=by rw[<- hW1];exact⟨rfl,rfl,rfl⟩
   refine⟨w.heap.size+1,[{ target:=.collected w.heap.size,args := #[] }],W1,{ target:=.fn (.func f) #[.pointer (some ⟨E.obj i,0,none⟩)],args := #[.func (.yield (w.heap.size+1)) #[] #[]] },W1,f,#[.func (.yield (w.heap.size+1)) #[] #[],.pointer (some ⟨E.obj i,0,none⟩)],W1,?_,?_,λ_ _=>trivial,?_,λh=>(by cases h),?_⟩
   ·rw[<- hW1,eU];exact run_enterLoop_outer _ _ _ _ _
   ·simp only[resolve,hfv]
    simp[go_sem]
   ·have:=mf (hO.i f it hit).1 #[.func (.yield (w.heap.size+1)) #[] #[],.pointer (some ⟨E.obj i,0,none⟩)] W1;simpa[invoke,go_sem]using this
   let step:DV->(List H7->Option X)->List H7->Option X:=λd J sg=>
    AC C R fl assign (λo st1=>match o with
     |.normal=>AC C R fl body (λo st2=>match o with
       |.normal=>J st2.sg
       |.exit e=>K (.exit e) (BA st st2.sg)
       |.ret=>K .ret (BA st st2.sg)) (Su.clean fl body st1)
     |.exit _=>none
     |.ret=>none) (Su.clean fl assign (Ze st p d sg))
   let fin:List H7->Option X:=λsg=>K .normal (BA st sg)
   have H:PL step fin ds (st.sg.set i (.arr 1 []))=some x:=H
   let Good:Env->World->List H7->Prop:=λE' W sg=>sg.length=E'.n/\(∀(j:Nat) ob,sg[j]?=some ob->RO E' W.heap j ob)/\(∀b o,W.heap.size<=b->E'.O b o=.other)/\Pr Q4 E1 w.heap E' W.heap/\W9 w W /\W.heap[w.heap.size]?=some (.deferred (some []))/\E'.O w.heap.size 0=.other/\E'.O (w.heap.size+1) 0=.other
   let J:Nat->Env->World->Prop:=λk E' W=>∃sg,PL step fin (ds.drop k) sg=some x/\Good E' W sg/\W.heap[w.heap.size+1]?=some (.loop (rec .ready none))
   let Jx:World->Prop:=λW=>∃(out:Out)(cd:Code)(E':Env)(sg:List H7),((out=.ret/\cd=.ret)\/∃e,out=.exit e/\cd=.exit e)/\K out (BA st sg)=some x/\Good E' W sg/\W.heap[w.heap.size+1]?=some (.loop (rec .done (some cd)))
   have behind:∀E' W sg (dl:List Deferred),Good E' W sg->M9 E' (BA st sg) { a with defers:=dl } W.heap:=by
    intro E' W sg dl ⟨g1,g2,g3,g4,g5,g6,g7,g8⟩;have M3:AZ E.S w.heap E'.S W.heap:=by have h2:=g4.U0 (by simp[Q4]) B34;exact⟨λb o hs=>h2.s b o (hS1.s b o hs),λb o v hs hv=>h2.c b o v (hS1.s b o hs) hv⟩
    exact Rl.outer M3 (λj hj=>⟨g4.In hj,(g4.old hj).1⟩) g1 g2 g3
   have B6L:∀E' W sg (o:Obj) (o':Obj),Good E' W sg->W.heap[w.heap.size+1]?=some o->o.isCells=false->Good E' (W.putObj (w.heap.size+1) o') sg:=by intro E' W sg o o' ⟨g1,g2,g3,g4,g5,g6,g7,g8⟩ ho hc;have Pp:Pr (λT=>T=.other) E' W.heap E' (W.putObj (w.heap.size+1) o').heap:=Pr.setOther ho hc g8;have M3:=Pp.U0 (by simp) g3;refine⟨g1,λj ob hj=>(g2 j ob hj).mono Pp M3 (by rw[<- g1];exact(z0q.1 hj).1) (by simp) (by simp),λb o hb=>g3 b o (by simpa using hb),g4.A3P (by omega),⟨g5.os,g5.tape,g5.output⟩,?_,g7,g8⟩;exact(World.putObj_heap_other (by omega)).trans g6
   have C8u:W1.heap[E.obj i]?=some (.cells c T0 (0,0)):=by have P8:=(z2q.1 b1).1;rw[<- hW1];exact(Go.RowKit.Below.heap_alloc _ _ _ (by simp;omega)).trans ((Go.RowKit.Below.heap_alloc _ _ _ P8).trans b1)
   have key:=(hO.i f it hit).2 cd ds pI (n-1) (w.heap.size+1) (E.obj i) c T0 J Jx E1 W1 C8u C7g (Jb.mono ⟨λb o hs=>B7V.s b o (hS1.s b o hs),λb o v hs hv=>B7V.c b o v (hS1.s b o hs) hv⟩ _ C8s)
    (λk E' W' ⟨sg,_,g,_⟩=>g.2.2.1) ?_ ?_ ?_
   ·refine CallsIn.mono key ?_;rintro e W2 ⟨⟨v,rfl⟩,⟨E',sg,h1,g,hl⟩ | ⟨out,cd,E',sg,ho,h1,g,hl⟩⟩
    ·-- all have come
     have g':=B6L E' W2 sg _ (.loop { rec .ready none with state:=.exhausted }) g hl rfl;refine⟨none,W2.putObj (w.heap.size+1) (.loop { rec .ready none with state:=.exhausted }),by have:=run_endLoop (P:=C.P) hl (by rw[eU];simp);rw[this];rw[eU],?_⟩;rw[zRq]at h1;refine T .normal E' _ _ _ h1 ⟨[{ target:=.collected w.heap.size,args := #[] }],rfl,?_,λh=>by simp[Aq]at h⟩ (behind E' _ sg _ g') (P01.trans g'.2.2.2.1) g'.2.2.2.2.1;refine⟨λm hm=>?_,by simp⟩;simp only[zBq]at hm;subst hm;exact⟨_,rfl,g'.2.2.2.2.2.1,g'.2.2.2.2.2.2.1,z8q _⟩
    ·-- a round has left the loop
     have g':=B6L E' W2 sg _ (.loop { rec .done (some cd)with state:=.exhausted }) g hl rfl;refine⟨some cd,W2.putObj (w.heap.size+1) (.loop { rec .done (some cd)with state:=.exhausted }),by have:=run_endLoop (P:=C.P) hl (by rw[eU];simp);rw[this];rw[eU],?_⟩;have hT:Q out.wI { a with defers:=[{ target:=.collected w.heap.size,args := #[] }]++a.defers } (W2.putObj (w.heap.size+1) (.loop { rec .done (some cd)with state:=.exhausted })):=by refine T out E' _ _ _ h1 ⟨[{ target:=.collected w.heap.size,args := #[] }],rfl,?_,λh=>by simp[Aq]at h⟩ (behind E' _ sg _ g') (P01.trans g'.2.2.2.1) g'.2.2.2.2.1;refine⟨λm hm=>?_,by simp⟩;simp only[zBq]at hm;subst hm;exact⟨_,rfl,g'.2.2.2.2.2.1,g'.2.2.2.2.2.2.1,z8q _⟩
     rcases ho with⟨rfl,rfl⟩ | ⟨e,rfl,rfl⟩
     ·exact wpIn_ret hT
     ·exact wpIn_exit hT
   ·intro k E' Wa Wb ⟨sg,h1,⟨g1,g2,g3,g4,g5,g6,g7,g8⟩,hl⟩ hIt;have M3:=hIt.pr.U0 (by simp) g3;exact⟨sg,h1,⟨g1,λj ob hj=>(g2 j ob hj).mono hIt.pr M3 (by rw[<- g1];exact(z0q.1 hj).1) (by simp) (by simp),λb o hb=>g3 b o (zTq hIt.size hb),hIt.after (by omega) g4,g5.trans hIt.out,hIt.keep g6 rfl,g7,g8⟩,hIt.keep hl rfl⟩
   ·-- one round
    intro k E' W d v ⟨sg,h1,g,hl⟩ hd hv;rw[B5K hd]at h1;have C5S:ps=#[p]:=by apply Array.ext';simpa using hps
    have hy:=run_yield (P:=C.P) (args := #[v]) hl (by rw[eU];simp[C5S]);rw[eU]at hy;refine⟨fn,_,assign,body,hy,roundIn_of_wpIn trivial ?_⟩;obtain⟨g1,g2,g3,g4,g5,g6,g7,g8⟩:=g;have R0:M9 E' (Ze st p d sg) ({ tmps:=a.tmps.setIfInBounds p v,defers:=[] }:Act) W.heap:=by have:=(behind E' W sg [] ⟨g1,g2,g3,g4,g5,g6,g7,g8⟩).put (dst:=some p) (d:=d) (m:=.val) (v:=v) λt0 _=>hv;exact this
    have C7d:(Array.zip ps #[v]).foldl (λtmps (t,a)=>tmps.setIfInBounds t a) a.tmps=a.tmps.setIfInBounds p v:=by rw[C5S];simp
    simp only[C7d];refine iha (ro:=some (w.heap.size+1)) (.inr hpa) h1 (R0.clean fl assign) λout E2 st1 a1 w1 k1 k0 k2 k3 k4=>?_;cases out with
    |exit e=>cases k1
    |ret=>cases k1
    |normal=>
    have d1:a1.defers=[]:=k0.plain hpa;have hl1:=k3.mK hl rfl g8;have t1:E2.O (w.heap.size+1) 0=.other:=k3.ZY (z2q.1 hl).1 g8;refine⟨_,run_beginRound hl1 (by rw[eU]),?_⟩;have R2:M9 E2 (Su.clean fl body st1) a1 (w1.putObj (w.heap.size+1) (.loop { rec .ready none with state:=.busy })).heap :=(k2.others (Pr.setOther hl1 rfl t1) rfl (λb o hb=>k2.fresh b o (by simpa using hb))).clean fl body
    refine ihb (ro:=some (w.heap.size+1)) (.inr hpb) k1 R2 λout E3 st2 a3 w3 q1 q0 q2 q3 q4=>?_;have hl2:(w1.putObj (w.heap.size+1) (.loop { rec .ready none with state:=.busy })).heap[w.heap.size+1]?=some (.loop { rec .ready none with state:=.busy }):=World.putObj_heap_same (z2q.1 hl1).1;have hl3:=q3.mK hl2 rfl t1;have t3:E3.O (w.heap.size+1) 0=.other:=q3.ZY (z2q.1 hl2).1 t1;have lt3:=(z2q.1 hl3).1;have sz1:=k3.size;have P8:=(z2q.1 hl).1;have Pw:Pr Q4 E' W.heap E3 (w3.heap.setIfInBounds (w.heap.size+1) (.loop (rec .ready none))):=k3.trans (q3.swap hl1);have Pb:∀o,Pr Q4 E1 w.heap E3 (w3.heap.setIfInBounds (w.heap.size+1) o):=λo=>by
     have:=(g4.trans Pw).A3P (l:=w.heap.size+1) (x:=o) (by omega)
     rwa [Array.setIfInBounds_setIfInBounds]at this
    have hD1:=k3.mK g6 rfl g7;have tD1:E2.O w.heap.size 0=.other:=k3.ZY (z2q.1 g6).1 g7;have hD2:(w1.putObj (w.heap.size+1) (.loop { rec .ready none with state:=.busy })).heap[w.heap.size]?=some (.deferred (some [])):=(World.putObj_heap_other (by omega)).trans hD1;have hD3:=q3.mK hD2 rfl tD1;have tD3:E3.O w.heap.size 0=.other:=q3.ZY (z2q.1 hD2).1 tD1;have B7N:∀o,Good E3 (w3.putObj (w.heap.size+1) o) st2.sg:=λo=>by have R3:=q2.others (Pr.setOther (x:=o) hl3 rfl t3) rfl (λb o hb=>q2.fresh b o (by simpa using hb));refine⟨R3.n,R3.V8,R3.fresh,Pb o,?_,(World.putObj_heap_other (by omega)).trans hD3,tD3,t3⟩;have:=(g5.trans k4).trans (W9.trans (b:=w1.putObj (w.heap.size+1) (.loop { rec .ready none with state:=.busy })) ⟨rfl,rfl,rfl⟩ q4);exact⟨this.os,this.tape,this.output⟩
    cases out with
    |normal=>
      refine⟨_,_,run_endRound none hl3,.inl ⟨rfl,E3,⟨st2.sg,q1,B7N _,?_⟩,?_⟩⟩
      ·rw[World.putObj_heap_same lt3];rw[eU];rfl
      ·have:(Obj.loop { { rec .ready none with state:=.busy }with state:=if (none:Option Code).isNone=true then .ready else .done,pending:=none })=.loop (rec .ready none):=by rw[eU];rfl
       rw[this];exact Pw
    |ret=>refine⟨_,_,run_endRound (some .ret) hl3,.inr ⟨rfl,.ret,.ret,E3,st2.sg,.inl ⟨rfl,rfl⟩,q1,B7N _,?_⟩⟩;rw[World.putObj_heap_same lt3];rw[eU];rfl
    |exit e=>refine⟨_,_,run_endRound (some (.exit e)) hl3,.inr ⟨rfl,.exit e,.exit e,E3,st2.sg,.inr ⟨e,rfl,rfl⟩,q1,B7N _,?_⟩⟩;rw[World.putObj_heap_same lt3];rw[eU];rfl
   ·-- where it begins
    refine⟨_,H,⟨by rw[yhq];exact Rl.n,λj ob hj=>(C8G j ob hj).mono P1 B7V ?_ (by simp) (by simp),λb o hb=>B34 b o (by omega),P1.Au (by simp),C7m,hK1,B34 _ _ (z8q _),B34 _ _ (by omega)⟩,hL1⟩;have:=(z0q.1 hj).1;rw[yhq,Rl.n]at this;exact this
 |_=>intro ro n K st x E a w Q gF H Rl T;simp[AC]at H
end
end Go.Su

/-
 THE DATA MACHINE, part 26: a plain function's results.
-/
namespace Go.Su
set_option linter.defProp false
structure A4e(E:Env)(h:Heap)(g:List H7)(S:AL):Prop where
 le:AZ E.S h S h
 ob:∀(i:Nat) ob,g[i]?=some ob->RO E h i ob/\(ob ≠ .arr 1 []->∀b o,E.O b o=.obj i->S b o)
variable (E:Env)
def Env.fin:AL:=λb o=>E.O b o=.U0\/∃i,E.O b o=.obj i
def C5z(h:Heap):AZ E.S h E.fin h:=⟨λ_ _ hs=>.inl hs,λ_ _ _ _ hv=>hv⟩
variable {E:Env}{st:St}{a:Act}{h:Heap}
def B9D(Rl:M9 E st a h):A4e E h st.sg E.fin:=⟨C5z E h,λi ob hi=>⟨Rl.V8 i ob hi,λ_ _ _ h=>.inr ⟨i,h⟩⟩⟩
def B8g(E:Env)(h:Heap):A4e E h [] E.S:=⟨⟨λ_ _ hs=>hs,λ_ _ _ _ hv=>hv⟩,λi ob hi=>by simp at hi⟩
variable {sg:List H7}{d:DV}{S:AL}
def aR{c:DV×H6}{tg:Tag}{v:Value}(H:V6 sg c=some d)(R:O0 E h tg c.1 c.2 v)(ho:A4e E h sg S):
 RV S h d v/\(M7 c.1=true->c.2=.val->M7 d=true)/\(c.2 ≠ .val->M7 d=true):=by
 unfold V6 at H;split at H
 ·rename_i hm;simp only[D9]at H;subst H;rw[hm]at R;exact⟨RV.mono ho.le _ R,λh _=>h,λh=>absurd hm h⟩
 ·rename_i hm;simp only[D9]at H;subst H;rw[hm]at R;obtain⟨R1,-,sz,ds,hd⟩:=R;exact⟨R1.mono ho.le,λh _=>h,λ_=>by rw[hd];rfl⟩
 ·rename_i hm;simp only[D9]at H;subst H;rw[hm]at R;obtain⟨R1,sz,ds,hd,-⟩:=R;exact⟨R1.mono ho.le,λh _=>h,λ_=>by rw[hd];rfl⟩
 ·rename_i hm;simp only[D9]at H;subst H;rw[hm]at R;obtain⟨R1,R2⟩:=(R:_/\_);exact⟨by rw[R1,R2];simp only[RV],λh _=>h,λ_=>by rw[R1];rfl⟩
 ·rename_i i sz off len hm;obtain⟨p,hp,H⟩:=D8 H;obtain⟨h1,H⟩:=I9 H;obtain⟨h2,H⟩:=O7 H;simp only[D9]at H;subst H;rw[hm]at R;simp only[O0]at R;obtain⟨hi,a,cap,rfl,ha,A3y,B7P,B7Y,-⟩:=R;refine⟨?_,λ_ _=>rfl,λ_=>rfl⟩;simp only[RV,RC];have hll:((p.2.drop off).take len).length=len:=by simp;omega
  obtain⟨hob,hsh⟩:=ho.ob i _ (iM hp);simp only[beq_iff_eq]at h1;refine⟨a,len,cap,rfl,hll.symm,A3y,B7P,λhne=>?_,λx hx=>⟨λ_=>B7Y x hx,?_⟩⟩
  ·simp only[RO]at hob;have:p.2≠[]:=λh=>by rw[h]at hne;simp at hne
   obtain⟨c,T,e1,e2,e3,-⟩:=hob this;rw[<- h1];exact e3
  ·rw[FL];intro j d hj;have hjl:j<len:=by have:=(z0q.1 hj).1;omega
   rw[zMq hjl,List.getElem?_drop]at hj;have hne:p.2≠[]:=λh=>by rw[h]at hj;simp at hj
   simp only[RO]at hob;obtain⟨c,T,e1,e2,e3,e4,e5⟩:=hob hne;obtain⟨vs,v1,v2,v3⟩:=e5 (off+j) d hj;have hax:=ha (by omega);rw[hx]at hax;simp only[D9]at hax;subst hax;refine⟨vs,by rw[<- h1];exact v1,λy u hu=>?_,v3.mono ho.le⟩;have hy:y<p.1:=by have:=(z0q.1 hu).1;omega
   have hjp:off+j<p.2.length:=(z0q.1 hj).1;have P8:(off+j) * p.1+y<p.2.length * p.1:=seg_lt hjp hy;have e:E.base i+off * sz+j * sz+y=E.base i+(off+j) * p.1+y:=by rw[<- h1,Nat.add_mul];omega
   refine⟨?_,hsh (λh=>hne (by have:=congrArg (λob=>match ob with | H7.arr _ ds=>ds | _=>[]) h;exact this)) _ _ ?_⟩
   ·rw[e];simp only[hc,e1];exact v2 y u hu
   ·rw[e];exact e4 _ (by omega) (by omega)
 ·cases H
def mh{E:Env}{h:Heap}{sg:List H7}{S:AL}(ho:A4e E h sg S):∀{cs:List (DV×H6)}{vs:List Value}{ds:List DV},X6 sg cs=some ds->cs.length=vs.length->
 (∀(j:Nat) r v,cs[j]?=some r->vs[j]?=some v->M7 r.1=true/\v.oneCell'=true/\∃tg,O0 E h tg r.1 r.2 v)->Jb S h ds vs
 |[],vs,ds,H,hl,_=>by simp only[X6,D9]at H;subst H;exact zdq hl.symm
 |c::cs,[],ds,H,hl,_=>by simp at hl
 |c::cs,v::vs,ds,H,hl,hR=>by
   simp only[X6]at H;obtain⟨d,h1,H⟩:=D8 H;obtain⟨ds',h2,H⟩:=D8 H;simp only[D9]at H;subst H;obtain⟨q1,q2,tg,q3⟩:=hR 0 c v rfl rfl;obtain⟨r1,r2,r3⟩:=aR h1 q3 ho;have hlf:M7 d=true:=by
    by_cases hm:c.2=.val
    ·exact r2 q1 hm
    ·exact r3 hm
   simp only[Jb];exact⟨v,vs,rfl,hlf,Qq hlf q2 r1,mh ho h2 (by simpa using hl) λj r u hr hu=>hR (j+1) r u (by simpa using hr) (by simpa using hu)⟩
variable (tmps:Array Value)
def Np:ResultVar->Sem Value
 |.tmp t=>pure (tmps.getD t undef)
 |.cell a t=>do loadVar t (<- asAddr (tmps.getD a undef))
variable {P:Program}{rv:ResultVar}
def A3N{w:World}{g:List H7}(H:mX P (st.Hm g) rv=some d)(Rl:M9 E st a w.heap)(ho:A4e E w.heap g S):
 ∃v,(Np a.tmps rv).run P w=.ok v w/\RV S w.heap d v:=by
 cases rv with
 |tmp t=>
   have H:(match (st.get t).2 with
    |.FW ms=>og (M6 (.FW ms)) (some (st.get t).1)
    |_=>V6 g (st.get t))=some d:=H
   have hR:RR E w.heap 0 t (st.get t).1 (st.get t).2 (a.tmps.getD t undef):=Rl.src (P:=P) (t:=0) (x:=.tmp t) rfl;refine⟨a.tmps.getD t undef,rfl,?_⟩;split at H
   ·rename_i ms hm;obtain⟨h1,H⟩:=I9 H;simp only[D9]at H;subst H;exact(hR.data (by rw[hm];exact h1)).mono ho.le
   ·rename_i hm;have hnt:∀ms,(st.get t).2 ≠ .DJ ms:=λms h=>by unfold V6 at H;rw[h]at H;simp at H
    exact(aR H (hR.A36 hnt λms h=>hm ms h) ho).1
 |cell p t=>
   have H:(match (st.get p).2 with
    |.loc s 0=>ob (st.bx.getD s none) λcs=>ob (tz P t) λz=>
      if z.1=cs.length then
       if z.2 then ob (X6 g cs) λds=>some (.agg ds)
       else match cs with
        |[c]=>V6 g c
        |_=>none
      else none
    |.ptr i 0=>ob (Q7 g i) λcs=>ob (tz P t) λz=>
      if z.1=cs.length then
       if z.2 then ob (X6 g cs) λds=>some (.agg ds)
       else match cs with
        |[c]=>V6 g c
        |_=>none
      else none
    |_=>none)=some d:=H
   have hR:RR E w.heap 0 p (st.get p).1 (st.get p).2 (a.tmps.getD p undef):=Rl.src (P:=P) (t:=0) (x:=.tmp p) rfl;split at H
   ·rename_i s hm;obtain⟨cs,h1,H⟩:=D8 H;obtain⟨z,h2,H⟩:=D8 H;obtain⟨h3,H⟩:=O7 H;rw[hm]at hR;simp only[RR,O0]at hR;obtain⟨c,T,b1,b2,b3,b4⟩:=Rl.Ad s cs h1;obtain⟨v,hv,bS,hv2⟩:=Ie (w:=w) h2 (b:=E.blk s) (off:=0) (vs:=c.toList) (by simp[b2,h3]) λj u hu=>by simp only[hc,b1,zoq];simpa using hu
    have U7:(Np a.tmps (.cell p t)).run P w=.ok v w:=by simp only[Np,hR.2,asAddr,Sem.run_bind,Sem.run_pure,Result.andThen_ok];exact hv
    refine⟨v,U7,?_⟩;have b5:∀(j:Nat) r u,cs[j]?=some r->c.toList[j]?=some u->M7 r.1=true/\u.oneCell'=true/\∃tg,O0 E w.heap tg r.1 r.2 u:=λj r u hr hu=>by obtain⟨q1,q2,q3,q4⟩:=b4 j r u hr (by simpa using hu);exact⟨q1,q2,_,q4⟩
    by_cases hz:z.2=true
    ·rw[D5 hz]at H;obtain⟨ds,h4,H⟩:=D8 H;simp only[D9]at H;subst H;rw[bS hz];simp only[RV];exact⟨_,rfl,mh ho h4 (by simp[b2]) b5⟩
    ·rw[C8 hz]at H;have hcv:=hv2 (by simpa using hz);have h5:∃c0,cs=[c0]/\V6 g c0=some d:=by
      split at H
      ·exact⟨_,rfl,H⟩
      ·cases H
     obtain⟨c0,rfl,h6⟩:=h5;obtain⟨q1,q2,tg,q3⟩:=b5 0 c0 v rfl (by rw[hcv];rfl);exact(aR h6 q3 ho).1
   ·rename_i i hm;obtain⟨cs,h1,H⟩:=D8 H;obtain⟨z,h2,H⟩:=D8 H;obtain⟨h3,H⟩:=O7 H;rw[hm]at hR;simp only[RR,O0]at hR;have hgi:g[i]?=some (.box cs):=by
     unfold Q7 at h1;split at h1
     ·rename_i h;simp only[D9]at h1;subst h1;exact h
     ·cases h1
    have hRO:=(ho.ob i _ hgi).1;simp only[RO]at hRO;obtain⟨c,T,b1,b2,b3,b4⟩:=hRO;obtain⟨v,hv,bS,hv2⟩:=Ie (w:=w) h2 (b:=E.obj i) (off:=0) (vs:=c.toList) (by simp[b2,h3]) λj u hu=>by simp only[hc,b1,zoq];simpa using hu
    have U7:(Np a.tmps (.cell p t)).run P w=.ok v w:=by simp only[Np,hR.2,asAddr,Sem.run_bind,Sem.run_pure,Result.andThen_ok];exact hv
    refine⟨v,U7,?_⟩;have b5:∀(j:Nat) r u,cs[j]?=some r->c.toList[j]?=some u->M7 r.1=true/\u.oneCell'=true/\∃tg,O0 E w.heap tg r.1 r.2 u:=λj r u hr hu=>by obtain⟨q1,q2,q3,q4⟩:=b4 j r u hr (by simpa using hu);exact⟨q1,q2,_,q4⟩
    by_cases hz:z.2=true
    ·rw[D5 hz]at H;obtain⟨ds,h4,H⟩:=D8 H;simp only[D9]at H;subst H;rw[bS hz];simp only[RV];exact⟨_,rfl,mh ho h4 (by simp[b2]) b5⟩
    ·rw[C8 hz]at H;have hcv:=hv2 (by simpa using hz);have h5:∃c0,cs=[c0]/\V6 g c0=some d:=by
      split at H
      ·exact⟨_,rfl,H⟩
      ·cases H
     obtain⟨c0,rfl,h6⟩:=h5;obtain⟨q1,q2,tg,q3⟩:=b5 0 c0 v rfl (by rw[hcv];rfl);exact(aR h6 q3 ho).1
   ·cases H
def A9u{P:Program}{E:Env}{st:St}{a:Act}{w:World}(Rl:M9 E st a w.heap):∀{rs:List ResultVar}{ds:List DV},iq P st rs=some ds->
 ∃vs:List Value,(rs.mapM (Np a.tmps)).run P w=.ok vs w/\TJ E.fin w.heap ds vs/\vs.length=rs.length
 |[],ds,H=>by simp only[iq,D9]at H;subst H;exact⟨[],rfl,rfl,rfl⟩
 |r::rs,ds,H=>by simp only[iq]at H;obtain⟨d,h1,H⟩:=D8 H;obtain⟨ds',h2,H⟩:=D8 H;simp only[D9]at H;subst H;obtain⟨v,q1,q2⟩:=A3N (g:=st.sg) h1 Rl (B9D Rl);obtain⟨vs,q3,q4,q5⟩:=A9u Rl h2;refine⟨v::vs,?_,⟨v,vs,rfl,q2,q4⟩,by simp[q5]⟩;simp only[ylq,Sem.run_bind,q1,q3,Result.andThen_ok,Sem.run_pure]
def yH(fn:Func)(tmps:Array Value):results fn tmps=(do
 let vs <- fn.results.toList.mapM (Np tmps)
 pure (if h:vs.toArray.size=1 then vs.toArray[0]else .tuple vs.toArray)):=by
 have:results fn tmps=(do
  let vs <- fn.results.mapM (Np tmps)
  pure (if h:vs.size=1 then vs[0]else .tuple vs)):=by
  unfold results;congr 1
 rw[this,Array.mapM_eq_mapM_toList];simp
def C35{ds:List DV}{vs:List Value}(R:TJ S h ds vs):RV S h (pack ds) (if h:vs.toArray.size=1 then vs.toArray[0]else .tuple vs.toArray):=by
 obtain⟨hl,hR⟩:=Yj.1 R;by_cases h1:vs.toArray.size=1
 ·rw[dif_pos h1];obtain⟨v,rfl⟩:=zDq.1 (by simpa using h1);obtain⟨d,rfl⟩:=zDq.1 (by simpa using hl);exact hR 0 d v rfl rfl
 ·rw[dif_neg h1];unfold pack;split
  ·simp at hl h1;omega
  ·simp only[RV]
   exact⟨_,rfl,by simpa using R⟩
variable (us:List Nat)
def Oc(sg:List H7):List H7:=sg.mapIdx λi ob=>if i∈us then ob else .arr 1 []
def II(T:Tag):Tag :=
 match T with
 |.obj i=>if i∈us then .U0 else .obj i
 |T=>T
variable {us:List Nat}
theorem YO{T:Tag}(h:∀i∈us,T ≠ .obj i):II us T=T:=by
 unfold II;split
 ·rename_i i;rw[C8 λhi=>h i hi rfl]
 ·rfl
def B4K(us:List Nat){T:Tag}(h:¬∃i∈us,T=.obj i):II us T=T:=YO λi hi he=>h ⟨i,hi,he⟩
def B93{i:Nat}(h:i∈us):(Oc us sg)[i]?=sg[i]?:=by unfold Oc;rw[zVq];cases sg[i]?<;>simp[h]
def B8C{i:Nat}(h:i∈us):CZ (Oc us sg) i=CZ sg i:=by unfold CZ;rw[B93 h]
def fA{c:DV×H6}(h:∀i∈A4h c.2,i∈us):V6 (Oc us sg) c=V6 sg c:=by
 obtain⟨d,m⟩:=c;cases m<;>try rfl
 case arr i sz off len=>simp only[V6];rw[B8C (h i (by simp[A4h]))]
def wC{us:List Nat}{sg:List H7}:∀{cs:List (DV×H6)},(∀c∈cs,∀i∈A4h c.2,i∈us)->X6 (Oc us sg) cs=X6 sg cs
 |[],_=>rfl
 |c::cs,h=>by simp only[X6];rw[fA (h c (z5q ..)),wC λc' hc'=>h c' (z4q _ hc')]
def B5V(hl:A64 st rv=true)(hu:∀i∈XC st rv,i∈us)(H:mX P st rv=some d):mX P (st.Hm (Oc us st.sg)) rv=some d:=by
 cases rv with
 |tmp t=>
   simp only[XC]at hu;have e:=fA (us:=us) (sg:=st.sg) (c:=st.get t) hu;show(match (st.get t).2 with
    |.FW ms=>og (M6 (.FW ms)) (some (st.get t).1)
    |_=>V6 (Oc us st.sg) (st.get t))=some d
   rw[e];exact H
 |cell p t=>
   simp only[A64]at hl;simp only[XC]at hu;simp only[mX]at H ⊢;show(match (st.get p).2 with
    |.loc s 0=>ob (st.bx.getD s none) λcs=>ob (tz P t) λz=>
      if z.1=cs.length then
       if z.2 then ob (X6 (Oc us st.sg) cs) λds=>some (.agg ds)
       else match cs with
        |[c]=>V6 (Oc us st.sg) c
        |_=>none
      else none
    |.ptr i 0=>ob (Q7 (Oc us st.sg) i) λcs=>ob (tz P t) λz=>
      if z.1=cs.length then
       if z.2 then ob (X6 (Oc us st.sg) cs) λds=>some (.agg ds)
       else match cs with
        |[c]=>V6 (Oc us st.sg) c
        |_=>none
      else none
    |_=>none)=some d
   cases hm:(st.get p).2 with
   |loc s o=>
     rw[hm]at H hu;cases o with
     |succ o=>simp at H
     |zero=>
       simp only at H hu ⊢;obtain⟨cs,h1,H⟩:=D8 H;rw[h1]at hu;simp only at hu;have hc:∀c∈cs,∀i∈A4h c.2,i∈us:=λc hc i hi=>hu i (zGq.2 ⟨c,hc,hi⟩);rw[h1,O3,wC hc];obtain⟨z,h2,H⟩:=D8 H;rw[h2,O3];obtain⟨h3,H⟩:=O7 H;rw[D5 h3];by_cases hz:z.2=true
       ·rw[D5 hz]at H ⊢;exact H
       ·rw[C8 hz]at H ⊢
        match cs,hc,H with
        |[c],hc,H=>simp only at H ⊢;rw[fA (hc c (z5q ..))];exact H
        |[],_,H=>simp at H
        |_::_::_,_,H=>simp at H
   |_=>rw[hm]at hl;simp at hl
def B8b(Rl:M9 E st a h)(us:List Nat):A4e E h (Oc us st.sg) (E.re (II us)).S:=by
 refine⟨NA (YO (by simp)),λi ob hi=>?_⟩;unfold Oc at hi;rw[zVq]at hi;cases hg:st.sg[i]? with
 |none=>rw[hg]at hi;simp at hi
 |some o=>
   rw[hg]at hi;simp only[zAq,D9]at hi;by_cases hm:i∈us
   ·rw[D5 hm]at hi;subst hi;refine⟨Rl.V8 i _ hg,λ_ b o hb=>?_⟩;simp only[Env.S,Env.re];rw[hb];simp[II,hm]
   ·rw[C8 hm]at hi;subst hi;exact⟨by simp[RO],λh=>absurd rfl h⟩
def C1R(sg:List H7):∀(us:List Nat)(i:Nat),(kill sg us)[i]?=if i∈us then(sg[i]?).map (λ_=>H7.arr 1 [])else sg[i]?:=by
 intro us;induction us generalizing sg with
 |nil=>intro i;simp[kill]
 |cons u us ih=>
   intro i;show(kill (sg.set u (.arr 1 [])) us)[i]?=_;rw[ih];by_cases h1:i∈us
   ·rw[D5 h1,D5 (z4q _ h1),y7q];split
    ·rename_i h;subst h;split<;>simp_all
    ·rfl
   ·rw[C8 h1];by_cases h2:u=i
    ·subst h2;rw[D5 (z5q ..),y7q];simp only[H5]
     split
     ·rename_i h;rw[z1q h];rfl
     ·rename_i h;rw[List.getElem?_eq_none (by omega)];rfl
    ·rw[C8 (by simp[h1];exact λh=>h2 h.symm),zUq h2]
theorem M9.U0(R:M9 E st a h)(us:List Nat):M9 (E.re (II us)) { st with sg:=kill st.sg us } a h:=by
 have P:Pr (λT=>∃i∈us,T=.obj i) E h (E.re (II us)) h:=Pr.re λT hT=>B4K us hT;have M3:AZ E.S h (E.re (II us)).S h:=NA (YO (by simp));have Bl:∀(us:List Nat)(g:List H7),(kill g us).length=g.length:=by
  intro us;induction us with
  |nil=>intro g;rfl
  |cons u us ih=>intro g;show(kill (g.set u _) us).length=_;rw[ih];simp
 refine⟨R.size,R.Ba,R.Dm,(Bl us st.sg).trans R.n,λt v hv=>(R.AA t v hv).mono P M3 (by simp) (by simp),λs cs hs=>(R.Ad s cs hs).mono P M3 (by simp) (by simp),λi ob hi=>?_,λb o hb=>?_⟩
 ·rw[C1R]at hi;split at hi
  ·cases hg:st.sg[i]? with
   |none=>rw[hg]at hi;simp at hi
   |some o=>rw[hg]at hi;simp only[zAq,D9]at hi;subst hi;simp[RO]
  ·rename_i hm;have P8:i<E.n:=by rw[<- R.n];exact(z0q.1 hi).1
   exact(R.V8 i ob hi).mono P M3 P8 (by rintro⟨j,hj,he⟩;simp only[Tag.obj.injEq]at he;subst he;exact hm hj) (by simp)
 ·simp only[Env.re]
  rw[R.fresh b o hb];rfl
end Go.Su

/-
 THE DATA MACHINE, part 27: the program's functions give what the data machine says.
-/
namespace Go.Su
set_option linter.defProp false
section
variable {C:AB}{R:U1}{X:Type}{fl:I5}{Q:Exit->Act->World->Prop}{ops:List Oper}
def B69{k:St->Option X}{x:X}{ro:Option Nat}{n:Nat}{rest:List Nat}(hO:GI C R):∀{os:List Oper}{i:Nat}{st:St}{E:Env}{a:Act}{w:World},(∀(j:Nat) o,os[j]?=some o->ops[i+j]?=some o)->Eh C R fl ops os st k=some x->M9 E st a w.heap->
 (∀E' t a' w',k t=some x->a'.defers=a.defers->M9 E' t a' w'.heap->Pr Q4 E w.heap E' w'.heap->W9 w w'->wpOpsIn (EI ro) n C.P ops.toArray Q rest a' w')->wpOpsIn (EI ro) n C.P ops.toArray Q (List.range' i os.length++rest) a w
 |[],i,st,E,a,w,_,H,Rl,T=>T E st a w H rfl Rl (Pr.refl _ _ _) (W9.refl _)
 |o::os,i,st,E,a,w,hs,H,Rl,T=>by
   obtain⟨s1,h1,h2⟩:=xO H;have FD:∀(j:Nat) o,os[j]?=some o->ops[i+1+j]?=some o:=λj o ho=>by rw[show i+1+j=i+(j+1)by omega];exact hs (j+1) o (by simpa using ho)
   simp only[zcq,List.range'_succ,yeq];rw[wpOpsIn_cons];refine B8D hO (by simpa using hs 0 o rfl) h1 Rl λE' a' w' D1 R1 P1 O1=>?_;exact B69 hO FD h2 R1 λE2 t a2 w2 k1 k0 k2 k3 k4=>T E2 t a2 w2 k1 (k0.trans D1) k2 (P1.trans k3) (O1.trans k4)
end
section
variable {C:AB}{R:U1}{X:Type}(S:AL)
open Classical in
noncomputable def Yt:Env where
 blk:=λ_=>0
 top:=λ_=>0
 obj:=λ_=>0
 base:=λ_=>0
 O:=λb o=>if S b o then .U0 else .other
 n:=0
 Bj:=λ_=>0
def C5y(b o:Nat):(Yt S).S b o↔S b o:=by
 simp only[Env.S,Yt]
 split<;>simp_all
variable {fn:Func}{rs:List (DV×H6)}{sg:List H7}
theorem C1N{t:Nat}:(∀r,rs[t]?=some r->(I6 fn rs sg).get t=r)/\(rs.length<=t->t<rs.length+(fn.ntmps-rs.length)->(I6 fn rs sg).get t=(.I4 [],.val)):=by
 constructor
 ·intro r hr;have ht:=(z0q.1 hr).1;simp only[St.get,I6,z6q];rw[zlq (by simpa using ht),zlq (by simpa using ht)];simp[hr]
 ·intro h1 h2;simp only[St.get,I6,z6q];rw[zxq (by simpa using h1),zxq (by simpa using h1)];simp only[zIq];rw[zhq,zhq,D5 (by omega),D5 (by omega)];rfl
variable {E:Env}{w:World}
def B39{vs:List Value}(hf:∀b o,w.heap.size<=b->E.O b o=.other)(hn:sg.length=E.n)(ho:∀(i:Nat) ob,sg[i]?=some ob->RO E w.heap i ob)(hl:vs.length=rs.length)(hr:∀(i:Nat) r v,rs[i]?=some r->vs[i]?=some v->RR E w.heap 0 i r.1 r.2 v):
 M9 E (I6 fn rs sg) { tmps:=vs.toArray++Array.replicate (fn.ntmps-vs.toArray.size) undef,defers:=[] } w.heap:=by
 refine⟨by simp[I6,hl],by simp[I6],by simp[I6],hn,λt v hv=>?_,λs cs hs=>?_,ho,hf⟩
 ·have P8:t<rs.length+(fn.ntmps-rs.length):=by have:=(z2q.1 hv).1;simpa[hl]using this
  obtain⟨i1,i2⟩:=C1N (fn:=fn) (rs:=rs) (sg:=sg) (t:=t);by_cases ht:t<rs.length
  ·have hrt:rs[t]?=some rs[t]:=z1q ht;rw[i1 _ hrt];refine hr t _ v hrt ?_;rw[Array.getElem?_append_left (by simpa[hl]using ht)]at hv;simpa using hv
  ·rw[i2 (y8q ht) P8];rw[Array.getElem?_append_right (by simpa[hl]using y8q ht)]at hv;rw[Array.getElem?_replicate]at hv;split at hv
   ·simp only[D9]at hv;subst hv;simp only[RR,O0,RV,undef];exact⟨#[],rfl,by simp[TJ]⟩
   ·cases hv
 ·simp only[I6,z6q,zhq]at hs;split at hs<;>simp at hs
variable {h:Heap}
def C3Y{S:AL}{E':Env}{h':Heap}(P:Pr Q4 (Yt S) h E' h'){b:Nat}(hb:b<h.size):h'[b]?=h[b]?:=by
 have hk:=P.blk b hb;have gB:∀o,¬Q4 ((Yt S).O b o):=λo=>by
  simp only[Yt]
  split<;>simp[Q4]
 have he:h[b]?=some h[b]:=zpq hb;rw[he]at hk ⊢;unfold Y4 at hk;split at hk
 ·rename_i hx;cases hx
 ·rename_i c T f hx;obtain⟨c',h1,h2,h3⟩:=hk;rw[h1,hx];congr 2;exact y9q λo=>h3 o (gB o)
 ·have:=hk (gB 0);simp_all
def YD{m:Nat}{P:Program}{fn:Func}{Rp:Ending->World->Prop}{E0 E:Env}{st:St}{a:Act}{w:World}
 (fin:∀w2,M9 E st a w2.heap->Pr Q4 E0 w.heap E w2.heap->W9 w w2->∃v,(results fn a.tmps).run P w2=.ok v w2/\Rp (.returned v) w2) :
 ∀(ms:List Deferred)(w1:World),Marks w.heap.size E w1.heap ms->M9 E st a w1.heap->Pr Q4 E0 w.heap E w1.heap->W9 w w1->LeavesInM Fence.wide m P fn a.tmps Rp ms .returning w1
 |[],w1,_,Rl,P1,O1=>fin w1 Rl P1 O1
 |d::ms,w1,M,Rl,P1,O1=>by obtain⟨D,rfl,h2,h3,h4⟩:=M.1 d (z5q ..);obtain⟨p1,p2⟩:=List.pairwise_cons.1 M.2;refine⟨by simp,.inl ⟨D,w1.putObj D (.deferred none),rfl,run_takeDeferred h2,?_⟩⟩;refine YD fin ms _ ⟨λm' TV=>?_,p2⟩ (Rl.others (Pr.setOther h2 rfl h3) rfl λb o hb=>Rl.fresh b o (by simpa using hb)) (P1.A3P h4) ⟨O1.os,O1.tape,O1.output⟩;obtain⟨D',q1,q2,q3,q4⟩:=M.1 m' (z4q _ TV);refine⟨D',q1,?_,q3,q4⟩;have hne:D'≠D:=λh=>p1 m' TV (by rw[q1,h]);exact(World.putObj_heap_other hne).trans q2
def A7u(P:Program)(c:Code)(p:Cut):Prop :=∃M:Code,c=Nq p.pre M/\(Aq M=true->Aq p.post=true) /\∀{n:Nat}{E:Env}{st st2:St}{a:Act}{w:World}{Q:Exit->Act->World->Prop},M9 E st a w.heap->p.mid st=some st2->(∀E' a' w',a'.defers=a.defers->M9 E' st2 a' w'.heap->Pr Q4 E w.heap E' w'.heap->W9 w w'->p.post.wpIn (EI none) n P Q a' w')->M.wpIn (EI none) n P Q a w
variable {n:Nat}
def Marks.weak{m:Nat}{ms:List Deferred}(H:Marks n E h ms)(hn:m<=n):Marks m E h ms :=⟨λx hx=>let⟨D,h1,h2,h3,h4⟩:=H.1 x hx;⟨D,h1,h2,h3,zTq hn h4⟩,H.2⟩
def B4O(hm:C.P.follows .mixedOrders=true)(hO:GI C R){fl:I5}{M:Code}:∀(ps:List Code){n:Nat}{K:Out->St->Option X}{st:St}{x:X}{E:Env}{a:Act}{w:World}{Q:Exit->Act->World->Prop},
 AC C R fl (Nq ps .skip) K st=some x->M9 E st a w.heap->
 (∀out E' st' a' w',out ≠ .normal->K out st'=some x->Left (Nq ps .skip) w.heap.size E' w'.heap a.defers a'.defers->M9 E' st' a' w'.heap->Pr Q4 E w.heap E' w'.heap->W9 w w'->Q out.wI a' w')->
 (∀E' st' a' w',K .normal st'=some x->Left (Nq ps .skip) w.heap.size E' w'.heap a.defers a'.defers->M9 E' st' a' w'.heap->Pr Q4 E w.heap E' w'.heap->W9 w w'->M.wpIn (EI none) n C.P Q a' w')->(Nq ps M).wpIn (EI none) n C.P Q a w
 |[],n,K,st,x,E,a,w,Q,H,Rl,T,N=>N E st a w H (Left.same rfl) Rl (Pr.refl _ _ _) (W9.refl _)
 |p::ps,n,K,st,x,E,a,w,Q,H,Rl,T,N=>by
   have hp:Aq (.seq p (Nq ps .skip))=true->Aq p=true/\Aq (Nq ps .skip)=true:=λh=>by simpa[Aq]using h
   refine wpIn_seq (yO hm hO p (.inl rfl) H Rl λout E' st' a' w' h1 h0 h2 h3 h4=>?_);obtain⟨ms,q1,q2,q3⟩:=h0;have join:∀{E2:Env}{a2:Act}{w2:World},Left (Nq ps .skip) w'.heap.size E2 w2.heap a'.defers a2.defers->Pr Q4 E' w'.heap E2 w2.heap->Left (Nq (p::ps) .skip) w.heap.size E2 w2.heap a.defers a2.defers:=by rintro E2 a2 w2 ⟨ns,p1,p2,p3⟩ k3;exact⟨ns++ms,by rw[p1,q1,zFq],p2.append q2 k3 h3.size,λh=>by rw[p3 (hp h).2,q3 (hp h).1];rfl⟩
   cases out with
   |normal=>
     exact B4O hm hO ps h1 (h2.clean fl _) (λout E2 st2 a2 w2 hn k1 k0 k2 k3 k4=>T out E2 st2 a2 w2 hn k1 (join k0 k3) k2 (h3.trans k3) (h4.trans k4))
      λE2 st2 a2 w2 k1 k0 k2 k3 k4=>N E2 st2 a2 w2 k1 (join k0 k3) k2 (h3.trans k3) (h4.trans k4)
   |exit i=>exact T (.exit i) E' st' a' w' (by simp) h1 ⟨ms,q1,q2,λh=>q3 (hp h).1⟩ h2 h3 h4
   |ret=>exact T .ret E' st' a' w' (by simp) h1 ⟨ms,q1,q2,λh=>q3 (hp h).1⟩ h2 h3 h4
def iJ:∀(ps:List Code)(M:Code),Aq (Nq ps M)=true->Aq (Nq ps .skip)=true/\Aq M=true
 |[],M,h=>⟨rfl,h⟩
 |p::ps,M,h=>by simp only[Nq,Aq,z3q]at h ⊢;obtain⟨h1,h2⟩:=iJ ps M h.2;exact⟨⟨h.1,h1⟩,h2⟩
variable {fl:I5}{c:Code}
def C4q(hm:C.P.follows .mixedOrders=true)(hO:GI C R){p:Cut}(hc:A7u C.P c p){K:Out->St->Option X}{st:St}{x:X}{a:Act}{Q:Exit->Act->World->Prop}(H:AC C R fl (Nq p.pre .skip) (qm C R fl p K) st=some x)(Rl:M9 E st a w.heap)(T:∀out E' st' a' w',K out st'=some x->Left c w.heap.size E' w'.heap a.defers a'.defers->M9 E' st' a' w'.heap->Pr Q4 E w.heap E' w'.heap->W9 w w'->Q out.wI a' w'):c.wpIn (EI none) n C.P Q a w:=by
 obtain⟨M,rfl,hM,C8F⟩:=hc;refine B4O hm hO p.pre H Rl (λout E1 st1 a1 w1 hn h1 h0 h2 h3 h4=>?_) λE1 st1 a1 w1 h1 h0 h2 h3 h4=>?_
 ·obtain⟨ms,q1,q2,q3⟩:=h0;cases out with
  |exit i=>simp[qm]at h1
  |ret=>exact T .ret E1 st1 a1 w1 h1 ⟨ms,q1,q2,λh=>q3 (iJ _ _ h).1⟩ h2 h3 h4
  |normal=>exact absurd rfl hn
 ·obtain⟨ms,q1,q2,q3⟩:=h0;simp only[qm]at h1;obtain⟨st2,k1,k2⟩:=D8 h1;refine C8F h2 k1 λE2 a2 w2 d2 r2 p2 o2=>?_;refine yO hm hO p.post (.inl rfl) k2 (r2.clean fl p.post) λout E3 st3 a3 w3 g1 g0 g2 g3 g4=>T out E3 st3 a3 w3 g1 ?_ g2 ((h3.trans p2).trans g3) ((h4.trans o2).trans g4);obtain⟨ns,p1,p2',p3⟩:=g0;exact⟨ns++ms,by rw[p1,d2,q1,zFq],(p2'.weak p2.size).append q2 (p2.trans g3) h3.size,λh=>by rw[p3 (hM (iJ _ _ h).2),q3 (iJ _ _ h).1];rfl⟩
def C2g(hm:C.P.follows .mixedOrders=true)(hO:GI C R){q:Option Cut}(hc:∀p,q=some p->A7u C.P c p){K:Out->St->Option X}{st:St}{x:X}{a:Act}{Q:Exit->Act->World->Prop}(H:A2E C R fl q c K st=some x)(Rl:M9 E st a w.heap)(T:∀out E' st' a' w',K out st'=some x->Left c w.heap.size E' w'.heap a.defers a'.defers->M9 E' st' a' w'.heap->Pr Q4 E w.heap E' w'.heap->W9 w w'->Q out.wI a' w'):c.wpIn (EI none) n C.P Q a w:=by
 cases q with
 |none=>exact yO hm hO c (.inl rfl) H Rl T
 |some p=>exact C4q hm hO (hc p rfl) H Rl T
variable {f:FuncId}
def pure_ok{ds:List DV}{d:DV}{cut:Option Cut}(hm:C.P.follows .mixedOrders=true)(hO:GI C R)(hf:C.P.funcs[f]?=some fn)(hb:fn.body=some c)(C8w:∀p,cut=some p->A7u C.P c p)(H:A2E C R (C.fl f) cut c (Vp C.P fn) (I6 fn (ds.map λd=>(d,.val)) [])=some d):B8Z C.P f ds d:=by
 intro S w vs hS UU;obtain⟨hl,hv⟩:=Yj.1 UU;have M3:AZ S w.heap (Yt S).S w.heap:=⟨λb o hs=>(C5y S b o).2 hs,λ_ _ _ _ h=>h⟩;have fr:∀b o,w.heap.size<=b->(Yt S).O b o=.other:=λb o hb=>by simp only[Yt];rw[C8 (hS b o hb)]
 refine(callsIn_wide (n:=0)).1 (callsIn_of_wp_marks hf hb trivial (C2g hm hO C8w H (B39 (E:=Yt S) fr rfl (by simp) (by simp[hl]) λi r v hr PN=>?_) λout E' st' a' w1 h1 h0 WI vM B21=>?_))
 ·simp only[zaq,zjq]at hr;obtain⟨d',FU,rfl⟩:=hr;exact RR.val ((hv i d' v FU PN).mono M3)
 ·obtain⟨ms,e0,M,-⟩:=h0;rw[yiq]at e0;have fin:∀ds',iq C.P st' fn.results.toList=some ds'->d=pack ds'->∀w',M9 E' st' a' w'.heap->Pr Q4 (Yt S) w.heap E' w'.heap->W9 w w'->∃v,(results fn a'.tmps).run C.P w'=.ok v w'/\∃v' S',Ending.returned v=.returned v'/\Ext S w.heap S' w'.heap/\RV S' w'.heap d v'/\W9 w w':=by
   intro ds' k1 k2 w' h2 h3 lh;obtain⟨us,q1,q2,-⟩:=A9u h2 k1;refine⟨if h:us.toArray.size=1 then us.toArray[0]else .tuple us.toArray,?_,_,E'.fin,rfl,⟨h3.size,λb hb=>C3Y h3 hb,λb o hb=>?_,λb o hb=>?_⟩,by rw[k2];exact C35 q2,lh⟩
   ·rw[yH];simp only[Sem.run_bind,q1,Result.andThen_ok,Sem.run_pure]
   ·have gB:¬Q4 ((Yt S).O b o):=by
     simp only[Yt]
     split<;>simp[Q4]
    have ht:=h3.tags b o hb gB;simp only[Env.fin,ht,Yt]
    split<;>simp_all
   ·simp only[Env.fin,h2.fresh b o hb]
    simp
  cases out with
  |exit i=>simp[Vp]at h1
  |normal=>simp only[Vp]at h1;obtain⟨ds',k1,k2⟩:=D8 h1;simp only[D9]at k2;show LeavesInM Fence.wide 0 C.P fn a'.tmps _ a'.defers .returning w1;rw[e0];exact YD (fin ds' k1 k2.symm) ms w1 M WI vM B21
  |ret=>simp only[Vp]at h1;obtain⟨ds',k1,k2⟩:=D8 h1;simp only[D9]at k2;show LeavesInM Fence.wide 0 C.P fn a'.tmps _ a'.defers .returning w1;rw[e0];exact YD (fin ds' k1 k2.symm) ms w1 M WI vM B21
def B7m(E:Env)(st:St)(a:Act)(w:World)(r:ResultVar)(d:DV)(v:Value):MK->Prop
 |.val=>RV S w.heap d v
 |.own=>∃t,r=.tmp t/\Nf (st.get t).2=true/\d=(st.get t).1/\v=a.tmps.getD t undef
 |.ptr=>∃t,r=.tmp t/\B4v (st.get t)=some d/\v=a.tmps.getD t undef
 |.dU n os=>∃p t s cs,r=.cell p t/\(st.get p).2=.loc s 0/\st.bx.getD s none=some cs/\n=cs.length/\sS os 0 cs=true/\d=.agg (cs.map (·.1))/\∃c T,w.heap[E.blk s]?=some (.cells c T (0,0))/\v=.agg c
def B1J{P:Program}{sl:Bool}{us:List Nat}{E:Env}{st:St}{a:Act}{w:World}(Rl:M9 E st a w.heap):∀{ks:List MK}{rs:List ResultVar}{ds:List DV},(sl=true->∀v∈rs,∀i∈XC st v,i∈us)->bZ P sl st ks rs=some ds->
 ks.length=rs.length/\ds.length=ks.length/\∃vs:List Value,(rs.mapM (Np a.tmps)).run P w=.ok vs w/\vs.length=rs.length /\∀(i:Nat) k r d v,ks[i]?=some k->rs[i]?=some r->ds[i]?=some d->vs[i]?=some v->B7m (E.re (II us)).S E st a w r d v k
 |[],[],ds,_,H=>by simp only[bZ,D9]at H;subst H;exact⟨rfl,rfl,[],rfl,rfl,λi k r d v h=>by simp at h⟩
 |k::ks,r::rs,ds,hu,H=>by
   simp only[bZ]at H;obtain⟨d,h1,H⟩:=D8 H;obtain⟨ds',h2,H⟩:=D8 H;simp only[D9]at H;subst H;obtain⟨l1,l2,vs,q1,q2,q3⟩:=B1J Rl (λh v hv=>hu h v (z4q _ hv)) h2;have one:∃v,(Np a.tmps r).run P w=.ok v w/\B7m (E.re (II us)).S E st a w r d v k:=by
    cases k with
    |val=>
      simp only[A9t]at h1;split at h1
      ·rename_i hb;simp only[z3q]at hb;obtain⟨v,k1,k2⟩:=A3N (g:=Oc us st.sg) (B5V hb.2 (hu hb.1 r (z5q ..)) h1) Rl (B8b Rl us);exact⟨v,k1,k2⟩
      ·obtain⟨v,k1,k2⟩:=A3N (g:=[]) h1 Rl (B8g E w.heap);exact⟨v,k1,k2.mono (NA (YO (by simp)))⟩
    |own=>
      simp only[A9t]at h1;cases r with
      |tmp t=>simp only at h1;obtain⟨k1,k2⟩:=I9 h1;simp only[D9]at k2;exact⟨_,rfl,t,rfl,k1,k2.symm,rfl⟩
      |cell p t=>simp at h1
    |ptr=>
      simp only[A9t]at h1;cases r with
      |tmp t=>exact⟨_,rfl,t,rfl,h1,rfl⟩
      |cell p t=>simp at h1
    |dU n os=>
      simp only[A9t]at h1;cases r with
      |tmp t=>simp at h1
      |cell p t=>
        simp only at h1;split at h1
        ·rename_i s hm;obtain⟨cs,g1,h1⟩:=D8 h1;obtain⟨z,g2,h1⟩:=D8 h1;obtain⟨g3,h1⟩:=I9 h1;simp only[z3q,beq_iff_eq]at g3;obtain⟨⟨⟨hz,g3⟩,g4⟩,g5⟩:=g3;simp only[D9]at h1;have hR:RR E w.heap 0 p (st.get p).1 (st.get p).2 (a.tmps.getD p undef):=Rl.src (P:=P) (t:=0) (x:=.tmp p) rfl;rw[hm]at hR;simp only[RR,O0]at hR;obtain⟨c,T,b1,b2,b3,b4⟩:=Rl.Ad s cs g1;obtain⟨v,hv,bS,hv2⟩:=Ie (w:=w) g2 (b:=E.blk s) (off:=0) (vs:=c.toList) (by simp[b2,g3]) λj u hu=>by simp only[hc,b1,zoq];simpa using hu
         have U7:(Np a.tmps (.cell p t)).run P w=.ok v w:=by simp only[Np,hR.2,asAddr,Sem.run_bind,Sem.run_pure,Result.andThen_ok];exact hv
         exact⟨v,U7,p,t,s,cs,rfl,hm,g1,by omega,g5,h1.symm,c,T,b1,by rw[bS hz]⟩
        ·cases h1
   obtain⟨v,k1,k2⟩:=one;refine⟨by simp[l1],by simp[l2],v::vs,by simp only[ylq,Sem.run_bind,k1,q1,Result.andThen_ok,Sem.run_pure],by simp[q2],λi k' r' d' v' e1 e2 e3 e4=>?_⟩;cases i with
   |zero=>simp only[ziq,D9]at e1 e2 e3 e4;subst e1 e2 e3 e4;exact k2
   |succ i=>simp only[zbq]at e1 e2 e3 e4;exact q3 i k' r' d' v' e1 e2 e3 e4
 |[],_::_,ds,_,H=>by simp[bZ]at H
 |_::_,[],ds,_,H=>by simp[bZ]at H
def A9h:∀{ks:List MK}{i j:Nat}{k k':MK},(ks.filter Ej).length<=1->ks[i]?=some k->Ej k=true->ks[j]?=some k'->Ej k'=true->i=j
 |[],i,j,_,_,_,h,_,_,_=>by simp at h
 |k0::ks,i,j,k,k',hl,hi,hk,hj,CR=>by
   have nomem:Ej k0=true->∀(m:Nat) q,ks[m]?=some q->Ej q=true->False:=by intro h0 m q hm hq;have h1:q∈ks.filter Ej:=List.mem_filter.2 ⟨List.mem_of_getElem? hm,hq⟩;have h2:0<(ks.filter Ej).length:=zPq h1;simp only[yfq,h0,H5,zcq]at hl;omega
   cases i with
   |zero=>
     simp only[ziq,D9]at hi;subst hi;cases j with
     |zero=>rfl
     |succ j=>simp only[zbq]at hj;exact(nomem hk j _ hj CR).elim
   |succ i=>
     simp only[zbq]at hi;cases j with
     |zero=>simp only[ziq,D9]at hj;subst hj;exact(nomem CR i _ hi hk).elim
     |succ j=>
       simp only[zbq]at hj;have hl':(ks.filter Ej).length<=1:=by
        simp only[yfq]at hl;split at hl
        ·simp only[zcq]at hl;omega
        ·exact hl
       rw[A9h hl' hi hk hj CR]
def A9g(st:St)(k:MK)(r:ResultVar):Option (Nat×Nat) :=
 match k,r with
 |.own,.tmp t=>some (0,t)
 |.dU _ _,.cell p _=>match (st.get p).2 with
   |.loc s _=>some (1,s)
   |_=>none
 |_,_=>none
def mW(q:Option (Nat×Nat))(i:Nat)(T:Tag):Tag :=
 match T with
 |.sp 0 t b=>if q=some (0,t)then .sp 3 i b else .sp 0 t b
 |.sp 1 s j=>if q=some (1,s)then .sp 3 i (j+1)else .sp 1 s j
 |T=>T
def A8a:∀{os:List Nat}{i0 j:Nat}{cs:List (DV×H6)}{c:DV×H6},sS os i0 cs=true->cs[j]?=some c->(if os.contains (i0+j)then Nf c.2 else M6 c.2)=true
 |os,i0,j,[],c,_,h=>by simp at h
 |os,i0,0,c0::cs,c,H,h=>by simp only[ziq,D9]at h;subst h;simp only[sS,z3q]at H;exact H.1
 |os,i0,j+1,c0::cs,c,H,h=>by
   simp only[sS,z3q]at H;have:=A8a H.2 (by simpa using h)
   rwa [Nat.add_assoc,Nat.add_comm 1 j]at this
def C1h{m:H6}(h:M6 m=true)(hl:w9 m=true):m=.val\/m=.full\/m=.own\/m=.FZ:=by cases m<;>simp_all[M6,w9]
def B4E{tg:Tag}{d:DV}{m:H6}{v:Value}(hr:Nf m=true)(R:O0 E h tg d m v):O0 E h tg d .own v:=by cases m<;>first | exact R | exact R.xe | (simp[Nf]at hr)
def B3e(E:Env)(w:World)(s:D_)(q:List DV×List H7)(e:Ending)(w':World):Prop :=W9 w w'/\∃v E',e=.returned v/\Pr Q4 E w.heap E' w'.heap/\(∀b o,w'.heap.size<=b->E'.O b o=.other)/\q.2.length=E'.n/\(∀(i:Nat) ob,q.2[i]?=some ob->RO E' w'.heap i ob)/\B7k E' w'.heap s.results q.1 v
variable {s:D_}{q:List DV×List H7}
def B62{E':Env}{st':St}{a':Act}(h4:(s.results.filter Ej).length<=1){ds':List DV}(k1:bZ C.P s.lock st' s.results fn.results.toList=some ds')(k2:q=(ds',match s.lock with
   |true=>kill st'.sg (fn.results.toList.flatMap (XC st'))
   |false=>st'.sg))(w':World)(h2:M9 E' st' a' w'.heap)(h3:Pr Q4 E w.heap E' w'.heap)(lh:W9 w w'):∃v,(results fn a'.tmps).run C.P w'=.ok v w'/\B3e E w s q (.returned v) w':=by
 obtain⟨ks,Ny⟩:∃ks,(match s.lock with
  |true=>fn.results.toList.flatMap (XC st')
  |false=>[])=ks:=⟨_,rfl⟩
 have C5O:s.lock=true->∀v∈fn.results.toList,∀i∈XC st' v,i∈ks:=λhl v hv i hi=>by rw[<- Ny,hl];exact zGq.2 ⟨v,hv,hi⟩
 have C5P:(match s.lock with
  |true=>kill st'.sg (fn.results.toList.flatMap (XC st'))
  |false=>st'.sg)=kill st'.sg ks:=by
  rw[<- Ny];cases s.lock<;>rfl
 rw[C5P]at k2;clear C5P Ny;subst k2;obtain⟨l1,l2,us,q1,q2,q3⟩:=B1J (us:=ks) h2 C5O k1;have h2:M9 (E'.re (II ks)) { st' with sg:=kill st'.sg ks } a' w'.heap:=h2.U0 ks;have h3:Pr Q4 E w.heap (E'.re (II ks)) w'.heap:=h3.trans (Pr.re λT hT=>YO λi _ he=>hT (by rw[he];simp[Q4]));have q3:∀(i:Nat) k r d v,s.results[i]?=some k->fn.results.toList[i]?=some r->ds'[i]?=some d->us[i]?=some v->B7m (E'.re (II ks)).S (E'.re (II ks)) { st' with sg:=kill st'.sg ks } a' w' r d v k:=by intro i k r d v e1 e2 e3 e4;have:=q3 i k r d v e1 e2 e3 e4;cases k<;>exact this
 clear C5O;generalize hE:E'.re (II ks)=E' at h2 h3 q3;generalize V9:({ st' with sg:=kill st'.sg ks }:St)=st2 at h2 q3;have hgs:st2.sg=kill st'.sg ks:=by rw[<- V9]
 rw[<- hgs];clear hgs V9 hE k1;have pick:∃(i0:Nat)(g:Option (Nat×Nat)),∀(j:Nat) k r,s.results[j]?=some k->Ej k=true->fn.results.toList[j]?=some r->j=i0/\A9g st2 k r=g:=by
  by_cases hx:∃(i:Nat)(k:MK),s.results[i]?=some k/\Ej k=true
  ·obtain⟨i,k,hi,hk⟩:=hx;have P8:i<s.results.length:=(z0q.1 hi).1;have e2:fn.results.toList[i]?=some (fn.results.toList[i]'(by omega)):=z1q (by omega);refine⟨i,A9g st2 k (fn.results.toList[i]'(by omega)),λj k' r hj CR hr=>?_⟩;have:=A9h h4 hi hk hj CR;subst this;rw[hi]at hj;rw[e2]at hr;simp only[D9]at hj hr;exact⟨rfl,by rw[hj,hr]⟩
  ·exact⟨0,none,λj k r hj hk=>absurd ⟨j,k,hj,hk⟩ hx⟩
 obtain⟨i0,g,C2V⟩:=pick;have M3:AZ E'.S w'.heap (E'.re (mW g i0)).S w'.heap:=NA rfl;refine⟨if h:us.toArray.size=1 then us.toArray[0]else .tuple us.toArray,?_,lh,_,E'.re (mW g i0),rfl,h3.trans (Pr.re λT hT=>?_),λb o hb=>?_,?_,λi ob hi=>?_,l2,us,by omega,?_,?_⟩
 ·rw[yH];simp only[Sem.run_bind,q1,Result.andThen_ok,Sem.run_pure]
 ·unfold mW;split
  ·simp[Q4]at hT
  ·simp[Q4]at hT
  ·rfl
 ·simp only[Env.re];rw[h2.fresh b o hb];rfl
 ·exact h2.n
 ·exact RO.to (E:=E') ⟨λb o h=>by simp only[Env.re];rw[h];rfl,λb o h=>by simp only[Env.re];rw[h];rfl,rfl,rfl,rfl,rfl,rfl⟩ (λj b o h=>by simp only[Env.re];rw[h];rfl) (h2.V8 i ob hi)
 ·match us with
  |[]=>rfl
  |[u]=>rfl
  |u::u'::us=>rfl
 ·intro i k d v e1 e2 e3;have P8:i<s.results.length:=(z0q.1 e1).1;have e4:fn.results.toList[i]?=some (fn.results.toList[i]'(by omega)):=z1q (by omega);have a1:=q3 i k _ d v e1 e4 e2 e3;cases k with
  |val=>exact(show RV _ _ _ _ from a1).mono M3
  |own=>
    obtain⟨t,ht,Ob,rfl,rfl⟩:=a1;obtain⟨rfl,hp⟩:=C2V i _ _ e1 rfl e4;rw[ht]at hp;simp only[A9g]at hp;have hR:RR E' w'.heap 0 t (st2.get t).1 (st2.get t).2 (a'.tmps.getD t undef):=h2.src (P:=C.P) (t:=0) (x:=.tmp t) rfl;have hR2:RR (E'.re (mW g i)) w'.heap 3 i (st2.get t).1 (st2.get t).2 (a'.tmps.getD t undef) :=hR.re rfl rfl λb=>by simp[mW,<- hp]
    show O0 _ _ (.sp 3 i 0) _ .own _;exact B4E Ob (hR2.A36 (λms h=>by rw[h]at Ob;simp[Nf]at Ob) λms h=>by rw[h]at Ob;simp[Nf]at Ob)
  |ptr=>
    obtain⟨t,ht,hd,rfl⟩:=a1;have hR:RR E' w'.heap 0 t (st2.get t).1 (st2.get t).2 (a'.tmps.getD t undef):=h2.src (P:=C.P) (t:=0) (x:=.tmp t) rfl;show O0 _ _ .other (Nn .ptr d).1 (Nn .ptr d).2 _;unfold B4v at hd;split at hd
    ·rename_i n hm;simp only[D9]at hd;subst hd;rw[hm]at hR;exact hR
    ·rename_i hm;simp only[D9]at hd;subst hd;rw[hm]at hR;exact⟨rfl,hR.2⟩
    ·cases hd
  |dU n os=>
    obtain⟨p,t,s',cs,ht,hm,hb,hn,A_,rfl,c,T,hc1,rfl⟩:=a1;obtain⟨rfl,hp⟩:=C2V i _ _ e1 rfl e4;rw[ht]at hp;simp only[A9g,hm]at hp;obtain⟨c',T',b1,b2,b3,b4⟩:=h2.Ad s' cs hb;rw[hc1]at b1;simp only[D9,Obj.cells.injEq]at b1;obtain⟨rfl,rfl,-⟩:=b1;simp only[B7l,RR];refine⟨_,c,rfl,rfl,by simp[hn],by simp[hn,b2],λj m' d' u e1 e2 e3=>?_⟩;simp only[zaq,zjq]at e1 e2;obtain⟨j',BS,rfl⟩:=e1;obtain⟨r,hr,rfl⟩:=e2;have hjj:j'=j:=by have:=(z0q.1 BS);obtain⟨_,hh⟩:=this;simpa using hh.symm
    subst hjj;obtain⟨x1,x2,x3,x4⟩:=b4 j' r u hr e3;have x5:O0 (E'.re (mW g i)) w'.heap (.sp 3 i (j'+1)) r.1 r.2 u:=x4.re rfl (by simp[mW,<- hp]);have x6:=A8a A_ hr;rw[zoq]at x6;by_cases hos:os.contains j'=true
    ·rw[D5 hos]at x6 ⊢;exact⟨x1,x2,rfl,B4E x6 x5⟩
    ·rw[C8 hos]at x6 ⊢;refine⟨x1,x2,rfl,?_⟩;exact sQ (C1h x6 x3) x5
def C2c{out:Out}{E':Env}{st':St}{a':Act}(h1:mY C.P fn s out st'=some q):(∃i,out=.exit i->False)/\(out=.normal\/out=.ret)/\∀(w':World),M9 E' st' a' w'.heap->Pr Q4 E w.heap E' w'.heap->W9 w w'->∃v,(results fn a'.tmps).run C.P w'=.ok v w'/\B3e E w s q (.returned v) w':=by
 cases out with
 |exit i=>simp[mY]at h1
 |normal=>simp only[mY]at h1;obtain⟨k0,h1⟩:=I9 h1;obtain⟨ds',k1,k2⟩:=D8 h1;simp only[D9]at k2;exact⟨⟨0,by simp⟩,.inl rfl,λw' h2 h3 h4=>B62 (by simpa using k0) k1 k2.symm w' h2 h3 h4⟩
 |ret=>simp only[mY]at h1;obtain⟨k0,h1⟩:=I9 h1;obtain⟨ds',k1,k2⟩:=D8 h1;simp only[D9]at k2;exact⟨⟨0,by simp⟩,.inr rfl,λw' h2 h3 h4=>B62 (by simpa using k0) k1 k2.symm w' h2 h3 h4⟩
def C6t(hm:C.P.follows .mixedOrders=true)(hO:GI C R)(hf:C.P.funcs[f]?=some fn)(hb:fn.body=some c)(H:AC C R (C.fl f) c (mY C.P fn s) (I6 fn rs sg)=some q):C2J C.P f s rs sg q:=by
 intro E w vs hfr hn ho hl hr;refine(callsIn_wide (n:=0)).1 (callsIn_of_wp_marks hf hb trivial (yO hm hO c (.inl rfl) H (B39 hfr hn ho hl hr) λout E' st' a' w1 h1 h0 WI vM B21=>?_));obtain⟨ms,e0,M,-⟩:=h0;rw[yiq]at e0;obtain⟨-,ho,fin⟩:=C2c (E:=E) (E':=E') (a':=a') (w:=w) h1;have:LeavesInM Fence.wide 0 C.P fn a'.tmps (B3e E w s q) a'.defers .returning w1:=by rw[e0];exact YD fin ms w1 M WI vM B21
 rcases ho with rfl | rfl<;>exact this
end
structure A7t(C:AB):Prop where
 mixed:C.P.follows .mixedOrders=true
 go:∀(f:Nat) fn,C.P.funcs[f]?=some fn->fn.name ≠ "runtime.NumGoroutine"
 eZ:∀f p,C.eZ f=some p->∀fn c,C.P.funcs[f]?=some fn->fn.body=some c->A7u C.P c p
 clone:∀f,C.clone f=true->isGo C.P f=true/\iV C.P f (C.tK f)
 pV:∀f g,C.pV f=some g->isGo C.P f=true/\C0Y C.P f g (C.tK f)
 iter:∀g it,C.iter g=some it->isGo C.P g=true/\B3a C.P g it
variable {C:AB}
def B6N(hC:A7t C){f:Nat}{fn:Func}{c:Code}(hf:C.P.funcs[f]?=some fn)(hb:fn.body=some c):isGo C.P f=true:=by unfold isGo;rw[hf];simp[hC.go f fn hf,hb]
def step_ok{R:U1}(hC:A7t C)(hO:GI C R):GI C (Dr C R):=by
 refine⟨λf ds d H=>?_,λf rs sg q H=>?_,hC.clone,hC.pV,hC.iter⟩
 ·simp only[Dr]at H;obtain⟨fn,hf,H⟩:=D8 H;obtain⟨c,hb,H⟩:=D8 H;exact⟨B6N hC hf hb,pure_ok hC.mixed hO hf hb (λp hp=>hC.eZ f p hp fn c hf hb) H⟩
 ·simp only[Dr]at H;obtain⟨s,hs,H⟩:=D8 H;obtain⟨fn,hf,H⟩:=D8 H;obtain⟨c,hb,H⟩:=D8 H;exact⟨s,hs,B6N hC hf hb,C6t hC.mixed hO hf hb H⟩
def B0k{C:AB}(hC:A7t C):∀n,GI C (Oe C n)
 |0=>⟨λf ds d H=>by simp[Oe]at H,λf rs sg q H=>by simp[Oe]at H,hC.clone,hC.pV,hC.iter⟩
 |n+1=>step_ok hC (B0k hC n)
def C6z(hC:A7t C):GI C (run C):=by
 have hr:∀f rs sg q,(run C).r f rs sg=some q->∃n,(Oe C n).r f rs sg=some q:=λf rs sg q H=>by
  simp only[run]at H;split at H
  ·rename_i h;simp only[D9]at H;obtain⟨n,hn⟩:=h.choose_spec;rw[H]at hn;exact⟨n,hn⟩
  ·cases H
 refine⟨λf ds d H=>?_,λf rs sg q H=>?_,hC.clone,hC.pV,hC.iter⟩
 ·simp only[run]at H;split at H
  ·rename_i h;simp only[D9]at H;obtain⟨n,hn⟩:=h.choose_spec;rw[H]at hn;exact(B0k hC n).p f ds d hn
  ·cases H
 ·obtain⟨n,hn⟩:=hr f rs sg q H;exact(B0k hC n).r f rs sg q hn
end Go.Su

/-
 THE DATA MACHINE, part 28: more is known of the functions that are called: more comes out.
-/
namespace Go.Su
set_option linter.defProp false
structure Ow(R R':U1):Prop where
 p:∀f ds d,R.p f ds=some d->R'.p f ds=some d
 r:∀f rs sg q,R.r f rs sg=some q->R'.r f rs sg=some q
def Ow.refl(R:U1):Ow R R:=⟨λ_ _ _ h=>h,λ_ _ _ _ h=>h⟩
def Ow.trans{R S T:U1}(a:Ow R S)(b:Ow S T):Ow R T:=⟨λf ds d h=>b.p f ds d (a.p f ds d h),λf rs sg q h=>b.r f rs sg q (a.r f rs sg q h)⟩
section
variable {C:AB}{R:U1}{fl:I5}{o:Oper}{st s:St}
def B1b(H:K8 C R fl o st some=some s):(∀R':U1,K8 C R' fl o st some=some s) \/
 (∃f ds d,R.p f ds=some d/\∀R':U1,R'.p f ds=some d->K8 C R' fl o st some=some s) \/
 (∃f rs sg q,R.r f rs sg=some q/\∀R':U1,R'.r f rs sg=some q->K8 C R' fl o st some=some s):=by
 have H0:=H;unfold K8 at H;split at H
 case h_23 c I1=>
  unfold Ht at H;split at H
  ·rename_i b hb;refine .inl λR'=>?_;rw[<- H0];simp only[K8,I1,Ht,hb]
  ·rename_i y hy;obtain⟨r,h1,H⟩:=D8 H;obtain⟨rs,h2,H⟩:=D8 H;split at H
   ·rename_i g caps hm;have Im:∀R':U1,K8 C R' fl o st some=Lv C R' o g c.args.toList (rs++caps.map λm=>(.undef,.ptr m.1 m.2)) st some:=by intro R';simp only[K8,I1,Ht,hy,h1,h2,O3,hm]
    generalize rs++caps.map (λm=>((.undef,.ptr m.1 m.2):DV×H6))=rs' at H Im;by_cases bO:C.clone g=true
    ·refine .inl λR'=>?_;rw[<- H0,Im,Im];simp only[Lv,D5 bO]
    ·unfold Lv at H;rw[C8 bO]at H;cases Xz:C.pV g with
     |some g'=>refine .inl λR'=>?_;rw[<- H0,Im,Im];simp only[Lv,C8 bO,Xz]
     |none=>
     rw[Xz]at H;simp only at H;split at H
     ·rename_i hs;obtain⟨h3,H⟩:=I9 H;obtain⟨d,h4,H⟩:=D8 H;refine .inr (.inl ⟨g,_,d,h4,λR' h=>?_⟩);rw[Im];simp only[Lv,C8 bO,Xz,hs,h3,X5,h,O3];exact H
     ·rename_i sg hs;obtain⟨h3,H⟩:=I9 H;obtain⟨q,h4,H⟩:=D8 H;refine .inr (.inr ⟨g,_,_,q,h4,λR' h=>?_⟩);rw[Im];simp only[Lv,C8 bO,Xz,hs,h3,X5,h,O3];exact H
   ·simp at H
  ·simp at H
 all_goals first
  | (simp at H;done)
  | (rename_i I1
     refine .inl λR'=>?_;rw[<- H0];simp only[K8,I1])
def B1c{R':U1}(hR:Ow R R')(H:K8 C R fl o st some=some s):K8 C R' fl o st some=some s:=by
 rcases B1b H with h | ⟨f,ds,d,h1,h2⟩ | ⟨f,rs,sg,q,h1,h2⟩
 ·exact h R'
 ·exact h2 R' (hR.p _ _ _ h1)
 ·exact h2 R' (hR.r _ _ _ _ h1)
structure Lim(Rs:Nat->U1)(R:U1):Prop where
 up:∀n,Ow (Rs n) (Rs (n+1))
 p:∀f ds d,R.p f ds=some d->∃n,(Rs n).p f ds=some d
 r:∀f rs sg q,R.r f rs sg=some q->∃n,(Rs n).r f rs sg=some q
def Lim.le{Rs:Nat->U1}(L:Lim Rs R){n m:Nat}(h:n<=m):Ow (Rs n) (Rs m):=by
 induction m with
 |zero=>rw[zOq.1 h];exact Ow.refl _
 |succ m ih=>
   rcases zrq m n with h1 | h1
   ·rw[show n=m+1 by omega];exact Ow.refl _
   ·exact(ih h1).trans (L.up m)
def B3H{Rs:Nat->U1}(L:Lim Rs R)(H:K8 C R fl o st some=some s):∃n,K8 C (Rs n) fl o st some=some s:=by
 rcases B1b H with h | ⟨f,ds,d,h1,h2⟩ | ⟨f,rs,sg,q,h1,h2⟩
 ·exact⟨0,h _⟩
 ·obtain⟨n,hn⟩:=L.p _ _ _ h1;exact⟨n,h2 _ hn⟩
 ·obtain⟨n,hn⟩:=L.r _ _ _ _ h1;exact⟨n,h2 _ hn⟩
variable {ops:List Oper}
def Ac.mono{R':U1}{s1:St}(hR:Ow R R')(H:Ac C R fl ops o s s1):Ac C R' fl ops o s s1:=by
 unfold Ac at H ⊢;split at H
 ·exact B1c hR H
 ·obtain⟨t,h1,h2,h3⟩:=H;exact⟨t,h1,h2,h3.imp (λh=>⟨h.1,B1c hR h.2⟩) id⟩
def Ac.J9{Rs:Nat->U1}{s1:St}(L:Lim Rs R)(H:Ac C R fl ops o s s1):∃n,Ac C (Rs n) fl ops o s s1:=by
 unfold Ac at H ⊢;split at H
 ·exact B3H L H
 ·obtain⟨t,h1,h2,h3⟩:=H;rcases h3 with⟨h3,h4⟩ | h3
  ·obtain⟨n,hn⟩:=B3H L h4;exact⟨n,t,h1,h2,.inl ⟨h3,hn⟩⟩
  ·exact⟨0,t,h1,h2,.inr h3⟩
end
end Go.Su

/-
 THE DATA MACHINE, part 29: regions and code, when more is known.
-/
namespace Go.Su
set_option linter.defProp false
section
variable {X:Type}{C:AB}{R:U1}{fl:I5}{o:Oper}{st s:St}{ops:List Oper}{s1:St}
def A4m(H:K8 C R fl o st some=some s1)(k:St->Option X):K8 C R fl o st k=k s1:=by obtain⟨s,h1,h2⟩:=Vd H;simp only[D9]at h1;subst h1;exact h2 X k
variable {os:List Oper}
def C1m(H:Ac C R fl ops o st s1)(k:St->Option X):Eh C R fl ops (o::os) st k=Eh C R fl ops os s1 k:=by
 simp only[Eh,Xu];unfold Ac at H;split at H
 ·rename_i hg;simp only[hg];exact A4m H _
 ·rename_i g want hg;obtain⟨t,h1,h2,h3⟩:=H;simp only[hg,h1,O3,h2,X5];rcases h3 with⟨h3,h4⟩ | ⟨h3,h4⟩
  ·rw[h3];cases want<;>simp only[K3,H5,zeq,F9]<;>rw[KG h3 (by simp)]<;>exact A4m h4 _
  ·subst h4;cases want<;>simp only[yaq,ymq]at h3<;>rcases h3 with h3 | h3<;>simp only[h3,K3,H5,zeq,F9]<;>rw[KG h3 (by simp)]
theorem B9A{bf:List (List Nat)}{i:Nat}{acc:List (Nat×Fp)}(H:Ac C R fl ops o st s1)(k:St->Option X):
 EC C R fl ops bf (o::os) i acc st k=og (Lf bf i acc ((DX C fl ops o st).Bq st s1)) (EC C R fl ops bf os (i+1) ((i,(DX C fl ops o st).Bq st s1)::acc) s1 k):=by
 have H0:=H;simp only[EC,Xu,A8W];unfold Ac at H;split at H
 ·rename_i hg;simp only[hg];rw[A4m H,B3V hg];rfl
 ·rename_i g want hg;obtain⟨t,h1,h2,h3⟩:=H;rw[B3W hg h1];simp only[hg,h1,O3,h2,X5];rcases h3 with⟨h3,h4⟩ | ⟨h3,h4⟩
  ·rw[D5 (ig.2 h3)];rw[h3];cases want<;>simp only[K3,H5,zeq,F9,tO]<;>rw[KG h3 (by simp),A4m h4]<;>rfl
  ·have hB:¬(isB want (st.get t).1=true):=by rw[ig];rcases h3 with h | h<;>rw[h]<;>cases want<;>simp
   rw[C8 hB];subst h4;cases want<;>simp only[yaq,ymq]at h3<;>rcases h3 with h3 | h3<;>simp only[h3,K3,H5,zeq,F9,Yr]<;>rw[KG h3 (by simp)]<;>rfl
end
end Go.Su

/-
 THE DATA MACHINE, part 30: the code's answers are limits; the program's functions are what one step makes of them.
-/
namespace Go.Su
set_option linter.defProp false
section
variable {X:Type}{C:AB}{fl:I5}
def IK(p:Nat->Prop):Prop:=∃n,∀m,n<=m->p m
def IK.mono{p q:Nat->Prop}(h:IK p)(f:∀m,p m->q m):IK q:=h.imp λ_ h m hm=>f m (h m hm)
def IK.and{p q:Nat->Prop}(h:IK p)(h':IK q):IK λm=>p m/\q m:=by obtain⟨n,hn⟩:=h;obtain⟨k,hk⟩:=h';exact⟨n+k,λm hm=>⟨hn m (by omega),hk m (by omega)⟩⟩
def IK.all{p:Nat->Prop}(h:∀m,p m):IK p:=⟨0,λm _=>h m⟩
def B1d{R:U1}{Rs:Nat->U1}(L:Lim Rs R){ops:List Oper}{k:St->Option X}{ks:Nat->St->Option X}(hk:∀st x,k st=some x->IK λm=>ks m st=some x):
 ∀{os:List Oper}{st:St}{x:X},Eh C R fl ops os st k=some x->IK λm=>Eh C (Rs m) fl ops os st (ks m)=some x
 |[],st,x,H=>by simp only[Eh]at H ⊢;exact hk st x H
 |o::os,st,x,H=>by obtain⟨s1,h1,h2⟩:=xO H;obtain⟨n,hn⟩:=h1.J9 L;refine(IK.and ⟨n,λm hm=>hn.mono (L.le hm)⟩ (B1d L hk h2)).mono λm h=>?_;rw[C1m h.1];exact h.2
def A8J{R:U1}{Rs:Nat->U1}(L:Lim Rs R){ops:List Oper}{bf:List (List Nat)}{k:St->Option X}{ks:Nat->St->Option X}(hk:∀st x,k st=some x->IK λm=>ks m st=some x):
 ∀{os:List Oper}{i:Nat}{acc:List (Nat×Fp)}{st:St}{x:X},EC C R fl ops bf os i acc st k=some x->IK λm=>EC C (Rs m) fl ops bf os i acc st (ks m)=some x
 |[],i,acc,st,x,H=>by simp only[EC]at H ⊢;exact hk st x H
 |o::os,i,acc,st,x,H=>by obtain⟨s1,h1,h2,h3⟩:=A53 H;obtain⟨n,hn⟩:=h1.J9 L;refine(IK.and ⟨n,λm hm=>hn.mono (L.le hm)⟩ (A8J L hk h3)).mono λm h=>?_;rw[B9A h.1,h2];exact h.2
def B5y{X:Type}{fl:I5}{id:Nat}{st:St}{k:St->Option X}{x:X}(H:JI fl id st k=some x):∃s,k s=some x/\∀(Y:Type)(k':St->Option Y),JI fl id st k'=k' s:=by
 unfold JI at H;split at H
 ·rename_i e he;unfold iX at H;split at H
  ·rename_i i sz len hm;obtain⟨q,h1,H⟩:=D8 H;obtain⟨d,h2,H⟩:=D8 H;exact⟨_,H,λY k'=>by simp only[JI,he,iX,hm,h1,h2,O3]⟩
  ·rename_i b off hm;obtain⟨cs,h1,H⟩:=D8 H;obtain⟨a,h2,H⟩:=D8 H;obtain⟨q,h3,H⟩:=D8 H;obtain⟨d,h4,H⟩:=D8 H;exact⟨_,H,λY k'=>by simp only[JI,he,iX,hm,h1,h2,h3,h4,O3]⟩
  ·cases H
 ·rename_i he;exact⟨st,H,λY k'=>by simp only[JI,he]⟩
def A5v{X:Type}{fl:I5}{id:Nat}{k:St->Option X}{ks:Nat->St->Option X}(hk:∀st x,k st=some x->IK λm=>ks m st=some x)(st:St)(x:X)(H:JI fl id st k=some x):IK λm=>JI fl id st (ks m)=some x:=by obtain⟨s,h1,h2⟩:=B5y H;exact(hk s x h1).mono λm h=>by rw[h2];exact h
def uR:∀(c:Code){R:U1}{Rs:Nat->U1}{K:Out->St->Option X}{Ks:Nat->Out->St->Option X}{st:St}{x:X},Lim Rs R->
 (∀o st x,K o st=some x->IK λm=>Ks m o st=some x)->AC C R fl c K st=some x->IK λm=>AC C (Rs m) fl c (Ks m) st=some x:=by
 intro c;induction c with
 |skip=>intro R Rs K Ks st x L hK H;simp only[AC]at H ⊢;exact hK _ _ _ H
 |region id ops d=>
   intro R Rs K Ks st x L hK H;cases d
   ·simp only[AC]at H ⊢;exact B1d L (A5v (hK .normal)) H
   ·simp only[AC,rO]at H ⊢;obtain⟨h1,H⟩:=I9 H;simp only[h1,X5];exact A8J L (A5v (hK .normal)) H
 |seq c d ihc ihd=>
   intro R Rs K Ks st x L hK H;simp only[AC]at H ⊢;refine ihc L ?_ H;intro o s y h;cases o with
   |normal=>exact ihd L hK h
   |exit i=>exact hK _ _ _ h
   |ret=>exact hK _ _ _ h
 |cond y c d ihc ihd=>
   intro R Rs K Ks st x L hK H;simp only[AC,A8I]at H ⊢;obtain⟨r,h1,H⟩:=D8 H;obtain⟨h2,H⟩:=I9 H;simp only[h1,O3,h2,X5];cases y with
   |tmp t=>
     simp only at H ⊢;rcases yA H with⟨h3,h4⟩ | ⟨h3,h4⟩<;>rw[h3]
     ·exact ihc L hK h4
     ·exact ihd L hK h4
   |_=>
     rcases yA H with⟨h3,h4⟩ | ⟨h3,h4⟩<;>rw[h3]
     ·exact ihc L hK h4
     ·exact ihd L hK h4
 |block id c ih=>
   intro R Rs K Ks st x L hK H;simp only[AC]at H ⊢;refine ih L ?_ H;intro o s y h;cases o with
   |normal=>exact hK _ _ _ h
   |exit i=>
     simp only at h ⊢;by_cases hi:i=id
     ·simp only[D5 hi]at h ⊢;exact hK _ _ _ h
     ·simp only[C8 hi]at h ⊢;exact hK _ _ _ h
   |ret=>exact hK _ _ _ h
 |loop c ih=>
   intro R Rs K Ks st x L hK H;simp only[AC]at H ⊢;obtain⟨n,H9⟩:=iC H;clear H;have up:∀m,IK (λm'=>iter (λJ st=>AC C (Rs m) fl c (λo st=>match o with
    |.normal=>J (clean fl c st)
    |.exit i=>Ks m (.exit i) st
    |.ret=>Ks m .ret st) st) m' (clean fl c st)=some x)->Jt (λJ st=>AC C (Rs m) fl c (λo st=>match o with
    |.normal=>J (clean fl c st)
    |.exit i=>Ks m (.exit i) st
    |.ret=>Ks m .ret st) st) (clean fl c st)=some x:=by
    intro m h;generalize clean fl c st=st9 at h ⊢;have mono:∀k s y,iter (λJ st=>AC C (Rs m) fl c (λo st=>match o with
     |.normal=>J (clean fl c st)
     |.exit i=>Ks m (.exit i) st
     |.ret=>Ks m .ret st) st) k s=some y->iter (λJ st=>AC C (Rs m) fl c (λo st=>match o with
     |.normal=>J (clean fl c st)
     |.exit i=>Ks m (.exit i) st
     |.ret=>Ks m .ret st) st) (k+1) s=some y:=by
     intro k;induction k with
     |zero=>intro s y h;simp[iter]at h
     |succ k ihk=>
       intro s y h;rw[iter]at h ⊢;have:=ih (R:=Rs m) (Rs:=λ_=>Rs m) (Ks:=λ_ o st=>match o with
        |.normal=>iter (λJ st=>AC C (Rs m) fl c (λo st=>match o with
     |.normal=>J (clean fl c st)
     |.exit i=>Ks m (.exit i) st
     |.ret=>Ks m .ret st) st) (k+1) (clean fl c st)
        |.exit i=>Ks m (.exit i) st
        |.ret=>Ks m .ret st) ⟨λ_=>Ow.refl _,λ_ _ _ h=>⟨0,h⟩,λ_ _ _ _ h=>⟨0,h⟩⟩ ?_ h
       ·obtain⟨n,hn⟩:=this;exact hn n (z8q _)
       ·intro o s y h;refine IK.all λ_=>?_;cases o with
        |normal=>exact ihk _ _ h
        |exit i=>exact h
        |ret=>exact h
    obtain⟨k,hk⟩:=h;unfold Jt;have he:∃x n,iter (λJ st=>AC C (Rs m) fl c (λo st=>match o with
     |.normal=>J (clean fl c st)
     |.exit i=>Ks m (.exit i) st
     |.ret=>Ks m .ret st) st) n st9=some x:=⟨x,k,hk k (z8q _)⟩
    rw[dif_pos he];obtain⟨j,hj⟩:=he.choose_spec;have le:∀a b s y,a<=b->iter (λJ st=>AC C (Rs m) fl c (λo st=>match o with
     |.normal=>J (clean fl c st)
     |.exit i=>Ks m (.exit i) st
     |.ret=>Ks m .ret st) st) a s=some y->iter (λJ st=>AC C (Rs m) fl c (λo st=>match o with
     |.normal=>J (clean fl c st)
     |.exit i=>Ks m (.exit i) st
     |.ret=>Ks m .ret st) st) b s=some y:=by
     intro a b s y EO h;induction b with
     |zero=>rw[zOq.1 EO]at h;exact h
     |succ b ihb=>
       rcases zrq b a with h1 | h1
       ·rw[show b+1=a by omega];exact h
       ·exact mono _ _ _ (ihb h1)
    have h1:=le j (j+k) _ _ (by omega) hj;have h2:=le k (j+k) _ _ (by omega) (hk k (z8q _));rw[h1]at h2;exact h2
   have main:IK λm=>IK λm'=>iter (λJ st=>AC C (Rs m) fl c (λo st=>match o with
    |.normal=>J (clean fl c st)
    |.exit i=>Ks m (.exit i) st
    |.ret=>Ks m .ret st) st) m' (clean fl c st)=some x:=by
    have J9:∀k s y,iter (λJ st=>AC C R fl c (λo st=>match o with
     |.normal=>J (clean fl c st)
     |.exit i=>K (.exit i) st
     |.ret=>K .ret st) st) k s=some y->IK λm=>iter (λJ st=>AC C (Rs m) fl c (λo st=>match o with
     |.normal=>J (clean fl c st)
     |.exit i=>Ks m (.exit i) st
     |.ret=>Ks m .ret st) st) k s=some y:=by
     intro k;induction k with
     |zero=>intro s y h;simp[iter]at h
     |succ k ihk=>
       intro s y h;simp only[iter]at h ⊢;refine ih L ?_ h;intro o s y h;cases o with
       |normal=>exact ihk _ _ h
       |exit i=>exact hK _ _ _ h
       |ret=>exact hK _ _ _ h
    obtain⟨k,hk⟩:=J9 n _ _ H9;refine⟨k,λm hm=>⟨n,λm' TV=>?_⟩⟩;have h0:=hk m hm;have mono:∀k s y,iter (λJ st=>AC C (Rs m) fl c (λo st=>match o with
     |.normal=>J (clean fl c st)
     |.exit i=>Ks m (.exit i) st
     |.ret=>Ks m .ret st) st) k s=some y->iter (λJ st=>AC C (Rs m) fl c (λo st=>match o with
     |.normal=>J (clean fl c st)
     |.exit i=>Ks m (.exit i) st
     |.ret=>Ks m .ret st) st) (k+1) s=some y:=by
     intro k;induction k with
     |zero=>intro s y h;simp[iter]at h
     |succ k ihk=>
       intro s y h;rw[iter]at h ⊢;have:=ih (R:=Rs m) (Rs:=λ_=>Rs m) (Ks:=λ_ o st=>match o with
        |.normal=>iter (λJ st=>AC C (Rs m) fl c (λo st=>match o with
     |.normal=>J (clean fl c st)
     |.exit i=>Ks m (.exit i) st
     |.ret=>Ks m .ret st) st) (k+1) (clean fl c st)
        |.exit i=>Ks m (.exit i) st
        |.ret=>Ks m .ret st) ⟨λ_=>Ow.refl _,λ_ _ _ h=>⟨0,h⟩,λ_ _ _ _ h=>⟨0,h⟩⟩ ?_ h
       ·obtain⟨n,hn⟩:=this;exact hn n (z8q _)
       ·intro o s y h;refine IK.all λ_=>?_;cases o with
        |normal=>exact ihk _ _ h
        |exit i=>exact h
        |ret=>exact h
    induction m' with
    |zero=>rw[zOq.1 TV]at h0;exact h0
    |succ b ihb=>
      rcases zrq b n with h1 | h1
      ·rw[show b+1=n by omega];exact h0
      ·exact mono _ _ _ (ihb h1)
   exact main.mono up
 |rangeFunc g ps assign body iha ihb=>
   intro R Rs K Ks st x L hK H;simp only[AC]at H ⊢;have H9:=A8K H;clear H;obtain⟨t,p,f,i,it,cs,cd,ds,rfl,h1,h2,h3,h4,h5,h6,h7,H⟩:=H9;simp only[h7,C1k h1 h2 h3 h4 h5 h6];clear h6;generalize st.sg.set i (.arr 1 [])=sg at H;induction ds generalizing sg x with
   |nil=>exact hK _ _ _ H
   |cons d ds ih=>
     simp only[PL]at H ⊢;refine iha L ?_ H;intro o s y h;cases o with
     |exit e=>cases h
     |ret=>cases h
     |normal=>
       refine ihb L ?_ h;intro o s y h;cases o with
       |normal=>exact ih _ h
       |exit e=>exact hK _ _ _ h
       |ret=>exact hK _ _ _ h
 |exit id=>intro R Rs K Ks st x L hK H;simp only[AC]at H ⊢;exact hK _ _ _ H
 |ret=>intro R Rs K Ks st x L hK H;simp only[AC]at H ⊢;exact hK _ _ _ H
 |_=>intro R Rs K Ks st x L hK H;simp[AC]at H
def yY{R:U1}{Rs:Nat->U1}(L:Lim Rs R):(∀f ds d,(Dr C R).p f ds=some d->IK λm=>(Dr C (Rs m)).p f ds=some d) /\
 (∀f rs sg q,(Dr C R).r f rs sg=some q->IK λm=>(Dr C (Rs m)).r f rs sg=some q):=by
 constructor
 ·intro f ds d H;simp only[Dr]at H ⊢;obtain⟨fn,h1,H⟩:=D8 H;obtain⟨c,h2,H⟩:=D8 H;simp only[h1,O3,h2];cases hq:C.eZ f with
  |none=>rw[hq]at H;exact uR c L (λo st x h=>IK.all λ_=>h) H
  |some p=>
    rw[hq]at H;refine uR (Nq p.pre .skip) L (λo st x h=>?_) H;cases o with
    |exit i=>simp[qm]at h
    |ret=>exact IK.all λ_=>h
    |normal=>simp only[qm]at h ⊢;obtain⟨st2,k1,k2⟩:=D8 h;simp only[k1,O3];exact uR p.post L (λo st x h=>IK.all λ_=>h) k2
 ·intro f rs sg q H;simp only[Dr]at H ⊢;obtain⟨s,h0,H⟩:=D8 H;obtain⟨fn,h1,H⟩:=D8 H;obtain⟨c,h2,H⟩:=D8 H;simp only[h0,h1,O3,h2];exact uR c L (λo st x h=>IK.all λ_=>h) H
def A34{R R':U1}(h:Ow R R'):Ow (Dr C R) (Dr C R'):=by
 have L:Lim (λ_=>R') R:=⟨λ_=>Ow.refl _,λ_ _ _ k=>⟨0,h.p _ _ _ k⟩,λ_ _ _ _ k=>⟨0,h.r _ _ _ _ k⟩⟩;constructor
 ·intro f ds d H;obtain⟨n,hn⟩:=(yY L).1 f ds d H;exact hn n (z8q _)
 ·intro f rs sg q H;obtain⟨n,hn⟩:=(yY L).2 f rs sg q H;exact hn n (z8q _)
def B6Z(n:Nat):Ow (Oe C n) (Oe C (n+1)):=by
 induction n with
 |zero=>exact⟨λ_ _ _ h=>by simp[Oe]at h,λ_ _ _ _ h=>by simp[Oe]at h⟩
 |succ n ih=>exact A34 ih
def A4u{n m:Nat}(h:n<=m):Ow (Oe C n) (Oe C m):=by
 induction m with
 |zero=>rw[zOq.1 h];exact Ow.refl _
 |succ m ih=>
   rcases zrq m n with h1 | h1
   ·rw[show n=m+1 by omega];exact Ow.refl _
   ·exact(ih h1).trans (B6Z m)
def A4B:Lim (Oe C) (run C):=by
 refine⟨B6Z,λf ds d H=>?_,λf rs sg q H=>?_⟩
 ·simp only[run]at H;split at H
  ·rename_i h;simp only[D9]at H;rw[<- H];exact h.choose_spec
  ·cases H
 ·simp only[run]at H;split at H
  ·rename_i h;simp only[D9]at H;rw[<- H];exact h.choose_spec
  ·cases H
def A4v(n:Nat):Ow (Oe C n) (run C):=by
 constructor
 ·intro f ds d H;have h:∃x n,(Oe C n).p f ds=some x:=⟨d,n,H⟩;simp only[run,dif_pos h];obtain⟨m,hm⟩:=h.choose_spec;have h1:=(A4u (C:=C) (zsq n m)).p _ _ _ H;have h2:=(A4u (C:=C) (ztq m n)).p _ _ _ hm;rw[h1]at h2;exact h2.symm
 ·intro f rs sg q H;have h:∃x n,(Oe C n).r f rs sg=some x:=⟨q,n,H⟩;simp only[run,dif_pos h];obtain⟨m,hm⟩:=h.choose_spec;have h1:=(A4u (C:=C) (zsq n m)).r _ _ _ _ H;have h2:=(A4u (C:=C) (ztq m n)).r _ _ _ _ hm;rw[h1]at h2;exact h2.symm
def A7h:Ow (Dr C (run C)) (run C):=by
 constructor
 ·intro f ds d H;obtain⟨n,hn⟩:=(yY A4B).1 f ds d H;exact(A4v (n+1)).p _ _ _ (hn n (z8q _))
 ·intro f rs sg q H;obtain⟨n,hn⟩:=(yY A4B).2 f rs sg q H;exact(A4v (n+1)).r _ _ _ _ (hn n (z8q _))
end
end Go.Su

/-
 THE DATA MACHINE, part 31: places in a code; what a loop's head says of itself.
-/
namespace Go.Su
set_option linter.defProp false
noncomputable section
section
variable {X:Type}(C:AB)(R:U1)(fl:I5)
def El(b:Code)(K:Out->St->Option X):(St->Option X)->St->Option X:=λJ st=>AC C R fl b (λo st=>match o with
 |.normal=>J (clean fl b st)
 |.exit i=>K (.exit i) st
 |.ret=>K .ret st) st
theorem C1l(b:Code)(K:Out->St->Option X)(st:St):AC C R fl (.loop b) K st=Jt (El C R fl b K) (clean fl b st):=rfl
variable {b:Code}{st:St}{x:X}
def B1o{K:Out->St->Option X}{J:St->Option X}{Js:Nat->St->Option X}(hJ:∀st x,J st=some x->IK λm=>Js m st=some x)(H:El C R fl b K J st=some x):IK λm=>El C R fl b K (Js m) st=some x:=by
 refine uR b (Rs:=λ_=>R) ⟨λ_=>Ow.refl _,λ_ _ _ h=>⟨0,h⟩,λ_ _ _ _ h=>⟨0,h⟩⟩ ?_ H;intro o st x h;cases o with
 |normal=>exact hJ _ _ h
 |exit i=>exact IK.all λ_=>h
 |ret=>exact IK.all λ_=>h
def A88{K:Out->St->Option X}{J J':St->Option X}(hJ:∀st x,J st=some x->J' st=some x)(H:El C R fl b K J st=some x):El C R fl b K J' st=some x:=by obtain⟨n,hn⟩:=B1o C R fl (J:=J) (Js:=λ_=>J') (λst x h=>IK.all λ_=>hJ st x h) H;exact hn n (z8q _)
def B0e{K:Out->St->Option X}:∀{n m:Nat}{st:St}{x:X},n<=m->iter (El C R fl b K) n st=some x->iter (El C R fl b K) m st=some x:=by
 intro n;induction n with
 |zero=>intro m st x _ h;simp[iter]at h
 |succ n ih=>intro m st x hm h;obtain⟨m',rfl⟩:∃m',m=m'+1:=⟨m-1,by omega⟩;simp only[iter]at h ⊢;exact A88 C R fl (λst x h=>ih (by omega) h) h
def A03{K:Out->St->Option X}{n:Nat}(h:iter (El C R fl b K) n st=some x):Jt (El C R fl b K) st=some x:=by have he:∃x n,iter (El C R fl b K) n st=some x:=⟨x,n,h⟩;unfold Jt;rw[dif_pos he];obtain⟨j,hj⟩:=he.choose_spec;have h1:=B0e C R fl (zsq j n) hj;have h2:=B0e C R fl (ztq n j) h;rw[h1]at h2;exact h2
def C1U(b:Code)(K:Out->St->Option X)(st:St):Jt (El C R fl b K) st=El C R fl b K (Jt (El C R fl b K)) st:=by
 have h1:∀x,Jt (El C R fl b K) st=some x->El C R fl b K (Jt (El C R fl b K)) st=some x:=by
  intro x h;obtain⟨n,hn⟩:=iC h;cases n with
  |zero=>simp[iter]at hn
  |succ n=>exact A88 C R fl (λst x h=>A03 C R fl h) hn
 have h2:∀x,El C R fl b K (Jt (El C R fl b K)) st=some x->Jt (El C R fl b K) st=some x:=by
  intro x h;obtain⟨n,hn⟩:=B1o C R fl (J:=Jt (El C R fl b K)) (Js:=iter (El C R fl b K)) (λst x h=>by obtain⟨n,hn⟩:=iC h;exact⟨n,λm hm=>B0e C R fl hm hn⟩) h
  exact A03 C R fl (n:=n+1) (hn n (z8q _))
 cases h:Jt (El C R fl b K) st with
 |some x=>exact(h1 x h).symm
 |none=>
   cases h':El C R fl b K (Jt (El C R fl b K)) st with
   |none=>rfl
   |some x=>rw[h2 x h']at h;exact h.symm
inductive Wait where
 |seq (b:Code)
 |blk (id:Nat)
 |lp (b:Code)
variable (K0:Out->St->Option X)
def Al:List Wait->Out->St->Option X
 |[]=>K0
 |.seq b::ks=>λo st=>match o with
   |.normal=>AC C R fl b (Al ks) (clean fl b st)
   |.exit i=>Al ks (.exit i) st
   |.ret=>Al ks .ret st
 |.blk id::ks=>λo st=>match o with
   |.normal=>Al ks .normal st
   |.exit i=>if i=id then Al ks .normal st else Al ks (.exit i) st
   |.ret=>Al ks .ret st
 |.lp b::ks=>λo st=>match o with
   |.normal=>Jt (El C R fl b (Al ks)) (clean fl b st)
   |.exit i=>Al ks (.exit i) st
   |.ret=>Al ks .ret st
def TS(c:Code)(ks:List Wait)(st:St):Option X:=AC C R fl c (Al C R fl K0 ks) st
def QZ(b:Code)(ks:List Wait)(st:St):Option X:=Jt (El C R fl b (Al C R fl K0 ks)) st
section
variable (J JL:Code->List Wait->St->Option X)(cut:List Nat)
def JS(go:Code->List Wait->St->Option X):List Wait->Out->St->Option X
 |[],o,st=>K0 o st
 |.seq b::ks,o,st=>match o with
   |.normal=>go b ks st
   |.exit i=>JS go ks (.exit i) st
   |.ret=>JS go ks .ret st
 |.blk id::ks,o,st=>match o with
   |.normal=>JS go ks .normal st
   |.exit i=>if i=id then JS go ks .normal st else JS go ks (.exit i) st
   |.ret=>JS go ks .ret st
 |.lp b::ks,o,st=>match o with
   |.normal=>JL b ks (clean fl b st)
   |.exit i=>JS go ks (.exit i) st
   |.ret=>JS go ks .ret st
def cutAt(b:Code):Bool :=
 match A3z b with
 |some id=>cut.contains id
 |none=>false
def Nr(ev:Code->List Wait->St->Option X)(b:Code)(ks:List Wait)(st:St):Option X :=
 match cutAt cut b with
 |true=>J b ks (clean fl b st)
 |false=>ev b ks (clean fl b st)
def PD:Nat->Code->List Wait->St->Option X
 |0,c,ks,st=>J c ks st
 |n+1,c,ks,st=>
   match c with
   |.skip=>JS fl K0 JL (Nr fl J cut (PD n)) ks .normal st
   |.region id ops false=>Eh C R fl ops.toList ops.toList (RQ fl id st) λst=>JI fl id st λst=>JS fl K0 JL (Nr fl J cut (PD n)) ks .normal st
   |.region id ops true=>og (WA 0 ops.toList) (lS (NP ops.toList []) λbf=>EC C R fl ops.toList bf ops.toList 0 [] (RQ fl id st) λst=>JI fl id st λst=>JS fl K0 JL (Nr fl J cut (PD n)) ks .normal st)
   |.seq a b=>PD n a (.seq b::ks) st
   |.cond c a b=>A8I C.P c st (λst=>Nr fl J cut (PD n) a ks st) (λst=>Nr fl J cut (PD n) b ks st)
   |.block id b=>PD n b (.blk id::ks) st
   |.loop b=>JL b ks (clean fl b st)
   |.rangeFunc g ps a b=>J (.rangeFunc g ps a b) ks st
   |.exit id=>JS fl K0 JL (Nr fl J cut (PD n)) ks (.exit id) st
   |.ret=>JS fl K0 JL (Nr fl J cut (PD n)) ks .ret st
   |_=>none
end
def Sz{go:Code->List Wait->St->Option X}(h:∀b ks st,go b ks st=AC C R fl b (Al C R fl K0 ks) (clean fl b st)):∀(ks:List Wait)(o:Out)(st:St),
 JS fl K0 (QZ C R fl K0) go ks o st=Al C R fl K0 ks o st
 |[],o,st=>rfl
 |.seq b::ks,o,st=>by
   cases o with
   |normal=>simp only[JS,Al,h]
   |exit i=>simp only[JS,Al,Sz h ks]
   |ret=>simp only[JS,Al,Sz h ks]
 |.blk id::ks,o,st=>by
   cases o with
   |normal=>simp only[JS,Al,Sz h ks]
   |exit i=>simp only[JS,Al,Sz h ks]
   |ret=>simp only[JS,Al,Sz h ks]
 |.lp b::ks,o,st=>by
   cases o with
   |normal=>simp only[JS,Al,QZ]
   |exit i=>simp only[JS,Al,Sz h ks]
   |ret=>simp only[JS,Al,Sz h ks]
def B3G(cut:List Nat):∀(n:Nat)(c:Code)(ks:List Wait)(st:St),PD C R fl K0 (TS C R fl K0) (QZ C R fl K0) cut n c ks st=TS C R fl K0 c ks st:=by
 intro n;induction n with
 |zero=>intro c ks st;rfl
 |succ n ih=>
   intro c ks st;have hs:∀b ks st,Nr fl (TS C R fl K0) cut (PD C R fl K0 (TS C R fl K0) (QZ C R fl K0) cut n) b ks st=AC C R fl b (Al C R fl K0 ks) (clean fl b st):=by
    intro b ks st;unfold Nr;split
    ·rfl
    ·rw[ih];rfl
   have hp:∀ks o st,JS fl K0 (QZ C R fl K0) (Nr fl (TS C R fl K0) cut (PD C R fl K0 (TS C R fl K0) (QZ C R fl K0) cut n)) ks o st=Al C R fl K0 ks o st :=λks o st=>Sz C R fl K0 hs ks o st
   cases c with
   |skip=>simp only[PD,TS,AC,hp]
   |region id ops d=>cases d<;>simp only[PD,TS,AC,hp]
   |seq a b=>rw[PD,ih];rfl
   |cond y a b=>simp only[PD,TS,AC,hs]
   |block id b=>rw[PD,ih];rfl
   |loop b=>simp only[PD,TS,C1l,QZ]
   |exit id=>simp only[PD,TS,AC,hp]
   |ret=>simp only[PD,TS,AC,hp]
   |_=>simp only[PD,TS,AC]
def sub:List Bool->Code->List Wait->Code×List Wait
 |[],c,ks=>(c,ks)
 |false::p,.seq a b,ks=>sub p a (.seq b::ks)
 |true::p,.seq _ b,ks=>sub p b ks
 |false::p,.cond _ a _,ks=>sub p a ks
 |true::p,.cond _ _ b,ks=>sub p b ks
 |_::p,.block id b,ks=>sub p b (.blk id::ks)
 |_::p,.loop b,ks=>sub p b (.lp b::ks)
 |_::_,c,ks=>(c,ks)
def B77:Code->Code
 |.loop b=>b
 |c=>c
def hide{α : Type}(a : α): α := Classical.choose (⟨a,rfl⟩:∃b,b=a)
def Nb{α : Type}(a : α):hide a=a:=Classical.choose_spec (⟨a,rfl⟩:∃b,b=a)
def UI(p:List Bool)(c:Code)(st:St):Option X:=hide (TS C R fl K0) (sub p c []).1 (sub p c []).2 st
def B2Z(p:List Bool)(c:Code)(st:St):Option X:=hide (QZ C R fl K0) (B77 (sub p c []).1) (sub p c []).2 st
variable {C R fl K0}{p:List Bool}{c:Code}{r:Option X}
def F6(cut:List Nat)(h:PD C R fl K0 (hide (TS C R fl K0)) (hide (QZ C R fl K0)) cut 200 (sub p c []).1 (sub p c []).2 st=r:=by kernel_rfl):UI C R fl K0 p c st=r:=by rw[Nb,Nb,B3G]at h;unfold UI;rw[Nb];exact h
theorem J2(cut:List Nat)(h:PD C R fl K0 (hide (TS C R fl K0)) (hide (QZ C R fl K0)) cut 200 (B77 (sub p c []).1) (.lp (B77 (sub p c []).1)::(sub p c []).2) st=r:=by kernel_rfl):B2Z C R fl K0 p c st=r:=by rw[Nb,Nb,B3G]at h;rw[<- h];unfold B2Z;rw[Nb];unfold QZ TS;rw[C1U];rfl
theorem A97:UI C R fl K0 [] c st=AC C R fl c K0 st:=by unfold UI;rw[Nb];rfl
end
section
variable {X:Type}(C:AB)(R:U1)(fl:I5)(K0:Out->St->Option X)
def A3D(p:List Bool)(c:Code)(o:Out)(st:St):Option X:=hide (Al C R fl K0) (sub p c []).2 o st
def kr(I:List H7->Option X)(Xf:Out->List H7->Option X):Out->St->Option X:=λo st=>match o with
 |.normal=>I st.sg
 |.exit e=>Xf (.exit e) st.sg
 |.ret=>Xf .ret st.sg
variable {C R fl K0}
theorem C0w(cut:List Nat)(n:Nat)(b:Code)(ks:List Wait)(st:St):Nr fl (TS C R fl K0) cut (PD C R fl K0 (TS C R fl K0) (QZ C R fl K0) cut n) b ks st=AC C R fl b (Al C R fl K0 ks) (clean fl b st):=by
 unfold Nr;split
 ·rfl
 ·rw[B3G];rfl
variable {p:List Bool}{c:Code}{st:St}
def B6Q{o:Out}{r:Option X}(cut:List Nat)(h:JS fl K0 (hide (QZ C R fl K0)) (Nr fl (hide (TS C R fl K0)) cut (PD C R fl K0 (hide (TS C R fl K0)) (hide (QZ C R fl K0)) cut 200)) (sub p c []).2 o st=r):A3D C R fl K0 p c o st=r:=by rw[Nb,Nb,Sz C R fl K0 (C0w cut 200)]at h;unfold A3D;rw[Nb];exact h
def C6s{t f i q:Nat}{ps:Array Nat}{a b:Code}{ks:List Wait}{it:List DV->Option (List DV)}(hs:sub p c []=(.rangeFunc (.tmp t) ps a b,ks))(hm:(st.get t).2=.fn f [(i,0)])(hp:ps.toList=[q])(hi:C.iter f=some it)(ha:xu a=true)(hb:Aq b=true):
 UI C R fl K0 p c st=ob (Q7 st.sg i) λcs=>ob (Ce cs) λcd=>ob (it cd) λds=>PL (λd I sg=>UI C R fl (kr I λo sg=>A3D C R fl K0 p c o (BA st sg)) [] (.seq a b) (clean fl a (Ze st q d sg))) (λsg=>A3D C R fl K0 p c .normal (BA st sg)) ds (st.sg.set i (.arr 1 [])):=by
 unfold UI A3D;simp only[Nb];rw[hs];simp only[TS,AC,A4l,hp,hm,hi,ha,hb,ob,Bool.and_self,og];have V9:∀(d:DV)(I:List H7->Option X)(sg:List H7),AC C R fl a (λo st1=>match o with
       |.normal=>AC C R fl b (λo st2=>match o with
         |.normal=>I st2.sg
         |.exit e=>Al C R fl K0 ks (.exit e) (BA st st2.sg)
         |.ret=>Al C R fl K0 ks .ret (BA st st2.sg)) (clean fl b st1)
       |.exit _=>none
       |.ret=>none) (clean fl a (Ze st q d sg)) =
  AC C R fl a (λo st'=>match o with
   |.normal=>AC C R fl b (Al C R fl (kr I λo sg=>Al C R fl K0 ks o (BA st sg)) []) (clean fl b st')
   |.exit i=>Al C R fl (kr I λo sg=>Al C R fl K0 ks o (BA st sg)) [] (.exit i) st'
   |.ret=>Al C R fl (kr I λo sg=>Al C R fl K0 ks o (BA st sg)) [] .ret st') (clean fl a (Ze st q d sg)):=by
  intro d I sg;cases a with
  |region id ops dr=>
    cases dr with
    |false=>
      simp only[AC]
      congr 1
    |true=>simp[xu]at ha
  |skip=>
    simp only[AC]
    congr 1
  |_=>simp[xu]at ha
 congr 1;funext cs;congr 1;funext cd;congr 1;funext ds;congr 1;funext d I sg;exact V9 d I sg
def rgT:Code->Option (Nat×Nat)
 |.rangeFunc (.tmp t) ps _ _=>match ps.toList with
   |[q]=>some (t,q)
   |_=>none
 |_=>none
def rgA:Code->Code
 |.rangeFunc _ _ a _=>a
 |_=>.skip
def rgB:Code->Code
 |.rangeFunc _ _ _ b=>b
 |_=>.skip
def C4b{t f i q:Nat}{it:List DV->Option (List DV)}(hs:rgT (sub p c []).1=some (t,q))(hm:(st.get t).2=.fn f [(i,0)])(hi:C.iter f=some it)(EO:(xu (rgA (sub p c []).1)&&Aq (rgB (sub p c []).1))=true):
 UI C R fl K0 p c st=ob (Q7 st.sg i) λcs=>ob (Ce cs) λcd=>ob (it cd) λds=>PL (λd I sg=>UI C R fl (kr I λo sg=>A3D C R fl K0 p c o (BA st sg)) [] (.seq (rgA (sub p c []).1) (rgB (sub p c []).1)) (clean fl (rgA (sub p c []).1) (Ze st q d sg))) (λsg=>A3D C R fl K0 p c .normal (BA st sg)) ds (st.sg.set i (.arr 1 [])):=by
 simp only[z3q]at EO;generalize hc:(sub p c []).1=c1 at hs EO;cases c1 with
 |rangeFunc g ps a b=>
   cases g with
   |tmp t'=>
     simp only[rgT]at hs;split at hs
     ·rename_i q' hq;simp only[D9,Prod.mk.injEq]at hs;obtain⟨rfl,rfl⟩:=hs;simp only[rgA,rgB]at EO ⊢;exact C6s (ks:=(sub p c []).2) (by rw[<- hc]) hm hq hi EO.1 EO.2
     ·cases hs
   |_=>simp[rgT]at hs
 |_=>simp[rgT]at hs
end
def oneCell(sg:List H7)(cs:List (DV×H6)):Option DV :=
 if 1=cs.length then match cs with
  |[c]=>V6 sg c
  |_=>none
 else none
def C2b(x:Option DV):Option DV:=ob (ob x λd=>ob (some []) λds=>some (d::ds)) λds=>some (pack ds)
def mi:List (Option DV)->Option (List DV)
 |[]=>some []
 |x::xs=>ob x λd=>ob (mi xs) λds=>some (d::ds)
def B4C(xs:List (Option DV)):Option DV:=ob (mi xs) λds=>some (pack ds)
end
end Go.Su

/-
 PLAIN DATA with types: the program's types, patterns, expressions, terms; how they lie as data. By program.
-/
namespace Go.Su
set_option linter.defProp false
def Sv{l:List Nat}{a:Nat}(h:a∈l):a<=l.sum:=by
 induction l with
 |nil=>simp at h
 |cons x l ih=>
   rw[zfq];rcases ybq.1 h with rfl | h
   ·omega
   ·have:=ih h;omega
def K6(l:List Int):DV:=.list 1 (l.map λn=>.int .i64 n)
def N7(l:List ByteArray):DV:=.list 1 (l.map λs=>.str s)
inductive Ty where
 |mk (A8:Int) (n:Int) (D6:List Ty)
def Ty.A8:Ty->Int | .mk x0 _ _=>x0
def Ty.n:Ty->Int | .mk _ x1 _=>x1
def Ty.D6:Ty->List Ty | .mk _ _ x2=>x2
variable (x0:Int)(x1:Int)(x2:List Ty)
@[simp] theorem Ty.Cn:(Ty.mk x0 x1 x2).A8=x0:=rfl
@[simp] theorem Ty.Vn:(Ty.mk x0 x1 x2).n=x1:=rfl
@[simp] theorem Ty.U6:(Ty.mk x0 x1 x2).D6=x2:=rfl
def Ty.A9:Ty->DV
 |.mk x0 x1 x2=>.agg [.int .i64 x0,.int .i64 x1,.list 3 (x2.map Ty.A9)]
variable (t:Ty)
theorem Ty.K9:t.A9=.agg [.int .i64 t.A8,.int .i64 t.n,.list 3 (t.D6.map Ty.A9)]:=by cases t;rw[Ty.A9];rfl
noncomputable instance:DecidableEq Ty:=λa b=>Classical.propDecidable (a=b)
@[simp] theorem R9:E5 3 t.A9=true:=by rw[Ty.K9];rfl
@[simp] theorem Ty.AV:A7 0 t.A9=.int .i64 t.A8:=by rw[Ty.K9];rfl
@[simp] theorem Ty.Ju:A7 1 t.A9=.int .i64 t.n:=by rw[Ty.K9];rfl
@[simp] theorem Ty.En:A7 2 t.A9=.list 3 (t.D6.map Ty.A9):=by rw[Ty.K9];rfl
def Ty.M5:DV.agg [.int .i64 t.A8,.int .i64 t.n,.list 3 (t.D6.map Ty.A9)]=t.A9:=(Ty.K9 t).symm
def Ty.ED{t u:Ty}:t=u↔t.A8=u.A8/\t.n=u.n/\t.D6=u.D6:=⟨λh=>by subst h;simp,λh=>by cases t;cases u;simp_all⟩
def Ty.Jf{t k:Ty}(h:k∈t.D6):SizeOf.sizeOf k<SizeOf.sizeOf t:=by cases t;simp only[Ty.U6]at h;have:=zvq h;simp only[Ty.mk.sizeOf_spec];omega
def Ty.ind{P:Ty->Prop}(h:∀t,(∀k∈t.D6,P k)->P t)(t:Ty):P t :=h t λk hk=>Ty.ind h k
termination_by SizeOf.sizeOf t
decreasing_by exact Ty.Jf hk
def Ty.size(t:Ty):Nat:=1+(t.D6.attach.map λk=>Ty.size k.1).sum
termination_by SizeOf.sizeOf t
decreasing_by exact Ty.Jf k.2
def Ty.size_eq:t.size=1+(t.D6.map Ty.size).sum:=by rw[Ty.size];congr 2;exact zmq (f:=Ty.size) ..
def Ty.Ec{t k:Ty}(h:k∈t.D6):k.size<t.size:=by rw[Ty.size_eq t];have:=Sv (zgq (f:=Ty.size) h);omega
def Ty.Ed:0<t.size:=by rw[Ty.size_eq];omega
def Ty.vU:t.D6.length<t.size:=by
 rw[Ty.size_eq];have:∀l:List Ty,l.length<=(l.map Ty.size).sum:=by
  intro l;induction l with
  |nil=>simp
  |cons x l ih=>have:=Ty.Ed x;simp only[zcq,z9q,zfq];omega
 have:=this t.D6;omega
inductive E8 where
 |mk (A8:Int) (lo:Int) (hi:Int) (name:ByteArray) (n:Int) (s:ByteArray) (D6:List E8)
def E8.A8:E8->Int | .mk x0 _ _ _ _ _ _=>x0
def E8.lo:E8->Int | .mk _ x1 _ _ _ _ _=>x1
def E8.hi:E8->Int | .mk _ _ x2 _ _ _ _=>x2
def E8.name:E8->ByteArray | .mk _ _ _ x3 _ _ _=>x3
def E8.n:E8->Int | .mk _ _ _ _ x4 _ _=>x4
def E8.s:E8->ByteArray | .mk _ _ _ _ _ x5 _=>x5
def E8.D6:E8->List E8 | .mk _ _ _ _ _ _ x6=>x6
variable (x2:Int)(x3:ByteArray)(x4:Int)(x5:ByteArray)(x6:List E8)
@[simp] theorem E8.Cn:(E8.mk x0 x1 x2 x3 x4 x5 x6).A8=x0:=rfl
@[simp] theorem E8.aP:(E8.mk x0 x1 x2 x3 x4 x5 x6).lo=x1:=rfl
@[simp] theorem E8.aN:(E8.mk x0 x1 x2 x3 x4 x5 x6).hi=x2:=rfl
@[simp] theorem E8.DU:(E8.mk x0 x1 x2 x3 x4 x5 x6).name=x3:=rfl
@[simp] theorem E8.Vn:(E8.mk x0 x1 x2 x3 x4 x5 x6).n=x4:=rfl
@[simp] theorem E8.Oj:(E8.mk x0 x1 x2 x3 x4 x5 x6).s=x5:=rfl
@[simp] theorem E8.U6:(E8.mk x0 x1 x2 x3 x4 x5 x6).D6=x6:=rfl
def E8.A9:E8->DV
 |.mk x0 x1 x2 x3 x4 x5 x6=>.agg [.int .i64 x0,.int .i64 x1,.int .i64 x2,.str x3,.int .i64 x4,.str x5,.list 7 (x6.map E8.A9)]
variable (t:E8)
theorem E8.K9:t.A9=.agg [.int .i64 t.A8,.int .i64 t.lo,.int .i64 t.hi,.str t.name,.int .i64 t.n,.str t.s,.list 7 (t.D6.map E8.A9)]:=by cases t;rw[E8.A9];rfl
noncomputable instance:DecidableEq E8:=λa b=>Classical.propDecidable (a=b)
@[simp] theorem Sr:E5 7 t.A9=true:=by rw[E8.K9];rfl
@[simp] theorem E8.AV:A7 0 t.A9=.int .i64 t.A8:=by rw[E8.K9];rfl
@[simp] theorem E8.Ju:A7 1 t.A9=.int .i64 t.lo:=by rw[E8.K9];rfl
@[simp] theorem E8.En:A7 2 t.A9=.int .i64 t.hi:=by rw[E8.K9];rfl
@[simp] theorem E8.EU:A7 3 t.A9=.str t.name:=by rw[E8.K9];rfl
@[simp] theorem E8.Qc:A7 4 t.A9=.int .i64 t.n:=by rw[E8.K9];rfl
@[simp] theorem E8.Du:A7 5 t.A9=.str t.s:=by rw[E8.K9];rfl
@[simp] theorem E8.MO:A7 6 t.A9=.list 7 (t.D6.map E8.A9):=by rw[E8.K9];rfl
def E8.M5:DV.agg [.int .i64 t.A8,.int .i64 t.lo,.int .i64 t.hi,.str t.name,.int .i64 t.n,.str t.s,.list 7 (t.D6.map E8.A9)]=t.A9:=(E8.K9 t).symm
def E8.ED{t u:E8}:t=u↔t.A8=u.A8/\t.lo=u.lo/\t.hi=u.hi/\t.name=u.name/\t.n=u.n/\t.s=u.s/\t.D6=u.D6:=⟨λh=>by subst h;simp,λh=>by cases t;cases u;simp_all⟩
def E8.Jf{t k:E8}(h:k∈t.D6):SizeOf.sizeOf k<SizeOf.sizeOf t:=by cases t;simp only[E8.U6]at h;have:=zvq h;simp only[E8.mk.sizeOf_spec];omega
def E8.ind{P:E8->Prop}(h:∀t,(∀k∈t.D6,P k)->P t)(t:E8):P t :=h t λk hk=>E8.ind h k
termination_by SizeOf.sizeOf t
decreasing_by exact E8.Jf hk
def E8.size(t:E8):Nat:=1+(t.D6.attach.map λk=>E8.size k.1).sum
termination_by SizeOf.sizeOf t
decreasing_by exact E8.Jf k.2
def E8.size_eq:t.size=1+(t.D6.map E8.size).sum:=by rw[E8.size];congr 2;exact zmq (f:=E8.size) ..
def E8.Ec{t k:E8}(h:k∈t.D6):k.size<t.size:=by rw[E8.size_eq t];have:=Sv (zgq (f:=E8.size) h);omega
def E8.Ed:0<t.size:=by rw[E8.size_eq];omega
def E8.vU:t.D6.length<t.size:=by
 rw[E8.size_eq];have:∀l:List E8,l.length<=(l.map E8.size).sum:=by
  intro l;induction l with
  |nil=>simp
  |cons x l ih=>have:=E8.Ed x;simp only[zcq,z9q,zfq];omega
 have:=this t.D6;omega
def E8.Q3(t:E8):Nat:=1+t.name.size+t.s.size+(t.D6.attach.map λk=>E8.Q3 k.1).sum
termination_by SizeOf.sizeOf t
decreasing_by exact E8.Jf k.2
def E8.BQ:t.Q3=1+t.name.size+t.s.size+(t.D6.map E8.Q3).sum:=by rw[E8.Q3];congr 2;exact zmq (f:=E8.Q3) ..
def E8.ZW:0<t.Q3:=by rw[E8.BQ];omega
def E8.mH{t k:E8}(h:k∈t.D6):k.Q3<t.Q3:=by rw[E8.BQ t];have:=Sv (zgq (f:=E8.Q3) h);omega
def E8.A3F:t.name.size<t.Q3:=by rw[E8.BQ];omega
def E8.B4j:t.s.size<t.Q3:=by rw[E8.BQ];omega
inductive Ex where
 |mk (A8:Int) (lo:Int) (hi:Int) (name:ByteArray) (arg:ByteArray) (n:Int) (s:ByteArray) (op:Int) (a:Ty) (b:Ty) (H8:List E8) (D6:List Ex)
def Ex.A8:Ex->Int | .mk x0 _ _ _ _ _ _ _ _ _ _ _=>x0
def Ex.lo:Ex->Int | .mk _ x1 _ _ _ _ _ _ _ _ _ _=>x1
def Ex.hi:Ex->Int | .mk _ _ x2 _ _ _ _ _ _ _ _ _=>x2
def Ex.name:Ex->ByteArray | .mk _ _ _ x3 _ _ _ _ _ _ _ _=>x3
def Ex.arg:Ex->ByteArray | .mk _ _ _ _ x4 _ _ _ _ _ _ _=>x4
def Ex.n:Ex->Int | .mk _ _ _ _ _ x5 _ _ _ _ _ _=>x5
def Ex.s:Ex->ByteArray | .mk _ _ _ _ _ _ x6 _ _ _ _ _=>x6
def Ex.op:Ex->Int | .mk _ _ _ _ _ _ _ x7 _ _ _ _=>x7
def Ex.a:Ex->Ty | .mk _ _ _ _ _ _ _ _ x8 _ _ _=>x8
def Ex.b:Ex->Ty | .mk _ _ _ _ _ _ _ _ _ x9 _ _=>x9
def Ex.H8:Ex->List E8 | .mk _ _ _ _ _ _ _ _ _ _ x10 _=>x10
def Ex.D6:Ex->List Ex | .mk _ _ _ _ _ _ _ _ _ _ _ x11=>x11
variable (x4:ByteArray)(x5:Int)(x6:ByteArray)(x7:Int)(x8:Ty)(x9:Ty)(x10:List E8)(x11:List Ex)
@[simp] theorem Ex.Cn:(Ex.mk x0 x1 x2 x3 x4 x5 x6 x7 x8 x9 x10 x11).A8=x0:=rfl
@[simp] theorem Ex.aP:(Ex.mk x0 x1 x2 x3 x4 x5 x6 x7 x8 x9 x10 x11).lo=x1:=rfl
@[simp] theorem Ex.aN:(Ex.mk x0 x1 x2 x3 x4 x5 x6 x7 x8 x9 x10 x11).hi=x2:=rfl
@[simp] theorem Ex.DU:(Ex.mk x0 x1 x2 x3 x4 x5 x6 x7 x8 x9 x10 x11).name=x3:=rfl
@[simp] theorem Ex.Jc:(Ex.mk x0 x1 x2 x3 x4 x5 x6 x7 x8 x9 x10 x11).arg=x4:=rfl
@[simp] theorem Ex.Vn:(Ex.mk x0 x1 x2 x3 x4 x5 x6 x7 x8 x9 x10 x11).n=x5:=rfl
@[simp] theorem Ex.Oj:(Ex.mk x0 x1 x2 x3 x4 x5 x6 x7 x8 x9 x10 x11).s=x6:=rfl
@[simp] theorem Ex.yB:(Ex.mk x0 x1 x2 x3 x4 x5 x6 x7 x8 x9 x10 x11).op=x7:=rfl
@[simp] theorem Ex.jV:(Ex.mk x0 x1 x2 x3 x4 x5 x6 x7 x8 x9 x10 x11).a=x8:=rfl
@[simp] theorem Ex.jY:(Ex.mk x0 x1 x2 x3 x4 x5 x6 x7 x8 x9 x10 x11).b=x9:=rfl
@[simp] theorem Ex.Gu:(Ex.mk x0 x1 x2 x3 x4 x5 x6 x7 x8 x9 x10 x11).H8=x10:=rfl
@[simp] theorem Ex.U6:(Ex.mk x0 x1 x2 x3 x4 x5 x6 x7 x8 x9 x10 x11).D6=x11:=rfl
def Ex.A9:Ex->DV
 |.mk x0 x1 x2 x3 x4 x5 x6 x7 x8 x9 x10 x11=>.agg [.int .i64 x0,.int .i64 x1,.int .i64 x2,.str x3,.str x4,.int .i64 x5,.str x6,.int .i64 x7,.int .i64 x8.A8,.int .i64 x8.n,.list 3 (x8.D6.map Ty.A9),.int .i64 x9.A8,.int .i64 x9.n,.list 3 (x9.D6.map Ty.A9),.list 7 (x10.map E8.A9),.list 16 (x11.map Ex.A9)]
variable (t:Ex)
theorem Ex.K9:t.A9=.agg [.int .i64 t.A8,.int .i64 t.lo,.int .i64 t.hi,.str t.name,.str t.arg,.int .i64 t.n,.str t.s,.int .i64 t.op,.int .i64 t.a.A8,.int .i64 t.a.n,.list 3 (t.a.D6.map Ty.A9),.int .i64 t.b.A8,.int .i64 t.b.n,.list 3 (t.b.D6.map Ty.A9),.list 7 (t.H8.map E8.A9),.list 16 (t.D6.map Ex.A9)]:=by cases t;rw[Ex.A9];rfl
noncomputable instance:DecidableEq Ex:=λa b=>Classical.propDecidable (a=b)
@[simp] theorem C7U:E5 16 t.A9=true:=by rw[Ex.K9];rfl
@[simp] theorem Ex.AV:A7 0 t.A9=.int .i64 t.A8:=by rw[Ex.K9];rfl
@[simp] theorem Ex.Ju:A7 1 t.A9=.int .i64 t.lo:=by rw[Ex.K9];rfl
@[simp] theorem Ex.En:A7 2 t.A9=.int .i64 t.hi:=by rw[Ex.K9];rfl
@[simp] theorem Ex.EU:A7 3 t.A9=.str t.name:=by rw[Ex.K9];rfl
@[simp] theorem Ex.Qc:A7 4 t.A9=.str t.arg:=by rw[Ex.K9];rfl
@[simp] theorem Ex.Du:A7 5 t.A9=.int .i64 t.n:=by rw[Ex.K9];rfl
@[simp] theorem Ex.MO:A7 6 t.A9=.str t.s:=by rw[Ex.K9];rfl
@[simp] theorem Ex.pY:A7 7 t.A9=.int .i64 t.op:=by rw[Ex.K9];rfl
@[simp] theorem Ex.pm:A7 8 t.A9=.int .i64 t.a.A8:=by rw[Ex.K9];rfl
@[simp] theorem Ex.YK:A7 9 t.A9=.int .i64 t.a.n:=by rw[Ex.K9];rfl
@[simp] theorem Ex.PP:A7 10 t.A9=.list 3 (t.a.D6.map Ty.A9):=by rw[Ex.K9];rfl
@[simp] theorem Ex.UW:A7 11 t.A9=.int .i64 t.b.A8:=by rw[Ex.K9];rfl
@[simp] theorem Ex.A9k:A7 12 t.A9=.int .i64 t.b.n:=by rw[Ex.K9];rfl
@[simp] theorem Ex.mR:A7 13 t.A9=.list 3 (t.b.D6.map Ty.A9):=by rw[Ex.K9];rfl
@[simp] theorem Ex.YJ:A7 14 t.A9=.list 7 (t.H8.map E8.A9):=by rw[Ex.K9];rfl
@[simp] theorem Ex.B4t:A7 15 t.A9=.list 16 (t.D6.map Ex.A9):=by rw[Ex.K9];rfl
def Ex.M5:DV.agg [.int .i64 t.A8,.int .i64 t.lo,.int .i64 t.hi,.str t.name,.str t.arg,.int .i64 t.n,.str t.s,.int .i64 t.op,.int .i64 t.a.A8,.int .i64 t.a.n,.list 3 (t.a.D6.map Ty.A9),.int .i64 t.b.A8,.int .i64 t.b.n,.list 3 (t.b.D6.map Ty.A9),.list 7 (t.H8.map E8.A9),.list 16 (t.D6.map Ex.A9)]=t.A9:=(Ex.K9 t).symm
def Ex.ED{t u:Ex}:t=u↔t.A8=u.A8/\t.lo=u.lo/\t.hi=u.hi/\t.name=u.name/\t.arg=u.arg/\t.n=u.n/\t.s=u.s/\t.op=u.op/\t.a=u.a/\t.b=u.b/\t.H8=u.H8/\t.D6=u.D6:=⟨λh=>by subst h;simp,λh=>by cases t;cases u;simp_all⟩
def Ex.Jf{t k:Ex}(h:k∈t.D6):SizeOf.sizeOf k<SizeOf.sizeOf t:=by cases t;simp only[Ex.U6]at h;have:=zvq h;simp only[Ex.mk.sizeOf_spec];omega
def Ex.ind{P:Ex->Prop}(h:∀t,(∀k∈t.D6,P k)->P t)(t:Ex):P t :=h t λk hk=>Ex.ind h k
termination_by SizeOf.sizeOf t
decreasing_by exact Ex.Jf hk
inductive Tm where
 |mk (A8:Int) (lo:Int) (hi:Int) (name:ByteArray) (arg:ByteArray) (n:Int) (s:ByteArray) (op:Int) (label:Int) (neg:Bool) (vars:List Int) (a:Ty) (b:Ty) (args:List Ty) (H8:List E8) (D6:List Tm)
def Tm.A8:Tm->Int | .mk x0 _ _ _ _ _ _ _ _ _ _ _ _ _ _ _=>x0
def Tm.lo:Tm->Int | .mk _ x1 _ _ _ _ _ _ _ _ _ _ _ _ _ _=>x1
def Tm.hi:Tm->Int | .mk _ _ x2 _ _ _ _ _ _ _ _ _ _ _ _ _=>x2
def Tm.name:Tm->ByteArray | .mk _ _ _ x3 _ _ _ _ _ _ _ _ _ _ _ _=>x3
def Tm.arg:Tm->ByteArray | .mk _ _ _ _ x4 _ _ _ _ _ _ _ _ _ _ _=>x4
def Tm.n:Tm->Int | .mk _ _ _ _ _ x5 _ _ _ _ _ _ _ _ _ _=>x5
def Tm.s:Tm->ByteArray | .mk _ _ _ _ _ _ x6 _ _ _ _ _ _ _ _ _=>x6
def Tm.op:Tm->Int | .mk _ _ _ _ _ _ _ x7 _ _ _ _ _ _ _ _=>x7
def Tm.label:Tm->Int | .mk _ _ _ _ _ _ _ _ x8 _ _ _ _ _ _ _=>x8
def Tm.neg:Tm->Bool | .mk _ _ _ _ _ _ _ _ _ x9 _ _ _ _ _ _=>x9
def Tm.vars:Tm->List Int | .mk _ _ _ _ _ _ _ _ _ _ x10 _ _ _ _ _=>x10
def Tm.a:Tm->Ty | .mk _ _ _ _ _ _ _ _ _ _ _ x11 _ _ _ _=>x11
def Tm.b:Tm->Ty | .mk _ _ _ _ _ _ _ _ _ _ _ _ x12 _ _ _=>x12
def Tm.args:Tm->List Ty | .mk _ _ _ _ _ _ _ _ _ _ _ _ _ x13 _ _=>x13
def Tm.H8:Tm->List E8 | .mk _ _ _ _ _ _ _ _ _ _ _ _ _ _ x14 _=>x14
def Tm.D6:Tm->List Tm | .mk _ _ _ _ _ _ _ _ _ _ _ _ _ _ _ x15=>x15
variable (x8:Int)(x9:Bool)(x10:List Int)(x11:Ty)(x12:Ty)(x13:List Ty)(x14:List E8)(x15:List Tm)
@[simp] theorem Tm.Cn:(Tm.mk x0 x1 x2 x3 x4 x5 x6 x7 x8 x9 x10 x11 x12 x13 x14 x15).A8=x0:=rfl
@[simp] theorem Tm.aP:(Tm.mk x0 x1 x2 x3 x4 x5 x6 x7 x8 x9 x10 x11 x12 x13 x14 x15).lo=x1:=rfl
@[simp] theorem Tm.aN:(Tm.mk x0 x1 x2 x3 x4 x5 x6 x7 x8 x9 x10 x11 x12 x13 x14 x15).hi=x2:=rfl
@[simp] theorem Tm.DU:(Tm.mk x0 x1 x2 x3 x4 x5 x6 x7 x8 x9 x10 x11 x12 x13 x14 x15).name=x3:=rfl
@[simp] theorem Tm.Jc:(Tm.mk x0 x1 x2 x3 x4 x5 x6 x7 x8 x9 x10 x11 x12 x13 x14 x15).arg=x4:=rfl
@[simp] theorem Tm.Vn:(Tm.mk x0 x1 x2 x3 x4 x5 x6 x7 x8 x9 x10 x11 x12 x13 x14 x15).n=x5:=rfl
@[simp] theorem Tm.Oj:(Tm.mk x0 x1 x2 x3 x4 x5 x6 x7 x8 x9 x10 x11 x12 x13 x14 x15).s=x6:=rfl
@[simp] theorem Tm.yB:(Tm.mk x0 x1 x2 x3 x4 x5 x6 x7 x8 x9 x10 x11 x12 x13 x14 x15).op=x7:=rfl
@[simp] theorem Tm.Vk:(Tm.mk x0 x1 x2 x3 x4 x5 x6 x7 x8 x9 x10 x11 x12 x13 x14 x15).label=x8:=rfl
@[simp] theorem Tm.mJ:(Tm.mk x0 x1 x2 x3 x4 x5 x6 x7 x8 x9 x10 x11 x12 x13 x14 x15).neg=x9:=rfl
@[simp] theorem Tm.JR:(Tm.mk x0 x1 x2 x3 x4 x5 x6 x7 x8 x9 x10 x11 x12 x13 x14 x15).vars=x10:=rfl
@[simp] theorem Tm.jV:(Tm.mk x0 x1 x2 x3 x4 x5 x6 x7 x8 x9 x10 x11 x12 x13 x14 x15).a=x11:=rfl
@[simp] theorem Tm.jY:(Tm.mk x0 x1 x2 x3 x4 x5 x6 x7 x8 x9 x10 x11 x12 x13 x14 x15).b=x12:=rfl
@[simp] theorem Tm.Pg:(Tm.mk x0 x1 x2 x3 x4 x5 x6 x7 x8 x9 x10 x11 x12 x13 x14 x15).args=x13:=rfl
@[simp] theorem Tm.Gu:(Tm.mk x0 x1 x2 x3 x4 x5 x6 x7 x8 x9 x10 x11 x12 x13 x14 x15).H8=x14:=rfl
@[simp] theorem Tm.U6:(Tm.mk x0 x1 x2 x3 x4 x5 x6 x7 x8 x9 x10 x11 x12 x13 x14 x15).D6=x15:=rfl
def Tm.A9:Tm->DV
 |.mk x0 x1 x2 x3 x4 x5 x6 x7 x8 x9 x10 x11 x12 x13 x14 x15=>.agg [.int .i64 x0,.int .i64 x1,.int .i64 x2,.str x3,.str x4,.int .i64 x5,.str x6,.int .i64 x7,.int .i64 x8,.bool x9,K6 x10,.int .i64 x11.A8,.int .i64 x11.n,.list 3 (x11.D6.map Ty.A9),.int .i64 x12.A8,.int .i64 x12.n,.list 3 (x12.D6.map Ty.A9),.list 3 (x13.map Ty.A9),.list 7 (x14.map E8.A9),.list 20 (x15.map Tm.A9)]
variable (t:Tm)
theorem Tm.K9:t.A9=.agg [.int .i64 t.A8,.int .i64 t.lo,.int .i64 t.hi,.str t.name,.str t.arg,.int .i64 t.n,.str t.s,.int .i64 t.op,.int .i64 t.label,.bool t.neg,K6 t.vars,.int .i64 t.a.A8,.int .i64 t.a.n,.list 3 (t.a.D6.map Ty.A9),.int .i64 t.b.A8,.int .i64 t.b.n,.list 3 (t.b.D6.map Ty.A9),.list 3 (t.args.map Ty.A9),.list 7 (t.H8.map E8.A9),.list 20 (t.D6.map Tm.A9)]:=by cases t;rw[Tm.A9];rfl
noncomputable instance:DecidableEq Tm:=λa b=>Classical.propDecidable (a=b)
@[simp] theorem I8:E5 20 t.A9=true:=by rw[Tm.K9];rfl
@[simp] theorem Tm.AV:A7 0 t.A9=.int .i64 t.A8:=by rw[Tm.K9];rfl
@[simp] theorem Tm.Ju:A7 1 t.A9=.int .i64 t.lo:=by rw[Tm.K9];rfl
@[simp] theorem Tm.En:A7 2 t.A9=.int .i64 t.hi:=by rw[Tm.K9];rfl
@[simp] theorem Tm.EU:A7 3 t.A9=.str t.name:=by rw[Tm.K9];rfl
@[simp] theorem Tm.Qc:A7 4 t.A9=.str t.arg:=by rw[Tm.K9];rfl
@[simp] theorem Tm.Du:A7 5 t.A9=.int .i64 t.n:=by rw[Tm.K9];rfl
@[simp] theorem Tm.MO:A7 6 t.A9=.str t.s:=by rw[Tm.K9];rfl
@[simp] theorem Tm.pY:A7 7 t.A9=.int .i64 t.op:=by rw[Tm.K9];rfl
@[simp] theorem Tm.pm:A7 8 t.A9=.int .i64 t.label:=by rw[Tm.K9];rfl
@[simp] theorem Tm.YK:A7 9 t.A9=.bool t.neg:=by rw[Tm.K9];rfl
@[simp] theorem Tm.PP:A7 10 t.A9=K6 t.vars:=by rw[Tm.K9];rfl
@[simp] theorem Tm.UW:A7 11 t.A9=.int .i64 t.a.A8:=by rw[Tm.K9];rfl
@[simp] theorem Tm.A9k:A7 12 t.A9=.int .i64 t.a.n:=by rw[Tm.K9];rfl
@[simp] theorem Tm.mR:A7 13 t.A9=.list 3 (t.a.D6.map Ty.A9):=by rw[Tm.K9];rfl
@[simp] theorem Tm.YJ:A7 14 t.A9=.int .i64 t.b.A8:=by rw[Tm.K9];rfl
@[simp] theorem Tm.B4t:A7 15 t.A9=.int .i64 t.b.n:=by rw[Tm.K9];rfl
@[simp] theorem Tm.B4u:A7 16 t.A9=.list 3 (t.b.D6.map Ty.A9):=by rw[Tm.K9];rfl
@[simp] theorem Tm.Kw:A7 17 t.A9=.list 3 (t.args.map Ty.A9):=by rw[Tm.K9];rfl
@[simp] theorem Tm.A9l:A7 18 t.A9=.list 7 (t.H8.map E8.A9):=by rw[Tm.K9];rfl
@[simp] theorem Tm.CK:A7 19 t.A9=.list 20 (t.D6.map Tm.A9):=by rw[Tm.K9];rfl
def Tm.M5:DV.agg [.int .i64 t.A8,.int .i64 t.lo,.int .i64 t.hi,.str t.name,.str t.arg,.int .i64 t.n,.str t.s,.int .i64 t.op,.int .i64 t.label,.bool t.neg,K6 t.vars,.int .i64 t.a.A8,.int .i64 t.a.n,.list 3 (t.a.D6.map Ty.A9),.int .i64 t.b.A8,.int .i64 t.b.n,.list 3 (t.b.D6.map Ty.A9),.list 3 (t.args.map Ty.A9),.list 7 (t.H8.map E8.A9),.list 20 (t.D6.map Tm.A9)]=t.A9:=(Tm.K9 t).symm
def Tm.ED{t u:Tm}:t=u↔t.A8=u.A8/\t.lo=u.lo/\t.hi=u.hi/\t.name=u.name/\t.arg=u.arg/\t.n=u.n/\t.s=u.s/\t.op=u.op/\t.label=u.label/\t.neg=u.neg/\t.vars=u.vars/\t.a=u.a/\t.b=u.b/\t.args=u.args/\t.H8=u.H8/\t.D6=u.D6:=⟨λh=>by subst h;simp,λh=>by cases t;cases u;simp_all⟩
def Tm.Jf{t k:Tm}(h:k∈t.D6):SizeOf.sizeOf k<SizeOf.sizeOf t:=by cases t;simp only[Tm.U6]at h;have:=zvq h;simp only[Tm.mk.sizeOf_spec];omega
def Tm.ind{P:Tm->Prop}(h:∀t,(∀k∈t.D6,P k)->P t)(t:Tm):P t :=h t λk hk=>Tm.ind h k
termination_by SizeOf.sizeOf t
decreasing_by exact Tm.Jf hk
def Tm.size(t:Tm):Nat:=1+(t.D6.attach.map λk=>Tm.size k.1).sum
termination_by SizeOf.sizeOf t
decreasing_by exact Tm.Jf k.2
def Tm.size_eq:t.size=1+(t.D6.map Tm.size).sum:=by rw[Tm.size];congr 2;exact zmq (f:=Tm.size) ..
def Tm.Ec{t k:Tm}(h:k∈t.D6):k.size<t.size:=by rw[Tm.size_eq t];have:=Sv (zgq (f:=Tm.size) h);omega
def Tm.Ed:0<t.size:=by rw[Tm.size_eq];omega
def Tm.vU:t.D6.length<t.size:=by
 rw[Tm.size_eq];have:∀l:List Tm,l.length<=(l.map Tm.size).sum:=by
  intro l;induction l with
  |nil=>simp
  |cons x l ih=>have:=Tm.Ed x;simp only[zcq,z9q,zfq];omega
 have:=this t.D6;omega
def Tm.Q3(t:Tm):Nat:=1+t.name.size+t.arg.size+t.s.size+t.vars.length+t.a.size+t.b.size+(t.args.map Ty.size).sum+(t.H8.map E8.Q3).sum+(t.D6.attach.map λk=>Tm.Q3 k.1).sum
termination_by SizeOf.sizeOf t
decreasing_by exact Tm.Jf k.2
def Tm.BQ:t.Q3=1+t.name.size+t.arg.size+t.s.size+t.vars.length+t.a.size+t.b.size+(t.args.map Ty.size).sum+(t.H8.map E8.Q3).sum+(t.D6.map Tm.Q3).sum:=by rw[Tm.Q3];congr 2;exact zmq (f:=Tm.Q3) ..
def Tm.ZW:0<t.Q3:=by rw[Tm.BQ];omega
def Tm.mH{t k:Tm}(h:k∈t.D6):k.Q3<t.Q3:=by rw[Tm.BQ t];have:=Sv (zgq (f:=Tm.Q3) h);omega
def Tm.C1Y:t.D6.length<t.Q3:=by
 rw[Tm.BQ];have:∀l:List Tm,l.length<=(l.map Tm.Q3).sum:=by
  intro l;induction l with
  |nil=>simp
  |cons x l ih=>have:=Tm.ZW x;simp only[zcq,z9q,zfq];omega
 have:=this t.D6;omega
def Tm.A3F:t.name.size<t.Q3:=by rw[Tm.BQ];omega
def Tm.C1X:t.arg.size<t.Q3:=by rw[Tm.BQ];omega
def Tm.B4j:t.s.size<t.Q3:=by rw[Tm.BQ];omega
def Tm.B94:t.vars.length<t.Q3:=by rw[Tm.BQ];omega
def Tm.B4h:t.a.size<t.Q3:=by rw[Tm.BQ];omega
def Tm.B4i:t.b.size<t.Q3:=by rw[Tm.BQ];omega
def Tm.pU:(t.args.map Ty.size).sum<t.Q3:=by rw[Tm.BQ];omega
def Tm.B1s:(t.H8.map E8.Q3).sum<t.Q3:=by rw[Tm.BQ];omega
inductive C2I where
 |mk (types:List Ty) (vars:List Int) (D6:List C2I)
noncomputable instance:DecidableEq C2I:=λa b=>Classical.propDecidable (a=b)
inductive EY where
 |mk (A8:Int) (head:Int) (label:Int) (neg:Bool) (D6:List EY)
def EY.A8:EY->Int | .mk x0 _ _ _ _=>x0
def EY.head:EY->Int | .mk _ x1 _ _ _=>x1
def EY.label:EY->Int | .mk _ _ x2 _ _=>x2
def EY.neg:EY->Bool | .mk _ _ _ x3 _=>x3
def EY.D6:EY->List EY | .mk _ _ _ _ x4=>x4
variable (x3:Bool)(x4:List EY)
@[simp] theorem EY.Cn:(EY.mk x0 x1 x2 x3 x4).A8=x0:=rfl
@[simp] theorem EY.C9m:(EY.mk x0 x1 x2 x3 x4).head=x1:=rfl
@[simp] theorem EY.Vk:(EY.mk x0 x1 x2 x3 x4).label=x2:=rfl
@[simp] theorem EY.mJ:(EY.mk x0 x1 x2 x3 x4).neg=x3:=rfl
@[simp] theorem EY.U6:(EY.mk x0 x1 x2 x3 x4).D6=x4:=rfl
def EY.A9:EY->DV
 |.mk x0 x1 x2 x3 x4=>.agg [.int .i64 x0,.int .i64 x1,.int .i64 x2,.bool x3,.list 5 (x4.map EY.A9)]
noncomputable instance:DecidableEq EY:=λa b=>Classical.propDecidable (a=b)
inductive Val where
 |mk (A8:Int) (n:Int) (s:ByteArray) (c:EY) (D6:List Val)
def Val.A8:Val->Int | .mk x0 _ _ _ _=>x0
def Val.n:Val->Int | .mk _ x1 _ _ _=>x1
def Val.s:Val->ByteArray | .mk _ _ x2 _ _=>x2
def Val.c:Val->EY | .mk _ _ _ x3 _=>x3
def Val.D6:Val->List Val | .mk _ _ _ _ x4=>x4
variable (x2:ByteArray)(x3:EY)(x4:List Val)
@[simp] theorem Val.Cn:(Val.mk x0 x1 x2 x3 x4).A8=x0:=rfl
@[simp] theorem Val.Vn:(Val.mk x0 x1 x2 x3 x4).n=x1:=rfl
@[simp] theorem Val.Oj:(Val.mk x0 x1 x2 x3 x4).s=x2:=rfl
@[simp] theorem Val.C9A:(Val.mk x0 x1 x2 x3 x4).c=x3:=rfl
@[simp] theorem Val.U6:(Val.mk x0 x1 x2 x3 x4).D6=x4:=rfl
def Val.A9:Val->DV
 |.mk x0 x1 x2 x3 x4=>.agg [.int .i64 x0,.int .i64 x1,.str x2,.int .i64 x3.A8,.int .i64 x3.head,.int .i64 x3.label,.bool x3.neg,.list 5 (x3.D6.map EY.A9),.list 9 (x4.map Val.A9)]
noncomputable instance:DecidableEq Val:=λa b=>Classical.propDecidable (a=b)
@[simp] theorem Ty.ag(t:Ty):R6 t.A9=t.A9:=by rw[Ty.K9];rfl
@[simp] theorem E8.ag(t:E8):IL t.A9=t.A9:=by rw[E8.K9];rfl
@[simp] theorem Ex.ag(t:Ex):A6P t.A9=t.A9:=by rw[Ex.K9];rfl
@[simp] theorem Tm.ag:I7 t.A9=t.A9:=by rw[Tm.K9];rfl
def Ex.pj(t:Ex):A7 0 t.A9=.int .i64 t.A8/\A7 1 t.A9=.int .i64 t.lo/\A7 2 t.A9=.int .i64 t.hi/\A7 3 t.A9=.str t.name/\A7 4 t.A9=.str t.arg/\A7 5 t.A9=.int .i64 t.n/\A7 6 t.A9=.str t.s/\A7 7 t.A9=.int .i64 t.op/\A7 8 t.A9=.int .i64 t.a.A8/\A7 9 t.A9=.int .i64 t.a.n/\A7 10 t.A9=.list 3 (t.a.D6.map Ty.A9)/\A7 11 t.A9=.int .i64 t.b.A8/\A7 12 t.A9=.int .i64 t.b.n/\A7 13 t.A9=.list 3 (t.b.D6.map Ty.A9)/\A7 14 t.A9=.list 7 (t.H8.map E8.A9)/\A7 15 t.A9=.list 16 (t.D6.map Ex.A9):=⟨t.AV,t.Ju,t.En,t.EU,t.Qc,t.Du,t.MO,t.pY,t.pm,t.YK,t.PP,t.UW,t.A9k,t.mR,t.YJ,t.B4t⟩
def E8.pj(t:E8):A7 0 t.A9=.int .i64 t.A8/\A7 1 t.A9=.int .i64 t.lo/\A7 2 t.A9=.int .i64 t.hi/\A7 3 t.A9=.str t.name/\A7 4 t.A9=.int .i64 t.n/\A7 5 t.A9=.str t.s/\A7 6 t.A9=.list 7 (t.D6.map E8.A9):=⟨t.AV,t.Ju,t.En,t.EU,t.Qc,t.Du,t.MO⟩
def Tm.pj:A7 0 t.A9=.int .i64 t.A8/\A7 1 t.A9=.int .i64 t.lo/\A7 2 t.A9=.int .i64 t.hi/\A7 3 t.A9=.str t.name/\A7 4 t.A9=.str t.arg/\A7 5 t.A9=.int .i64 t.n/\A7 6 t.A9=.str t.s/\A7 7 t.A9=.int .i64 t.op/\A7 8 t.A9=.int .i64 t.label/\A7 9 t.A9=.bool t.neg/\A7 10 t.A9=K6 t.vars/\A7 11 t.A9=.int .i64 t.a.A8/\A7 12 t.A9=.int .i64 t.a.n/\A7 13 t.A9=.list 3 (t.a.D6.map Ty.A9)/\A7 14 t.A9=.int .i64 t.b.A8/\A7 15 t.A9=.int .i64 t.b.n/\A7 16 t.A9=.list 3 (t.b.D6.map Ty.A9)/\A7 17 t.A9=.list 3 (t.args.map Ty.A9)/\A7 18 t.A9=.list 7 (t.H8.map E8.A9)/\A7 19 t.A9=.list 20 (t.D6.map Tm.A9):=⟨t.AV,t.Ju,t.En,t.EU,t.Qc,t.Du,t.MO,t.pY,t.pm,t.YK,t.PP,t.UW,t.A9k,t.mR,t.YJ,t.B4t,t.B4u,t.Kw,t.A9l,t.CK⟩
end Go.Su

/-
 PLAIN DATA: what the data's operations make of numbers, texts, lists.
-/
namespace Go.Su
set_option linter.defProp false
variable {α : Type}{β : Type}
@[simp] theorem F8(a : α)(f : α->Option β):ob (some a) f=f a:=rfl
@[simp] theorem C12(f : α->Option β):ob none f=none:=rfl
@[simp] theorem F4(x:Option β):og true x=x:=rfl
@[simp] theorem B99(x:Option β):og false x=none:=rfl
@[simp] theorem E9(b:Bool)(x y:Option β):F3 (.bool b) x y=if b=true then x else y:=by cases b<;>rfl
@[simp] theorem J5(b:Bool)(x y z:Option β):K3 (.bool b) x y z=if b=true then x else y:=by cases b<;>rfl
variable (sz:Nat)(ds:List DV)
@[simp] theorem N8:L6 (.list sz ds)=some (.int .i64 ds.length):=rfl
variable (l:List Int)
@[simp] def Gx:L6 (K6 l)=some (.int .i64 l.length):=by simp[K6]
variable (l:List ByteArray)
@[simp] def bD:L6 (N7 l)=some (.int .i64 l.length):=by simp[N7]
@[simp] theorem A8s:aC (.list sz ds)=some (sz,ds):=rfl
variable (s:ByteArray)
@[simp] theorem Gw:ES (.str s)=some (.int .i64 s.size):=rfl
variable (k:IntKind)
@[simp] theorem P6(a b:Int):D7 .eql (.int k a) (.int k b)=some (.bool (decide (a=b))):=by simp only[D7,Le,NS,H5];rfl
@[simp] theorem Z6(a b:Int):D7 .neq (.int k a) (.int k b)=some (.bool (!decide (a=b))):=by simp only[D7,Le,NS,H5];rfl
@[simp] def J6(a b:Int):D7 .lss (.int k a) (.int k b)=some (.bool (decide (a<b))):=by simp only[D7,Le,NS,H5]
@[simp] def BH(a b:Int):D7 .leq (.int k a) (.int k b)=some (.bool (decide (a<=b))):=by simp only[D7,Le,NS,H5]
@[simp] def Ah(a b:Int):D7 .gtr (.int k a) (.int k b)=some (.bool (decide (b<a))):=by simp only[D7,Le,NS,H5,gt_iff_lt]
@[simp] def Ki(a b:Int):D7 .geq (.int k a) (.int k b)=some (.bool (decide (b<=a))):=by simp only[D7,Le,NS,H5,ge_iff_le]
def Ag(a b:Int):D7 .add (.int k a) (.int k b)=some (.int k (k.wrap (a+b))):=by simp only[D7,Le,NS,H5]
def FX(a b:Int):D7 .sub (.int k a) (.int k b)=some (.int k (k.wrap (a-b))):=by simp only[D7,Le,NS,H5]
def A6W(a b:Int):D7 .mul (.int k a) (.int k b)=some (.int k (k.wrap (a * b))):=by simp only[D7,Le,NS,H5]
def X7{n:Int}(h1 : -9223372036854775808<=n)(h2:n<=9223372036854775807):IntKind.i64.wrap n=n:=Go.IntWalk.i64_in n ⟨h1,h2⟩
def GJ{a b:Int}(h1 : -9223372036854775808<=a+b)(h2:a+b<=9223372036854775807):D7 .add (.int .i64 a) (.int .i64 b)=some (.int .i64 (a+b)):=by rw[Ag,X7 h1 h2]
variable {i:Nat}
def O8(h:i<9223372036854775807):D7 .add (.int .i64 (i:Int)) (.int .i64 1)=some (.int .i64 ((i+1:Nat):Int)):=by rw[GJ (by omega) (by omega)];simp
variable {c:Prop}
theorem B9S[Decidable c]{a b:Bool}:(if c then some (DV.bool a)else some (DV.bool b))=some (DV.bool (if c then a else b)):=by split<;>rfl
theorem B4b[Decidable c]{a b:Bool}:(if c then DV.bool a else DV.bool b)=DV.bool (if c then a else b):=by split<;>rfl
theorem C7w[Decidable c]{a b:DV}:(if c then some a else some b)=some (if c then a else b):=by split<;>rfl
def C6B{a b:Bool}(h:a=true↔b=true):some (DV.bool a)=some (DV.bool b):=by rw[zWq.2 h]
def NQ:s.toList=s.data.toList:=by
 have loop:∀(n i:Nat)(r:List UInt8),s.size-i=n->ByteArray.toList.loop s i r=r.reverse++s.data.toList.drop i:=by
  intro n;induction n with
  |zero=>
    intro i r h;rw[ByteArray.toList.loop,C8 (by omega)];have:s.data.toList.length<=i:=by simp only[y4q];exact Nat.le_of_sub_eq_zero h
    simp[zQq this]
  |succ n ih=>
    intro i r h;have hi:i<s.size:=by omega
    rw[ByteArray.toList.loop,D5 hi,ih (i+1) _ (by omega)];have hl:i<s.data.toList.length:=by simpa using hi
    rw[zkq hl];have:s.get! i=s.data.toList[i]:=by simp only[ByteArray.get!,zZq];exact getElem!_pos s.data i hi
    rw[this];simp
 rw[ByteArray.toList,loop _ 0 [] rfl];simp
def A10{a b:ByteArray}(h:a.toList=b.toList):a=b:=by rw[NQ,NQ]at h;cases a;cases b;simp only[ByteArray.mk.injEq];exact Array.ext' h
def nk(a b:ByteArray):(a.toList==b.toList)=decide (a=b):=by
 by_cases h:a=b
 ·subst h;simp
 ·have:a.toList≠b.toList:=λh'=>h (A10 h');simp[h,this]
@[simp] def Lx(a b:ByteArray):D7 .eql (.str a) (.str b)=some (.bool (decide (a=b))):=by simp only[D7,tN];rw[nk]
@[simp] def A16(a b:ByteArray):D7 .neq (.str a) (.str b)=some (.bool (!decide (a=b))):=by simp only[D7,tN];rw[nk]
@[simp] theorem C7T(a b:Bool):A17 (.bool a) (.bool b)=some (a==b):=rfl
@[simp] theorem P9(b:Bool):R8 .not (.bool b)=some (.bool !b):=rfl
variable (n:Int)
@[simp] theorem Gg:J7 (.int k n)=true:=rfl
@[simp] theorem A6x(b:Bool):J7 (.bool b)=true:=rfl
@[simp] theorem iA:J7 (.str s)=true:=rfl
@[simp] theorem rR:J7 (.list sz ds)=true:=rfl
@[simp] theorem C6W(l:List Int):J7 (K6 l)=true:=rfl
@[simp] theorem C6X:J7 (N7 l)=true:=rfl
@[simp] theorem B72:M7 (.int k n)=true:=rfl
@[simp] theorem iB:M7 (.str s)=true:=rfl
@[simp] theorem C7V:Ao false (.int .i64 n)=true:=rfl
@[simp] theorem bT:Ao true (.str s)=true:=rfl
def B9r(i:Nat):F7 sz (.list sz ds) (.int k (i:Int))=ds[i]?:=by simp[F7]
variable {k:IntKind}
theorem J3{e : α->DV}{sz:Nat}{l:List α}(h:i<l.length):F7 sz (.list sz (l.map e)) (.int k (i:Int))=some (e l[i]):=by rw[B9r,zaq,z1q h];rfl
def Bg{l:List Int}(h:i<l.length):F7 1 (K6 l) (.int k (i:Int))=some (.int .i64 l[i]):=J3 h
def L_{l:List ByteArray}(h:i<l.length):F7 1 (N7 l) (.int k (i:Int))=some (.str l[i]):=J3 h
def Qu{sz:Nat}{a b:List DV}(h:a.length+b.length<=J9):AP sz (.list sz a) (.list sz b)=some (.list sz (a++b)):=by simp[AP,h]
def B1p{A X:Type}{l:List α}{P:Int->A->Option X}{I:Nat->A->Prop}{F:List α->A->Option X}(stop:∀a,I l.length a->P l.length a=F [] a)(step:∀(i:Nat)(h:i<l.length) a,I i a->(∀a',I (i+1) a'->P ((i:Int)+1) a'=F (l.drop (i+1)) a')->P i a=F (l[i]::l.drop (i+1)) a):
 ∀a,I 0 a->P 0 a=F l a:=by
 have key:∀(n i:Nat) a,i+n=l.length->I i a->P i a=F (l.drop i) a:=by
  intro n;induction n with
  |zero=>
    intro i a hi ha;have:i=l.length:=by omega
    subst this;rw[stop a ha,zRq]
  |succ n ih=>
    intro i a hi ha;have h:i<l.length:=by omega
    rw[zkq h];refine step i h a ha λa' vN=>?_;have:=ih (i+1) a' (by omega) vN;push_cast at this;exact this
 intro a ha;have:=key l.length 0 a (by omega) ha;simpa using this
def Kt{X:Type}{l:List α}{P:Int->Option X}{f : α->Bool}{y n:X}(stop:P l.length=some y)(step:∀(i:Nat)(h:i<l.length),P i=if f l[i]=true then P ((i:Int)+1)else some n):P 0=some (if l.all f=true then y else n):=by
 have:=B1p (l:=l) (P:=λi (_:Unit)=>P i) (I:=λ_ _=>True) (F:=λl _=>some (if l.all f=true then y else n)) (λ_ _=>by simpa using stop)
  (λi h a _ ih=>by
    rw[step i h];have h2:=ih () trivial;rw[h2];simp only[ypq,z3q]
    by_cases h3:f l[i]=true<;>simp[h3]) () trivial
 exact this
theorem HZ{A X:Type}{l:List α}{P:Int->A->Option X}{g:A -> α->A}{fin:A->Option X}{I:Nat->A->Prop}(stop:∀a,I l.length a->P l.length a=fin a)(step:∀(i:Nat)(h:i<l.length) a,I i a->P i a=P ((i:Int)+1) (g a l[i])/\I (i+1) (g a l[i])):∀a,I 0 a->P 0 a=fin (l.foldl g a):=by refine B1p (F:=λl a=>fin (l.foldl g a)) (λa ha=>by simpa using stop a ha) λi h a ha ih=>?_;obtain⟨h1,h2⟩:=step i h a ha;rw[h1,ih _ h2];rfl
def RU{X:Type}[DecidableEq α]{l m:List α}(hl:l.length=m.length){P:Int->Option X}{y n:X}(stop:P l.length=some y)(step:∀(i:Nat)(h:i<l.length),P i=if l[i]=m[i]'(by omega)then P ((i:Int)+1)else some n):P 0=some (if l=m then y else n):=by
 have key:∀(k i:Nat),i+k=l.length->P i=some (if l.drop i=m.drop i then y else n):=by
  intro k;induction k with
  |zero=>
    intro i hi;have:i=l.length:=by omega
    subst this;rw[stop,zRq,zQq (by omega),D5 rfl]
  |succ k ih=>
    intro i hi;have h:i<l.length:=by omega
    have h':i<m.length:=by omega
    have h2:=ih (i+1) (by omega);push_cast at h2;have e1:l.drop i=l[i]::l.drop (i+1):=zkq h;have e2:m.drop i=m[i]::m.drop (i+1):=zkq h';have e3:(l.drop i=m.drop i)↔(l[i]=m[i]/\l.drop (i+1)=m.drop (i+1)):=by rw[e1,e2,List.cons.injEq]
    rw[step i h,h2];by_cases h3:l[i]=m[i]<;>by_cases h4:l.drop (i+1)=m.drop (i+1)<;>simp only[e3,h3,h4,true_and,and_true,false_and,and_false,H5,F9]
 have:=key l.length 0 (by omega);simpa using this
theorem bV{l:List α}{P:Int->Option DV}{f : α->Bool}(stop:P l.length=some (.bool true))(step:∀(i:Nat)(h:i<l.length),P i=if f l[i]=true then P ((i:Int)+1)else some (.bool false)):P 0=some (.bool (l.all f)):=by rw[Kt stop step];cases l.all f<;>rfl
theorem pR{l:List α}{P:Int->Option DV}{f : α->Bool}(stop:P l.length=some (.bool false))(step:∀(i:Nat)(h:i<l.length),P i=if f l[i]=true then some (.bool true)else P ((i:Int)+1)):P 0=some (.bool (l.any f)):=by have:=Kt (l:=l) (P:=P) (f:=λx=> !f x) (y:=.bool false) (n:=.bool true) stop (λi h=>by rw[step i h];cases f l[i]<;>rfl);rw[this,show l.any f=!l.all (λx=> !f x)by rw[List.all_eq_not_any_not];simp];cases l.all (λx=> !f x)<;>rfl
def WL[DecidableEq α]{l m:List α}(hl:l.length=m.length){P:Int->Option DV}(stop:P l.length=some (.bool true))(step:∀(i:Nat)(h:i<l.length),P i=if l[i]=m[i]'(by omega)then P ((i:Int)+1)else some (.bool false)):P 0=some (.bool (decide (l=m))):=by rw[RU hl stop step];by_cases h:l=m<;>simp[h]
end Go.Su

/-
 FROM A READING TO DATA: what an argument reads as lies in memory as plain data.
-/
namespace Go.Su
set_option linter.defProp false
mutual
def BR{H:Type}:DataW H->Nat
 |.lit (.string bytes)=>bytes.length+1
 |.lit _=>1
 |.nil=>1
 |.ptr d=>BR d+1
 |.slice elems spare=>KR elems+KR spare+1
 |.agg parts=>KR parts+1
 |.iface _ d=>BR d+1
 |.map entries=>UD entries+1
 |.held _=>1
def KR{H:Type}:List (DataW H)->Nat
 |[]=>0
 |d::r=>BR d+KR r
def UD{H:Type}:List (Lit×DataW H)->Nat
 |[]=>0
 |x::r=>A1Z x+UD r
def A1Z{H:Type}:Lit×DataW H->Nat
 | (.string bytes,d)=>bytes.length+BR d+1
 | (_,d)=>BR d+1
end
variable (w:World)
def jJ:AL:=λb _=>b<w.heap.size
section
variable {H:Type}{A9:TypeId×Value->H}{P:Program}{w:World}{held:Bool}
abbrev Rd(A9:TypeId×Value->H)(P:Program)(w:World)(held:Bool):Nat->TypeId->List Value->Option (DataW H×List MemPlace):=DataW.trod A9 P w 0 (λ_=>true) held
def B7p{l:List (DataW H)}{m:List Nat}(h1:m.length=l.length)(h2:∀(i:Nat)(a:Nat)(d:DataW H),m[i]?=some a->l[i]?=some d->a<=BR d):m.sum<=KR l:=by
 induction l generalizing m with
 |nil=>cases m<;>simp_all
 |cons d l ih=>
   cases m with
   |nil=>simp at h1
   |cons a m=>simp only[zfq,KR];have h3:=h2 0 a d rfl rfl;have h4:=ih (m:=m) (by simpa using h1) λi a d ha hd=>h2 (i+1) a d (by simpa using ha) (by simpa using hd);omega
theorem add_block(a:Addr)(k:Nat):(a.add k).block=a.block:=by unfold Addr.add;split<;>rfl
def C3m(a:Addr)(k:Nat):(a.add k).off=a.off+k:=by unfold Addr.add;split<;>simp_all
variable {cs:List Value}
def B4z{a:Addr}{n:Nat}(h:w.cells? 0 a n=some cs)(hn:0<n):a.spot=none/\cs.length=n/\At (jJ w) w.heap a.block a.off cs:=by
 obtain⟨-,hl,hc⟩:=World.cells?_some h;have hs:a.spot=none:=by
  have h0:=hc 0 hn;have:cs[0]?=some (cs[0]'(by omega)):=z1q (by omega);rw[this]at h0;unfold World.cell? at h0;split at h0
  ·split at h0
   ·cases h0
   ·rename_i hsp;simpa[Addr.add]using hsp
  ·cases h0
 refine⟨hs,hl,λj v hv=>?_⟩;have hj:j<n:=by rw[<- hl];exact(z0q.1 hv).1
 have h1:=hc j hj;have e:a.add j=⟨a.block,a.off+j,none⟩:=by
  unfold Addr.add;split
  ·rename_i h0;cases a;simp only at hs;subst hs;simp[h0]
  ·rfl
 rw[e,Vz,hv]at h1;refine⟨h1,?_⟩;unfold Su.hc at h1;split at h1
 ·rename_i hb;exact(z2q.1 hb).1
 ·cases h1
variable {t:TypeId}{fuel:Nat}{x:DataW H×List MemPlace}
def Zc{α : Type}{e : α->DV}{sz : α->Nat}{el:TypeId}(ht:P.underlying t=some (.slice el))(hz:0<P.cellsOf el)(h:∀n cs x,n<fuel->Rd A9 P w held n el cs=some x->∃a : α,RC (jJ w) w.heap (e a) cs/\sz a<=BR x.1)(hr:Rd A9 P w held fuel t cs=some x):
 ∃l:List α,RC (jJ w) w.heap (.list (P.cellsOf el) (l.map e)) cs/\(l.map sz).sum+1<=BR x.1:=by
 rcases DataW.trod_slice ht hr with⟨rfl,rfl⟩ | ⟨a,len,cap,elems,rest,n,rfl,rfl,rfl,hb,hlc,hcm,hel,hi,hsp,-⟩
 ·refine⟨[],?_,by simp[BR]⟩;simp only[RC,zEq];exact⟨none,0,0,rfl,rfl,z8q _,λ_=>rfl,by simp,by simp⟩
 ·have each:∀i:Fin len,∃y : α,((i.1=0->a.spot=none)/\Elem (jJ w) w.heap (P.cellsOf el) a.block (a.off+i.1 * P.cellsOf el) (e y))/\∀d,(elems.map (·.1))[i.1]?=some d->sz y<=BR d:=by intro i;have h1:=hi i.1 i.2;have h2:elems[i.1]?=some (elems[i.1]'(by omega)):=z1q (by omega);rw[h2]at h1;obtain⟨cs',h3,h4⟩:=zwq.1 h1;obtain⟨y,h5,h6⟩:=h n cs' _ (Nat.lt_succ_self n) h4;obtain⟨q1,q2,q3⟩:=B4z h3 hz;rw[add_block,C3m]at q3;refine⟨y,⟨λh0=>by rw[h0]at q1;simpa[Addr.add]using q1,cs',q2,q3,h5⟩,λd hd=>?_⟩;rw[zaq,h2]at hd;simp only[zAq,D9]at hd;rw[<- hd];exact h6
  let f:Fin len -> α := λi=>(each i).choose
  have hf:=λi:Fin len=>(each i).choose_spec;refine⟨List.ofFn f,?_,?_⟩
  ·simp only[RC]
   refine⟨some a,len,cap,rfl,by simp,hlc,by simp,λ_=>hz,λy hy=>?_⟩;simp only[D9]at hy;subst hy;refine⟨λA3y=>?_,?_⟩
   ·by_cases hl:0<len
    ·exact(hf ⟨0,hl⟩).1.1 rfl
    ·obtain⟨r1,r2⟩:=hsp rfl;have h1:=r2 0 (by omega);have h2:rest[0]?=some (rest[0]'(by omega)):=z1q (by omega);rw[h2]at h1;obtain⟨cs',h3,-⟩:=zwq.1 h1;have hl0:len=0:=by omega
     have:=(B4z h3 hz).1;simpa[Addr.add,hl0]using this
   ·rw[FL];intro i d hd;rw[zaq,zjq]at hd;obtain⟨y,hy,rfl⟩:=hd;have P8:i<len:=by have:=(z0q.1 hy).1;simpa using this
    rw[y5q,dif_pos P8]at hy;simp only[D9]at hy;subst hy;exact(hf ⟨i,P8⟩).1.2
  ·simp only[BR]
   have:=B7p (l:=elems.map (·.1)) (m:=(List.ofFn f).map sz) (by simp[hel]) λi b d hb hd=>by
    rw[zaq,zjq]at hb;obtain⟨y,hy,rfl⟩:=hb;have P8:i<len:=by have:=(z0q.1 hy).1;simpa using this
    rw[y5q,dif_pos P8]at hy;simp only[D9]at hy;subst hy;exact(hf ⟨i,P8⟩).2 d hd
   omega
def Z5{S:AL}{h:Heap}:∀{a b:List DV}{p q:List Value},Jb S h a p->Jb S h b q->Jb S h (a++b) (p++q)
 |[],b,p,q,ha,hb=>by simp only[Jb]at ha;subst ha;simpa using hb
 |d::a,b,p,q,ha,hb=>by simp only[Jb]at ha;obtain⟨v,vs',rfl,h1,h2,h3⟩:=ha;simp only[yeq,Jb];exact⟨v,vs'++q,rfl,h1,h2,Z5 h3 hb⟩
def Cm{S:AL}{h:Heap}{d:DV}(hd:M7 d=true)(hr:RC S h d cs):Jb S h [d] cs:=by obtain⟨v,rfl⟩:=NN hd hr;exact⟨v,[],rfl,hd,hr,rfl⟩
def p_{fs:Array Field}(ht:P.underlying t=some (.struct fs))(hr:Rd A9 P w held fuel t cs=some x):
 ∃(n:Nat)(ds:List (DataW H)),fuel=n+1/\BR x.1=KR ds+1/\cs.length=P.cellsOf t/\ds.length=fs.size /\∀(i:Nat) f,fs[i]?=some f->∃y,Rd A9 P w held n f.type ((cs.drop f.offset).take (P.cellsOf f.type))=some y/\ds[i]?=some y.1:=by
 obtain⟨xs,n,rfl,rfl,h1,h2,h3⟩:=DataW.trod_struct ht hr;refine⟨n,xs.map (·.1),rfl,by simp[BR],h1,by simpa using h2,λi f hf=>?_⟩;have hi:i<xs.length:=by rw[h2];exact(z2q.1 hf).1
 refine⟨xs[i],?_,by simp[z1q hi]⟩;have h4:=h3 i f hf;rw[z1q hi]at h4;exact h4
def PQ{k:IntKind}(ht:P.underlying t=some (.int k))(hr:Rd A9 P w held fuel t cs=some x):∃n:Int,RC (jJ w) w.heap (.int k n) cs/\(Lit.int k n).wf=true/\1<=BR x.1:=by obtain⟨n,rfl,rfl,hw⟩:=DataW.trod_int ht hr;exact⟨n,by simp only[RC],hw,by simp[BR]⟩
def C4c(ht:P.underlying t=some .bool)(hr:Rd A9 P w held fuel t cs=some x):∃b:Bool,RC (jJ w) w.heap (.bool b) cs/\1<=BR x.1:=by obtain⟨b,rfl,rfl⟩:=DataW.trod_bool ht hr;exact⟨b,by simp only[RC],by simp[BR]⟩
def A3M(ht:P.underlying t=some .string)(hr:Rd A9 P w held fuel t cs=some x):∃s:ByteArray,RC (jJ w) w.heap (.str s) cs/\s.size+1<=BR x.1:=by obtain⟨s,rfl,rfl,hw⟩:=DataW.trod_string ht hr;exact⟨s,by simp only[RC],by simp[BR]⟩
def B9c(d:DataW H):1<=BR d:=by
 cases d with
 |lit l=>cases l<;>simp[BR]
 |_=>simp[BR]
end
end Go.Su

/-
 FROM A READING TO DATA: the program's types, one by one. By program.
-/
namespace Go.Su
set_option linter.defProp false
variable (P:Program)(t:TypeId)
def SE:Prop:=P.underlying t=some (.int .i64)/\P.cellsOf t=1
def A4f:Prop:=P.underlying t=some .string/\P.cellsOf t=1
def B8Y:Prop:=P.underlying t=some .bool/\P.cellsOf t=1
def SliceAt(el:TypeId):Prop:=P.underlying t=some (.slice el)/\P.cellsOf t=1
def A79:Prop:=∃f0 f1:Field,P.underlying t=some (.struct #[f0,f1])/\P.cellsOf t=2/\(SE P f0.type/\f0.offset=0)/\(SE P f1.type/\f1.offset=1)
def B29:Prop:=∃el,SliceAt P t el/\SE P el
section
variable {H:Type}{A9:TypeId×Value->H}{P:Program}{w:World}{held:Bool}{t:TypeId}{fuel:Nat}{cs:List Value}{x:DataW H×List MemPlace}
def C4d(A:B29 P t)(hr:Rd A9 P w held fuel t cs=some x):∃l:List Int,RC (jJ w) w.heap (K6 l) cs/\l.length+1<=BR x.1:=by
 obtain⟨el,A1,A2⟩:=A;obtain⟨l,h1,h2⟩:=Zc (e:=λn:Int=>.int .i64 n) (sz:=λ_=>1) A1.1 (by rw[A2.2];omega) (λn cs x _ h=>by obtain⟨n,h1,-,h2⟩:=PQ A2.1 h;exact⟨n,h1,h2⟩) hr;rw[A2.2]at h1;have h3:∀l:List Int,(l.map λ_=>1).sum=l.length:=by
  intro l;induction l with
  |nil=>rfl
  |cons a l ih=>simp only[z9q,zfq,ih,zcq];omega
 rw[h3]at h2;exact⟨l,h1,h2⟩
def B63(A:A79 P t)(hr:Rd A9 P w held fuel t cs=some x):∃a b:Int,Jb (jJ w) w.heap [.int .i64 a,.int .i64 b] cs/\1<=BR x.1:=by
 obtain⟨f0,f1,hu,hc,⟨t0,o0⟩,t1,o1⟩:=A;obtain⟨n,ds,rfl,hb,hl,hd,hf⟩:=p_ hu hr;obtain⟨y0,r0,d0⟩:=hf 0 f0 rfl;obtain⟨y1,r1,d1⟩:=hf 1 f1 rfl;rw[o0,t0.2]at r0;rw[o1,t1.2]at r1;rw[hc]at hl;obtain⟨k,q0,-,b0⟩:=PQ t0.1 r0;obtain⟨m,q1,-,b1⟩:=PQ t1.1 r1;refine⟨k,m,?_,B9c _⟩;have e:cs=(cs.drop 0).take 1++(cs.drop 1).take 1:=by
  match cs,hl with
  |[a,b],_=>rfl
 rw[e];exact Z5 (a:=[_]) (Cm rfl q0) (Cm rfl q1)
def A6O(P:Program)(t:TypeId):Prop:=∃f0 f1 f2:Field,P.underlying t=some (.struct #[f0,f1,f2])/\P.cellsOf t=3/\(SE P f0.type/\f0.offset=0)/\(SE P f1.type/\f1.offset=1)/\(SliceAt P f2.type t/\f2.offset=2)
def A6O.cells(A:A6O P t):P.cellsOf t=3:=by obtain⟨_,_,_,_,h,_⟩:=A;exact h
def B8r(A:A6O P t):∀(fuel:Nat)(cs:List Value)(x:DataW H×List MemPlace),Rd A9 P w held fuel t cs=some x->∃a:Ty,RC (jJ w) w.heap a.A9 cs/\a.size<=BR x.1:=by
 intro fuel;induction fuel using Nat.strongRecOn with
 |ind fuel ih=>
   intro cs x hr;have A0:=A;obtain⟨f0,f1,f2,hu,hc,⟨t0,o0⟩,⟨t1,o1⟩,t2,o2⟩:=A;obtain⟨n,ds,rfl,hb,hl,hd,hf⟩:=p_ hu hr;rw[hc]at hl;obtain⟨y0,r0,d0⟩:=hf 0 f0 rfl;rw[o0,t0.2]at r0;obtain⟨v0,q0,-,b0⟩:=PQ t0.1 r0;obtain⟨y1,r1,d1⟩:=hf 1 f1 rfl;rw[o1,t1.2]at r1;obtain⟨v1,q1,-,b1⟩:=PQ t1.1 r1;obtain⟨y2,r2,d2⟩:=hf 2 f2 rfl;rw[o2,t2.2]at r2;obtain⟨v2,q2,b2⟩:=Zc (sz:=Ty.size) t2.1 (by rw[hc];omega) (λn' cs x hn h=>ih n' (by omega) cs x h) r2;rw[hc]at q2;refine⟨.mk v0 v1 v2,?_,?_⟩
   ·rw[Ty.K9];simp only[RC,Ty.Cn,Ty.Vn,Ty.U6];have e:cs=(cs.drop 0).take 1++((cs.drop 1).take 1++((cs.drop 2).take 1)):=by
     match cs,hl with
     |[c0,c1,c2],_=>rfl
    rw[e];exact(Z5 (a:=[_]) (Cm rfl q0) (Z5 (a:=[_]) (Cm rfl q1) (Cm rfl q2)))
   ·rw[Ty.size_eq,hb];simp only[Ty.Cn,Ty.Vn,Ty.U6];have hs:ds=[y0.1,y1.1,y2.1]:=by
     have hd:ds.length=3:=hd
     match ds,hd,d0,d1,d2 with
     |[a0,a1,a2],_,d0,d1,d2=>simp_all
    rw[hs];simp only[KR];omega
def A78(P:Program)(t:TypeId):Prop:=∃f0 f1 f2 f3 f4 f5:Field,P.underlying t=some (.struct #[f0,f1,f2,f3,f4,f5])/\P.cellsOf t=7/\(SE P f0.type/\f0.offset=0)/\(A79 P f1.type/\f1.offset=1)/\(A4f P f2.type/\f2.offset=3)/\(SE P f3.type/\f3.offset=4)/\(A4f P f4.type/\f4.offset=5)/\(SliceAt P f5.type t/\f5.offset=6)
def A78.cells(A:A78 P t):P.cellsOf t=7:=by obtain⟨_,_,_,_,_,_,_,h,_⟩:=A;exact h
def C6v(A:A78 P t):∀(fuel:Nat)(cs:List Value)(x:DataW H×List MemPlace),Rd A9 P w held fuel t cs=some x->∃a:E8,RC (jJ w) w.heap a.A9 cs/\a.Q3<=BR x.1:=by
 intro fuel;induction fuel using Nat.strongRecOn with
 |ind fuel ih=>
   intro cs x hr;have A0:=A;obtain⟨f0,f1,f2,f3,f4,f5,hu,hc,⟨t0,o0⟩,⟨t1,o1⟩,⟨t2,o2⟩,⟨t3,o3⟩,⟨t4,o4⟩,t5,o5⟩:=A;obtain⟨n,ds,rfl,hb,hl,hd,hf⟩:=p_ hu hr;rw[hc]at hl;obtain⟨y0,r0,d0⟩:=hf 0 f0 rfl;rw[o0,t0.2]at r0;obtain⟨v0,q0,-,b0⟩:=PQ t0.1 r0;obtain⟨y1,r1,d1⟩:=hf 1 f1 rfl;obtain⟨g10,g11,gu1,gc1,gr1⟩:=id t1;rw[o1,gc1]at r1;obtain⟨v1,v1b,q1,b1⟩:=B63 t1 r1;obtain⟨y2,r2,d2⟩:=hf 2 f2 rfl;rw[o2,t2.2]at r2;obtain⟨v2,q2,b2⟩:=A3M t2.1 r2;obtain⟨y3,r3,d3⟩:=hf 3 f3 rfl;rw[o3,t3.2]at r3;obtain⟨v3,q3,-,b3⟩:=PQ t3.1 r3;obtain⟨y4,r4,d4⟩:=hf 4 f4 rfl;rw[o4,t4.2]at r4;obtain⟨v4,q4,b4⟩:=A3M t4.1 r4;obtain⟨y5,r5,d5⟩:=hf 5 f5 rfl;rw[o5,t5.2]at r5;obtain⟨v5,q5,b5⟩:=Zc (sz:=E8.Q3) t5.1 (by rw[hc];omega) (λn' cs x hn h=>ih n' (by omega) cs x h) r5;rw[hc]at q5;refine⟨.mk v0 v1 v1b v2 v3 v4 v5,?_,?_⟩
   ·rw[E8.K9];simp only[RC,E8.Cn,E8.aP,E8.aN,E8.DU,E8.Vn,E8.Oj,E8.U6];have e:cs=(cs.drop 0).take 1++((cs.drop 1).take 2++((cs.drop 3).take 1++((cs.drop 4).take 1++((cs.drop 5).take 1++((cs.drop 6).take 1))))):=by
     match cs,hl with
     |[c0,c1,c2,c3,c4,c5,c6],_=>rfl
    rw[e];exact(Z5 (a:=[_]) (Cm rfl q0) (Z5 (a:=[_,_]) (q1) (Z5 (a:=[_]) (Cm rfl q2) (Z5 (a:=[_]) (Cm rfl q3) (Z5 (a:=[_]) (Cm rfl q4) (Cm rfl q5))))))
   ·rw[E8.BQ,hb];simp only[E8.Cn,E8.aP,E8.aN,E8.DU,E8.Vn,E8.Oj,E8.U6];have hs:ds=[y0.1,y1.1,y2.1,y3.1,y4.1,y5.1]:=by
     have hd:ds.length=6:=hd
     match ds,hd,d0,d1,d2,d3,d4,d5 with
     |[a0,a1,a2,a3,a4,a5],_,d0,d1,d2,d3,d4,d5=>simp_all
    rw[hs];simp only[KR];omega
def C48(P:Program)(t:TypeId):Prop:=∃f0 f1 f2 f3 f4 f5 f6 f7 f8 f9 f10 f11 f12 f13 f14:Field,P.underlying t=some (.struct #[f0,f1,f2,f3,f4,f5,f6,f7,f8,f9,f10,f11,f12,f13,f14])/\P.cellsOf t=20/\(SE P f0.type/\f0.offset=0)/\(A79 P f1.type/\f1.offset=1)/\(A4f P f2.type/\f2.offset=3)/\(A4f P f3.type/\f3.offset=4)/\(SE P f4.type/\f4.offset=5)/\(A4f P f5.type/\f5.offset=6)/\(SE P f6.type/\f6.offset=7)/\(SE P f7.type/\f7.offset=8)/\(B8Y P f8.type/\f8.offset=9)/\(B29 P f9.type/\f9.offset=10)/\(A6O P f10.type/\f10.offset=11)/\(A6O P f11.type/\f11.offset=14)/\((∃el,SliceAt P f12.type el/\A6O P el)/\f12.offset=17)/\((∃el,SliceAt P f13.type el/\A78 P el)/\f13.offset=18)/\(SliceAt P f14.type t/\f14.offset=19)
def C7K(A:C48 P t):∀(fuel:Nat)(cs:List Value)(x:DataW H×List MemPlace),Rd A9 P w held fuel t cs=some x->∃a:Tm,RC (jJ w) w.heap a.A9 cs/\a.Q3<=BR x.1:=by
 intro fuel;induction fuel using Nat.strongRecOn with
 |ind fuel ih=>
   intro cs x hr;have A0:=A;obtain⟨f0,f1,f2,f3,f4,f5,f6,f7,f8,f9,f10,f11,f12,f13,f14,hu,hc,⟨t0,o0⟩,⟨t1,o1⟩,⟨t2,o2⟩,⟨t3,o3⟩,⟨t4,o4⟩,⟨t5,o5⟩,⟨t6,o6⟩,⟨t7,o7⟩,⟨t8,o8⟩,⟨t9,o9⟩,⟨t10,o10⟩,⟨t11,o11⟩,⟨t12,o12⟩,⟨t13,o13⟩,t14,o14⟩:=A;obtain⟨n,ds,rfl,hb,hl,hd,hf⟩:=p_ hu hr;rw[hc]at hl;obtain⟨y0,r0,d0⟩:=hf 0 f0 rfl;rw[o0,t0.2]at r0;obtain⟨v0,q0,-,b0⟩:=PQ t0.1 r0;obtain⟨y1,r1,d1⟩:=hf 1 f1 rfl;obtain⟨g10,g11,gu1,gc1,gr1⟩:=id t1;rw[o1,gc1]at r1;obtain⟨v1,v1b,q1,b1⟩:=B63 t1 r1;obtain⟨y2,r2,d2⟩:=hf 2 f2 rfl;rw[o2,t2.2]at r2;obtain⟨v2,q2,b2⟩:=A3M t2.1 r2;obtain⟨y3,r3,d3⟩:=hf 3 f3 rfl;rw[o3,t3.2]at r3;obtain⟨v3,q3,b3⟩:=A3M t3.1 r3;obtain⟨y4,r4,d4⟩:=hf 4 f4 rfl;rw[o4,t4.2]at r4;obtain⟨v4,q4,-,b4⟩:=PQ t4.1 r4;obtain⟨y5,r5,d5⟩:=hf 5 f5 rfl;rw[o5,t5.2]at r5;obtain⟨v5,q5,b5⟩:=A3M t5.1 r5;obtain⟨y6,r6,d6⟩:=hf 6 f6 rfl;rw[o6,t6.2]at r6;obtain⟨v6,q6,-,b6⟩:=PQ t6.1 r6;obtain⟨y7,r7,d7⟩:=hf 7 f7 rfl;rw[o7,t7.2]at r7;obtain⟨v7,q7,-,b7⟩:=PQ t7.1 r7;obtain⟨y8,r8,d8⟩:=hf 8 f8 rfl;rw[o8,t8.2]at r8;obtain⟨v8,q8,b8⟩:=C4c t8.1 r8;obtain⟨y9,r9,d9⟩:=hf 9 f9 rfl;obtain⟨e9,s9,z9⟩:=id t9;rw[o9,s9.2]at r9;obtain⟨v9,q9,b9⟩:=C4d t9 r9;obtain⟨y10,r10,d10⟩:=hf 10 f10 rfl;rw[o10,t10.cells]at r10;obtain⟨v10,JO,b10⟩:=B8r t10 _ _ _ r10;rw[Ty.K9]at JO;simp only[RC]at JO;obtain⟨y11,r11,d11⟩:=hf 11 f11 rfl;rw[o11,t11.cells]at r11;obtain⟨v11,q11,b11⟩:=B8r t11 _ _ _ r11;rw[Ty.K9]at q11;simp only[RC]at q11;obtain⟨y12,r12,d12⟩:=hf 12 f12 rfl;obtain⟨e12,s12,z12⟩:=t12;rw[o12,s12.2]at r12;obtain⟨v12,q12,b12⟩:=Zc (sz:=Ty.size) s12.1 (by rw[z12.cells];omega) (λn' cs x hn h=>B8r z12 n' cs x h) r12;rw[z12.cells]at q12;obtain⟨y13,r13,d13⟩:=hf 13 f13 rfl;obtain⟨e13,s13,z13⟩:=t13;rw[o13,s13.2]at r13;obtain⟨v13,q13,b13⟩:=Zc (sz:=E8.Q3) s13.1 (by rw[z13.cells];omega) (λn' cs x hn h=>C6v z13 n' cs x h) r13;rw[z13.cells]at q13;obtain⟨y14,r14,d14⟩:=hf 14 f14 rfl;rw[o14,t14.2]at r14;obtain⟨v14,q14,b14⟩:=Zc (sz:=Tm.Q3) t14.1 (by rw[hc];omega) (λn' cs x hn h=>ih n' (by omega) cs x h) r14;rw[hc]at q14;refine⟨.mk v0 v1 v1b v2 v3 v4 v5 v6 v7 v8 v9 v10 v11 v12 v13 v14,?_,?_⟩
   ·rw[Tm.K9];simp only[RC,Tm.Cn,Tm.aP,Tm.aN,Tm.DU,Tm.Jc,Tm.Vn,Tm.Oj,Tm.yB,Tm.Vk,Tm.mJ,Tm.JR,Tm.jV,Tm.jY,Tm.Pg,Tm.Gu,Tm.U6];have e:cs=(cs.drop 0).take 1++((cs.drop 1).take 2++((cs.drop 3).take 1++((cs.drop 4).take 1++((cs.drop 5).take 1++((cs.drop 6).take 1++((cs.drop 7).take 1++((cs.drop 8).take 1++((cs.drop 9).take 1++((cs.drop 10).take 1++((cs.drop 11).take 3++((cs.drop 14).take 3++((cs.drop 17).take 1++((cs.drop 18).take 1++((cs.drop 19).take 1)))))))))))))):=by
     match cs,hl with
     |[c0,c1,c2,c3,c4,c5,c6,c7,c8,c9,c10,c11,c12,c13,c14,c15,c16,c17,c18,c19],_=>rfl
    rw[e];exact(Z5 (a:=[_]) (Cm rfl q0) (Z5 (a:=[_,_]) (q1) (Z5 (a:=[_]) (Cm rfl q2) (Z5 (a:=[_]) (Cm rfl q3) (Z5 (a:=[_]) (Cm rfl q4) (Z5 (a:=[_]) (Cm rfl q5) (Z5 (a:=[_]) (Cm rfl q6) (Z5 (a:=[_]) (Cm rfl q7) (Z5 (a:=[_]) (Cm rfl q8) (Z5 (a:=[_]) (Cm rfl q9) (Z5 (a:=[_,_,_]) (JO) (Z5 (a:=[_,_,_]) (q11) (Z5 (a:=[_]) (Cm rfl q12) (Z5 (a:=[_]) (Cm rfl q13) (Cm rfl q14)))))))))))))))
   ·rw[Tm.BQ,hb];simp only[Tm.Cn,Tm.aP,Tm.aN,Tm.DU,Tm.Jc,Tm.Vn,Tm.Oj,Tm.yB,Tm.Vk,Tm.mJ,Tm.JR,Tm.jV,Tm.jY,Tm.Pg,Tm.Gu,Tm.U6];have hs:ds=[y0.1,y1.1,y2.1,y3.1,y4.1,y5.1,y6.1,y7.1,y8.1,y9.1,y10.1,y11.1,y12.1,y13.1,y14.1]:=by
     have hd:ds.length=15:=hd
     match ds,hd,d0,d1,d2,d3,d4,d5,d6,d7,d8,d9,d10,d11,d12,d13,d14 with
     |[a0,a1,a2,a3,a4,a5,a6,a7,a8,a9,a10,a11,a12,a13,a14],_,d0,d1,d2,d3,d4,d5,d6,d7,d8,d9,d10,d11,d12,d13,d14=>simp_all
    rw[hs];simp only[KR];omega
end
end Go.Su

/-
 TYPES: what is said of them.
-/
namespace Go.Su
set_option linter.defProp false
def X3(k:Int):Int :=if k=1\/k=2\/k=3\/k=4\/k=5\/k=6 then 0 else if k=8 then 1 else if k=7\/k=9 then 2 else -1
def Ty.right:Ty->Bool
 |.mk k n ks=>decide (X3 k=ks.length)&&decide (0<=n)&&decide (n<=1048576)&&(decide (k=6)||decide (n=0))&&(ks.map Ty.right).all id
variable (t:Ty)
theorem Ty.right_eq:t.right=(decide (X3 t.A8=t.D6.length)&&decide (0<=t.n)&&decide (t.n<=1048576)&&(decide (t.A8=6)||decide (t.n=0))&&t.D6.all Ty.right):=by cases t;rw[Ty.right];simp[zHq];rfl
def Ty.BC(q:Int):Ty->Bool
 |.mk k _ ks=> !decide (k=q)&&(ks.map (Ty.BC q)).all id
theorem Ty.Ot(q:Int)(t:Ty):t.BC q=(!decide (t.A8=q)&&t.D6.all (Ty.BC q)):=by cases t;rw[Ty.BC];simp[zHq];rfl
def Ty.deep:Ty->Int->Bool
 |.mk _ _ ks,n=>decide (n<=0)||(ks.map λk=>Ty.deep k (n-1)).any id
def Ty.Cj:Ty->List Int->List Int
 |.mk k n ks,l=>ks.foldl (λl k=>Ty.Cj k l) (if k=6/\n∉l then l++[n]else l)
def Ty.vars:List Int:=t.Cj []
theorem Ty.cK(l:List Int):t.Cj l=t.D6.foldl (λl k=>k.Cj l) (if t.A8=6/\t.n∉l then l++[t.n]else l):=by cases t;rw[Ty.Cj];rfl
def Ty.C3v(n:Int):t.deep n=(decide (n<=0)||t.D6.any λk=>k.deep (n-1)):=by cases t;rw[Ty.deep];simp[List.any_map]
def Ty.B8U:∀l:List Int,(t.Cj l).length<=l.length+t.size:=by
 induction t using Ty.ind with
 |h t ih=>
   intro l;rw[Ty.cK];have key:∀(ks:List Ty),(∀k∈ks,∀l:List Int,(k.Cj l).length<=l.length+k.size)->∀l:List Int,(ks.foldl (λl k=>k.Cj l) l).length<=l.length+(ks.map Ty.size).sum:=by
    intro ks;induction ks with
    |nil=>intro _ l;simp
    |cons k ks ihk=>intro h l;simp only[zJq,z9q,zfq];have h1:=ihk (λk' CR=>h k' (z4q _ CR)) (k.Cj l);have h2:=h k (z5q ..) l;omega
   have h1:=key t.D6 ih (if t.A8=6/\t.n∉l then l++[t.n]else l);rw[Ty.size_eq];have h2:(if t.A8=6/\t.n∉l then l++[t.n]else l).length<=l.length+1:=by split<;>simp
   omega
def Ty.thin:Ty->Bool
 |.mk _ _ ks=>decide (ks.length<=J9)&&(ks.map Ty.thin).all id
theorem Ty.Ns:t.thin=(decide (t.D6.length<=J9)&&t.D6.all Ty.thin):=by cases t;rw[Ty.thin];simp[zHq];rfl
def Ty.Cx(h:t.thin=true):t.D6.length<4294967297:=by rw[Ty.Ns]at h;simp only[z3q,F5]at h;have:=h.1;unfold J9 at this;omega
def Ty.Fa{t k:Ty}(h:t.thin=true)(hk:k∈t.D6):k.thin=true:=by rw[Ty.Ns]at h;simp only[z3q,z7q]at h;exact h.2 k hk
def Ty.FE{t:Ty}:t.size<=J9->t.thin=true:=by
 induction t using Ty.ind with
 |h t ih=>intro h;rw[Ty.Ns];simp only[z3q,F5,z7q];refine⟨by have:=t.vU;omega,λk hk=>ih k hk (by have:=Ty.Ec hk;omega)⟩
def A6R(k:Int):X3 k<=2:=by unfold X3;split<;>(try split)<;>(try split)<;>omega
def Ty.R5{t:Ty}:t.right=true->t.thin=true:=by
 induction t using Ty.ind with
 |h t ih=>intro h;rw[Ty.right_eq]at h;simp only[z3q,F5,z7q]at h;rw[Ty.Ns];simp only[z3q,F5,z7q];have:=A6R t.A8;refine⟨by unfold J9;omega,λk hk=>ih k hk (h.2 k hk)⟩
def Ty.CL:Ty->Nat
 |.mk k _ ks=>(if k=6 then 1 else 0)+(ks.map Ty.CL).sum
theorem Ty.cO:t.CL=(if t.A8=6 then 1 else 0)+(t.D6.map Ty.CL).sum:=by cases t;rw[Ty.CL];rfl
def yf{α : Type}{l:List α}{f g : α->Nat}(h:∀a∈l,f a<=g a):(l.map f).sum<=(l.map g).sum:=by
 induction l with
 |nil=>simp
 |cons a l ih=>simp only[z9q,zfq];have:=h a (z5q ..);have:=ih λb hb=>h b (z4q _ hb);omega
def Ty.aW:t.CL<=t.size:=by
 induction t using Ty.ind with
 |h t ih=>rw[Ty.cO,Ty.size_eq];have:=yf ih;split<;>omega
def Ty.A6M:∀l:List Int,(t.Cj l).length<=l.length+t.CL:=by
 induction t using Ty.ind with
 |h t ih=>
   intro l;rw[Ty.cK];have key:∀(ks:List Ty),(∀k∈ks,∀l:List Int,(k.Cj l).length<=l.length+k.CL)->∀l:List Int,(ks.foldl (λl k=>k.Cj l) l).length<=l.length+(ks.map Ty.CL).sum:=by
    intro ks;induction ks with
    |nil=>intro _ l;simp
    |cons k ks ihk=>intro h l;simp only[zJq,z9q,zfq];have h1:=ihk (λk' CR=>h k' (z4q _ CR)) (k.Cj l);have h2:=h k (z5q ..) l;omega
   have h1:=key t.D6 ih (if t.A8=6/\t.n∉l then l++[t.n]else l);rw[Ty.cO];have h2:(if t.A8=6/\t.n∉l then l++[t.n]else l).length<=l.length+(if t.A8=6 then 1 else 0):=by
    by_cases h6:t.A8=6
    ·by_cases hn:t.n∈l<;>simp[h6,hn]
    ·simp[h6]
   omega
end Go.Su

/-
 THE DATA MACHINE: iterators over trees: which elements come.
-/
namespace Go.Su
set_option linter.defProp false
def Mw(f:DV->Option (List DV)):List DV->Option (List DV)
 |[]=>some []
 |d::ds=>ob (f d) λa=>ob (Mw f ds) λb=>some (a++b)
def CY(sz kf:Nat):Nat->DV->Option (List DV)
 |0,_=>none
 |n+1,d=>
   match d with
   |.agg cs=>og (cs.length==sz) (match cs.getD kf .undef with
     |.list s ds=>og (s==sz&&decide (ds.length<=J9)) (ob (Mw (CY sz kf n) ds) λl=>some (.agg cs::l))
     |_=>none)
   |_=>none
open Classical in
noncomputable def VH(sz kf:Nat)(cs:List DV):Option (List DV) :=if h:∃ds n,CY sz kf n (.agg cs)=some ds then some h.choose else none
def g_{f g:DV->Option (List DV)}(h:∀d l,f d=some l->g d=some l):∀{ds l:List DV},Mw f ds=some l->Mw g ds=some l
 |[],l,H=>H
 |d::ds,l,H=>by simp only[Mw]at H ⊢;obtain⟨a,h1,H⟩:=D8 H;obtain⟨b,h2,H⟩:=D8 H;rw[h _ _ h1,g_ h h2];exact H
def B3S{sz kf:Nat}:∀{n:Nat}{d:DV}{l:List DV},CY sz kf n d=some l->CY sz kf (n+1) d=some l
 |0,d,l,H=>by simp[CY]at H
 |n+1,d,l,H=>by
   cases d with
   |agg cs=>
     rw[CY]at H ⊢;obtain⟨h1,H⟩:=I9 H;rw[h1];cases hk:cs.getD kf .undef with
     |list s ds=>rw[hk]at H;simp only at H ⊢;obtain⟨h2,H⟩:=I9 H;rw[h2];obtain⟨a,h3,H⟩:=D8 H;rw[g_ (λd l h=>B3S h) h3];exact H
     |_=>rw[hk]at H;simp at H
   |_=>simp[CY]at H
variable {n:Nat}{d:DV}{l:List DV}
def ZR{sz kf m:Nat}(h:n<=m)(H:CY sz kf n d=some l):CY sz kf m d=some l:=by
 induction m with
 |zero=>rw[zOq.1 h]at H;exact H
 |succ m ih=>
   rcases zrq m n with h1 | h1
   ·rw[show m+1=n by omega];exact H
   ·exact B3S (ih h1)
def A60{sz kf:Nat}{cs ds:List DV}(H:CY sz kf n (.agg cs)=some ds):VH sz kf cs=some ds:=by have h:∃ds n,CY sz kf n (.agg cs)=some ds:=⟨ds,n,H⟩;unfold VH;rw[dif_pos h];obtain⟨m,hm⟩:=h.choose_spec;have h1:=ZR (zsq n m) H;have h2:=ZR (ztq m n) hm;rw[h1]at h2;exact h2.symm
def xZ{sz kf:Nat}{cs ds:List DV}(H:VH sz kf cs=some ds):∃n,CY sz kf n (.agg cs)=some ds:=by
 unfold VH at H;split at H
 ·rename_i h;simp only[D9]at H;rw[<- H];exact h.choose_spec
 ·cases H
structure aa(E:Env)(W:World)(E':Env)(W':World):Prop where
 size:W.heap.size<=W'.heap.size
 blk:∀b,b<W.heap.size->(∀o,E.O b o=.other)->W'.heap[b]?=W.heap[b]?/\∀o,E'.O b o=.other
 sh:AZ E.S W.heap E'.S W'.heap
variable {E:Env}{W:World}
def aa.trans{E1 E2:Env}{W1 W2:World}(h:aa E W E1 W1)(k:aa E1 W1 E2 W2):aa E W E2 W2:=by refine⟨zTq h.size k.size,λb hb ho=>?_,⟨λb o hs=>k.sh.s b o (h.sh.s b o hs),λb o v hs hv=>k.sh.c b o v (h.sh.s b o hs) (h.sh.c b o v hs hv)⟩⟩;obtain⟨h1,h2⟩:=h.blk b hb ho;obtain⟨h3,h4⟩:=k.blk b (y0q hb h.size) h2;exact⟨h3.trans h1,h4⟩
def aa.C7C{E':Env}{W':World}(P:Pr Q4 E W.heap E' W'.heap)(hf:∀b o,W.heap.size<=b->E.O b o=.other):aa E W E' W':=by
 refine⟨P.size,λb hb ho=>⟨?_,λo=>P.ZY hb (ho o)⟩,P.U0 (by simp[Q4]) hf⟩;have hk:=P.blk b hb;have HV:W.heap[b]?=some W.heap[b]:=zpq hb;rw[HV]at hk ⊢;unfold Y4 at hk;split at hk
 ·rename_i hx;cases hx
 ·rename_i c T f hx;simp only[D9]at hx;obtain⟨c',h1,h2,h3⟩:=hk;rw[h1,hx];congr 2;refine y9q λo=>h3 o ?_;rw[ho o];simp[Q4]
 ·rename_i ob _ hx;simp only[D9]at hx;rw[hx];exact hk (by rw[ho 0];simp[Q4])
def Wn.alloc(o:Obj):Wn n E W (W.alloc o):=by refine⟨by simp,λb hb=>.inl ?_,⟨rfl,rfl,rfl⟩⟩;exact Go.RowKit.Below.heap_alloc _ _ _ hb
def aa.alloc(o:Obj)(hf:∀b o,W.heap.size<=b->E.O b o=.other):aa E W E (W.alloc o):=by
 refine⟨by simp,λb hb ho=>⟨Go.RowKit.Below.heap_alloc _ _ _ hb,ho⟩,λ_ _ h=>h,λb o' v hs hv=>?_⟩;have hb:b<W.heap.size:=by
  rcases zrq b W.heap.size with h | h
  ·exact h
  ·have h9:=hf b o' h;rw[show E.O b o'=.U0 from hs]at h9;cases h9
 unfold hc at hv ⊢;rw[show(W.alloc o).heap[b]?=W.heap[b]? from Go.RowKit.Below.heap_alloc _ _ _ hb];exact hv
def aa.same{W':World}(hs:W.heap.size<=W'.heap.size)(h:∀b,b<W.heap.size->W'.heap[b]?=W.heap[b]?)(hf:∀b o,W.heap.size<=b->E.O b o=.other):aa E W E W':=by
 refine⟨hs,λb hb ho=>⟨h b hb,ho⟩,λ_ _ h=>h,λb o' v hv hc0=>?_⟩;have hb:b<W.heap.size:=by
  rcases zrq b W.heap.size with h | h
  ·exact h
  ·have h9:=hf b o' h;rw[show E.O b o'=.U0 from hv]at h9;cases h9
 unfold hc at hc0 ⊢;rw[h b hb];exact hc0
def Wn.same{W':World}(hs:W.heap.size<=W'.heap.size)(h:∀b,b<W.heap.size->W'.heap[b]?=W.heap[b]?)(ho:W9 W W'):Wn n E W W' :=⟨hs,λb hb=>.inl (h b hb),ho⟩
def flat_agg{sz kf:Nat}{S:AL}{h:Heap}{us:List Value}(H:CY sz kf n d=some l)(R:RC S h d us):RV S h d (.agg us.toArray):=by
 cases n with
 |zero=>simp[CY]at H
 |succ n=>
   cases d with
   |agg cs=>simp only[RC]at R;simp only[RV];exact⟨_,rfl,R⟩
   |_=>simp[CY]at H
def C3C{ds ks pre sa sb:List DV}{k:Nat}(Qa:∀(j:Nat) x,(d::ks)[j]?=some x->ds[k+j]?=some x)(hk:ks=pre++(sa++sb))(j:Nat)(x:DV)(hj:sa[j]?=some x):ds[k+1+pre.length+j]?=some x:=by
 have hjl:=(z0q.1 hj).1;have:=Qa (pre.length+j+1) x (by rw[zbq,hk,zxq (by omega),zNq,zlq hjl];exact hj)
 rw[<- this];congr 1;omega
def Ro{P:Program}{b j:Nat}{c:Array Value}{T:TypeId}{u:Value}(hb:W.heap[b]?=some (.cells c T (0,0)))(hj:j<c.size)(hu:u.oneCell'=true):
 ∃W',(store ⟨b,j,none⟩ u).run P W=.ok () W'/\W'.heap[b]?=some (.cells (c.setIfInBounds j u) T (0,0))/\(∀b',b'≠b->W'.heap[b']?=W.heap[b']?)/\W'.heap.size=W.heap.size/\W9 W W':=by
 refine⟨W.setCell ⟨b,j,none⟩ u,?_,?_,λb' HV=>?_,by simp[World.setCell],⟨rfl,rfl,rfl⟩⟩
 ·rw[run_store _ _ _ _ _ hu];simp[World.cell?,World.frozen?,hb,hj]
 ·simp[World.setCell,zXq,hb]
 ·simp[World.setCell,zXq,Ne.symm HV]
end Go.Su

/-
 NAMES and PATTERNS: what is said of them.
-/
namespace Go.Su
set_option linter.defProp false
variable (s:ByteArray)
def CG:List Int:=s.data.toList.map λb=>(b.toNat:Int)
def Ph:(CG s).length=s.size:=by simp[CG]
variable {k:IntKind}
def jq{s:ByteArray}{i:Nat}(h:i<(CG s).length):Af (.str s) (.int k (i:Int))=some (.int .u8 (CG s)[i]):=by
 have h':i<s.data.size:=by simpa[CG]using h
 have e:s.data[i]?=some s.data[i]:=zpq h';simp only[Af,Int.natCast_nonneg,H5,Int.toNat_natCast,e,zAq,CG,ygq,zZq]
variable (c:Int)
def Hw:Bool:=decide (97<=c)&&decide (c<=122)
def A19:Bool:=decide (48<=c)&&decide (c<=57)
def Sy:Bool:=Hw c||A19 c||(decide (65<=c)&&decide (c<=90))||decide (c=95)||decide (c=39)
def B0f:List (List UInt8):=[[108,101,116],[114,101,99],[105,110],[102,117,110],[105,102],[116,104,101,110],[101,108,115,101],[109,97,116,99,104],[119,105,116,104],[101,110,100],[116,114,117,101],[102,97,108,115,101],[105,110,116],[98,111,111,108],[115,116,114,105,110,103],[117,110,105,116],[108,105,115,116]]
def A66:Bool:=decide (s.data.toList∈B0f)
def Dt:Bool :=decide (1<=s.size)&&decide (s.size<=32)&&Hw ((CG s).getD 0 0)&&(CG s).all Sy&&!A66 s
def EJ:List UInt8:=[32,108,101,116,32,114,101,99,32,105,110,32,102,117,110,32,105,102,32,116,104,101,110,32,101,108,115,101,32,109,97,116,99,104,32,119,105,116,104,32,101,110,100,32,116,114,117,101,32,102,97,108,115,101,32,105,110,116,32,98,111,111,108,32,115,116,114,105,110,103,32,117,110,105,116,32,108,105,115,116,32]
def A69(c:UInt8):Bool:=decide (97<=c)&&decide (c<=122)
def B8W:(List.range 81).all (λj=>(List.range 80).all λn=>
 !(decide (j+n+2<=81)&&((EJ.drop j).take 1==[32])&&((EJ.drop (j+n+1)).take 1==[32])&&((EJ.drop (j+1)).take n).all A69&&decide (0<n))||decide ((EJ.drop (j+1)).take n∈B0f))=true:=by
 decide +kernel
def B9V:B0f.all (λx=>decide (0<x.length)&&x.all A69&&(List.range 81).any λj=>decide (j+(x.length+2)<=81)&&(EJ.drop j).take (x.length+2)==32::x++[32])=true:=by decide +kernel
theorem C0V:EJ.length=81:=rfl
def C0U(x:List UInt8):(x.all A69=true/\0<x.length/\∃j:Nat,j+(x.length+2)<=81/\(EJ.drop j).take (x.length+2)=32::x++[32])↔x∈B0f:=by
 constructor
 ·rintro⟨h1,h2,j,h3,h4⟩;have h5:=z7q.1 (z7q.1 B8W j (by simp;omega)) x.length (by simp;omega);have e:(EJ.drop (j+1)).take x.length=x:=by have:=congrArg (λl=>(l.drop 1).take x.length) h4;simp only[ynq,yoq]at this;simpa[y3q]using this
  have e1:(EJ.drop j).take 1=[32]:=by have:=congrArg (λl=>l.take 1) h4;simpa[y3q]using this
  have e2:(EJ.drop (j+x.length+1)).take 1=[32]:=by have:=congrArg (λl=>(l.drop (x.length+1)).take 1) h4;simp only[ynq,yoq]at this;simpa[y3q,Nat.add_assoc,zNq,show x.length+2-(x.length+1)=1 by omega]using this
  rw[e,e1,e2]at h5;simpa[h1,h2,show j+x.length+2<=81 by omega]using h5
 ·intro h;have h5:=z7q.1 B9V x h;simp only[z3q,F5,List.any_eq_true,beq_iff_eq,List.mem_range]at h5;obtain⟨⟨h1,h2⟩,j,h3,h4,h6⟩:=h5;exact⟨h2,h1,j,h4,h6⟩
def A3A(a b:ByteArray):DK (.str a) (.str b)=decide (a=b):=by simp only[DK];exact nk a b
theorem B1n(k k':IntKind)(a b:Int):DK (.int k a) (.int k' b)=decide (a=b):=by simp only[DK];rfl
def B74{a:ByteArray}{d:DV}(h:DK (.str a) d=true):d=.str a:=by
 cases d<;>simp only[DK]at h<;>try cases h
 rename_i s;have:=A10 (a:=a) (b:=s) (by simpa using h);rw[this]
variable (es:List (DV×DV))
def B4e(a b:ByteArray)(v:DV):AQ (BJ es (.str a) v) (.str b)=if a=b then some v else AQ es (.str b):=by
 induction es with
 |nil=>by_cases h:a=b<;>simp[BJ,AQ,A3A,h,eq_comm]
 |cons e es ih=>
   unfold BJ;by_cases h1:DK (.str a) e.1=true
   ·rw[D5 h1];have:=B74 h1;simp only[AQ,zKq,this,A3A]
    by_cases h:a=b
    ·subst h;simp
    ·have:¬b=a:=λh'=>h h'.symm;simp[h,this]
   ·rw[C8 h1];simp only[AQ,zKq]at ih ⊢;by_cases h2:DK (.str b) e.1=true
    ·simp only[h2]
     by_cases h:a=b
     ·subst h;exact absurd h2 h1
     ·simp[h]
    ·simp only[h2]
     exact ih
def B73{a:Int}{d:DV}(h:DK (.int k a) d=true):∃k',d=.int k' a:=by
 cases d<;>simp only[DK]at h<;>try cases h
 rename_i k' n;exact⟨k',by rw[show a=n by simpa using h]⟩
def B1q(a b:Int)(v:DV):AQ (BJ es (.int .i64 a) v) (.int .i64 b)=if a=b then some v else AQ es (.int .i64 b):=by
 induction es with
 |nil=>by_cases h:a=b<;>simp[BJ,AQ,B1n,h,eq_comm]
 |cons e es ih=>
   unfold BJ;by_cases h1:DK (.int .i64 a) e.1=true
   ·rw[D5 h1];obtain⟨k',this⟩:=B73 h1;simp only[AQ,zKq,this,B1n]
    by_cases h:a=b
    ·subst h;simp
    ·have:¬b=a:=λh'=>h h'.symm;simp[h,this]
   ·rw[C8 h1];simp only[AQ,zKq]at ih ⊢;by_cases h2:DK (.int .i64 b) e.1=true
    ·simp only[h2]
     by_cases h:a=b
     ·subst h;exact absurd h2 h1
     ·simp[h]
    ·simp only[h2]
     exact ih
def S9:ByteArray:=⟨#[]⟩
variable (p:E8)
def E8.one:Bool :=
 if p.A8=1\/p.A8=6\/p.A8=8 then decide (p.D6.length=0)&&decide (p.name=S9)&&decide (p.n=0)&&decide (p.s=S9)
 else if p.A8=2 then Dt p.name&&decide (p.D6.length=0)&&decide (p.n=0)&&decide (p.s=S9)
 else if p.A8=3 then decide (p.D6.length=0)&&decide (p.name=S9)&&decide (p.s=S9)
 else if p.A8=4 then decide (p.n=0\/p.n=1)&&decide (p.D6.length=0)&&decide (p.name=S9)&&decide (p.s=S9)
 else if p.A8=5 then decide (p.s.size<=200)&&decide (p.D6.length=0)&&decide (p.name=S9)&&decide (p.n=0)
 else if p.A8=7\/p.A8=9 then decide (p.D6.length=2)&&decide (p.name=S9)&&decide (p.n=0)&&decide (p.s=S9)
 else false
def E8.thin:E8->Bool
 |.mk _ _ _ _ _ _ ks=>decide (ks.length<=J9)&&(ks.map E8.thin).all id
variable (t:E8)
theorem E8.Ns:t.thin=(decide (t.D6.length<=J9)&&t.D6.all E8.thin):=by cases t;rw[E8.thin];simp[zHq];rfl
def E8.Cx(h:t.thin=true):t.D6.length<4294967297:=by rw[E8.Ns]at h;simp only[z3q,F5]at h;have:=h.1;unfold J9 at this;omega
def E8.Fa{t k:E8}(h:t.thin=true)(hk:k∈t.D6):k.thin=true:=by rw[E8.Ns]at h;simp only[z3q,z7q]at h;exact h.2 k hk
def E8.FE{t:E8}:t.size<=J9->t.thin=true:=by
 induction t using E8.ind with
 |h t ih=>intro h;rw[E8.Ns];simp only[z3q,F5,z7q];refine⟨by have:=t.vU;omega,λk hk=>ih k hk (by have:=E8.Ec hk;omega)⟩
def E8.pat:E8->Bool
 |.mk a b c d e f ks=>E8.one (.mk a b c d e f ks)&&(ks.map E8.pat).all id
def E8.Ra:t.pat=(t.one&&t.D6.all E8.pat):=by cases t;rw[E8.pat];simp[zHq]
def E8.Dp:E8->List ByteArray->List ByteArray
 |.mk k _ _ nm _ _ ks,l=>ks.foldl (λl k=>E8.Dp k l) (if k=2 then l++[nm]else l)
theorem E8.Od(l:List ByteArray):t.Dp l=t.D6.foldl (λl k=>k.Dp l) (if t.A8=2 then l++[t.name]else l):=by cases t;rw[E8.Dp];rfl
def E8.names:List ByteArray:=t.Dp []
def E8.Pn:∀l:List ByteArray,(t.Dp l).length<=l.length+t.size:=by
 induction t using E8.ind with
 |h t ih=>
   intro l;rw[E8.Od];have key:∀(ks:List E8),(∀k∈ks,∀l:List ByteArray,(k.Dp l).length<=l.length+k.size)->∀l:List ByteArray,(ks.foldl (λl k=>k.Dp l) l).length<=l.length+(ks.map E8.size).sum:=by
    intro ks;induction ks with
    |nil=>intro _ l;simp
    |cons k ks ihk=>intro h l;simp only[zJq,z9q,zfq];have h1:=ihk (λk' CR=>h k' (z4q _ CR)) (k.Dp l);have h2:=h k (z5q ..) l;omega
   have h1:=key t.D6 ih (if t.A8=2 then l++[t.name]else l);rw[E8.size_eq];have h2:(if t.A8=2 then l++[t.name]else l).length<=l.length+1:=by split<;>simp
   omega
def E8.subs:E8->List E8
 |.mk a b c d e f ks=>.mk a b c d e f ks::(ks.map E8.subs).flatten
theorem E8.Zm:t.subs=t::t.D6.flatMap E8.subs:=by cases t;rw[E8.subs];rfl
def RZ:List ByteArray:=if p.A8=2 then[p.name]else[]
def E8.YG:∀l:List ByteArray,t.Dp l=l++t.subs.flatMap RZ:=by
 induction t using E8.ind with
 |h t ih=>
   intro l;have key:∀(ks:List E8),(∀k∈ks,∀l:List ByteArray,k.Dp l=l++k.subs.flatMap RZ)->∀l:List ByteArray,ks.foldl (λl k=>k.Dp l) l=l++(ks.flatMap E8.subs).flatMap RZ:=by
    intro ks;induction ks with
    |nil=>intro _ l;simp
    |cons k ks ihk=>intro h l;simp only[zJq,ycq,List.flatMap_append];rw[ihk (λk' CR=>h k' (z4q _ CR)),h k (z5q ..)];simp
   rw[E8.Od,key t.D6 ih,E8.Zm];simp only[ycq,RZ]
   by_cases h:t.A8=2<;>simp[h,RZ]
def E8.C16:t.pat=t.subs.all E8.one:=by
 induction t using E8.ind with
 |h t ih=>
   rw[E8.Ra,E8.Zm];simp only[ypq,List.all_flatMap]
   congr 1;rw[zWq];simp only[z7q];constructor
   ·intro h k hk x hx;have:=h k hk;rw[ih k hk]at this;exact z7q.1 this x hx
   ·intro h k hk;rw[ih k hk];exact z7q.2 (h k hk)
def E8.right:Bool:=t.pat&&decide t.names.Nodup
def C1s:t.thin=true->∃n,CY 7 6 n t.A9=some (t.subs.map E8.A9):=by
 induction t using E8.ind with
 |h t ih=>
   intro ht;have key:∀ks:List E8,(∀k∈ks,∃n,CY 7 6 n k.A9=some (k.subs.map E8.A9))->∃n,Mw (CY 7 6 n) (ks.map E8.A9)=some ((ks.flatMap E8.subs).map E8.A9):=by
    intro ks;induction ks with
    |nil=>intro _;exact⟨0,rfl⟩
    |cons k ks ihk=>
      intro h;obtain⟨n,hn⟩:=h k (z5q ..);obtain⟨m,hm⟩:=ihk λk' CR=>h k' (z4q _ CR);refine⟨n+m,?_⟩;simp only[z9q,Mw,ZR (zsq n m) hn,g_ (λd l h=>ZR (ztq m n) h) hm,F8]
      simp
   obtain⟨n,hn⟩:=key t.D6 λk hk=>ih k hk (E8.Fa ht hk);refine⟨n+1,?_⟩;rw[E8.Ns]at ht;simp only[z3q,F5]at ht;rw[E8.K9,CY];simp only[zcq,yjq,List.getD_cons_succ,List.getD_cons_zero,zIq,hn,F8,E8.Zm t,z9q];simp[ht.1,E8.K9]
def E8.texts:Prop:=p.name.size<=4294967000/\p.s.size<=4294967000
def E8.txt:Prop:=∀q∈p.subs,q.texts
def E8.C2e:p∈p.subs:=by rw[E8.Zm];exact z5q ..
def E8.C3Q{p k q:E8}(h:k∈p.D6)(hq:q∈k.subs):q∈p.subs:=by rw[E8.Zm];exact z4q _ (zGq.2 ⟨k,h,hq⟩)
def E8.C4B{p k:E8}(h:p.txt)(hk:k∈p.D6):k.txt:=λq hq=>h q (E8.C3Q hk hq)
end Go.Su

/-
 TERMS and EXPRESSIONS: what is said of them.
-/
namespace Go.Su
set_option linter.defProp false
structure E8.fit(p:E8):Prop where
 size:p.size<=J9
 txt:p.txt
def E8.ZL{p:E8}(h:p.fit):p.thin=true:=E8.FE h.size
def E8.bare:E8->E8
 |.mk k _ _ nm n s ks=>.mk k 0 0 nm n s (ks.map E8.bare)
variable (p:E8)
@[simp] theorem E8.B88:p.bare.A8=p.A8:=by cases p;rw[E8.bare];rfl
@[simp] theorem E8.C3o:p.bare.lo=0:=by cases p;rw[E8.bare];rfl
@[simp] theorem E8.C3n:p.bare.hi=0:=by cases p;rw[E8.bare];rfl
@[simp] theorem E8.B89:p.bare.name=p.name:=by cases p;rw[E8.bare];rfl
@[simp] theorem E8.C5b:p.bare.n=p.n:=by cases p;rw[E8.bare];rfl
@[simp] theorem E8.C5c:p.bare.s=p.s:=by cases p;rw[E8.bare];rfl
@[simp] theorem E8.B87:p.bare.D6=p.D6.map E8.bare:=by cases p;rw[E8.bare];rfl
def Ex.bare:Ex->Ex
 |.mk k _ _ nm ar n s op a b ps ks=>.mk k 0 0 nm ar n s op a b (ps.map E8.bare) (ks.map Ex.bare)
variable (p:Ex)
@[simp] theorem Ex.B88:p.bare.A8=p.A8:=by cases p;rw[Ex.bare];rfl
@[simp] theorem Ex.C3o:p.bare.lo=0:=by cases p;rw[Ex.bare];rfl
@[simp] theorem Ex.C3n:p.bare.hi=0:=by cases p;rw[Ex.bare];rfl
@[simp] theorem Ex.B89:p.bare.name=p.name:=by cases p;rw[Ex.bare];rfl
@[simp] theorem Ex.C7Y:p.bare.arg=p.arg:=by cases p;rw[Ex.bare];rfl
@[simp] theorem Ex.C5b:p.bare.n=p.n:=by cases p;rw[Ex.bare];rfl
@[simp] theorem Ex.C5c:p.bare.s=p.s:=by cases p;rw[Ex.bare];rfl
@[simp] theorem Ex.C9d:p.bare.op=p.op:=by cases p;rw[Ex.bare];rfl
@[simp] theorem Ex.C9n:p.bare.a=p.a:=by cases p;rw[Ex.bare];rfl
@[simp] theorem Ex.C9o:p.bare.b=p.b:=by cases p;rw[Ex.bare];rfl
@[simp] theorem Ex.C7S:p.bare.H8=p.H8.map E8.bare:=by cases p;rw[Ex.bare];rfl
@[simp] theorem Ex.B87:p.bare.D6=p.D6.map Ex.bare:=by cases p;rw[Ex.bare];rfl
structure Ex.Pv(t:Ex):Prop where
 name:t.name.size<=4294967000
 arg:t.arg.size<=4294967000
 s:t.s.size<=4294967000
 a:t.a.thin=true
 b:t.b.thin=true
 avc:t.a.CL<=J9
 bvc:t.b.CL<=J9
 H8:t.H8.length<J9
 pat:∀p∈t.H8,p.fit
 D6:t.D6.length<J9
inductive Ex.fit:Ex->Prop where
 |mk (t:Ex):t.Pv->(∀k∈t.D6,k.fit)->t.fit
def Ex.fit.one{t:Ex}(h:t.fit):t.Pv:=by cases h;assumption
def Ex.fit.kid{t k:Ex}(h:t.fit)(hk:k∈t.D6):k.fit:=by cases h with | mk _ _ g=>exact g k hk
structure Tm.Pv(t:Tm):Prop where
 name:t.name.size<=4294967000
 arg:t.arg.size<=4294967000
 s:t.s.size<=4294967000
 vars:t.vars.length<J9
 a:t.a.thin=true
 b:t.b.thin=true
 avc:t.a.CL<=J9
 bvc:t.b.CL<=J9
 args:t.args.length<J9
 A9S:∀y∈t.args,y.thin=true
 C6Z:∀y∈t.args,y.CL<=J9
 H8:t.H8.length<J9
 pat:∀p∈t.H8,p.fit
 D6:t.D6.length<J9
inductive Tm.fit:Tm->Prop where
 |mk (t:Tm):t.Pv->(∀k∈t.D6,k.fit)->t.fit
variable {t:Tm}
def Tm.fit.one(h:t.fit):t.Pv:=by cases h;assumption
def Tm.fit.kid{k:Tm}(h:t.fit)(hk:k∈t.D6):k.fit:=by cases h with | mk _ _ g=>exact g k hk
def E8.Rm(p:E8):p.size<=p.Q3:=by
 induction p using E8.ind with
 |h p ih=>
   rw[E8.size_eq,E8.BQ];have key:∀ks:List E8,(∀k∈ks,k.size<=k.Q3)->(ks.map E8.size).sum<=(ks.map E8.Q3).sum:=by
    intro ks;induction ks with
    |nil=>simp
    |cons k ks ihk=>intro h;simp only[z9q,zfq];have:=h k (z5q ..);have:=ihk λk' CR=>h k' (z4q _ CR);omega
   have:=key p.D6 ih;omega
def E8.C2t{p:E8}:∀q∈p.subs,q.Q3<=p.Q3:=by
 induction p using E8.ind with
 |h p ih=>
   intro q hq;rw[E8.Zm]at hq;rcases ybq.1 hq with rfl | hq
   ·exact z8q _
   ·obtain⟨k,hk,hq⟩:=zGq.1 hq;have:=ih k hk q hq;have:=E8.mH hk;omega
def E8.kR{p:E8}(h:p.Q3<=4294967000):p.fit:=by refine⟨by have:=p.Rm;unfold J9;omega,λq hq=>?_⟩;have:=E8.C2t q hq;exact⟨by have:=q.A3F;omega,by have:=q.B4j;omega⟩
def C4z{l:List Nat}(h:∀a∈l,0<a):l.length<=l.sum:=by
 induction l with
 |nil=>simp
 |cons a l ih=>have:=h a (z5q ..);have:=ih λb hb=>h b (z4q _ hb);simp only[zcq,zfq];omega
def vV{α : Type}{l:List α}{f : α->Nat}(h:∀a,0<f a):l.length<=(l.map f).sum:=by have:=C4z (l:=l.map f) (by intro a ha;obtain⟨x,_,rfl⟩:=y1q.1 ha;exact h x);simpa using this
def JN{α : Type}{l:List α}{f : α->Nat}{a : α}(h:a∈l):f a<=(l.map f).sum:=Sv (zgq (f:=f) h)
def Tm.kR:t.Q3<=4294967000->t.fit:=by
 induction t using Tm.ind with
 |h t ih=>
   intro h;refine .mk t ⟨by have:=t.A3F;omega,by have:=t.C1X;omega,by have:=t.B4j;omega,by have:=t.B94;unfold J9;omega,Ty.FE (by have:=t.B4h;unfold J9;omega),Ty.FE (by have:=t.B4i;unfold J9;omega),by have:=t.B4h;have:=t.a.aW;unfold J9;omega,by have:=t.B4i;have:=t.b.aW;unfold J9;omega,?_,λp hp=>?_,λp hp=>?_,?_,λp hp=>?_,?_⟩ λk hk=>ih k hk (by have:=Tm.mH hk;omega)
   ·have:=t.pU;have:=vV (l:=t.args) Ty.Ed;unfold J9;omega
   ·have:=t.pU;have:=JN (f:=Ty.size) hp;exact Ty.FE (by unfold J9;omega)
   ·have:=t.pU;have:=JN (f:=Ty.size) hp;have:=p.aW;unfold J9;omega
   ·have:=t.B1s;have:=vV (l:=t.H8) E8.ZW;unfold J9;omega
   ·have:=t.B1s;have:=JN (f:=E8.Q3) hp;exact E8.kR (by omega)
   ·have:=t.C1Y;unfold J9;omega
inductive Tm.sized:Tm->Prop where
 |mk (t:Tm):t.a.size<=J9->t.b.size<=J9->(∀y∈t.args,y.size<=J9)->(∀k∈t.D6,k.sized)->t.sized
def Tm.sized.a(h:t.sized):t.a.size<=J9:=by cases h;assumption
def Tm.sized.b(h:t.sized):t.b.size<=J9:=by cases h;assumption
def Tm.sized.args(h:t.sized):∀y∈t.args,y.size<=J9:=by cases h;assumption
def Tm.sized.kid{k:Tm}(h:t.sized)(hk:k∈t.D6):k.sized:=by cases h with | mk _ _ _ _ g=>exact g k hk
def Tm.B8H:t.Q3<=4294967000->t.sized:=by
 induction t using Tm.ind with
 |h t ih=>intro h;refine .mk t (by have:=t.B4h;unfold J9;omega) (by have:=t.B4i;unfold J9;omega) (λy hy=>?_) λk hk=>ih k hk (by have:=Tm.mH hk;omega);have:=t.pU;have:=JN (f:=Ty.size) hy;unfold J9;omega
def Ty.none(t:Ty):Bool:=decide (t.A8=0)&&decide (t.n=0)&&decide (t.D6.length=0)
def Ty.A7b{t:Ty}:t.none=true↔t=.mk 0 0 []:=by unfold Ty.none;rw[Ty.ED];simp[and_assoc]
variable (k:Int)
def U2:Bool:=decide (k=1\/k=9\/k=11\/k=12)
def Y7:Bool:=decide (k=12)
def kN:Bool:=decide (k=2\/k=3)
def kS:Bool:=decide (k=4)
def BU:Bool:=decide (k=15)
def Bi:Bool:=decide (k=14\/k=15)
def U9:Bool:=decide (k=11\/k=12)
def V5:Bool:=decide (k=1)
def U8:Bool:=decide (k=14)
def kA:Bool:=decide (k=7\/k=9\/k=12\/k=16)
def kB:Bool:=decide (k=12\/k=16)
def Q9:Bool:=decide (k=16)
def Cy(np:Nat):Bool:=decide (1<=k)&&decide (k<=16)&&(!decide (k=14)||decide (0<np))
def R7(np:Nat):Int :=if k=6\/k=8\/k=10\/k=11\/k=12\/k=15 then 2 else if k=9\/k=16 then 1 else if k=13 then 3 else if k=14 then np+1 else 0
def Ap(h:Bool)(s:ByteArray):Bool:=if h=true then Dt s else decide (s=S9)
def z8(h:Bool)(t:Ty):Bool:=if h=true then t.right else t.none
variable (t:Tm)
def Tm.lists:Bool:=t.vars.all (λv=>decide (0<=v)&&decide (v<=1048576))&&t.args.all Ty.right&&t.H8.all E8.right
def Tm.Nj:Bool:=(U9 t.A8||decide (t.vars.length=0))&&(V5 t.A8||decide (t.args.length=0))&&(U8 t.A8||decide (t.H8.length=0))&&t.lists
def Tm.Mc:Bool:=(Q9 t.A8||(decide (t.label=0)&&!t.neg))&&(decide (0<=t.label)&&decide (t.label<=1048576))&&t.Nj
def Tm.LX:Bool:=(!BU t.A8||(decide (1<=t.op)&&decide (t.op<=7)))&&(BU t.A8||decide (t.op=0))&&t.Mc
def Tm.LW:Bool:=(kS t.A8||decide (t.s=S9))&&decide (t.s.size<=200)&&(Bi t.A8||(decide (t.lo=0)&&decide (t.hi=0)))&&t.LX
def Tm.Kv:Bool:=(kN t.A8||decide (t.n=0))&&(!decide (t.A8=3)||decide (t.n=0)||decide (t.n=1))&&t.LW
def Tm.one:Bool:=Cy t.A8 t.H8.length&&decide ((t.D6.length:Int)=R7 t.A8 t.H8.length)&&Ap (U2 t.A8) t.name&&Ap (Y7 t.A8) t.arg&&z8 (kA t.A8) t.a&&z8 (kB t.A8) t.b&&t.Kv
def Tm.right:Tm->Bool
 |.mk a b c d e f g h i j k l m n o ks=>Tm.one (.mk a b c d e f g h i j k l m n o ks)&&(ks.map Tm.right).all id
def Tm.right_eq:t.right=(t.one&&t.D6.all Tm.right):=by cases t;rw[Tm.right];simp[zHq]
end Go.Su

/-
 TERMS, as the reference has them.
-/
namespace Go.Su
set_option linter.defProp false
variable (t:Tm)
def Tm.gZ:Tm :=
 .mk t.A8 (if Bi t.A8=true then t.lo else 0) (if Bi t.A8=true then t.hi else 0) (if U2 t.A8=true then t.name else S9) (if Y7 t.A8=true then t.arg else S9) (if kN t.A8=true then t.n else 0)
  (if kS t.A8=true then t.s else S9) (if BU t.A8=true then t.op else 0) (if Q9 t.A8=true then t.label else 0) (if Q9 t.A8=true then t.neg else false) (if U9 t.A8=true then t.vars else[])
  (if kA t.A8=true then t.a else .mk 0 0 []) (if kB t.A8=true then t.b else .mk 0 0 []) (if V5 t.A8=true then t.args else[]) (if U8 t.A8=true then t.H8 else[]) []
def Tm.Hg:Int:=if 1<=t.A8/\t.A8<=16 then R7 t.A8 t.H8.length else -1
noncomputable def Tm.aM(a b:Tm):Bool :=decide (a.A8=b.A8)&&(decide (a.lo=b.lo)&&decide (a.hi=b.hi))&&decide (a.name=b.name)&&decide (a.arg=b.arg)&&decide (a.n=b.n)&&decide (a.s=b.s)&&decide (a.op=b.op)&&decide (a.label=b.label)&&decide (a.neg=b.neg) &&decide (a.args=b.args)&&decide (a.a=b.a)&&decide (a.b=b.b)&&decide (a.vars=b.vars)&&decide (a.H8=b.H8)
def Tm.B9E{a b:Tm}:a.aM b=true/\a.D6=b.D6↔a=b:=by
 simp only[Tm.aM,z3q,F5,Tm.ED]
 grind
def Tm.B86{t:Tm}(h:t.Pv):t.gZ.Pv:=by
 have t0:(Ty.mk 0 0 []).thin=true:=by rw[Ty.Ns];simp[J9]
 obtain⟨a1,a2,a3,a4,a5,a6,b1,b2,a7,a8,b3,a9,a10,a11⟩:=h;have t1:(Ty.mk 0 0 []).CL<=J9:=by rw[Ty.cO];simp[J9]
 have n0:S9.size=0:=rfl;constructor<;>simp only[Tm.gZ,Tm.DU,Tm.Jc,Tm.Oj,Tm.JR,Tm.jV,Tm.jY,Tm.Pg,Tm.Gu,Tm.U6]<;>(try split)<;>simp_all[J9]
def Tm.Md:Bool :=
 if t.A8=1 then Dt t.name
 else if t.A8=11 then Dt t.name
 else if t.A8=3 then decide (t.n=0)||decide (t.n=1)
 else if t.A8=4 then decide (t.s.size<=200)
 else if t.A8=7 then t.a.right
 else if t.A8=9 then Dt t.name&&t.a.right
 else if t.A8=12 then Dt t.name&&Dt t.arg&&t.a.right&&t.b.right
 else if t.A8=14 then decide (0<t.H8.length)
 else if t.A8=15 then decide (1<=t.op)&&decide (t.op<=7)
 else if t.A8=16 then decide (0<=t.label)&&decide (t.label<=1048576)&&t.a.right&&t.b.right
 else true
theorem B98:S9.size=0:=rfl
def Gt{t:Ty}:t.none=true↔Ty.mk 0 0 []=t:=by rw[Ty.A7b];exact eq_comm
set_option maxHeartbeats 2000000 in
def Tm.C30:(decide (t.Hg=(t.D6.length:Int))&&t.gZ.aM t&&t.lists&&t.Md)=t.one:=by
 have e8:∀s:ByteArray,(S9=s)↔(s=S9):=λs=>eq_comm;have e0:∀n:Int,(0=n)↔(n=0):=λs=>eq_comm;have eb:∀n:Bool,(false=n)↔(n=false):=λs=>eq_comm;have ek:∀n:Int,(n=(t.D6.length:Int))↔((t.D6.length:Int)=n):=λs=>eq_comm;have el:∀{α : Type}(l:List α),([]=l)↔(l.length=0):=λl=>by cases l<;>simp
 have es:t.s=S9->t.s.size<=200:=λh=>by rw[h,B98];omega
 rw[zWq];simp only[Tm.aM,Tm.gZ,Tm.Cn,Tm.aP,Tm.aN,Tm.DU,Tm.Jc,Tm.Vn,Tm.Oj,Tm.yB,Tm.Vk,Tm.mJ,Tm.Pg,Tm.jV,Tm.jY,Tm.JR,Tm.Gu,Tm.Hg,Tm.one,Tm.Kv,Tm.LW,Tm.LX,Tm.Mc,Tm.Nj];generalize t.lists=LL;by_cases k1:t.A8=1
 ·simp[k1,Tm.Md,Cy,U2,Y7,kN,kS,BU,Bi,U9,V5,U8,kA,kB,Q9,R7,Ap,z8,Gt,e8,e0,eb,ek,el];grind
 by_cases k2:t.A8=2
 ·simp[k2,Tm.Md,Cy,U2,Y7,kN,kS,BU,Bi,U9,V5,U8,kA,kB,Q9,R7,Ap,z8,Gt,e8,e0,eb,ek,el];grind
 by_cases k3:t.A8=3
 ·simp[k3,Tm.Md,Cy,U2,Y7,kN,kS,BU,Bi,U9,V5,U8,kA,kB,Q9,R7,Ap,z8,Gt,e8,e0,eb,ek,el];grind
 by_cases k4:t.A8=4
 ·simp[k4,Tm.Md,Cy,U2,Y7,kN,kS,BU,Bi,U9,V5,U8,kA,kB,Q9,R7,Ap,z8,Gt,e8,e0,eb,ek,el];grind
 by_cases k5:t.A8=5
 ·simp[k5,Tm.Md,Cy,U2,Y7,kN,kS,BU,Bi,U9,V5,U8,kA,kB,Q9,R7,Ap,z8,Gt,e8,e0,eb,ek,el];grind
 by_cases k6:t.A8=6
 ·simp[k6,Tm.Md,Cy,U2,Y7,kN,kS,BU,Bi,U9,V5,U8,kA,kB,Q9,R7,Ap,z8,Gt,e8,e0,eb,ek,el];grind
 by_cases k7:t.A8=7
 ·simp[k7,Tm.Md,Cy,U2,Y7,kN,kS,BU,Bi,U9,V5,U8,kA,kB,Q9,R7,Ap,z8,Gt,e8,e0,eb,ek,el];grind
 by_cases k8:t.A8=8
 ·simp[k8,Tm.Md,Cy,U2,Y7,kN,kS,BU,Bi,U9,V5,U8,kA,kB,Q9,R7,Ap,z8,Gt,e8,e0,eb,ek,el];grind
 by_cases k9:t.A8=9
 ·simp[k9,Tm.Md,Cy,U2,Y7,kN,kS,BU,Bi,U9,V5,U8,kA,kB,Q9,R7,Ap,z8,Gt,e8,e0,eb,ek,el];grind
 by_cases k10:t.A8=10
 ·simp[k10,Tm.Md,Cy,U2,Y7,kN,kS,BU,Bi,U9,V5,U8,kA,kB,Q9,R7,Ap,z8,Gt,e8,e0,eb,ek,el];grind
 by_cases k11:t.A8=11
 ·simp[k11,Tm.Md,Cy,U2,Y7,kN,kS,BU,Bi,U9,V5,U8,kA,kB,Q9,R7,Ap,z8,Gt,e8,e0,eb,ek,el];grind
 by_cases k12:t.A8=12
 ·simp[k12,Tm.Md,Cy,U2,Y7,kN,kS,BU,Bi,U9,V5,U8,kA,kB,Q9,R7,Ap,z8,Gt,e8,e0,eb,ek,el];grind
 by_cases k13:t.A8=13
 ·simp[k13,Tm.Md,Cy,U2,Y7,kN,kS,BU,Bi,U9,V5,U8,kA,kB,Q9,R7,Ap,z8,Gt,e8,e0,eb,ek,el];grind
 by_cases k14:t.A8=14
 ·simp[k14,Tm.Md,Cy,U2,Y7,kN,kS,BU,Bi,U9,V5,U8,kA,kB,Q9,R7,Ap,z8,Gt,e8,e0,eb,ek,el];grind
 by_cases k15:t.A8=15
 ·simp[k15,Tm.Md,Cy,U2,Y7,kN,kS,BU,Bi,U9,V5,U8,kA,kB,Q9,R7,Ap,z8,Gt,e8,e0,eb,ek,el];grind
 by_cases k16:t.A8=16
 ·simp[k16,Tm.Md,Cy,U2,Y7,kN,kS,BU,Bi,U9,V5,U8,kA,kB,Q9,R7,Ap,z8,Gt,e8,e0,eb,ek,el];grind
 have hk:¬(1<=t.A8/\t.A8<=16):=by omega
 have CR:¬((-1:Int)=(t.D6.length:Int)):=by omega
 have hk2:Cy t.A8 t.H8.length=false:=by unfold Cy;rw[Bool.eq_false_iff];intro h;simp only[z3q,F5]at h;omega
 simp[hk,CR,hk2]
end Go.Su

/-
 TYPES put for variables, types that agree, and the CHECKER of terms: what is said of them, BC any program.
-/
namespace Go.Su
set_option linter.defProp false
noncomputable section
variable (l:List (Int×Ty))
def look(n:Int):Option Ty:=(l.find? λe=>decide (e.1=n)).map (·.2)
def Ty.put(l:List (Int×Ty)):Ty->Ty
 |.mk k n ks=>if k=6 then(look l n).getD (.mk k n ks)else .mk k n (ks.map (Ty.put l))
theorem Ty.put_eq(t:Ty):t.put l=if t.A8=6 then(look l t.n).getD t else .mk t.A8 t.n (t.D6.map (Ty.put l)):=by cases t;rw[Ty.put];rfl
def Ae:Bool:=l.all λe=>decide (0<=e.1)&&decide (e.1<=1048576)&&e.2.right
def O5:Ty:=.mk 0 0 []
def Y1(e:Int×Ty):DV:=.agg [.int .i64 e.1,.int .i64 e.2.A8,.int .i64 e.2.n,.list 3 (e.2.D6.map Ty.A9)]
def P7:DV:=.list 4 (l.map Y1)
variable {l:List (Int×Ty)}
def C1S{n:Int}{t:Ty}(h:look l n=some t):(n,t)∈l:=by
 unfold look at h;cases hf:l.find? λe=>decide (e.1=n)with
 |none=>rw[hf]at h;cases h
 |some e=>rw[hf]at h;simp only[zAq,D9]at h;have h1:=List.find?_some hf;simp only[F5]at h1;have h2:=List.mem_of_find?_eq_some hf;rw[<- h,<- h1];exact h2
def Ty.CS{t:Ty}:t.right=true↔X3 t.A8=t.D6.length/\0<=t.n/\t.n<=1048576/\(t.A8=6\/t.n=0)/\∀k∈t.D6,k.right=true:=by rw[Ty.right_eq];simp only[z3q,Bool.or_eq_true,F5,z7q,and_assoc]
def Ty.ma{k n:Int}{ks:List Ty}:(Ty.mk k n ks).right=true↔X3 k=ks.length/\0<=n/\n<=1048576/\(k=6\/n=0)/\∀t∈ks,t.right=true :=Ty.CS (t:=.mk k n ks)
def Ty.M8{t k:Ty}(h:t.right=true)(hk:k∈t.D6):k.right=true:=(Ty.CS.1 h).2.2.2.2 k hk
def S_:Ae l=true↔∀e∈l,0<=e.1/\e.1<=1048576/\e.2.right=true:=by unfold Ae;simp[and_assoc]
def Ty.B1K(hl:∀e∈l,e.2.right=true)(t:Ty):t.right=true->(t.put l).right=true:=by
 induction t using Ty.ind with
 |h t ih=>
   intro h;rw[Ty.put_eq];split
   ·cases hk:look l t.n with
    |none=>exact h
    |some u=>exact hl _ (C1S hk)
   ·rw[Ty.ma];rw[Ty.CS]at h;obtain⟨h1,h2,h3,h4,h5⟩:=h;refine⟨by simpa using h1,h2,h3,h4,λk hk=>?_⟩;obtain⟨k',CR,rfl⟩:=y1q.1 hk;exact ih k' CR (h5 k' CR)
variable (t:Ty)
def Ty.B0n:t.put []=t:=by
 induction t using Ty.ind with
 |h t ih=>
   rw[Ty.put_eq];split
   ·rfl
   ·rw[Ty.ED];refine⟨rfl,rfl,?_⟩;simp only[Ty.U6]
    conv=>rhs;rw[<- List.map_id t.D6]
    exact List.map_congr_left λk hk=>ih k hk
def Ty.agrees(a b:Ty):Bool :=
 if a.A8=5 then b.BC 6 else if b.A8=5 then a.BC 6 else
  decide (a.A8=b.A8)&&decide (a.n=b.n)&&((a.D6.attach.zip b.D6).map λp=>Ty.agrees p.1.1 p.2).all id
termination_by SizeOf.sizeOf a
decreasing_by exact Ty.Jf p.1.2
def Ty.aj(a b:Ty):a.agrees b=if a.A8=5 then b.BC 6 else if b.A8=5 then a.BC 6 else decide (a.A8=b.A8)&&decide (a.n=b.n)&&(a.D6.zip b.D6).all λp=>p.1.agrees p.2:=by
 rw[Ty.agrees];congr 3;have e:a.D6.attach.zip b.D6=(a.D6.attach.zip b.D6):=rfl;have key:∀(l:List { x // x∈a.D6 })(m:List Ty),((l.zip m).map λp=>Ty.agrees p.1.1 p.2).all id=((l.map (·.1)).zip m).all λp=>p.1.agrees p.2:=by
  intro l;induction l with
  |nil=>intro m;simp
  |cons x l ih=>intro m;cases m<;>simp_all
 rw[key];simp
def A4w(k:Int):Int:=if k=3 then 1 else if k=4 then 2 else if k=5 then 3 else if k=6 then 4 else if k=8 then 8 else 0
def Ii:List (Ty->Option (List (ByteArray×Ty)))->List Ty->Option (List (ByteArray×Ty))
 |[],_=>some []
 |_::_,[]=>none
 |f::fs,t::ts=>(f t).bind λa=>(Ii fs ts).bind λb=>some (a++b)
def Za(p:E8)(fs:List (Ty->Option (List (ByteArray×Ty))))(t:Ty):Option (List (ByteArray×Ty)) :=
 if p.A8=1 then some []
 else if p.A8=2 then some [(p.name,t)]
 else if p.A8=7 then if t.A8=7 then Ii fs t.D6 else none
 else if p.A8=9 then if t.A8=8 then Ii fs [t.D6.getD 0 O5,t]else none
 else if t.A8=A4w p.A8 then some []else none
def E8.binds(p:E8):Ty->Option (List (ByteArray×Ty)):=Za p (p.D6.attach.map λk=>E8.binds k.1)
termination_by SizeOf.sizeOf p
decreasing_by exact E8.Jf k.2
def E8.jZ(p:E8)(t:Ty):p.binds t=Za p (p.D6.map E8.binds) t:=by rw[E8.binds];congr 1;exact zmq (f:=E8.binds) ..
structure Nm where
 name:ByteArray
 ty:Ty
 vars:List Int
def Nm.A9(x:Nm):DV:=.agg [.str x.name,.int .i64 x.ty.A8,.int .i64 x.ty.n,.list 3 (x.ty.D6.map Ty.A9),K6 x.vars]
variable (l:List Nm)
def Y6:DV:=.list 5 (l.map Nm.A9)
abbrev Res:=Except Int Ty
variable (S:List Int)
def GD(t:Ty):Bool:=t.vars.all λv=>decide (v∈S)
def takes(l:List Int):Bool:=decide (l.Nodup)&&l.all λv=> !decide (v∈S)
abbrev iy:=List Nm->List Int->Res
def Aa(l:List Nm)(S:List Int):List iy->Except Int (List Ty)
 |[]=>.ok []
 |f::fs=>(f l S).bind λy=>(Aa l S fs).bind λys=>.ok (y::ys)
variable (t:Tm)
def Ea(S:List Int)(k:List Ty):Res :=
 let x:=k.getD 0 O5
 let y:=k.getD 1 O5
 let z:=k.getD 2 O5
 if t.A8=6 then .ok (.mk 7 0 k)
 else if t.A8=8 then if y.A8=8/\y.D6.getD 0 O5=x then .ok y else .error 4
 else if t.A8=10 then if x.A8=9/\x.D6.getD 0 O5=y then .ok (x.D6.getD 1 O5)else .error 4
 else if t.A8=13 then if x.A8=2/\y=z then .ok y else .error 4
 else if t.A8=15 then
  if t.op=7 then if x.A8=3/\y.A8=3 then .ok (.mk 2 0 [])else .error 4
  else if x.A8=1/\y.A8=1 then .ok (.mk (if t.op=5\/t.op=6 then 2 else 1) 0 [])else .error 4
 else if t.A8=16 then
  if GD S t.a&&GD S t.b then if x=t.a/\t.a.agrees t.b=true then .ok t.b else .error 4 else .error 6
 else .error 4
def Em(e:ByteArray×Ty):Nm:=⟨e.1,e.2,[]⟩
open Classical in
def CJ(y:Ty)(l:List Nm)(S:List Int):List (E8×iy)->Option Ty->Res
 |[],out=>.ok (out.getD O5)
 | (p,f)::r,out=>
   match p.binds y with
   |none=>.error 4
   |some b=>(f (l++b.map Em) S).bind λa=>
     match out with
     |none=>CJ y l S r (some a)
     |some o=>if a=o then CJ y l S r (some o)else .error 4
def De(fs:List iy)(l:List Nm)(S:List Int):Res :=
 let f:Nat->iy:=λi=>fs.getD i λ_ _=>.error 4
 if t.A8=1 then
  match l.reverse.find? λx=>decide (x.name=t.name)with
  |none=>.error 6
  |some x=>if x.vars.length=t.args.length then if t.args.all (GD S)=true then .ok (x.ty.put (x.vars.zip t.args))else .error 6 else .error 8
 else if t.A8=2\/t.A8=3\/t.A8=4\/t.A8=5 then .ok (.mk (t.A8-1) 0 [])
 else if t.A8=7 then if GD S t.a=true then .ok (.mk 8 0 [t.a])else .error 6
 else if t.A8=9 then if GD S t.a=true then(f 0 (l++[⟨t.name,t.a,[]⟩]) S).bind λy=>.ok (.mk 9 0 [t.a,y])else .error 6
 else if t.A8=11 then if takes S t.vars=true then(f 0 l (t.vars++S)).bind λy=>f 1 (l++[⟨t.name,y,t.vars⟩]) S else .error 6
 else if t.A8=12 then
  if takes S t.vars=true then
   if GD (t.vars++S) t.a=true/\GD (t.vars++S) t.b=true then
    (f 0 (l++[⟨t.name,.mk 9 0 [t.a,t.b],[]⟩,⟨t.arg,t.a,[]⟩]) (t.vars++S)).bind λy=>if y=t.b then f 1 (l++[⟨t.name,.mk 9 0 [t.a,t.b],t.vars⟩]) S else .error 4
   else .error 6
  else .error 6
 else if t.A8=14 then(f 0 l S).bind λy=>CJ y l S (t.H8.zip (fs.drop 1)) none
 else(Aa l S fs).bind λk=>Ea t S k
def ck(t:Tm):iy:=De t (t.D6.attach.map λk=>ck k.1)
termination_by SizeOf.sizeOf t
decreasing_by exact Tm.Jf k.2
def LF:ck t=De t (t.D6.map ck):=by rw[ck];congr 1;exact zmq (f:=ck) ..
end
end Go.Su

/-
 FROM A READING TO DATA: binds, numbers, slices.
-/
namespace Go.Su
set_option linter.defProp false
section
variable {H:Type}{A9:TypeId×Value->H}{P:Program}{w:World}{held:Bool}
end
def B81{P:Program}{w:World}{r:Reach}{b:Nat}{t:TypeId}{v:Value}{S:AL}{h':Heap}{k:IntKind}{n:Int}(ht:P.underlying t=some (.int k))(h:Value.okWide P w r b t v)(hr:RC S h' (.int k n) v.cells.toList):RV S h' (.int k n) v:=by
 unfold Value.okWide at h;rw[ht]at h;have hv:v.cells=#[v]:=by cases v<;>first | rfl | (exfalso;revert h;simp[Cell.okWide,Cell.ok,ht])
 rw[hv]at hr;simpa[RC,RV]using hr
section
variable {H:Type}{A9:TypeId×Value->H}{P:Program}{w:World}{base:Nat}{spare:Nat->Bool}{held:Bool}
end
end Go.Su

/-
 THE DATA MACHINE: the program's functions are what one step makes of them: as an equation; runs on closed data by rewriting.
-/
namespace Go.Su
set_option linter.defProp false
variable {C:AB}
def B0o:Ow (run C) (Dr C (run C)):=by
 constructor
 ·intro f ds d H;obtain⟨n,hn⟩:=A4B.p f ds d H;cases n with
  |zero=>simp[Oe]at hn
  |succ n=>exact(A34 (A4v n)).p _ _ _ hn
 ·intro f rs sg q H;obtain⟨n,hn⟩:=A4B.r f rs sg q H;cases n with
  |zero=>simp[Oe]at hn
  |succ n=>exact(A34 (A4v n)).r _ _ _ _ hn
variable {α : Type}
def xL{x y:Option α}(h:∀a,x=some a->y=some a)(h':∀a,y=some a->x=some a):x=y:=by
 cases hx:x with
 |some a=>exact(h a hx).symm
 |none=>
   cases hy:y with
   |none=>rfl
   |some b=>have:=h' b hy;rw[hx]at this;cases this
variable {f:FuncId}{fn:Func}{c:Code}{ds:List DV}
def B3N(hp:C.eZ f=none)(hf:C.P.funcs[f]?=some fn)(hb:fn.body=some c):
 (run C).p f ds=UI C (run C) (C.fl f) (Vp C.P fn) [] c (I6 fn (ds.map λd=>(d,.val)) []):=by
 rw[A97];have e:(Dr C (run C)).p f ds=AC C (run C) (C.fl f) c (Vp C.P fn) (I6 fn (ds.map λd=>(d,.val)) []):=by simp only[Dr,A2E,hp,hf,hb,O3]
 rw[<- e];exact xL (λa h=>B0o.p _ _ _ h) (λa h=>A7h.p _ _ _ h)
def C3A{p:Cut}(hp:C.eZ f=some p)(hf:C.P.funcs[f]?=some fn)(hb:fn.body=some c):
 (run C).p f ds=UI C (run C) (C.fl f) (qm C (run C) (C.fl f) p (Vp C.P fn)) [] (Nq p.pre .skip) (I6 fn (ds.map λd=>(d,.val)) []):=by
 rw[A97];have e:(Dr C (run C)).p f ds=AC C (run C) (C.fl f) (Nq p.pre .skip) (qm C (run C) (C.fl f) p (Vp C.P fn)) (I6 fn (ds.map λd=>(d,.val)) []):=by simp only[Dr,A2E,hp,hf,hb,O3]
 rw[<- e];exact xL (λa h=>B0o.p _ _ _ h) (λa h=>A7h.p _ _ _ h)
def C3B{s:D_}{rs:List (DV×H6)}{sg:List H7}(hs:C.sig f=some s)(hf:C.P.funcs[f]?=some fn)(hb:fn.body=some c)(hp:C.C1i f=none:=by rfl):
 (run C).r f rs sg=UI C (run C) (C.fl f) (mY C.P fn s) [] c (I6 fn rs sg):=by
 rw[A97];have e:(Dr C (run C)).r f rs sg=AC C (run C) (C.fl f) c (mY C.P fn s) (I6 fn rs sg):=by simp only[Dr,hs,hf,hb,O3]
 rw[<- e];exact xL (λa h=>B0o.r _ _ _ _ h) (λa h=>A7h.r _ _ _ _ h)
variable {β : Type}
def C7y{x y:Option α}(h:x=y)(f : α->Option β):ob x f=ob y f:=by rw[h]
def C7D{x y:Bool}(h:x=y)(f:Option β):og x f=og y f:=by rw[h]
def C6g{x y:DV}(h:x=y)(a b:Option β):F3 x a b=F3 y a b:=by rw[h]
def C6f{x y:DV}(h:x=y)(a b c:Option β):K3 x a b c=K3 y a b c:=by rw[h]
theorem C3c(x y:Option β):F3 (.bool true) x y=x:=rfl
theorem C3b(x y:Option β):F3 (.bool false) x y=y:=rfl
theorem C3a(x y z:Option β):K3 (.bool true) x y z=x:=rfl
theorem C29(x y z:Option β):K3 (.bool false) x y z=y:=rfl
noncomputable def bL(sz kf:Nat):List DV->Option (List DV):=Mw λd=>match d with
 |.agg cs=>VH sz kf cs
 |_=>none
def B9F{sz kf:Nat}{cs l:List DV}(h:cs.length=sz)(hk:cs.getD kf .undef=.list sz ds)(hl:ds.length<=J9)(hs:bL sz kf ds=some l):VH sz kf cs=some (.agg cs::l):=by
 have key:∀(ds l:List DV),bL sz kf ds=some l->∃n,Mw (CY sz kf n) ds=some l:=by
  intro ds;induction ds with
  |nil=>intro l h;exact⟨0,h⟩
  |cons d ds ih=>
    intro l h;simp only[bL,Mw]at h;obtain⟨a,h1,h5⟩:=D8 h;obtain⟨b,h2,h6⟩:=D8 h5;obtain⟨m,hm⟩:=ih b h2;cases d with
    |agg cs=>
      simp only at h1;obtain⟨n,hn⟩:=xZ h1;refine⟨n+m,?_⟩;simp only[Mw,ZR (zsq n m) hn,g_ (λd l h=>ZR (ztq m n) h) hm,O3]
      exact h6
    |_=>simp at h1
 obtain⟨n,hn⟩:=key ds l hs;refine A60 (n:=n+1) ?_;rw[CY,hk];simp only[h,beq_self_eq_true,Bool.true_and,decide_eq_true hl,hn,O3,X5]
theorem B7H(sz kf:Nat):bL sz kf []=some []:=rfl
theorem A6v(sz kf:Nat)(cs:List DV)(ds:List DV):bL sz kf (.agg cs::ds)=ob (VH sz kf cs) λa=>ob (bL sz kf ds) λb=>some (a++b):=rfl
noncomputable def flatK(sz kf:Nat)(cs:List DV):DV->Option (List DV)
 |.list s ds=>og (s==sz&&decide (ds.length<=J9)) (ob (bL sz kf ds) λl=>some (.agg cs::l))
 |_=>none
def C1r{sz kf n:Nat}:∀{ds l:List DV},Mw (CY sz kf n) ds=some l->bL sz kf ds=some l:=by
 intro ds;induction ds with
 |nil=>intro l h;exact h
 |cons d ds ih=>
   intro l h;simp only[Mw]at h;obtain⟨a,h1,h2⟩:=D8 h;obtain⟨b,h3,h4⟩:=D8 h2;cases d with
   |agg cs=>rw[A6v,A60 h1,ih h3];exact h4
   |_=>cases n<;>simp[CY]at h1
def C1q(sz kf:Nat)(cs:List DV):VH sz kf cs=og (cs.length==sz) (flatK sz kf cs (cs.getD kf .undef)):=by
 refine xL (λl h=>?_) λl h=>?_
 ·obtain⟨n,hn⟩:=xZ h;cases n with
  |zero=>simp[CY]at hn
  |succ n=>
    rw[CY]at hn;obtain⟨h1,hn⟩:=I9 hn;rw[h1];cases hk:cs.getD kf .undef with
    |list s ds=>rw[hk]at hn;simp only at hn;obtain⟨h2,hn⟩:=I9 hn;obtain⟨a,h3,h4⟩:=D8 hn;simp only[flatK,h2,X5,C1r h3,O3];exact h4
    |_=>rw[hk]at hn;simp at hn
 ·obtain⟨h1,h⟩:=I9 h;cases hk:cs.getD kf .undef with
  |list s ds=>rw[hk]at h;simp only[flatK]at h;obtain⟨h2,h⟩:=I9 h;obtain⟨a,h3,h4⟩:=D8 h;simp only[z3q,F5,beq_iff_eq]at h2 h1;obtain⟨rfl,h2⟩:=h2;simp only[D9]at h4;rw[<- h4];exact B9F h1 hk h2 h3
  |_=>rw[hk]at h;simp[flatK]at h
def C7A{x y:Option (List DV×List H7)}(h:x=y)(k:DV->List H7->Option α):oc x k=oc y k:=by rw[h]
theorem C7B(v:DV)(l:List DV)(s:List H7)(k:DV->List H7->Option α):oc (some (v::l,s)) k=k v s:=rfl
end Go.Su

/-
 THE DATA MACHINE, part 36: a map's keys, collected by a loop and sorted.
-/
namespace Go.Su
set_option linter.defProp false
open Go.Sort
def MM:DV->List UInt8
 |.str s=>s.data.toList
 |_=>[]
def C2s(l:List UInt8):DV:=.str ⟨l.toArray⟩
def Jz(l:List (List UInt8)):List (List UInt8):=l.mergeSort λx y=>decide (x<=y)
def Om(es:List (DV×DV)):DV:=.list 1 ((Jz (es.map λe=>MM e.1)).map C2s)
def blank(n k:Nat):St:={ tm:=List.replicate n .undef,mt:=List.replicate n .val,bx:=List.replicate n none,sg:=List.replicate k (.arr 1 []) }
structure GU where
 type:TypeId
 pos:String
 after:Array Edge
def GU.mk'(r:GU)(dst:Option Nat)(op:Op):Oper:=⟨dst,op,r.type,r.pos,r.after,none⟩
structure KP where
 pre6:List Oper
 vo:GU
 A9r:GU
 B8p:GU
 A9q:GU
 B27:GU
 B8o:GU
 rMv:GU
 B8q:GU
 rBs:GU
 B8n:GU
 B26:GU
 B4y:GU
 A4y:GU
 i6:Nat
 b0:Nat
 i7:Nat
 b1:Nat
 i8:Nat
 i9:Nat
 i10:Nat
 it:Nat
 mm:Nat
 t21:Nat
 t22:Nat
 t23:Nat
 t24:Nat
 tk:Nat
 t25:Nat
 t26:Nat
 t27:Nat
 t28:Nat
 tl:Nat
 t29:Nat
 t30:Nat
 tm:TypeId
 ts:TypeId
 te:TypeId
 kt:TypeId
 vt:TypeId
 f:FuncId
variable (q:KP)(post:Code)
def KP.code:Code :=
 .seq (.seq (.region q.i6 (q.pre6++[q.vo.mk' (some q.it) (.range q.tm (.tmp q.mm))]).toArray false)
  (.block q.b0 (.loop (.seq (.region q.i7 #[q.A9r.mk' (some q.t21) (.next (.tmp q.it) false),q.B8p.mk' (some q.t22) (.extract (.tmp q.t21) 0)] false)
    (.seq (.cond (.tmp q.t22) .skip (.exit q.b0))
      (.block q.b1 (.seq (.region q.i8 #[q.A9q.mk' (some q.t23) (.entry (.tmp q.it)),q.B27.mk' (some q.t24) (.extract (.tmp q.t23) 0),q.B8o.mk' (some q.tk) (.assign (.tmp q.t24))] false)
        (.region q.i9 #[q.rMv.mk' (some q.t25) (.move (.tmp q.tl)),q.B8q.mk' (some q.t26) (.move (.tmp q.tk)),q.rBs.mk' (some q.t27) (.buildSlice q.ts 1 #[(0,.tmp q.t26)]),q.B8n.mk' (some q.t28) (.call { callee:=.builtin .append,args := #[.tmp q.t25,.tmp q.t27],argTypes := #[q.ts,q.ts] }),q.B26.mk' (some q.tl) (.assign (.tmp q.t28))] false))))))))
  (.seq (.region q.i10 #[q.B4y.mk' (some q.t29) (.move (.tmp q.tl)),q.A4y.mk' (some q.t30) (.call { callee:=.value (.func q.f),args := #[.tmp q.t29],argTypes := #[q.ts] })] false) post)
variable (P:Program)
def xB:AB:={ P:=P,fl:=λ_=>{},sig:=λ_=>none,eZ:=λ_=>none,clone:=λ_=>false,tK:=λ_=>0 }
def B3x:U1:={ p:=λ_ _=>none,r:=λ_ _ _=>none }
def C5v:GI (xB P) B3x:=⟨λ_ _ _ h=>by simp[B3x]at h,λ_ _ _ _ h=>by simp[B3x]at h,λ_ h=>by simp[xB]at h,λ_ _ h=>by simp[xB]at h,λ_ _ h=>by simp[xB]at h⟩
def B6O:DV×H6->Bool
 | (.list _ [],.full)=>true
 |_=>false
def KP.AA:List Nat:=[q.it,q.t21,q.t22,q.t23,q.t24,q.tk,q.t25,q.t26,q.t27,q.t28,q.tl,q.t29,q.t30]
def C22:H6->Option Nat
 |.map i=>some i
 |_=>none
def xP{X:Type}(C:AB)(R:U1):List Oper->St->(St->Option X)->Option X
 |[],st,k=>k st
 |o::os,st,k=>
   match o.guard with
   |none=>K8 C R {} o st λst=>xP C R os st k
   |some _=>none
variable {X:Type}
def KP.B4l(q:KP)(st:St)(k:St->Option X):Option X :=
 xP (xB P) B3x q.pre6 st λst1=>
  ob (C22 (st1.get q.mm).2) λi=>ob (X0 st1.sg i) λp=>og (p.1&&B6O (st1.get q.tl)&&q.AA.all (λt=>decide (t<st1.tm.length)))
   (if p.2.length<=J9 then k ((blank st1.tm.length st1.sg.length).put (some q.tl) (Om p.2) .val)else none)
def KP.mid(q:KP)(st:St):Option St:=q.B4l P st some
variable {fl:I5}
def C3z{Y:Type}{C:AB}{R:U1}{o:Oper}{st:St}(f:St->Option X)(k:X->Option Y):K8 C R fl o st (λs=>ob (f s) k)=ob (K8 C R fl o st f) k:=by
 cases h:K8 C R fl o st f with
 |some y=>obtain⟨s,h1,h2⟩:=Vd h;rw[h2,h1]
 |none=>
   cases h':K8 C R fl o st (λs=>ob (f s) k)with
   |none=>rfl
   |some x=>obtain⟨s,h1,h2⟩:=Vd h';rw[h2 _ f]at h;rw[h]at h1;exact h1.symm
theorem B3I{X Y:Type}{C:AB}{R:U1}(f:St->Option X)(k:X->Option Y):∀(os:List Oper)(st:St),xP C R os st (λs=>ob (f s) k)=ob (xP C R os st f) k
 |[],st=>rfl
 |o::os,st=>by
   simp only[xP];cases o.guard with
   |none=>simp only;rw[<- C3z];congr 1;funext s;exact B3I f k os s
   |some g=>rfl
def B1e{X:Type}{C:AB}{R:U1}{ops:List Oper}{k:St->Option X}{x:X}:∀{os:List Oper}{st:St},xP C R os st k=some x->Eh C R {} ops os st k=some x
 |[],st,H=>H
 |o::os,st,H=>by
   simp only[xP]at H;simp only[Eh,Xu];cases hg:o.guard with
   |none=>rw[hg]at H;simp only at H ⊢;obtain⟨s,h1,h2⟩:=Vd H;rw[h2];exact B1e h1
   |some g=>rw[hg]at H;cases H
variable (x:Option X)
theorem C28{Y Z:Type}(f:X->Option Y)(g:Y->Option Z):ob (ob x f) g=ob x λa=>ob (f a) g:=by cases x<;>rfl
theorem C7z{Y:Type}(b:Bool)(x:Option X)(g:X->Option Y):ob (og b x) g=og b (ob x g):=by cases b<;>rfl
theorem C3U(q:KP)(st:St)(k:St->Option X):q.B4l P st k=ob (q.mid P st) k:=by unfold KP.mid KP.B4l;rw[<- B3I];congr 1;funext s;rw[C28];congr 1;funext i;rw[C28];congr 1;funext p;rw[C7z];congr 1;split<;>rfl
noncomputable def C1P(C:AB)(R:U1)(fl:I5)(q:KP)(post:Code)(K:Out->St->Option X):Out->St->Option X
 |.normal,st=>q.B4l C.P st λst=>AC C R fl post K (clean fl post st)
 |.exit _,_=>none
 |.ret,st=>K .ret st
theorem C3N{C:AB}{R:U1}{q:KP}{p:Cut}{K:Out->St->Option X}(h:p.mid=q.mid C.P):qm C R fl p K=C1P C R fl q p.post K:=by
 funext o st;cases o with
 |normal=>simp only[qm,C1P,C3U,h]
 |exit i=>rfl
 |ret=>rfl
structure KP.Ok(P:Program)(q:KP):Prop where
 nodup:q.AA.Nodup
 hm:P.underlying q.tm=some (.map q.kt q.vt)
 hs:P.underlying q.ts=some (.slice q.te)
 info:∃i z,P.info? q.te=some i/\i.zero=some z/\z.cells.size=1/\i.size=1/\i.bytes=16
 go:isGo P q.f=true
 sort:∀(blk off cap:Nat)(ss:List (List UInt8))(w:World),Holds Go.Proofs.encStr w blk off ss.toArray->blk<w.heap.size->ss.length<4611686018427387904->Calls P q.f #[.slice (some ⟨blk,off,none⟩) ss.length cap] w λe w'=>e=.returned (.tuple #[])/\∃n os,w'=grow (putRow Go.Proofs.encStr (Sort.ahead w n) blk off (ss.mergeSort λx y=>decide (x<=y)).toArray) os
 C3j:∀(p:Option Addr)(cap:Nat)(w:World),Calls P q.f #[.slice p 0 cap] w λe w'=>e=.returned (.tuple #[])/\w'=w
variable {a:Act}{t:Nat}{v:Value}
def Ei(h:t<a.tmps.size):(a.put (some t) v).eval (.tmp t)=v:=by simp[Act.put,Act.eval,zyq,zuq h]
def Y2{u:Nat}(h:t≠u):(a.put (some t) v).eval (.tmp u)=a.eval (.tmp u):=by simp[Act.put,Act.eval,zyq,zqq h]
section
variable {P:Program}{n:Nat}{ops:Array Oper}{Q:Exit->Act->World->Prop}{a:Act}{w w':World}{o:Oper}{rest:List Oper}{v:Value}
def FQ(hg:o.guard=none)(hd:∀c,o.op ≠ .defer c)(hr:(execOp a.eval o).run P w=.ok (.value v) w')(hk:wpListIn (EI none) n P ops Q rest (a.put o.dst v) w'):wpListIn (EI none) n P ops Q (o::rest) a w :=wpListIn_plain hg λK hK=>Gp.wpIn hd (BM hr (hK _ _ hk))
variable {r:GU}
def b_{u:Nat}(hk:wpListIn (EI none) n P ops Q rest (a.put (some t) (a.eval (.tmp u))) w):wpListIn (EI none) n P ops Q (r.mk' (some t) (.move (.tmp u))::rest) a w :=FQ rfl (λc h=>by cases h) (by simp[GU.mk',execOp]) hk
def rq{u:Nat}(hk:wpListIn (EI none) n P ops Q rest (a.put (some t) (a.eval (.tmp u))) w):wpListIn (EI none) n P ops Q (r.mk' (some t) (.assign (.tmp u))::rest) a w :=FQ rfl (λc h=>by cases h) (by simp[GU.mk',execOp]) hk
def nG{u:Nat}{vs:Array Value}{x:Value}(hv:a.eval (.tmp u)=.tuple vs)(hx:vs[0]?=some x)(hk:wpListIn (EI none) n P ops Q rest (a.put (some t) x) w):
 wpListIn (EI none) n P ops Q (r.mk' (some t) (.extract (.tmp u) 0)::rest) a w:=by
 refine FQ (v:=x) rfl (λc h=>by cases h) ?_ hk;simp[GU.mk',execOp,hv,Instr.extract,hx]
variable {i:TypeInfo}{z:Value}{l:List UInt8}
theorem B2P{u:Nat}{ts te:TypeId}(hs:P.underlying ts=some (.slice te))(hi:P.info? te=some i)(hz:i.zero=some z)(Hu:z.cells.size=1)(Na:i.size=1)(hv:a.eval (.tmp u)=Go.Proofs.encStr l)(hk:wpListIn (EI none) n P ops Q rest (a.put (some t) (.slice (some ⟨w.heap.size,0,none⟩) 1 1)) (w.alloc (.cells #[Go.Proofs.encStr l] te))):
 wpListIn (EI none) n P ops Q (r.mk' (some t) (.buildSlice ts 1 #[(0,.tmp u)])::rest) a w:=by
 refine FQ (v:=.slice (some ⟨w.heap.size,0,none⟩) 1 1) rfl (λc h=>by cases h) ?_ hk;simp only[GU.mk',execOp];refine Bf ?_;obtain⟨c,hc⟩:∃c,z.cells=#[c]:=Array.size_eq_one_iff.1 Hu;have hf:Instr.fill (λi=>some (i * 1,1)) ((Array.range (1 * 1)).map (z.cells[· % z.cells.size]!)) [(0,Go.Proofs.encStr l)]=some #[Go.Proofs.encStr l]:=by
  have h1:(Array.range (1 * 1)).map (z.cells[· % z.cells.size]!)=#[c]:=by
   apply Array.ext (by simp);intro i h1 h2;have:i=0:=by simp at h2;omega
   subst this;simp[hc]
  rw[h1];rfl
 unfold Instr.buildSlice;have Ak:(sizeOf te).run P w=.ok 1 w:=by simp[sizeOf,typeInfo,hi,Na]
 simp only[Sem.run_bind,run_underlying hs,Result.andThen_ok,Ak,Sem.run_ite];rw[C8 (by omega),C8 (by omega)];simp only[zeroValue,typeInfo,Sem.run_bind,run_program,Result.andThen_ok,hi,Sem.run_pure,hz];have:(Array.map (λx=>(x.1,a.eval x.2)) #[(0,Operand.tmp u)]).toList=[(0,Go.Proofs.encStr l)]:=by simp[hv]
 simp only[this,hf];rfl
def Row(w:World)(base:Nat)(te:TypeId)(v:Value)(ss:List (List UInt8)):Prop :=(ss=[]/\∃p,v=.slice p 0 0)\/w.ownsRow base te 1 v ss.length (ss.map Go.Proofs.encStr)
def append_nil{ts te ty:TypeId}(hs:P.underlying ts=some (.slice te))(hi:P.info? te=some i)(Na:i.size=1)(hb:i.bytes=16)(p:Option Addr)(y:Addr)(w:World):
 (Builtin.append_ #[ts,ts] ty #[.slice p 0 0,.slice (some y) 1 1]).run P w=(Builtin.append_ #[ts,ts] ty #[.slice none 0 0,.slice (some y) 1 1]).run P w:=by
 have A3y:¬(281474976710656<Builtin.nextslicecap 1 0 * 16):=by decide
 cases p with
 |none=>rfl
 |some q=>have hl:∀w',(loadCells q 0).run P w'=.ok #[] w':=λw'=>rfl;unfold Builtin.append_;simp[run_underlying hs,sizeOf,typeInfo,hi,Na,hb,Builtin.lenOf,Builtin.firstCells,A3y,hl]
variable {base:Nat}{ss:List (List UInt8)}
theorem B6u{s x:Nat}{ts te:TypeId}{g:Nat}(hs:P.underlying ts=some (.slice te))(hi:P.info? te=some i)(hz:i.zero=some z)(Hu:z.cells.size=1)(Na:i.size=1)(hb:i.bytes=16)(xn:Row w base te (a.eval (.tmp s)) ss)(hx:a.eval (.tmp x)=.slice (some ⟨g,0,none⟩) 1 1)(hg:w.heap[g]?=some (.cells #[Go.Proofs.encStr l] te (0,0)))(hl:ss.length+1<=J9)(xg:base<=w.heap.size)(hk:∀v' w',Row w' base te v' (ss++[l])->(∃row,w.grownBy w' row/\∀k,row=some k->base<=k/\∃c T f,w.heap[k]?=some (.cells c T f))->wpListIn (EI none) n P ops Q rest (a.put (some t) v') w'):
 wpListIn (EI none) n P ops Q (r.mk' (some t) (.call { callee:=.builtin .append,args := #[.tmp s,.tmp x],argTypes := #[ts,ts] })::rest) a w:=by
 have hl':ss.length+1<=4294967296:=hl;have IZ:∀(j:Nat) u,[Go.Proofs.encStr l][j]?=some u->w.cell? ((⟨g,0,none⟩:Addr).add j)=some u:=by
  intro j u hu;cases j with
  |zero=>simp only[ziq,D9]at hu;subst hu;simp[World.cell?,Addr.add,hg]
  |succ j=>simp at hu
 have fin:∀(v0:Value),w.ownsRow base te 1 v0 ss.length (ss.map Go.Proofs.encStr)->(Builtin.append_ #[ts,ts] r.type #[a.eval (.tmp s),.slice (some ⟨g,0,none⟩) 1 1]).run P w=(Builtin.append_ #[ts,ts] r.type #[v0,.slice (some ⟨g,0,none⟩) 1 1]).run P w->
  wpListIn (EI none) n P ops Q (r.mk' (some t) (.call { callee:=.builtin .append,args := #[.tmp s,.tmp x],argTypes := #[ts,ts] })::rest) a w:=by
  intro v0 xn he;obtain⟨v',w',h1,h2,h3,-⟩:=run_append_own (P:=P) w base ts r.type te i z 1 16 hs hi hz Na hb Hu (by omega) v0 _ _ xn ⟨g,0,none⟩ 1 1 [Go.Proofs.encStr l] rfl IZ (by simp[Value.oneCell']) (by unfold maxLen;omega) (by omega) xg;refine FQ (v:=v') (w':=w') rfl (λc h=>by cases h) ?_ (hk v' w' (.inr (by simpa using h2)) ⟨_,h3,λk hk=>?_⟩)
  ·refine Ga (C:=xB P) (b:=.append) rfl rfl ?_;simp only[zSq,z9q,zEq,hx];exact Bf (he.trans h1)
  ·rcases xn.2 with⟨rfl,_⟩ | ⟨g',cap,cur,rfl,e1,e2,-⟩
   ·simp[Value.ownBlock]at hk
   ·simp only[Value.ownBlock,D9]at hk;subst hk;exact⟨e1,_,_,_,e2⟩
 rcases xn with⟨bR,p,hv⟩ | xn
 ·subst bR;exact fin (.slice none 0 0) ⟨rfl,.inl ⟨rfl,rfl⟩⟩ (by rw[hv];exact append_nil hs hi Na hb _ _ _)
 ·exact fin _ xn rfl
end
def Db(e:MapEntry):List UInt8 :=
 match e.key with
 |.string s=>s.data.toList
 |_=>[]
structure Und(q:KP)(a1:Act)(w1:World)(ens:Array MapEntry)(clk bm:Nat)(m:Nat)(got:List MapEntry)(a:Act)(w:World):Prop where
 size:a.tmps.size=a1.tmps.size
 defers:a.defers=a1.defers
 it:a.eval (.tmp q.it)=.pointer (some ⟨w1.heap.size,0,none⟩)
 row:Row w w1.heap.size q.te (a.eval (.tmp q.tl)) (got.map Db)
 iter:w.heap[w1.heap.size]?=some (.mapIter (some bm) clk (got.map (·.born)).toArray clk)
 mem:∀e∈got,e∈ens.toList
 nodup:(got.map (·.born)).Nodup
 len:(leftOf ens (got.map (·.born)).toArray).size<=m
 grown:w1.grownBy w none
variable {w:World}
def pF{w0 w':World}{row:Option Nat}(h:w0.grownBy w none)(g:w.grownBy w' row)(hb:∀k,row=some k->w0.heap.size<=k):w0.grownBy w' none:=by refine⟨g.os.trans h.os,g.tape.trans h.tape,g.output.trans h.output,zTq h.size g.size,λk hk _=>?_⟩;have h1:=h.block k hk (by simp);rw[<- h1];refine g.block k (y0q hk h.size) λhe=>?_;have:=hb k he.symm;omega
def B7O{w':World}(h:w'.heap=w.heap)(o:W9 w w'):w.grownBy w' none:=⟨o.os,o.tape,o.output,by rw[h];exact z8q _,λk _ _=>by rw[h]⟩
def B9M{b:Nat}{o:Obj}{w0:World}(h:w0.grownBy w none)(hb:w0.heap.size<=b):w0.grownBy (Go.ChangeMaps.setBlock w b o) none :=⟨h.os,h.tape,h.output,by simpa[Go.ChangeMaps.setBlock]using h.size,λk hk _=>by simp only[Go.ChangeMaps.setBlock];rw[zqq (by omega)];exact h.block k hk (by simp)⟩
def Row.kept{w':World}{base:Nat}{te:TypeId}{ss:List (List UInt8)}(h:Row w base te v ss)(hk:∀(b:Nat) c T f,w.heap[b]?=some (Obj.cells c T f)->w'.heap[b]?=some (Obj.cells c T f)):Row w' base te v ss:=by
 rcases h with h | ⟨h1,h2⟩
 ·exact .inl h
 ·refine .inr ⟨h1,?_⟩;rcases h2 with h2 | ⟨g,cap,cur,e1,e2,e3,e4⟩
  ·exact .inl h2
  ·exact .inr ⟨g,cap,cur,e1,e2,hk _ _ _ _ e3,e4⟩
def A3H{α β : Type}(f : α -> β){l:List α}(h:(l.map f).Nodup):l.Nodup:=List.Pairwise.of_map f (λa b hn he=>hn (by rw[he])) h
def A02{α : Type}[DecidableEq α]:∀{l m:List α},l.Nodup->(∀x∈l,x∈m)->l.length<=m.length
 |[],m,_,_=>Nat.zero_le _
 |a::l,m,hn,hs=>by obtain⟨h1,h2⟩:=ykq.1 hn;have h3:=A02 (m:=m.erase a) h2 λx hx=>(List.mem_erase_of_ne (λh:x=a=>h1 (by rw[<- h];exact hx))).2 (hs x (z4q _ hx));have h4:=hs a (z5q ..);have h5:=zPq h4;rw[List.length_erase_of_mem h4]at h3;simp only[zcq];omega
def B9Y{es:Array MapEntry}{l:List Nat}{e:MapEntry}(he:e∈(leftOf es l.toArray).toList):(leftOf es (l++[e.born]).toArray).size<(leftOf es l.toArray).size:=by
 unfold leftOf at he ⊢;rw[y6q]at he;have Ak:∀p:MapEntry->Bool,(es.filter p).size=(es.toList.filter p).length:=λp=>by rw[<- y6q,y4q]
 rw[Ak,Ak];have h1:es.toList.filter (λx=> !(l++[e.born]).toArray.contains x.born)=(es.toList.filter λx=> !l.toArray.contains x.born).filter λx=>x.born != e.born:=by rw[List.filter_filter];refine List.filter_congr λx _=>?_;simp only[List.contains_toArray,List.contains_append,Bool.not_or];rw[Bool.and_comm];congr 1;by_cases h:x.born=e.born<;>simp[h]
 rw[h1];refine Nat.lt_of_not_le λM3=>?_;have h2:=List.length_filter_le (λx:MapEntry=>x.born != e.born) (es.toList.filter λx=> !l.toArray.contains x.born);have h3:=List.length_filter_eq_length_iff.1 (Nat.le_antisymm h2 M3) e he;simp at h3
set_option maxHeartbeats 2000000 in
def C3O{P:Program}{q:KP}(ok:q.Ok P){post:Code}{n:Nat}{E:Env}{st st2:St}{Q:Exit->Act->World->Prop}(Rl:M9 E st a w.heap)(H:q.mid P st=some st2)(K:∀E' a' w',a'.defers=a.defers->M9 E' st2 a' w'.heap->Pr Q4 E w.heap E' w'.heap->W9 w w'->post.wpIn (EI none) n P Q a' w'):(q.code post).wpIn (EI none) n P Q a w:=by
 unfold KP.mid KP.B4l at H;refine wpIn_seq (wpIn_seq (wpIn_region ?_));have hr:List.range (q.pre6++[q.vo.mk' (some q.it) (.range q.tm (.tmp q.mm))]).toArray.size=List.range' 0 q.pre6.length++[q.pre6.length]:=by simp[List.range_succ,List.range_eq_range']
 rw[hr];refine B69 (C:=xB P) (R:=B3x) (ops:=q.pre6++[q.vo.mk' (some q.it) (.range q.tm (.tmp q.mm))]) (C5v P) (λj o ho=>?_) (B1e H) Rl λE1 st1 a1 w1 h1 d1 R1 P1 O1=>?_
 ·rw[zoq,zlq (z0q.1 ho).1];exact ho
 obtain⟨i,hi,h1⟩:=D8 h1;obtain⟨p,hp,h1⟩:=D8 h1;obtain⟨hc,h1⟩:=I9 h1;obtain⟨lY,h1⟩:=O7 h1;simp only[D9]at h1;subst h1;simp only[z3q]at hc;obtain⟨⟨Ny,Vj⟩,C7p⟩:=hc;have eX:∀t∈q.AA,t<a1.tmps.size:=λt ht=>by have:=z7q.1 C7p t ht;rw[R1.size];simpa using this
 have em:=R1.src (P:=P) (t:=0) (x:=.tmp q.mm) rfl;have hmm:(st1.get q.mm).2=.map i:=by revert hi;cases(st1.get q.mm).2<;>simp[C22]
 rw[hmm]at em;simp only[RR,O0]at em;obtain⟨Qa,em⟩:=em;have bQ:st1.sg[i]?=some (.map p.1 p.2):=by
  unfold X0 at hp;split at hp
  ·rename_i h;simp only[D9]at hp;subst hp;exact h
  ·cases hp
 have hRO:=R1.V8 i _ bQ;simp only[RO]at hRO;obtain⟨ens,clk,b1,b2,⟨b3,b4⟩,b5,b6⟩:=hRO;have el:=R1.src (P:=P) (t:=0) (x:=.tmp q.tl) rfl;have WJ:∃p,a1.eval (.tmp q.tl)=.slice p 0 0:=by
  revert el Vj;cases(st1.get q.tl)with
  |mk d m=>
    intro Vj el;unfold B6O at Vj;split at Vj
    ·rename_i sz heq;simp only[Prod.mk.injEq]at heq;obtain⟨rfl,rfl⟩:=heq;simp only[RR,O0,RV,RC]at el;obtain⟨⟨a0,len,cap,h1,h2,-⟩,⟨a1',n1,h3⟩,-⟩:=el;simp only[List.cons.injEq,and_true]at h1;rw[h1]at h3;simp only[Value.slice.injEq]at h3;obtain⟨-,rfl,rfl⟩:=h3;simp only[yjq]at h2;subst h2;exact⟨a0,h1⟩
    ·cases Vj
 obtain⟨inf,z,t1,t2,t3,t4,t5⟩:=ok.info;have Xy:∀(j:Nat) e,ens[j]?=some e->∃d,p.2[j]?=some d/\e.key=Go.Proofs.encStr (Db e)/\Db e=MM d.1:=by
  intro j e he;have hj:j<p.2.length:=by rw[b3];exact(z2q.1 he).1
  obtain⟨c1,c2,-⟩:=b4 j p.2[j] e (z1q hj) he;refine⟨_,z1q hj,?_⟩;rw[Ny]at c1;revert c1 c2;cases p.2[j].1<;>simp only[Ao,RV,yaq,Bool.false_and,zeq,false_implies,imp_false]<;>try (intro h;cases h)
  rename_i s
  all_goals (intro hk;simp[Db,MM,hk,Go.Proofs.encStr])
 have C7j:∀e∈ens.toList,e.key=Go.Proofs.encStr (Db e):=λe he=>by obtain⟨j,hj,hje⟩:=zzq.1 he;obtain⟨_,_,h,_⟩:=Xy j e (by rw[zpq (by simpa using hj)];simpa using hje);exact h
 have C7k:ens.toList.map Db=p.2.map λe=>MM e.1:=by
  apply List.ext_getElem?;intro j;simp only[zaq,znq];cases he:ens[j]? with
  |none=>
    have:p.2[j]?=none:=by rw[List.getElem?_eq_none_iff,b3];exact Array.getElem?_eq_none_iff.1 he
    rw[this];rfl
  |some e=>obtain⟨d,h1,-,h2⟩:=Xy j e he;rw[h1];simp[h2]
 have C2R:(ens.toList.map (·.born)).Nodup:=by rw[List.nodup_iff_pairwise_ne,List.pairwise_iff_getElem];intro i j hi hj PM he;simp only[zIq]at hi hj;simp only[ygq]at he;have:=b6 i j _ _ (by rw[<- znq];exact z1q hi) (by rw[<- znq];exact z1q hj) he;omega
 have C1H:∀x∈ens.toList,∀y∈ens.toList,x.born=y.born->x=y:=by intro x hx y hy he;obtain⟨i,hi,rfl⟩:=zzq.1 hx;obtain⟨j,hj,rfl⟩:=zzq.1 hy;have:=b6 i j _ _ (by rw[<- znq];exact z1q hi) (by rw[<- znq];exact z1q hj) he;subst this;rfl
 have hbm:E1.obj i<w1.heap.size:=(z2q.1 b1).1;have C9D:ens.size<=J9:=by rw[<- b3];exact lY
 rw[wpOpsIn_cons];unfold wpOpIn;have ho:(q.pre6++[q.vo.mk' (some q.it) (.range q.tm (.tmp q.mm))]).toArray[q.pre6.length]?=some (q.vo.mk' (some q.it) (.range q.tm (.tmp q.mm))):=by simp
 simp only[ho];rw[D5 (by simp[Region.wanted,GU.mk'])];refine Gp.wpIn (λc h=>by cases h) (BM (v:=.pointer (some ⟨w1.heap.size,0,none⟩)) (w':=w1.alloc (.mapIter (some (E1.obj i)) clk #[] clk)) ?_ ?_)
 ·simp only[GU.mk',execOp]
  refine Bf ?_;rw[em];exact run_range_map w1 _ _ _ _ _ _ ok.hm b1
 show Code.wpIn _ _ _ _ _ _ _;have hn:=ok.nodup;simp only[KP.AA,ykq,ybq,List.not_mem_nil,or_false,not_or,List.nodup_nil,and_true]at hn;obtain⟨⟨n1,n2,n3,n4,n5,n6,n7,n8,n9,n10,n11,n12⟩,⟨-,m2,m3,m4,m5,m6,m7,m8,m9,m10,m11⟩,⟨l1,l2,l3,l4,l5,l6,l7,l8,l9,l10⟩,⟨k1,k2,k3,k4,k5,k6,k7,k8,k9⟩,⟨-,j2,j3,j4,j5,j6,j7,j8⟩,⟨i1,i2,i3,i4,i5,i6,i7⟩,⟨g1,g2,g3,g4,g5,g6⟩,⟨-,f2,f3,f4,f5⟩,⟨-,e2,e3,e4⟩,⟨d1',d2,d3⟩,⟨c1,c2⟩,_⟩:=hn;have B66:=eX q.tl (by simp[KP.AA]);have C4l:=eX q.it (by simp[KP.AA]);have B64:=eX q.t21 (by simp[KP.AA]);have B65:=eX q.t22 (by simp[KP.AA]);have C4e:=eX q.t23 (by simp[KP.AA]);have C4f:=eX q.t24 (by simp[KP.AA]);have C6y:=eX q.tk (by simp[KP.AA]);have C4g:=eX q.t25 (by simp[KP.AA]);have C4h:=eX q.t26 (by simp[KP.AA]);have C4i:=eX q.t27 (by simp[KP.AA]);have C4j:=eX q.t28 (by simp[KP.AA]);have C4k:=eX q.t29 (by simp[KP.AA]);have C6q:q.t21≠q.it:=λh=>n1 h.symm;have C6r:q.t22≠q.it:=λh=>n2 h.symm;have C8V:q.t23≠q.it:=λh=>n3 h.symm;have C8W:q.t24≠q.it:=λh=>n4 h.symm;have rki:q.tk≠q.it:=λh=>n5 h.symm;have C8X:q.t25≠q.it:=λh=>n6 h.symm;have C8Z:q.t26≠q.it:=λh=>n7 h.symm;have C80:q.t27≠q.it:=λh=>n8 h.symm;have C81:q.t28≠q.it:=λh=>n9 h.symm;have UZ:q.tl≠q.it:=λh=>n10 h.symm;have C8Y:q.t25≠q.tk:=λh=>i1 h.symm;have C7I:q.t26≠q.t25:=λh=>g1 h.symm;have C7J:q.t27≠q.t25:=λh=>g2 h.symm;have C82:q.t29≠q.tl:=λh=>c1 h.symm;have C83:q.t30≠q.tl:=λh=>c2 h.symm;have done:∀(O':Nat->Nat->Tag)(a3:Act)(w3:World)(v:Value),a3.tmps.size=a1.tmps.size->a3.defers=a1.defers->a3.eval (.tmp q.tl)=v->w1.grownBy w3 none->(∀b o,b<w1.heap.size->O' b o=E1.O b o)->
  (∀b o,w3.heap.size<=b->O' b o=.other)->RV (Env.S { E1 with O:=O' }) w3.heap (Om p.2) v->post.wpIn (EI none) n P Q a3 w3:=by
  intro O' a3 w3 v s1 s2 s3 s4 s5 s6 s7;have hblk:∀b,b<w1.heap.size->w3.heap[b]?=w1.heap[b]?:=λb hb=>s4.block b hb (by simp);refine K { E1 with O:=O' } a3 w3 (s2.trans d1) ⟨?_,?_,?_,?_,λt u hu=>?_,λs cs hs=>?_,λj ob hj=>?_,s6⟩ (P1.trans ⟨s4.size,λb hb=>by rw[hblk b hb];exact Y4.refl _ _,λb o hb _=>s5 b o hb,z8q _,λ_ _ _=>⟨rfl,rfl,rfl⟩,λ_ _=>rfl,Ee rfl⟩) (O1.trans ⟨s4.os,s4.tape,s4.output⟩)
  ·rw[YL];simp[blank,s1,R1.size]
  ·rw[B4x,YL];simp[blank]
  ·rw[ve,YL];simp[blank]
  ·rw[mU];simp only[blank,List.length_replicate];exact R1.n
  ·have xh:∀u,(blank st1.tm.length st1.sg.length).get u=(.undef,.val):=λu=>by
    simp only[St.get,blank,z6q,zhq]
    split<;>rfl
   by_cases ht:q.tl=t
   ·subst ht;rw[Rc (by simp[blank];rw[<- R1.size];exact B66) (by simp[blank])];have:u=v:=by rw[<- s3];simp[Act.eval,zyq,hu]
    rw[this];exact s7
   ·rw[ed ht,xh];simp only[RR,O0,RV]
  ·simp only[ve,blank,z6q,zhq]at hs;split at hs<;>simp at hs
  ·simp only[mU,blank,zhq]at hj;split at hj<;>simp at hj;subst hj;simp[RO]
 have fin:∀m got a2 w2,Und q a1 w1 ens clk (E1.obj i) m got a2 w2->(∀e∈ens.toList,e∈got)->(Code.seq (.region q.i10 #[q.B4y.mk' (some q.t29) (.move (.tmp q.tl)),q.A4y.mk' (some q.t30) (.call { callee:=.value (.func q.f),args := #[.tmp q.t29],argTypes := #[q.ts] })] false) post).wpIn (EI none) n P Q a2 w2:=by
  intro m got a2 w2 U ZT;have C7n:got.Perm ens.toList:=(List.perm_ext_iff_of_nodup (A3H _ U.nodup) (A3H _ C2R)).2 λe=>⟨U.mem e,ZT e⟩;have B9P:(got.map Db).Perm (p.2.map λe=>MM e.1):=by rw[<- C7k];exact C7n.map _
  have Bl:(got.map Db).length<=J9:=by rw[B9P.length_eq,zIq];exact lY
  have C2U:(got.map Db).length<=4294967296:=Bl;have C2W:Om p.2=.list 1 ((Jz (got.map Db)).map C2s):=by unfold Om;rw[show Jz (p.2.map λe=>MM e.1)=Jz (got.map Db)from mergeSort_of_perm B9P.symm]
  refine wpIn_seq (wpIn_region_list (show wpListIn _ _ _ _ _ [_,_] _ _ from b_ (wpListIn_plain rfl λK' hK'=>Gp.wpIn (λc h=>by cases h) ?_)));have aS:=U.size;have U7:(execOp (a2.put (some q.t29) (a2.eval (.tmp q.tl))).eval (q.A4y.mk' (some q.t30) (.call { callee:=.value (.func q.f),args := #[.tmp q.t29],argTypes := #[q.ts] }))).run P w2=.ok (.enter q.f #[a2.eval (.tmp q.tl)]) w2:=by have h29:(a2.put (some q.t29) (a2.eval (.tmp q.tl))).eval (.tmp q.t29)=a2.eval (.tmp q.tl):=Ei (by rw[aS];exact C4k);have hf:∀a:Act,a.eval (.func q.f)=.func (.func q.f) #[] #[]:=λa=>rfl;simp only[GU.mk',execOp,resolve,hf,h29,Deferred.ofValue,Sem.run_bind,Sem.run_pure,Result.andThen_ok,invoke,zSq,z9q,zEq];rw[mf ok.go];rfl
  have e3:∀u,(((a2.put (some q.t29) (a2.eval (.tmp q.tl))).put (some q.t30) u).eval (.tmp q.tl))=a2.eval (.tmp q.tl):=λu=>by rw[Y2 C83,Y2 C82]
  refine nJ (C:=xB P) U7 ?_;have row:=U.row;have nil:∀p0,got.map Db=[]->a2.eval (.tmp q.tl)=.slice p0 0 0->Calls P q.f #[a2.eval (.tmp q.tl)] w2 λe w'=>∃v,e=.returned v/\K' (((a2.put (some q.t29) (a2.eval (.tmp q.tl)))).put (some q.t30) v) w':=by intro p0 h0 hv;rw[hv];refine(ok.C3j p0 0 w2).mono ?_;rintro e w' ⟨rfl,rfl⟩;refine⟨_,rfl,hK' _ _ ?_⟩;rw[<- hv];refine done (λb o=>if b<w1.heap.size then E1.O b o else .other) _ _ _ (by rw[U3,U3,aS]) U.defers (e3 _) U.grown (λb o hb=>D5 hb) (λb o hb=>C8 (by have:=U.grown.size;omega)) ?_;rw[C2W,h0,hv,show Jz []=[]by simp[Jz]];exact OP rfl (z8q _) (λ_=>rfl) (λh=>absurd rfl h) λx hx=>⟨λh=>absurd h (Nat.lt_irrefl _),by simp only[zEq,Ez]⟩
  rcases row with⟨h0,p0,hv⟩ | ⟨-,⟨hv,h0⟩ | ⟨g,cap,cur,hv,xg,hb,hc1,hc2,hc3,hc4⟩⟩
  ·exact nil p0 h0 hv
  ·exact nil none (zdq h0) hv
  ·have hH:Holds Go.Proofs.encStr w2 g 0 (got.map Db).toArray:=Go.holds_of_block hb (by simpa using hc4);have hgl:g<w2.heap.size:=(z2q.1 hb).1;show Calls P q.f #[a2.eval (.tmp q.tl)] w2 _;rw[hv];refine(ok.sort g 0 cap (got.map Db) w2 hH hgl (by omega)).mono ?_;rintro e w' ⟨rfl,nn,os,rfl⟩;refine⟨_,rfl,hK' _ _ ?_⟩;rw[<- hv];have hs:=Go.heap_sorted (n:=nn) (os:=os) ((got.map Db).mergeSort λx y=>decide (x<=y)).toArray hb;have hg:=Go.grownBy_sorted (w:=w2) (g:=g) (n:=nn) (os:=os) ((got.map Db).mergeSort λx y=>decide (x<=y)).toArray;refine done (λb o=>if b<w1.heap.size then E1.O b o else if b=g/\o<(got.map Db).length then .U0 else .other) _ _ _ (by rw[U3,U3,aS]) U.defers (e3 _) (pF U.grown hg λk hk=>by cases hk;exact xg) (λb o hb=>D5 hb) (λb o hb=>?_) ?_
   ·have h1:=U.grown.size;have h2:=hg.size;rw[C8 (by omega),C8 (by omega)]
   ·rw[C2W,hv];have hl:(Jz (got.map Db)).length=(got.map Db).length:=(List.mergeSort_perm _ _).length_eq;refine OP ((show((Jz (got.map Db)).map C2s).length=(Jz (got.map Db)).length by simp).trans hl).symm hc1 (λh=>by cases h) (λ_=>Nat.one_pos) λx hx=>?_;simp only[D9]at hx;subst hx;refine⟨λ_=>rfl,FL.2 λj d hd=>?_⟩;simp only[zaq,zjq]at hd;obtain⟨l,hl1,rfl⟩:=hd;refine⟨[.string ⟨l.toArray⟩],rfl,λx u hu=>?_,rfl⟩;have hj:j<(got.map Db).length:=by rw[<- hl];exact(z0q.1 hl1).1
    cases x with
    |succ x=>simp at hu
    |zero=>
      simp only[ziq,D9]at hu;subst hu;constructor
      ·have IP:(got.map Db).length<=cur.size:=by rw[hc3];omega
       have ht:=Go.take_putCells cur (Jz (got.map Db)) (by rw[hl];exact IP);have h1:((putCells Go.Proofs.encStr 0 (Jz (got.map Db)).toArray cur).toList.take (Jz (got.map Db)).length)[j]?=((Jz (got.map Db)).map Go.Proofs.encStr)[j]?:=by rw[ht]
       rw[zMq (by rw[hl];exact hj),zaq,hl1]at h1;have h2:(putCells Go.Proofs.encStr 0 (Jz (got.map Db)).toArray cur)[j]?=some (Go.Proofs.encStr l):=by simpa using h1
       unfold hc;rw[hs];show(putCells Go.Proofs.encStr 0 (Jz (got.map Db)).toArray cur)[0+j * 1+0]?=_;rw[show 0+j * 1+0=j by omega];exact h2
      ·simp only[Env.S]
       rw[C8 (by omega),D5 (by simp;exact by simpa using hj)]
 refine wpIn_block (wpIn_loop_rounds (ens.size+1) ?_);have round:∀(Kn:Act->World->Prop) m got a2 w2,Und q a1 w1 ens clk (E1.obj i) m got a2 w2->(∀got' a3 w3,0<m->Und q a1 w1 ens clk (E1.obj i) (m-1) got' a3 w3->Kn a3 w3)->Code.wpIn (EI none) n P
  (.seq (.region q.i7 #[q.A9r.mk' (some q.t21) (.next (.tmp q.it) false),q.B8p.mk' (some q.t22) (.extract (.tmp q.t21) 0)] false)
    (.seq (.cond (.tmp q.t22) .skip (.exit q.b0))
      (.block q.b1 (.seq (.region q.i8 #[q.A9q.mk' (some q.t23) (.entry (.tmp q.it)),q.B27.mk' (some q.t24) (.extract (.tmp q.t23) 0),q.B8o.mk' (some q.tk) (.assign (.tmp q.t24))] false)
        (.region q.i9 #[q.rMv.mk' (some q.t25) (.move (.tmp q.tl)),q.B8q.mk' (some q.t26) (.move (.tmp q.tk)),q.rBs.mk' (some q.t27) (.buildSlice q.ts 1 #[(0,.tmp q.t26)]),q.B8n.mk' (some q.t28) (.call { callee:=.builtin .append,args := #[.tmp q.t25,.tmp q.t27],argTypes := #[q.ts,q.ts] }),q.B26.mk' (some q.tl) (.assign (.tmp q.t28))] false)))))
  (Exit.then Kn (Exit.inBlock q.b0 (Exit.then ((Code.seq (.region q.i10 #[q.B4y.mk' (some q.t29) (.move (.tmp q.tl)),q.A4y.mk' (some q.t30) (.call { callee:=.value (.func q.f),args := #[.tmp q.t29],argTypes := #[q.ts] })] false) post).wpIn (EI none) n P Q) Q))) a2 w2:=by
  intro Kn m got a2 w2 U hK;have aS:=U.size;have TU:w2.heap[E1.obj i]?=some (.map ens clk):=by rw[U.grown.block _ hbm (by simp)];exact b1
  have hold:∀x∈ens.toList,x.born<clk:=λx hx=>by obtain⟨j,hj,rfl⟩:=zzq.1 hx;exact b5 j _ (by rw[<- znq];exact z1q hj)
  refine wpIn_seq (wpIn_region_list (show wpListIn _ _ _ _ _ [_,_] _ _ from ?_));rcases run_next_at (P:=P) w2 q.A9r.type _ _ clk clk _ ens clk U.iter TU hold (z8q _)with⟨h0,U7⟩ | ⟨e,he,w3,hw3,U7⟩
  ·-- nothing is left
   refine FQ (v:=.tuple #[.bool false]) rfl (λc h=>by cases h) (by simp only[GU.mk',execOp,U.it];exact Bf U7) ?_;refine nG (Ei (by rw[aS];exact B64)) (x:=.bool false) rfl ?_;show Code.wpIn _ _ _ _ _ _ _;refine wpIn_seq (wpIn_cond_false (Ei (by rw[U3,aS];exact B65)) (wpIn_exit ?_));show Exit.inBlock q.b0 _ (.exit q.b0) _ _;simp only[Exit.inBlock,H5];refine fin m got _ _ ⟨by rw[U3,U3,aS],U.defers,by rw[Y2 C6r];exact(Y2 C6q).trans U.it,?_,U.iter,U.mem,U.nodup,U.len,U.grown⟩ λx hx=>?_
   ·have:((a2.put (some q.t21) (.tuple #[.bool false])).put (some q.t22) (.bool false)).eval (.tmp q.tl)=a2.eval (.tmp q.tl):=by rw[Y2 l8,Y2 m9]
    show Row w2 _ _ (((a2.put (some q.t21) (.tuple #[.bool false])).put (some q.t22) (.bool false)).eval (.tmp q.tl)) _;rw[this];exact U.row
   ·have h1:leftOf ens (got.map (·.born)).toArray=#[]:=Array.eq_empty_of_size_eq_zero h0;unfold leftOf at h1;rw[Array.filter_eq_empty_iff]at h1;have h2:=h1 x (by simpa using hx);simp only[Bool.not_eq_true',Bool.not_eq_false]at h2;have h3:x.born∈got.map (·.born):=by simpa using h2
    obtain⟨y,hy,hyx⟩:=y1q.1 h3
    rwa [C1H y (U.mem y hy) x hx hyx]at hy
  ·-- an entry has come
   have hex:e∈ens.toList/\e.born∉got.map (·.born):=by unfold leftOf at he;simpa using he
   obtain⟨hee,heb⟩:=hex;have B38:w3.heap=w2.heap:=by rcases hw3 with rfl | rfl<;>rfl
   have C8N:W9 w2 w3:=by rcases hw3 with rfl | rfl<;>exact⟨rfl,rfl,rfl⟩
   obtain⟨w4,hw4⟩:∃w4,Go.ChangeMaps.setBlock w3 w1.heap.size (.mapIter (some (E1.obj i)) clk ((got.map (·.born)).toArray.push e.born) clk)=w4:=⟨_,rfl⟩;rw[hw4]at U7;have C5T:w1.heap.size<w3.heap.size:=by rw[B38];exact(z2q.1 U.iter).1
   have C1F:w4.heap[w1.heap.size]?=some (.mapIter (some (E1.obj i)) clk ((got.map (·.born)).toArray.push e.born) clk):=by rw[<- hw4];exact zuq C5T
   have B9O:∀b,b≠w1.heap.size->w4.heap[b]?=w2.heap[b]?:=λb hb=>by rw[<- hw4,<- B38];exact zqq (λh=>hb h.symm)
   have C8L:w4.heap.size=w2.heap.size:=by rw[<- hw4,<- B38];simp[Go.ChangeMaps.setBlock]
   have C5M:w1.grownBy w4 none:=by rw[<- hw4];exact B9M (pF U.grown (B7O B38 C8N) (by simp)) (z8q _)
   have hb4:w4.heap[E1.obj i]?=some (.map ens clk):=by rw[B9O _ (by omega)];exact TU
   have C7q:Row w4 w1.heap.size q.te (a2.eval (.tmp q.tl)) (got.map Db):=U.row.kept λb c T f hb=>by
    rw[B9O b]
    ·exact hb
    ·rintro rfl;rw[U.iter]at hb;cases hb
   refine FQ (v:=.tuple #[.bool true,e.key,e.val]) (w':=w4) rfl (λc h=>by cases h) (by simp only[GU.mk',execOp,U.it];exact Bf U7) ?_;refine nG (Ei (by rw[aS];exact B64)) (x:=.bool true) rfl ?_;show Code.wpIn _ _ _ _ _ _ _;refine wpIn_seq (wpIn_cond_true (Ei (by rw[U3,aS];exact B65)) (wpIn_skip ?_));show Code.wpIn _ _ _ _ _ _ _;obtain⟨a3,ha3⟩:∃a3,((a2.put (some q.t21) (.tuple #[.bool true,e.key,e.val])).put (some q.t22) (.bool true))=a3:=⟨_,rfl⟩;have s3:a3.tmps.size=a1.tmps.size:=by rw[<- ha3,U3,U3,aS]
   have it3:a3.eval (.tmp q.it)=.pointer (some ⟨w1.heap.size,0,none⟩):=by rw[<- ha3,Y2 C6r,Y2 C6q];exact U.it
   have tl3:a3.eval (.tmp q.tl)=a2.eval (.tmp q.tl):=by rw[<- ha3,Y2 l8,Y2 m9]
   have df3:a3.defers=a1.defers:=by rw[<- ha3];exact U.defers
   show Code.wpIn _ _ _ _ _ ((a2.put (some q.t21) (.tuple #[.bool true,e.key,e.val])).put (some q.t22) (.bool true)) _;rw[ha3];clear U7;refine wpIn_block (wpIn_seq (wpIn_region_list (show wpListIn _ _ _ _ _ [_,_,_] _ _ from ?_)));refine FQ (v:=.tuple #[e.key,e.val]) (w':=w4) rfl (λc h=>by cases h) (by simp only[GU.mk',execOp,it3];exact Bf (run_entry_at w4 _ _ clk _ ens clk e C1F hb4 hee C2R)) ?_;refine nG (Ei (by rw[s3];exact C4e)) (x:=e.key) rfl (rq ?_);show Code.wpIn _ _ _ _ _ _ _;have C8z:(((a3.put (some q.t23) (.tuple #[e.key,e.val])).put (some q.t24) e.key).eval (.tmp q.t24))=e.key:=Ei (by rw[U3,s3];exact C4f);obtain⟨a4,ha4⟩:∃a4,(((a3.put (some q.t23) (.tuple #[e.key,e.val])).put (some q.t24) e.key).put (some q.tk) e.key)=a4:=⟨_,rfl⟩;have s4:a4.tmps.size=a1.tmps.size:=by rw[<- ha4,U3,U3,U3,s3]
   have it4:a4.eval (.tmp q.it)=.pointer (some ⟨w1.heap.size,0,none⟩):=by rw[<- ha4,Y2 rki,Y2 C8W,Y2 C8V];exact it3
   have tl4:a4.eval (.tmp q.tl)=a2.eval (.tmp q.tl):=by rw[<- ha4,Y2 i5,Y2 j6,Y2 k7];exact tl3
   have tk4:a4.eval (.tmp q.tk)=Go.Proofs.encStr (Db e):=by rw[<- ha4,Ei (by rw[U3,U3,s3];exact C6y)];exact C7j e hee
   have df4:a4.defers=a1.defers:=by rw[<- ha4];exact df3
   show Code.wpIn _ _ _ _ _ (((a3.put (some q.t23) (.tuple #[e.key,e.val])).put (some q.t24) e.key).put (some q.tk) (((a3.put (some q.t23) (.tuple #[e.key,e.val])).put (some q.t24) e.key).eval (.tmp q.t24))) _;rw[C8z,ha4];refine wpIn_region_list (show wpListIn _ _ _ _ _ [_,_,_,_,_] _ _ from b_ (b_ ?_));rw[tl4,Y2 C8Y,tk4];refine B2P ok.hs t1 t2 t3 t4 (l:=Db e) (Ei (by rw[U3,s4];exact C4h)) ?_;have C5Q:(got.map (·.born)++[e].map (·.born)).Nodup:=List.nodup_append.2 ⟨U.nodup,by simp,λx hx y hy=>by simp at hy;subst hy;rintro rfl;exact heb hx⟩;have C9w:=B9Y (es:=ens) (l:=got.map (·.born)) (e:=e) he;have C9G:w1.heap.size<w4.heap.size:=by rw[C8L,<- B38];exact C5T
   have C3I:(got.map Db).length+1<=J9:=by
    have h1:((got++[e]).map (·.born)).length<=(ens.toList.map (·.born)).length:=by
     refine A02 (by rw[zLq];exact C5Q) λx hx=>?_;obtain⟨y,hy,rfl⟩:=y1q.1 hx;rcases zYq.1 hy with hy | hy
     ·exact zgq (U.mem y hy)
     ·rw[zBq.1 hy];exact zgq hee
    simp at h1;simp;omega
   refine B6u (base:=w1.heap.size) (g:=w4.heap.size) (l:=Db e) ok.hs t1 t2 t3 t4 t5 (ss:=got.map Db) ?_ (Ei (by rw[U3,U3,s4];exact C4i)) (World.alloc_heap_new _ _) C3I (by have:=C5M.size;simp;omega) ?_
   ·have:(((a4.put (some q.t25) (a2.eval (.tmp q.tl))).put (some q.t26) (Go.Proofs.encStr (Db e))).put (some q.t27) (.slice (some ⟨w4.heap.size,0,none⟩) 1 1)).eval (.tmp q.t25)=a2.eval (.tmp q.tl):=by rw[Y2 C7J,Y2 C7I,Ei (by rw[s4];exact C4g)]
    rw[this];exact C7q.kept λb c T f hb=>(Go.RowKit.Below.heap_alloc _ _ _ (z2q.1 hb).1).trans hb
   ·rintro v' w6 C7r ⟨row,hg6,xn⟩;refine rq ?_;have hr6:some w1.heap.size≠row:=λh=>by obtain⟨-,c,T,f,h1⟩:=xn _ h.symm;rw[Go.RowKit.Below.heap_alloc _ _ _ (by omega),C1F]at h1;cases h1
    show Kn _ _;refine hK (got++[e]) _ _ ?_ ?_
    ·have:=U.len;omega
    ·refine⟨by simp only[U3];exact s4,by simp only[Yl];exact df4,?_,?_,?_,?_,?_,?_,?_⟩
     ·rw[Y2 UZ,Y2 C81,Y2 C80,Y2 C8Z,Y2 C8X];exact it4
     ·rw[Ei (by simp only[U3];rw[s4];exact B66),Ei (by simp only[U3];rw[s4];exact C4j),zLq];exact C7r
     ·rw[hg6.block _ (by simp;omega) hr6,Go.RowKit.Below.heap_alloc _ _ _ (by omega),C1F];simp
     ·intro x hx;rcases zYq.1 hx with hx | hx
      ·exact U.mem x hx
      ·rw[zBq.1 hx];exact hee
     ·rw[zLq];exact C5Q
     ·have:=U.len;rw[zLq];show(leftOf ens (got.map (·.born)++[e.born]).toArray).size<=_;omega
     ·refine pF (row:=row) (pF (w':=w4.alloc (.cells #[Go.Proofs.encStr (Db e)] q.te)) (row:=none) C5M ⟨rfl,rfl,rfl,by simp,λk hk _=>Go.RowKit.Below.heap_alloc _ _ _ hk⟩ (by simp)) hg6 λk hk=>(xn k hk).1
 have rounds:∀m got a2 w2,Und q a1 w1 ens clk (E1.obj i) m got a2 w2->Code.roundsIn (EI none) n P
  (.seq (.region q.i7 #[q.A9r.mk' (some q.t21) (.next (.tmp q.it) false),q.B8p.mk' (some q.t22) (.extract (.tmp q.t21) 0)] false)
    (.seq (.cond (.tmp q.t22) .skip (.exit q.b0))
      (.block q.b1 (.seq (.region q.i8 #[q.A9q.mk' (some q.t23) (.entry (.tmp q.it)),q.B27.mk' (some q.t24) (.extract (.tmp q.t23) 0),q.B8o.mk' (some q.tk) (.assign (.tmp q.t24))] false)
        (.region q.i9 #[q.rMv.mk' (some q.t25) (.move (.tmp q.tl)),q.B8q.mk' (some q.t26) (.move (.tmp q.tk)),q.rBs.mk' (some q.t27) (.buildSlice q.ts 1 #[(0,.tmp q.t26)]),q.B8n.mk' (some q.t28) (.call { callee:=.builtin .append,args := #[.tmp q.t25,.tmp q.t27],argTypes := #[q.ts,q.ts] }),q.B26.mk' (some q.tl) (.assign (.tmp q.t28))] false)))))
  (Exit.inBlock q.b0 (Exit.then ((Code.seq (.region q.i10 #[q.B4y.mk' (some q.t29) (.move (.tmp q.tl)),q.A4y.mk' (some q.t30) (.call { callee:=.value (.func q.f),args := #[.tmp q.t29],argTypes := #[q.ts] })] false) post).wpIn (EI none) n P Q) Q)) (m+1) a2 w2:=by
  intro m;induction m with
  |zero=>exact λgot a2 w2 U=>round _ 0 got a2 w2 U λ_ _ _ h=>absurd h (Nat.lt_irrefl _)
  |succ m ih=>exact λgot a2 w2 U=>round _ (m+1) got a2 w2 U λgot' a3 w3 _ U'=>ih got' a3 w3 U'
 refine rounds ens.size [] _ _ ⟨by rw[U3],rfl,Ei C4l,?_,?_,by simp,by simp,?_,?_⟩
 ·obtain⟨p0,hp0⟩:=WJ;have:(a1.put (some q.it) (.pointer (some ⟨w1.heap.size,0,none⟩))).eval (.tmp q.tl)=a1.eval (.tmp q.tl):=Y2 n10;exact .inl ⟨rfl,_,this.trans hp0⟩
 ·rw[World.alloc_heap_new];rfl
 ·unfold leftOf;exact Array.size_filter_le
 ·exact⟨rfl,rfl,rfl,by simp,λk hk _=>Go.RowKit.Below.heap_alloc _ _ _ hk⟩
end Go.Su

/-
 THE DATA MACHINE, part 37: the library's copy of a slice.
-/
namespace Go.Su
set_option linter.defProp false
variable (c:Code)(p:List Bool)
def C2a:List Oper :=
 match (sub p c []).1 with
 |.region _ ops _=>ops.toList
 |_=>[]
def Hy(j:Nat):GU :=
 match (C2a c p)[j]? with
 |some o=>⟨o.type,o.pos,o.after⟩
 |none=>⟨0, "",#[]⟩
def C2H(j:Nat):TypeId :=
 match (C2a c p)[j]? with
 |some o=>
   match o.op with
   |.binOp _ _ _ _ t=>t
   |_=>0
 |none=>0
def B7g:Nat->Code->List Code
 |n+1,.seq a b=>a::B7g n b
 |_,_=>[]
def B6G:Nat->Code->Code
 |n+1,.seq _ b=>B6G n b
 |_,c=>c
structure ClP where
 i0:Nat
 i1:Nat
 i2:Nat
 i3:Nat
 r0:GU
 r1:GU
 r2:GU
 r3:GU
 r4:GU
 r5:GU
 r6:GU
 r7:GU
 ts:TypeId
 ty:TypeId
def ClP.code(q:ClP):Code :=
 .seq (.region q.i0 #[q.r0.mk' (some 2) (.assign (.const (.slice none 0 0)))] false)
  (.seq (.seq (.region q.i1 #[q.r1.mk' (some 3) (.move (.tmp 0)),q.r2.mk' (some 4) (.binOp .eql q.ts (.tmp 3) (.const (.slice none 0 0)) q.ty)] false)
    (.cond (.tmp 4) (.seq (.region q.i2 #[q.r3.mk' (some 2) (.assign (.const (.slice none 0 0)))] false) .ret) .skip))
    (.seq (.region q.i3 #[q.r4.mk' (some 5) (.buildSlice q.ts 0 #[]),q.r5.mk' (some 6) (.move (.tmp 0)),q.r6.mk' (some 7) (.call { callee:=.builtin .append,args := #[.tmp 5,.tmp 6],argTypes := #[q.ts,q.ts] }),q.r7.mk' (some 2) (.assign (.tmp 7))] false) .ret))
section
variable {P:Program}{n:Nat}{ops:Array Oper}{Q:Exit->Act->World->Prop}{a:Act}{w:World}{rest:List Oper}{r:GU}{t:Nat}
def A33{v:Value}(hk:wpListIn (EI none) n P ops Q rest (a.put (some t) v) w):wpListIn (EI none) n P ops Q (r.mk' (some t) (.assign (.const v))::rest) a w :=FQ rfl (λc h=>by cases h) (by simp[GU.mk',execOp,Act.eval]) hk
def B6v{u:Nat}{ts te ty:TypeId}{b:Option Addr}{l c:Nat}(hs:P.underlying ts=some (.slice te))(hv:a.eval (.tmp u)=.slice b l c)(hk:wpListIn (EI none) n P ops Q rest (a.put (some t) (.bool b.isNone)) w):wpListIn (EI none) n P ops Q (r.mk' (some t) (.binOp .eql ts (.tmp u) (.const (.slice none 0 0)) ty)::rest) a w:=by refine FQ (v:=.bool b.isNone) rfl (λc h=>by cases h) ?_ hk;simp only[GU.mk',execOp,hv];exact Bf (Go.Lib.run_eql_slice_nil w ts te b l c 0 0 hs)
theorem B0D{ts te:TypeId}{i:TypeInfo}(hs:P.underlying ts=some (.slice te))(hi:P.info? te=some i)(hk:wpListIn (EI none) n P ops Q rest (a.put (some t) (.slice (some ⟨w.heap.size,0,none⟩) 0 0)) (w.alloc (.cells #[] te))):
 wpListIn (EI none) n P ops Q (r.mk' (some t) (.buildSlice ts 0 #[])::rest) a w:=by
 refine FQ (v:=.slice (some ⟨w.heap.size,0,none⟩) 0 0) rfl (λc h=>by cases h) ?_ hk;simp only[GU.mk',execOp];refine Bf ?_;unfold Instr.buildSlice;have Ak:(sizeOf te).run P w=.ok i.size w:=by simp[sizeOf,typeInfo,hi]
 simp only[Sem.run_bind,run_underlying hs,Result.andThen_ok,Ak,Sem.run_ite];rw[C8 (by simp),D5 (by simp)];simp only[Sem.run_pure,Result.andThen_ok];have:Instr.fill (λj=>some (j * i.size,i.size)) ((Array.range (0 * i.size)).map ((#[]:Array Value)[· % (#[]:Array Value).size]!)) (Array.map (λx:Nat×Operand=>(x.1,a.eval x.2)) #[]).toList=some #[]:=by rw[ydq];simp[Instr.fill]
 simp only[this];rfl
end
def A6U{P:Program}{f:FuncId}{fn:Func}{q:ClP}{sz:Nat}(Ak:A8c P q.ts q.ts=some sz)(hf:P.funcs[f]?=some fn)(hb:fn.body=some q.code)(C1K:fn.results=#[.tmp 2])(hnt:fn.ntmps=8):iV P f sz:=by
 intro S w v ds hl hS hv;obtain⟨e,e',z,inf,zv,hu,MI,hz,Hu,hpos,BP,lX,TW,Ya⟩:=gY Ak;rw[hu]at MI;simp only[D9,TypeDesc.slice.injEq]at MI;subst MI;have Gf:inf.size=sz:=by obtain⟨i',d',q1,-,q2,-⟩:=KV hz;rw[BP]at q1;simp only[D9]at q1;rw[<- Hu,q2,q1]
 obtain⟨b,len,cap,all,rfl,f1,f2,f3,f4,f5,f6,f7⟩:=Sj (P:=P) hv;have fin:∀(a:Act)(v:Value)(w1:World),a.defers=[]->a.tmps.getD 2 undef=v->∀R:Ending->World->Prop,R (.returned v) w1->bodyPost P fn R .ret a w1:=by intro a v w1 h1 h2 R h3;refine⟨h1,v,?_,h3⟩;rw[yH,C1K,<- h2];simp[Np]
 refine(callsIn_wide (n:=0)).1 (callsIn_of_wp hf hb trivial ?_);rw[hnt];show Code.wpIn (EI none) 0 P _ _ _ _;have C8C:(#[Value.slice b len cap]++Array.replicate (8 - #[Value.slice b len cap].size) undef:Array Value)=#[.slice b len cap,undef,undef,undef,undef,undef,undef,undef]:=by rfl
 rw[C8C];refine wpIn_seq (wpIn_region_list (show wpListIn _ _ _ _ _ [_] _ _ from A33 ?_));refine wpIn_seq (wpIn_seq (wpIn_region_list (show wpListIn _ _ _ _ _ [_,_] _ _ from b_ (B6v (b:=b) (l:=len) (c:=cap) hu rfl ?_))));cases b with
 |none=>have h0:=f3 rfl;have pI:ds=[]:=zdq (by omega);subst pI;refine wpIn_cond_true rfl (wpIn_seq (wpIn_region_list (show wpListIn _ _ _ _ _ [_] _ _ from A33 ?_)));show Code.wpIn _ _ _ Code.ret _ _ _;refine wpIn_ret ?_;dsimp only[Exit.then];exact fin _ _ _ rfl rfl _ ⟨none,0,0,0,rfl,by simp,by simp,by simp,by simp,z8q _,W9.refl _,λ_ _=>rfl,by simp⟩
 |some p=>
   refine wpIn_cond_false rfl (wpIn_skip ?_);refine wpIn_seq (wpIn_region_list (show wpListIn _ _ _ _ _ [_,_,_,_] _ _ from B0D hu BP (b_ ?_)));have hw1:∀w':World,w'.heap=(w.alloc (.cells #[] e)).heap->(Builtin.firstCells sz len (Value.slice (some p) len cap)).run P w'=.ok all.toArray w':=by
    intro w' hw';show(loadCells p (len * sz)).run P w'=_;obtain⟨hp,hc⟩:=f5 p rfl;have hl2:len * sz=all.length:=by rw[f4.1,f1]
    by_cases h0:0<cap
    ·rw[hl2,hp h0];refine ZV λj u hu=>?_;rw[hw'];have h3:=(hc j u hu).1;have h4:w.heap[p.block]?≠none:=λh=>by simp[Su.hc,h]at h3
     have h5:p.block<w.heap.size:=by
      rcases zrq p.block w.heap.size with h | h
      ·exact h
      ·exact absurd (Array.getElem?_eq_none h) h4
     unfold Su.hc at h3 ⊢;rw[show(w.alloc (.cells #[] e)).heap[p.block]?=w.heap[p.block]? from Go.RowKit.Below.heap_alloc _ _ _ h5];exact h3
    ·have h0:len=0:=by omega
     have h9:all=[]:=zdq (by rw[<- hl2,h0];simp);rw[h9,h0,ydq];rfl
   have go:∀(v':Value)(w':World),(Builtin.append_ #[q.ts,q.ts] q.r6.type #[.slice (some ⟨w.heap.size,0,none⟩) 0 0,.slice (some p) len cap]).run P (w.alloc (.cells #[] e))=.ok v' w'->∀R:Ending->World->Prop,R (.returned v') w'->
    wpListIn (EI none) 0 P #[q.r4.mk' (some 5) (.buildSlice q.ts 0 #[]),q.r5.mk' (some 6) (.move (.tmp 0)),q.r6.mk' (some 7) (.call { callee:=.builtin .append,args := #[.tmp 5,.tmp 6],argTypes := #[q.ts,q.ts] }),q.r7.mk' (some 2) (.assign (.tmp 7))]
     (Exit.then (Code.ret.wpIn (EI none) 0 P (bodyPost P fn R)) (bodyPost P fn R)) [q.r6.mk' (some 7) (.call { callee:=.builtin .append,args := #[.tmp 5,.tmp 6],argTypes := #[q.ts,q.ts] }),q.r7.mk' (some 2) (.assign (.tmp 7))]
     { tmps := #[.slice (some p) len cap,undef,.slice none 0 0,.slice (some p) len cap,.bool false,.slice (some ⟨w.heap.size,0,none⟩) 0 0,.slice (some p) len cap,undef],defers:=[] } (w.alloc (.cells #[] e)):=by
    intro v' w' hr R hR;refine FQ (v:=v') (w':=w') rfl (λc h=>by cases h) ?_ (rq ?_)
    ·refine Ga (C:=xB P) (b:=.append) rfl rfl ?_;simp only[zSq,z9q,zEq];exact Bf hr
    ·show Code.wpIn _ _ _ Code.ret _ _ _;refine wpIn_ret ?_;show bodyPost P fn R .ret _ _;exact fin _ _ _ rfl rfl _ hR
   by_cases pI:ds=[]
   ·subst pI;have h0:len=0:=f1;have h9:all=[]:=zdq (by rw[f4.1];simp);refine go _ (w.alloc (.cells #[] e)) (MQ (n:=len) hu hu BP (A6z _ _ _) (by rw[Gf];exact hw1 _ rfl) (by omega) (by rw[h9];simp[storeCells])) _ ⟨some ⟨w.heap.size,0,none⟩,0,0,0,?_,by simp,by simp,by simp,by simp,by simp,⟨rfl,rfl,rfl⟩,λb' HV=>Go.RowKit.Below.heap_alloc _ _ _ HV,by simp⟩;simp[h0]
   ·have Bl:0<len:=by rw[f1];exact List.length_pos_iff.2 pI
    obtain⟨nc,hnc,hr⟩:=run_append_grow (P:=P) (t:=q.ts) (u:=q.ts) (ty:=q.r6.type) (b:=some ⟨w.heap.size,0,none⟩) (len:=0) (cap:=0) (n:=len) (all:=[]) (all':=all) (v:=.slice (some p) len cap) (w:=w.alloc (.cells #[] e)) hu hu BP (A6z _ _ _) (by rw[Gf];exact hw1) (λw' _=>by show(loadCells _ (0 * inf.size)).run P w'=_;rw[ydq];rfl) TW (by omega) (by unfold J9 at hl;omega) lX;simp only[zoq,List.nil_append]at hr;have C1L:(w.alloc (.cells #[] e)).heap.size=w.heap.size+1:=by simp
    refine go _ _ hr _ ⟨_,w.heap.size+1,0,nc,by rw[f1,C1L],λ_=>rfl,by omega,by simp,λx hx=>?_,?_,⟨rfl,rfl,rfl⟩,λb' HV=>?_,λ_=>⟨by omega,(all++(Builtin.zeroCells zv.cells (nc-len)).toList).toArray,e,?_,?_,hpos,λj d hj=>?_⟩⟩
    ·simp only[D9]at hx;subst hx;rfl
    ·simp;omega
    ·refine(Go.RowKit.Below.heap_alloc _ _ _ (by show b'<(w.alloc (.cells #[] e)).heap.size;omega)).trans ?_;exact Go.RowKit.Below.heap_alloc _ _ _ HV
    ·rw[<- C1L];exact World.alloc_heap_new _ _
    ·simp[f4.1]
    ·obtain⟨vs,v1,v2,v3⟩:=f4.2 j d hj;refine⟨vs,v1,λx u hx=>?_,v3.mono ⟨λ_ _ h=>h,λb o v hs hv=>?_⟩⟩
     ·have h1:=v2 x u hx;have h2:=(z0q.1 h1).1;rw[zoq,List.getElem?_toArray,zlq h2];exact h1
     ·have hb:b<w.heap.size:=by
       rcases zrq b w.heap.size with h | h
       ·exact h
       ·exact absurd hs (hS b o h)
      unfold Su.hc at hv ⊢;have e1:((w.alloc (.cells #[] e)).drew.alloc (.cells (all++(Builtin.zeroCells zv.cells (nc-len)).toList).toArray e)).heap[b]?=w.heap[b]? :=(Go.RowKit.Below.heap_alloc _ _ _ (by show b<(w.alloc (.cells #[] e)).heap.size;omega)).trans (Go.RowKit.Below.heap_alloc _ _ _ hb)
      rw[e1];exact hv
end Go.Su

/-
 MAPS of numbers and texts in the shared part, cells of the shared part.
-/
namespace Go.Su
set_option linter.defProp false
variable (es:List (DV×DV))
def GQ(c:Int->Int):Prop:=∀v,(AQ es (.int .i64 v)).getD (.int .i64 0)=.int .i64 (c v)
theorem GQ.nil:GQ [] λ_=>0:=λ_=>rfl
variable {es:List (DV×DV)}
def GQ.set{c:Int->Int}(h:GQ es c)(a n:Int):GQ (BJ es (.int .i64 a) (.int .i64 n)) λv=>if a=v then n else c v:=by
 intro v;rw[B1q];by_cases e:a=v
 ·simp[e]
 ·simp[e,h v]
variable {sg:List H7}{i:Nat}
def yL{x:Bool×List (DV×DV)}(h:X0 sg i=some x):i<sg.length:=by
 unfold X0 at h;cases hi:sg[i]? with
 |none=>rw[hi]at h;cases h
 |some o=>exact(z0q.1 hi).1
def Iu(h:i<sg.length)(ks:Bool)(es:List (DV×DV)):X0 (sg.set i (.map ks es)) i=some (ks,es):=by unfold X0;rw[zCq h]
def A7j{ks:Bool}(h:X0 sg i=some (ks,es)):sg.set i (.map ks es)=sg:=by
 have hl:=yL h;unfold X0 at h;have hg:sg[i]?=some sg[i]:=z1q hl;rw[hg]at h;have e:sg[i]=.map ks es:=by
  cases hx:sg[i]with
  |map a b=>rw[hx]at h;simp at h;rw[h.1,h.2]
  |_=>rw[hx]at h;cases h
 rw[<- e];exact List.set_getElem_self hl
def A7i{x:List (DV×H6)}(h:Q7 sg i=some x):i<sg.length:=by
 unfold Q7 at h;cases hi:sg[i]? with
 |none=>rw[hi]at h;cases h
 |some o=>exact(z0q.1 hi).1
def qC(h:i<sg.length)(cs:List (DV×H6)):Q7 (sg.set i (.box cs)) i=some cs:=by unfold Q7;rw[zCq h]
@[simp] theorem Ct(a:DV)(l:List DV):K5 0 (.I4 (a::l))=some a:=rfl
@[simp] theorem Cu(a b:DV)(l:List DV):K5 1 (.I4 (a::b::l))=some b:=rfl
@[simp] theorem A4k(a b c:DV)(l:List DV):K5 2 (.I4 (a::b::c::l))=some c:=rfl
@[simp] theorem C9t(a b c d:DV)(l:List DV):K5 3 (.I4 (a::b::c::d::l))=some d:=rfl
def Cs{α : Type}{e : α->DV}{sz:Nat}{l:List α}{x : α}(h:l.length<J9):AP sz (.list sz (l.map e)) (.list sz [e x])=some (.list sz ((l++[x]).map e)):=by rw[Qu (by simp;omega)];simp
def B04{α : Type}{e : α->DV}{sz:Nat}{l m:List α}(h:l.length+m.length<=J9):AP sz (.list sz (l.map e)) (.list sz (m.map e))=some (.list sz ((l++m).map e)):=by rw[Qu (by simpa using h)];simp
end Go.Su

/-
 PATTERNS and types: what is bound.
-/
namespace Go.Su
set_option linter.defProp false
def XH(e:ByteArray×Ty):DV:=.agg [.str e.1,.int .i64 e.2.A8,.int .i64 e.2.n,.list 3 (e.2.D6.map Ty.A9)]
variable (l:List (ByteArray×Ty))
def CF:DV:=.list 4 (l.map XH)
@[simp] theorem C9i(e:ByteArray×Ty):A7 0 (XH e)=.str e.1:=rfl
@[simp] theorem C9j(e:ByteArray×Ty):A7 1 (XH e)=.int .i64 e.2.A8:=rfl
@[simp] theorem C9k(e:ByteArray×Ty):A7 2 (XH e)=.int .i64 e.2.n:=rfl
@[simp] theorem C9l(e:ByteArray×Ty):A7 3 (XH e)=.list 3 (e.2.D6.map Ty.A9):=rfl
variable (e:Nm)
@[simp] theorem Nm.AV:A7 0 e.A9=.str e.name:=rfl
@[simp] theorem Nm.Ju:A7 1 e.A9=.int .i64 e.ty.A8:=rfl
@[simp] theorem Nm.En:A7 2 e.A9=.int .i64 e.ty.n:=rfl
@[simp] theorem Nm.EU:A7 3 e.A9=.list 3 (e.ty.D6.map Ty.A9):=rfl
@[simp] theorem Nm.Qc:A7 4 e.A9=K6 e.vars:=rfl
@[simp] def C5t:L6 (CF l)=some (.int .i64 l.length):=by simp[CF]
@[simp] def A5w(l:List Nm):L6 (Y6 l)=some (.int .i64 l.length):=by simp[Y6]
@[simp] def C5s(l:List (Int×Ty)):L6 (P7 l)=some (.int .i64 l.length):=by simp[P7]
variable {ks:List E8}
def B3o:(∀k∈ks,∀t b,k.binds t=some b->b.length<=k.size)->∀ts b,Ii (ks.map E8.binds) ts=some b->b.length<=(ks.map E8.size).sum:=by
 induction ks with
 |nil=>intro _ ts b h;simp only[zEq,Ii,D9]at h;subst h;simp
 |cons k ks ih=>
   intro hk ts b h;cases ts with
   |nil=>simp[Ii]at h
   |cons t ts=>simp only[z9q,Ii,zwq,D9]at h;obtain⟨a,h1,c,h2,rfl⟩:=h;have:=hk k (z5q ..) t a h1;have:=ih (λk' CR=>hk k' (z4q _ CR)) ts c h2;simp only[List.length_append,z9q,zfq];omega
def E8.ak(p:E8):∀t b,p.binds t=some b->b.length<=p.size:=by
 induction p using E8.ind with
 |h p ih=>
   intro t b h;rw[E8.jZ]at h;rw[E8.size_eq];unfold Za at h;split at h
   ·simp only[D9]at h;subst h;simp
   split at h
   ·simp only[D9]at h;subst h;simp
   split at h
   ·split at h
    ·have:=B3o ih _ _ h;omega
    ·cases h
   split at h
   ·split at h
    ·have:=B3o ih _ _ h;omega
    ·cases h
   split at h
   ·simp only[D9]at h;subst h;simp
   ·cases h
def A8p:(∀k∈ks,∀t b,t.right=true->k.binds t=some b->∀e∈b,e.2.right=true)->∀ts b,(∀t∈ts,t.right=true)->Ii (ks.map E8.binds) ts=some b->∀e∈b,e.2.right=true:=by
 induction ks with
 |nil=>intro _ ts b _ h;simp only[zEq,Ii,D9]at h;subst h;simp
 |cons k ks ih=>
   intro hk ts b ht h;cases ts with
   |nil=>simp[Ii]at h
   |cons t ts=>
     simp only[z9q,Ii,zwq,D9]at h;obtain⟨a,h1,c,h2,rfl⟩:=h;have a1:=hk k (z5q ..) t a (ht t (z5q ..)) h1;have a2:=ih (λk' CR=>hk k' (z4q _ CR)) ts c (λt' ht'=>ht t' (z4q _ ht')) h2;intro e he;rcases zYq.1 he with he | he
     ·exact a1 e he
     ·exact a2 e he
def yx{t:Ty}(h:t.right=true)(hk:t.A8=8):∃a,t.D6=[a]:=by
 have:=(Ty.CS.1 h).1;rw[hk]at this;have h1:t.D6.length=1:=by have:X3 8=1:=rfl;omega
 exact zDq.1 h1
def A37{t:Ty}(h:t.right=true)(hk:t.A8=7\/t.A8=9):∃a b,t.D6=[a,b]:=by
 have:=(Ty.CS.1 h).1;have h1:t.D6.length=2:=by
  rcases hk with hk | hk<;>rw[hk]at this
  ·have:X3 7=2:=rfl;omega
  ·have:X3 9=2:=rfl;omega
 match hx:t.D6,h1 with
 |[a,b],_=>exact⟨a,b,rfl⟩
def E8.A5r(p:E8):∀t b,t.right=true->p.binds t=some b->∀e∈b,e.2.right=true:=by
 induction p using E8.ind with
 |h p ih=>
   intro t b ht h;rw[E8.jZ]at h;unfold Za at h;split at h
   ·simp only[D9]at h;subst h;simp
   split at h
   ·simp only[D9]at h;subst h;simpa using ht
   split at h
   ·split at h
    ·exact A8p ih _ _ (λk hk=>Ty.M8 ht hk) h
    ·cases h
   split at h
   ·split at h
    ·rename_i h8;obtain⟨a,ha⟩:=yx ht h8;refine A8p ih _ _ ?_ h;intro k hk;rw[ha]at hk;simp at hk;rcases hk with rfl | rfl
     ·exact Ty.M8 ht (by rw[ha];exact z5q ..)
     ·exact ht
    ·cases h
   split at h
   ·simp only[D9]at h;subst h;simp
   ·cases h
variable {p:E8}
def E8.ZX(h:p.one=true):p.D6.length=if p.A8=7\/p.A8=9 then 2 else 0:=by unfold E8.one at h;grind
def E8.C37(h:p.pat=true):p.one=true:=by rw[E8.Ra]at h;simp only[z3q]at h;exact h.1
def E8.C36{k:E8}(h:p.pat=true)(hk:k∈p.D6):k.pat=true:=by rw[E8.Ra]at h;simp only[z3q,z7q]at h;exact h.2 k hk
def E8.C0i(h:p.right=true):p.pat=true:=by unfold E8.right at h;simp only[z3q]at h;exact h.1
end Go.Su
