/-
  Parts of the proof, merged: TY5, TY6, TY7, TY8, TY9, TY10, TZ1, T57, TY11, TY12, TY13, TY14, TZ2, TY15, W25, LCalcTyped.
-/
import Derived.Test.YtglacjdohajkeaaGreatQ4
import Derived.Test.YtglacjdohajkeaaGreatQ5
import Derived.Test.YtglacjdohajkeaaGreatQ6
set_option linter.unusedVariables false
set_option linter.unusedSimpArgs false
/-
 The calculus: a value's parts; the document's casts, settling, parts.
-/
open Bool renaming false_eq_true → z0q, and_eq_true → z2q, not_eq_true' → z4q, not_true → z5q, not_false → zgq, true_and → zOq, true_eq_false → zYq
open Int renaming ofNat_lt → zAq, lt_irrefl → zTq
open List renaming length_map → z1q, drop_eq_getElem_cons → z3q, getElem_mem → z6q, getD_cons_zero → z7q, getElem?_cons_zero → z8q, length_nil → z9q, eq_nil_of_length_eq_zero → zaq, drop_of_length_le → zbq, drop_zero → zcq, getElem?_eq_getElem → zdq, map_cons → zeq, map_nil → zfq, getElem?_map → zhq, append_assoc → ziq, mem_cons_self → zjq, getElem?_cons_succ → zkq, all_eq_true → zlq, getD_eq_getElem?_getD → zmq, getD_cons_succ → znq, getElem?_set_self → zoq, sum_nil → zpq, mem_cons_of_mem → zqq, mem_or_eq_of_mem_set → zrq, length_pos_iff → zsq, drop_length → ztq, length_cons → zuq, take_succ_eq_append_getElem → zvq, nil_append → zwq, append_nil → zxq, zip_nil_left → zyq, getElem?_set_ne → zBq, cons_append → zCq, mem_append → zDq, sum_cons → zEq, mem_of_find?_eq_some → zFq, length_append → zHq, reverse_cons → zJq, not_mem_nil → zLq, reverse_nil → zMq, mem_cons → zNq, length_zip → zQq, find?_cons → zRq, mem_range → zSq, find?_nil → zUq, mem_singleton → zVq, find?_eq_none → zWq, mem_replicate → zXq, find?_some → y0q, map_append → y1q
open Nat renaming le_of_lt → zGq, le_refl → zKq
open Option renaming map_some → zzq, bind_some → zIq, bind_eq_some_iff → zPq, isSome_some → zZq, getD_some → y2q, map_map → y3q
namespace Go.Su
set_option linter.unusedSectionVars false
theorem C32(A8:Int)(L:List Tm)(a b:Tm):A9j A8 L a b=vY A8 L 0 a b:=by unfold A9j vY;rw[fK];simp only[N8,z1q,J4];rfl
section
variable {Tq:Ty->Prop}{Q:Tm->Prop}(C:CQ Tq Q)
include C
theorem YI{i:Nat}(hi:i<2)(hp:∀y,Tq y->(y.A8=8/\i=1\/i<y.D6.length)->Tq (V3 y i)){A8:Int}(hk:A8=7\/A8=8):∀(L:List Tm),(∀c∈L,c.right=true/\c.A8=16/\Tq c.a/\Tq c.b)->∀w,Q w->w.L9=true->Done Q (Bo A8 i L w)
 |[],_,w,hq,hv=>⟨hv,hq⟩
 |c::L,hc,w,hq,hv=>by
   obtain⟨rc,kc,ta,tb⟩:=hc c (zjq ..);obtain⟨ra,rb,l0,l1⟩:=Tm.BG rc kc;have ht:∀c∈L,c.right=true/\c.A8=16/\Tq c.a/\Tq c.b:=λd hd=>hc d (zqq _ hd);rw[Bo];by_cases b5:c.b.A8=5
   ·rw[D5 b5];exact YI hi hp hk L ht w hq hv
   rw[C8 b5];by_cases hn:c.a.A8≠A8\/c.b.A8≠A8
   ·rw[D5 hn];show(6:Int)≠0;omega
   rw[C8 hn];have ka:c.a.A8=A8:=Classical.byContradiction λh=>hn (.inl h);have kb:c.b.A8=A8:=Classical.byContradiction λh=>hn (.inr h);have la:=YE ra (ka ▸ hk) i hi;have lb:=YE rb (kb ▸ hk) i hi;obtain⟨st,dn⟩:=bu C (c:=c) (q:=c.neg) l0 l1 (hp _ ta (la.imp (λh=>⟨h.2,h.1⟩) id)) (hp _ tb (lb.imp (λh=>⟨h.2,h.1⟩) id)) hq hv;cases hs:AY 4 (J8 c c.neg (V3 c.a i) (V3 c.b i) w)with
   |fin r=>rw[hs]at dn;exact dn
   |ok y=>rw[hs]at dn;exact YI hi hp hk L ht y dn.2 dn.1
def C6Y(Q:Tm->Prop)(x:PR):Prop:=match x with | .ok a b=>(a.L9=true/\Q a)/\b.L9=true/\Q b | .fin r=>r.A8≠0
variable {L:List Tm}{x:Tm}
theorem rV(hp:∀y i,i<2->Tq y->(y.A8=8/\i=1\/i<y.D6.length)->Tq (V3 y i))(hc:∀c∈L,c.right=true/\c.A8=16/\Tq c.a/\Tq c.b)(q0:Q (x.kd 0))(v0:(x.kd 0).L9=true)(q1:Q (x.kd 1))(v1:(x.kd 1).L9=true):C6Y Q (Bn L x):=by
 have hk:(if x.A8=8 then(8:Int)else 7)=7\/(if x.A8=8 then(8:Int)else 7)=8:=by split<;>simp
 have d0:=YI C (i:=0) (by omega) (λy=>hp y 0 (by omega)) hk L hc _ q0 v0;have d1:=YI C (i:=1) (by omega) (λy=>hp y 1 (by omega)) hk L hc _ q1 v1;unfold Bn;cases h0:Bo (if x.A8=8 then 8 else 7) 0 L (x.kd 0)with
 |fin r=>rw[h0]at d0;exact d0
 |ok a=>
   rw[h0]at d0;simp only;cases h1:Bo (if x.A8=8 then 8 else 7) 1 L (x.kd 1)with
   |fin r=>rw[h1]at d1;exact d1
   |ok b=>rw[h1]at d1;exact⟨d0,d1⟩
theorem B2s(hp:∀y i,i<2->Tq y->(y.A8=8/\i=1\/i<y.D6.length)->Tq (V3 y i))(hL:L.length<9223372036854775000)(hc:∀c∈L,c.right=true/\c.A8=16/\Tq c.a/\Tq c.b)(l2:x.D6.length=2)(q0:Q (x.kd 0))(v0:(x.kd 0).L9=true)(q1:Q (x.kd 1))(v1:(x.kd 1).L9=true):
 ∃d,E5 40 d=true/\C9.p WR [.list 20 (L.map Tm.A9),x.A9]=some (match Bn L x with | .ok a b=>.I4 [two a b,(Bc 0).A9] | .fin r=>.I4 [d,r.A9]):=by
 have hk:(if x.A8=8 then(8:Int)else 7)=7\/(if x.A8=8 then(8:Int)else 7)=8:=by split<;>simp
 have dn:=YI C (i:=0) (by omega) (λy=>hp y 0 (by omega)) hk L hc _ q0 v0;obtain⟨d0,e0,h0⟩:=B0l C (λy=>hp y 0 (by omega)) hk hL hc L.length 0 (x.kd 0) (x.kd 1) (by omega) q0 v0;have st:C9.p WR [.list 20 (L.map Tm.A9),x.A9]=p9 (if x.A8=8 then 8 else 7) L 0 (x.kd 0) (x.kd 1):=by
  rw[uW,zZ];simp only[I8,F4,x0 (show 0<x.D6.length by omega),x1 (show 1<x.D6.length by omega),J4,kq,E9,F5]
  unfold p9;by_cases k8:x.A8=8
  ·rw[D5 k8,D5 k8,VO];simp only[N8,z1q,J4];rfl
  ·rw[C8 k8,C8 k8,VO];simp only[N8,z1q,J4];rfl
 rw[st,h0,zcq];unfold Bn;cases hf:Bo (if x.A8=8 then 8 else 7) 0 L (x.kd 0)with
 |fin r=>exact⟨d0,e0,rfl⟩
 |ok a=>
   rw[hf]at dn;obtain⟨d1,e1,h1⟩:=A7c C (λy=>hp y 1 (by omega)) hk hL hc L.length 0 a (x.kd 1) (by omega) q1 v1;refine⟨d1,e1,?_⟩;show A9j _ L a (x.kd 1)=_;rw[C32,h1,zcq];cases hf1:Bo (if x.A8=8 then 8 else 7) 1 L (x.kd 1)with
   |fin r=>rfl
   |ok b=>rfl
end
variable (n:Nat)
noncomputable def A9Y(t:Tm):DV:=.int .i64 (match NT n t.D6 with | some i=>(i:Int) | none=>-1)
theorem A9Z(t:Tm):Aw C9 (iI (n:Int)) (iI (n:Int)) t.A9=some (iI (-1)):=by rw[ZH];simp only[J6,J4,E9,F5];rw[C8 (by omega)]
variable {n:Nat}{t:Tm}
theorem B3w{i:Nat}(hi:i<n)(h9:i<100)(hl:i<t.D6.length)(rk:(t.kd i).right=true):Aw C9 (iI (n:Int)) (iI (i:Int)) t.A9=if (t.kd i).L9=true then Aw C9 (iI (n:Int)) (iI ((i+1:Nat):Int)) t.A9 else some (iI (i:Int)):=by rw[ZH];simp only[J6,J4,E9,F5];rw[D5 (by omega),xI hl];simp only[J4,U5,TG _ rk,P9,E9,Ag,z4q];rw[X7 (by omega) (by omega)];cases(t.kd i).L9<;>rfl
theorem C3y(hn:n<=2)(rt:t.right=true)(hl:n<=t.D6.length):Aw C9 (iI (n:Int)) (iI 0) t.A9=some (A9Y n t):=by
 unfold A9Y;have h:n=0\/n=1\/n=2:=by omega
 rcases h with rfl | rfl | rfl
 ·exact A9Z 0 t
 ·have g:=B3w (n:=1) (i:=0) (t:=t) (by omega) (by omega) (by omega) (Tm.AX rt (by omega));have e:=A9Z 1 t;rw[B7A];refine g.trans ?_;split
  ·exact e
  ·rfl
 ·have g:=B3w (n:=2) (i:=0) (t:=t) (by omega) (by omega) (by omega) (Tm.AX rt (by omega));have g1:=B3w (n:=2) (i:=1) (t:=t) (by omega) (by omega) (by omega) (Tm.AX rt (by omega));have e:=A9Z 2 t;rw[C2O];refine g.trans ?_;split
  ·refine g1.trans ?_;split
   ·exact e
   ·rfl
  ·rfl
theorem B6T(k:Int):Z9 k<=2:=by
 unfold Z9;split
 ·omega
 split<;>omega
theorem Ku(rt:t.right=true):Z9 t.A8<=t.D6.length:=by
 unfold Z9;split
 ·rename_i k;rw[Tm.EF rt (by omega)];exact zKq _
 split
 ·rename_i k;by_cases k11:t.A8=11
  ·rw[Tm.EF rt (by omega)];omega
  by_cases k13:t.A8=13
  ·rw[Tm.B0g rt k13];omega
  by_cases k14:t.A8=14
  ·rw[Tm.A67 rt k14];omega
  ·rw[Tm.B_ rt (by omega)];omega
 ·omega
theorem yS(rt:t.right=true):C9.p A1s [t.A9]=some (A9Y (Z9 t.A8) t):=by
 have ml:=Ku rt;have D:=C3y (n:=Z9 t.A8) (B6T _) rt ml;refine(A6c _).trans ?_;rw[A8G];simp only[I8,F4,kq,J4,E9,F5];rw[<- D];unfold Z9;by_cases k6:t.A8=6
 ·rw[D5 k6,D5 (.inl k6)];rfl
 rw[C8 k6];by_cases k8:t.A8=8
 ·rw[D5 k8,D5 (.inr (.inl k8))];rfl
 rw[C8 k8];by_cases k10:t.A8=10
 ·rw[D5 k10,D5 (.inr (.inr (.inl k10)))];rfl
 rw[C8 k10];by_cases k15:t.A8=15
 ·rw[D5 k15,D5 (.inr (.inr (.inr k15)))];rfl
 rw[C8 k15,C8 (show ¬(t.A8=6\/t.A8=8\/t.A8=10\/t.A8=15)by omega)];by_cases k11:t.A8=11
 ·rw[D5 k11,D5 (.inl k11)];rfl
 rw[C8 k11];by_cases k13:t.A8=13
 ·rw[D5 k13,D5 (.inr (.inl k13))];rfl
 rw[C8 k13];by_cases k14:t.A8=14
 ·rw[D5 k14,D5 (.inr (.inr (.inl k14)))];rfl
 rw[C8 k14];by_cases k16:t.A8=16
 ·rw[D5 k16,D5 (.inr (.inr (.inr k16)))];rfl
 ·rw[C8 k16,C8 (by omega)];rfl
theorem C86(t:Tm)(n:Nat)(y:Tm):DV.agg [A7 0 t.A9,A7 1 t.A9,A7 2 t.A9,A7 3 t.A9,A7 4 t.A9,A7 5 t.A9,A7 6 t.A9,A7 7 t.A9,A7 8 t.A9,A7 9 t.A9,A7 10 t.A9,A7 11 t.A9,A7 12 t.A9,A7 13 t.A9,A7 14 t.A9,A7 15 t.A9,A7 16 t.A9,A7 17 t.A9,A7 18 t.A9,.list 20 ((t.D6.map Tm.A9).set n y.A9)]=(t.AR n y).A9:=by
 have e:(t.D6.map Tm.A9).set n y.A9=(t.D6.set n y).map Tm.A9:=by rw[List.map_set]
 rw[e,Tm.K9 (t.AR n y),Tm.K9 t];rfl
theorem B1M{i:Nat}(rt:t.right=true)(hd:NT (Z9 t.A8) t.D6=some i)(hl:i<t.D6.length)(hk:t.D6.length<=J9){x:SR}(hg:x.good)(hx:C9.p GR [(t.kd i).A9]=some x.A9):
 C9.p GR [t.A9]=some (x.bind λy=>.ok (t.AR i y)).A9:=by
 refine(Xh _).trans ?_;rw[aF];simp only[I8,F4,U5,yS rt,J4];unfold A9Y;rw[hd];simp only[Ki,J4,E9,F5];rw[D5 (by omega),xI hl];simp only[J4,U5,hx,SR.mM,SR.mO];cases x with
 |fin r=>simp only[I8,Q5,F4,Nz,J4,E9,z4q,Q8];rw[D5 (show ¬r.A8=0 from hg)];(try rw[rsE]);(try rw[BK]);rfl
 |ok y=>
   simp only[I8,Q5,F4,Nz,show(Bc 0).A8=0 from rfl,J4,E9,L8,z5q,z0q,F9,U5]
   have ap:XE 20 (.list 20 []) (A7 19 t.A9)=some ([],t.D6.map Tm.A9):=by rw[Tm.CK];unfold XE;simp only;rw[D5 ⟨⟨trivial,trivial⟩,by simpa using hk,by rw[z1q];omega⟩]
   rw[ap];simp only[J4,z9q,z1q,Nat.zero_add,B0W hl];have os:Po (20,[],t.D6.map Tm.A9) i y.A9=some (.opn 20 [] ((t.D6.map Tm.A9).set i y.A9)):=by unfold Po;rw[D5 ⟨Nat.zero_le _,by simpa using hl⟩];rfl
   rw[os];have so:∀o p q,NB [H7.opn o p q] 0=some (o,p,q):=λ_ _ _=>rfl;simp only[J4,so];have cl:Kh (20,[],(t.D6.map Tm.A9).set i y.A9) 20 t.D6.length=some (.list 20 ((t.D6.map Tm.A9).set i y.A9)):=by unfold Kh;rw[D5 ⟨rfl,by simp,by omega⟩];rfl
   rw[cl];simp only[J4,C86,rsE];rfl
theorem A9v(rt:t.right=true)(k:t.A8=16)(hv:(t.kd 0).L9=true):C9.p GR [t.A9]=some (X9 t (t.kd 0)).A9:=by have l1:=Tm.B_ rt (.inr k);refine(Xh _).trans ?_;rw[aF];simp only[I8,F4,U5,yS rt,J4];unfold A9Y;rw[show Z9 t.A8=1 by rw[k];rfl,B7A,D5 hv];simp only[Ki,J4,E9,F5,kq];rw[C8 (by decide),C8 (by omega),C8 (by omega),ZI];simp only[kq,J4,E9,F5];rw[C8 (by omega),C8 (by omega),C8 (by omega),C8 (by omega),D5 k,x0 (by omega)];simp only[J4,U5,A1c rt k (Tm.AX rt (show 0<t.D6.length by omega)),SR.J_]
theorem C0v(rt:t.right=true)(k:t.A8=16)(h:Stp t):C9.p GR [t.A9]=some t.Ca.A9:=by
 have l1:=Tm.B_ rt (.inr k);rcases h with h | ⟨h1,h2,h3,h4⟩
 ·rw[A9v rt k h,Tm.Gq,Tm.Ib l1,D5 (by simpa using h)]
 ·have l2:=Tm.B_ h3 (.inr h2);have e2:(t.kd 0).Ca=X9 (t.kd 0) ((t.kd 0).kd 0):=by rw[Tm.Gq,Tm.Ib l2,D5 (by simpa using h4)]
  have e:t.Ca=(X9 (t.kd 0) ((t.kd 0).kd 0)).bind λx=>.ok (t.AR 0 x):=by rw[<- e2,Tm.Gq,Tm.Ib l1,C8 (by simp[h1])];rfl
  rw[e];exact B1M (i:=0) rt (by rw[show Z9 t.A8=1 by rw[k];rfl,B7A,C8 (by simp[h1])]) (by omega) (by rw[l1];decide) (aB _ _) (A9v h3 h2 h4)
noncomputable def s1(x:Tm):Option DV:=QJ C9 x.A9
variable {x:Tm}
theorem C6A(rx:x.right=true)(hv:x.L9=true):s1 x=some (SR.ok x).A9:=by unfold s1;rw[VV];simp only[U5,TG x rx,hv,J4,P9,E9,z5q,z0q,F9,Cw];rfl
theorem C4m{z:SR}(rx:x.right=true)(hv:x.L9=false)(hz:C9.p GR [x.A9]=some z.A9)(hg:z.good):s1 x=z.fold s1 λr=>some (SR.fin r).A9:=by
 unfold s1;rw[VV];simp only[U5,TG x rx,hv,J4,P9,E9,zgq,H5,hz,SR.mM,SR.mO];cases z with
 |fin r=>simp only[I8,Q5,F4,Nz,J4,E9,z4q,Q8];rw[D5 (show ¬r.A8=0 from hg)];(try simp only[U5]);(try rw[rsE]);rfl
 |ok y=>
   simp only[I8,Q5,F4,Nz,show(Bc 0).A8=0 from rfl,J4,E9,L8,z5q,z0q,F9]
   rfl
theorem B1N:∀(n:Nat){x:Tm},XB n x->s1 x=some (AY n x).A9
 |0,x,h=>h.elim
 |n+1,x,⟨rx,h⟩=>by
   rcases h with hv | ⟨hv,k16,stp,hy⟩
   ·rw[Ol hv,C6A rx hv]
   ·rw[C4m rx hv (C0v rx k16 stp) (yU x k16 rx stp),Me hv];cases hs:x.Ca with
    |fin r=>rfl
    |ok y=>exact B1N n (hy y hs)
theorem B2I(h:XB n x):C9.p jH [x.A9]=some (AY n x).A9:=by refine(uu _).trans ?_;rw[A0a];simp only[I8,F4];exact B1N n h
end Go.Su

/-
 The calculus: the document's parts; a pattern held against a value.
-/
namespace Go.Su
set_option linter.unusedSectionVars false
variable (A8:Int)
noncomputable def q6(L out:List Tm)(i:Nat)(x:Tm):Option DV:=NI C9 (.list 20 (L.map Tm.A9)) (.list 20 (out.map Tm.A9)) (iI A8) (iI (i:Int)) x.A9
noncomputable def JO(L out:List Tm)(i j:Nat)(x w:Tm):Option DV:=Lt C9 (.list 20 (L.map Tm.A9)) (.list 20 (out.map Tm.A9)) (iI A8) (iI (i:Int)) (iI (j:Int)) x.A9 w.A9
theorem C4a{A8:Int}{L out:List Tm}{i:Nat}{x w:Tm}(hi:i<2)(ho:out.length<4):JO A8 L out i L.length x w=q6 A8 L (out++[w]) (i+1) x:=by unfold JO q6;rw[Kk];simp only[N8,z1q,J4,J6,E9,F5,U5];rw[C8 (by omega),Cs (by unfold J9;omega)];simp only[J4,Ag];rw[X7 (by omega) (by omega)];rfl
section
variable {A8:Int}{L out:List Tm}{i j:Nat}{x w:Tm}(hl:j<L.length)(hj:j<9223372036854775000)
include hl
theorem C39(hj:j<9223372036854775000)(hb:L[j].b.A8=5):JO A8 L out i j x w=JO A8 L out i (j+1) x w:=by unfold JO;rw[Kk];simp only[N8,z1q,J4,J6,E9,F5];rw[D5 (by omega),J3 hl];simp only[J4,bq,hb,L8,E9,H5,Ag];rw[X7 (by omega) (by omega)];rfl
theorem C6p(hb:L[j].b.A8≠5)(hk:L[j].a.A8≠A8\/L[j].b.A8≠A8):JO A8 L out i j x w=some (.I4 [.list 20 [],Bw.A9]):=by
 unfold JO;rw[Kk];simp only[N8,z1q,J4,J6,E9,F5];rw[D5 (by omega),J3 hl];simp only[J4,bq,an,bn,hb,R4,E9,J5,z0q,F9,z4q,Q8,KJ,Q5,F4,rsE]
 by_cases h1:L[j].a.A8=A8
 ·rw[C8 (λh=>h h1),D5 (hk.resolve_left λh=>h h1)]
 ·rw[D5 h1]
theorem C6o(hj:j<9223372036854775000)(hi:i=0\/i=1)(hb:L[j].b.A8≠5)(ka:L[j].a.A8=A8)(kb:L[j].b.A8=A8)(ha:i=1/\L[j].a.A8=8\/i<L[j].a.D6.length)(HV:i=1/\L[j].b.A8=8\/i<L[j].b.D6.length){n:Nat}(st:XB n (J8 L[j] L[j].neg (V3 L[j].a i) (V3 L[j].b i) w))(gd:(AY n (J8 L[j] L[j].neg (V3 L[j].a i) (V3 L[j].b i) w)).good):
 JO A8 L out i j x w=(AY n (J8 L[j] L[j].neg (V3 L[j].a i) (V3 L[j].b i) w)).fold (λy=>JO A8 L out i (j+1) x y) λr=>some (.I4 [.list 20 [],r.A9]):=by
 have h5:¬A8=5:=λh=>hb (kb.trans h);unfold JO;rw[Kk];simp only[N8,z1q,J4,J6,E9,F5];rw[D5 (by omega),J3 hl];simp only[J4,bq,an,bn,R4,E9,J5,z0q,F9,ka,kb,h5,L8,z5q,wH,tmB,U5,A6J hi (ha.imp (λh=>⟨h.2,h.1⟩) id),A6J hi (HV.imp (λh=>⟨h.2,h.1⟩) id),Uc,B2I st,SR.mM,SR.mO]
 cases hs:AY n (J8 L[j] L[j].neg (V3 L[j].a i) (V3 L[j].b i) w)with
 |fin r=>rw[hs]at gd;simp only[I8,Q5,F4,Nz,J4,E9,z4q,Q8];rw[D5 (show ¬r.A8=0 from gd)];(try rw[rsE]);rfl
 |ok y=>
   simp only[I8,Q5,F4,Nz,show(Bc 0).A8=0 from rfl,J4,E9,L8,z5q,z0q,F9,Ag]
   rw[X7 (by omega) (by omega)];rfl
end
theorem Done.good{Q:Tm->Prop}{x:SR}(h:Done Q x):x.good:=by
 cases x with
 |ok y=>trivial
 |fin r=>exact h
section
variable {Tq:Ty->Prop}{Q:Tm->Prop}(C:CQ Tq Q)
include C
theorem yF{i:Nat}(hi:i=0\/i=1)(hp:∀y,Tq y->(y.A8=8/\i=1\/i<y.D6.length)->Tq (V3 y i)){A8:Int}(hk:A8=7\/A8=8){L:List Tm}(hL:L.length<9223372036854775000)(hc:∀c∈L,c.right=true/\c.A8=16/\Tq c.a/\Tq c.b){out:List Tm}(ho:out.length<4)(x:Tm):∀(n j:Nat)(w:Tm),j+n=L.length->Q w->w.L9=true->
 JO A8 L out i j x w=(Bo A8 i (L.drop j) w).fold (λy=>q6 A8 L (out++[y]) (i+1) x) λr=>some (.I4 [.list 20 [],r.A9])
 |0,j,w,hj,hq,hv=>by
   have e:j=L.length:=by omega
   subst e;rw[C4a (by omega) ho,ztq];rfl
 |n+1,j,w,hj,hq,hv=>by
   have hl:j<L.length:=by omega
   obtain⟨rc,kc,ta,tb⟩:=hc _ (z6q hl);obtain⟨ra,rb,l0,l1⟩:=Tm.BG rc kc;rw[z3q hl,Bo];by_cases b5:L[j].b.A8=5
   ·rw[D5 b5,C39 hl (by omega) b5];exact yF hi hp hk hL hc ho x n (j+1) w (by omega) hq hv
   rw[C8 b5];by_cases hn:L[j].a.A8≠A8\/L[j].b.A8≠A8
   ·rw[D5 hn,C6p hl b5 hn];rfl
   rw[C8 hn];have ka:L[j].a.A8=A8:=Classical.byContradiction λh=>hn (.inl h);have kb:L[j].b.A8=A8:=Classical.byContradiction λh=>hn (.inr h);have la:=YE ra (ka ▸ hk) i (by omega);have lb:=YE rb (kb ▸ hk) i (by omega);obtain⟨st,dn⟩:=bu C (c:=L[j]) (q:=L[j].neg) l0 l1 (hp _ ta (la.imp (λh=>⟨h.2,h.1⟩) id)) (hp _ tb (lb.imp (λh=>⟨h.2,h.1⟩) id)) hq hv;rw[C6o hl (by omega) hi b5 ka kb la lb st dn.good];cases hs:AY 4 (J8 L[j] L[j].neg (V3 L[j].a i) (V3 L[j].b i) w)with
   |fin r=>rfl
   |ok y=>rw[hs]at dn;exact yF hi hp hk hL hc ho x n (j+1) y (by omega) dn.2 dn.1
theorem B5a(hp:∀y i,i<2->Tq y->(y.A8=8/\i=1\/i<y.D6.length)->Tq (V3 y i)){L:List Tm}(hL:L.length<9223372036854775000)(hc:∀c∈L,c.right=true/\c.A8=16/\Tq c.a/\Tq c.b){x:Tm}(l2:x.D6.length=2)(q0:Q (x.kd 0))(v0:(x.kd 0).L9=true)(q1:Q (x.kd 1))(v1:(x.kd 1).L9=true):
 C9.p Zt [x.A9,.list 20 (L.map Tm.A9)]=some (match Bn L x with | .ok a b=>.I4 [.list 20 [a.A9,b.A9],(Bc 0).A9] | .fin r=>.I4 [.list 20 [],r.A9]):=by
 have hk:(if x.A8=8 then(8:Int)else 7)=7\/(if x.A8=8 then(8:Int)else 7)=8:=by split<;>simp
 have st:C9.p Zt [x.A9,.list 20 (L.map Tm.A9)]=q6 (if x.A8=8 then 8 else 7) L [] 0 x:=by
  rw[A0F,A2w];simp only[I8,F4,J4,kq,E9,F5];unfold q6;by_cases k8:x.A8=8
  ·rw[D5 k8,D5 k8];rfl
  ·rw[C8 k8,C8 k8];rfl
 have g0:q6 (if x.A8=8 then 8 else 7) L [] 0 x=JO (if x.A8=8 then 8 else 7) L [] 0 0 x (x.kd 0):=by unfold q6 JO;rw[QV];simp only[J6,J4,E9,F5];rw[D5 (by decide),xI (show 0<x.D6.length by omega)];rfl
 have g1:∀a,q6 (if x.A8=8 then 8 else 7) L [a] 1 x=JO (if x.A8=8 then 8 else 7) L [a] 1 0 x (x.kd 1):=by intro a;unfold q6 JO;rw[QV];simp only[J6,J4,E9,F5];rw[D5 (by decide),xI (show 1<x.D6.length by omega)];rfl
 have g2:∀a b,q6 (if x.A8=8 then 8 else 7) L [a,b] 2 x=some (.I4 [.list 20 [a.A9,b.A9],(Bc 0).A9]):=by intro a b;unfold q6;rw[QV];simp only[J6,J4,E9,F5];rw[C8 (by decide),Cw];rfl
 rw[st,g0,yF C (.inl rfl) (λy=>hp y 0 (by omega)) hk hL hc (by simp) x L.length 0 (x.kd 0) (by omega) q0 v0,zcq];unfold Bn;cases hf:Bo (if x.A8=8 then 8 else 7) 0 L (x.kd 0)with
 |fin r=>rfl
 |ok a=>
   show q6 _ L [a] 1 x=_;rw[g1,yF C (.inr rfl) (λy=>hp y 1 (by omega)) hk hL hc (by simp) x L.length 0 (x.kd 1) (by omega) q1 v1,zcq];cases hf1:Bo (if x.A8=8 then 8 else 7) 1 L (x.kd 1)with
   |fin r=>rfl
   |ok b=>exact g2 a b
end
end Go.Su

/-
 The calculus: a pattern held against a value: the program's, the document's.
-/
namespace Go.Su
set_option linter.unusedSectionVars false
structure CQ2(Tq:Ty->Prop)(Q:Tm->Prop):Prop extends CQ Tq Q where
 k2:∀t,Q t->t.A8=6\/t.A8=8->Q (t.kd 0)/\Q (t.kd 1)
 ty2:∀t,Q t->t.A8=16->Tq t.a/\Tq t.b
 pt:∀y i,i<2->Tq y->(y.A8=8/\i=1\/i<y.D6.length)->Tq (V3 y i)
theorem CQ2.O6{Tq:Ty->Prop}{Q:Tm->Prop}(C:CQ2 Tq Q)(v:Tm):Q v->v.L9=true->(∀c∈v.O6,c.right=true/\c.A8=16/\Tq c.a/\Tq c.b)/\Q v.K4/\v.K4.L9=true/\v.K4.A8≠16:=by
 induction v using Tm.ind with
 |h v ih=>
   intro hq hv;by_cases k:v.A8=16
   ·have rv:=C.r _ hq;have l1:=Tm.B_ rv (.inr k);obtain⟨c1,c2⟩:=XD k l1;obtain⟨i1,i2,i3,i4⟩:=ih _ (Tm.U4 (show 0<v.D6.length by omega)) (C.kid _ hq k) (B0H hv k l1);rw[c1,c2];refine⟨λc hc=>?_,i2,i3,i4⟩;rcases zDq.1 hc with hc | hc
    ·exact i1 c hc
    ·rw[zVq.1 hc];exact⟨rv,k,C.ty2 _ hq k⟩
   ·rw[(KH k).1,(KH k).2];exact⟨by simp,hq,hv,k⟩
def BI(c:ER):DV:=.agg [.str c.1,A7 0 c.2.A9,A7 1 c.2.A9,A7 2 c.2.A9,A7 3 c.2.A9,A7 4 c.2.A9,A7 5 c.2.A9,A7 6 c.2.A9,A7 7 c.2.A9,A7 8 c.2.A9,A7 9 c.2.A9,A7 10 c.2.A9,A7 11 c.2.A9,A7 12 c.2.A9,A7 13 c.2.A9,A7 14 c.2.A9,A7 15 c.2.A9,A7 16 c.2.A9,A7 17 c.2.A9,A7 18 c.2.A9,A7 19 c.2.A9]
def FR.Tu:FR->Bool
 |.ok _=>true
 |_=>false
def FR.res:FR->GZ
 |.fin r=>r
 |_=>Bc 0
def FR.cells:FR->List ER
 |.ok m=>m
 |_=>[]
def FR.good(x:FR):Prop:=match x with | .fin r=>r.A8≠0 | _=>True
variable (p:E8)
theorem pq(k:Int):D7 .eql (A7 0 p.A9) (iI k)=some (.bool (decide (p.A8=k))):=by rw[E8.AV,P6]
theorem B0m:DV.agg [A7 0 p.A9,A7 1 p.A9,A7 2 p.A9,A7 3 p.A9,A7 4 p.A9,A7 5 p.A9,A7 6 p.A9]=p.A9:=by rw[E8.K9];rfl
theorem pI0{p:E8}(h:0<p.D6.length):F7 7 (A7 6 p.A9) (iI 0)=some (p.kd 0).A9:=by rw[E8.MO,show(0:Int)=((0:Nat):Int)from rfl,J3 h,E8.UV h]
theorem pI1{p:E8}(h:1<p.D6.length):F7 7 (A7 6 p.A9) (iI 1)=some (p.kd 1).A9:=by rw[E8.MO,show(1:Int)=((1:Nat):Int)from rfl,J3 h,E8.UV h]
variable (v:Tm)
theorem nq(p:E8):D7 .eql (A7 5 v.A9) (A7 4 p.A9)=some (.bool (decide (v.n=p.n))):=by rw[E8.Qc,Tm.Du,P6]
theorem nq'(p:E8):D7 .eql (A7 4 p.A9) (A7 5 v.A9)=some (.bool (decide (p.n=v.n))):=by rw[E8.Qc,Tm.Du,P6]
theorem sq(p:E8):D7 .eql (A7 6 v.A9) (A7 5 p.A9)=some (.bool (decide (v.s=p.s))):=by rw[E8.Du,Tm.MO,Lx]
theorem sq'(p:E8):D7 .eql (A7 5 p.A9) (A7 6 v.A9)=some (.bool (decide (p.s=v.s))):=by rw[E8.Du,Tm.MO,Lx]
theorem C2M:J7 (A7 3 p.A9)=true:=by rw[E8.EU];rfl
theorem B6H:DV.agg [A7 3 p.A9,A7 0 v.A9,A7 1 v.A9,A7 2 v.A9,A7 3 v.A9,A7 4 v.A9,A7 5 v.A9,A7 6 v.A9,A7 7 v.A9,A7 8 v.A9,A7 9 v.A9,A7 10 v.A9,A7 11 v.A9,A7 12 v.A9,A7 13 v.A9,A7 14 v.A9,A7 15 v.A9,A7 16 v.A9,A7 17 v.A9,A7 18 v.A9,A7 19 v.A9]=BI (p.name,v):=by rw[E8.EU];rfl
variable {p:E8}
theorem E8.B4r(h:p.pat=true):1<=p.A8/\p.A8<=9:=by
 rw[E8.Ra,z2q]at h;have:=h.1;unfold E8.one at this
 repeat' split at this
 all_goals first | omega | simp at this
theorem E8.Gl(h:p.pat=true)(hk:p.A8=7\/p.A8=9):p.D6.length=2:=by rw[E8.Ra,z2q]at h;have:=h.1;unfold E8.one at this;rcases hk with hk | hk<;>simp[hk]at this<;>exact this.1.1.1
theorem E8.Eb{k:E8}(h:p.pat=true)(hk:k∈p.D6):k.pat=true:=by rw[E8.Ra,z2q,zlq]at h;exact h.2 k hk
theorem E8.JM{i:Nat}(h:i<p.D6.length):p.kd i∈p.D6:=by unfold E8.kd;rw[zmq,zdq h];exact z6q h
theorem FR.A9Q{a:FR}{b:List ER->FR}{m:List ER}(h:a.also b=.ok m):∃l,a=.ok l/\b l=.ok m:=by
 cases a with
 |ok l=>exact⟨l,rfl,h⟩
 |_=>cases h
theorem FR.B4s{a:FR}{l m:List ER}(h:a.pre l=.ok m):∃q,a=.ok q/\m=l++q:=by
 cases a with
 |ok q=>simp only[FR.pre,FR.ok.injEq]at h;exact⟨q,rfl,h.symm⟩
 |_=>cases h
theorem E8.Vm{Tq:Ty->Prop}{Q:Tm->Prop}(C:CQ2 Tq Q)(p:E8):p.pat=true->∀(v:Tm),Q v->v.L9=true->(∀m,p.AU v=.ok m->(∀c∈m,Q c.2/\c.2.L9=true)/\m.length<=p.size)/\(p.AU v).good:=by
 induction p using E8.ind with
 |h p ih=>
   intro hp v hq hv;have hs:=p.Ed;obtain⟨ch,qi,vi,ki⟩:=C.O6 v hq hv;rw[E8.Vl p v (E8.Gl hp)];by_cases k1:p.A8=1
   ·rw[D5 k1];exact⟨λm h=>by cases h;simp,trivial⟩
   rw[C8 k1];by_cases k2:p.A8=2
   ·rw[D5 k2];exact⟨λm h=>by cases h;exact⟨by simpa using⟨hq,hv⟩,by simp;omega⟩,trivial⟩
   rw[C8 k2];by_cases k3:v.A8=16/\v.b.A8=5\/v.K4.A8≠p.A8-1
   ·rw[D5 k3];exact⟨λm h=>by(cases h),trivial⟩
   rw[C8 k3];by_cases hk:p.A8=7\/p.A8=9
   ·rw[D5 hk];have l2:=E8.Gl hp hk;have vk:v.K4.A8=p.A8-1:=Classical.byContradiction λh=>k3 (.inr h);have i2:v.K4.A8=6\/v.K4.A8=8:=by omega
    have ri:=C.r _ qi;have il:=Tm.EF ri (by omega);obtain⟨q0,q1⟩:=C.k2 _ qi i2;have YR:(v.K4.kd 0).L9=true/\(v.K4.kd 1).L9=true:=by rw[Tm.FY,C8 (by omega),D5 i2,all2 il,z2q]at vi;exact vi
    have pd:=rV C.toCQ C.pt ch q0 YR.1 q1 YR.2;cases Ip:Bn v.O6 v.K4 with
    |fin r=>rw[Ip]at pd;exact⟨λm h=>by(cases h),pd⟩
    |ok a b=>
      rw[Ip]at pd;obtain⟨⟨va,qa⟩,vb,qb⟩:=pd;have m0:=E8.JM (show 0<p.D6.length by omega);have m1:=E8.JM (show 1<p.D6.length by omega);obtain⟨x0,x1⟩:=ih _ m0 (E8.Eb hp m0) a qa va;obtain⟨y0,y1⟩:=ih _ m1 (E8.Eb hp m1) b qb vb;have Ak:=p.size_eq;have BD:p.D6=[p.kd 0,p.kd 1]:=by
       match hk:p.D6,l2 with
       |[a,b],_=>simp[E8.kd,hk]
      rw[BD]at Ak;simp only[zeq,zfq,zEq,zpq]at Ak;refine⟨λm h=>?_,?_⟩
      ·obtain⟨l,h1,h2⟩:=FR.A9Q h;obtain⟨q,h3,rfl⟩:=FR.B4s h2;obtain⟨a1,a2⟩:=x0 l h1;obtain⟨b1,b2⟩:=y0 q h3;refine⟨λc hc=>?_,by rw[zHq];omega⟩;rcases zDq.1 hc with hc | hc
       ·exact a1 c hc
       ·exact b1 c hc
      ·show(((p.kd 0).AU a).also λl=>((p.kd 1).AU b).pre l).good;cases hm:(p.kd 0).AU a with
       |no=>trivial
       |fin r=>rw[hm]at x1;exact x1
       |ok l=>
         show(((p.kd 1).AU b).pre l).good;cases TV:(p.kd 1).AU b with
         |no=>trivial
         |fin r=>rw[TV]at y1;exact y1
         |ok m=>trivial
   ·rw[C8 hk];split
    ·exact⟨λm h=>by(cases h),trivial⟩
    ·exact⟨λm h=>by cases h;simp,trivial⟩
def rcs(r:GZ):List DV:=[A7 0 r.A9,A7 1 r.A9,A7 2 r.A9,A7 3 r.A9,A7 4 r.A9,A7 5 r.A9,A7 6 r.A9,A7 7 r.A9,A7 8 r.A9,A7 9 r.A9,A7 10 r.A9,A7 11 r.A9,A7 12 r.A9,A7 13 r.A9,A7 14 r.A9]
structure TB(sg:List H7)(i:Nat)(l:List ER)(r:GZ):Prop where
 h:∃cs,Q7 sg i=some cs/\cs.length=16/\Ld cs 0=some (.list 21 (l.map BI))/\Dj 1 15 cs=some (rcs r)
def dR(i:Nat)(l:List ER)(o:FR)(q:Option (List DV×List H7)):Prop :=∃(sg':List H7)(l':List ER),q=some ([.bool o.Tu],sg')/\TB sg' i l' o.res/\(o.Tu=true->l'=l++o.cells)
theorem C0B{cs:List (DV×H6)}{x:DV×H6}(hl:cs.length=16):Dj 1 15 (cs.set 0 x)=Dj 1 15 cs:=by
 match cs,hl with
 |_::_,_=>rfl
theorem B6p{sg:List H7}{i:Nat}{l:List ER}(p:E8)(v:Tm)(h:TB sg i l (Bc 0))(hl:l.length<J9):
 dR i l (.ok [(p.name,v)]) (ob (Q7 sg i) λc3=>ob (Ld c3 0) λd4=>ob (AP 21 d4 (.list 21 [BI (p.name,v)])) λd5=>ob (Q7 (sg.set i (H7.box (c3.set 0 (d4,.val)))) i) λc6=>ob (c6[0]?) λu7=>some ([.bool true],((sg.set i (H7.box (c3.set 0 (d4,.val)))).set i (H7.box (c6.set 0 (d5,.own)))))):=by
 obtain⟨cs,h1,h2,h3,h4⟩:=h.h;have hi:=A7i h1;have h0:0<cs.length:=by omega
 simp only[h1,h3,J4,Cs (e:=BI) (sz:=21) (l:=l) (x:=(p.name,v)) hl,qC hi,List.set_set];rw[zoq h0];simp only[J4];refine⟨_,l++[(p.name,v)],rfl,⟨_,qC hi _,by simp[h2],?_,?_⟩,λ_=>rfl⟩
 ·rw[Ld,zoq (by simpa using h0)]
 ·rw[C0B (by simp[h2])];exact h4
theorem C7O(a b:Tm):DV.agg [A7 0 (two a b),A7 1 (two a b),A7 2 (two a b),A7 3 (two a b),A7 4 (two a b),A7 5 (two a b),A7 6 (two a b),A7 7 (two a b),A7 8 (two a b),A7 9 (two a b),A7 10 (two a b),A7 11 (two a b),A7 12 (two a b),A7 13 (two a b),A7 14 (two a b),A7 15 (two a b),A7 16 (two a b),A7 17 (two a b),A7 18 (two a b),A7 19 (two a b)]=a.A9:=U5 a
theorem C7P(a b:Tm):DV.agg [A7 20 (two a b),A7 21 (two a b),A7 22 (two a b),A7 23 (two a b),A7 24 (two a b),A7 25 (two a b),A7 26 (two a b),A7 27 (two a b),A7 28 (two a b),A7 29 (two a b),A7 30 (two a b),A7 31 (two a b),A7 32 (two a b),A7 33 (two a b),A7 34 (two a b),A7 35 (two a b),A7 36 (two a b),A7 37 (two a b),A7 38 (two a b),A7 39 (two a b)]=b.A9:=U5 b
section
variable {Tq:Ty->Prop}{Q:Tm->Prop}(C:CQ2 Tq Q){B:Nat}(hB:3 * B<=J9)
include C hB
theorem A6H(p:E8):p.pat=true->∀(v:Tm),Q v->v.L9=true->WP B v->∀(l:List ER)(sg:List H7)(i:Nat),TB sg i l (Bc 0)->l.length+p.size<=J9->
 dR i l (p.AU v) (C9.r CO [(.undef,.ptr i 0),(p.A9,.val),(v.A9,.val)] sg):=by
 induction p using E8.ind with
 |h p ih=>
   intro hp v hq hv bd l sg i hb hl;have pk:=E8.B4r hp;have hs:=p.Ed;obtain⟨ch,qi,vi,ki⟩:=C.O6 v hq hv;have bl:=bd.l;rw[WF,XJ,E8.Vl p v (E8.Gl hp)];simp only[Sr,I8,F4,pq,kq,bq,J4,E9,J5,F5,U5,C2M,B6H,B2q v (C.r _ hq) (by omega) sg,Ct,Cu]
   have yes:dR i l (.ok []) (some ([.bool true],sg)):=⟨sg,l,rfl,hb,λ_=>by simp[FR.cells]⟩;have no:dR i l .no (some ([.bool false],sg)):=⟨sg,l,rfl,hb,λh=>by cases h⟩;by_cases k1:p.A8=1
   ·rw[D5 k1,D5 k1];exact yes
   rw[C8 k1,C8 k1];by_cases k2:p.A8=2
   ·rw[D5 k2,D5 k2];exact B6p p v hb (by omega)
   rw[C8 k2,C8 k2];have main:dR i l (if v.K4.A8≠p.A8-1 then .no else if p.A8=7\/p.A8=9 then(match Bn v.O6 v.K4 with | .fin r=>.fin r | .ok a b=>((p.kd 0).AU a).also λl=>((p.kd 1).AU b).pre l)else if (p.A8=3\/p.A8=4)/\v.K4.n≠p.n\/p.A8=5/\v.K4.s≠p.s then .no else .ok [])
    (IR C9 i (.list 20 (v.O6.map Tm.A9)) p.A9 v.K4.A9 sg):=by
    rw[TK];simp only[pq,kq,kn,nq,sq,J4,E9,J5,F5,z4q,Q8];have leaf:∀(b:Bool)(c:Prop) [Decidable c],(b=true↔¬c)->dR i l (if c then .no else .ok []) (some ([.bool b],sg)):=by
     intro b c _ h;by_cases hc:c
     ·have:b=false:=by cases b;rfl;exact absurd hc (h.1 rfl)
      rw[D5 hc,this];exact no
     ·rw[C8 hc,h.2 hc];exact yes
    have skip:v.K4.A8≠p.A8-1->∀{X:FR},dR i l (if v.K4.A8≠p.A8-1 then .no else X) (some ([.bool false],sg)):=λh {X}=>by rw[D5 h];exact no
    have go:v.K4.A8=p.A8-1->∀{X Y:FR},dR i l (if v.K4.A8≠p.A8-1 then Y else X)=dR i l X:=λh {X Y}=>by rw[C8 (λg=>g h)]
    by_cases k3:p.A8=3
    ·rw[D5 k3];by_cases vk:v.K4.A8=2
     ·rw[D5 vk,go (by omega),C8 (by omega)];exact leaf _ _ (by simp[k3])
     ·rw[C8 vk];exact skip (by omega)
    rw[C8 k3];by_cases k4:p.A8=4
    ·rw[D5 k4];by_cases vk:v.K4.A8=3
     ·rw[D5 vk,go (by omega),C8 (by omega)];exact leaf _ _ (by simp[k4])
     ·rw[C8 vk];exact skip (by omega)
    rw[C8 k4];by_cases k5:p.A8=5
    ·rw[D5 k5];by_cases vk:v.K4.A8=4
     ·rw[D5 vk,go (by omega),C8 (by omega)];exact leaf _ _ (by simp[k5])
     ·rw[C8 vk];exact skip (by omega)
    rw[C8 k5];by_cases k6:p.A8=6
    ·rw[D5 k6];by_cases vk:v.K4.A8=5
     ·rw[go (by omega),C8 (by omega)];exact leaf _ _ (by simp[k6,vk])
     ·rw[show decide (v.K4.A8=5)=false by simpa using vk];exact skip (by omega)
    rw[C8 k6];by_cases k8:p.A8=8
    ·rw[D5 k8];by_cases vk:v.K4.A8=7
     ·rw[go (by omega),C8 (by omega)];exact leaf _ _ (by simp[k8,vk])
     ·rw[show decide (v.K4.A8=7)=false by simpa using vk];exact skip (by omega)
    rw[C8 k8];have hk:p.A8=7\/p.A8=9:=by omega
    have l2:=E8.Gl hp hk;by_cases vk:v.K4.A8=p.A8-1
    ·rw[go vk,D5 hk];have i2:v.K4.A8=6\/v.K4.A8=8:=by omega
     have ri:=C.r _ qi;have il:=Tm.EF ri (by omega);obtain⟨q0,q1⟩:=C.k2 _ qi i2;have YR:(v.K4.kd 0).L9=true/\(v.K4.kd 1).L9=true:=by rw[Tm.FY,C8 (by omega),D5 i2,all2 il,z2q]at vi;exact vi
     obtain⟨d,e1,e2⟩:=B2s C.toCQ C.pt (L:=v.O6) (by unfold J9 at hB;omega) ch il q0 YR.1 q1 YR.2;have pd:=rV C.toCQ C.pt ch q0 YR.1 q1 YR.2;have pg:∀a b,Bn v.O6 v.K4=.ok a b->WP B a/\WP B b:=by
      intro a b EO;have g0:=MN C.toCQ (i:=0) (λy=>C.pt y 0 (by omega)) (A8:=if v.K4.A8=8 then 8 else 7) (λy h k=>YE h (by rw[k];split<;>simp) 0 (by omega)) v.O6 ch _ q0 YR.1;have g1:=MN C.toCQ (i:=1) (λy=>C.pt y 1 (by omega)) (A8:=if v.K4.A8=8 then 8 else 7) (λy h k=>YE h (by rw[k];split<;>simp) 1 (by omega)) v.O6 ch _ q1 YR.2;unfold Bn at EO;cases h0:Bo (if v.K4.A8=8 then 8 else 7) 0 v.O6 (v.K4.kd 0)with
      |fin r=>rw[h0]at EO;cases EO
      |ok x=>
        rw[h0]at EO g0;simp only at EO;cases h1:Bo (if v.K4.A8=8 then 8 else 7) 1 v.O6 (v.K4.kd 1)with
        |fin r=>rw[h1]at EO;cases EO
        |ok y=>rw[h1]at EO g1;cases EO;exact⟨bd.part (Tm.U4 (by omega)) (Tm.AX ri (by omega)) g0.2.2,bd.part (Tm.U4 (by omega)) (Tm.AX ri (by omega)) g1.2.2⟩
     have q23:dR i l (match Bn v.O6 v.K4 with | .fin r=>.fin r | .ok a b=>((p.kd 0).AU a).also λl=>((p.kd 1).AU b).pre l) (DR C9 i (.list 20 (v.O6.map Tm.A9)) p.A9 v.K4.A9 sg):=by
      rw[TL];simp only[U5,e2,J4];cases Ip:Bn v.O6 v.K4 with
      |fin r=>
        rw[Ip]at pd;obtain⟨cs,h1,h2,h3,h4⟩:=hb.h;have hi:=A7i h1;simp only[Ct,Cu,J4,e1,Q5,F4,Nz,E9,z4q,Q8];rw[D5 (show ¬r.A8=0 from pd)];simp only[h1,J4]
        match cs,h2 with
        |[a0,a1,a2,a3,a4,a5,a6,a7,a8,a9,a10,a11,a12,a13,a14,a15],_=>rw[D5 (show 1+15<=[a0,a1,a2,a3,a4,a5,a6,a7,a8,a9,a10,a11,a12,a13,a14,a15].length from zKq 16)];exact⟨_,l,rfl,⟨_,qC hi _,rfl,h3,rfl⟩,λh=>by cases h⟩
      |ok a b=>
        rw[Ip]at pd;obtain⟨⟨va,qa⟩,vb,qb⟩:=pd;obtain⟨ba,bb⟩:=pg a b Ip;have m0:=E8.JM (show 0<p.D6.length by omega);have m1:=E8.JM (show 1<p.D6.length by omega);have z:(p.kd 0).size+(p.kd 1).size<p.size:=by
         have Ak:=p.size_eq;have BD:p.D6=[p.kd 0,p.kd 1]:=by
          match hk:p.D6,l2 with
          |[a,b],_=>simp[E8.kd,hk]
         rw[BD]at Ak;simp only[zeq,zfq,zEq,zpq]at Ak;omega
        simp only[Ct,Cu,J4,C4A,Q5,F4,Nz,show(Bc 0).A8=0 from rfl,E9,L8,z5q,z0q,F9,pI0 (show 0<p.D6.length by omega),pI1 (show 1<p.D6.length by omega),B0m]
        obtain⟨sg1,l1,f1,f2,f3⟩:=ih _ m0 (E8.Eb hp m0) a qa va ba l sg i hb (by omega);simp only[C7O a b,C7P a b];have ml:=(E8.Vm C (p.kd 0) (E8.Eb hp m0) a qa va).1;rw[f1];simp only[J4,z7q,J5];cases hm:(p.kd 0).AU a with
        |no=>rw[hm]at f2;exact⟨sg1,l1,rfl,f2,λh=>by cases h⟩
        |fin r=>rw[hm]at f2;exact⟨sg1,l1,rfl,f2,λh=>by cases h⟩
        |ok m=>
          rw[hm]at f2 f3;have e3:=f3 rfl;have lm:=(ml m hm).2;obtain⟨sg2,l2',g1,g2,g3⟩:=ih _ m1 (E8.Eb hp m1) b qb vb bb l1 sg1 i f2 (by rw[e3];simp only[FR.cells,zHq];omega);simp only[show(FR.ok m).Tu=true from rfl,H5]
          rw[g1];simp only[J4,z7q]
          show dR i l (((p.kd 1).AU b).pre m) _;cases TV:(p.kd 1).AU b with
          |no=>rw[TV]at g2;exact⟨sg2,l2',rfl,g2,λh=>by cases h⟩
          |fin r=>rw[TV]at g2;exact⟨sg2,l2',rfl,g2,λh=>by cases h⟩
          |ok m'=>rw[TV]at g2 g3;refine⟨sg2,l2',rfl,g2,λ_=>?_⟩;rw[g3 rfl,e3];simp only[FR.cells,FR.pre,ziq]
     rcases hk with k7 | k9
     ·rw[D5 k7,C8 (λh=>h (by omega)),C8 (by omega)];exact q23
     ·rw[C8 (by omega),D5 k9,C8 (λh=>h (by omega))];exact q23
    ·refine(?_:dR _ _ _ _);rcases hk with k7 | k9
     ·rw[D5 k7,D5 (show ¬v.K4.A8=6 by omega)];exact skip vk
     ·rw[C8 (show ¬p.A8=7 by omega),D5 k9,D5 (show ¬v.K4.A8=8 by omega)];exact skip vk
   have mg:∀{X:FR}(Y:FR),v.A8=16/\v.b.A8=5->(if v.A8=16/\v.b.A8=5\/v.K4.A8≠p.A8-1 then FR.no else X)=FR.no:=λY h=>D5 (.inl h);by_cases v16:v.A8=16
   ·rw[D5 v16];by_cases b5:v.b.A8=5
    ·rw[D5 b5,D5 (show v.A8=16/\v.b.A8=5\/v.K4.A8≠p.A8-1 from .inl ⟨v16,b5⟩)];exact no
    ·rw[C8 b5];by_cases vk:v.K4.A8≠p.A8-1
     ·rw[D5 vk]at main;rw[D5 (show v.A8=16/\v.b.A8=5\/v.K4.A8≠p.A8-1 from .inr vk)];exact main
     ·rw[C8 vk]at main;rw[C8 (show ¬(v.A8=16/\v.b.A8=5\/v.K4.A8≠p.A8-1)from λh=>h.elim (λh=>b5 h.2) vk)];exact main
   ·rw[C8 v16];by_cases vk:v.K4.A8≠p.A8-1
    ·rw[D5 vk]at main;rw[D5 (show v.A8=16/\v.b.A8=5\/v.K4.A8≠p.A8-1 from .inr vk)];exact main
    ·rw[C8 vk]at main;rw[C8 (show ¬(v.A8=16/\v.b.A8=5\/v.K4.A8≠p.A8-1)from λh=>h.elim (λh=>v16 h.1) vk)];exact main
end
end Go.Su

/-
 The calculus: a pattern held against a value: the document's.
-/
namespace Go.Su
set_option linter.unusedSectionVars false
variable (X:DV)(L:List Tm)
noncomputable def f9(p:E8)(x:Tm)(sg:List H7):Option (List DV×List H7):=Qo C9 X (.list 20 (L.map Tm.A9)) p.A9 x.A9 sg
noncomputable def f19(p:E8)(x:Tm)(sg:List H7):Option (List DV×List H7):=Uz C9 X (.list 20 (L.map Tm.A9)) p.A9 x.A9 sg
def wZ(l:List ER)(sg:List H7)(o:FR)(q:Option (List DV×List H7)):Prop :=∃X:DV,q=some ([X,.bool o.Tu,o.res.A9],sg)/\(o.Tu=true->X=.list 21 ((l++o.cells).map BI))
variable {p:E8}(x:Tm)(sg:List H7)
theorem C8k(h:p.A8=3):f9 X L p x sg=(if x.A8=2 then some ([X,.bool (decide (p.n=x.n)),(Bc 0).A9],sg)else some ([.list 21 [],.bool false,(Bc 0).A9],sg)):=by unfold f9;simp only[Gy,Fu,Fv,Fw,Fx,Fy,Fz,F_,GA,pq,kq,nq',sq',J4,h,J5,E9,F5,Int.reduceEq,R4,L8,z0q,F9,H5,Cw]
theorem C8l(h:p.A8=4):f9 X L p x sg=(if x.A8=3 then some ([X,.bool (decide (p.n=x.n)),(Bc 0).A9],sg)else some ([.list 21 [],.bool false,(Bc 0).A9],sg)):=by unfold f9;simp only[Gy,Fu,Fv,Fw,Fx,Fy,Fz,F_,GA,pq,kq,nq',sq',J4,h,J5,E9,F5,Int.reduceEq,R4,L8,z0q,F9,H5,Cw]
theorem C8m(h:p.A8=5):f9 X L p x sg=(if x.A8=4 then some ([X,.bool (decide (p.s=x.s)),(Bc 0).A9],sg)else some ([.list 21 [],.bool false,(Bc 0).A9],sg)):=by unfold f9;simp only[Gy,Fu,Fv,Fw,Fx,Fy,Fz,F_,GA,pq,kq,nq',sq',J4,h,J5,E9,F5,Int.reduceEq,R4,L8,z0q,F9,H5,Cw]
theorem C8n(h:p.A8=6):f9 X L p x sg=(if x.A8=5 then some ([X,.bool true,(Bc 0).A9],sg)else some ([.list 21 [],.bool false,(Bc 0).A9],sg)):=by unfold f9;simp only[Gy,Fu,Fv,Fw,Fx,Fy,Fz,F_,GA,pq,kq,nq',sq',J4,h,J5,E9,F5,Int.reduceEq,R4,L8,z0q,F9,H5,Cw]
theorem C8p(h:p.A8=8):f9 X L p x sg=(if x.A8=7 then some ([X,.bool true,(Bc 0).A9],sg)else some ([.list 21 [],.bool false,(Bc 0).A9],sg)):=by unfold f9;simp only[Gy,Fu,Fv,Fw,Fx,Fy,Fz,F_,GA,pq,kq,nq',sq',J4,h,J5,E9,F5,Int.reduceEq,R4,L8,z0q,F9,H5,Cw]
theorem C8o(h:p.A8=7):f9 X L p x sg=(if x.A8=6 then f19 X L p x sg else some ([.list 21 [],.bool false,(Bc 0).A9],sg)):=by unfold f9;simp only[Gy,Fu,Fv,Fw,Fx,Fy,Fz,F_,GA,pq,kq,nq',sq',J4,h,J5,E9,F5,Int.reduceEq,R4,L8,z0q,F9,H5,Cw];rfl
theorem C8q(h:p.A8=9):f9 X L p x sg=(if x.A8=8 then f19 X L p x sg else some ([.list 21 [],.bool false,(Bc 0).A9],sg)):=by unfold f9;simp only[Gy,Fu,Fv,Fw,Fx,Fy,Fz,F_,GA,pq,kq,nq',sq',J4,h,J5,E9,F5,Int.reduceEq,R4,L8,z0q,F9,H5,Cw];rfl
theorem C9b(a b:Tm):F7 20 (.list 20 [a.A9,b.A9]) (iI 0)=some a.A9:=rfl
theorem C9c(a b:Tm):F7 20 (.list 20 [a.A9,b.A9]) (iI 1)=some b.A9:=rfl
section
variable {Tq:Ty->Prop}{Q:Tm->Prop}(C:CQ2 Tq Q){B:Nat}(hB:3 * B<=J9)
include C hB
theorem A6I(p:E8):p.pat=true->∀(v:Tm),Q v->v.L9=true->WP B v->∀(l:List ER)(sg:List H7),l.length+p.size<=J9->
 wZ l sg (p.AU v) (C9.r Ll [(p.A9,.val),(v.A9,.val),(.list 21 (l.map BI),.own)] sg):=by
 induction p using E8.ind with
 |h p ih=>
   intro hp v hq hv bd l sg hl;have pk:=E8.B4r hp;have hs:=p.Ed;obtain⟨ch,qi,vi,ki⟩:=C.O6 v hq hv;have bl:=bd.l;have rv:=C.r _ hq;rw[A25,A5V,E8.Vl p v (E8.Gl hp)];simp only[Sr,I8,F4,pq,J4,E9,J5,F5,U5,C2M,B6H,B2H v rv (by omega) sg,Ct,Cu,A4k,Cw,z7q]
   have no:∀{X:DV},wZ l sg .no (some ([X,.bool false,(Bc 0).A9],sg)):=λ{X}=>⟨X,rfl,λh=>by cases h⟩;have yes:wZ l sg (.ok []) (some ([.list 21 (l.map BI),.bool true,(Bc 0).A9],sg)):=⟨_,rfl,λ_=>by simp[FR.cells]⟩;by_cases k1:p.A8=1
   ·rw[D5 k1,D5 k1];exact yes
   rw[C8 k1,C8 k1];by_cases k2:p.A8=2
   ·rw[D5 k2,D5 k2,Cs (e:=BI) (sz:=21) (l:=l) (x:=(p.name,v)) (by omega)];exact⟨_,rfl,λ_=>rfl⟩
   rw[C8 k2,C8 k2];have main:wZ l sg (if v.K4.A8≠p.A8-1 then .no else if p.A8=7\/p.A8=9 then(match Bn v.O6 v.K4 with | .fin r=>.fin r | .ok a b=>((p.kd 0).AU a).also λl=>((p.kd 1).AU b).pre l)else if (p.A8=3\/p.A8=4)/\v.K4.n≠p.n\/p.A8=5/\v.K4.s≠p.s then .no else .ok [])
    (f9 (.list 21 (l.map BI)) v.O6 p v.K4 sg):=by
    have leaf:∀(b:Bool)(c:Prop) [Decidable c],(b=true↔¬c)->wZ l sg (if c then .no else .ok []) (some ([.list 21 (l.map BI),.bool b,(Bc 0).A9],sg)):=by
     intro b c _ h;by_cases hc:c
     ·have:b=false:=by cases b;rfl;exact absurd hc (h.1 rfl)
      rw[D5 hc,this];exact no
     ·rw[C8 hc,h.2 hc];exact yes
    have skip:v.K4.A8≠p.A8-1->∀{X:FR},wZ l sg (if v.K4.A8≠p.A8-1 then .no else X) (some ([.list 21 [],.bool false,(Bc 0).A9],sg)):=λh {X}=>by rw[D5 h];exact no
    have go:v.K4.A8=p.A8-1->∀{X Y:FR},wZ l sg (if v.K4.A8≠p.A8-1 then Y else X)=wZ l sg X:=λh {X Y}=>by rw[C8 (λg=>g h)]
    by_cases k3:p.A8=3
    ·rw[C8k _ _ _ _ k3];by_cases vk:v.K4.A8=2
     ·rw[D5 vk,go (by omega),C8 (show ¬(p.A8=7\/p.A8=9)by omega)];exact leaf _ _ (by simp[k3,eq_comm])
     ·rw[C8 vk];exact skip (by omega)
    by_cases k4:p.A8=4
    ·rw[C8l _ _ _ _ k4];by_cases vk:v.K4.A8=3
     ·rw[D5 vk,go (by omega),C8 (show ¬(p.A8=7\/p.A8=9)by omega)];exact leaf _ _ (by simp[k4,eq_comm])
     ·rw[C8 vk];exact skip (by omega)
    by_cases k5:p.A8=5
    ·rw[C8m _ _ _ _ k5];by_cases vk:v.K4.A8=4
     ·rw[D5 vk,go (by omega),C8 (show ¬(p.A8=7\/p.A8=9)by omega)];exact leaf _ _ (by simp[k5,eq_comm])
     ·rw[C8 vk];exact skip (by omega)
    by_cases k6:p.A8=6
    ·rw[C8n _ _ _ _ k6];by_cases vk:v.K4.A8=5
     ·rw[D5 vk,go (by omega),C8 (show ¬(p.A8=7\/p.A8=9)by omega)];exact leaf _ _ (by simp[k6])
     ·rw[C8 vk];exact skip (by omega)
    by_cases k8:p.A8=8
    ·rw[C8p _ _ _ _ k8];by_cases vk:v.K4.A8=7
     ·rw[D5 vk,go (by omega),C8 (show ¬(p.A8=7\/p.A8=9)by omega)];exact leaf _ _ (by simp[k8])
     ·rw[C8 vk];exact skip (by omega)
    have hk:p.A8=7\/p.A8=9:=by omega
    have l2:=E8.Gl hp hk;have e9:f9 (.list 21 (l.map BI)) v.O6 p v.K4 sg=if v.K4.A8=p.A8-1 then f19 (.list 21 (l.map BI)) v.O6 p v.K4 sg else some ([.list 21 [],.bool false,(Bc 0).A9],sg):=by
     rcases hk with k7 | k9
     ·rw[C8o _ _ _ _ k7,k7];rfl
     ·rw[C8q _ _ _ _ k9,k9];rfl
    rw[e9];by_cases vk:v.K4.A8=p.A8-1
    ·rw[go vk,D5 hk,D5 vk];have i2:v.K4.A8=6\/v.K4.A8=8:=by omega
     have ri:=C.r _ qi;have il:=Tm.EF ri (by omega);obtain⟨q0,q1⟩:=C.k2 _ qi i2;have YR:(v.K4.kd 0).L9=true/\(v.K4.kd 1).L9=true:=by rw[Tm.FY,C8 (by omega),D5 i2,all2 il,z2q]at vi;exact vi
     have e1:=B5a C.toCQ C.pt (L:=v.O6) (by unfold J9 at hB;omega) ch il q0 YR.1 q1 YR.2;have pd:=rV C.toCQ C.pt ch q0 YR.1 q1 YR.2;have pg:∀a b,Bn v.O6 v.K4=.ok a b->WP B a/\WP B b:=by
      intro a b EO;have g0:=MN C.toCQ (i:=0) (λy=>C.pt y 0 (by omega)) (A8:=if v.K4.A8=8 then 8 else 7) (λy h k=>YE h (by rw[k];split<;>simp) 0 (by omega)) v.O6 ch _ q0 YR.1;have g1:=MN C.toCQ (i:=1) (λy=>C.pt y 1 (by omega)) (A8:=if v.K4.A8=8 then 8 else 7) (λy h k=>YE h (by rw[k];split<;>simp) 1 (by omega)) v.O6 ch _ q1 YR.2;unfold Bn at EO;cases h0:Bo (if v.K4.A8=8 then 8 else 7) 0 v.O6 (v.K4.kd 0)with
      |fin r=>rw[h0]at EO;cases EO
      |ok x=>
        rw[h0]at EO g0;simp only at EO;cases h1:Bo (if v.K4.A8=8 then 8 else 7) 1 v.O6 (v.K4.kd 1)with
        |fin r=>rw[h1]at EO;cases EO
        |ok y=>rw[h1]at EO g1;cases EO;exact⟨bd.part (Tm.U4 (by omega)) (Tm.AX ri (by omega)) g0.2.2,bd.part (Tm.U4 (by omega)) (Tm.AX ri (by omega)) g1.2.2⟩
     unfold f19;rw[uJ];simp only[U5,e1,J4];cases Ip:Bn v.O6 v.K4 with
     |fin r=>rw[Ip]at pd;simp only[Ct,Cu,J4,Q5,F4,Nz,E9,z4q,Q8];rw[D5 (show ¬r.A8=0 from pd)];(try rw[rsE]);exact⟨_,rfl,λh=>by cases h⟩
     |ok a b=>
       rw[Ip]at pd;obtain⟨⟨va,qa⟩,vb,qb⟩:=pd;obtain⟨ba,bb⟩:=pg a b Ip;have m0:=E8.JM (show 0<p.D6.length by omega);have m1:=E8.JM (show 1<p.D6.length by omega);have z:(p.kd 0).size+(p.kd 1).size<p.size:=by
        have Ak:=p.size_eq;have BD:p.D6=[p.kd 0,p.kd 1]:=by
         match hk:p.D6,l2 with
         |[a,b],_=>simp[E8.kd,hk]
        rw[BD]at Ak;simp only[zeq,zfq,zEq,zpq]at Ak;omega
       simp only[Ct,Cu,A4k,J4,Q5,F4,Nz,show(Bc 0).A8=0 from rfl,E9,L8,z5q,z0q,F9,pI0 (show 0<p.D6.length by omega),pI1 (show 1<p.D6.length by omega),B0m,C9b,C9c,U5]
       obtain⟨Y,f1,f2⟩:=ih _ m0 (E8.Eb hp m0) a qa va ba l sg (by omega);have ml:=(E8.Vm C (p.kd 0) (E8.Eb hp m0) a qa va).1;rw[f1];simp only[Ct,Cu,A4k,J4,Q5,F4,P9,E9];cases hm:(p.kd 0).AU a with
       |no=>exact⟨_,rfl,λh=>by cases h⟩
       |fin r=>exact⟨_,rfl,λh=>by cases h⟩
       |ok m=>
         rw[hm]at f2;have lm:=(ml m hm).2;obtain⟨Y',g1,g2⟩:=ih _ m1 (E8.Eb hp m1) b qb vb bb (l++m) sg (by simp only[zHq];omega);rw[f2 rfl];simp only[show(FR.ok m).Tu=true from rfl,z5q,z0q,F9,FR.cells,g1,Ct,Cu,A4k,J4,Q5,F4,rsE]
         show wZ l sg (((p.kd 1).AU b).pre m) _;cases TV:(p.kd 1).AU b with
         |no=>exact⟨_,rfl,λh=>by cases h⟩
         |fin r=>exact⟨_,rfl,λh=>by cases h⟩
         |ok m'=>rw[TV]at g2;refine⟨Y',rfl,λ_=>?_⟩;rw[g2 rfl];simp only[FR.cells,FR.pre,ziq]
    ·rw[C8 vk];exact skip vk
   rw[show Qo C9 (.list 21 (l.map BI)) (.list 20 (v.O6.map Tm.A9)) p.A9 v.K4.A9 sg=f9 (.list 21 (l.map BI)) v.O6 p v.K4 sg from rfl];by_cases v16:v.A8=16
   ·have l1:=Tm.B_ rv (.inr v16);have c1:=(A9T v16 l1).1;have cl:v.O6.length=(v.kd 0).O6.length+1:=by rw[c1];simp
    have ix:F7 20 (.list 20 (v.O6.map Tm.A9)) (iI ((v.kd 0).O6.length:Int))=some v.A9:=by rw[J3 (by omega)];congr 2;simp only[c1,List.getElem_concat_length]
    have lng:D7 .sub (iI ((v.O6.map Tm.A9).length:Int)) (iI 1)=some (iI ((v.kd 0).O6.length:Int)):=by rw[FX,z1q,cl,X7 (by unfold J9 at hB;omega) (by unfold J9 at hB;omega)];congr 2;omega
    simp only[N8,J4,Ah,z1q,J5,E9,F5];rw[D5 (show(0:Int)<(v.O6.length:Int)by omega)];rw[z1q]at lng;simp only[lng,J4,ix,bq,E9,F5]
    by_cases b5:v.b.A8=5
    ·rw[D5 b5,D5 (show v.A8=16/\v.b.A8=5\/v.K4.A8≠p.A8-1 from .inl ⟨v16,b5⟩)];exact no
    ·rw[C8 b5];by_cases vk:v.K4.A8≠p.A8-1
     ·rw[D5 vk]at main;rw[D5 (show v.A8=16/\v.b.A8=5\/v.K4.A8≠p.A8-1 from .inr vk)];exact main
     ·rw[C8 vk]at main;rw[C8 (show ¬(v.A8=16/\v.b.A8=5\/v.K4.A8≠p.A8-1)from λh=>h.elim (λh=>b5 h.2) vk)];exact main
   ·have c1:v.O6=[]:=(A12 v16).1;simp only[N8,J4,Ah,z1q,J5,F5];rw[C8 (show ¬(0:Int)<(v.O6.length:Int)by rw[c1];simp)];by_cases vk:v.K4.A8≠p.A8-1
    ·rw[D5 vk]at main;rw[D5 (show v.A8=16/\v.b.A8=5\/v.K4.A8≠p.A8-1 from .inr vk)];exact main
    ·rw[C8 vk]at main;rw[C8 (show ¬(v.A8=16/\v.b.A8=5\/v.K4.A8≠p.A8-1)from λh=>h.elim (λh=>v16 h.1) vk)];exact main
end
end Go.Su

/-
 The calculus: what a step keeps, how it ends.
-/
namespace Go.Su
set_option linter.defProp false
def tJ:CQ2 TQ QT where
 g:=λk h=>TQ.ground h
 ty:=λy h=>h.r
 r:=λt h=>h.r
 kid:=λt h k=>h.kid (by rw[Tm.B_ h.r (.inr k)];omega) (Tm.Nt (by omega) (by omega) (by omega) (by omega))
 cast:=λc q A B w h0 h1 hA hB hw=>QT.cast h0 h1 hA hB hw
 k2:=λt h k=>by have l:=Tm.EF h.r (by omega);exact⟨h.kid (by omega) (Tm.Nt (by omega) (by omega) (by omega) (by omega)),h.kid (by omega) (Tm.Nt (by omega) (by omega) (by omega) (by omega))⟩
 ty2:=λt h k=>h.types k
 pt:=λy i hi h hl=>h.part hl
inductive qW:GZ->Prop where
 |stuck:qW Bw
 |C61 (l:Int) (n:Bool):qW (B3g l n)
 |div (lo hi:Int):qW (atR 3 lo hi)
 |mis (lo hi:Int):qW (atR 4 lo hi)
variable {r:GZ}
def qW.ne0(h:qW r):r.A8≠0:=by cases h<;>(first | (show(6:Int)≠0;omega) | (show(2:Int)≠0;omega) | (show(3:Int)≠0;omega) | (show(4:Int)≠0;omega))
def SR.ends(x:SR):Prop:=∀r,x=.fin r->qW r
variable (t:Tm)
def SR.ends.ok:(SR.ok t).ends:=λr h=>by cases h
def SR.ends.fin(h:qW r):(SR.fin r).ends:=λr' h'=>by cases h';exact h
def SR.ends.good{x:SR}(h:x.ends):x.good:=by
 cases x with
 |ok t=>trivial
 |fin r=>exact(h r rfl).ne0
def SR.ends.bind{x:SR}{f:Tm->SR}(hx:x.ends)(hf:∀t,(f t).ends):(x.bind f).ends:=by
 cases x with
 |ok t=>exact hf t
 |fin r=>exact λr' h=>hx r' h
def A5s(v:Tm):(X9 t v).ends:=by
 unfold X9
 repeat' split
 all_goals first | exact SR.ends.ok _ | exact SR.ends.fin .stuck | exact SR.ends.fin (.C61 ..)
def B8O:t.Ca.ends:=by
 induction t using Tm.ind with
 |h t ih=>
   rw[Tm.Gq];split
   ·exact A5s _ _
   ·refine SR.ends.bind ?_ λy=>SR.ends.ok _;cases h:t.D6 with
    |nil=>exact SR.ends.fin .stuck
    |cons a l=>exact ih a (by rw[h];exact zjq ..)
def A3Q:∀(n:Nat)(t:Tm),(AY n t).ends
 |0,t=>SR.ends.fin .stuck
 |n+1,t=>by
   rw[AY];split
   ·exact SR.ends.ok _
   ·exact SR.ends.bind (B8O t) λy=>A3Q n y
def iH(A8:Int)(i:Nat):∀(l:List Tm)(w:Tm),(Bo A8 i l w).ends
 |[],w=>SR.ends.ok _
 |c::l,w=>by
   rw[Bo];split
   ·exact iH A8 i l w
   ·split
    ·exact SR.ends.fin .stuck
    ·exact SR.ends.bind (A3Q _ _) λy=>iH A8 i l y
def B5S{l:List Tm}{x:Tm}(h:Bn l x=.fin r):qW r:=by
 unfold Bn at h;cases h0:Bo (if x.A8=8 then 8 else 7) 0 l (x.kd 0)with
 |fin r'=>rw[h0]at h;cases h;exact iH _ _ _ _ _ h0
 |ok a=>
   rw[h0]at h;simp only at h;cases h1:Bo (if x.A8=8 then 8 else 7) 1 l (x.kd 1)with
   |fin r'=>rw[h1]at h;cases h;exact iH _ _ _ _ _ h1
   |ok b=>rw[h1]at h;cases h
def YF(p:E8):p.pat=true->∀(v:Tm)(r:GZ),p.AU v=.fin r->qW r:=by
 induction p using E8.ind with
 |h p ih=>
   intro hp v r h;rw[E8.Vl p v (E8.Gl hp)]at h;by_cases k1:p.A8=1
   ·rw[D5 k1]at h;cases h
   rw[C8 k1]at h;by_cases k2:p.A8=2
   ·rw[D5 k2]at h;cases h
   rw[C8 k2]at h;split at h
   ·cases h
   by_cases hk:p.A8=7\/p.A8=9
   ·rw[D5 hk]at h;have l2:=E8.Gl hp hk;cases Ip:Bn v.O6 v.K4 with
    |fin r'=>rw[Ip]at h;cases h;exact B5S Ip
    |ok a b=>
      rw[Ip]at h;simp only at h;have m0:=E8.JM (show 0<p.D6.length by omega);have m1:=E8.JM (show 1<p.D6.length by omega);cases hm:(p.kd 0).AU a with
      |no=>rw[hm]at h;cases h
      |fin r'=>rw[hm]at h;cases h;exact ih _ m0 (E8.Eb hp m0) a _ hm
      |ok l=>
        rw[hm]at h;simp only[FR.also]at h;cases TV:(p.kd 1).AU b with
        |no=>rw[TV]at h;cases h
        |fin r'=>rw[TV]at h;cases h;exact ih _ m1 (E8.Eb hp m1) b _ TV
        |ok m=>rw[TV]at h;cases h
   ·rw[C8 hk]at h;split at h<;>cases h
def WM(s:ByteArray)(xs:List Int)(v:Tm):(He t s xs v).ends:=by
 unfold He;split
 ·exact SR.ends.ok _
 ·exact SR.ends.fin .stuck
def A9o:∀(l:List ER)(x:Tm),(M_ l x).ends
 |[],x=>SR.ends.ok _
 | (s,v)::l,x=>by rw[M_];exact SR.ends.bind (WM _ _ _ _) λy=>A9o l y
def A8d(t v:Tm):∀(ps:List E8)(i:Nat),(∀p∈ps,p.pat=true)->(FM t v i ps).ends
 |[],i,_=>SR.ends.fin (.mis ..)
 |p::ps,i,h=>by
   rw[FM];split
   ·rename_i r hr;exact SR.ends.fin (YF p (h p (zjq ..)) v r hr)
   ·exact A8d t v ps (i+1) λq hq=>h q (zqq _ hq)
   ·exact A9o _ _
variable {t:Tm}
def B7Q(rt:t.right=true):(QY t).ends:=by
 unfold QY;split
 ·unfold qX
  repeat' split
  all_goals first | exact WM _ _ _ _ | exact SR.ends.ok _ | exact SR.ends.fin .stuck
 split
 ·exact WM _ _ _ _
 split
 ·exact WM _ _ _ _
 split
 ·split
  ·exact SR.ends.fin .stuck
  ·exact SR.ends.ok _
 split
 ·unfold gH
  repeat' split
  all_goals first | exact SR.ends.ok _ | exact SR.ends.fin .stuck | exact SR.ends.fin (.div ..)
 split
 ·exact A8d _ _ _ _ (Tm.Oi rt)
 split
 ·exact A5s _ _
 ·exact SR.ends.fin .stuck
variable {ks:List Tm}
def iY{n:Nat}{i:Nat}(h:NT n ks=some i):i<n/\(ks.getD i Pz).L9=false:=by unfold NT at h;have h1:=zFq h;have h2:=y0q h;exact⟨zSq.1 h1,by simpa using h2⟩
def Tm.Ku(rt:t.right=true):Z9 t.A8<=t.D6.length:=by
 unfold Z9;split
 ·rw[Tm.EF rt (by omega)];omega
 split
 ·by_cases UM:t.A8=11
  ·rw[Tm.EF rt (by omega)];omega
  by_cases h13:t.A8=13
  ·rw[Tm.B0g rt h13];omega
  by_cases h14:t.A8=14
  ·rw[Tm.A67 rt h14];omega
  ·rw[Tm.B_ rt (by omega)];omega
 ·omega
def Tm.ML{i:Nat}(hi:i<Z9 t.A8):t.binds i=[]/\t.A8≠1:=by
 unfold Z9 at hi;split at hi
 ·exact⟨Tm.Nt (by omega) (by omega) (by omega) (by omega),by omega⟩
 split at hi
 ·exact⟨Tm.Nt (by omega) (by omega) (by omega) (by omega),by omega⟩
 ·omega
def yV(t:Tm):t.right=true->t.EW.ends:=by
 induction t using Tm.ind with
 |h t ih=>
   intro rt;rw[Tm.Zl];cases hd:NT (Z9 t.A8) t.D6 with
   |none=>exact B7Q rt
   |some i=>
     obtain⟨h1,h2⟩:=iY hd;have hl:=Tm.Ku rt;refine SR.ends.bind ?_ λy=>SR.ends.ok _;have:(t.D6.map Tm.EW).getD i (.fin Bw)=(t.kd i).EW:=by rw[zmq,zhq,Tm.Ng (by omega)];rfl
     rw[this];exact ih _ (Tm.U4 (by omega)) (Tm.AX rt (by omega))
def Own.V7(h:Own t)(hl:ks.length=t.D6.length):Own (t.V7 ks):=by unfold Own at h ⊢;show t.name.size+t.arg.size+t.s.size+t.vars.length+(t.H8.map E8.Q3).sum+ks.length<=1048576;omega
def OT.V7(h:OT t)(hl:ks.length=t.D6.length):OT (t.V7 ks):=⟨h.1.V7 hl,h.2⟩
def Own.Fb{v:Tm}(h:v.each Own)(l:Es):(v.Fb l).each Own:=Tm.B9z (λt l ks h hl=>by unfold Own at h ⊢;simp only[Tm.DU,Tm.Jc,Tm.Oj,Tm.JR,Tm.Gu,Tm.U6,hl];exact h) v l h
def QT.own(h:QT t):t.each Own:=h.qo.e
def QB.own(h:QB t):t.each Own:=Tm.each.imp (λ_ h=>h.1) t h.e
variable {s:ByteArray}
def A7f{b v u:Tm}{xs:List Int}(hb:QB b)(hv:QT v)(hx:EG xs=true)(hf:∀x∈b.fr [],x=s)(h:b.Cv s xs v=some u):QO u :=⟨Tm.A9n b s xs v hx hv.r hb.r u h,Tm.C0g (λt ht ks hl=>ht.V7 hl) s xs v (Own.Fb hv.own) b hb.own u h,Tm.IC.2 λx WK=>by obtain⟨h1,h2⟩:=Tm.B61 b s xs v hv.f hb.r u [] (by simp) h x WK;exact h2 (hf x h1)⟩
def A3K{b v u:Tm}(hb:QB b)(hv:QT v)(h:b.Cv s [] v=some u):QB u/\∀x∈u.fr [],x∈b.fr []/\x≠s :=⟨⟨Tm.A9n b s [] v rfl hv.r hb.r u h,Tm.B8m (λt ht ks hl=>ht.V7 hl) s v hv.e b hb.e u h⟩,λx WK=>Tm.B61 b s [] v hv.f hb.r u [] (by simp) h x WK⟩
def B1H:∀(l:List ER)(x u:Tm),QB x->(∀c∈l,QT c.2)->(∀y∈x.fr [],y∈l.map Prod.fst)->M_ l x=.ok u->QO u
 |[],x,u,hx,hl,hf,h=>by rw[M_]at h;cases h;exact⟨hx.r,hx.own,Tm.IC.2 λy hy=>by have:=hf y hy;cases this⟩
 | (s,v)::l,x,u,hx,hl,hf,h=>by
   rw[M_]at h;unfold He at h;cases hp:x.Cv s [] v with
   |none=>rw[hp]at h;cases h
   |some y=>rw[hp]at h;obtain⟨h1,h2⟩:=A3K hx (hl (s,v) (zjq ..)) hp;refine B1H l y u h1 (λc hc=>hl c (zqq _ hc)) (λz hz=>?_) h;obtain⟨a,b⟩:=h2 z hz;have:=hf z a;rw[zeq,zNq]at this;exact this.resolve_left b
theorem E8.A9c{p:E8}(hk:p.D6=[])(h2:p.A8≠2):p.names=[]:=by unfold E8.names;rw[E8.Od,hk,C8 h2];rfl
theorem E8.B5Q(p:E8):p.pat=true->∀(v:Tm)(l:List ER),p.AU v=.ok l->l.map Prod.fst=p.names:=by
 induction p using E8.ind with
 |h p ih=>
   intro hp v l h;have o:p.one=true:=by rw[E8.Ra,z2q]at hp;exact hp.1
   have k0:p.A8≠7->p.A8≠9->p.D6=[]:=by
    intro h7 h9;unfold E8.one at o;refine zaq ?_
    repeat' split at o
    all_goals first | omega | (simp only[z2q,F5]at o;first | exact o.1.1.1 | exact o.1.1.2 | exact o.1.2 | omega) | (simp at o)
   rw[E8.Vl p v (E8.Gl hp)]at h;by_cases k1:p.A8=1
   ·rw[D5 k1]at h;cases h;rw[E8.A9c (k0 (by omega) (by omega)) (by omega)];rfl
   rw[C8 k1]at h;by_cases k2:p.A8=2
   ·rw[D5 k2]at h;cases h;unfold E8.names;rw[E8.Od,k0 (by omega) (by omega),D5 k2];rfl
   rw[C8 k2]at h;split at h
   ·cases h
   by_cases hk:p.A8=7\/p.A8=9
   ·rw[D5 hk]at h;have l2:=E8.Gl hp hk;cases Ip:Bn v.O6 v.K4 with
    |fin r'=>rw[Ip]at h;cases h
    |ok a b=>
      rw[Ip]at h;have m0:=E8.JM (show 0<p.D6.length by omega);have m1:=E8.JM (show 1<p.D6.length by omega);obtain⟨m,h1,h2⟩:=FR.A9Q h;obtain⟨q,h3,rfl⟩:=FR.B4s h2;have e0:=ih _ m0 (E8.Eb hp m0) a _ h1;have e1:=ih _ m1 (E8.Eb hp m1) b _ h3;have BD:p.D6=[p.kd 0,p.kd 1]:=by
       match hk:p.D6,l2 with
       |[a,b],_=>simp[E8.kd,hk]
      rw[y1q,e0,e1];unfold E8.names;rw[E8.Od p,BD,C8 k2];simp only[List.foldl_cons,List.foldl_nil];rw[E8.YG (p.kd 1) (E8.Dp _ _),E8.YG (p.kd 1) [],zwq]
   ·rw[C8 hk]at h;split at h
    ·cases h
    ·cases h;rw[E8.A9c (k0 (by omega) (by omega)) k2];rfl
def B0V{t v:Tm}(ht:QT t)(k:t.A8=14)(hv:QT v)(vv:v.L9=true):∀(ps:List E8)(i:Nat)(u:Tm),ps=t.H8.drop i->FM t v i ps=.ok u->QO u
 |[],i,u,_,h=>by rw[FM]at h;cases h
 |p::ps,i,u,hd,h=>by
   have hi:i<t.H8.length:=by apply Classical.byContradiction;intro hn;rw[zbq (by omega)]at hd;cases hd
   rw[z3q hi]at hd;obtain⟨rfl,FU⟩:=List.cons.inj hd;have pp:t.H8[i].pat=true:=Tm.Oi ht.r _ (z6q hi);rw[FM]at h;cases hm:t.H8[i].AU v with
   |fin r=>rw[hm]at h;cases h
   |no=>rw[hm]at h;exact B0V ht k hv vv ps (i+1) u FU h
   |ok l=>
     rw[hm]at h;have hl:=Tm.A67 ht.r k;have hk:i+1<t.D6.length:=by omega
     refine B1H l _ u (ht.toQB.kid (Tm.U4 hk)) (λc hc=>(((E8.Vm tJ _ pp v hv vv).1 l hm).1 c hc).1) (λy hy=>?_) h;rw[E8.B5Q _ pp v l hm];have:=Tm.A3B (Tm.Ng hk) ht.f y hy;unfold Tm.binds at this;rw[C8 (by omega),C8 (by omega),D5 ⟨k,by omega⟩,show i+1-1=i by omega,zdq hi]at this;exact this
end Go.Su

/-
 The calculus: what a whole step keeps.
-/
namespace Go.Su
set_option linter.defProp false
variable {t:Tm}
def QO.C51{x:Tm}{i:Nat}(ht:QT t)(hb:t.A8≠1)(hx:QO x):QO (t.AR i x):=by
 have e:t.AR i x=t.V7 (t.D6.set i x):=rfl;have hl:(t.D6.set i x).length=t.D6.length:=by simp
 have mem:∀k∈t.D6.set i x,k∈t.D6\/k=x:=λk hk=>zrq hk;rw[e];refine⟨?_,?_,Tm.IC.2 λy hy=>?_⟩
 ·rw[Tm.right_eq,Tm.ZX hl,Tm.Z4 ht.r,zOq,Tm.FT,zlq];intro k hk;rcases mem k hk with h | rfl
  ·exact Tm.M8 ht.r h
  ·exact hx.r
 ·refine .mk _ (ht.own.one.V7 hl) λk hk=>?_;rcases mem k hk with h | rfl
  ·exact ht.own.kid h
  ·exact hx.e
 ·rcases Tm.DD.1 hy with⟨h1,-,-⟩ | ⟨j,k,h1,h2⟩
  ·exact hb h1
  ·rw[Tm.FT]at h1;rw[Tm.wK]at h2;by_cases hj:i=j
   ·subst hj;have hi:i<t.D6.length:=by apply Classical.byContradiction;intro hn;rw[List.getElem?_eq_none (by rw[hl];omega)]at h1;cases h1
    rw[zoq hi,D9]at h1;subst h1;exact Tm.V_ hx.f _ y h2
   ·rw[zBq hj]at h1;exact Tm.IC.1 ht.f y (Tm.DD.2 (.inr ⟨j,k,h1,h2⟩))
def C3R(k:t.A8≠1)(h:t.D6=[]):t.free=[]:=Tm.IC.2 λx hx=>by
 rcases Tm.DD.1 hx with⟨h1,-,-⟩ | ⟨j,k,h1,h2⟩
 ·exact k h1
 ·rw[h]at h1;cases h1
def A4c:O5.none=true:=by decide
def B1w{k n:Int}(h:k=2\/k=3/\(n=0\/n=1)):QO (YH k n):=by refine⟨?_,.mk _ (by unfold Own YH;simp only[Tm.DU,Tm.Jc,Tm.Oj,Tm.JR,Tm.Gu,Tm.U6,z9q,zfq,zpq];decide) λx hx=>(by cases hx),C3R (by rcases h with h | ⟨h,-⟩<;>(show k≠1;omega)) rfl⟩;rw[Tm.right_eq,z2q];refine⟨?_,rfl⟩;unfold Tm.one Tm.Kv Tm.LW Tm.LX Tm.Mc Tm.Nj Tm.lists Ap z8 YH;rcases h with rfl | ⟨rfl,rfl | rfl⟩<;>simp[Cy,R7,U2,Y7,kA,kB,kN,kS,Bi,BU,Q9,U9,V5,U8,S9]<;>exact⟨A4c,rfl⟩
theorem B1l{P:Tm->Prop}{s:ByteArray}{a:Ty}{b:Tm}(hs:Dt s=true)(ha:a.right=true)(hb:b.right=true):(Tm.mk 9 0 0 s S9 0 S9 0 0 false [] a O5 [] [] [b]).right=true:=by
 rw[Tm.right_eq,z2q];refine⟨?_,by simp[hb]⟩;unfold Tm.one Tm.Kv Tm.LW Tm.LX Tm.Mc Tm.Nj Tm.lists Ap z8;simp[Cy,R7,U2,Y7,kA,kB,kN,kS,Bi,BU,Q9,U9,V5,U8,S9,hs,ha,A4c]
 try rfl
theorem B1I{s x:ByteArray}{a b:Ty}{k:Tm}(hs:Dt s=true)(hx:Dt x=true)(ha:a.right=true)(hb:b.right=true)(hk:k.right=true):(Tm.mk 12 0 0 s x 0 S9 0 0 false [] a b [] [] [k,k]).right=true:=by
 rw[Tm.right_eq,z2q];refine⟨?_,by simp[hk]⟩;unfold Tm.one Tm.Kv Tm.LW Tm.LX Tm.Mc Tm.Nj Tm.lists Ap z8;simp[Cy,R7,U2,Y7,kA,kB,kN,kS,Bi,BU,Q9,U9,V5,U8,S9,hs,hx,ha,hb]
 try rfl
theorem B0U{f v:Tm}(hf:f.right=true)(hv:v.right=true):(Tm.mk 10 0 0 S9 S9 0 S9 0 0 false [] O5 O5 [] [] [f,v]).right=true:=by
 rw[Tm.right_eq,z2q];refine⟨?_,by simp[hf,hv]⟩;unfold Tm.one Tm.Kv Tm.LW Tm.LX Tm.Mc Tm.Nj Tm.lists Ap z8;simp[Cy,R7,U2,Y7,kA,kB,kN,kS,Bi,BU,Q9,U9,V5,U8,S9,A4c]
 try rfl
def Tm.A9s(h:t.right=true)(k:t.A8=12):Dt t.name=true/\Dt t.arg=true/\t.a.right=true/\t.b.right=true:=by have o:=Tm.Z4 h;unfold Tm.one Ap z8 at o;simp[k,U2,Y7,kA,kB]at o;exact⟨o.1.1.1.1.2,o.1.1.1.2,o.1.1.2,o.1.2⟩
def QT.B8s(h:QT t)(k:t.A8=12):∀x,x∈(DW t).fr [t.arg]->False:=by
 intro x hx;have l2:=Tm.EF h.r (by omega);have hk:=Tm.Ng (t:=t) (j:=0) (by omega);have b0:t.binds 0=[t.name,t.arg]:=by unfold Tm.binds;rw[C8 (by omega),D5 k]
 have key:∀L:List ByteArray,t.name∈L->t.arg∈L->x∈(t.kd 0).fr L->False:=by
  intro L hn ha hx;have h1:=Tm.A81 _ _ _ hx;have h2:=Tm.A3B hk h.f x ((Tm.vL (t.kd 0) L [] x (by simp)).1 hx).1;rw[b0]at h2;simp only[zNq,zLq,or_false]at h2;rcases h2 with rfl | rfl
  ·exact h1 hn
  ·exact h1 ha
 unfold DW at hx;split at hx
 ·rename_i e;exact key _ (by rw[e];exact zjq ..) (zjq ..) hx
 ·rcases Tm.DD.1 hx with⟨h1,-,-⟩ | ⟨j,y,h1,h2⟩
  ·cases h1
  ·match j,h1 with
   |0,h1=>simp only[Tm.U6,z8q,D9]at h1;subst h1;exact key _ (by simp[Tm.binds]) (by simp) h2
   |1,h1=>simp only[Tm.U6,zkq,z8q,D9]at h1;subst h1;exact key _ (by simp[Tm.binds]) (by simp) h2
   |j+2,h1=>simp at h1
def QT.DF(h:QT t)(k:t.A8=12):QT (DF t):=by
 have l2:=Tm.EF h.r (by omega);obtain⟨n1,n2,ra,rb⟩:=Tm.A9s h.r k;have m0:=Tm.U4 (show 0<t.D6.length by omega);have q0:=h.toQB.kid m0;obtain⟨ho,ha,hb,hy⟩:=h.e.one;unfold Own at ho;have n0:S9.size=0:=rfl;have z1:O5.size<=20000:=by rw[Ty.size_eq];decide
 have b:QB (DW t):=by
  unfold Su.DW;split
  ·exact q0
  ·refine⟨B1I n1 n2 ra rb q0.r,.mk _ ⟨?_,ha,hb,by simp⟩ λy hy=>?_⟩
   ·unfold Own;simp only[Tm.DU,Tm.Jc,Tm.Oj,Tm.JR,Tm.Gu,Tm.U6,z9q,zfq,zpq,zuq];omega
   ·have:y=t.kd 0:=by simpa using hy
    rw[this];exact q0.e
 refine⟨⟨B1l (P:=λ_=>True) n2 ra b.r,.mk _ ⟨?_,ha,z1,by simp[Su.DF]⟩ λy hy=>?_⟩,Tm.IC.2 λx hx=>?_⟩
 ·unfold Own Su.DF;simp only[Tm.DU,Tm.Jc,Tm.Oj,Tm.JR,Tm.Gu,Tm.U6,z9q,zfq,zpq,zuq];omega
 ·have:y=Su.DW t:=by simpa[Su.DF]using hy
  rw[this];exact b.e
 ·rcases Tm.DD.1 hx with⟨h1,-,-⟩ | ⟨j,y,h1,h2⟩
  ·cases h1
  ·match j,h1 with
   |0,h1=>
     simp only[Su.DF,Tm.U6,z8q,D9]at h1;subst h1;refine h.B8s k x ?_;have:(Su.DF t).binds 0=[t.arg]:=by simp[Tm.binds,Su.DF]
     rw[this]at h2;exact h2
   |j+1,h1=>simp[Su.DF]at h1
def QT.B5U(h:QT t)(k:t.A8=12)(hz:t.size<=1200):2 * (Su.DF t).Q3<=J9:=by
 have l2:=Tm.EF h.r (by omega);have m0:=Tm.U4 (show 0<t.D6.length by omega);have q0:=h.toQB.kid m0;have z0:=Tm.Ec m0;have g:=q0.Q3 (by omega);obtain⟨ho,ha,hb,hy⟩:=h.e.one;obtain⟨s1,s2,-⟩:=Tm.A6E h.r;have n0:S9.size=0:=rfl;have z1:O5.size=1:=by rw[Ty.size_eq];decide
 have e1:(Su.DW t).Q3<=70000+2 * (t.kd 0).Q3:=by
  unfold Su.DW;split
  ·omega
  ·rw[Tm.BQ];simp only[Tm.DU,Tm.Jc,Tm.Oj,Tm.JR,Tm.Gu,Tm.U6,Tm.jV,Tm.jY,Tm.Pg,z9q,zfq,zpq,zeq,zEq];omega
 have e2:(Su.DF t).Q3=1+t.arg.size+S9.size+S9.size+0+t.a.size+O5.size+0+0+((Su.DW t).Q3+0):=by unfold Su.DF;rw[Tm.BQ];rfl
 unfold J9;omega
def C02{f v u:Tm}(hf:QT f)(hv:QT v)(h:qX f v=.ok u):QO u:=by
 unfold qX at h;by_cases k9:f.A8=9
 ·rw[D5 k9]at h;unfold He at h;have l1:=Tm.B_ hf.r (.inl k9);cases hp:(f.kd 0).Cv f.name [] v with
  |none=>rw[hp]at h;cases h
  |some y=>rw[hp]at h;cases h;refine A7f (hf.toQB.kid (Tm.U4 (by omega))) hv rfl (λx hx=>?_) hp;have:=Tm.A3B (Tm.Ng (t:=f) (j:=0) (by omega)) hf.f x hx;unfold Tm.binds at this;rw[D5 (.inl k9)]at this;simpa using this
 ·rw[C8 k9]at h;split at h
  ·cases h
  ·rename_i hn;cases h;have k16:f.A8=16:=Classical.byContradiction λh=>hn (.inl h);have ka:f.a.A8=9:=Classical.byContradiction λh=>hn (.inr (.inl h));have kb:f.b.A8=9:=Classical.byContradiction λh=>hn (.inr (.inr h));obtain⟨ra,rb,l0,l1⟩:=Tm.BG hf.r k16;obtain⟨ta,tb⟩:=hf.types k16;have al:f.a.D6.length=2:=by have:=Ty.Bv ra;rw[ka]at this;unfold X3 at this;simp at this;omega
   have bl:f.b.D6.length=2:=by have:=Ty.Bv rb;rw[kb]at this;unfold X3 at this;simp at this;omega
   have pa:∀i,i<2->TQ (f.a.kd i):=λi hi=>⟨Ty.mZ ra (by omega),by have:=Ty.Ec (Ty.U4 (t:=f.a) (i:=i) (by omega));have:=ta.z;omega⟩;have pb:∀i,i<2->TQ (f.b.kd i):=λi hi=>⟨Ty.mZ rb (by omega),by have:=Ty.Ec (Ty.U4 (t:=f.b) (i:=i) (by omega));have:=tb.z;omega⟩;have q0:QT (f.kd 0):=tJ.kid f hf k16;have w:QT (J8 f (!f.neg) (f.b.kd 0) (f.a.kd 0) v):=QT.cast l0 l1 (pb 0 (by omega)) (pa 0 (by omega)) hv;have app:QO (Tm.mk 10 0 0 S9 S9 0 S9 0 0 false [] O5 O5 [] [] [f.kd 0,J8 f (!f.neg) (f.b.kd 0) (f.a.kd 0) v]):=by
    refine⟨B0U q0.r w.r,.mk _ (by unfold Own;simp only[Tm.DU,Tm.Jc,Tm.Oj,Tm.JR,Tm.Gu,Tm.U6,z9q,zfq,zpq,zuq];decide) λy hy=>?_,Tm.IC.2 λx hx=>?_⟩
    ·simp only[Tm.U6,zNq,zLq,or_false]at hy;rcases hy with rfl | rfl
     ·exact q0.own
     ·exact w.own
    ·rcases Tm.DD.1 hx with⟨h1,-,-⟩ | ⟨j,y,h1,h2⟩
     ·cases h1
     ·match j,h1 with
      |0,h1=>simp only[Tm.U6,z8q,D9]at h1;subst h1;exact Tm.V_ q0.f _ x h2
      |1,h1=>simp only[Tm.U6,zkq,z8q,D9]at h1;subst h1;exact Tm.V_ w.f _ x h2
      |j+2,h1=>simp at h1
   exact⟨aA l0 l1 (pa 1 (by omega)).r (pb 1 (by omega)).r app.r,B06 (B4p ..) app.e,A11 app.f⟩
def B7q{v u:Tm}(ht:QT t)(k:t.A8=16)(hv:QT v)(h:X9 t v=.ok u):QO u:=by
 obtain⟨ra,rb,l0,l1⟩:=Tm.BG ht.r k;obtain⟨ta,tb⟩:=ht.types k;have ga:0<=X3 t.a.A8:=by have:=Ty.Bv ra;omega
 have gb:0<=X3 t.b.A8:=by have:=Ty.Bv rb;omega
 unfold X9 at h;split at h
 ·cases h;exact hv.qo
 split at h
 ·split at h
  ·cases h
  split at h
  ·cases h;exact(QT.cast l0 l1 (TQ.ground gb) tb (QT.cast l0 l1 ta (TQ.ground gb) hv)).qo
  split at h
  ·cases h
  ·rename_i hn;split at h
   ·cases h;exact(tJ.kid v hv (Classical.byContradiction λg=>hn (.inl g))).qo
   ·cases h
 split at h
 ·split at h
  ·cases h
  ·cases h;exact(QT.cast l0 l1 (TQ.ground ga) tb (QT.cast l0 l1 ta (TQ.ground ga) hv)).qo
 ·cases h
theorem B6Y{a b u:Tm}(h:gH t a b=.ok u):QO u:=by
 unfold gH at h;by_cases c:a.A8≠(if t.op=7 then 4 else 2)\/b.A8≠(if t.op=7 then 4 else 2)
 ·rw[D5 c]at h;cases h
 rw[C8 c]at h;by_cases o7:t.op=7
 ·rw[D5 o7]at h;cases h;exact B1w (.inr ⟨rfl,by split<;>simp⟩)
 ·rw[C8 o7]at h;cases hn:iE t.op a.n b.n with
  |none=>rw[hn]at h;cases h
  |some n=>
    rw[hn]at h;cases h;refine B1w ?_;by_cases h5:5<=t.op
    ·rw[D5 h5];refine .inr ⟨rfl,?_⟩;unfold iE at hn;rw[C8 (by omega),C8 (by omega),C8 (by omega),C8 (by omega)]at hn;split at hn
     ·cases hn;split<;>simp
     ·cases hn;split<;>simp
    ·rw[C8 h5];exact .inl rfl
def B9N{u:Tm}(ht:QT t)(hv:∀i,i<Z9 t.A8->(t.kd i).L9=true)(h:QY t=.ok u):QO u:=by
 have hm:=Tm.Ku ht.r;have kq:∀i,i<Z9 t.A8->QT (t.kd i):=λi hi=>ht.kid (by omega) (Tm.ML hi).1;have mk:∀(s:ByteArray)(hs:t.binds 1=[s]),1<t.D6.length->∀x∈(t.kd 1).fr [],x=s:=λs hs h1 x hx=>by have:=Tm.A3B (Tm.Ng (t:=t) (j:=1) h1) ht.f x hx;rw[hs]at this;simpa using this
 unfold QY at h;split at h
 ·rename_i k;rw[k]at kq;exact C02 (kq 0 (by decide)) (kq 1 (by decide)) h
 split at h
 ·rename_i k;have l2:=Tm.EF ht.r (by omega);rw[k]at kq;unfold He at h;cases hp:(t.kd 1).Cv t.name t.vars (t.kd 0)with
  |none=>rw[hp]at h;cases h
  |some y=>rw[hp]at h;cases h;exact A7f (ht.toQB.kid (Tm.U4 (by omega))) (kq 0 (by decide)) (Tm.TC ht.r) (mk _ (by unfold Tm.binds;rw[D5 (.inr (.inl ⟨k,rfl⟩))]) (by omega)) hp
 split at h
 ·rename_i k;have l2:=Tm.EF ht.r (by omega);unfold He at h;cases hp:(t.kd 1).Cv t.name t.vars (DF t)with
  |none=>rw[hp]at h;cases h
  |some y=>rw[hp]at h;cases h;exact A7f (ht.toQB.kid (Tm.U4 (by omega))) (ht.DF k) (Tm.TC ht.r) (mk _ (by unfold Tm.binds;rw[D5 (.inr (.inr ⟨k,rfl⟩))]) (by omega)) hp
 split at h
 ·rename_i k;have l3:=Tm.B0g ht.r k;split at h
  ·cases h
  ·cases h;split
   ·exact(ht.kid (by omega) (Tm.Nt (by omega) (by omega) (by omega) (by omega))).qo
   ·exact(ht.kid (by omega) (Tm.Nt (by omega) (by omega) (by omega) (by omega))).qo
 split at h
 ·exact B6Y h
 split at h
 ·rename_i k;rw[k]at kq hv;exact B0V ht k (kq 0 (by decide)) (hv 0 (by decide)) t.H8 0 u (by simp) h
 split at h
 ·rename_i k;rw[k]at kq;exact B7q ht k (kq 0 (by decide)) h
 ·cases h
def nu{n:Nat}{ks:List Tm}(h:NT n ks=none):∀i,i<n->(ks.getD i Pz).L9=true:=by intro i hi;unfold NT at h;have:=zWq.1 h i (zSq.2 hi);simpa using this
def B1W(t:Tm):QT t->∀u,t.EW=.ok u->QO u:=by
 induction t using Tm.ind with
 |h t ih=>
   intro ht u h;rw[Tm.Zl]at h;cases hd:NT (Z9 t.A8) t.D6 with
   |none=>rw[hd]at h;exact B9N ht (nu hd) h
   |some i=>
     rw[hd]at h;obtain⟨h1,h2⟩:=iY hd;have hl:=Tm.Ku ht.r;obtain⟨b0,k1⟩:=Tm.ML h1;have e:(t.D6.map Tm.EW).getD i (.fin Bw)=(t.kd i).EW:=by rw[zmq,zhq,Tm.Ng (by omega)];rfl
     simp only[e]at h;cases hs:(t.kd i).EW with
     |fin r=>rw[hs]at h;cases h
     |ok x=>rw[hs]at h;cases h;exact QO.C51 ht k1 (ih _ (Tm.U4 (by omega)) (ht.kid (by omega) b0) x hs)
end Go.Su

/-
 The calculus and types: what a term's type says of its D6; casts of values with types; parts; patterns.
-/
namespace Go.Su
set_option linter.defProp false
def Tm.C0h(s:ByteArray)(v t:Tm):t.Cv s [] v=t.Zb s v:=by
 induction t using Tm.ind with
 |h t ih=>
   rw[Tm.Nl,Tm.A4x];have key:∀(ks:List Tm)(i:Nat),(∀k∈ks,k.Cv s [] v=k.Zb s v)->Tm.Eo t.binds i ks s [] v=Tm.LJ t.binds i ks s v:=by
    intro ks;induction ks with
    |nil=>intro i _;rw[Tm.MP,Tm.A3J]
    |cons k ks ihk=>intro i h;rw[Tm.Oh,Tm.iK,h k (zjq ..),ihk (i+1) λk hk=>h k (zqq _ hk)]
   rw[key t.D6 0 ih];simp only[z9q,zyq,Tm.ym]
variable {t:Tm}
def Tm.Ir:t.vs=[]↔t.vars=[]/\∀k∈t.D6,k.vs=[]:=by rw[Tm.B8V,List.append_eq_nil_iff,List.flatMap_eq_nil_iff]
structure WT(t:Tm)(L:List Nm)(A:Ty):Prop where
 r:t.right=true
 n:t.vs=[]
 c:ck t L []=.ok A
def C1c(t:Tm):t.right=true->∀(L:List Nm)(S:List Int)(B:Ty),ck t L S=.ok B->∀x∈t.fr [],x∈L.map Nm.name:=by
 induction t using Tm.ind with
 |h t ih=>
   intro rt L S B h x hx;rw[LF]at h;rcases Tm.DD.1 hx with⟨k1,rfl,-⟩ | ⟨j,k,hk,WK⟩
   ·unfold De at h;rw[D5 k1]at h;cases hf:L.reverse.find? λx=>decide (x.name=t.name)with
    |none=>rw[hf]at h;cases h
    |some y=>have h1:=y0q hf;simp only[F5]at h1;exact List.mem_map.2 ⟨y,List.mem_reverse.1 (zFq hf),h1⟩
   ·obtain⟨m,V,Y,hm,hV,hY⟩:=ql rt (by simp) h j (ck k) (by rw[zhq,hk];rfl);have hx2:=(Tm.vL k ([]++t.binds j) [] x (by simp)).1 WK;have:=ih k (Tm.Nh hk) (Tm.M8 rt (Tm.Nh hk)) _ _ _ hY x hx2.1;rw[y1q,zDq]at this;refine this.resolve_right λg=>hx2.2 ?_;simpa using(hm x).1 g
variable {A:Ty}
def WT.closed(h:WT t [] A):t.free=[]:=Tm.IC.2 λx hx=>by simpa using C1c t h.r [] [] A h.c x hx
variable {L:List Nm}{i:Nat}
def WT.YB(h:WT t L A)(hi:i<t.D6.length):(t.kd i).right=true/\(t.kd i).vs=[] :=⟨Tm.AX h.r hi,(Tm.Ir.1 h.n).2 _ (Tm.U4 hi)⟩
variable {S:List Int}
def jh(k:t.A8=6\/t.A8=8\/t.A8=10\/t.A8=13\/t.A8=15\/t.A8=16):ck t L S=(Aa L S (t.D6.map ck)).bind λk=>Ea t S k:=by rw[LF];unfold De;simp only[];rw[C8 (by omega),C8 (by omega),C8 (by omega),C8 (by omega),C8 (by omega),C8 (by omega),C8 (by omega)]
def A9U(r:t.right=true)(k:t.A8=9):ck t L S=if GD S t.a=true then(ck (t.kd 0) (L++[⟨t.name,t.a,[]⟩]) S).bind λy=>.ok (.mk 9 0 [t.a,y])else .error 6 :=B3j k (Tm.Ib (Tm.B_ r (.inl k))) L S
theorem C3r(r:t.right=true)(k:t.A8=11)(v:t.vars=[]):ck t L []=(ck (t.kd 0) L []).bind λy=>ck (t.kd 1) (L++[⟨t.name,y,[]⟩]) []:=by rw[B3k k (Tm.A4r (Tm.EF r (by omega))),v,D5 (by decide)];rfl
theorem B6C(r:t.right=true)(k:t.A8=12)(v:t.vars=[]):ck t L []=if GD [] t.a=true/\GD [] t.b=true then
 (ck (t.kd 0) (L++[⟨t.name,.mk 9 0 [t.a,t.b],[]⟩,⟨t.arg,t.a,[]⟩]) []).bind λy=>if y=t.b then ck (t.kd 1) (L++[⟨t.name,.mk 9 0 [t.a,t.b],[]⟩]) []else .error 4
 else .error 6:=by
 rw[B3m k (Tm.A4r (Tm.EF r (by omega))),v,D5 (by decide)];rfl
def B9h(r:t.right=true)(k:t.A8=14):ck t L S=(ck (t.kd 0) L S).bind λy=>CJ y L S (t.H8.zip ((t.D6.map ck).drop 1)) none:=by
 have l:=Tm.A67 r k;have hk:t.D6=t.kd 0::t.D6.drop 1:=by
  match hk:t.D6,l with
  |a::l,_=>simp[Tm.kd,hk]
 rw[A6T k hk,<- List.map_drop]
def WT.two(h:WT t L A)(k:t.A8=6\/t.A8=8\/t.A8=10\/t.A8=15):∃X Y,WT (t.kd 0) L X/\WT (t.kd 1) L Y/\Ea t [] [X,Y]=.ok A:=by have l:=Tm.EF h.r (by omega);have c:=h.c;rw[jh (by omega),Tm.A4r l]at c;simp only[zeq,zfq,Aa]at c;obtain⟨k1,e1,e2⟩:=Except.bind_ok c;obtain⟨X,x1,x2⟩:=Except.bind_ok e1;obtain⟨q,y1,y2⟩:=Except.bind_ok x2;obtain⟨Y,z1,z2⟩:=Except.bind_ok y1;cases z2;cases y2;obtain⟨a1,a2⟩:=h.YB (show 0<t.D6.length by omega);obtain⟨b1,b2⟩:=h.YB (show 1<t.D6.length by omega);exact⟨X,Y,⟨a1,a2,x1⟩,⟨b1,b2,z1⟩,e2⟩
def WT.three(h:WT t L A)(k:t.A8=13):∃X,X.A8=2/\WT (t.kd 0) L X/\WT (t.kd 1) L A/\WT (t.kd 2) L A:=by
 have l:=Tm.B0g h.r k;have c:=h.c;have l3:t.D6=[t.kd 0,t.kd 1,t.kd 2]:=by
  match hk:t.D6,l with
  |[a,b,d],_=>simp[Tm.kd,hk]
 rw[jh (by omega),l3]at c;simp only[zeq,zfq,Aa]at c;obtain⟨k1,e1,e2⟩:=Except.bind_ok c;obtain⟨X,x1,x2⟩:=Except.bind_ok e1;obtain⟨q,y1,y2⟩:=Except.bind_ok x2;obtain⟨Y,z1,z2⟩:=Except.bind_ok y1;obtain⟨q',w1,w2⟩:=Except.bind_ok z2;obtain⟨Z,u1,u2⟩:=Except.bind_ok w1;cases u2;cases w2;cases y2;unfold Ea at e2;simp only[k,Int.reduceEq,F9,H5,z7q,znq]at e2;obtain⟨⟨g1,g2⟩,g3⟩:=JK e2;cases g3;subst g2;obtain⟨a1,a2⟩:=h.YB (show 0<t.D6.length by omega);obtain⟨b1,b2⟩:=h.YB (show 1<t.D6.length by omega);obtain⟨d1,d2⟩:=h.YB (show 2<t.D6.length by omega);exact⟨X,g1,⟨a1,a2,x1⟩,⟨b1,b2,z1⟩,⟨d1,d2,u1⟩⟩
structure CT(A B:Ty):Prop where
 ra:A.right=true
 rb:B.right=true
 ca:A.BC 6=true
 cb:B.BC 6=true
 ag:A.agrees B=true
def WT.cast(h:WT t L A)(k:t.A8=16):WT (t.kd 0) L t.a/\A=t.b/\CT t.a t.b:=by have l:=Tm.B_ h.r (.inr k);have c:=h.c;obtain⟨ra,rb,-⟩:=Tm.BG h.r k;rw[jh (by omega),Tm.Ib l]at c;simp only[zeq,zfq,Aa]at c;obtain⟨k1,e1,e2⟩:=Except.bind_ok c;obtain⟨X,x1,x2⟩:=Except.bind_ok e1;cases x2;unfold Ea at e2;simp only[k,Int.reduceEq,F9,H5,z7q,znq,B6M]at e2;obtain⟨g0,e2⟩:=JK e2;obtain⟨⟨g1,g2⟩,g3⟩:=JK e2;cases g3;rw[z2q]at g0;obtain⟨a1,a2⟩:=h.YB (show 0<t.D6.length by omega);exact⟨⟨a1,a2,g1 ▸ x1⟩,rfl,ra,rb,g0.1,g0.2,g2⟩
variable {B:Ty}
def WT.J8{c w:Tm}{q:Bool}(h0:0<=c.label)(h1:c.label<=1048576)(ct:CT A B)(hw:WT w L A):WT (J8 c q A B w) L B where
 r:=aA h0 h1 ct.ra ct.rb hw.r
 n:=Tm.Ir.2 ⟨rfl,λk hk=>by
   have:k=w:=by simpa[Su.J8]using hk
   rw[this];exact hw.n⟩
 c:=by rw[jh (by right;right;right;right;right;rfl)];show(Aa L [] [ck w]).bind _=_;unfold Aa;rw[hw.c];have e1:(Su.J8 c q A B w).a=A:=rfl;have e2:(Su.J8 c q A B w).b=B:=rfl;have e3:(Su.J8 c q A B w).A8=16:=rfl;simp only[Except.bind,Aa,Ea,e1,e2,e3,Int.reduceEq,F9,H5,B6M,ct.ca,ct.cb,ct.ag,Bool.and_self,z7q,true_and,and_self]
def Ty.A4G(h:A.BC 6=true):A.A8≠6:=by rw[Ty.Ot,z2q]at h;simpa using h.1
def Ty.B5q{k:Ty}(h:A.BC 6=true)(hk:k∈A.D6):k.BC 6=true:=by rw[Ty.Ot,z2q,zlq]at h;exact h.2 k hk
theorem B9y:XG.BC 6=true:=by rw[Ty.Ot];rfl
def B9L{k:Int}(h:k≠6):(N9 k).BC 6=true:=by rw[Ty.Ot,z2q,zlq,Xw];refine⟨by simp[NZ,h],λx hx=>?_⟩;rw[(zXq.1 hx).2];exact B9y
def B9K(rb:B.right=true)(cb:B.BC 6=true)(b5:B.A8≠5):(N9 B.A8).agrees B=true:=by
 have b6:=Ty.A4G cb;obtain⟨-,-,-,h4,-⟩:=Ty.CS.1 rb;rw[Ty.aj,C8 (by rw[NZ];exact b5),C8 b5,z2q,z2q,zlq];refine⟨⟨by simp[NZ],?_⟩,λp hp=>?_⟩
 ·have:B.n=0:=h4.resolve_left b6;rw[this];rfl
 ·obtain⟨h1,h2⟩:=List.of_mem_zip (show(p.1,p.2)∈_ from hp);rw[Xw]at h1;rw[(zXq.1 h1).2,Ty.A8b rfl];exact Ty.B5q cb h2
def B6z(h:A.agrees B=true)(a5:A.A8≠5)(b5:B.A8≠5):A.A8=B.A8/\A.n=B.n/\∀i,i<A.D6.length->i<B.D6.length->(A.kd i).agrees (B.kd i)=true:=by rw[Ty.aj,C8 a5,C8 b5,z2q,z2q,zlq]at h;refine⟨by simpa using h.1.1,by simpa using h.1.2,λi ha hb=>?_⟩;refine h.2 (A.kd i,B.kd i) ?_;rw[<- Ty.UV ha,<- Ty.UV hb];exact List.mem_iff_getElem.2 ⟨i,by rw[zQq];omega,by rw[List.getElem_zip]⟩
def CT.comm(h:CT A B):CT B A:=⟨h.rb,h.ra,h.cb,h.ca,Ty.B5u A h.ra B h.rb h.ag⟩
def CT.ground(rb:B.right=true)(cb:B.BC 6=true)(b5:B.A8≠5):CT (N9 B.A8) B :=⟨VI (by have:=Ty.Bv rb;omega),rb,B9L (Ty.A4G cb),cb,B9K rb cb b5⟩
def CT.dyn(ra:A.right=true)(a5:A.A8=5)(rb:B.right=true)(cb:B.BC 6=true):CT A B :=⟨ra,rb,by rw[Ty.Qv ra a5];exact B9y,cb,by rw[Ty.A8b a5];exact cb⟩
def CT.kd(h:CT A B)(a5:A.A8≠5)(b5:B.A8≠5)(ha:i<A.D6.length)(hb:i<B.D6.length):CT (A.kd i) (B.kd i) :=⟨Ty.mZ h.ra ha,Ty.mZ h.rb hb,Ty.B5q h.ca (Ty.U4 ha),Ty.B5q h.cb (Ty.U4 hb),(B6z h.ag a5 b5).2.2 i ha hb⟩
def xw(r:A.right=true){n:Nat}(h:X3 A.A8=(n:Int)):A.D6.length=n:=by have:=Ty.Bv r;omega
def WT.canon{v:Tm}(h:WT v [] A)(hv:v.L9=true):
 ((v.A8=2\/v.A8=3\/v.A8=4\/v.A8=5)/\A.A8=v.A8-1)\/(v.A8=7/\A.A8=8)\/(v.A8=9/\A.A8=9)\/(v.A8=6/\A.A8=7)\/(v.A8=8/\A.A8=8)\/(v.A8=16/\A=v.b/\CB v.a v.b=true):=by
 rw[Tm.FY]at hv;by_cases k1:v.A8=2\/v.A8=3\/v.A8=4\/v.A8=5
 ·left;have c:=h.c;rw[A4j k1]at c;cases c;exact⟨k1,rfl⟩
 by_cases k7:v.A8=7
 ·right;left;have c:=h.c;rw[B3l k7]at c;have:=(JK c).2;cases this;exact⟨k7,rfl⟩
 by_cases k9:v.A8=9
 ·right;right;left;have c:=h.c;rw[A9U h.r k9]at c;obtain⟨y,-,h2⟩:=Except.bind_ok (JK c).2;cases h2;exact⟨k9,rfl⟩
 rw[C8 (by omega)]at hv;by_cases k6:v.A8=6
 ·obtain⟨X,Y,-,-,h2⟩:=h.two (.inl k6);unfold Ea at h2;simp only[k6,H5]at h2;cases h2;exact .inr (.inr (.inr (.inl ⟨k6,rfl⟩)))
 by_cases k8:v.A8=8
 ·obtain⟨X,Y,-,-,h2⟩:=h.two (.inr (.inl k8));unfold Ea at h2;simp only[k8,Int.reduceEq,F9,H5]at h2;obtain⟨⟨g,-⟩,g3⟩:=JK h2;cases g3;exact .inr (.inr (.inr (.inr (.inl ⟨k8,g⟩))))
 rw[C8 (by omega)]at hv;by_cases k16:v.A8=16
 ·rw[D5 k16,z2q]at hv;exact .inr (.inr (.inr (.inr (.inr ⟨k16,(h.cast k16).2.1,hv.1⟩))))
 ·rw[C8 k16]at hv;cases hv
def jX{a b:Ty}(h:CB a b=true)(b5:b.A8≠5):a.A8=b.A8/\(a.A8=7\/a.A8=8\/a.A8=9):=by unfold CB at h;rw[C8 b5,z2q]at h;exact⟨by simpa using h.1,by simpa using h.2⟩
def zP(P:GZ->Prop)(A:Ty):SR->Prop
 |.ok u=>WT u [] A
 |.fin r=>P r
def B0d(r:GZ):Prop:=r.A8=2
def isFin(r:GZ):Prop:=r.A8=2\/r.A8=3\/r.A8=4
def zP.weak{x:SR}(h:zP B0d A x):zP isFin A x:=by
 cases x with
 |ok u=>exact h
 |fin r=>exact .inl h
def jd(h:WT t [] B)(k:t.A8=16)(hw:(t.kd 0).L9=true)(hn:CB t.a t.b=false):zP B0d B (X9 t (t.kd 0)):=by
 obtain⟨w,rfl,ct⟩:=h.cast k;obtain⟨-,-,h0,h1⟩:=Tm.BG h.r k;have a6:=Ty.A4G ct.ca;have b6:=Ty.A4G ct.cb;unfold X9;by_cases e0:t.a.D6=[]/\t.a=t.b
 ·rw[D5 e0];show WT _ _ _;rw[<- e0.2];exact w
 rw[C8 e0];by_cases a5:t.a.A8=5
 ·rw[D5 a5];by_cases b5:t.b.A8=5
  ·exact absurd ⟨by rw[Ty.Qv ct.ra a5];rfl,by rw[Ty.Qv ct.ra a5,Ty.Qv ct.rb b5]⟩ e0
  rw[C8 (by omega)];have cg:=CT.ground ct.rb ct.cb b5;by_cases bg:t.b=N9 t.b.A8
  ·rw[C8 (show ¬t.b≠N9 t.b.A8 from λh=>h bg)];have cn:=w.canon hw;have cv:(t.kd 0).A8=16/\(t.kd 0).b.A8=5:=by
    rcases cn with⟨x,y⟩ | ⟨x,y⟩ | ⟨x,y⟩ | ⟨x,y⟩ | ⟨x,y⟩ | ⟨x,y,z⟩
    ·omega
    ·omega
    ·omega
    ·omega
    ·omega
    ·exact⟨x,y ▸ a5⟩
   rw[C8 (by omega)];obtain⟨w2,-,-⟩:=w.cast cv.1;by_cases e:(t.kd 0).a=N9 t.b.A8
   ·rw[D5 e];show WT _ _ _;rw[bg,<- e];exact w2
   ·rw[C8 e];exact rfl
  ·rw[D5 bg];exact WT.J8 h0 h1 cg (WT.J8 h0 h1 (CT.dyn ct.ra a5 cg.ra cg.ca) w)
 rw[C8 a5];by_cases b5:t.b.A8=5
 ·rw[D5 b5,C8 a6];have cg:=CT.ground ct.ra ct.ca a5;exact WT.J8 h0 h1 (CT.dyn ct.rb b5 cg.ra cg.ca).comm (WT.J8 h0 h1 cg.comm w)
 ·exfalso;obtain⟨g1,g2,-⟩:=B6z ct.ag a5 b5;have hk:¬(t.a.A8=7\/t.a.A8=8\/t.a.A8=9):=by intro hk;unfold CB at hn;rw[C8 b5,g1]at hn;rw[g1]at hk;simp[hk]at hn
  obtain⟨r1,-⟩:=Ty.CS.1 ct.ra;obtain⟨r2,-⟩:=Ty.CS.1 ct.rb;have ar:X3 t.a.A8<=0:=by
   unfold X3
   repeat' split
   all_goals omega
  have ka:t.a.D6=[]:=zaq (by omega);have kb:t.b.D6=[]:=zaq (by rw[<- g1]at r2;omega);exact e0 ⟨ka,Ty.ED.2 ⟨g1,g2,by rw[ka,kb]⟩⟩
def WT.C2Z(h:WT t [] B)(hb:t.binds i=[])(hi:i<t.D6.length):∃Y,WT (t.kd i) [] Y:=by
 obtain⟨kr,kn⟩:=h.YB hi;have c:=h.c;rw[LF]at c;obtain⟨m,V,Y,hm,hV,hY⟩:=ql h.r (by simp) c i (ck (t.kd i)) (by rw[zhq,Tm.Ng hi];rfl);have m0:m=[]:=by
  cases m with
  |nil=>rfl
  |cons a l=>have:=(hm a.name).1 (by simp);rw[hb]at this;cases this
 have v0:V=[]:=by
  rcases hV with g | ⟨-,g⟩
  ·exact g
  ·rw[g,(Tm.Ir.1 h.n).1]
 subst m0 v0;exact⟨Y,kr,kn,hY⟩
def WT.set{x:Tm}(h:WT t [] B)(k1:t.A8≠1)(hb:t.binds i=[])(hi:i<t.D6.length)(hx:∀Y,WT (t.kd i) [] Y->WT x [] Y):WT (t.AR i x) [] B:=by
 have e:t.AR i x=t.V7 (t.D6.set i x):=rfl;have nv:=Tm.Ir.1 h.n;obtain⟨kr,kn⟩:=h.YB hi;obtain⟨Y0,hY0⟩:=h.C2Z hb hi;have wx:=hx Y0 hY0;rw[e];refine⟨?_,?_,?_⟩
 ·rw[Tm.right_eq,Tm.ZX (List.length_set ..),Tm.Z4 h.r,zOq,Tm.FT,zlq];intro k hk;rcases zrq hk with g | g
  ·exact Tm.M8 h.r g
  ·rw[g];exact wx.r
 ·refine Tm.Ir.2 ⟨nv.1,λk hk=>?_⟩;rw[Tm.FT]at hk;rcases zrq hk with g | g
  ·exact nv.2 k g
  ·rw[g];exact wx.n
 ·have c:=h.c;rw[LF]at c ⊢;refine A14 (t:=t) (ks:=t.D6.set i x) (fs:=t.D6.map ck) (L:=[]) (M:=[]) (S:=[]) (Q:=[]) k1 (Tm.Oi h.r) (by simp) (λx hx=>hx) (λh=>h) (λj f g hf hg m V hm hV=>?_) B c;rw[Tm.FT,zhq]at hg;rw[zhq]at hf;by_cases hj:j=i
  ·subst hj;have m0:m=[]:=by
    cases m with
    |nil=>rfl
    |cons a l=>have:=(hm a.name).1 (by simp);rw[hb]at this;cases this
   have v0:V=[]:=by
    rcases hV with g | ⟨-,g⟩
    ·exact g
    ·rw[g,nv.1]
   subst m0 v0;rw[Tm.Ng hi,zzq,D9]at hf;rw[zoq hi,zzq,D9]at hg;subst hf hg;intro Y hY;exact(hx Y ⟨kr,kn,hY⟩).c
  ·rw[zBq (Ne.symm hj),hf]at hg;simp only[D9]at hg;subst hg;exact λB h=>h
def B6t(h:WT t [] B)(k:t.A8=16)(st:Stp t)(nv:t.L9=false):zP B0d B t.Ca:=by
 have l1:=Tm.B_ h.r (.inr k);rw[Tm.Gq];have ea:t.D6.all Tm.L9=(t.kd 0).L9:=by rw[Tm.Ib l1];simp[Tm.kd]
 have ar:(t.kd 0).L9=true->CB t.a t.b=false:=λhv=>by rw[Tm.FY,C8 (by omega),C8 (by omega),D5 k,ea,hv,Bool.and_true]at nv;exact nv
 rcases st with hv | ⟨n0,k0,r0,v0⟩
 ·rw[D5 (by rw[ea];exact hv)];exact jd h k hv (ar hv)
 ·rw[C8 (by rw[ea,n0];simp)];have l0:=Tm.B_ r0 (.inr k0);have e2:(t.D6.map Tm.Ca).getD 0 (.fin Bw)=(t.kd 0).Ca:=by rw[Tm.Ib l1];rfl
  have e3:(t.kd 0).Ca=X9 (t.kd 0) ((t.kd 0).kd 0):=by rw[Tm.Gq,D5 (by rw[Tm.Ib l0];simpa using v0)]
  have a0:CB (t.kd 0).a (t.kd 0).b=false:=by rw[Tm.FY,C8 (by omega),C8 (by omega),D5 k0,Tm.Ib l0]at n0;simpa[v0]using n0
  rw[e2,e3];have wk:=(h.cast k).1;have d:=jd wk k0 v0 a0;cases hc:X9 (t.kd 0) ((t.kd 0).kd 0)with
  |fin r=>rw[hc]at d;exact d
  |ok x=>
    rw[hc]at d;refine WT.set h (by omega) (Tm.Nt (by omega) (by omega) (by omega) (by omega)) (by omega) λY hY=>?_;have:Y=t.a:=by have:=hY.c;rw[wk.c]at this;cases this;rfl
    rw[this];exact d
def SVl(B:Ty):SR->Prop
 |.ok y=>WT y [] B/\y.L9=true
 |.fin r=>B0d r
def A3R:∀(n:Nat)(t:Tm)(B:Ty),XB n t->WT t [] B->SVl B (AY n t)
 |0,t,B,h,_=>h.elim
 |n+1,t,B,h,w=>by
   rcases h.2 with hv | ⟨hv,k,st,hs⟩
   ·rw[Ol hv];exact⟨w,hv⟩
   ·rw[Me hv];have d:=B6t w k st hv;cases hc:t.Ca with
    |fin r=>rw[hc]at d;exact d
    |ok y=>rw[hc]at d;exact A3R n y B (hs y hc) d
def cq0:CQ (λy=>y.right=true) (λt=>t.right=true) where
 g:=λk h=>VI h
 ty:=λ_ h=>h
 r:=λ_ h=>h
 kid:=λt h k=>Tm.AX h (by rw[Tm.B_ h (.inr k)];omega)
 cast:=λc q A B w h0 h1 hA hB hw=>aA h0 h1 hA hB hw
def Chn(K:Int):List Tm->Ty->Ty->Prop
 |[],T,A=>T=A
 |c::L,T,A=>c.a=T/\c.right=true/\c.A8=16/\CT c.a c.b/\c.a.A8=K/\c.b.A8=K/\Chn K L c.b A
def Chn.snoc{K:Int}{c:Tm}(rc:c.right=true)(k:c.A8=16)(ct:CT c.a c.b)(ka:c.a.A8=K)(kb:c.b.A8=K):∀{L:List Tm}{T:Ty},Chn K L T c.a->Chn K (L++[c]) T c.b
 |[],T,h=>⟨h.symm,rc,k,ct,ka,kb,rfl⟩
 |d::L,T,⟨h1,h2,h3,h4,h5,h6,h7⟩=>⟨h1,h2,h3,h4,h5,h6,Chn.snoc rc k ct ka kb h7⟩
def WT.chn(v:Tm):∀A,WT v [] A->v.L9=true->A.A8≠5->∃T,WT v.K4 [] T/\v.K4.L9=true/\v.K4.A8≠16/\T.A8=A.A8/\Chn A.A8 v.O6 T A:=by
 induction v using Tm.ind with
 |h v ih=>
   intro A h hv a5;by_cases k:v.A8=16
   ·have l1:=Tm.B_ h.r (.inr k);obtain⟨w,rfl,ct⟩:=h.cast k;obtain⟨c1,c2⟩:=XD k l1;have ar:CB v.a v.b=true:=by have PN:=hv;rw[Tm.FY,C8 (by omega),C8 (by omega),D5 k,z2q]at PN;exact PN.1
    obtain⟨e1,e2⟩:=jX ar a5;obtain⟨T,i1,i2,i3,i4,i5⟩:=ih _ (Tm.U4 (show 0<v.D6.length by omega)) v.a w (B0H hv k l1) (by omega);rw[c1,c2];refine⟨T,i1,i2,i3,by omega,?_⟩;rw[e1]at i5;exact Chn.snoc h.r k ct e1 rfl i5
   ·rw[(KH k).1,(KH k).2];exact⟨A,h,hv,k,rfl,rfl⟩
def CT.part(h:CT A B){K:Int}(hK:K=7\/K=8)(ka:A.A8=K)(kb:B.A8=K)(hi:i<2):CT (V3 A i) (V3 B i):=by
 have la:A.D6.length=if K=7 then 2 else 1:=xw h.ra (by rw[ka];rcases hK with rfl | rfl<;>rfl)
 have lb:B.D6.length=if K=7 then 2 else 1:=xw h.rb (by rw[kb];rcases hK with rfl | rfl<;>rfl)
 unfold V3;by_cases c:K=8/\i=1
 ·rw[D5 (by omega),D5 (by omega)];exact h
 ·rw[C8 (by omega),C8 (by omega)];have:i<if K=7 then 2 else 1:=by split<;>omega
  exact h.kd (by omega) (by omega) (by omega) (by omega)
def rU{K:Int}(hK:K=7\/K=8){i:Nat}(hi:i<2):∀(L:List Tm)(T A:Ty)(w:Tm),Chn K L T A->WT w [] (V3 T i)->w.L9=true->SVl (V3 A i) (Bo K i L w)
 |[],T,A,w,h,hw,hv=>by cases h;exact⟨hw,hv⟩
 |c::L,T,A,w,⟨h1,h2,h3,h4,h5,h6,h7⟩,hw,hv=>by
   subst h1;obtain⟨-,-,l0,l1⟩:=Tm.BG h2 h3;have cp:=h4.part hK h5 h6 hi;rw[Bo,C8 (by omega),C8 (by omega)];have st:=(bu cq0 (c:=c) (q:=c.neg) l0 l1 cp.ra cp.rb hw.r hv).1;have d:=A3R 4 _ _ st (WT.J8 l0 l1 cp hw);cases hs:AY 4 (J8 c c.neg (V3 c.a i) (V3 c.b i) w)with
   |fin r=>rw[hs]at d;exact d
   |ok y=>rw[hs]at d;exact rU hK hi L c.b A y h7 d.1 d.2
def B4q{v:Tm}(h:WT v [] A)(hv:v.L9=true)(hK:A.A8=7\/A.A8=8)(hk:v.K4.A8=if A.A8=7 then 6 else 8):
 match Bn v.O6 v.K4 with | .fin r=>B0d r | .ok a b=>(WT a [] (V3 A 0)/\a.L9=true)/\WT b [] (V3 A 1)/\b.L9=true:=by
 obtain⟨T,i1,i2,i3,i4,i5⟩:=WT.chn v A h hv (by omega);have k68:v.K4.A8=6\/v.K4.A8=8:=by rw[hk];split<;>omega
 have l2:=Tm.EF i1.r (by omega);have vs:(v.K4.kd 0).L9=true/\(v.K4.kd 1).L9=true:=by rw[Tm.FY,C8 (by omega),D5 k68,Tm.A4r l2]at i2;simpa using i2
 obtain⟨X,Y,w0,w1,o⟩:=i1.two (by omega);have tp:V3 T 0=X/\V3 T 1=Y:=by
  unfold Ea at o;rcases hK with hK | hK
  ·rw[D5 hK]at hk;simp only[hk,H5]at o;cases o;exact⟨rfl,rfl⟩
  ·rw[C8 (by omega)]at hk;simp only[hk,Int.reduceEq,F9,H5,z7q,znq]at o;obtain⟨⟨g1,g2⟩,g3⟩:=JK o;cases g3;unfold V3;rw[C8 (by omega),D5 ⟨by omega,rfl⟩];exact⟨g2,rfl⟩
 have eK:(if v.K4.A8=8 then(8:Int)else 7)=A.A8:=by rw[hk];rcases hK with hK | hK<;>simp[hK]
 have d0:=rU hK (i:=0) (by omega) v.O6 T A (v.K4.kd 0) i5 (tp.1 ▸ w0) vs.1;have d1:=rU hK (i:=1) (by omega) v.O6 T A (v.K4.kd 1) i5 (tp.2 ▸ w1) vs.2;unfold Bn;rw[eK];cases h0:Bo A.A8 0 v.O6 (v.K4.kd 0)with
 |fin r=>rw[h0]at d0;exact d0
 |ok a=>
   rw[h0]at d0;cases h1:Bo A.A8 1 v.O6 (v.K4.kd 1)with
   |fin r=>rw[h1]at d1;exact d1
   |ok b=>rw[h1]at d1;exact⟨d0,d1⟩
def TBi:List ER->List (ByteArray×Ty)->Prop
 |[],[]=>True
 |c::l,e::b=>c.1=e.1/\WT c.2 [] e.2/\TBi l b
 |_,_=>False
def TBi.app:∀{l m:List ER}{b d:List (ByteArray×Ty)},TBi l b->TBi m d->TBi (l++m) (b++d)
 |[],m,[],d,_,h=>h
 |c::l,m,e::b,d,⟨h1,h2,h3⟩,h=>⟨h1,h2,TBi.app h3 h⟩
 |[],_,_::_,_,h,_=>h.elim
 |_::_,_,[],_,h,_=>h.elim
def FOk(b:List (ByteArray×Ty)):FR->Prop
 |.ok l=>TBi l b
 |.fin r=>B0d r
 |.no=>True
def FOk.both{x:FR}{f:List ER->FR}{b d:List (ByteArray×Ty)}(h:FOk b x)(g:FR)(hg:FOk d g):FOk (b++d) (x.also λl=>g.pre l):=by
 cases x with
 |no=>trivial
 |fin r=>exact h
 |ok l=>
   cases g with
   |no=>trivial
   |fin r=>exact hg
   |ok m=>exact TBi.app h hg
def E8.B5R(p:E8):p.pat=true->∀(v:Tm)(A:Ty)(b:List (ByteArray×Ty)),WT v [] A->v.L9=true->p.binds A=some b->FOk b (p.AU v):=by
 induction p using E8.ind with
 |h p ih=>
   intro hp v A b h hv hb;rw[E8.Vl p v (E8.Gl hp)];rw[E8.jZ]at hb;unfold Za at hb;by_cases k1:p.A8=1
   ·rw[D5 k1]at hb ⊢;cases hb;exact True.intro
   rw[C8 k1]at hb ⊢;by_cases k2:p.A8=2
   ·rw[D5 k2]at hb ⊢;cases hb;exact⟨rfl,h,trivial⟩
   rw[C8 k2]at hb ⊢;by_cases hn:v.A8=16/\v.b.A8=5\/v.K4.A8≠p.A8-1
   ·rw[D5 hn];trivial
   rw[C8 hn];have Qa:v.K4.A8=p.A8-1:=Classical.byContradiction λg=>hn (.inr g);by_cases k79:p.A8=7\/p.A8=9
   ·rw[D5 k79];have l2:=E8.Gl hp k79;have m0:=E8.JM (show 0<p.D6.length by omega);have m1:=E8.JM (show 1<p.D6.length by omega);have BD:p.D6=[p.kd 0,p.kd 1]:=by
     match hk:p.D6,l2 with
     |[a,b],_=>simp[E8.kd,hk]
    have key:(A.A8=7\/A.A8=8)/\(v.K4.A8=if A.A8=7 then 6 else 8)/\∃b0 b1,(p.kd 0).binds (V3 A 0)=some b0/\(p.kd 1).binds (V3 A 1)=some b1/\b=b0++b1:=by
     rw[BD]at hb;rcases k79 with k | k
     ·rw[D5 k]at hb;split at hb
      ·rename_i a7;refine⟨.inl a7,by rw[D5 a7,Qa,k];rfl,?_⟩
       match hA:A.D6 with
       |[]=>rw[hA]at hb;simp[Ii]at hb
       |[x]=>rw[hA]at hb;simp[Ii]at hb
       |x::y::l=>
         rw[hA]at hb;simp only[zeq,zfq,Ii,zPq,D9]at hb;obtain⟨b0,e0,q,⟨b1,e1,q1,e2,e3⟩,e4⟩:=hb;have p0:V3 A 0=x:=by unfold V3 Ty.kd;rw[C8 (by omega),hA];rfl
         have p1:V3 A 1=y:=by unfold V3 Ty.kd;rw[C8 (by omega),hA];rfl
         refine⟨b0,b1,by rw[p0];exact e0,by rw[p1];exact e1,?_⟩;rw[<- e4,<- e3,<- e2,zxq]
      ·cases hb
     ·rw[C8 (by omega),D5 k]at hb;split at hb
      ·rename_i a8;refine⟨.inr a8,by rw[C8 (by omega),Qa,k];rfl,?_⟩;simp only[zeq,zfq,Ii,zPq,D9]at hb;obtain⟨b0,e0,q,⟨b1,e1,q1,e2,e3⟩,e4⟩:=hb;have p0:V3 A 0=A.D6.getD 0 O5:=by unfold V3 Ty.kd;rw[C8 (by omega)]
       have p1:V3 A 1=A:=by unfold V3;rw[D5 ⟨a8,rfl⟩]
       refine⟨b0,b1,by rw[p0];exact e0,by rw[p1];exact e1,?_⟩;rw[<- e4,<- e3,<- e2,zxq]
      ·cases hb
    obtain⟨kA,kI,b0,b1,e0,e1,rfl⟩:=key;have d:=B4q h hv kA kI;cases hq:Bn v.O6 v.K4 with
    |fin r=>rw[hq]at d;exact d
    |ok x y=>rw[hq]at d;obtain⟨⟨x1,x2⟩,y1,y2⟩:=d;exact FOk.both (f:=λ_=>.no) (ih _ m0 (E8.Eb hp m0) x _ _ x1 x2 e0) _ (ih _ m1 (E8.Eb hp m1) y _ _ y1 y2 e1)
   ·rw[C8 k79];split
    ·trivial
    ·rw[C8 (by omega),C8 (by omega)]at hb;split at hb
     ·cases hb;exact True.intro
     ·cases hb
end Go.Su

/-
 Substitution of a term for a name: no bound on the Q3.
-/
namespace Go.Su
set_option linter.defProp false
def Tm.A1Y{t:Tm}(h:t.Pv)(i:Nat):(t.binds i).length<=J9:=by
 have e2:(2:Nat)<=J9:=by decide
 unfold Tm.binds;split
 ·simp only[zuq,z9q];omega
 split
 ·simp only[zuq,z9q];omega
 split
 ·split
  ·rename_i p hp;have hm:=List.mem_of_getElem? hp;have:=(h.pat p hm).size;have:=p.Pn [];simp only[z9q]at this;unfold E8.names;omega
  ·simp
 ·simp
variable (s:ByteArray)(xs:List Int)(v:Tm)
def B5g(hx:EG xs=true)(gG:xs.length<=J9)(fv:v.fit)(rv:v.right=true)(t:Tm):t.fit->t.right=true->∀S:List H7,Q7 S 0=some (Lg s xs v)->
 ∃(J:List H7)(u:Tm)(b:Bool),C9.r JX [(.undef,.ptr 0 0),(t.A9,.val)] S=some ([u.A9,.bool b],S++J)/\t.Cv s xs v=(if b=true then some u else none):=by
 induction t using Tm.ind with
 |h t ih=>
   intro ft rt S hS;have hk:=big (zGq ft.one.D6);have loop:∀(n j:Nat)(cur:List Tm)(J:List H7),j+n=t.D6.length->cur.length=t.D6.length->(∀i:Nat,j<=i->cur[i]?=t.D6[i]?)->
    ∃(J':List H7)(u:Tm)(b:Bool),inLoop t S.length t.D6.length j (S ++ .arr 20 (cur.map Tm.A9)::J)=some ([u.A9,.bool b],S++J') /\(Tm.Eo t.binds j (t.D6.drop j) s xs v).map (λks=>t.V7 (cur.take j++ks))=(if b=true then some u else none):=by
    intro n;induction n with
    |zero=>
      intro j cur J hj hc _;have e:j=t.D6.length:=by omega
      subst e;refine⟨_,_,_,C5Y t S J cur hc,?_⟩;rw[ztq,Tm.MP];simp[List.take_of_length_le (Nat.le_of_eq hc)]
    |succ n ihn=>
      intro j cur J hj hc C1D;have h:j<t.D6.length:=by omega
      have h':j<cur.length:=by omega
      have hcj:cur[j]=t.D6[j]:=by have:=C1D j (zKq _);rw[zdq h,zdq h']at this;simpa using this
      have vO:=Tm.A1Y ft.one j;have pG:=A1d t ft.one j (λh14=>by have:=Tm.A3C rt h14;omega);have hct:=A1n (t.binds j) (by omega) s;have ee:(DV.agg [A7 0 t.A9,A7 1 t.A9,A7 2 t.A9,A7 3 t.A9,A7 4 t.A9,A7 5 t.A9,A7 6 t.A9,A7 7 t.A9,A7 8 t.A9,A7 9 t.A9,A7 10 t.A9,A7 11 t.A9,A7 12 t.A9,A7 13 t.A9,A7 14 t.A9,A7 15 t.A9,A7 16 t.A9,A7 17 t.A9,A7 18 t.A9,A7 19 t.A9])=t.A9:=by simp[Tm.M5,Tm.ag]
      have ek:∀k:Tm,(DV.agg [A7 0 k.A9,A7 1 k.A9,A7 2 k.A9,A7 3 k.A9,A7 4 k.A9,A7 5 k.A9,A7 6 k.A9,A7 7 k.A9,A7 8 k.A9,A7 9 k.A9,A7 10 k.A9,A7 11 k.A9,A7 12 k.A9,A7 13 k.A9,A7 14 k.A9,A7 15 k.A9,A7 16 k.A9,A7 17 k.A9,A7 18 k.A9,A7 19 k.A9])=k.A9:=λk=>by simp[Tm.M5,Tm.ag]
      have a1:Cf 0 t.D6.length (iI (j:Int))=some j:=by show(if (0:Int)<=(j:Int)/\(j:Int)<(t.D6.length:Int)then some (0+(j:Int).toNat)else none)=some j;rw[D5 ⟨by omega,by omega⟩];simp
      have g1:(cur.map Tm.A9)[j]?=some t.D6[j].A9:=by rw[zhq,zdq h',hcj];rfl
      have cd:Y5 (Lg s xs v) 0=some (.str s):=rfl;rw[z3q h,Tm.Oh];by_cases hb:((t.binds j).any λx=>decide (x=s))=true
      ·obtain⟨J',u,b,k1,k2⟩:=ihn (j+1) cur J (by omega) hc (λi hi=>C1D i (by omega));refine⟨J',u,b,?_,?_⟩
       ·rw[<- k1];unfold inLoop;rw[FC];simp only[J6,zAq,h,L8,F8,E9,H5,a1,qA,g1,BEq.rfl,F4,ee,pG,qB hS,cd,hct,hb];rw[O8 (by omega)];rfl
       ·rw[<- k2,D5 hb];simp only[zIq,y3q]
        congr 1;funext ks;simp only[Function.comp_apply];rw[zvq h',hcj,ziq];rfl
      ·have HV:((t.binds j).any λx=>decide (x=s))=false:=Bool.eq_false_iff.2 hb;obtain⟨J1,u1,b1,f1,f2⟩:=ih _ (z6q h) (ft.kid (z6q h)) (Tm.M8 rt (z6q h)) (S ++ .arr 20 (cur.map Tm.A9)::J) (qB hS _);rw[C8 hb,f2];cases b1
       ·refine⟨.arr 20 (cur.map Tm.A9)::J++J1,t,false,?_,by simp⟩;unfold inLoop;rw[FC];simp only[J6,zAq,h,L8,F8,E9,H5,a1,qA,g1,BEq.rfl,F4,ee,ek,pG,qB hS,cd,hct,HV,z0q,F9,f1,K5,zkq,z8q,I8,P9,zgq];rw[ziq]
       ·obtain⟨J',u,b,k1,k2⟩:=ihn (j+1) (cur.set j u1) (J++J1) (by omega) (by simpa using hc) (λi hi=>by rw[zBq (by omega)];exact C1D i (by omega));refine⟨J',u,b,?_,?_⟩
        ·rw[<- k1];unfold inLoop;rw[FC];simp only[J6,zAq,h,L8,F8,E9,H5,a1,qA,g1,BEq.rfl,F4,ee,ek,pG,qB hS,cd,hct,HV,z0q,F9,f1,K5,zkq,z8q,I8,P9,z5q,ziq,zCq,B67];rw[O8 (by omega)];simp only[F8,List.map_set]
         try rfl
        ·rw[<- k2];simp only[H5,zIq,y3q]
         congr 1;funext ks;simp only[Function.comp_apply];rw[zvq (by simpa using h'),ziq,List.take_set_of_le (zKq _)];simp
   have ee:(DV.agg [A7 0 t.A9,A7 1 t.A9,A7 2 t.A9,A7 3 t.A9,A7 4 t.A9,A7 5 t.A9,A7 6 t.A9,A7 7 t.A9,A7 8 t.A9,A7 9 t.A9,A7 10 t.A9,A7 11 t.A9,A7 12 t.A9,A7 13 t.A9,A7 14 t.A9,A7 15 t.A9,A7 16 t.A9,A7 17 t.A9,A7 18 t.A9,A7 19 t.A9])=t.A9:=by simp[Tm.M5,Tm.ag]
   by_cases h1:t.A8=1
   ·by_cases h2:t.name=s
    ·have cd0:Y5 (Lg s xs v) 0=some (.str s):=rfl;have cd1:Y5 (Lg s xs v) 1=some (K6 xs):=rfl;obtain⟨e,e1,e2⟩:=B5T s xs v;obtain⟨-,-,rargs⟩:=Tm.rz rt;by_cases h3:t.args.length=xs.length
     ·by_cases h0:xs=[]
      ·subst h0;have vM:t.args.length=0:=h3;refine⟨[],v,true,(DZ _ _ _).trans ?_,by rw[Tm.Nl,D5 h1,D5 h2,D5 h3,zyq,Tm.ym];rfl⟩;rw[EB];simp only[ee];simp[h1,h2,vM,hS,cd0,cd1,e1,e2,Tm.M5,Tm.ag]
      ·refine⟨[],v.Fb (xs.zip t.args),true,(DZ _ _ _).trans ?_,by rw[Tm.Nl,D5 h1,D5 h2,D5 h3];rfl⟩;have bM:¬(xs.length:Int)=0:=by have:=zsq.2 h0;omega
       have hT:=B2N v fv rv (xs.zip t.args) (by rw[zQq];omega) (wB hx rargs);have lp:=C1M s xs v t S hS gG h3;rw[C3K s xs v t S hS e e1 e2 hT]at lp;rw[EB];have n1:D7 .neq (.str t.name) (.str s)=some (.bool false):=by rw[h2];simp
       have n2:D7 .neq (iI (t.args.length:Int)) (iI (xs.length:Int))=some (.bool false):=by rw[h3];simp
       simp only[I8,F4,Tm.AV t,Tm.EU t,Tm.Kw t,P6,h1,L8,F8,E9,H5,hS,cd0,cd1,n1,n2,z0q,F9,N8,z1q,Gx,bM,R4];rw[zxq];exact lp
     ·refine⟨[],t,false,(DZ _ _ _).trans ?_,by rw[Tm.Nl,D5 h1,D5 h2,C8 h3];rfl⟩;have n1:D7 .neq (.str t.name) (.str s)=some (.bool false):=by rw[h2];simp
      have n2:D7 .neq (iI (t.args.length:Int)) (iI (xs.length:Int))=some (.bool true):=by
       have:¬(t.args.length:Int)=(xs.length:Int):=by omega
       simp[this]
      rw[EB];simp only[ee];simp only[I8,F4,Tm.AV t,Tm.EU t,Tm.Kw t,P6,h1,L8,F8,E9,H5,hS,cd0,cd1,n1,n2,z0q,F9,N8,z1q,Gx,zxq]
    ·refine⟨[],t,true,(DZ _ _ _).trans ?_,by rw[Tm.Nl,D5 h1,C8 h2];rfl⟩;have cd0:Y5 (Lg s xs v) 0=some (.str s):=rfl;rw[EB];simp only[ee];simp[h1,h2,hS,cd0,Tm.M5,Tm.ag]
   ·by_cases h2:t.D6.length=0
    ·have Vj:t.D6=[]:=zaq h2;refine⟨[],t,true,(DZ _ _ _).trans ?_,?_⟩
     ·rw[EB];simp[h1,h2,Tm.M5,Tm.ag]
     ·rw[Tm.Nl,C8 h1,Vj,Tm.MP];simp only[zzq,H5];rw[<- Vj,Tm.fE]
    ·obtain⟨J,u,b,k1,k2⟩:=loop t.D6.length 0 t.D6 [] (by omega) rfl (λi _=>rfl);refine⟨J,u,b,(DZ _ _ _).trans ?_,?_⟩
     ·rw[EB];have WI:¬(t.D6.length:Int)=0:=by omega
      have M3:t.D6.length<=J9:=zGq ft.one.D6;simp only[I8,F4,Tm.AV,P6,F8,h1,R4,E9,z0q,F9,Tm.CK,N8,z1q,WI,A8s,BEq.rfl,zOq,M3,L8];exact k1
     ·rw[Tm.Nl,C8 h1,<- k2];simp
variable (t:Tm)
def B2L(v:Tm)(s:ByteArray)(xs:List Int)(hx:EG xs=true)(gG:xs.length<=J9)(fv:v.fit)(rv:v.right=true)(ft:t.fit)(rt:t.right=true):C9.p wU [t.A9,.str s,K6 xs,v.A9]=some (UX (t.Cv s xs v)):=by
 obtain⟨J,u,b,h1,h2⟩:=B5g s xs v hx gG fv rv t ft rt [.box (Lg s xs v)] rfl;refine(A28 _ _ _ _).trans ?_;rw[A5Y];have h1':C9.r JX [(.undef,.ptr 0 0),(t.A9,.val)] [H7.box [(.str s,.val),(K6 xs,.val),(A7 0 v.A9,.val),(A7 1 v.A9,.val),(A7 2 v.A9,.val),(A7 3 v.A9,.val),(A7 4 v.A9,.val),(A7 5 v.A9,.val),(A7 6 v.A9,.val),(A7 7 v.A9,.val),(A7 8 v.A9,.val),(A7 9 v.A9,.val),(A7 10 v.A9,.val),(A7 11 v.A9,.val),(A7 12 v.A9,.val),(A7 13 v.A9,.val),(A7 14 v.A9,.val),(A7 15 v.A9,.val),(A7 16 v.A9,.val),(A7 17 v.A9,.val),(A7 18 v.A9,.val),(A7 19 v.A9,.val)]]=some ([u.A9,.bool b],[.box (Lg s xs v)]++J):=by rw[<- h1];simp[Lg]
 have ic:J7 (K6 xs)=true:=rfl;simp only[Oo,I8,F4,iA,ic,h1',F8,K5,zkq,z8q,P9,E9,h2,iT];cases b<;>simp[UX]
def B0y(gG:xs.length<=J9)(v:Tm)(t:Tm):t.fit->t.right=true->C9.p WX [t.A9,.str s,iI xs.length]=some (.bool (t.Cv s xs v).isSome):=by
 induction t using Tm.ind with
 |h t ih=>
   intro ft rt;have hk:=big (zGq ft.one.D6);have loop:∀(n j:Nat),j+n=t.D6.length->GY C9 (.str s) (iI xs.length) (iI (j:Int)) t.A9=some (.bool (Tm.Eo t.binds j (t.D6.drop j) s xs v).isSome):=by
    intro n;induction n with
    |zero=>
      intro j hj;have e:j=t.D6.length:=by omega
      subst e;rw[VS,ztq,Tm.MP];simp only[Tm.CK t,N8,z1q,F8,J6,zTq,R4,E9,z0q,F9,zZq]
    |succ n ihn=>
      intro j hj;have h:j<t.D6.length:=by omega
      have vO:=Tm.A1Y ft.one j;have pG:=nD t ft.one j (λh14=>by have:=Tm.A3C rt h14;omega);have hct:=iO (t.binds j) (by omega) s;have C1A:Vi (t.binds j) s=(t.binds j).any λx=>decide (x=s):=rfl;have e1:F7 20 (.list 20 (t.D6.map Tm.A9)) (iI (j:Int))=some t.D6[j].A9:=J3 h;have e4:D7 .add (iI (j:Int)) (iI 1)=some (iI ((j+1:Nat):Int)):=O8 (show j<9223372036854775807 by omega);have f1:=ih _ (z6q h) (ft.kid (z6q h)) (Tm.M8 rt (z6q h));have nx:=ihn (j+1) (by omega);rw[z3q h,Tm.Oh,VS];rw[C1A]at hct;simp only[Oo];simp only[Tm.CK t,N8,z1q,F8,J6,zAq,h,L8,E9,H5,Oo,pG,hct,P9,J5,e1,f1,e4,nx];cases hb:(t.binds j).any λx=>decide (x=s)
      ·simp only[zgq,H5,z0q,F9]
       cases hp:t.D6[j].Cv s xs v with
       |none=>simp
       |some k'=>simp
      ·simp
   have main:=loop t.D6.length 0 (by omega);rw[zcq]at main;have c0:((0:Nat):Int)=0:=rfl;rw[c0]at main;refine(ul _ _ _).trans ?_;rw[zo,Tm.Nl]
   try simp only[Oo]
   simp only[I8,F4,Tm.AV t,Tm.EU t,Tm.Kw t,P6,F8,J5,main,N8,z1q]
   by_cases h1:t.A8=1
   ·have Vj:=Tm.B4c rt h1;have n1:D7 .eql (.str t.name) (.str s)=some (.bool (decide (t.name=s))):=by simp
    rw[Vj,Tm.MP];by_cases h2:t.name=s
    ·by_cases h3:t.args.length=xs.length
     ·have n2:D7 .neq (iI (t.args.length:Int)) (iI (xs.length:Int))=some (.bool false):=by rw[h3];simp
      simp[h1,h2,h3,n1,n2]
     ·have vM:¬(t.args.length:Int)=(xs.length:Int):=by omega
      simp[h1,h2,h3,vM,n1]
    ·simp[h1,h2,n1]
   ·simp only[h1,R4,z0q,F9,Option.isSome_map]
def A7m(gG:xs.length<=J9)(v:Tm)(fv:v.fit)(rv:v.right=true)(t:Tm):t.fit->t.right=true->∀u,t.Cv s xs v=some u->C9.p SA [t.A9,.str s,K6 xs,v.A9]=some u.A9:=by
 induction t using Tm.ind with
 |h t ih=>
   intro ft rt u hu;have hk:=big (zGq ft.one.D6);have loop:∀(n j:Nat)(A ks:List Tm),j+n=t.D6.length->A.length=j->Tm.Eo t.binds j (t.D6.drop j) s xs v=some ks->
    JZ C9 (.str s) (K6 xs) (.list 20 (A.map Tm.A9)) (iI (j:Int)) t.A9 v.A9 =
     some (t.V7 (A++ks)).A9:=by
    intro n;induction n with
    |zero=>
      intro j A ks hj hA hp;have e:j=t.D6.length:=by omega
      subst e;rw[ztq,Tm.MP]at hp;simp only[D9]at hp;subst hp;rw[RA,zxq];simp only[Tm.CK t,N8,z1q,F8,J6,zTq,R4,E9,z0q,F9];rw[<- Tm.nI];simp only[Tm.pj,I7]
    |succ n ihn=>
      intro j A ks hj hA hp;have h:j<t.D6.length:=by omega
      have vO:=Tm.A1Y ft.one j;have pG:=nD t ft.one j (λh14=>by have:=Tm.A3C rt h14;omega);have hct:=iO (t.binds j) (by omega) s;have C1A:Vi (t.binds j) s=(t.binds j).any λx=>decide (x=s):=rfl;have e1:F7 20 (.list 20 (t.D6.map Tm.A9)) (iI (j:Int))=some t.D6[j].A9:=J3 h;have e4:D7 .add (iI (j:Int)) (iI 1)=some (iI ((j+1:Nat):Int)):=O8 (show j<9223372036854775807 by omega);have hap:=λx:Tm=>Cs (e:=Tm.A9) (sz:=20) (l:=A) (x:=x) (by have:=ft.one.D6;omega);rw[z3q h,Tm.Oh]at hp;rw[C1A]at hct;rw[RA];simp only[Oo];simp only[Tm.CK t,N8,z1q,F8,J6,zAq,h,L8,E9,H5,Oo,pG,hct,e1,e4];cases hb:(t.binds j).any λx=>decide (x=s)
      ·rw[hb]at hp;simp only[z0q,F9]at hp ⊢;cases hk1:t.D6[j].Cv s xs v with
       |none=>rw[hk1]at hp;cases hp
       |some k'=>
         rw[hk1,zIq]at hp;cases hp2:Tm.Eo t.binds (j+1) (t.D6.drop (j+1)) s xs v with
         |none=>rw[hp2]at hp;cases hp
         |some m=>rw[hp2]at hp;simp only[zzq,D9]at hp;subst hp;have f1:=ih _ (z6q h) (ft.kid (z6q h)) (Tm.M8 rt (z6q h)) _ hk1;have nx:=ihn (j+1) (A++[k']) m (by omega) (by simp[hA]) hp2;rw[ziq]at nx;simp only[f1,F8,I8,F4,Oo,hap];exact nx
      ·rw[hb]at hp;simp only[H5,zIq]at hp ⊢;cases hp2:Tm.Eo t.binds (j+1) (t.D6.drop (j+1)) s xs v with
       |none=>rw[hp2]at hp;cases hp
       |some m=>rw[hp2]at hp;simp only[zzq,D9]at hp;subst hp;have nx:=ihn (j+1) (A++[t.D6[j]]) m (by omega) (by simp[hA]) hp2;rw[ziq]at nx;simp only[hap,F8];exact nx
   have out:∀ks,Tm.Eo t.binds 0 t.D6 s xs v=some ks->OH C9 (.str s) (K6 xs) t.A9 v.A9=some (t.V7 ks).A9:=by intro ks hp;rw[fP];have:=loop t.D6.length 0 [] ks (by omega) rfl (by rw[zcq];exact hp);exact this
   refine(kW _ _ _ _).trans ?_;rw[oH];rw[Tm.Nl]at hu;have n1:D7 .eql (.str t.name) (.str s)=some (.bool (decide (t.name=s))):=by simp
   try simp only[Oo]
   simp only[I8,F4,Tm.AV t,Tm.EU t,Tm.Kw t,P6,F8,J5,E9,n1,Oo]
   by_cases h1:t.A8=1
   ·rw[D5 h1]at hu;by_cases h2:t.name=s
    ·rw[D5 h2]at hu;by_cases h3:t.args.length=xs.length
     ·rw[D5 h3]at hu;simp only[D9]at hu;subst hu;have hB:=B44 xs t.args h3.symm gG;have hT:=B48 v fv rv (xs.zip t.args) (by rw[zQq];omega);simp only[h1,h2,L8,H5,hB,F8,hT,I8,F4,Oo]
     ·rw[C8 h3]at hu;cases hu
    ·rw[C8 h2]at hu;simp only[D9]at hu;subst hu;have Vj:=Tm.B4c rt h1;have:=out [] (by rw[Vj,Tm.MP]);simp only[h1,h2,L8,R4,H5,z0q,F9,this];rw[<- Vj,Tm.fE]
   ·rw[C8 h1]at hu;cases hp:Tm.Eo t.binds 0 t.D6 s xs v with
    |none=>rw[hp]at hu;cases hu
    |some ks=>rw[hp]at hu;simp only[zzq,D9]at hu;subst hu;simp only[h1,R4,z0q,F9];exact out ks hp
def B46(v:Tm)(s:ByteArray)(xs:List Int)(gG:xs.length<=J9)(ft:t.fit)(fv:v.fit)(hv:2 * v.Q3<=J9)(hs:s.size<=4294967000):
 C9.p A1q [t.A9,.str s,K6 xs,v.A9]=some (if t.right=true/\v.right=true/\Dt s=true/\v.free=[]/\EG xs=true then UX (t.Cv s xs v)else .I4 [A4b.A9,iI 1]):=by
 have hb:=big gG;refine(A59 _ _ _ _).trans ?_;rw[A8D];simp only[Oo,I8,F4,Kz t ft,Kz v fv,F8,P9,J5,iT,aU s hs];cases h1:t.right
 ·simp
 cases h2:v.right
 ·simp
 cases h3:Dt s
 ·simp
 have hF:=rX v fv h2 hv;by_cases h4:v.free=[]
 ·have loop:∀(n j:Nat),j+n=xs.length->Wy C9 (.str s) (K6 xs) (iI (j:Int)) t.A9 v.A9 =
   some (if EG (xs.drop j)=true then UX (t.Cv s xs v)else .I4 [A4b.A9,iI 1]):=by
   intro n;induction n with
   |zero=>
     intro j hj;have e:j=xs.length:=by omega
     subst e;rw[ztq];have r0:EG []=true:=rfl;have hc:=B0y s xs gG v t ft h1;rw[dZ];simp only[Gx,J6,zTq,R4,F8,E9,z0q,F9,Oo,hc,r0,H5,P9,iT];cases hp:t.Cv s xs v with
     |none=>simp[UX]
     |some u=>have hr:=A7m s xs gG v fv h2 t ft h1 u hp;simp only[zZq,z5q,z0q,F9,hr,F8,I8,F4,Oo,UX]
   |succ n ih=>
     intro j hj;have h:j<xs.length:=by omega
     have e1:=Bg (k:=.i64) h;have il:M7 (iI xs[j])=true:=rfl;have e4:D7 .add (iI (j:Int)) (iI 1)=some (iI ((j+1:Nat):Int)):=O8 (show j<9223372036854775807 by omega);have hd:EG (xs.drop j)=((decide (0<=xs[j])&&decide (xs[j]<=1048576))&&EG (xs.drop (j+1))):=by rw[z3q h];rfl
     rw[hd,dZ];simp only[Gx,J6,zAq,h,L8,F8,E9,H5,e1,il,F4,Ah,J5,iT,F5]
     by_cases a1:xs[j]<0
     ·have a1':¬(0<=xs[j]):=by omega
      simp[a1,a1']
     ·have a1':0<=xs[j]:=by omega
      by_cases a2:1048576<xs[j]
      ·have a2':¬(xs[j]<=1048576):=by omega
       simp[a1,a1',a2,a2']
      ·have a2':xs[j]<=1048576:=by omega
       simp only[a1,a1',a2,a2',L8,zOq,F9,e4];exact ih (j+1) (by omega)
  have l0:=loop xs.length 0 (by omega);rw[zcq]at l0;have c:((0:Nat):Int)=0:=rfl;rw[c]at l0;have z:¬((0:Int)<0):=by omega
  have dz:L6 (N7 [])=some (iI 0):=rfl;simp only[hF,h4,F8,Ah,z5q,z0q,F9,dz,z,R4,E9,l0];cases EG xs<;>simp
 ·have:0<v.free.length:=zsq.2 h4;simp[hF,h4,this]
end Go.Su

/-
 The calculus: puts; arms of a match: the program's, the document's.
-/
namespace Go.Su
set_option linter.defProp false
theorem B15:A4b=Pz:=rfl
variable {s:ByteArray}{xs:List Int}
theorem aT{t v:Tm}(hx:EG xs=true)(gG:xs.length<=J9)(bt:QB t)(bv:QB v):C9.p Rz [t.A9,.str s,K6 xs,v.A9]=some (He t s xs v).A9:=by
 refine(A2I _ _ _ _).trans ?_;rw[A5A];simp only[I8,F4,U5,B2L t v s xs hx gG (QB.fit v bv) bv.r (QB.fit t bt) bt.r,J4];unfold He;cases t.Cv s xs v with
 |none=>simp only[UX,B15,Ct,Cu,J4,I8,F4,Z6,Int.reduceEq,R4,zgq,E9,H5,Lh,SR.J_]
 |some u=>simp only[UX,Ct,Cu,J4,I8,F4,Z6,L8,z5q,E9,z0q,F9,U5,Cw];rfl
theorem iP{t v:Tm}(hx:EG xs=true)(gG:xs.length<=J9)(hn:Dt s=true)(bt:QB t)(bv:QT v)(hv:2 * v.Q3<=J9):C9.p Vt [t.A9,.str s,K6 xs,v.A9]=some (He t s xs v).A9:=by
 refine(A6d _ _ _ _).trans ?_;have hs:=B1u hn;rw[A8H];simp only[I8,F4,U5,B46 t v s xs gG (QB.fit t bt) (QB.fit v bv.toQB) hv (by omega),J4]
 rw[D5 ⟨bt.r,bv.r,hn,bv.f,hx⟩];unfold He;cases t.Cv s xs v with
 |none=>simp only[UX,B15,Ct,Cu,J4,I8,F4,Z6,Int.reduceEq,R4,zgq,E9,H5,KJ,Q5,rsE,BK];rfl
 |some u=>simp only[UX,Ct,Cu,J4,I8,F4,Z6,L8,z5q,E9,z0q,F9,U5,Cw];rfl
def C0f{Tq:Ty->Prop}{Q:Tm->Prop}(C:CQ2 Tq Q){B:Nat}{v:Tm}(hq:Q v)(hv:v.L9=true)(bd:WP B v)(i2:v.K4.A8=6\/v.K4.A8=8){a b:Tm}(EO:Bn v.O6 v.K4=.ok a b):(Q a/\a.L9=true/\WP B a)/\Q b/\b.L9=true/\WP B b:=by
 obtain⟨ch,qi,vi,ki⟩:=C.O6 v hq hv;have ri:=C.r _ qi;have il:=Tm.EF ri (by omega);obtain⟨q0,q1⟩:=C.k2 _ qi i2;have YR:(v.K4.kd 0).L9=true/\(v.K4.kd 1).L9=true:=by rw[Tm.FY,C8 (by omega),D5 i2,all2 il,z2q]at vi;exact vi
 have g0:=MN C.toCQ (i:=0) (λy=>C.pt y 0 (by omega)) (A8:=if v.K4.A8=8 then 8 else 7) (λy h k=>YE h (by rw[k];split<;>simp) 0 (by omega)) v.O6 ch _ q0 YR.1;have g1:=MN C.toCQ (i:=1) (λy=>C.pt y 1 (by omega)) (A8:=if v.K4.A8=8 then 8 else 7) (λy h k=>YE h (by rw[k];split<;>simp) 1 (by omega)) v.O6 ch _ q1 YR.2;unfold Bn at EO;cases h0:Bo (if v.K4.A8=8 then 8 else 7) 0 v.O6 (v.K4.kd 0)with
 |fin r=>rw[h0]at EO;cases EO
 |ok x=>
   rw[h0]at EO g0;simp only at EO;cases h1:Bo (if v.K4.A8=8 then 8 else 7) 1 v.O6 (v.K4.kd 1)with
   |fin r=>rw[h1]at EO;cases EO
   |ok y=>rw[h1]at EO g1;cases EO;exact⟨⟨g0.2.1,g0.1,bd.part (Tm.U4 (by omega)) (Tm.AX ri (by omega)) g0.2.2⟩,g1.2.1,g1.1,bd.part (Tm.U4 (by omega)) (Tm.AX ri (by omega)) g1.2.2⟩
def E8.B1t{Tq:Ty->Prop}{Q:Tm->Prop}(C:CQ2 Tq Q){B:Nat}(p:E8):p.pat=true->∀(v:Tm),Q v->v.L9=true->WP B v->∀m,p.AU v=.ok m->∀c∈m,WP B c.2/\Dt c.1=true:=by
 induction p using E8.ind with
 |h p ih=>
   intro hp v hq hv bd m h;rw[E8.Vl p v (E8.Gl hp)]at h;by_cases k1:p.A8=1
   ·rw[D5 k1]at h;cases h;simp
   rw[C8 k1]at h;by_cases k2:p.A8=2
   ·rw[D5 k2]at h;cases h;have o:p.one=true:=by rw[E8.Ra,z2q]at hp;exact hp.1
    unfold E8.one at o;simp[k2]at o;intro c hc;rw[zVq.1 hc];exact⟨bd,o.1.1.1⟩
   rw[C8 k2]at h;by_cases hg:v.A8=16/\v.b.A8=5\/v.K4.A8≠p.A8-1
   ·rw[D5 hg]at h;cases h
   rw[C8 hg]at h;by_cases hk:p.A8=7\/p.A8=9
   ·rw[D5 hk]at h;have l2:=E8.Gl hp hk;have vk:v.K4.A8=p.A8-1:=Classical.byContradiction λh=>hg (.inr h);cases Ip:Bn v.O6 v.K4 with
    |fin r'=>rw[Ip]at h;cases h
    |ok a b=>
      rw[Ip]at h;have m0:=E8.JM (show 0<p.D6.length by omega);have m1:=E8.JM (show 1<p.D6.length by omega);obtain⟨⟨a1,a2,a3⟩,b1,b2,b3⟩:=C0f C hq hv bd (by omega) Ip;obtain⟨l,h1,h2⟩:=FR.A9Q h;obtain⟨q,h3,rfl⟩:=FR.B4s h2;intro c hc;rcases zDq.1 hc with hc | hc
      ·exact ih _ m0 (E8.Eb hp m0) a a1 a2 a3 l h1 c hc
      ·exact ih _ m1 (E8.Eb hp m1) b b1 b2 b3 q h3 c hc
   ·rw[C8 hk]at h;split at h
    ·cases h
    ·cases h;simp
variable (c:ER)
def tcE:DV.agg [A7 1 (BI c),A7 2 (BI c),A7 3 (BI c),A7 4 (BI c),A7 5 (BI c),A7 6 (BI c),A7 7 (BI c),A7 8 (BI c),A7 9 (BI c),A7 10 (BI c),A7 11 (BI c),A7 12 (BI c),A7 13 (BI c),A7 14 (BI c),A7 15 (BI c),A7 16 (BI c),A7 17 (BI c),A7 18 (BI c),A7 19 (BI c),A7 20 (BI c)]=c.2.A9:=U5 c.2
theorem tc0:A7 0 (BI c)=.str c.1:=rfl
variable (l:List ER)
noncomputable def m11(j:Nat)(x:Tm)(sg:List H7):Option DV:=KZ C9 (.list 21 (l.map BI)) (iI (l.length:Int)) (iI (j:Int)) x.A9 sg
noncomputable def m10(j:Nat)(x:Tm)(sg:List H7):Option DV:=Kc C9 (.list 21 (l.map BI)) (iI (j:Int)) x.A9 sg
def B0i{l:List ER}(hl:l.length<=J9)(hq:∀c∈l,QT c.2)(sg:List H7):∀(n j:Nat)(x:Tm),j+n=l.length->QB x->m11 l j x sg=some (M_ (l.drop j) x).A9
 |0,j,x,hj,hx=>by unfold m11;rw[TZ];simp only[J6,J4,E9,F5];rw[C8 (by omega),zbq (by omega),M_];simp only[U5,Cw];rfl
 |n+1,j,x,hj,hx=>by
   have h:j<l.length:=by omega
   have hb:=big hl;have qc:=hq _ (z6q h);have e:m11 l j x sg=(He x l[j].1 [] l[j].2).fold (λy=>m11 l (j+1) y sg) λr=>some (SR.fin r).A9:=by
    unfold m11;rw[TZ];simp only[J6,J4,E9,F5];rw[D5 (by omega),J3 h];simp only[J4,tcE,tc0,U5,show(DV.list 1 [])=K6 []from rfl,aT (xs:=[]) rfl (by decide) hx qc.toQB,SR.mM,SR.mO]
    have ge:=SR.ends.good (WM x l[j].1 [] l[j].2);cases hp:He x l[j].1 [] l[j].2 with
    |fin r=>
      rw[hp]at ge;simp only[I8,Q5,F4,Nz,J4,E9,z4q,Q8,show K6 []=(DV.list 1 [])from rfl]
      rw[D5 (show ¬r.A8=0 from ge)];(try rw[rsE]);(try rw[BK]);rfl
    |ok y=>
      simp only[I8,Q5,F4,Nz,show(Bc 0).A8=0 from rfl,J4,E9,L8,z5q,z0q,F9,Ag]
      rw[X7 (by omega) (by omega)];rfl
   rw[e,z3q h,M_];cases hp:He x l[j].1 [] l[j].2 with
   |fin r=>rfl
   |ok y=>
     have hy:QB y:=by
      unfold He at hp;cases hpv:x.Cv l[j].1 [] l[j].2 with
      |none=>rw[hpv]at hp;cases hp
      |some z=>rw[hpv]at hp;cases hp;exact(A3K hx qc hpv).1
     exact B0i hl hq sg n (j+1) y (by omega) hy
def B0h{l:List ER}(hl:l.length<=J9)(hq:∀c∈l,QT c.2/\Dt c.1=true/\2 * c.2.Q3<=J9)(sg:List H7):∀(n j:Nat)(x:Tm),j+n=l.length->QB x->m10 l j x sg=some (M_ (l.drop j) x).A9
 |0,j,x,hj,hx=>by unfold m10;rw[Tg];simp only[N8,z1q,J6,J4,E9,F5];rw[C8 (by omega),zbq (by omega),M_];simp only[U5,Cw];rfl
 |n+1,j,x,hj,hx=>by
   have h:j<l.length:=by omega
   have hb:=big hl;obtain⟨qc,nc,mc⟩:=hq _ (z6q h);have e:m10 l j x sg=(He x l[j].1 [] l[j].2).fold (λy=>m10 l (j+1) y sg) λr=>some (SR.fin r).A9:=by
    unfold m10;rw[Tg];simp only[N8,z1q,J6,J4,E9,F5];rw[D5 (by omega),J3 h];simp only[J4,tcE,tc0,U5,show(DV.list 1 [])=K6 []from rfl,iP (xs:=[]) rfl (by decide) nc hx qc mc,SR.mM,SR.mO]
    have ge:=SR.ends.good (WM x l[j].1 [] l[j].2);cases hp:He x l[j].1 [] l[j].2 with
    |fin r=>
      rw[hp]at ge;simp only[I8,Q5,F4,Nz,J4,E9,z4q,Q8,show K6 []=(DV.list 1 [])from rfl]
      rw[D5 (show ¬r.A8=0 from ge)];(try rw[rsE]);(try simp only[U5]);rfl
    |ok y=>
      simp only[I8,Q5,F4,Nz,show(Bc 0).A8=0 from rfl,J4,E9,L8,z5q,z0q,F9,Ag]
      rw[X7 (by omega) (by omega)];rfl
   rw[e,z3q h,M_];cases hp:He x l[j].1 [] l[j].2 with
   |fin r=>rfl
   |ok y=>
     have hy:QB y:=by
      unfold He at hp;cases hpv:x.Cv l[j].1 [] l[j].2 with
      |none=>rw[hpv]at hp;cases hp
      |some z=>rw[hpv]at hp;cases hp;exact(A3K hx qc hpv).1
     exact B0h hl hq sg n (j+1) y (by omega) hy
end Go.Su

/-
 The calculus: matches: the program's, the document's.
-/
namespace Go.Su
set_option linter.unusedSectionVars false
noncomputable section
def C26:List (DV×H6):=(((.list 21 []),H6.full)::(zz4 []))
variable (sg:List H7)
theorem TB.new:TB (sg++[.box C26]) sg.length [] (Bc 0):=by refine⟨C26,?_,rfl,rfl,rfl⟩;unfold Q7;rw[List.getElem?_append_right (zKq _),Nat.sub_self];rfl
variable {cs:List (DV×H6)}
theorem C0l{r:GZ}(h:Dj 1 15 cs=some (rcs r)):Y5 cs 1=some (iI r.A8):=by
 rw[Dj]at h;cases hc:Y5 cs 1 with
 |none=>rw[hc]at h;cases h
 |some d=>
   rw[hc]at h;simp only[J4]at h;cases hs:Dj (1+1) 14 cs with
   |none=>rw[hs]at h;cases h
   |some ds=>rw[hs]at h;simp only[J4,D9]at h;have:=(List.cons.inj h).1;rw[this];rfl
theorem B60{i:Nat}{d:DV}(h:Ld cs i=some d):Y5 cs i=some d:=by
 unfold Ld at h;unfold Y5;split at h
 ·rename_i e;rw[e];exact h
 ·rename_i e;rw[e];exact h
 ·cases h
theorem C6u(r:GZ):DV.agg (rcs r)=r.A9:=rfl
theorem B8j{t:Tm}{i:Nat}(h:i<t.H8.length):F7 7 (A7 18 t.A9) (iI (i:Int))=some t.H8[i].A9:=by rw[Tm.A9l,J3 h]
variable (t:Tm)
theorem B8i:L6 (A7 18 t.A9)=some (iI (t.H8.length:Int)):=by rw[Tm.A9l,N8,z1q]
variable (i:Nat)
def m2:Option DV:=Wo C9 (A7 18 t.A9) (iI (t.H8.length:Int)) (iI (i:Int)) t.A9
def m2b(sg:List H7):Option DV:=OB C9 (A7 18 t.A9) (iI (t.H8.length:Int)) (iI (i:Int)) t.A9 sg
def c2:Option DV:=W_ C9 (iI (i:Int)) t.A9
def c2b(sg:List H7):Option DV:=OL C9 (iI (i:Int)) t.A9 sg
theorem B7o(k:Int)(t:Tm):DV.agg ((iI k)::(qI [iI 0,.bool false,A7 1 t.A9,A7 2 t.A9,iI 0]))=(atR k t.lo t.hi).A9:=by rw[Tm.Ju,Tm.En];rfl
section
variable {t:Tm}(ht:QT t)(k:t.A8=14)(hz:t.size<=1200)(hv:(t.kd 0).L9=true)
include ht k hz hv
theorem Vv:QT (t.kd 0)/\WP 1200 (t.kd 0)/\t.D6.length=t.H8.length+1/\t.H8.length<=1048576/\∀i (h:i<t.H8.length),t.H8[i].pat=true/\t.H8[i].size<=1048576:=by have hl:=Tm.A67 ht.r k;have q0:QT (t.kd 0):=ht.kid (by omega) (Tm.ML (i:=0) (by rw[k];decide)).1;have z0:=Tm.Ec (Tm.U4 (t:=t) (i:=0) (by omega));have ho:=ht.e.one.1;unfold Own at ho;refine⟨q0,WP.of q0.r (by omega),hl,by omega,λi h=>⟨Tm.Oi ht.r _ (z6q h),?_⟩⟩;have:=JN (f:=E8.Q3) (z6q h);have:=t.H8[i].Rm;omega
theorem B6S:∀(n i:Nat)(sg:List H7),i+n=t.H8.length->m2b t i sg=some (FM t (t.kd 0) i (t.H8.drop i)).A9
 |0,i,sg,hi=>by have bb:t.H8.length<=1048576:=(Vv ht k hz hv).2.2.2.1;unfold m2b;rw[Ta];simp only[J6,J4,E9,F5];rw[C8 (by omega),zbq (by omega),FM,BK,B7o];rfl
 |n+1,i,sg,hi=>by
   obtain⟨q0,b0,hl,pl,pp⟩:=Vv ht k hz hv;have h:i<t.H8.length:=by omega
   obtain⟨p1,p2⟩:=pp i h;have hk:i+1<t.D6.length:=by omega
   unfold m2b;rw[Ta];simp only[J6,J4,E9,F5];rw[D5 (by omega),B8j h,x0 (by omega)];simp only[J4,U5,B0m];have tb:=TB.new sg;obtain⟨sg',l',f1,f2,f3⟩:=A6H tJ (B:=1200) (by decide) t.H8[i] p1 (t.kd 0) q0 hv b0 [] _ _ tb (by simp only[z9q];unfold J9;omega);obtain⟨cs,g1,g2,g3,g4⟩:=f2.h;rw[show C9.r CO [(DV.undef,H6.ptr sg.length 0),(t.H8[i].A9,.val),((t.kd 0).A9,.val)] (sg++[.box (((.list 21 []),H6.full)::(zz4 []))])=some ([.bool (t.H8[i].AU (t.kd 0)).Tu],sg')from f1];simp only[J4,show Q7 sg' sg.length=some cs from g1,C0l g4,g4,B60 g3,C6u,Z6,E9,P9,z7q,Q5,F4,rsE,BK]
   rw[z3q h,FM];cases hm:t.H8[i].AU (t.kd 0)with
   |fin r=>have ne:=(YF _ p1 _ r hm).ne0;rw[show((FR.fin r).res.A8)=r.A8 from rfl,D5 (show(!decide (r.A8=0))=true by simp[ne])];rfl
   |no=>
     rw[show(FR.no.res.A8)=0 from rfl];simp only[L8,z5q,z0q,F9,show FR.no.Tu=false from rfl,zgq,H5,Ag]
     rw[X7 (by omega) (by omega)];exact B6S n (i+1) sg' (by omega)
   |ok m=>
     obtain⟨mo,ml⟩:=(E8.Vm tJ _ p1 _ q0 hv).1 m hm;rw[hm]at f3;have e:l'=m:=by simpa[FR.cells]using f3 rfl
     rw[show((FR.ok m).res.A8)=0 from rfl];simp only[L8,z5q,z0q,F9,show(FR.ok m).Tu=true from rfl,Ag]
     rw[X7 (by omega) (by omega),show((i:Int)+1)=((i+1:Nat):Int)by omega];simp only[J4];rw[xI hk,e];simp only[J4,N8,z1q];exact B0i (by unfold J9;omega) (λc hc=>(mo c hc).1) sg' m.length 0 _ (by omega) (ht.toQB.kid (Tm.U4 hk))
theorem C53(h0:0<t.H8.length):m2 t 0=some (FM t (t.kd 0) 0 t.H8).A9:=by
 have ex:∃(i:Nat)(sg:List H7)(n:Nat),i=0/\sg=[]/\i+(n+1)=t.H8.length:=⟨0,[],t.H8.length-1,rfl,rfl,by omega⟩;obtain⟨i,sg,n,i0,s0,hi⟩:=ex;rw[show m2 t 0=m2 t i by rw[i0],show FM t (t.kd 0) 0 t.H8=FM t (t.kd 0) i (t.H8.drop i)by rw[i0,zcq]];obtain⟨q0,b0,hl,pl,pp⟩:=Vv ht k hz hv;have h:i<t.H8.length:=by omega
 obtain⟨p1,p2⟩:=pp i h;have hk:i+1<t.D6.length:=by omega
 unfold m2;rw[jw];simp only[J6,J4,E9,F5];rw[D5 (by omega),B8j h,x0 (by omega)];simp only[J4,U5,B0m];have tb:=TB.new ([]:List H7);obtain⟨sg',l',f1,f2,f3⟩:=A6H tJ (B:=1200) (by decide) t.H8[i] p1 (t.kd 0) q0 hv b0 [] _ _ tb (by simp only[z9q];unfold J9;omega);obtain⟨cs,g1,g2,g3,g4⟩:=f2.h;rw[show C9.r CO [(DV.undef,H6.ptr 0 0),(t.H8[i].A9,.val),((t.kd 0).A9,.val)] ([.box (((.list 21 []),H6.full)::(zz4 []))])=some ([.bool (t.H8[i].AU (t.kd 0)).Tu],sg')from f1];simp only[J4,show Q7 sg' 0=some cs from g1,C0l g4,g4,B60 g3,C6u,Z6,E9,P9,z7q,Q5,F4,rsE,BK]
 rw[z3q h,FM];cases hm:t.H8[i].AU (t.kd 0)with
 |fin r=>have ne:=(YF _ p1 _ r hm).ne0;rw[show((FR.fin r).res.A8)=r.A8 from rfl,D5 (show(!decide (r.A8=0))=true by simp[ne])];rfl
 |no=>
   rw[show(FR.no.res.A8)=0 from rfl];simp only[L8,z5q,z0q,F9,show FR.no.Tu=false from rfl,zgq,H5,Ag]
   rw[X7 (by omega) (by omega)];exact B6S ht k hz hv n (i+1) sg' (by omega)
 |ok m=>
   obtain⟨mo,ml⟩:=(E8.Vm tJ _ p1 _ q0 hv).1 m hm;rw[hm]at f3;have e:l'=m:=by simpa[FR.cells]using f3 rfl
   rw[show((FR.ok m).res.A8)=0 from rfl];simp only[L8,z5q,z0q,F9,show(FR.ok m).Tu=true from rfl,Ag]
   rw[X7 (by omega) (by omega),show((i:Int)+1)=((i+1:Nat):Int)by omega];simp only[J4];rw[xI hk,e];simp only[J4,N8,z1q];exact B0i (by unfold J9;omega) (λc hc=>(mo c hc).1) sg' m.length 0 _ (by omega) (ht.toQB.kid (Tm.U4 hk))
theorem B6A:∀(n i:Nat)(sg:List H7),i+n=t.H8.length->c2b t i sg=some (FM t (t.kd 0) i (t.H8.drop i)).A9
 |0,i,sg,hi=>by have bb:t.H8.length<=1048576:=(Vv ht k hz hv).2.2.2.1;unfold c2b;rw[Tk];simp only[B8i,J6,J4,E9,F5];rw[C8 (by omega),zbq (by omega),FM,BK,B7o];rfl
 |n+1,i,sg,hi=>by
   obtain⟨q0,b0,hl,pl,pp⟩:=Vv ht k hz hv;have h:i<t.H8.length:=by omega
   obtain⟨p1,p2⟩:=pp i h;have hk:i+1<t.D6.length:=by omega
   unfold c2b;rw[Tk];simp only[B8i,J6,J4,E9,F5];rw[D5 (by omega),B8j h,x0 (by omega)];simp only[J4,U5,B0m];obtain⟨X,f1,f2⟩:=A6I tJ (B:=1200) (by decide) t.H8[i] p1 (t.kd 0) q0 hv b0 [] sg (by simp only[z9q];unfold J9;omega);rw[show C9.r Ll [(t.H8[i].A9,.val),((t.kd 0).A9,.val),(.list 21 [],.own)] sg=_ from f1];simp only[J4,Ct,Cu,A4k,Nz,E9,P9,Q5,F4,rsE,BK];rw[z3q h,FM];cases hm:t.H8[i].AU (t.kd 0)with
   |fin r=>have ne:=(YF _ p1 _ r hm).ne0;rw[show((FR.fin r).res.A8)=r.A8 from rfl,D5 (show(!decide (r.A8=0))=true by simp[ne])];rfl
   |no=>
     rw[show(FR.no.res.A8)=0 from rfl];simp only[L8,z5q,z0q,F9,show FR.no.Tu=false from rfl,zgq,H5,Ag]
     rw[X7 (by omega) (by omega)];exact B6A n (i+1) sg (by omega)
   |ok m=>
     obtain⟨mo,ml⟩:=(E8.Vm tJ _ p1 _ q0 hv).1 m hm;have mb:=E8.B1t tJ _ p1 _ q0 hv b0 m hm;rw[hm]at f2;have e:X=.list 21 (m.map BI):=by simpa[FR.cells]using f2 rfl
     rw[show((FR.ok m).res.A8)=0 from rfl];simp only[L8,z5q,z0q,F9,show(FR.ok m).Tu=true from rfl,Ag]
     rw[X7 (by omega) (by omega),show((i:Int)+1)=((i+1:Nat):Int)by omega];simp only[J4];rw[xI hk,e];simp only[J4];exact B0h (by unfold J9;omega) (λc hc=>⟨(mo c hc).1,(mb c hc).2,by have:=(mo c hc).1.toQB.B3h (mb c hc).1;unfold J9;omega⟩) sg m.length 0 _ (by omega) (ht.toQB.kid (Tm.U4 hk))
theorem C5d(h0:0<t.H8.length):c2 t 0=some (FM t (t.kd 0) 0 t.H8).A9:=by
 have ex:∃(i:Nat)(sg:List H7)(n:Nat),i=0/\sg=[]/\i+(n+1)=t.H8.length:=⟨0,[],t.H8.length-1,rfl,rfl,by omega⟩;obtain⟨i,sg,n,i0,s0,hi⟩:=ex;rw[show c2 t 0=c2 t i by rw[i0],show FM t (t.kd 0) 0 t.H8=FM t (t.kd 0) i (t.H8.drop i)by rw[i0,zcq]];obtain⟨q0,b0,hl,pl,pp⟩:=Vv ht k hz hv;have h:i<t.H8.length:=by omega
 obtain⟨p1,p2⟩:=pp i h;have hk:i+1<t.D6.length:=by omega
 unfold c2;rw[kD];simp only[B8i,J6,J4,E9,F5];rw[D5 (by omega),B8j h,x0 (by omega)];simp only[J4,U5,B0m];obtain⟨X,f1,f2⟩:=A6I tJ (B:=1200) (by decide) t.H8[i] p1 (t.kd 0) q0 hv b0 [] [] (by simp only[z9q];unfold J9;omega);rw[show C9.r Ll [(t.H8[i].A9,.val),((t.kd 0).A9,.val),(.list 21 [],.own)] []=_ from f1];simp only[J4,Ct,Cu,A4k,Nz,E9,P9,Q5,F4,rsE,BK];rw[z3q h,FM];cases hm:t.H8[i].AU (t.kd 0)with
 |fin r=>have ne:=(YF _ p1 _ r hm).ne0;rw[show((FR.fin r).res.A8)=r.A8 from rfl,D5 (show(!decide (r.A8=0))=true by simp[ne])];rfl
 |no=>
   rw[show(FR.no.res.A8)=0 from rfl];simp only[L8,z5q,z0q,F9,show FR.no.Tu=false from rfl,zgq,H5,Ag]
   rw[X7 (by omega) (by omega)];exact B6A ht k hz hv n (i+1) [] (by omega)
 |ok m=>
   obtain⟨mo,ml⟩:=(E8.Vm tJ _ p1 _ q0 hv).1 m hm;have mb:=E8.B1t tJ _ p1 _ q0 hv b0 m hm;rw[hm]at f2;have e:X=.list 21 (m.map BI):=by simpa[FR.cells]using f2 rfl
   rw[show((FR.ok m).res.A8)=0 from rfl];simp only[L8,z5q,z0q,F9,show(FR.ok m).Tu=true from rfl,Ag]
   rw[X7 (by omega) (by omega),show((i:Int)+1)=((i+1:Nat):Int)by omega];simp only[J4];rw[xI hk,e];simp only[J4];exact B0h (by unfold J9;omega) (λc hc=>⟨(mo c hc).1,(mb c hc).2,by have:=(mo c hc).1.toQB.B3h (mb c hc).1;unfold J9;omega⟩) [] m.length 0 _ (by omega) (ht.toQB.kid (Tm.U4 hk))
theorem B2r:C9.p jB [t.A9]=some (FM t (t.kd 0) 0 t.H8).A9:=by
 have h0:0<t.H8.length:=by have o:=Tm.Z4 ht.r;unfold Tm.one Cy at o;simp[k]at o;exact o.1.1.1.1.1.1
 refine(uV _).trans ?_;rw[zY];simp only[I8,F4,B8i,J4];exact C53 ht k hz hv h0
theorem B2F:C9.p jE [t.A9]=some (FM t (t.kd 0) 0 t.H8).A9:=by
 have h0:0<t.H8.length:=by have o:=Tm.Z4 ht.r;unfold Tm.one Cy at o;simp[k]at o;exact o.1.1.1.1.1.1
 refine(um _).trans ?_;rw[zw];simp only[I8,F4];exact C5d ht k hz hv h0
end
end
end Go.Su

/-
 The calculus: the other steps at a term's head.
-/
namespace Go.Su
set_option linter.defProp false
theorem C49(f w:Tm):DV.agg ((iI 10)::(Qe (cZ (Ue [.list 20 [f.A9,w.A9]]))))=(Tm.mk 10 0 0 S9 S9 0 S9 0 0 false [] O5 O5 [] [] [f,w]).A9:=by rw[Tm.K9 (Tm.mk ..)];rfl
theorem C8T(f:Tm)(n q:Bool)(a b:Ty)(v:Tm):DV.agg [A7 0 (J8 f n a b v).A9,A7 1 (J8 f n a b v).A9,A7 2 (J8 f n a b v).A9,A7 3 (J8 f n a b v).A9,A7 4 (J8 f n a b v).A9,A7 5 (J8 f n a b v).A9,A7 6 (J8 f n a b v).A9,A7 7 (J8 f n a b v).A9,A7 8 (J8 f n a b v).A9,.bool q,A7 10 (J8 f n a b v).A9,A7 11 (J8 f n a b v).A9,A7 12 (J8 f n a b v).A9,A7 13 (J8 f n a b v).A9,A7 14 (J8 f n a b v).A9,A7 15 (J8 f n a b v).A9,A7 16 (J8 f n a b v).A9,A7 17 (J8 f n a b v).A9,A7 18 (J8 f n a b v).A9,A7 19 (J8 f n a b v).A9]=(J8 f q a b v).A9:=by rw[Tm.K9 (J8 f q a b v),Tm.K9 (J8 f n a b v)];rfl
variable (t:Tm)
theorem C5F(k:Tm):DV.agg ((iI 9)::(iI 0)::(iI 0)::(A7 4 t.A9)::(.str ⟨#[]⟩)::(cZ (zz9 ((A7 11 t.A9)::(A7 12 t.A9)::(A7 13 t.A9)::(Bz [.list 3 [],.list 7 [],.list 20 [k.A9]])))))=(Tm.mk 9 0 0 t.arg S9 0 S9 0 0 false [] t.a O5 [] [] [k]).A9:=by rw[Tm.K9 (Tm.mk ..)];simp only[Tm.Qc,Tm.UW,Tm.A9k,Tm.mR];rfl
theorem C6x(k:Tm):DV.agg ((iI 12)::(iI 0)::(iI 0)::(A7 3 t.A9)::(A7 4 t.A9)::(cZ (zz9 [A7 11 t.A9,A7 12 t.A9,A7 13 t.A9,A7 14 t.A9,A7 15 t.A9,A7 16 t.A9,.list 3 [],.list 7 [],.list 20 [k.A9,k.A9]])))=(Tm.mk 12 0 0 t.name t.arg 0 S9 0 0 false [] t.a t.b [] [] [k,k]).A9:=by rw[Tm.K9 (Tm.mk ..)];simp only[Tm.pj,I7];rfl
variable (k:Int)
theorem A3I(n:Int):DV.agg ((iI k)::(Qe ((iI n)::(.str ⟨#[]⟩)::(iI 0)::(Ue [.list 20 []]))))=(YH k n).A9:=by rw[Tm.K9];rfl
theorem B9e:J7 (A7 3 t.A9)=true:=by rw[Tm.EU];rfl
theorem A8k:J7 (A7 4 t.A9)=true:=by rw[Tm.Qc];rfl
def naq:D7 .eql (A7 3 t.A9) (A7 4 t.A9)=some (.bool (decide (t.name=t.arg))):=by rw[Tm.EU,Tm.Qc,Lx]
def nan:D7 .neq (A7 3 t.A9) (A7 4 t.A9)=some (.bool (!decide (t.name=t.arg))):=by rw[Tm.EU,Tm.Qc,A16]
def opq:D7 .eql (A7 7 t.A9) (iI k)=some (.bool (decide (t.op=k))):=by rw[Tm.pY,P6]
def opg:D7 .geq (A7 7 t.A9) (iI k)=some (.bool (decide (k<=t.op))):=by rw[Tm.pY,Ki]
variable {t:Tm}
def QT.yu(h:QB t):t.vars.length<=J9:=by have:=(QB.fit t h).one.vars;omega
def QT.A68(h:t.right=true)(k:t.A8=9\/t.A8=11\/t.A8=12):Dt t.name=true:=by have o:=Tm.Z4 h;unfold Tm.one Ap U2 at o;simp[show t.A8=1\/t.A8=9\/t.A8=11\/t.A8=12 by omega]at o;exact o.1.1.1.1.2
def B3f{f:Tm}(hf:QT f)(k16:f.A8=16)(ka:f.a.A8=9)(kb:f.b.A8=9):f.a.D6.length=2/\f.b.D6.length=2/\f.D6.length=1:=by
 obtain⟨ra,rb,l0,l1⟩:=Tm.BG hf.r k16;refine⟨?_,?_,Tm.B_ hf.r (.inr k16)⟩
 ·have:=Ty.Bv ra;rw[ka]at this;unfold X3 at this;simp at this;omega
 ·have:=Ty.Bv rb;rw[kb]at this;unfold X3 at this;simp at this;omega
def B55{f v:Tm}(hf:QT f)(hv:QT v):C9.p wM [f.A9,v.A9]=some (qX f v).A9:=by
 refine(A2H _ _).trans ?_;rw[A5z];simp only[I8,F4,kq,kn,an,bn,J4,E9,J5,F5,z4q,Q8];unfold qX;by_cases k9:f.A8=9
 ·have l1:=Tm.B_ hf.r (.inl k9);rw[D5 k9,D5 k9,x0 (by omega),Tm.EU];simp only[J4,U5,show(DV.list 1 [])=K6 []from rfl,aT (xs:=[]) rfl (by decide) (hf.toQB.kid (Tm.U4 (show 0<f.D6.length by omega))) hv.toQB,SR.J_]
 rw[C8 k9,C8 k9];have st:Ql C9=some (SR.fin Bw).A9:=by rw[zV];simp only[Lh,J4,SR.J_]
 by_cases k16:f.A8=16
 ·rw[C8 (show ¬¬f.A8=16 from λh=>h k16)];by_cases ka:f.a.A8=9
  ·rw[C8 (show ¬¬f.a.A8=9 from λh=>h ka)];by_cases kb:f.b.A8=9
   ·obtain⟨la,lb,l1⟩:=B3f hf k16 ka kb;rw[C8 (show ¬¬f.b.A8=9 from λh=>h kb),C8 (show ¬(f.A8≠16\/f.a.A8≠9\/f.b.A8≠9)by omega)];rw[show R8 .not (A7 9 f.A9)=some (.bool (!f.neg))by rw[Tm.YK,P9],bI0 (by omega),aI0 (by omega),x0 (by omega),aI1 (by omega),bI1 (by omega)];simp only[J4,U5,Rv,A3T,I8,F4,C49,PU,Cw];rfl
   ·rw[D5 kb,D5 (.inr (.inr kb))];exact st
  ·rw[D5 ka,D5 (.inr (.inl ka))];exact st
 ·rw[D5 k16,D5 (.inl k16)];exact st
def B49{f v:Tm}(hf:QT f)(hv:QT v)(mv:2 * v.Q3<=J9):C9.p qR [f.A9,v.A9]=some (qX f v).A9:=by
 refine(A0E _ _).trans ?_;rw[A2v];simp only[I8,F4,kq,kn,an,bn,J4,E9,J5,F5,z4q,Q8];unfold qX;by_cases k9:f.A8=9
 ·have l1:=Tm.B_ hf.r (.inl k9);rw[D5 k9,D5 k9,x0 (by omega),Tm.EU];simp only[J4,U5,show(DV.list 1 [])=K6 []from rfl,iP (xs:=[]) rfl (by decide) (QT.A68 hf.r (.inl k9)) (hf.toQB.kid (Tm.U4 (show 0<f.D6.length by omega))) hv mv,SR.J_]
 rw[C8 k9,C8 k9];have st:(ob (C9.p Am []) λd7=>og (E5 15 d7)<|some (.I4 [Pz.A9,DV.agg [A7 0 d7,A7 1 d7,A7 2 d7,A7 3 d7,A7 4 d7,A7 5 d7,A7 6 d7,A7 7 d7,A7 8 d7,A7 9 d7,A7 10 d7,A7 11 d7,A7 12 d7,A7 13 d7,A7 14 d7]]))=some (SR.fin Bw).A9:=by simp only[KJ,J4,Q5,F4,rsE];rfl
 by_cases k16:f.A8=16
 ·rw[C8 (show ¬¬f.A8=16 from λh=>h k16)];by_cases ka:f.a.A8=9
  ·rw[C8 (show ¬¬f.a.A8=9 from λh=>h ka)];by_cases kb:f.b.A8=9
   ·obtain⟨la,lb,l1⟩:=B3f hf k16 ka kb;rw[C8 (show ¬¬f.b.A8=9 from λh=>h kb),C8 (show ¬(f.A8≠16\/f.a.A8≠9\/f.b.A8≠9)by omega)];rw[bI0 (by omega),aI0 (by omega)];simp only[J4,U5,Rv,Uc,I8,F4];rw[show R8 .not (A7 9 f.A9)=some (.bool (!f.neg))by rw[Tm.YK,P9],x0 (by omega),aI1 (by omega),bI1 (by omega)];simp only[J4,U5,Rv,A6x,F4,C8T,C49,Uc,I8,Cw];rfl
   ·rw[D5 kb,D5 (.inr (.inr kb)),BK];exact st
  ·rw[D5 ka,D5 (.inr (.inl ka)),BK];exact st
 ·rw[D5 k16,D5 (.inl k16),BK];exact st
def C6w{k:Tm}(ht:QT t)(kk:t.A8=12)(hk:DW t=k){b0 b1 b2 b3 b4 b5 b6 b7 b8 b9 b10 b11 b12 b13 b14 b15 b16 b17 b18 b19:DV}(h:DV.agg [b0,b1,b2,b3,b4,b5,b6,b7,b8,b9,b10,b11,b12,b13,b14,b15,b16,b17,b18,b19]=k.A9):Wq C9 t.A9 b0 b1 b2 b3 b4 b5 b6 b7 b8 b9 b10 b11 b12 b13 b14 b15 b16 b17 b18 b19=some (He (t.kd 1) t.name t.vars (DF t)).A9:=by
 have l2:=Tm.EF ht.r (by omega);have e:Tm.mk 9 0 0 t.arg S9 0 S9 0 0 false [] t.a O5 [] [] [k]=DF t:=by rw[<- hk];rfl
 rw[za];simp only[A8k,F4,h,C5F,e];rw[x1 (by omega),Tm.EU,Tm.PP];simp only[J4,U5,aT (Tm.TC ht.r) (QT.yu ht.toQB) (ht.toQB.kid (Tm.U4 (show 1<t.D6.length by omega))) (ht.DF kk).toQB,SR.J_]
def B56(ht:QT t)(k:t.A8=12):C9.p wN [t.A9]=some (He (t.kd 1) t.name t.vars (DF t)).A9:=by
 have l2:=Tm.EF ht.r (by omega);refine(A2J _).trans ?_;rw[A5B];simp only[I8,F4,nan,B9e,A8k,J4,E9,z4q,Q8];rw[x0 (by omega)];simp only[J4,U5]
 by_cases e:t.name=t.arg
 ·rw[C8 (λh=>h e)];exact C6w ht k (by unfold DW;rw[D5 e]) (U5 _)
 ·rw[D5 e];exact C6w ht k (by unfold DW;rw[C8 e]) (C6x t (t.kd 0))
def r19{k:Tm}(ht:QT t)(kk:t.A8=12)(hz:t.size<=1200)(hk:DW t=k){b0 b1 b2 b3 b4 b5 b6 b7 b8 b9 b10 b11 b12 b13 b14 b15 b16 b17 b18 b19:DV}(h:DV.agg [b0,b1,b2,b3,b4,b5,b6,b7,b8,b9,b10,b11,b12,b13,b14,b15,b16,b17,b18,b19]=k.A9):U_ C9 t.A9 b0 b1 b2 b3 b4 b5 b6 b7 b8 b9 b10 b11 b12 b13 b14 b15 b16 b17 b18 b19=some (He (t.kd 1) t.name t.vars (DF t)).A9:=by
 have l2:=Tm.EF ht.r (by omega);have e:Tm.mk 9 0 0 t.arg S9 0 S9 0 0 false [] t.a O5 [] [] [k]=DF t:=by rw[<- hk];rfl
 rw[uL];simp only[A8k,F4,h,C5F,e];rw[x1 (by omega),Tm.EU,Tm.PP];simp only[J4,U5,iP (Tm.TC ht.r) (QT.yu ht.toQB) (QT.A68 ht.r (.inr (.inr kk))) (ht.toQB.kid (Tm.U4 (show 1<t.D6.length by omega))) (ht.DF kk) (ht.B5U kk hz),SR.J_]
def Tm.C0b(h:t.right=true)(k:t.A8=15):1<=t.op/\t.op<=7:=by have o:=Tm.Z4 h;unfold Tm.one Tm.Kv Tm.LW Tm.LX at o;simp[k,BU]at o;omega
theorem B2t(b:Bool):C9.p ND [.bool b]=some (YH 3 (if b=true then 1 else 0)).A9:=by refine(uZ _).trans ?_;rw[zf,A3I,A3I];cases b<;>rfl
theorem C8h(x y:Int):D7 .quo (iI x) (iI y)=if y=0 then none else some (iI (IntKind.i64.wrap (x.tdiv y))):=rfl
def A9E{a b:Tm}(rt:t.right=true)(k:t.A8=15):C9.p Yc [t.A9,a.A9,b.A9]=some (gH t a b).A9:=by
 have rg:=Tm.C0b rt k;have o4:∀w:Int,(if t.op=7 then 4 else 2)=w->OC C9 (iI w) t.A9 a.A9 b.A9=some (gH t a b).A9:=by
  intro w hw;have tr:∀b:Bool,(ob (C9.p ND [.bool b]) λd=>og (E5 20 d)<|some (.I4 [DV.agg [A7 0 d,A7 1 d,A7 2 d,A7 3 d,A7 4 d,A7 5 d,A7 6 d,A7 7 d,A7 8 d,A7 9 d,A7 10 d,A7 11 d,A7 12 d,A7 13 d,A7 14 d,A7 15 d,A7 16 d,A7 17 d,A7 18 d,A7 19 d],(Bc 0).A9]))=some (SR.ok (YH 3 (if b=true then 1 else 0))).A9:=by intro b;simp only[B2t,J4,I8,F4,U5];rfl
  unfold gH;rw[hw,fJ];simp only[kn,opq,J4,E9,J5,z4q,Q8,F5,Lh,SR.J_,BK,Cw]
  by_cases ha:a.A8=w
  ·rw[C8 (show ¬¬a.A8=w from λh=>h ha)];by_cases hb:b.A8=w
   ·rw[C8 (show ¬¬b.A8=w from λh=>h hb),C8 (show ¬(a.A8≠w\/b.A8≠w)by omega)];unfold iE;by_cases c1:t.op=1
    ·rw[D5 c1,C8 (show ¬t.op=7 by omega),D5 c1,Tm.Du,Tm.Du,Ag];simp only[J4,Gg,F4,A3I];rw[C8 (show ¬ 5<=t.op by omega)];rfl
    rw[C8 c1,C8 c1];by_cases c2:t.op=2
    ·rw[D5 c2,C8 (show ¬t.op=7 by omega),D5 c2,Tm.Du,Tm.Du,FX];simp only[J4,Gg,F4,A3I];rw[C8 (show ¬ 5<=t.op by omega)];rfl
    rw[C8 c2,C8 c2];by_cases c3:t.op=3
    ·rw[D5 c3,C8 (show ¬t.op=7 by omega),D5 c3,Tm.Du,Tm.Du,A6W];simp only[J4,Gg,F4,A3I];rw[C8 (show ¬ 5<=t.op by omega)];rfl
    rw[C8 c3,C8 c3];by_cases c4:t.op=4
    ·rw[D5 c4,C8 (show ¬t.op=7 by omega),D5 c4,Tm.Du,Tm.Du,P6];simp only[J4,E9,F5,C8h]
     by_cases z:b.n=0
     ·rw[D5 z,D5 z,B7o];rfl
     ·rw[C8 z,C8 z,C8 z];simp only[J4,Gg,F4,A3I];rw[C8 (show ¬ 5<=t.op by omega)];rfl
    rw[C8 c4,C8 c4];by_cases c5:t.op=5
    ·rw[D5 c5,C8 (show ¬t.op=7 by omega),D5 c5,Tm.Du,Tm.Du,J6];simp only[J4,tr,F5];rw[D5 (show 5<=t.op by omega)]
    rw[C8 c5,C8 c5];by_cases c6:t.op=6
    ·rw[D5 c6,C8 (show ¬t.op=7 by omega),Tm.Du,Tm.Du,P6];simp only[J4,tr,F5];rw[D5 (show 5<=t.op by omega)]
    rw[C8 c6,D5 (show t.op=7 by omega),Tm.MO,Tm.MO,Lx];simp only[J4,tr,F5]
   ·rw[D5 hb,D5 (.inr hb)]
  ·rw[D5 ha,D5 (.inl ha)]
 refine(kT _ _ _).trans ?_;rw[nz];simp only[I8,F4,opq,J4,E9,F5]
 by_cases h7:t.op=7
 ·rw[D5 h7];exact o4 4 (by rw[D5 h7])
 ·rw[C8 h7];exact o4 2 (by rw[C8 h7])
theorem B2J(b:Bool):C9.p PZ [.bool b]=some (iI (if b=true then 1 else 0)):=by refine(dw _).trans ?_;rw[kJ];cases b<;>rfl
def B0A{a b:Tm}(rt:t.right=true)(k:t.A8=15):C9.p dD [t.A9,a.A9,b.A9]=some (gH t a b).A9:=by
 have rg:=Tm.C0b rt k;have o9:∀w:Int,(if 5<=t.op then 3 else 2)=w->QI C9 t.A9 a.A9 b.A9 (iI w)=some (if t.op=7 then SR.ok (YH 3 (if a.s=b.s then 1 else 0))else match iE t.op a.n b.n with | some n=>.ok (YH (if 5<=t.op then 3 else 2) n) | none=>.fin (atR 3 t.lo t.hi)).A9:=by
  intro w hw;rw[kH,Tm.pY,Tm.Du,Tm.Du,C0u];simp only[J4,BK,Cw,B7o];have e7:t.op=7->opN t.op a.n b.n=some (if a.n=b.n then 1 else 0):=λh=>by unfold opN;rw[h];rfl
  rw[show iE t.op a.n b.n=opN t.op a.n b.n from rfl];cases ho:opN t.op a.n b.n with
  |none=>
    have h7:¬t.op=7:=λh=>by rw[e7 h]at ho;cases ho
    simp only[Ct,Cu,J4,P9,E9,zgq,H5];rw[C8 h7];rfl
  |some n=>
    simp only[Ct,Cu,J4,P9,E9,z5q,z0q,F9,Gg,F4,P6,F5]
    by_cases h7:t.op=7
    ·have w3:w=3:=by rw[<- hw,D5 (by omega)]
     rw[D5 h7,D5 h7,Tm.MO,Tm.MO,Lx];simp only[J4,B2J,Gg,F4,A3I,F5,w3];rfl
    ·rw[C8 h7,C8 h7,A3I,hw];rfl
 have o4:∀w:Int,(if t.op=7 then 4 else 2)=w->QH C9 (iI w) t.A9 a.A9 b.A9=some (gH t a b).A9:=by
  intro w hw;have st:(ob (C9.p Am []) λd7=>og (E5 15 d7)<|some (.I4 [Pz.A9,DV.agg [A7 0 d7,A7 1 d7,A7 2 d7,A7 3 d7,A7 4 d7,A7 5 d7,A7 6 d7,A7 7 d7,A7 8 d7,A7 9 d7,A7 10 d7,A7 11 d7,A7 12 d7,A7 13 d7,A7 14 d7]]))=some (SR.fin Bw).A9:=by simp only[KJ,J4,Q5,F4,rsE];rfl
  unfold gH;rw[hw,kG];simp only[kn,opg,J4,E9,J5,z4q,Q8,F5,BK]
  by_cases ha:a.A8=w
  ·rw[C8 (show ¬¬a.A8=w from λh=>h ha)];by_cases hb:b.A8=w
   ·rw[C8 (show ¬¬b.A8=w from λh=>h hb),C8 (show ¬(a.A8≠w\/b.A8≠w)by omega)];by_cases h5:5<=t.op
    ·rw[D5 h5];exact o9 3 (by rw[D5 h5])
    ·rw[C8 h5];exact o9 2 (by rw[C8 h5])
   ·rw[D5 hb,D5 (.inr hb)];exact st
  ·rw[D5 ha,D5 (.inl ha)];exact st
 refine(ol _ _ _).trans ?_;rw[uK];simp only[I8,F4,opq,J4,E9,F5]
 by_cases h7:t.op=7
 ·rw[D5 h7];exact o4 4 (by rw[D5 h7])
 ·rw[C8 h7];exact o4 2 (by rw[C8 h7])
end Go.Su

/-
 The calculus: a step: the program's, the document's.
-/
namespace Go.Su
set_option linter.unusedSectionVars false
theorem QT.B6P{t:Tm}(h:QB t):t.D6.length<=J9:=by have:=(QB.fit t h).one.D6;omega
variable (t:Tm)
theorem C8S:D7 .eql (A7 5 t.A9) (iI 1)=some (.bool (decide (t.n=1))):=by rw[Tm.Du,P6]
section
variable {t:Tm}(ht:QT t)(hz:t.size<=1200)(hv:∀i,i<Z9 t.A8->(t.kd i).L9=true)
include ht hz hv
theorem B8N:step2 (Z9 t.A8) (Z9 t.A8) t=some (QY t).A9:=by
 have hm:=Tm.Ku ht.r;have mF:∀i,i<Z9 t.A8->QT (t.kd i):=λi hi=>ht.kid (by omega) (Tm.ML hi).1;have rk:=Tm.aQ ht.r;unfold step2 QY;rw[MC];simp only[J6,J4,E9,F5,kq,U5];rw[C8 (by omega)];by_cases k10:t.A8=10
 ·rw[k10]at mF;have l2:=Tm.EF ht.r (by omega);rw[D5 k10,D5 k10,x0 (by omega),x1 (by omega)];simp only[J4,U5,B55 (mF 0 (by decide)) (mF 1 (by decide)),SR.J_]
 rw[C8 k10,C8 k10];by_cases k11:t.A8=11
 ·rw[k11]at mF;have l2:=Tm.EF ht.r (by omega);rw[D5 k11,D5 k11,x0 (by omega),x1 (by omega),Tm.EU,Tm.PP];simp only[J4,U5,aT (Tm.TC ht.r) (QT.yu ht.toQB) (ht.toQB.kid (Tm.U4 (show 1<t.D6.length by omega))) (mF 0 (by decide)).toQB,SR.J_]
 rw[C8 k11,C8 k11];by_cases k12:t.A8=12
 ·rw[D5 k12,D5 k12];simp only[B56 ht k12,J4,SR.J_]
 rw[C8 k12,C8 k12];by_cases k13:t.A8=13
 ·have l3:=Tm.B0g ht.r k13;rw[D5 k13,D5 k13,x0 (by omega)];simp only[J4,kn,C8S,E9,z4q,Q8,F5,Lh,SR.J_]
  by_cases c3:(t.kd 0).A8=3
  ·rw[C8 (show ¬¬(t.kd 0).A8=3 from λh=>h c3),C8 (show ¬(t.kd 0).A8≠3 from λh=>h c3),x1 (by omega),x2 (by omega)];simp only[J4,U5,Cw]
   by_cases n1:(t.kd 0).n=1
   ·rw[D5 n1,D5 n1];rfl
   ·rw[C8 n1,C8 n1];rfl
  ·rw[D5 c3,D5 c3]
 rw[C8 k13,C8 k13];by_cases k15:t.A8=15
 ·have l2:=Tm.EF ht.r (by omega);rw[D5 k15,D5 k15,x0 (by omega),x1 (by omega)];simp only[J4,U5,A9E ht.r k15,SR.J_]
 rw[C8 k15,C8 k15];by_cases k14:t.A8=14
 ·rw[D5 k14,D5 k14];simp only[B2r ht k14 hz (hv 0 (by rw[k14];decide)),J4,SR.J_]
 rw[C8 k14,C8 k14];by_cases k16:t.A8=16
 ·rw[k16]at mF;have l1:=Tm.B_ ht.r (.inr k16);rw[D5 k16,D5 k16,x0 (by omega)];simp only[J4,U5,A08 ht.r k16 (mF 0 (by decide)).r,SR.J_]
 rw[C8 k16,C8 k16];simp only[Lh,J4,SR.J_]
theorem B8z:C9.p GR [t.A9]=some (QY t).A9:=by
 have hm:=Tm.Ku ht.r;have mF:∀i,i<Z9 t.A8->QT (t.kd i):=λi hi=>ht.kid (by omega) (Tm.ML hi).1;have km:∀i,i<Z9 t.A8->2 * (t.kd i).Q3<=J9:=λi hi=>by have m:=Tm.U4 (t:=t) (i:=i) (by omega);have:=(ht.toQB.kid m).Q3 (by have:=Tm.Ec m;omega);unfold J9;omega
 have rk:=Tm.aQ ht.r;have nd:NT (Z9 t.A8) t.D6=none:=by unfold NT;refine zWq.2 λi hi=>?_;have:=hv i (zSq.1 hi);unfold Tm.kd at this;rw[this];decide
 have st:(ob (C9.p Am []) λd7=>og (E5 15 d7)<|some (.I4 [Pz.A9,DV.agg [A7 0 d7,A7 1 d7,A7 2 d7,A7 3 d7,A7 4 d7,A7 5 d7,A7 6 d7,A7 7 d7,A7 8 d7,A7 9 d7,A7 10 d7,A7 11 d7,A7 12 d7,A7 13 d7,A7 14 d7]]))=some (SR.fin Bw).A9:=by simp only[KJ,J4,Q5,F4,rsE];rfl
 refine(Xh _).trans ?_;rw[aF];simp only[I8,F4,U5,yS ht.r,J4];unfold A9Y QY;rw[nd];simp only[Ki,J4,E9,F5,kq];rw[C8 (by decide)];by_cases k10:t.A8=10
 ·rw[k10]at mF km;have l2:=Tm.EF ht.r (by omega);rw[D5 k10,D5 k10,x0 (by omega),x1 (by omega)];simp only[J4,U5,B49 (mF 0 (by decide)) (mF 1 (by decide)) (km 1 (by decide)),SR.J_]
 rw[C8 k10,C8 k10];by_cases k11:t.A8=11
 ·rw[k11]at mF km;have l2:=Tm.EF ht.r (by omega);rw[D5 k11,D5 k11,x0 (by omega),x1 (by omega),Tm.EU,Tm.PP];simp only[J4,U5,iP (Tm.TC ht.r) (QT.yu ht.toQB) (QT.A68 ht.r (.inr (.inl k11))) (ht.toQB.kid (Tm.U4 (show 1<t.D6.length by omega))) (mF 0 (by decide)) (km 0 (by decide)),SR.J_]
 rw[C8 k11,C8 k11,ZI];simp only[kq,J4,E9,F5]
 by_cases k12:t.A8=12
 ·have l2:=Tm.EF ht.r (by omega);rw[D5 k12,D5 k12,x0 (by omega)];simp only[J4,B9e,A8k,F4,naq,E9,F5,U5]
  by_cases e:t.name=t.arg
  ·rw[D5 e];exact r19 ht k12 hz (by unfold DW;rw[D5 e]) (U5 _)
  ·rw[C8 e];exact r19 ht k12 hz (by unfold DW;rw[C8 e]) (C6x t (t.kd 0))
 rw[C8 k12,C8 k12];by_cases k13:t.A8=13
 ·have l3:=Tm.B0g ht.r k13;rw[D5 k13,D5 k13,x0 (by omega)];simp only[J4,kq,E9,F5]
  by_cases c3:(t.kd 0).A8=3
  ·rw[D5 c3,C8 (show ¬(t.kd 0).A8≠3 from λh=>h c3),Tm.Du,FX];have nr:(t.kd 0).n=0\/(t.kd 0).n=1:=by have o:=Tm.Z4 (Tm.AX ht.r (show 0<t.D6.length by omega));unfold Tm.one Tm.Kv at o;simp[c3]at o;exact o.2.1.2
   rcases nr with n0 | n1
   ·rw[n0,X7 (by omega) (by omega)];simp only[J4];rw[show F7 20 (A7 19 t.A9) (iI (2-0))=some (t.kd 2).A9 from x2 (by omega),C8 (by decide)];simp only[J4,U5,Cw];rfl
   ·rw[n1,X7 (by omega) (by omega)];simp only[J4];rw[show F7 20 (A7 19 t.A9) (iI (2-1))=some (t.kd 1).A9 from x1 (by omega),D5 trivial];simp only[J4,U5,Cw];rfl
  ·rw[C8 c3,D5 c3,BK];exact st
 rw[C8 k13,C8 k13];by_cases k15:t.A8=15
 ·have l2:=Tm.EF ht.r (by omega);rw[D5 k15,D5 k15,x0 (by omega),x1 (by omega)];simp only[J4,U5,B0A ht.r k15,SR.J_]
 rw[C8 k15,C8 k15];by_cases k14:t.A8=14
 ·rw[D5 k14,D5 k14];simp only[U5,B2F ht k14 hz (hv 0 (by rw[k14];decide)),J4,SR.J_]
 rw[C8 k14,C8 k14];by_cases k16:t.A8=16
 ·rw[k16]at mF;have l1:=Tm.B_ ht.r (.inr k16);rw[D5 k16,D5 k16,x0 (by omega)];simp only[J4,U5,A1c ht.r k16 (mF 0 (by decide)).r,SR.J_]
 rw[C8 k16,C8 k16,BK];exact st
end
theorem yX{t:Tm}{i:Nat}(rt:t.right=true)(hd:NT (Z9 t.A8) t.D6=some i):t.EW=(t.kd i).EW.bind λx=>.ok (t.AR i x):=by
 obtain⟨h1,h2⟩:=iY hd;have hl:=Tm.Ku rt;rw[Tm.Zl,hd];have e:(t.D6.map Tm.EW).getD i (.fin Bw)=(t.kd i).EW:=by rw[zmq,zhq,Tm.Ng (by omega)];rfl
 simp only[e]
theorem B4S:QT t->t.size<=1200->C9.p DN [t.A9]=some t.EW.A9:=by
 induction t using Tm.ind with
 |h t ih=>
   intro ht hz;have hm:=Tm.Ku ht.r;have m2:=B6T t.A8;have st:C9.p DN [t.A9]=step2 (Z9 t.A8) 0 t:=by rw[VE,XK];simp only[I8,F4];rw[Tm.AV,mq];simp only[J4];rfl
   have kid:∀i,i<Z9 t.A8->(t.kd i).L9=false->step2 (Z9 t.A8) i t=some ((t.kd i).EW.bind λx=>.ok (t.AR i x)).A9:=λi hi hv=>by have m:=Tm.U4 (t:=t) (i:=i) (by omega);have qk:=ht.kid (i:=i) (by omega) (Tm.ML hi).1;exact B1T (by omega) hi (QT.B6P ht.toQB) qk.r hv (yV _ qk.r).good (ih _ m qk (by have:=Tm.Ec m;omega))
   have nxt:∀i,i<Z9 t.A8->(t.kd i).L9=true->step2 (Z9 t.A8) i t=step2 (Z9 t.A8) (i+1) t:=λi hi hv=>B1U (by omega) hi (by omega) (Tm.AX ht.r (by omega)) hv;have val:∀i,(t.D6.getD i Pz)=t.kd i:=λi=>rfl;rw[st];cases hd:NT (Z9 t.A8) t.D6 with
   |none=>
     have hv:=nu hd;simp only[val]at hv;have e:t.EW=QY t:=by rw[Tm.Zl,hd]
     rw[e,<- B8N ht hz hv];have h:Z9 t.A8=0\/Z9 t.A8=1\/Z9 t.A8=2:=by omega
     rcases h with h | h | h
     ·rw[h]
     ·have:=nxt 0 (by omega) (hv 0 (by omega));rw[h]at this ⊢;exact this
     ·have a:=nxt 0 (by omega) (hv 0 (by omega));have b:=nxt 1 (by omega) (hv 1 (by omega));rw[h]at a b ⊢;exact a.trans b
   |some i=>
     obtain⟨h1,h2⟩:=iY hd;rw[val]at h2;rw[yX ht.r hd,<- kid i h1 h2];have h:i=0\/i=1:=by omega
     rcases h with rfl | rfl
     ·rfl
     ·refine nxt 0 (by omega) ?_;have Mh:Z9 t.A8=2:=by omega
      rw[Mh,C2O]at hd;cases hv:(t.kd 0).L9
      ·rw[hv]at hd;simp at hd
      ·rfl
theorem B6n:QT t->t.size<=1200->C9.p GR [t.A9]=some t.EW.A9:=by
 induction t using Tm.ind with
 |h t ih=>
   intro ht hz;have hm:=Tm.Ku ht.r;cases hd:NT (Z9 t.A8) t.D6 with
   |none=>
     have e:t.EW=QY t:=by rw[Tm.Zl,hd]
     rw[e];exact B8z ht hz (nu hd)
   |some i=>obtain⟨h1,h2⟩:=iY hd;have m:=Tm.U4 (t:=t) (i:=i) (by omega);have qk:=ht.kid (i:=i) (by omega) (Tm.ML h1).1;rw[yX ht.r hd];exact B1M ht.r hd (by omega) (QT.B6P ht.toQB) (yV _ qk.r).good (ih _ m qk (by have:=Tm.Ec m;omega))
end Go.Su

/-
 The calculus and types: a step keeps a term's type; a term with a type is never stuck.
-/
namespace Go.Su
set_option linter.defProp false
variable {s:ByteArray}{A:Ty}{B:Ty}
def B1G{x v:Tm}{M:List Nm}(hx:WT x (⟨s,A,[]⟩::M) B)(hs:s∉M.map Nm.name)(hv:WT v [] A):∃u,x.Cv s [] v=some u/\WT u M B:=by
 have hn:∀y∈x.vs,y∉v.vs:=λy hy=>by rw[hx.n]at hy;cases hy
 obtain⟨u,h1,h2⟩:=C5f s v A hv.r hv.closed hv.c x hx.r hn [] M [] B hs (by simp) hx.c;have h3:x.Cv s [] v=some u:=by rw[Tm.C0h];exact h1
 refine⟨u,h3,Tm.B8l x s v hv.r hx.r u h1,?_,h2⟩;exact Tm.pz (G:=λt=>t.vs=[]) s [] v (λt h ks hl hk=>Tm.Ir.2 ⟨(Tm.Ir.1 h).1,hk⟩) (λt h k hk=>(Tm.Ir.1 h).2 k hk) (λt h k1 hl=>by rw[zyq,Tm.ym];exact hv.n) x hx.n u h3
def yE{x v:Tm}{P:GZ->Prop}(hx:WT x [⟨s,A,[]⟩] B)(hv:WT v [] A):zP P B (He x s [] v):=by obtain⟨u,e,w⟩:=B1G hx (by simp) hv;unfold He;rw[e];exact w
def A9p:∀(l:List ER)(b:List (ByteArray×Ty))(x:Tm)(B:Ty),WT x (b.map Em) B->(b.map Prod.fst).Nodup->TBi l b->∃u,M_ l x=.ok u/\WT u [] B
 |[],[],x,B,h,_,_=>⟨x,rfl,h⟩
 | (s,v)::l,(s',A)::b,x,B,h,nd,⟨h1,h2,h3⟩=>by cases h1;rw[zeq,List.nodup_cons]at nd;obtain⟨u,e,w⟩:=B1G (M:=b.map Em) h (by rw[List.map_map];exact nd.1) h2;obtain⟨u',e',w'⟩:=A9p l b u B w nd.2 h3;refine⟨u',?_,w'⟩;rw[M_];unfold He;rw[e];exact e'
 |[],_::_,_,_,_,_,h=>h.elim
 |_::_,[],_,_,_,_,h=>h.elim
def wu{L:List Nm}{S:List Int}(y:Ty):∀(ps:List E8)(fs:List iy)(out:Option Ty)(B:Ty),CJ y L S (ps.zip fs) out=.ok B->(∀o,out=some o->B=o)/\∀(j:Nat) p f,ps[j]?=some p->fs[j]?=some f->∃b,p.binds y=some b/\f (L++b.map Em) S=.ok B
 |[],_,out,B,h=>⟨λo ho=>by subst ho;simp only[zyq,CJ,y2q,Except.ok.injEq]at h;exact h.symm,λj p f hp=>by simp at hp⟩
 |_::_,[],out,B,h=>⟨λo ho=>by subst ho;simp only[List.zip_nil_right,CJ,y2q,Except.ok.injEq]at h;exact h.symm,λj p f _ hf=>by simp at hf⟩
 |q::ps,g::fs,out,B,h=>by
   rw[List.zip_cons_cons,CJ]at h;cases hb:q.binds y with
   |none=>rw[hb]at h;cases h
   |some b=>
     rw[hb]at h;obtain⟨a,h1,h⟩:=Except.bind_ok h;have key:B=a/\(∀o,out=some o->B=o)/\∀(j:Nat) p f,ps[j]?=some p->fs[j]?=some f->∃b,p.binds y=some b/\f (L++b.map Em) S=.ok B:=by
      cases out with
      |none=>obtain⟨c1,c2⟩:=wu y ps fs (some a) B h;exact⟨c1 a rfl,λo ho=>by(cases ho),c2⟩
      |some o=>obtain⟨e,h⟩:=JK h;obtain⟨c1,c2⟩:=wu y ps fs (some o) B h;have:=c1 o rfl;exact⟨this.trans e.symm,λo' ho=>by cases ho;exact this,c2⟩
     refine⟨key.2.1,λj p f hp hf=>?_⟩;cases j with
     |zero=>simp only[z8q,D9]at hp hf;subst hp hf;exact⟨b,hb,key.1 ▸ h1⟩
     |succ j=>exact key.2.2 j p f (by simpa using hp) (by simpa using hf)
variable {t:Tm}
def Tm.B5W(h:t.right=true):∀p∈t.H8,p.right=true:=by intro p hp;have h1:=Tm.Z4 h;unfold Tm.one Tm.Kv Tm.LW Tm.LX Tm.Mc Tm.Nj Tm.lists at h1;simp only[z2q,zlq]at h1;exact h1.2.2.2.2.2.2.2 p hp
def A8e{t v:Tm}{y B:Ty}(rt:t.right=true)(k:t.A8=14)(nv:t.vs=[])(hv:WT v [] y)(vv:v.L9=true)(ha:CJ y [] [] (t.H8.zip ((t.D6.map ck).drop 1)) none=.ok B):∀(ps:List E8)(i:Nat),ps=t.H8.drop i->zP isFin B (FM t v i ps)
 |[],i,_=>.inr (.inr rfl)
 |p::ps,i,hd=>by
   have hi:i<t.H8.length:=by apply Classical.byContradiction;intro hn;rw[zbq (by omega)]at hd;cases hd
   rw[z3q hi]at hd;obtain⟨rfl,FU⟩:=List.cons.inj hd;have pr:=Tm.B5W rt _ (z6q hi);unfold E8.right at pr;rw[z2q,F5]at pr;have hl:=Tm.A67 rt k;have hk:i+1<t.D6.length:=by omega
   obtain⟨b,e1,e2⟩:=(wu y _ _ _ _ ha).2 i t.H8[i] (ck (t.kd (i+1))) (zdq hi) (by rw[List.getElem?_drop,zhq,Nat.add_comm 1 i,Tm.Ng hk];rfl);have d:=E8.B5R _ pr.1 v y b hv vv e1;rw[FM];cases hm:t.H8[i].AU v with
   |fin r=>rw[hm]at d;exact .inl d
   |no=>exact A8e rt k nv hv vv ha ps (i+1) FU
   |ok l=>rw[hm]at d;obtain⟨u,e,w⟩:=A9p l b (t.kd (i+1)) B ⟨Tm.AX rt hk,(Tm.Ir.1 nv).2 _ (Tm.U4 hk),by simpa using e2⟩ (by rw[E8.qd _ pr.1 y b e1];exact pr.2) d;show zP _ _ (M_ l (t.kd (i+1)));rw[e];exact w
def C1T{x:ByteArray}{F:Ty}{n:ByteArray}(h:s=x):Dh [⟨x,A,[]⟩] n=Dh [⟨s,F,[]⟩,⟨x,A,[]⟩] n:=by
 subst h;unfold Dh;simp only[zJq,zMq,zwq,zCq,zRq,zUq]
 by_cases e:s=n<;>simp[e]
variable (n:ByteArray)
def B78{x:ByteArray}{F:Ty}:Dh [⟨x,A,[]⟩,⟨s,F,[]⟩,⟨x,A,[]⟩] n=Dh [⟨s,F,[]⟩,⟨x,A,[]⟩] n:=by
 unfold Dh;simp only[zJq,zMq,zwq,zCq,zRq,zUq]
 by_cases e:x=n<;>simp[e]
def B9Z{x:ByteArray}{F:Ty}(h:s≠x)(n:ByteArray):Dh [⟨x,A,[]⟩,⟨s,F,[]⟩] n=Dh [⟨s,F,[]⟩,⟨x,A,[]⟩] n:=by
 unfold Dh;simp only[zJq,zMq,zwq,zCq,zRq,zUq]
 by_cases e:x=n
 ·have:s≠n:=λg=>h (g.trans e.symm);simp[e,this]
 ·by_cases e':s=n<;>simp[e,e']
def A9V(r:t.right=true){L M:List Nm}(h:∀n,Dh M n=Dh L n)(hc:ck t L []=.ok B):ck t M []=.ok B :=A9W t r L M [] [] (λn _=>h n) (λx hx=>hx) (λx hx=>.inl hx) B hc
theorem B4A(h:WT t [] B)(k:t.A8=12):WT (DF t) [] (.mk 9 0 [t.a,t.b])/\WT (t.kd 1) [⟨t.name,.mk 9 0 [t.a,t.b],[]⟩] B:=by
 have l2:=Tm.EF h.r (by omega);obtain⟨n1,n2,ra,rb⟩:=Tm.A9s h.r k;obtain⟨k0r,k0n⟩:=h.YB (show 0<t.D6.length by omega);obtain⟨k1r,k1n⟩:=h.YB (show 1<t.D6.length by omega);have nv:=Tm.Ir.1 h.n;have c:=h.c;rw[B6C h.r k nv.1]at c;obtain⟨⟨ia,ib⟩,c⟩:=JK c;obtain⟨y,c0,c⟩:=Except.bind_ok c;obtain⟨e,c1⟩:=JK c;subst e;simp only[zwq]at c0 c1;refine⟨?_,k1r,k1n,c1⟩;have hb:(DW t).right=true/\(DW t).vs=[]/\ck (DW t) [⟨t.arg,t.a,[]⟩] []=.ok t.b:=by
  unfold DW;by_cases e:t.name=t.arg
  ·rw[D5 e];exact⟨k0r,k0n,A9V k0r (λn=>C1T e) c0⟩
  ·rw[C8 e];have rr:=B1I n1 n2 ra rb k0r;refine⟨rr,Tm.Ir.2 ⟨rfl,λx hx=>?_⟩,?_⟩
   ·have:x=t.kd 0:=by simpa using hx
    rw[this];exact k0n
   ·rw[B6C rr rfl rfl,D5 ⟨ia,ib⟩];have a0:ck (t.kd 0) [⟨t.arg,t.a,[]⟩,⟨t.name,.mk 9 0 [t.a,t.b],[]⟩,⟨t.arg,t.a,[]⟩] []=.ok t.b:=A9V k0r (λn=>B78 n) c0;have a1:ck (t.kd 0) [⟨t.arg,t.a,[]⟩,⟨t.name,.mk 9 0 [t.a,t.b],[]⟩] []=.ok t.b:=A9V k0r (λn=>B9Z e n) c0;show(ck (t.kd 0) [⟨t.arg,t.a,[]⟩,⟨t.name,.mk 9 0 [t.a,t.b],[]⟩,⟨t.arg,t.a,[]⟩] []).bind _=_;rw[a0];show(if t.b=t.b then ck (t.kd 0) [⟨t.arg,t.a,[]⟩,⟨t.name,.mk 9 0 [t.a,t.b],[]⟩] []else _)=_;rw[D5 rfl,a1]
 have rf:(DF t).right=true:=B1l (P:=λ_=>True) n2 ra hb.1;refine⟨rf,Tm.Ir.2 ⟨rfl,λx hx=>?_⟩,?_⟩
 ·have:x=DW t:=by simpa[DF]using hx
  rw[this];exact hb.2.1
 ·rw[A9U rf rfl];show(if GD [] t.a=true then(ck (DW t) [⟨t.arg,t.a,[]⟩] []).bind _ else _)=_;rw[D5 ia,hb.2.2];rfl
def WT.Qb{v:Tm}(h:WT v [] A)(hv:v.L9=true)(h1:1<=A.A8)(h4:A.A8<=4):v.A8=A.A8+1:=by
 rcases h.canon hv with⟨x,y⟩ | ⟨x,y⟩ | ⟨x,y⟩ | ⟨x,y⟩ | ⟨x,y⟩ | ⟨x,y,z⟩
 ·omega
 ·omega
 ·omega
 ·omega
 ·omega
 ·have:=jX z (by rw[<- y];omega);rw[<- y]at this;omega
theorem B84(h:WT t [] A)(k:t.A8=10)(v0:(t.kd 0).L9=true)(v1:(t.kd 1).L9=true):zP isFin A (qX (t.kd 0) (t.kd 1)):=by
 obtain⟨F,Y,w0,w1,o⟩:=h.two (by omega);unfold Ea at o;simp only[k,Int.reduceEq,F9,H5,z7q,znq]at o;obtain⟨⟨kF,eY⟩,e⟩:=JK o;cases e;subst eY;unfold qX;rcases w0.canon v0 with⟨x,y⟩ | ⟨x,y⟩ | ⟨x,y⟩ | ⟨x,y⟩ | ⟨x,y⟩ | ⟨x,y,z⟩
 ·omega
 ·omega
 ·rw[D5 x];have c:=w0.c;rw[A9U w0.r x]at c;obtain⟨-,c⟩:=JK c;obtain⟨q,c1,c2⟩:=Except.bind_ok c;cases c2;obtain⟨b1,b2⟩:=w0.YB (show 0<(t.kd 0).D6.length by rw[Tm.B_ w0.r (.inl x)];omega);exact yE ⟨b1,b2,c1⟩ w1
 ·omega
 ·omega
 ·have az:=jX z (by rw[<- y];omega);rw[<- y]at az;obtain⟨u0,-,ct⟩:=w0.cast x;subst y;obtain⟨-,-,h0,h1⟩:=Tm.BG w0.r x;have ka:(t.kd 0).a.A8=9:=by omega
  have la:(t.kd 0).a.D6.length=2:=xw ct.ra (by rw[ka];rfl);have lb:(t.kd 0).b.D6.length=2:=xw ct.rb (by rw[kF];rfl);rw[C8 (by omega),C8 (by omega)];have cx:=(ct.kd (i:=0) (by omega) (by omega) (by omega) (by omega)).comm;have cy:=ct.kd (i:=1) (by omega) (by omega) (by omega) (by omega);have wx:WT (J8 (t.kd 0) (!(t.kd 0).neg) ((t.kd 0).b.kd 0) ((t.kd 0).a.kd 0) (t.kd 1)) [] ((t.kd 0).a.kd 0):=WT.J8 h0 h1 cx w1;refine WT.J8 h0 h1 cy ?_;have ra:=B0U u0.r wx.r;refine⟨ra,Tm.Ir.2 ⟨rfl,λq hq=>?_⟩,?_⟩
  ·simp only[Tm.U6,zNq,zLq,or_false]at hq;rcases hq with g | g
   ·rw[g];exact u0.n
   ·rw[g];exact wx.n
  ·rw[jh (by right;right;left;rfl)];simp only[Tm.U6,zeq,zfq,Aa,u0.c,wx.c,Except.bind];unfold Ea;simp only[Tm.Cn,Int.reduceEq,F9,H5,z7q,znq];rw[D5 ⟨ka,rfl⟩];rfl
def A9f{k n:Int}(r:(YH k n).right=true)(h:k=2\/k=3):WT (YH k n) [] (.mk (k-1) 0 []) :=⟨r,Tm.Ir.2 ⟨rfl,λx hx=>by cases hx⟩,A4j (by show k=2\/k=3\/k=4\/k=5;omega) _ _⟩
def C13(h:WT t [] A)(k:t.A8=15)(v0:(t.kd 0).L9=true)(v1:(t.kd 1).L9=true):zP isFin A (gH t (t.kd 0) (t.kd 1)):=by
 obtain⟨X,Y,w0,w1,o⟩:=h.two (by omega);have ro:1<=t.op/\t.op<=7:=by have q:=Tm.Z4 h.r;unfold Tm.one Tm.Kv Tm.LW Tm.LX Tm.Mc Tm.Nj Tm.lists at q;simp[k,BU]at q;omega
 unfold Ea at o;simp only[k,Int.reduceEq,F9,H5,z7q,znq]at o;have keep:∀u,gH t (t.kd 0) (t.kd 1)=.ok u->u.right=true:=λu hu=>(B6Y hu).r;by_cases o7:t.op=7
 ·rw[D5 o7]at o;obtain⟨⟨g1,g2⟩,e⟩:=JK o;cases e;have q0:=w0.Qb v0 (by omega) (by omega);have q1:=w1.Qb v1 (by omega) (by omega);have e:gH t (t.kd 0) (t.kd 1)=.ok (YH 3 (if (t.kd 0).s=(t.kd 1).s then 1 else 0)):=by unfold gH;rw[D5 o7,C8 (by omega),D5 o7]
  have r:=keep _ e;rw[e];exact A9f r (.inr rfl)
 ·rw[C8 o7]at o;obtain⟨⟨g1,g2⟩,e⟩:=JK o;have q0:=w0.Qb v0 (by omega) (by omega);have q1:=w1.Qb v1 (by omega) (by omega);have e1:gH t (t.kd 0) (t.kd 1)=match iE t.op (t.kd 0).n (t.kd 1).n with
   |some n=>.ok (YH (if 5<=t.op then 3 else 2) n)
   |none=>.fin (atR 3 t.lo t.hi):=by
   unfold gH;rw[C8 o7,C8 (by omega),C8 o7];cases iE t.op (t.kd 0).n (t.kd 1).n<;>rfl
  cases hn:iE t.op (t.kd 0).n (t.kd 1).n with
  |none=>rw[e1,hn];exact .inr (.inl rfl)
  |some n=>
    rw[hn]at e1;have r:=keep _ e1;rw[e1];have eA:A=.mk ((if 5<=t.op then 3 else 2)-1) 0 []:=by
     cases e;congr 1;by_cases h5:5<=t.op
     ·rw[D5 h5,D5 (by omega)];rfl
     ·rw[C8 h5,C8 (by omega)];rfl
    rw[eA];exact A9f r (by split<;>omega)
def B7R(h:WT t [] A)(nv:t.L9=false)(hv:∀i,i<Z9 t.A8->(t.kd i).L9=true):zP isFin A (QY t):=by
 have rk:=Tm.aQ h.r;have tv:=Tm.Ir.1 h.n;unfold QY;by_cases k10:t.A8=10
 ·rw[D5 k10];rw[k10]at hv;exact B84 h k10 (hv 0 (by decide)) (hv 1 (by decide))
 rw[C8 k10];by_cases k11:t.A8=11
 ·rw[D5 k11,tv.1];have l2:=Tm.EF h.r (by omega);have c:=h.c;rw[C3r h.r k11 tv.1]at c;obtain⟨y,c0,c1⟩:=Except.bind_ok c;obtain⟨a1,a2⟩:=h.YB (show 0<t.D6.length by omega);obtain⟨b1,b2⟩:=h.YB (show 1<t.D6.length by omega);exact yE ⟨b1,b2,c1⟩ ⟨a1,a2,c0⟩
 rw[C8 k11];by_cases k12:t.A8=12
 ·rw[D5 k12,tv.1];obtain⟨w0,w1⟩:=B4A h k12;exact yE w1 w0
 rw[C8 k12];by_cases k13:t.A8=13
 ·rw[D5 k13];rw[k13]at hv;obtain⟨X,kX,w0,w1,w2⟩:=h.three k13;have:=w0.Qb (hv 0 (by decide)) (by omega) (by omega);rw[C8 (by omega)];show WT _ _ _;split
  ·exact w1
  ·exact w2
 rw[C8 k13];by_cases k15:t.A8=15
 ·rw[D5 k15];rw[k15]at hv;exact C13 h k15 (hv 0 (by decide)) (hv 1 (by decide))
 rw[C8 k15];by_cases k14:t.A8=14
 ·rw[D5 k14];rw[k14]at hv;have hl:=Tm.A67 h.r k14;have c:=h.c;rw[B9h h.r k14]at c;obtain⟨y,c0,c1⟩:=Except.bind_ok c;obtain⟨a1,a2⟩:=h.YB (show 0<t.D6.length by omega);exact A8e h.r k14 h.n ⟨a1,a2,c0⟩ (hv 0 (by decide)) c1 t.H8 0 rfl
 rw[C8 k14];by_cases k16:t.A8=16
 ·rw[D5 k16];rw[k16]at hv;have l1:=Tm.B_ h.r (.inr k16);have WJ:=hv 0 (by decide);refine(jd h k16 WJ ?_).weak;rw[Tm.FY,C8 (by omega),C8 (by omega),D5 k16,Tm.Ib l1]at nv;simpa[WJ]using nv
 exfalso;by_cases k1:t.A8=1
 ·have c:=h.c;rw[LF]at c;unfold De at c;rw[D5 k1]at c;cases c
 rw[Tm.FY]at nv;by_cases k2:t.A8=2\/t.A8=3\/t.A8=4\/t.A8=5\/t.A8=7\/t.A8=9
 ·rw[D5 k2]at nv;cases nv
 ·have k6:t.A8=6\/t.A8=8:=by omega
  have l2:=Tm.EF h.r (by omega);have m:Z9 t.A8=2:=by unfold Z9;rw[D5 (by omega)]
  rw[C8 k2,D5 k6,Tm.A4r l2]at nv;simp[hv 0 (by omega),hv 1 (by omega)]at nv
def B8Q(t:Tm):∀A,WT t [] A->t.L9=false->zP isFin A t.EW:=by
 induction t using Tm.ind with
 |h t ih=>
   intro A h nv;cases hd:NT (Z9 t.A8) t.D6 with
   |none=>rw[Tm.Zl,hd];exact B7R h nv λi hi=>nu hd i hi
   |some i=>
     obtain⟨hi,hv⟩:=iY hd;obtain⟨hb,k1⟩:=Tm.ML hi;have hi':i<t.D6.length:=Nat.lt_of_lt_of_le hi (Tm.Ku h.r);rw[yX h.r hd];obtain⟨Y,w⟩:=h.C2Z hb hi';have d:=ih _ (Tm.U4 hi') Y w hv;cases hs:(t.kd i).EW with
     |fin r=>rw[hs]at d;exact d
     |ok x=>
       rw[hs]at d;refine WT.set h k1 hb hi' λY' hY=>?_;have:Y'=Y:=by have:=hY.c;rw[w.c]at this;cases this;rfl
       rw[this];exact d
end Go.Su

/-
 The calculus: what is closed; what is small; the runs that the statements go along with.
-/
namespace Go.Su
set_option linter.defProp false
def A7p(l:List ByteArray):L6 (N7 l)=some (iI (l.length:Int)):=by unfold N7;rw[N8,z1q]
theorem len_nil{α : Type}(l:List α):decide ((l.length:Int)=0)=decide (l=[]):=by
 rw[decide_eq_decide];constructor
 ·intro h;exact zaq (by omega)
 ·intro h;rw[h];rfl
variable {t:Tm}
def B0u(ft:t.fit)(hm:2 * t.Q3<=J9):C9.p La [t.A9]=some (.bool (decide (t.right=true/\t.free=[]))):=by
 refine(oP _).trans ?_;rw[tT];simp only[I8,F4,U5,fC t ft,J4,P6,J5,F5]
 by_cases rt:t.right=true
 ·rw[D5 rt,D5 rfl,B5e t ft hm,D5 rt];simp only[J4,A7p,P6,len_nil];simp[rt]
 ·rw[C8 rt,C8 (by decide)];simp[rt]
def QT.closed(ht:QT t)(hz:t.size<=1200):C9.p La [t.A9]=some (.bool true):=by rw[B0u (QB.fit t ht.toQB) (by have:=ht.toQB.Q3 hz;unfold J9;omega)];simp[ht.r,ht.f]
def A07(ht:QT t)(hz:t.size<=1200):C9.p Qg [t.A9]=some (.bool t.L9):=by refine(uS _).trans ?_;rw[zU];simp only[I8,F4,U5,ht.closed hz,J4,J5,H5,FP t ht.r]
def B4R(ht:QT t)(hz:t.size<=1200)(hv:t.L9=false):C9.p PW [t.A9]=some t.EW.A9:=by refine(dh _).trans ?_;rw[jr];simp only[I8,F4,U5,ht.closed hz,J4,P9,E9,z5q,z0q,F9,FP t ht.r,hv,B4S t ht hz,SR.J_]
def CTR(M U a s m:Nat):Prop:=a+s<=M/\m=a+s\/M<a+s/\M<m/\m<=U
def w_{α : Type}{M U:Nat}(f : α->Nat)(hf:∀x,0<f x)(l:List α)(P:Nat->Nat->Option DV)(fin:Nat->Option DV)(stop:∀i a,i<=l.length->(i=l.length\/M<a)->P i a=fin a)(step:∀i (h:i<l.length) a,i<=a->a<=M->∃m:Nat,CTR M U a (f l[i]) m/\P i a=P (i+1) m):∀(k i a:Nat),i+k=l.length->i<=a->a<=M->∃m:Nat,P i a=fin m/\CTR M U a ((l.drop i).map f).sum m:=by
 intro k;induction k with
 |zero=>intro i a hi ha hm;refine⟨a,stop i a (by omega) (.inl (by omega)),.inl ?_⟩;rw[zbq (by omega)];simp only[zfq,zpq];omega
 |succ k ih=>
   intro i a hi ha hm;have h:i<l.length:=by omega
   obtain⟨m,hc,e⟩:=step i h a ha hm;have p:=hf l[i];rw[e,z3q h,zeq,zEq];rcases hc with⟨c1,c2⟩ | ⟨c1,c2,c3⟩
   ·obtain⟨m',e1,e3⟩:=ih (i+1) m (by omega) (by omega) (by omega);refine⟨m',e1,?_⟩;rcases e3 with⟨g1,g2⟩ | ⟨g1,g2,g3⟩
    ·exact .inl ⟨by omega,by omega⟩
    ·exact .inr ⟨by omega,g2,g3⟩
   ·exact⟨m,stop _ _ (by omega) (.inr c2),.inr ⟨by omega,c2,c3⟩⟩
theorem add1{n:Nat}(h:n<9223372036854775807):D7 .add (iI (n:Int)) (iI 1)=some (iI ((n+1:Nat):Int)):=by rw[Ag,X7 (by omega) (by omega)];rfl
def B6F{M a s r m:Nat}{P:Option DV}(hM:0<M)(ha:a<=M)(hz:s=1+r)(h0:M<a+1->P=some (iI ((a+1:Nat):Int)))(h1:a+1<=M->∃m:Nat,P=some (iI (m:Int))/\CTR M (M+1) (a+1) r m):
 ∃m:Nat,P=some (iI (m:Int))/\CTR M (M+1) a s m:=by
 by_cases h:a+1<=M
 ·obtain⟨m,e,c⟩:=h1 h;refine⟨m,e,?_⟩;rcases c with⟨c1,c2⟩ | ⟨c1,c2,c3⟩
  ·exact .inl ⟨by omega,by omega⟩
  ·exact .inr ⟨by omega,c2,c3⟩
 ·exact⟨a+1,h0 (by omega),.inr ⟨by omega,by omega,by omega⟩⟩
def mr(t:Ty):∀a:Nat,a<=20000->∃m:Nat,C9.p Ef [t.A9,iI (a:Int)]=some (iI (m:Int))/\CTR 20000 20001 a t.size m:=by
 induction t using Ty.ind with
 |h t ih=>
   intro a ha;rw[Tt,VT];simp only[R9,F4,add1 (show a<9223372036854775807 by omega),J4]
   refine B6F (r:=(t.D6.map Ty.size).sum) (m:=0) (by omega) ha t.size_eq (λh=>?_) (λh=>?_)
   ·rw[Hq,Ty.En];simp only[N8,z1q,J6,BH,J4,J5,E9,F5];rw[C8 (show ¬((a+1:Nat):Int)<=20000 by omega),ite_self]
   ·have lp:=w_ (M:=20000) (U:=20001) Ty.size Ty.Ed t.D6 (λi a=>Dz C9 (iI (a:Int)) (iI (i:Int)) t.A9) (λm=>some (iI (m:Int)))
          (λi a hi h=>by
            show Dz C9 (iI (a:Int)) (iI (i:Int)) t.A9=_;rw[Hq,Ty.En];simp only[N8,z1q,J6,BH,J4,J5,E9,F5];rcases h with h | h
            ·rw[C8 (by omega)]
            ·by_cases hl:i<t.D6.length
             ·rw[D5 (by omega),C8 (by omega)]
             ·rw[C8 (by omega)])
          (λi h a hi hM=>by
            obtain⟨m,g1,g2⟩:=ih _ (z6q h) a hM;refine⟨m,g2,?_⟩;show Dz C9 (iI (a:Int)) (iI (i:Int)) t.A9=Dz C9 (iI (m:Int)) (iI ((i+1:Nat):Int)) t.A9;rw[Hq,Ty.En];simp only[N8,z1q,J6,BH,J4,J5,E9,F5];rw[D5 (by omega),D5 (by omega),J3 h];simp only[J4,Rv,g1,add1 (show i<9223372036854775807 by omega)])
            t.D6.length 0 (a+1) (by omega) (by omega) h
    rw[zcq]at lp;exact lp
theorem B2x(t:Ty):C9.p Ef [t.A9,iI 20001]=some (iI 20002):=by rw[Tt,VT];simp only[R9,F4,Ag,J4];rw[X7 (by omega) (by omega),Hq,Ty.En];simp only[N8,J6,BH,J4,J5,E9,F5];rw[C8 (show ¬(20001+1:Int)<=20000 by omega),ite_self];rfl
variable (t:Tm)
def B4V:∀a:Nat,a<=1200->∃m:Nat,C9.p Lj [t.A9,iI (a:Int)]=some (iI (m:Int))/\CTR 1200 1201 a t.size m:=by
 induction t using Tm.ind with
 |h t ih=>
   intro a ha;rw[fq,kE];simp only[I8,F4,add1 (show a<9223372036854775807 by omega),J4]
   refine B6F (r:=(t.D6.map Tm.size).sum) (m:=0) (by omega) ha t.size_eq (λh=>?_) (λh=>?_)
   ·rw[LG,Tm.CK];simp only[N8,z1q,J6,BH,J4,J5,E9,F5];rw[C8 (show ¬((a+1:Nat):Int)<=1200 by omega),ite_self]
   ·have lp:=w_ (M:=1200) (U:=1201) Tm.size Tm.Ed t.D6 (λi a=>Dy C9 (iI (a:Int)) (iI (i:Int)) t.A9) (λm=>some (iI (m:Int)))
          (λi a hi h=>by
            show Dy C9 (iI (a:Int)) (iI (i:Int)) t.A9=_;rw[LG,Tm.CK];simp only[N8,z1q,J6,BH,J4,J5,E9,F5];rcases h with h | h
            ·rw[C8 (by omega)]
            ·by_cases hl:i<t.D6.length
             ·rw[D5 (by omega),C8 (by omega)]
             ·rw[C8 (by omega)])
          (λi h a hi hM=>by
            obtain⟨m,g1,g2⟩:=ih _ (z6q h) a hM;refine⟨m,g2,?_⟩;show Dy C9 (iI (a:Int)) (iI (i:Int)) t.A9=Dy C9 (iI (m:Int)) (iI ((i+1:Nat):Int)) t.A9;rw[LG,Tm.CK];simp only[N8,z1q,J6,BH,J4,J5,E9,F5];rw[D5 (by omega),D5 (by omega),J3 h];simp only[J4,U5,g1,add1 (show i<9223372036854775807 by omega)])
            t.D6.length 0 (a+1) (by omega) (by omega) h
    rw[zcq]at lp;exact lp
def Tm.C4D:0<t.YQ:=by have:=t.B5n;have:=t.a.Ed;omega
def B2y:∀a:Nat,a<=20000->∃m:Nat,C9.p KY [t.A9,iI (a:Int)]=some (iI (m:Int))/\CTR 20000 20002 a t.YQ m:=by
 induction t using Tm.ind with
 |h t ih=>
   intro a ha;have z:=t.B5n;have pa:=t.a.Ed;have pb:=t.b.Ed;have C3e:∀m:Nat,20000<m->Av C9 (iI (m:Int)) (iI 0) t.A9=some (iI (m:Int)):=by intro m hm;rw[Jn,Tm.CK];simp only[N8,z1q,J6,BH,J4,J5,E9,F5];rw[C8 (show ¬(m:Int)<=20000 by omega)];simp only[ite_self]
   have C3d:∀m:Nat,20000<m->Be C9 (iI (m:Int)) (iI 0) t.A9=some (iI (m:Int)):=by intro m hm;rw[Jm,Tm.Kw];simp only[N8,z1q,J6,BH,J4,J5,E9,F5,C3e m hm];rw[C8 (show ¬(m:Int)<=20000 by omega)];simp only[ite_self]
   rw[bI,fU];simp only[I8,F4,wH,tmB];obtain⟨m1,a1,c1⟩:=mr t.a a ha;rw[a1];simp only[J4];rcases c1 with⟨c1,c2⟩ | ⟨c1,c2,c3⟩
   ·obtain⟨m2,b1,d1⟩:=mr t.b m1 (by omega);rw[b1];simp only[J4];rcases d1 with⟨d1,d2⟩ | ⟨d1,d2,d3⟩
    ·have lp:=w_ (M:=20000) (U:=20001) Ty.size Ty.Ed t.args (λi a=>Be C9 (iI (a:Int)) (iI (i:Int)) t.A9) (λm=>Av C9 (iI (m:Int)) (iI 0) t.A9)
      (λi a hi h=>by
        show Be C9 (iI (a:Int)) (iI (i:Int)) t.A9=_;rw[Jm,Tm.Kw];simp only[N8,z1q,J6,BH,J4,J5,E9,F5];rcases h with h | h
        ·rw[C8 (by omega)]
        ·by_cases hl:i<t.args.length
         ·rw[D5 (by omega),C8 (by omega)]
         ·rw[C8 (by omega)])
      (λi h a hi hM=>by
        obtain⟨m,g1,g2⟩:=mr t.args[i] a hM;refine⟨m,g2,?_⟩;show Be C9 (iI (a:Int)) (iI (i:Int)) t.A9=Be C9 (iI (m:Int)) (iI ((i+1:Nat):Int)) t.A9;rw[Jm,Tm.Kw];simp only[N8,z1q,J6,BH,J4,J5,E9,F5];rw[D5 (by omega),D5 (by omega),J3 h];simp only[J4,Rv,g1,add1 (show i<9223372036854775807 by omega)])
         t.args.length 0 m2 (by omega) (by omega) (by omega)
     obtain⟨m3,e1,f1⟩:=lp;rw[zcq]at f1;have e1:Be C9 (iI (m2:Int)) (iI 0) t.A9=_:=e1;rw[e1];rcases f1 with⟨f1,f2⟩ | ⟨f1,f2,f3⟩
     ·have lp:=w_ (M:=20000) (U:=20002) Tm.YQ Tm.C4D t.D6 (λi a=>Av C9 (iI (a:Int)) (iI (i:Int)) t.A9) (λm=>some (iI (m:Int)))
       (λi a hi h=>by
         show Av C9 (iI (a:Int)) (iI (i:Int)) t.A9=_;rw[Jn,Tm.CK];simp only[N8,z1q,J6,BH,J4,J5,E9,F5];rcases h with h | h
         ·rw[C8 (by omega)]
         ·by_cases hl:i<t.D6.length
          ·rw[D5 (by omega),C8 (by omega)]
          ·rw[C8 (by omega)])
       (λi h a hi hM=>by
         obtain⟨m,g1,g2⟩:=ih _ (z6q h) a hM;refine⟨m,g2,?_⟩;show Av C9 (iI (a:Int)) (iI (i:Int)) t.A9=Av C9 (iI (m:Int)) (iI ((i+1:Nat):Int)) t.A9;rw[Jn,Tm.CK];simp only[N8,z1q,J6,BH,J4,J5,E9,F5];rw[D5 (by omega),D5 (by omega),J3 h];simp only[J4,U5,g1,add1 (show i<9223372036854775807 by omega)])
          t.D6.length 0 m3 (by omega) (by omega) (by omega)
      obtain⟨m4,g1,h1⟩:=lp;rw[zcq]at h1;refine⟨m4,g1,?_⟩;rcases h1 with⟨h1,h2⟩ | ⟨h1,h2,h3⟩
      ·exact .inl ⟨by omega,by omega⟩
      ·exact .inr ⟨by omega,h2,h3⟩
     ·exact⟨m3,C3e m3 f2,.inr ⟨by omega,f2,by omega⟩⟩
    ·exact⟨m2,C3d m2 d2,.inr ⟨by omega,d2,by omega⟩⟩
   ·have e:m1=20001:=by omega
    have s1:C9.p Ef [t.b.A9,iI ((20001:Nat):Int)]=some (iI 20002):=B2x t.b;rw[e,s1];simp only[J4];exact⟨20002,C3d 20002 (by omega),.inr ⟨by omega,by omega,by omega⟩⟩
def nE:C9.p Zu [t.A9]=some (.bool (decide (t.size<=1200/\t.YQ<=20000))):=by
 obtain⟨m,a1,a2⟩:=B4V t 0 (by omega);obtain⟨n,b1,b2⟩:=B2y t 0 (by omega);refine(A0G _).trans ?_;rw[A2x];have a1:C9.p Lj [t.A9,iI 0]=some (iI (m:Int)):=a1;have b1:C9.p KY [t.A9,iI 0]=some (iI (n:Int)):=b1;simp only[I8,F4,U5,a1,b1,J4,BH,J5,F5];have e1:((m:Int)<=1200)↔t.size<=1200:=by rcases a2 with⟨h1,h2⟩ | ⟨h1,h2,h3⟩<;>omega
 have e2:((n:Int)<=20000)↔t.YQ<=20000:=by rcases b2 with⟨h1,h2⟩ | ⟨h1,h2,h3⟩<;>omega
 by_cases h:t.size<=1200
 ·rw[D5 (e1.2 h)];simp only[e2,h,true_and]
 ·rw[C8 (λg=>h (e1.1 g))];simp only[h,false_and,R4]
def Tm.small:Prop:=t.size<=1200/\t.YQ<=20000
noncomputable instance (t:Tm):Decidable t.small:=Classical.propDecidable _
noncomputable def A4E:Nat->Tm->Bool
 |0,_=>true
 |n+1,t=>if t.L9=true then true else match t.EW with | .fin _=>true | .ok x=>if x.small then A4E n x else false
structure A9P(n:Nat)(t:Tm):Prop where
 q:QT t
 z:t.size<=1200
 f:A4E n t=true
def A9P.step{n:Nat}{t x:Tm}(h:A9P (n+1) t)(hv:t.L9=false)(hs:t.EW=.ok x):A9P n x:=by
 have hf:=h.f;rw[A4E,C8 (by rw[hv];simp),hs]at hf;simp only at hf;by_cases sm:x.small
 ·rw[D5 sm]at hf;exact⟨(B1W t h.q x hs).qt sm.2,sm.1,hf⟩
 ·rw[C8 sm]at hf;cases hf
def C7M(F:Nat)(hF:F<4294967296):∀(k i:Nat)(t:Tm),i+k=F->QT t->t.size<=1200->Mr C9 (iI (F:Int)) (iI (i:Int)) t.A9=some (.bool (A4E k t)):=by
 intro k;induction k with
 |zero=>intro i t hi ht hz;rw[RB];simp only[J6,J4,J5,F5];rw[C8 (by omega)];rfl
 |succ k ih=>
   intro i t hi ht hz;rw[RB,A4E];simp only[J6,J4,J5,E9,F5,U5,TG t ht.r,P9];rw[D5 (by omega)];cases hv:t.L9 with
   |true=>rfl
   |false=>
     simp only[zgq,H5,z0q,F9,B6n t ht hz,J4,SR.mM,SR.mO];cases hs:t.EW with
     |fin r=>have ne:=(yV t ht.r r hs).ne0;simp only[I8,Q5,F4,Nz,J4,E9,z4q,Q8];rw[D5 ne]
     |ok x=>
       have kx:=B1W t ht x hs;simp only[I8,Q5,F4,Nz,show(Bc 0).A8=0 from rfl,J4,E9,L8,z5q,z0q,F9,U5,nE,P9,z4q,Q8,add1 (show i<9223372036854775807 by omega)]
       by_cases sm:x.small
       ·rw[C8 (show ¬¬(x.size<=1200/\x.YQ<=20000)from λh=>h sm),D5 sm];exact ih (i+1) x (by omega) (kx.qt sm.2) sm.1
       ·rw[D5 (show ¬(x.size<=1200/\x.YQ<=20000)from sm),C8 sm]
def B54{t:Tm}(hm:t.Q3<=1048576)(rt:t.right=true)(cl:t.free=[]){F:Nat}(hF:F<4294967296):∃b:Bool,C9.p KM [t.A9,iI (F:Int)]=some (.bool b)/\(b=true->A9P F t):=by
 have ft:t.fit:=Tm.kR (by omega);by_cases sm:t.size<=1200/\t.YQ<=20000
 ·have q:QT t:=QO.qt ⟨rt,Own.Q3 t hm,cl⟩ sm.2;refine⟨A4E F t,(Km _ _).trans ?_,λh=>⟨q,sm.1,h⟩⟩;rw[ME];simp only[I8,F4,U5,nE,J4,P9,E9,J5,z4q,Q8,Kz t ft,rt,zYq,F9,rX t ft rt (by unfold J9;omega),cl,A7p,z9q,Ah,F5]
  rw[C8 (λh=>h sm),C8 (by decide)];exact C7M F hF F 0 t (by omega) q sm.1
 ·refine⟨false,(Km _ _).trans ?_,λh=>by cases h⟩;rw[ME];simp only[I8,F4,U5,nE,J4,P9,E9,J5,z4q,Q8];rw[D5 sm]
end Go.Su

/-
 What the closed call of l25_wakes gives: by rewriting.
-/
namespace Go.Su
set_option linter.defProp false
def C4Y:Om []=.list 1 []:=by simp[Om,Jz]
attribute [local congr] C7y C7A C7D C6g C6f C5Z
set_option maxHeartbeats 40000000 in
set_option maxRecDepth 100000 in
def Ps:C9.p IQ []=some (.bool true):=by simp(maxSteps:=2000000) (implicitDefEqProofs:=false) [C7B,A5z,zV,A2H,A5A,A2I,A5B,za,A2J,zb,uY,nz,fJ,kT,zY,jw,Ta,TZ,uV,A8C,dY,ZB,A58,oJ,RD,kY,C_,CW,Gb,fV,bJ,Nv,NV,A0b,Tn,uw,Hr,Cb,Gz,RF,Ij,QW,A2u,uE,XZ,VR,A0D,A2r,XV,A0A,A0a,VV,uu,A5W,A26,kL,Pt,fu,A0l,Va,Vb,kM,vF,KD,Je,B08,j_,A8N,A52,A3c,A0m,vG,uP,fZ,om,uH,Tf,oZ,A8F,A6b,A50,A3a,oL,kZ,MF,FB,LQ,A5H,A2Q,XK,MC,VE,xF,nL,nM,uX,B3z,B2f,B5B,B3L,B7D,B5H,Qx,PE,QS,Qy,OY,kE,LG,fq,fU,Jm,Jn,bI,A0j,VZ,vC,A5G,A2P,A2x,A0G,A0c,uy,A8E,df,ZF,ZG,A6a,A5T,zu,ZE,A23,uI,fQ,fT,oh,aF,ZI,uL,Xh,tT,oP,zg,jy,uf,A5V,Gy,Fv,Fu,Fw,Fx,Fz,Fy,F_,uJ,GA,A25,kK,uM,Xb,Xc,VW,d_,jv,fo,A2b,A0n,A5Y,A28,zf,uZ,A5Z,A0g,A0h,A0i,uN,uO,A29,A2A,A0J,B1a,A8P,kJ,dw,A5I,Yv,A2R,B09,kC,A8O,tu,Td,oU,zk,VP,VQ,uj,A5F,A2O,A8B,zm,Y_,A57,A2o,A0x,A2m,A0v,A5E,A2N,A8z,dV,dW,A55,zn,uk,A5U,A24,A8D,dZ,A59,oH,fP,RA,kW,zz,uq,A2w,QV,Kk,A0F,A0d,oK,uz,EB,MW,FC,DZ,A2i,XN,A0r,A5L,VD,Yx,A2U,A2D,Xe,A0M,A2z,A0I,kP,YY,WB,NU,QR,bH,fw,A2B,A0K,t_,Te,oV,A5Q,uF,A20,A5S,zq,ZC,Xa,A22,A2n,XQ,A0w,oC,Q_,kU,A5D,Yu,A2M,A8A,dX,A56,A5M,Yy,zh,zi,A2V,A2s,uB,A0B,zy,uo,A8G,ZH,A6c,A2v,A0E,A8H,A6d,uK,kG,kH,ol,zw,kD,Tk,Tg,um,z_,oI,VU,ut,A5X,A27,A2y,A0H,tQ,oO,A2c,A0o,zZ,VO,Kj,Tc,fK,Jd,Qw,fM,uW,A2j,XO,A0s,A5J,Yw,A2S,VT,Hq,Tt,A2k,XP,A0t,A2t,XY,A0C,A5P,A2Z,A5C,A2L,ME,RB,Km,B5A,A92,B2a,A8w,A91,B3K,B3C,A93,B2i,zU,uS,jr,dh,CV,QU,OV,OW,Bt,XJ,TK,TL,WF,A51,ZJ,A3b,tZ,fO,Qz,oQ,A2d,A0p,A2h,XM,A0q,A5O,ZA,A2X,A5K,A2T,oM,kg,A0f,vB,A0k,vD,A0e,VX,VY,Tp,u_,A2C,Xd,A0L,A5N,zl,Yz,XR,A2W,A2q,XU,A0z,A2p,XT,A0y,A2l,A0u,zo,VS,ul,zW,ny,uT,zX,uU,UB,TH,C4Y,C1q,flatK,B7H,A6v,C17,B70,C3p,C2K,B9T,B9U,C7Z,C70,C71,C72,C73,C74,C75,C76,C77,C78,C65,C66,C67,C68,C69,C7a,C79,C8a,C8b,C8c,C8d,C8e,C8f,C8g,C55,C54,C57,C56,GJ,Ag,A6W,FX,X7,J9,C5r,C5l,C1f,B9x,C62,C63,Ao,C5m,C5q,C0a,C6F,C6D,C6E,C6C,B8u,B4C,mi,pack,C2z,C4U,C4T,C4V,C4W,C4X,C0I,C0K,C0J,C0L,C0M,C40,C6V,C0O,C0P,B5o,B5p,C0D,C0G,C0E,C0F,C6U,C6T,C6R,C6S,C4M,C4L,C0N,C0Q,C4F,C4E,C4J,C4G,C4H,C4I,C4O,C4N,C4S,C4P,C4Q,C4R,C4K,C6Q,B8T,C0H,C2A,C2B,C2C,C2D,C4Z,Ic,M6,C5p,C5o,C5n,C3u,-F8,-E9,-J5,↓F8,↓C12,↓F4,↓B99,↓C3c,↓C3b,↓C3a,↓C29,F8,C3c,C3b,C3a,C29]
end Go.Su

/-
 The law CalcTyped answers true on data.
-/
namespace Go.Su
set_option linter.defProp false
def B59(t:Tm):t.fit->C9.p gK [t.A9]=some (.bool (decide (t.vs≠[]))):=by
 induction t using Tm.ind with
 |h t ih=>
   intro ft;have kl:t.D6.length<=J9:=zGq ft.one.D6;refine(B3M _).trans ?_;rw[B5C];have lv:L6 (K6 t.vars)=some (iI t.vars.length):=Gx _;simp only[I8,F4,Tm.PP,lv,J4,Ah,E9,F5]
   by_cases hv:t.vars=[]
   ·rw[hv,C8 (by decide)];have loop:=pR (l:=t.D6) (f:=λk=>decide (k.vs≠[])) (P:=λi=>Uh C9 (iI i) t.A9) (by rw[tY];simp)
     (λi h=>by rw[tY];simp[h,J3 h,Tm.M5,Tm.ag,ih _ (z6q h) (ft.kid (z6q h)),O8 (show i<9223372036854775807 by unfold J9 at kl;omega)])
    rw[loop];congr 2;rw[Bool.eq_iff_iff,List.any_eq_true,F5,Ne,Tm.Ir];constructor
    ·rintro⟨k,hk,hn⟩ ⟨-,h⟩;exact(of_decide_eq_true hn) (h k hk)
    ·intro h;apply Classical.byContradiction;intro hn;refine h ⟨hv,λk hk=>?_⟩;apply Classical.byContradiction;intro g;exact hn ⟨k,hk,decide_eq_true g⟩
   ·have:=zsq.2 hv;have hn:t.vs≠[]:=λh=>hv (Tm.Ir.1 h).1;rw[D5 (by omega),decide_eq_true hn]
variable {t:Tm}
theorem B2p(ht:QT t)(hz:t.size<=1200)(hv:t.L9=true):C9.p PW [t.A9]=some (.I4 [t.A9,(Bc 1).A9]):=by refine(dh _).trans ?_;rw[jr];simp only[I8,F4,U5,ht.closed hz,J4,P9,E9,z5q,z0q,F9,FP t ht.r,hv,H5];rfl
def B17(ft:t.fit)(rt:t.right=true)(hm:2 * t.Q3<=J9)(cl:t.free≠[]){F:Nat}:∃b:Bool,C9.p KM [t.A9,iI (F:Int)]=some (.bool b):=by
 by_cases sm:t.size<=1200/\t.YQ<=20000
 ·refine⟨true,(Km _ _).trans ?_⟩;rw[ME];simp only[I8,F4,U5,nE,J4,P9,E9,J5,z4q,Q8,Kz t ft,rt,zYq,F9,rX t ft rt hm,A7p,Ah,F5];have:=zsq.2 cl;rw[C8 (λh=>h sm),D5 (by omega)]
 ·refine⟨false,(Km _ _).trans ?_⟩;rw[ME];simp only[I8,F4,U5,nE,J4,P9,E9,J5,z4q,Q8];rw[D5 sm]
theorem e0t(a b:DV):K5 0 (.I4 [a,b])=some a:=rfl
theorem e1t(a b:DV):K5 1 (.I4 [a,b])=some b:=rfl
theorem k0r(r:GZ):A7 0 r.A9=.int .i64 r.A8:=rfl
def QT.C7R(h:QT t)(hz:t.size<=1200):t.wide<=J9:=by have:=t.B12;have:=h.toQB.Q3 hz;unfold J9;omega
def C2q{A:Ty}(h:QT t)(hz:t.size<=1200)(w:WT t [] A):C9.p KW [t.A9]=some (.I4 [A.A9,iI 0]):=by have c:=A1b t (QB.fit t h.toQB) (h.C7R hz);unfold A8m at c;rw[D5 w.r,w.c]at c;exact c
theorem C6P{N:Nat}(hN:N<=12):∀(j i:Nat)(t:Tm)(A:Ty),i+j=13->A9P j t->WT t [] A->A.right=true->Lp C9 (iI (N:Int)) (iI (i:Int)) t.A9 A.A9=some (.bool true):=by
 intro j;induction j with
 |zero=>intro i t A hi ht w ra;rw[YX];simp only[BH,J4,E9,F5];rw[C8 (by omega),Ps];rfl
 |succ j ih=>
   intro i t A hi ht w ra;rw[YX];simp only[BH,J4,E9,F5]
   by_cases hl:(i:Int)<=(N:Int)
   ·rw[D5 hl];simp only[U5];cases hv:t.L9 with
    |true=>have sm:=B6h t (QB.fit t ht.q.toQB) t;simp only[B2p ht.q ht.z hv,J4,e0t,e1t,I8,Q5,F4,A07 ht.q ht.z,hv,E9,H5,k0r,show(Bc 1).A8=1 from rfl,P6,L8,J5,U5,sm,Ps]
    |false=>
      simp only[B4R ht.q ht.z hv,J4,SR.mM,SR.mO,A07 ht.q ht.z,hv];have d:=B8Q t A w hv;have ad:=add1 (n:=i) (by omega);cases hs:t.EW with
      |fin r=>
        rw[hs]at d;have ne:r.A8≠0:=by rcases d with h | h | h<;>omega
        simp only[I8,Q5,F4,J4,E9,z0q,F9,Nz,z4q,Q8];rw[D5 ne];simp only[k0r,P6,J4,J5,F5,Ps];rcases d with h | h | h<;>simp[h]
      |ok x=>
        rw[hs]at d;have d:WT x [] A:=d;have tx:=ht.step hv hs;have ks:=B4X A (Ty.R5 ra) A;have zx:=B6i x (by have:=tx.z;unfold J9;omega);simp only[I8,Q5,F4,J4,E9,z0q,F9,Nz,show(Bc 0).A8=0 from rfl,L8,z5q,U5,C2q tx.q tx.z d,e0t,e1t,R9,Z6,J5,Rv,ks,P9,zx,Ah,F5,Ps,ad]
        split
        ·rfl
        ·exact ih (i+1) x A (by omega) tx d ra
   ·rw[C8 hl,Ps];rfl
def B9W(t:Tm)(n:Int)(ht:t.Q3<=1048576):C9.p nN [t.A9,iI n]=some (.bool true):=by
 have ft:t.fit:=Tm.kR (by omega);have zt:t.sized:=Tm.B8H (by omega);have wt:t.wide<=J9:=by have:=t.B12;unfold J9;omega
 have m2:2 * t.Q3<=J9:=by unfold J9;omega
 refine(A4K _ _).trans ?_;rw[A6Y];obtain⟨b,hb,-⟩:=B2B [t] (by simp) (by simpa using ft) (by simpa using zt);rw[zeq,zfq]at hb;simp only[I8,F4,U5,hb,J4,J5];cases b with
 |true=>rfl
 |false=>
   simp only[z0q,F9,Kz t ft,J4,P9,J5];cases rt:t.right with
   |false=>rfl
   |true=>
     obtain⟨b2,h2⟩:=A9H t ft zt wt;simp only[z5q,z0q,F9,B59 t ft,J4,J5,F5,h2,P9]
     by_cases hv:t.vs=[]
     ·rw[C8 (λh=>h hv)];cases b2 with
      |false=>rfl
      |true=>
        have tc:∃b:Bool,C9.p KM [t.A9,iI ((13:Nat):Int)]=some (.bool b)/\(b=true->t.free=[]->A9P 13 t):=by
         by_cases cl:t.free=[]
         ·obtain⟨c,hc,tm⟩:=B54 ht rt cl (F:=13) (by omega);exact⟨c,hc,λh _=>tm h⟩
         ·obtain⟨c,hc⟩:=B17 ft rt m2 cl (F:=13);exact⟨c,hc,λ_ h=>absurd h cl⟩
        obtain⟨c,hc,tm⟩:=tc;have hc:C9.p KM [t.A9,iI 13]=some (.bool c):=hc;simp only[z5q,z0q,F9,hc,J4,E9,P9];cases c with
        |false=>rfl
        |true=>
          have ck0:=A1b t ft wt;unfold A8m at ck0;rw[D5 rt]at ck0;cases hk:ck t [] []with
          |error e=>rw[hk]at ck0;have ck0:C9.p KW [t.A9]=some (.I4 [O5.A9,iI e]):=ck0;have he:e≠0:=(av _ _ _ _ hk).ne;simp only[z5q,z0q,F9,ck0,J4,e0t,e1t,R9,F4,Z6,E9,he,R4,zgq,H5,Ps]
          |ok A=>rw[hk]at ck0;have ck0:C9.p KW [t.A9]=some (.I4 [A.A9,iI 0]):=ck0;have w:WT t [] A:=⟨rt,hv,hk⟩;have ra:=Yp t rt ft [] [] A (λx hx=>by cases hx) hk;obtain⟨N,hN,e1⟩:=B58 n 12 (by omega) (by decide);have e1:C9.p gJ [iI n,iI 12]=some (iI (N:Int)):=e1;simp only[z5q,z0q,F9,ck0,J4,e0t,e1t,R9,F4,Z6,E9,L8,e1];exact C6P (by omega) 13 0 t A (by omega) (tm rfl w.closed) w ra
     ·rw[D5 hv]
end Go.Su
