/-
  Parts of the proof, merged: TN21, TN22, TN23, W15, LInferAsc.
-/
import Derived.Test.YtfcklgngoefgmaaGreatQ4
import Derived.Test.YtfcklgngoefgmaaGreatQ6
set_option linter.unusedVariables false
set_option linter.unusedSimpArgs false
set_option linter.unusedSectionVars false
/-
 Inference in memory: numbers are put; a run.
-/
open Bool renaming false_eq_true → z0q, not_true → z7q, true_and → zpq
open List renaming getElem_mem → z1q, take_succ_eq_append_getElem → z2q, take_of_length_le → z4q, getD_cons_zero → z5q, length_map → z6q, map_append → z8q, map_cons → z9q, sum_cons → zaq, mem_cons_of_mem → zbq, getD_eq_getElem?_getD → zdq, drop_eq_getElem_cons → zeq, mem_cons_self → zfq, mem_singleton → zgq, getElem?_eq_getElem → zhq, drop_of_length_le → zjq, length_take → zkq, mem_append_right → zmq, mem_append_left → znq, drop_zero → zoq, mem_cons → zqq
open Nat renaming le_trans → z3q, le_refl → zcq, lt_irrefl → ziq, add_le_add_right → zlq
namespace Go.Su
variable {es:List (DV×DV)}{N:List Int}
theorem Gn.num(h:Gn es N)(v:Int):(Y0 es (iI v)).getD (iI 0)=.int .i64 (numOf N v):=by rw[h.get];unfold numOf;split<;>rfl
theorem Gn.C0x(h:Gn es N)(v:Int):(Y0 es (iI v)).getD (iN 0)=.int .i64 (numOf N v):=h.num v
variable (N:List Int)
theorem B6O(t:Ty):Hm N t=if t.E8=6 then .mk t.E8 (numOf N t.n) t.D5 else if t.D5.length=0 then t else .mk t.E8 0 (t.D5.map (Hm N)):=by
 have e:∀ts:List Ty,ZM N ts=ts.map (Hm N):=by
  intro ts;induction ts with
  |nil=>rw[ZM];rfl
  |cons t ts ih=>rw[ZM,ih];rfl
 cases t;rw[Hm,e];rfl
variable (d:K8)
theorem B6M:VD N d=.mk (d.types.map (Hm N)) (d.vars.map (numOf N)) (d.D5.map (VD N)):=by
 have e:∀ts:List K8,eY N ts=ts.map (VD N):=by
  intro ts;induction ts with
  |nil=>rw[eY];rfl
  |cons t ts ih=>rw[eY,ih];rfl
 cases d;rw[VD,e];rfl
section
variable {m:Nat}{sg:List E5}{es:List (DV×DV)}{N:List Int}(hm:R9 sg m=some (false,es))(h:Gn es N)
include hm h
theorem A9X(t:Ty):t.size<=65536->C8.r GH [(.undef,.map m),(t.D9,.val)] sg=some ([(Hm N t).D9],sg):=by
 induction t using Ty.ind with
 |h t ih=>
   intro hz;obtain⟨-,-,hk,-⟩:=bW hz;have start:=(jm m t.D9 sg).trans (mF _ _ _ _);have ik:j4 false (iI t.n)=true:=rfl;have k6:D7 .eql (iI t.E8) (iI 6)=some (.bool (decide (t.E8=6))):=AV _ _ _;simp only[Y9,F8,Ty.Bh,Ty.EC,Ty.DN,k6,I7,F3,I4,ik,zpq,hm,beq_self_eq_true,h.C0x,Kt,A2x,show(DV.int .i64 0)=iN 0 from rfl,Og,Ty.l6,Ty.ag]at start;rw[B6O];split
   ·rename_i g;rw[C9 g]at start;rw[start,Ty.O4];rfl
   ·rename_i g;rw[A7 g]at start;split
    ·rename_i g2;rw[C9 g2]at start;exact start
    ·rename_i g2;rw[A7 g2]at start;have key:∀(q j:Nat),j+q=t.D5.length->Gq C8 m (.list 3 (t.D5.map Ty.D9)) (iN t.D5.length) (iN j) (iN 0) (iN 0) (iI t.E8) (iN 0) (.list 3 (((t.D5.take j).map (Hm N)).map Ty.D9)) sg=some ([(Ty.mk t.E8 0 (t.D5.map (Hm N))).D9],sg):=by
      intro q;induction q with
      |zero=>intro j hj;rw[Qt,z4q (by omega)];simp only[Af,I7,F3,I4];rw[A7 (by omega),Ty.O4];rfl
      |succ q ihq=>
        intro j hj;have O8:j<t.D5.length:=by omega
        have mem:=z1q O8;rw[Qt];simp only[Af,I7,F3,O8,K3,F5,A6A O8,Qp,ih _ mem (by have:=Ty.Cy mem;omega),z5q,Y9,F8,B3Z (show((t.D5.take j).map (Hm N)).length<2 ^ 31 by rw[z6q,zkq];omega),addN (show j<2 ^ 62 by omega)]
        have:=ihq (j+1) (by omega);rw[z2q O8,z8q]at this;exact this
     rw[start];exact key t.D5.length 0 (by omega)
theorem B7r(d:K8):Vo d->C8.r Jp [(.undef,.map m),(d.D9,.val)] sg=some ([(VD N d).D9],sg):=by
 induction d using K8.ind with
 |h d ih=>
   intro hd;obtain⟨d1,d2,d3,d4,d5⟩:(∀t∈d.types,t.size<=65536)/\d.types.length<=70000/\d.vars.length<2 ^ 29/\d.D5.length<=70000/\∀k∈d.D5,Vo k:=by cases hd with | mk _ a1 a2 a3 a4 a5=>exact⟨a1,a2,a3,a4,a5⟩
   have start:=(jk m d.D9 sg).trans (mE _ _ _ _);simp only[Jl,F8,K8.Bh,A2x,I7]at start;have ty:∀(q j:Nat)(z0 z1 z2:DV),j+q=d.types.length->Cn C8 m (.list 3 (d.types.map Ty.D9)) (iN d.types.length) (iN j) d.D9 z0 z1 z2 (.list 3 (((d.types.take j).map (Hm N)).map Ty.D9)) sg=Cn C8 m (.list 3 (d.types.map Ty.D9)) (iN d.types.length) (iN d.types.length) d.D9 z0 z1 z2 (.list 3 ((d.types.map (Hm N)).map Ty.D9)) sg:=by
    intro q;induction q with
    |zero=>intro j z0 z1 z2 hj;rw[z4q (by omega),show j=d.types.length by omega]
    |succ q ihq=>
      intro j z0 z1 z2 hj;have O8:j<d.types.length:=by omega
      rw[Qr];simp only[Af,I7,F3,O8,K3,F5,A6A O8,Qp,A9X hm h _ (d1 _ (z1q O8)),z5q,Y9,F8,B3Z (show((d.types.take j).map (Hm N)).length<2 ^ 31 by rw[z6q,zkq];omega),addN (show j<2 ^ 62 by omega)]
      have:=ihq (j+1) z0 z1 z2 (by omega);rw[z2q O8,z8q]at this;exact this
   have va:∀(q j:Nat)(b3 z0 z1 z2 y0 y2:DV),j+q=d.vars.length->Co C8 m (O6 d.vars) (iN d.vars.length) (iN j) b3 z0 z1 z2 y0 (O6 ((d.vars.take j).map (numOf N))) y2 sg=Co C8 m (O6 d.vars) (iN d.vars.length) (iN d.vars.length) b3 z0 z1 z2 y0 (O6 (d.vars.map (numOf N))) y2 sg:=by
    intro q;induction q with
    |zero=>intro j b3 z0 z1 z2 y0 y2 hj;rw[z4q (by omega),show j=d.vars.length by omega]
    |succ q ihq=>
      intro j b3 z0 z1 z2 y0 y2 hj;have O8:j<d.vars.length:=by omega
      have ik:j4 false (iI d.vars[j])=true:=rfl;have ap:Di 1 (O6 ((d.vars.take j).map (numOf N))) (.list 1 [iI (numOf N d.vars[j])])=some (O6 ((d.vars.take (j+1)).map (numOf N))):=by unfold O6;rw[JP (by simp[Q8];omega),z2q O8,z8q,z8q];rfl
      rw[Qs];simp only[Af,I7,F3,O8,K3,F5,B0W O8,ZF,F8,ik,zpq,hm,beq_self_eq_true,h.num,Kt,ap,addN (show j<2 ^ 62 by omega)]
      exact ihq (j+1) b3 z0 z1 z2 y0 y2 (by omega)
   have kl:∀(q j:Nat)(z0 z1 z2:DV),j+q=d.D5.length->Fy C8 m (.list 3 (d.D5.map K8.D9)) (iN d.D5.length) (iN j) z0 z1 z2 (.list 3 ((d.types.map (Hm N)).map Ty.D9)) (O6 (d.vars.map (numOf N))) (.list 3 (((d.D5.take j).map (VD N)).map K8.D9)) sg=some ([(VD N d).D9],sg):=by
    intro q;induction q with
    |zero=>intro j z0 z1 z2 hj;rw[PQ,z4q (by omega)];simp only[Af,I7,F3,I4];rw[A7 (by omega),B6M,K8.O4];rfl
    |succ q ihq=>
      intro j z0 z1 z2 hj;have O8:j<d.D5.length:=by omega
      have mem:=z1q O8;rw[PQ];simp only[Af,I7,F3,O8,K3,F5,B5M O8,A4W,ih _ mem (d5 _ mem),z5q,Jl,F8,B7E (show((d.D5.take j).map (VD N)).length<2 ^ 31 by rw[z6q,zkq];omega),addN (show j<2 ^ 62 by omega)]
      have:=ihq (j+1) z0 z1 z2 (by omega);rw[z2q O8,z8q]at this;exact this
   have t0:=ty d.types.length 0 (.list 3 []) (.list 1 []) (.list 3 []) (by omega);have t0':Cn C8 m (.list 3 (d.types.map Ty.D9)) (iN d.types.length) (iI 0) d.D9 (.list 3 []) (.list 1 []) (.list 3 []) (.list 3 []) sg=_:=t0;rw[start,t0',Qr];simp only[Af,ziq,R8,I7,F3,z0q,G8,K8.EC,B03];have v0:=va d.vars.length 0 d.D9 (.list 3 []) (.list 1 []) (.list 3 []) (.list 3 ((d.types.map (Hm N)).map Ty.D9)) (.list 3 []) (by omega);have v0':Co C8 m (O6 d.vars) (iN d.vars.length) (iI 0) d.D9 (.list 3 []) (.list 1 []) (.list 3 []) (.list 3 ((d.types.map (Hm N)).map Ty.D9)) (.list 1 []) (.list 3 []) sg=_:=v0;rw[v0',Qs];simp only[Af,ziq,R8,I7,F3,z0q,G8,K8.DN,B5P];exact kl d.D5.length 0 (.list 3 []) (.list 1 []) (.list 3 []) (by omega)
end
def A5c.D9(r:A5c):DV:=.J8 [.agg [iI r.ty.E8,iI r.ty.n,.list 3 (r.ty.D5.map Ty.D9),.list 3 (r.dv.types.map Ty.D9),O6 r.dv.vars,.list 3 (r.dv.D5.map K8.D9),iN r.cnt],r.bad.D9,iN r.err]
theorem B9I(L:Int):(min (max L 0) 65536).toNat<=65536:=by omega
theorem B3k{e:Ex}(hr:e.right=true)(hs:e.size<2 ^ 29){mx:Nat}(hmx:mx<=65536):(J3 e mx).1.s.Ok/\(J3 e mx).2.1<(J3 e mx).1.s.l.length/\DD.lt (J3 e mx).1.s.l.length (J3 e mx).2.2:=by have I:AF ⟨EQ mx,U1,0,[],[],[]⟩:=⟨N_ hmx,by simp,⟨by simp,by simp⟩,trivial⟩;obtain⟨a,-,c,d⟩:=Qb e.size e hr 1 [] _ (by omega) I (λx hx=>by cases hx);exact⟨a,c,d⟩
theorem B5C:∀(a c:List DD),DD.EJ (a++c)=DD.EJ a+DD.EJ c
 |[],c=>by simp[DD.EJ]
 |k::a,c=>by rw[List.cons_append,DD.EJ,DD.EJ,B5C a c];omega
section
variable {R:Rec}{w:W}{A9:Nat}{l:List EN}{e:Ex}
theorem B0j{k:Ex}(h:∀A9 l w,(R k A9 l w).2.2.cnt<=k.size):DD.EJ (L6 R w k A9 l).1.D5<=DD.EJ w.D5+k.size:=by
 unfold L6;split
 ·simp only;omega
 ·simp only
  rw[B5C,DD.EJ,DD.EJ];have:=h A9 l w;omega
theorem B7K(f a:Nat):(gG w f a e A9).1.D5=w.D5:=by
 unfold gG
 repeat' split
 all_goals simp
theorem B7L:(w.name e A9 l).1.D5=w.D5:=by
 have mk:∀(k:Nat)(w:W),(W.many A9 k w).D5=w.D5:=by
  intro k;induction k with
  |zero=>intro w;rfl
  |succ k ih=>intro w;rw[W.many,ih];exact TN w A9
 unfold W.name;split
 ·simp
 ·split
  ·rfl
  ·simp only
   split
   ·exact mk _ w
   ·simp only[A2u];exact mk _ w
theorem B17{v r:Nat}:∀(rs:List (F6×Ex))(w:W),(∀a∈rs,∀A9 l w,(R a.2 A9 l w).2.2.cnt<=a.2.size)->DD.EJ (E_ R A9 l v r rs w).1.D5<=DD.EJ w.D5+(rs.map λa=>a.2.size).sum
 |[],w,_=>by simp[E_]
 | (p,k)::rs,w,h=>by
   rw[E_];split
   ·simp only;omega
   ·simp only
    refine z3q (B17 rs _ λa ha=>h a (zbq _ ha)) ?_;rw[Ga,z9q,zaq];have:=B0j (w:=({ w with s:=(CP A9 p v ⟨w.s,[],[],U1⟩).1.s }:W).fails (CP A9 p v ⟨w.s,[],[],U1⟩).2 (CP A9 p v ⟨w.s,[],[],U1⟩).1.bad) (A9:=A9) (l:=l++if (CP A9 p v ⟨w.s,[],[],U1⟩).2≠0 then[]else List.zipWith (λs n=>(⟨s,n,[]⟩:EN)) (CP A9 p v ⟨w.s,[],[],U1⟩).1.names (CP A9 p v ⟨w.s,[],[],U1⟩).1.nodes) (h (p,k) (zfq ..));rw[A2u]at this;simp only at this ⊢;omega
theorem B5D{want:Nat}:∀(ks:List Ex)(w:W),(∀k∈ks,∀A9 l w,(R k A9 l w).2.2.cnt<=k.size)->DD.EJ (Ho R A9 l want ks w).D5<=DD.EJ w.D5+(ks.map Ex.size).sum
 |[],w,_=>by simp[Ho]
 |k::ks,w,h=>by rw[Ho];refine z3q (B5D ks _ λa ha=>h a (zbq _ ha)) ?_;rw[Ga,z9q,zaq];have:=B0j (w:=w) (A9:=A9) (l:=l) (h k (zfq ..));omega
theorem bX(h:e.D5.length=2):(e.D5.map Ex.size).sum=(e.kd 0).size+(e.kd 1).size:=by
 match hk:e.D5,h with
 |[a,c],_=>simp[Ex.kd,hk]
theorem A3G(h:e.D5.length=1):(e.D5.map Ex.size).sum=(e.kd 0).size:=by
 match hk:e.D5,h with
 |[a],_=>simp[Ex.kd,hk]
theorem B1O(h:e.D5.length=3):(e.D5.map Ex.size).sum=(e.kd 0).size+(e.kd 1).size+(e.kd 2).size:=by
 match hk:e.D5,h with
 |[a,c,d],_=>simp[Ex.kd,hk];omega
theorem B37(hr:e.right=true)(h:∀k∈e.D5,∀A9 l w,(R k A9 l w).2.2.cnt<=k.size)(hw:w.D5=[]):DD.EJ (T9 R w e A9 l).1.D5<=(e.D5.map Ex.size).sum:=by
 obtain⟨k1,k2,k3⟩:=Ex.kV hr;have z:DD.EJ w.D5=0:=by rw[hw];rfl
 have kd:∀i,i<e.D5.length->∀(w:W)(A9:Nat)(l:List EN),DD.EJ (L6 R w (e.kd i) A9 l).1.D5<=DD.EJ w.D5+(e.kd i).size:=λi hi w A9 l=>B0j (h _ (Ex.Cg hi));unfold T9;by_cases g:e.E8=1
 ·rw[C9 g,B7L];omega
 rw[A7 g];by_cases g:e.E8=2\/e.E8=3\/e.E8=4\/e.E8=5
 ·rw[C9 g];simp only;omega
 rw[A7 g];by_cases g:e.E8=6
 ·rw[C9 g];have n2:e.D5.length=2:=by simp[g,M6]at k3;omega
  rw[bX n2];simp only[kR];have a:=kd 0 (by omega) w A9 l;have c:=kd 1 (by omega) (L6 R w (e.kd 0) A9 l).1 A9 l;omega
 rw[A7 g];by_cases g:e.E8=7
 ·rw[C9 g];simp only[kR,kT,TN];omega
 rw[A7 g];by_cases g:e.E8=8
 ·rw[C9 g];have n2:e.D5.length=2:=by simp[g,M6]at k3;omega
  rw[bX n2];unfold QZ;simp only[Ga,kR,kT,TN];have a:=kd 0 (by omega) w A9 l;have c:=kd 1 (by omega) (L6 R w (e.kd 0) A9 l).1 A9 l;omega
 rw[A7 g];by_cases g:e.E8=9
 ·rw[C9 g];have n2:e.D5.length=1:=by simp[g,M6]at k3;omega
  rw[A3G n2];simp only[kR];have a:=kd 0 (by omega) (w.AP e.a A9).1 A9 (l++[⟨e.name,(w.AP e.a A9).2,[]⟩]);rw[kS]at a;omega
 rw[A7 g];by_cases g:e.E8=10
 ·rw[C9 g];have n2:e.D5.length=2:=by simp[g,M6]at k3;omega
  rw[bX n2];unfold Vx;simp only[B7K];have a:=kd 0 (by omega) w A9 l;have c:=kd 1 (by omega) (L6 R w (e.kd 0) A9 l).1 A9 l;omega
 rw[A7 g];by_cases g:e.E8=11
 ·rw[C9 g];have n2:e.D5.length=2:=by simp[g,M6]at k3;omega
  rw[bX n2];unfold WN;simp only
  split
  ·refine z3q (kd 1 (by omega) _ _ _) ?_;have a:=kd 0 (by omega) w A9 l;simp only[Ga,B0Z];omega
  ·split
   ·split
    ·refine z3q (kd 1 (by omega) _ _ _) ?_;have a:=kd 0 (by omega) w (A9+1) l;omega
    ·refine z3q (kd 1 (by omega) _ _ _) ?_;have a:=kd 0 (by omega) w (A9+1) l;simp only[A1f,wJ];omega
   ·refine z3q (kd 1 (by omega) _ _ _) ?_;have a:=kd 0 (by omega) w A9 l;omega
 rw[A7 g];by_cases g:e.E8=12
 ·rw[C9 g];have n2:e.D5.length=2:=by simp[g,M6]at k3;omega
  rw[bX n2];unfold WS;simp only
  split
  all_goals
   refine z3q (kd 1 (by omega) _ _ _) ?_;simp only[A1f,wJ,Ga];refine z3q (zlq (kd 0 (by omega) _ _ _) _) ?_;simp only[kR,kS];omega
 rw[A7 g];by_cases g:e.E8=13
 ·rw[C9 g];have n2:e.D5.length=3:=by simp[g,M6]at k3;omega
  rw[B1O n2];unfold QY;simp only[Ga,kT,TN];refine z3q (kd 2 (by omega) _ _ _) ?_;refine z3q (zlq (kd 1 (by omega) _ _ _) _) ?_;have a:=kd 0 (by omega) w A9 l;simp only[Ga];omega
 rw[A7 g];by_cases g:e.E8=14
 ·rw[C9 g];have n1:e.D5.length=e.J7.length+1:=by simp[g,M6]at k3;omega
  unfold MX;simp only;refine z3q (B17 _ _ λa ha=>h _ (List.mem_of_mem_tail (List.of_mem_zip ha).2)) ?_;simp only[kT,TN,Ga];have a:=kd 0 (by omega) w A9 l;have:((e.J7.zip e.D5.tail).map λa=>a.2.size)=e.D5.tail.map Ex.size:=by
   have e1:((e.J7.zip e.D5.tail).map λa=>a.2.size)=((e.J7.zip e.D5.tail).map Prod.snd).map Ex.size:=by rw[List.map_map];rfl
   rw[e1,List.map_snd_zip (by rw[List.length_tail];omega)]
  rw[this]
  match hk:e.D5,n1 with
  |k::ks,_=>
    simp only[List.tail_cons,z9q,zaq];have:e.kd 0=k:=by simp[Ex.kd,hk]
    rw[this]at a ⊢;omega
 rw[A7 g];by_cases g:e.E8=15
 ·rw[C9 g];have n2:e.D5.length=1:=by simp[g,M6]at k3;omega
  rw[A3G n2];simp only[Ga,B0Z];have a:=kd 0 (by omega) w A9 l;omega
 rw[A7 g];have:=B5D (R:=R) (A9:=A9) (l:=l) (want:=if e.op=7 then 2 else 0) e.D5 w h;simp only;omega
end
theorem A9l:∀(f:Nat)(e:Ex),e.right=true->∀A9 l w,(M5 f e A9 l w).2.2.cnt<=e.size
 |0,e,_=>λA9 l w=>by simp only[M5,DD.cnt,DD.EJ];have:=e.size_eq;omega
 |f+1,e,hr=>λA9 l w=>by have:=B37 (R:=M5 f) (w:={ w with types:=[],vars:=[],D5:=[] }) (A9:=A9) (l:=l) hr (λk hk=>A9l f k (Ex.ED hr hk)) rfl;rw[M5];simp only;rw[DD.cnt,Ex.size_eq];omega
theorem B3u{e:Ex}(hr:e.right=true)(Vm:e.V4<2 ^ 28)(L:Int)(hrn:(J3 e (min (max L 0) 65536).toNat).1.s.J6+10<2 ^ 62):C8.p Cm [e.D9,iI L]=some (U6 e (min (max L 0) 65536).toNat).D9:=by
 refine(A4j _ _).trans ?_;have hmx:=B9I L;have BQ:e.fit:=Ex.aG (by omega);have Ca:e.size<2 ^ 28:=Nat.lt_of_le_of_lt e.TY Vm;rw[A5v];have nw:=B81 L;generalize (min (max L 0) 65536).toNat=mx at hrn hmx nw ⊢
 let w0:W:=⟨EQ mx,U1,0,[],[],[]⟩
 let sg0:List E5:=VM 5 mx++[.box (qY 0 w0)]
 have T0:KE 0 1 2 w0 sg0:=⟨(B89 mx).app _,rfl⟩;have I:AF w0:=⟨N_ hmx,by simp[w0],⟨by simp[w0],by simp[w0]⟩,trivial⟩;obtain⟨r1,r2,r3⟩:=B3k hr (by omega) hmx;obtain⟨s1,e1,t1,k1⟩:=A9W (b:=0) (i:=1) (t:=2) e.size e hr (zcq _) 1 [] w0 sg0 (by omega) (by simp;omega) I (λx hx=>by cases hx) (λx hx=>by cases hx) T0 hrn;have hx:M5 e.size e 1 [] w0=J3 e mx:=rfl;rw[hx]at e1 t1;have tc:Sb e BQ=Sb e BQ:=rfl;have Ie:C8.r B_ [(.undef,.ptr (VM 5 mx).length 0),(e.D9,.val),(iI 1,.val),(.list 3 [],.val)] (VM 5 mx++[E5.box ((.undef,(.ptr 0 0))::(zz4 [((iI 0),.val)]))])=_:=e1;have dp:A5o (.int .u64 0)=some 0:=rfl;have ln:(VM 5 mx).length=2:=rfl;have shape:∃m ts vs ks,(J3 e mx).2.2=.mk m ts vs ks/\m=(J3 e mx).2.1:=by
  unfold J3;have:e.size≠0:=by have:=e.size_eq;omega
  obtain⟨f,hf⟩:=Nat.exists_eq_succ_of_ne_zero this;rw[hf,M5];exact⟨_,_,_,_,rfl,rfl⟩
 obtain⟨m,ts,vs,ks,hd,qM⟩:=shape;have B78:(J3 e mx).2.2.cnt<=2 ^ 30:=z3q (A9l e.size e hr 1 [] w0) (by omega);obtain⟨y,s2,e2,t2,k2,x2⟩:=A7N (J3 e mx).2.2 (J3 e mx).1 s1 t1 r1 r3 B78;obtain⟨n1,n2⟩:=eX (J3 e mx).2.2 (J3 e mx).1 r1;have l2:(AY (J3 e mx).2.2 (J3 e mx).1).s.l.length=(J3 e mx).1.s.l.length:=by rw[n1.l]
 obtain⟨dv,s3,e3,t3,k3,x3⟩:=A9Y (J3 e mx).2.2 (AY (J3 e mx).2.2 (J3 e mx).1) s2 t2 n1.ok (by rw[l2];exact r3) B78;have da:=wB (J3 e mx).2.2;have tcc:=Sb e BQ;rw[hr]at tcc;simp only[F5]at tcc;have e2':C8.r FJ [(.undef,.ptr (VM 5 mx).length 0),((J3 e mx).2.2.D9,.val)] s1=_:=e2;have e3':C8.r GI [(.undef,.ptr (VM 5 mx).length 0),((J3 e mx).2.2.D9,.val)] s2=_:=e3;have ok':C8.r U5 [(.undef,.ptr (VM 5 mx).length 0)] s3=_:=JK t3;simp only[AA,F8,Mo,tcc,I7,DX,K3,z7q,F3,z0q,G8,nw,z5q,dp,Ie,Od,Oe,da.1,da.2,e2',Y9,e3',Jl,ok',U4];have b3:H5 s3 (VM 5 mx).length=_:=t3.box;by_cases g:(BP (J3 e mx).2.2 (AY (J3 e mx).2.2 (J3 e mx).1)).1.err=0
 ·simp only[g,K3,z7q,z0q,G8]
  unfold U6;simp only;rw[A7 (λh=>h g)];have cm:=n1.ok.cm;have mm:=n1.ok.mm;obtain⟨f1,-,f3⟩:=zy (J3 e mx).2.2 (AY (J3 e mx).2.2 (J3 e mx).1) (J3 e mx).1.s.l.length n1.ok r3 (by
   have he:(AY (J3 e mx).2.2 (J3 e mx).1).err=0:=by
    by_cases he:(AY (J3 e mx).2.2 (J3 e mx).1).err=0
    ·exact he
    ·exfalso;rw[hd,BP]at g;have e0:∀(l:List Nat)(w:W),w.err≠0->(Az l w).1=w:=λl w h=>by cases l with
      |nil=>rfl
      |cons a l=>rw[Az,C9 h]
     rw[hd]at he;simp only[e0 ts _ he]at g;rw[(vB ks _ he).2.1]at g;exact he g
   have:=(n2 he).2;omega)
  obtain⟨f4,f5⟩:=f3 g;have hy:y=((J3 e mx).1.s.read (J3 e mx).2.1).2.1:=by rw[x2 (n2 f4).1 m ts vs ks hd,qM]
  have hdv:=x3 g;have ysz:y.size<=65536:=by have h0:=(n2 f4).1;have hn:=f4;rw[hd,AY,A7 (λh=>h h0)]at hn;have e':(({ (J3 e mx).1 with s:=((J3 e mx).1.s.read m).1 }:W).fails ((J3 e mx).1.s.read m).2.2 U1)=(J3 e mx).1.rd m:=rfl;rw[e']at hn;obtain⟨o1,-,-,o4⟩:=oI r1 m;have h1:=((Xv ks _ o1).2 hn).1;have h2:=(o4 h1).2.1;rw[hy,<- qM];exact((lC r1 m).2.2.2.2 h2).2.1
  obtain⟨h1,h2,-,h4⟩:=bW ysz
  let mi:=s3.length
  have hm0:R9 (s3++[.map false []]) mi=some (false,[]):=by simp[R9,mi]
  have N0:Gn [] []:=⟨λv=>rfl,rfl⟩;have lp:=A2B (m:=mi) (P:=λj sg=>FL C8 (VM 5 mx).length mi (O6 y.vars) (iN y.vars.length) (iN j) y.D9 dv.D9 sg) (vs:=y.vars) (λj hj sg sg' e=>by show FL C8 (VM 5 mx).length mi (O6 y.vars) (iN y.vars.length) (iN j) y.D9 dv.D9 sg=FL C8 (VM 5 mx).length mi (O6 y.vars) (iN y.vars.length) (iN (j+1)) y.D9 dv.D9 sg';rw[Zz];simp only[Af,I7,F3,hj,K3,F5,B0W hj,ZF,F8,e,addN (show j<2 ^ 62 by omega)]) y.vars.length 0 _ [] [] (by omega) hm0 N0
  obtain⟨es1,p1,q1⟩:=lp;rw[zoq]at q1;have lmi:mi<(s3++[E5.map false []]).length:=TW hm0;have Rq:=EZ lmi es1;obtain⟨es2,p2,q2⟩:=B3z dv (by rw[hdv];exact f5) _ es1 _ Rq q1;rw[List.set_set]at p2;have kM:=EZ lmi es2;have p3:=A9X kM q2 y ysz;have p4:=B7r kM q2 dv (by rw[hdv];exact f5);have qP:=CZ t3.box;have b4:H5 ((s3++[E5.map false []]).set mi (.map false es2)) (VM 5 mx).length=some (qY 0 (BP (J3 e mx).2.2 (AY (J3 e mx).2.2 (J3 e mx).1)).1):=by rw[Cw (by have:(2:Nat)<s3.length:=qP;rw[ln];omega)];unfold H5;rw[List.getElem?_append_left (show(VM 5 mx).length<s3.length from qP)];exact congrArg (λo=>match o with | some (E5.box cs)=>some cs | _=>none) (WX t3.box)
  have st4:Y5 0 1 (BP (J3 e mx).2.2 (AY (J3 e mx).2.2 (J3 e mx).1)).1.s ((s3++[E5.map false []]).set mi (.map false es2)):=by obtain⟨ms,v,a⟩:=t3.st.app [E5.map false []];have:=t3.st.lt;exact(a.fF (by omega) (by omega) _).at
  have oe:∀{β : Type}(y:Option β),MZ True y=y:=λy=>by unfold MZ;rw[C9 trivial]
  simp only[Qp,yg y h1 h2];simp only[I7,B03];have p1':FL C8 (VM 5 mx).length s3.length (O6 y.vars) (iN y.vars.length) (iI 0) y.D9 dv.D9 (s3++[.map false []])=_:=p1;rw[p1',Zz];simp only[Af,ziq,R8,I7,F3,z0q,G8,A4W,Qp,p2,p3,p4,b4,Jd,oe,A7E st4,z5q,Y9,Jl,F8,P6];simp only[Ty.Bh,Ty.EC,Ty.DN,K8.Bh,K8.EC,K8.DN,A4W,Qp,p2,p3,p4,b4,Jd,oe,A7E st4,z5q,Y9,Jl,F8,P6,I7];rw[<- hdv,<- hy];rfl
 ·simp only[g,R8,Bool.not_false,F5,b3,I7]
  unfold U6;simp only;rw[C9 g];rfl
end Go.Su

/-
 What is not B9v has few ? in its annotations.
-/
namespace Go.Su
set_option linter.defProp false
def A9n(t:Ty):t.dn<=t.size:=by
 induction t using Ty.ind with
 |h t ih=>
   have key:∀ts:List Ty,(∀k∈ts,k∈t.D5)->Ty.DK ts<=(ts.map Ty.size).sum:=by
    intro ts;induction ts with
    |nil=>intro _;rw[Ty.DK];exact Nat.zero_le _
    |cons k ts ihs=>intro h;rw[Ty.DK,z9q,zaq];exact Nat.add_le_add (ih k (h k (zfq ..))) (ihs λx hx=>h x (zbq _ hx))
   rw[Ty.wC,Ty.size_eq];have:=key t.D5 λk hk=>hk;split<;>omega
def lL(t:Ty):t.thin=true->∀n:Int,0<=n->n<=401->∃m:Int,C8.p Hw [t.D9,iI n]=some (iI m)/\n<=m/\m<=401/\(m<=400->n+t.size<=m+1):=by
 induction t using Ty.ind with
 |h t ih=>
   intro ht n h0 h1;have hb:=t.Dz ht;have loop:∀(k j:Nat)(n:Int),j+k=t.D5.length->0<=n->n<=401->∃m:Int,KY C8 (iI n) (iI j) t.D9=some (iI m)/\n<=m/\m<=401/\(m<=400->n+(((t.D5.drop j).map Ty.size).sum:Nat)<=m):=by
    intro k;induction k with
    |zero=>
      intro j n hj h0 h1;refine⟨n,?_,Int.le_refl _,h1,λ_=>by rw[zjq (by omega)];simp⟩;have:¬j<t.D5.length:=by omega
      rw[OG];simp[this]
    |succ k ihk=>
      intro j n hj h0 h1;have O8:j<t.D5.length:=by omega
      rw[OG];by_cases hn:n<=400
      ·have YI:D7 .add (iI n) (iI 1)=some (iI (n+1)):=RI (by omega) (by omega);obtain⟨m,a1,a2,a3,a4⟩:=ih _ (z1q O8) (Ty.Dy ht (z1q O8)) (n+1) (by omega) (by omega);obtain⟨m',b1,b2,b3,b4⟩:=ihk (j+1) m (by omega) (by omega) a3;push_cast at b1;exact⟨m',by simp[O8,hn,YI,R7 O8,Ty.l6,Ty.ag,a1,Br (show j<9223372036854775807 by omega),b1],by omega,b3,λhm=>by have g1:=b4 hm;have g2:=a4 (by omega);rw[zeq O8,z9q,zaq];push_cast;omega⟩
      ·exact⟨n,by simp[O8,hn],Int.le_refl _,h1,λh=>absurd h hn⟩
   obtain⟨m,a1,a2,a3,a4⟩:=loop t.D5.length 0 n (by omega) h0 h1;refine⟨m,(Yd _ _).trans ?_,a2,a3,λhm=>by have:=a4 hm;have:=t.size_eq;rw[zoq]at *;push_cast at *;omega⟩
   rw[Z_];simp;exact a1
def B1D(t:Ex):t.fit->∀n:Int,0<=n->n<=401->∃m:Int,C8.p Wj [t.D9,iI n]=some (iI m)/\0<=m/\m<=402/\(n=401->401<=m)/\(m<=400->n+t.size<=m/\DC 802 t):=by
 induction t using Ex.ind with
 |h t ih=>
   intro ht n h0 h1;have hk:=big (Nat.le_of_lt ht.one.D5);have hp:=big (Nat.le_of_lt ht.one.J7);have e12:∀m:Int,0<=m->m<=402->∃m':Int,QL C8 (iI m) t.D9=some (iI m')/\0<=m'/\m'<=402/\(m'=m\/m'=401):=by
    intro m hm kM;rw[A0O];by_cases c1:(300:Int)<(t.s.size:Int)
    ·exact⟨401,by simp[c1],by omega,by omega,.inr rfl⟩
    by_cases c2:(300:Int)<(t.name.size:Int)
    ·exact⟨401,by simp[c1,c2],by omega,by omega,.inr rfl⟩
    by_cases c3:(300:Int)<(t.arg.size:Int)
    ·exact⟨401,by simp[c1,c2,c3],by omega,by omega,.inr rfl⟩
    ·exact⟨m,by simp[c1,c2,c3],hm,kM,.inl rfl⟩
   have l9:∀(k j:Nat)(n:Int),j+k=t.D5.length->0<=n->n<=402->∃m:Int,QN C8 (iI n) (iI j) t.D9=some (iI m)/\0<=m/\m<=402/\(401<=n->401<=m)/\(m<=400->n+(((t.D5.drop j).map Ex.size).sum:Nat)<=m/\∀k∈t.D5.drop j,DC 802 k):=by
    intro k;induction k with
    |zero=>
      intro j n hj h0 h1;obtain⟨m,a1,a2,a3,a4⟩:=e12 n h0 h1;have:¬j<t.D5.length:=by omega
      refine⟨m,by rw[UT];simp[this,a1],a2,a3,λ_=>by omega,λhm=>?_⟩;rw[zjq (by omega)];simp;omega
    |succ k ihk=>
      intro j n hj h0 h1;have O8:j<t.D5.length:=by omega
      by_cases hn:n<=400
      ·obtain⟨m,a1,a2,a3,a4,a5⟩:=ih _ (z1q O8) (ht.kid (z1q O8)) n h0 (by omega);obtain⟨m',b1,b2,b3,b4,b5⟩:=ihk (j+1) m (by omega) a2 a3;push_cast at b1;refine⟨m',by rw[UT];simp[O8,hn,R7 O8,Ex.l6,Ex.ag,a1,Br (show j<9223372036854775807 by omega),b1],b2,b3,λh=>absurd h (by omega),λhm=>?_⟩;have g1:=b5 hm;have g2:m<=400:=by
        by_cases h:m<=400
        ·exact h
        ·have:=b4 (by omega);omega
       have g3:=a5 g2;rw[zeq O8,z9q,zaq];push_cast;exact⟨by omega,λk hk=>by
        rcases zqq.1 hk with rfl | hk
        ·exact g3.2
        ·exact g1.2 k hk⟩
      ·obtain⟨m,a1,a2,a3,a4⟩:=e12 n h0 h1;exact⟨m,by rw[UT];simp[O8,hn,a1],a2,a3,λ_=>by omega,λhm=>absurd hm (by omega)⟩
   have e8:∀n:Int,0<=n->n<=402->∃m:Int,SB C8 (iI n) t.D9=some (iI m)/\0<=m/\m<=402/\(401<=n->401<=m)/\(m<=400->n+((t.D5.map Ex.size).sum:Nat)<=m/\∀k∈t.D5,DC 802 k):=by intro n h0 h1;obtain⟨m,a1,a2,a3,a4,a5⟩:=l9 t.D5.length 0 n (by omega) h0 h1;exact⟨m,by rw[A11];simpa using a1,a2,a3,a4,by simpa using a5⟩
   have l5:∀(k j:Nat)(n:Int),j+k=t.J7.length->0<=n->n<=402->∃m:Int,QM C8 (iI n) (iI j) t.D9=some (iI m)/\0<=m/\m<=402/\(401<=n->401<=m)/\(m<=400->n+((t.D5.map Ex.size).sum:Nat)<=m/\∀k∈t.D5,DC 802 k):=by
    intro k;induction k with
    |zero=>
      intro j n hj h0 h1;obtain⟨m,a1,a2,a3,a4,a5⟩:=e8 n h0 h1;have:¬j<t.J7.length:=by omega
      exact⟨m,by rw[UR];simp[this,a1],a2,a3,a4,a5⟩
    |succ k ihk=>
      intro j n hj h0 h1;have O8:j<t.J7.length:=by omega
      by_cases hn:n<=400
      ·obtain⟨m,a1,a2,a3⟩:=A1H _ (F6.zL (ht.one.pat _ (z1q O8))) n h0 (by omega);obtain⟨m',b1,b2,b3,b4,b5⟩:=ihk (j+1) m (by omega) (by omega) (by omega);push_cast at b1;refine⟨m',by rw[UR];simp[O8,hn,R7 O8,F6.l6,F6.ag,a1,Br (show j<9223372036854775807 by omega),b1],b2,b3,λh=>absurd h (by omega),λhm=>?_⟩;have:=b5 hm;exact⟨by omega,this.2⟩
      ·obtain⟨m,a1,a2,a3,a4,a5⟩:=e8 n h0 h1;exact⟨m,by rw[UR];simp[O8,hn,a1],a2,a3,a4,a5⟩
   have YI:D7 .add (iI n) (iI 1)=some (iI (n+1)):=RI (by omega) (by omega);by_cases hn1:n+1<=401
   ·obtain⟨ma,a1,a2,a3,a4⟩:=lL _ ht.one.a (n+1) (by omega) hn1;obtain⟨mb,b1,b2,b3,b4⟩:=lL _ ht.one.b ma (by omega) a3;obtain⟨m,c1,c2,c3,c4,c5⟩:=l5 t.J7.length 0 mb (by omega) (by omega) (by omega);refine⟨m,(qE _ _).trans ?_,c2,c3,λh=>absurd h (by omega),λhm=>?_⟩
    ·rw[tF];simp[YI,Ty.l6,Ty.ag,a1,b1];exact c1
    ·obtain⟨d1,d2⟩:=c5 hm;have e1:=t.size_eq;have e2:=b4 (by omega);have e3:=a4 (by omega);have e4:=A9n t.a;have e5:=A9n t.b;refine⟨by push_cast at *;omega,.mk (by omega) (by omega) d2⟩
   ·-- more than enough
    have hn:n=401:=by omega
    subst hn;have B7I:∀y:Ty,C8.p Hw [y.D9,iI 402]=some (iI 402):=by intro y;refine(Yd _ _).trans ?_;rw[Z_];simp;rw[OG];by_cases h:0<y.D5.length<;>simp[h]
    obtain⟨m,c1,c2,c3,c4,c5⟩:=l5 t.J7.length 0 402 (by omega) (by omega) (by omega);refine⟨m,(qE _ _).trans ?_,c2,c3,λ_=>c4 (by omega),λhm=>absurd (c4 (by omega)) (by omega)⟩;rw[tF];simp[YI,Ty.l6,Ty.ag,B7I];exact c1
end Go.Su

/-
 What the law takes for B9v.
-/
namespace Go.Su
set_option linter.defProp false
def A8O(e:Ex)(ft:e.fit):∃b:Bool,C8.p fT [.list 16 [e.D9]]=some (.bool b)/\(b=false->e.size<=400/\DC 802 e):=by
 obtain⟨m,a1,a2,a3,a4,a5⟩:=B1D e ft 0 (by omega) (by omega);refine⟨decide (400<m),(A4n _).trans ?_,λh=>?_⟩
 ·rw[A5z,dN];have e0:M4 16 (.list 16 [e.D9]) (iI 0)=some e.D9:=rfl;have e1:D7 .add (iI 0) (iI 1)=some (iI 1):=rfl;have e2:N9 (.list 16 [e.D9])=some (iI 1):=rfl;have e3:D7 .lss (iI 0) (iI 1)=some (.bool true):=rfl;have e4:D7 .lss (iI 1) (iI 1)=some (.bool false):=rfl;simp only[e2,I7,e3,F3,F5,e0,Mo,a1,e1];rw[dN];simp only[e2,I7,e4,F3,z0q,G8];simp
 ·have hm:m<=400:=by simpa using h
  have:=a5 hm;exact⟨by omega,this.2⟩
def A4J(e:Ex)(ft:e.fit)(hm:e.V4<=Q8):∃b:Bool,C8.p fU [.list 16 [e.D9]]=some (.bool b)/\(b=false->e.size<=90/\DC 802 e):=by
 obtain⟨b,h1,h2⟩:=A8O e ft;cases b with
 |true=>refine⟨true,(qF _).trans ?_,λh=>by simp at h⟩;rw[tH];simp only[h1,I7,F3,F5]
 |false=>obtain⟨h3,h4⟩:=h2 rfl;refine⟨decide (90<e.size),(qF _).trans ?_,λh=>⟨by simpa using h,h4⟩⟩;rw[tH];have e0:M4 16 (.list 16 [e.D9]) (iI 0)=some e.D9:=rfl;have e1:D7 .add (iI 0) (iI 1)=some (iI 1):=rfl;have e2:N9 (.list 16 [e.D9])=some (iI 1):=rfl;have e3:D7 .lss (iI 0) (iI 1)=some (.bool true):=rfl;have e4:D7 .lss (iI 1) (iI 1)=some (.bool false):=rfl;have e5:D7 .add (iI 0) (iI e.size)=some (iI (0+e.size)):=RI (by omega) (by omega);simp only[h1,I7,F3,z0q,G8];rw[dP];simp only[e2,I7,e3,F3,F5,e0,Mo,A8V e ft hm,e5,e1];rw[dP];simp only[e2,I7,e4,F3,z0q,G8];simp;omega
end Go.Su

/-
 What the closed call of l15_wakes gives: out of the model's three closed runs.
-/
namespace Go.Su
set_option linter.defProp false
variable (r:A5c)
def A5c.ag:DV:=.agg [.int .i64 r.ty.E8,.int .i64 r.ty.n,.list 3 (r.ty.D5.map Ty.D9),.list 3 (r.dv.types.map Ty.D9),O6 r.dv.vars,.list 3 (r.dv.D5.map K8.D9),iN r.cnt]
theorem A2K:Q4 0 r.D9=some r.ag:=rfl
theorem A2L:Q4 1 r.D9=some r.bad.D9:=rfl
theorem A2M:Q4 2 r.D9=some (iN r.err):=rfl
theorem B1v:I5 7 r.ag=true:=rfl
variable (b:JN)
theorem B0h:I5 6 b.D9=true:=rfl
theorem B8S:A8 6 r.ag=iN r.cnt:=rfl
theorem B9N:A8 3 r.ag=.list 3 (r.dv.types.map Ty.D9):=rfl
theorem B52:DV.agg [A8 0 r.ag,A8 1 r.ag,A8 2 r.ag]=r.ty.D9:=by rw[Ty.O4];rfl
theorem B9i:DV.agg [A8 0 b.D9,A8 1 b.D9,A8 2 b.D9,A8 3 b.D9,A8 4 b.D9,A8 5 b.D9]=b.D9:=rfl
def B9j:A1W [.int,.int,.int,.int,.int,.str] b.D9 b.D9=some true:=by simp[A1W,JN.D9,BF,B0q,iN]
variable (s:ByteArray)
theorem A8N:C8.p Yl [.str s]=some (Kv 1 0 0 s).D9:=by refine(A5Y _).trans ?_;rw[A8c];have:J2 (.str s)=true:=rfl;simp only[this,F8];rw[Ex.O4];rfl
theorem B3y:C8.p lN []=some Mv.D9:=by refine A77 ?_;rw[B2s];have h:C8.p Yl [.str ⟨#[120]⟩]=some (Kv 1 0 0 xB).D9:=A8N _;simp only[h,I7,AA,F8];rw[Ex.O4 Mv];rfl
def yw(k lo hi:Int)(s:ByteArray):DC 802 (Kv k lo hi s):=.mk (by simp[Kv,Ty.dn,Ty.DK]) (by simp[Kv,Ty.dn,Ty.DK]) (by simp[Kv])
def B1R{e:Ex}(hr:e.right=true)(Vm:e.V4<2 ^ 28)(hs:e.size<=90)(hA:DC 802 e)(n:Nat)(hn:n<=65536):C8.p Cm [e.D9,iN n]=some (U6 e n).D9:=by
 have e1:(min (max (n:Int) 0) 65536).toNat=n:=by omega
 have:=B3u hr Vm (n:Int) (by rw[e1];exact B61 hr (by omega) hn hA (by omega) (by omega));rw[e1]at this;exact this
theorem iT:C8.p LF []=some (.bool true):=by
 refine A1U ?_;rw[A5C];have a1:DC 802 Mv:=.mk (by simp[Mv,Ty.dn,Ty.DK]) (by simp[Mv,Ty.dn,Ty.DK]) (by simp[Mv];exact yw _ _ _ _);have a2:DC 802 IM:=.mk (by simp[IM,Ty.dn,Ty.DK]) (by simp[IM,Ty.dn,Ty.DK]) (by simp[IM];exact⟨yw _ _ _ _,yw _ _ _ _⟩);have zn:(Ty.mk 0 0 []).none=true:=by simp[Ty.none]
 have xn:KA ⟨#[120]⟩=true:=by decide +kernel
 have r1:Mv.right=true:=by rw[Ex.right_eq];simp[Mv,Kv,Ex.right_eq,Ex.one,Ex.uk,Ex.ul,Ex.um,Ex.uo,Ex.uq,Ex.bD,Ex.oC,Ex.zm,JQ,M6,l8,Be,eN,eS,Dp,eA,eB,Ae,VB,VC,eU,zn,xn,xB]
 have r2:IM.right=true:=by rw[Ex.right_eq];simp[IM,Kv,Ex.right_eq,Ex.one,Ex.uk,Ex.ul,Ex.um,Ex.uo,Ex.uq,Ex.bD,Ex.oC,Ex.zm,JQ,M6,l8,Be,eN,eS,Dp,eA,eB,Ae,VB,VC,eU,zn]
 have m1:Mv.V4<2 ^ 28:=by rw[Ex.Bt];simp[Mv,Kv,Ex.Bt,Ty.size_eq,xB,AO,ByteArray.size]
 have m2:IM.V4<2 ^ 28:=by rw[Ex.Bt];simp[IM,Kv,Ex.Bt,Ty.size_eq,xB,AO,ByteArray.size]
 have h1:C8.p Cm [Mv.D9,.int .i64 100]=some (U6 Mv 100).D9:=B1R r1 m1 (by rw[B0V];omega) a1 100 (by omega);have h2:C8.p Cm [Mv.D9,.int .i64 1]=some (U6 Mv 1).D9:=B1R r1 m1 (by rw[B0V];omega) a1 1 (by omega);have h3:C8.p Cm [IM.D9,.int .i64 100]=some (U6 IM 100).D9:=B1R r2 m2 (by rw[B28];omega) a2 100 (by omega);have ep:IM.D9=.agg ((.int .i64 16)::(JU (ym ((.int .i64 1)::(Ig (Ig [.list 7 [],.list 16 [.agg ((.int .i64 2)::(JU (bZ []))),.agg ((.int .i64 5)::(.int .i64 4)::(.int .i64 6)::(.str ⟨#[]⟩)::(bZ []))]])))))):=by simp[IM,Kv,Ex.O4,AO]
 rw[ep]at h3;have two:C8.p cK [.int .i64 9,.agg [.int .i64 6,.int .i64 0,.list 3 []],.agg [.int .i64 6,.int .i64 0,.list 3 []]]=some (Ty.mk 9 0 [.mk 6 0 [],.mk 6 0 []]).D9:=by
  have e:DV.agg [.int .i64 6,.int .i64 0,.list 3 []]=(Ty.mk 6 0 []).D9:=by rw[Ty.O4];rfl
  rw[e];exact B1F 9 (.mk 6 0 []) (.mk 6 0 [])
 obtain⟨e1,e2,e3,e4⟩:=C0q;obtain⟨p1,p2⟩:=B8K;have th:(U6 Mv 100).ty.thin=true:=by rw[e3];exact Ty.ET (by simp[Ty.size_eq,Q8])
 have ks:=vI (U6 Mv 100).ty th (U6 Mv 100).ty;simp only[B3y,I7,h1,A2K,A2L,A2M,B1v,B0h,F8,h2,h3];rw[A12,e1,p1,p2,B9D];have n0:D7 .eql (iN 0) (.int .i64 0)=some (.bool true):=rfl;have n4:D7 .eql (iN 4) (.int .i64 4)=some (.bool true):=rfl;have n7:D7 .eql (iN 7) (.int .i64 7)=some (.bool true):=rfl;have n1:D7 .eql (iN 1) (.int .i64 1)=some (.bool true):=rfl;have dq:=B9j ⟨4,6,4,4,1,AO⟩;have bq:(⟨4,6,4,4,1,AO⟩:JN).D9=DV.agg [.int .i64 4,.int .i64 6,.int .i64 4,.int .i64 4,.int .i64 1,.str ⟨#[]⟩]:=rfl;rw[bq]at dq;rw[<- e3]at two;simp only[n0,I7,P5,F5,two,B52,ks,K3,B9N,A2x,e4,n1,B8S,e2,n7,n4,B9i];rw[bq,dq];rfl
end Go.Su

/-
 The law InferAsc answers true on data.
-/
namespace Go.Su
set_option linter.defProp false
def A71{e:Ex}(hr:e.right=true)(Vm:e.V4<2 ^ 28)(hs:e.size<=91)(hA:DC 131072 e):C8.p Cm [e.D9,iI 65536]=some (U6 e 65536).D9:=by
 have e1:(min (max (65536:Int) 0) 65536).toNat=65536:=by omega
 have:=B3u hr Vm 65536 (by rw[e1];exact B46 hr hs (by omega) hA (by omega) (by omega));rw[e1]at this;exact this
variable (a:Nat)
def B7Y:D7 .eql (iN a) (iI 7)=some (.bool (decide (a=7))):=Og a 7
def B7X:D7 .eql (iN a) (iI 0)=some (.bool (decide (a=0))):=Og a 0
def C0v:D7 .neq (iN a) (iI 0)=some (.bool (!decide (a=0))):=Xu a 0
theorem B94(x y:Bool):A1X (.bool x) (.bool y)=some (x==y):=rfl
def IV(a:Ty)(e:Ex):Ex:=.mk 15 0 0 AO AO 0 AO 0 a (.mk 0 0 []) [] [e]
section
variable {e:Ex}{a:Ty}
def A28(ha:a.rc)(he:e.right=true):(IV a e).right=true:=by
 have zn:(Ty.mk 0 0 []).none=true:=by simp[Ty.none]
 have an:a.none=false:=by rcases ha.E8 with⟨-,h,-⟩ | ⟨-,h,-⟩<;>· simp[Ty.none];omega
 have ac:a.closed=true:=by unfold Ty.closed;rw[ha.1,ha.2];rfl
 rw[Ex.right_eq];simp[IV,Ex.one,Ex.uk,Ex.ul,Ex.um,Ex.uo,Ex.uq,Ex.bD,Ex.oC,Ex.zm,JQ,M6,l8,Be,eN,eS,Dp,eA,eB,Ae,VB,VC,eU,zn,an,ac,he]
def A5g:(IV a e).size=1+e.size:=by rw[Ex.size_eq];simp[IV]
def A5f:(IV a e).V4=2+a.size+e.V4:=by rw[Ex.Bt];simp[IV,eU,Ty.size_eq (.mk 0 0 [])];omega
def A9d{D:Nat}(ha:2 * a.dn<=D)(he:DC D e):DC D (IV a e):=.mk (by simpa[IV]using ha) (by simp[IV,Ty.dn,Ty.DK]) (by simp[IV];exact he)
theorem A9e:DV.agg ((iI 15)::(JU (ym ((iI 0)::(A8 0 a.D9)::(A8 1 a.D9)::(A8 2 a.D9)::(Ig [.list 7 [],.list 16 [e.D9]])))))=(IV a e).D9:=by rw[Ex.O4 (IV a e),Ty.Bh,Ty.EC,Ty.DN];rfl
end
theorem B2W(k n:Int)(a:List Ty):DV.agg [iI k,iI n,.list 3 (a.map Ty.D9)]=(Ty.mk k n a).D9:=by rw[Ty.O4];rfl
def A7L(t:Ty):t.thin=true->C8.p Wm [t.D9]=some (qX t).D9:=by
 induction t using Ty.ind with
 |h t ih=>
   intro ht;have hb:=t.Dz ht;refine(A4p _).trans ?_;rw[A5B,B3C];have k5:D7 .eql (iI t.E8) (iI 5)=some (.bool (decide (t.E8=5))):=AV _ _ _;have k6:D7 .eql (iI t.E8) (iI 6)=some (.bool (decide (t.E8=6))):=AV _ _ _;have lf:=iO 2;have q0:A8 0 t.D9=.int .i64 t.E8:=Ty.Bh t;have q1:A8 1 t.D9=.int .i64 t.n:=Ty.EC t;simp only[Y9,F8,q0,q1,k5,k6,I7,P5,F3,I4,lf,Qp,Kt]
   by_cases h5:t.E8=5
   ·rw[C9 h5,C9 (.inl h5)]
   rw[A7 h5];by_cases h6:t.E8=6
   ·rw[C9 h6,C9 (.inr h6)]
   rw[A7 h6,A7 (by omega)];have loop:=A6G (l:=t.D5) (P:=λj (a:List Ty)=>QP C8 (iI j) t.D9 (iI t.E8) (iI t.n) (.list 3 (a.map Ty.D9)))
    (g:=qX) (fin:=λa=>some (Ty.mk t.E8 t.n a).D9)
    (λa _=>by rw[dQ];simp[B2W])
    (λj h a ha=>by rw[dQ];have:=zB (e:=Ty.D9) (sz:=3) (l:=a) (x:=qX t.D5[j]) (by unfold Q8;omega);simp[h,R7 h,Ty.l6,Ty.ag,ih _ (z1q h) (Ty.Dy ht (z1q h)),this,Br (show j<9223372036854775807 by omega)])
   simp only[List.map_nil]at loop;exact loop
variable (l:List Ty)
def A4K(hl:l.length<=20)(P8:∀x∈l,x.thin=true)(t:Ty):t.thin=true->(∀v∈t.Gf,0<=v/\v<=1048576)->C8.p Td [t.D9,.list 3 (l.map Ty.D9)]=some (Oc l t).D9:=by
 induction t using Ty.ind with
 |h t ih=>
   intro ht hv;have hb:=t.Dz ht;refine(A2g _ _).trans ?_;rw[A36,B19];have k6:D7 .eql (iI t.E8) (iI 6)=some (.bool (decide (t.E8=6))):=AV _ _ _;have l0:D7 .eql (iI (l.length:Nat)) (iI 0)=some (.bool (decide (l.length=0))):=Og l.length 0;have lf:=iO 1;have q0:A8 0 t.D9=.int .i64 t.E8:=Ty.Bh t;have q1:A8 1 t.D9=.int .i64 t.n:=Ty.EC t;simp only[Y9,F8,q0,q1,k6,I7,P5,F3,I4,lf,Qp,Kt,DY,z6q,l0]
   by_cases h6:t.E8=6
   ·rw[C9 h6,C9 h6];unfold cv;by_cases h0:l.length=0
    ·rw[C9 h0,C9 h0]
    ·rw[A7 h0,A7 h0];obtain⟨v0,v1⟩:=hv t.n (by
      have:t.Gf=(if t.E8=6 then[t.n]else[])++FE t.D5:=by cases t;rw[Ty.Gf];rfl
      rw[this,C9 h6];exact znq _ (zgq.2 rfl))
     have hi:t.n.toNat % l.length<l.length:=Nat.mod_lt _ (by omega);have u1:IntKind.u64.wrap t.n=t.n:=Go.IntWalk.u64_in _ ⟨by omega,by omega⟩;have u2:IntKind.u64.wrap (l.length:Int)=l.length:=Go.IntWalk.u64_in _ ⟨by omega,by omega⟩;have tm:t.n.tmod l.length=((t.n.toNat % l.length:Nat):Int):=by rw[Int.tmod_eq_emod_of_nonneg v0];push_cast;rw[Int.toNat_of_nonneg v0]
     have rm:D7 .rem (.int .u64 t.n) (.int .u64 (l.length:Int))=some (.int .u64 ((t.n.toNat % l.length:Nat):Int)):=by
      have hr1:0<=t.n.tmod l.length:=Int.tmod_nonneg _ v0;have hr2:t.n.tmod l.length<l.length:=Int.tmod_lt_of_pos _ (by omega);have r0:D7 .rem (.int .u64 t.n) (.int .u64 (l.length:Int))=some (.int .u64 (t.n.tmod l.length)):=by
       have:¬((l.length:Int)=0):=by omega
       have lb:(l.length:Int)<=20:=by omega
       have ww:IntKind.u64.wrap (t.n.tmod l.length)=t.n.tmod l.length:=Go.IntWalk.u64_in _ ⟨by omega,by omega⟩;simp[D7,MS,Ni,this,ww,h0]
      rw[r0,tm]
     have u3:IntKind.i64.wrap ((t.n.toNat % l.length:Nat):Int)=((t.n.toNat % l.length:Nat):Int):=Go.IntWalk.i64_in _ ⟨by omega,by omega⟩;have ix:M4 3 (.list 3 (l.map Ty.D9)) (iI ((t.n.toNat % l.length:Nat):Int))=some (l.getD (t.n.toNat % l.length) (.mk 1 0 [])).D9:=by rw[zdq,zhq hi];exact R7 hi
     have hm:l.getD (t.n.toNat % l.length) (.mk 1 0 [])∈l:=by rw[zdq,zhq hi];exact z1q hi
     have st:=A7L _ (P8 _ hm);simp only[dJ,u1,u2,I7,rm,u3,ix,Qp,st,Y9,F8]
   ·rw[A7 h6,A7 h6];have loop:=A6G (l:=t.D5) (P:=λj (a:List Ty)=>OZ C8 (.list 3 (l.map Ty.D9)) (iI j) t.D9 (iI t.E8) (iI t.n) (.list 3 (a.map Ty.D9)))
     (g:=Oc l) (fin:=λa=>some (Ty.mk t.E8 t.n a).D9)
     (λa _=>by rw[aA];simp[B2W])
     (λj h a ha=>by
       rw[aA];have:=zB (e:=Ty.D9) (sz:=3) (l:=a) (x:=Oc l t.D5[j]) (by unfold Q8;omega);have RD:∀v∈t.D5[j].Gf,0<=v/\v<=1048576:=λv hm=>hv v (by
        have e1:t.Gf=(if t.E8=6 then[t.n]else[])++FE t.D5:=by cases t;rw[Ty.Gf];rfl
        rw[e1];refine zmq _ ?_;have:∀(us:List Ty),t.D5[j]∈us->v∈FE us:=by
         intro us;induction us with
         |nil=>intro h;cases h
         |cons u us ihu=>
           intro h;rw[FE];rcases zqq.1 h with h | h
           ·rw[h]at hm;exact znq _ hm
           ·exact zmq _ (ihu h)
        exact this t.D5 (z1q h))
       simp[h,R7 h,Ty.l6,Ty.ag,ih _ (z1q h) (Ty.Dy ht (z1q h)) RD,this,Br (show j<9223372036854775807 by omega)])
    simp only[List.map_nil]at loop;exact loop
def A8F{e:Ex}(he:e.right=true)(hs:e.size<=90)(hA:DC 802 e)(hm:e.V4<=1048576){l:List Ty}(hl:l.length<=20)(hlr:∀t∈l,t.right=true/\t.size<=60):
 Lh C8 (.list 3 (l.map Ty.D9)) (iN (U6 e 65536).err) e.D9 (U6 e 65536).ag=some (.bool true):=by
 rw[tJ];simp only[C0v,I7,F3]
 by_cases f0:(U6 e 65536).err=0
 ·simp only[f0,K3,z7q,z0q,G8]
  have xe:=Zh he (show e.size<2 ^ 29 by omega) (zcq 65536);obtain⟨e0,ty⟩:=oM xe f0;have tf:=B44 he (show e.size<2 ^ 29 by omega) (zcq 65536) f0;have tt:(U6 e 65536).ty.thin=true:=(bW tf.size).1;obtain⟨-,-,-,vl⟩:=bW tf.size;have tv:∀v∈(U6 e 65536).ty.Gf,0<=v/\v<=1048576:=λv hv=>by have hv:=bB.2 hv;rw[tf.vars]at hv;obtain⟨j,hj,rfl⟩:=List.mem_map.1 hv;have:=List.mem_range.1 hj;simp only[Int.ofNat_eq_natCast];omega
  have cl:=A4K l hl (λx hx=>Ty.A4Q (hlr x hx).1) _ tt tv;obtain⟨c1,c2,c3⟩:=B7N hlr _ tf.right;have sz:=tf.size
  let a:=Oc l (U6 e 65536).ty
  let q:=IV a e
  have hq:q.right=true:=A28 c1 he;have qs:q.size=1+e.size:=A5g;have qm:q.V4=2+a.size+e.V4:=A5f;have r:=A71 (e:=IV (Oc l (U6 e 65536).ty) e) hq (show q.V4<2 ^ 28 by have:a.size<=60 * (U6 e 65536).ty.size:=c2;omega) (show q.size<=91 by omega) (A9d (by omega) (hA.mono (by omega)));simp only[B52,cl,I7,Y9,F8,Mo,A9e,r,A2K,A2L,A2M,B1v,B0h,B7Y,B7X,P5,I4,iT,Qp]
  by_cases g7:(U6 q 65536).err=7
  ·rw[C9 g7]
  have g7':¬(U6 (IV (Oc l (U6 e 65536).ty) e) 65536).err=7:=g7;rw[A7 g7'];obtain⟨o1,o2⟩:=B6e (e:=e) (q:=q) rfl rfl hq (by omega) (zcq 65536) (σ := λr=>cv l (numOf ((J3 e 65536).1.s.I8 (J3 e 65536).2.1).ty.vars r)) (λr=>(B5E hlr _).1.w5) c1 f0 (by show Oc l (U6 e 65536).ty=_;rw[ty];exact B7O l _ _) g7
  have o1':(U6 (IV (Oc l (U6 e 65536).ty) e) 65536).err=0:=o1;have o2':(U6 (IV (Oc l (U6 e 65536).ty) e) 65536).ty=Oc l (U6 e 65536).ty:=o2;obtain⟨zq,-⟩:=A7k hq (show q.size<2 ^ 29 by omega) (zcq 65536);have ks:=vI (U6 (IV (Oc l (U6 e 65536).ty) e) 65536).ty (bW zq).1 (Oc l (U6 e 65536).ty);rw[decide_eq_true o2']at ks;rw[C9 o1',ks];simp only[I7,P5,F5]
 ·simp[f0,iT]
def B6G(e:Ex)(l:List Ty)(hml:e.V4+(l.map Ty.size).sum<=1048576):C8.p iV [e.D9,.list 3 (l.map Ty.D9)]=some (.bool true):=by
 have hm:e.V4<=1048576:=by omega
 have hl0:l.length<=1048576:=by have:=A2y (l:=l) (f:=Ty.size) Ty.Sn;omega
 have hlz:∀t∈l,t.size<=1048576:=λt ht=>by have:=A9D (f:=Ty.size) ht;omega
 have fe:e.fit:=Ex.aG (by omega);refine(zM _ _).trans ?_;rw[A0P];obtain⟨b,h1,h2⟩:=A4J e fe (by unfold Q8;omega);have B95:D7 .gtr (iI (l.length:Int)) (iI 20)=some (.bool (decide (20<l.length))):=by rw[Dw];simp;omega
 simp only[AA,F8,Mo,h1,I7,P5];cases b with
 |true=>simp
 |false=>
   obtain⟨hs,hA⟩:=h2 rfl;simp only[z0q,G8,A7Q e fe,I7,U4,P5,DY,z6q,B95,F3,I4]
   by_cases he:e.right=true
   ·simp only[he,z7q,z0q,G8]
    by_cases g20:20<l.length
    ·rw[C9 g20]
    rw[A7 g20];have fin:(∀t∈l,t.right=true/\t.size<=60)->Ib C8 (.list 3 (l.map Ty.D9)) (iN l.length) e.D9=some (.bool true):=by
     intro hlr;have lt0:D7 .lss (iN l.length) (iI (l.length:Int))=some (.bool false):=by have:=Af l.length l.length;rw[decide_eq_false (ziq _)]at this;exact this
     have dyn:(Ty.mk 5 0 []).rc:=⟨by rw[Ty.right_eq];simp[IB],by rw[Ty.Ea];simp⟩
     let q:=IV (.mk 5 0 []) e
     have hq:q.right=true:=A28 dyn he;have qs:q.size=1+e.size:=A5g;have qm:q.V4=2+(Ty.mk 5 0 []).size+e.V4:=A5f;have z1:(Ty.mk 5 0 []).size=1:=by rw[Ty.size_eq];simp
     have r1:=A71 he (show e.V4<2 ^ 28 by omega) (by omega) (hA.mono (by omega));have r2:=A71 (e:=IV (.mk 5 0 []) e) hq (show q.V4<2 ^ 28 by omega) (show q.size<=91 by omega) (A9d (by simp[Ty.dn,Ty.DK]) (hA.mono (by omega)));have own:=A8F he hs hA hm (l:=l) (by omega) hlr;rw[Xa];simp only[DY,z6q,I7,lt0,F3,z0q,G8,Mo,r1,A2K,A2L,A2M,B1v,B0h,F8,iO,Y9,A9e,r2,B7Y,B7X,P5,I4,iT,B94]
     by_cases f7:(U6 e 65536).err=7
     ·rw[C9 f7]
     rw[A7 f7];by_cases g7:(U6 q 65536).err=7
     ·rw[C9 g7]
     have g7':¬(U6 (IV (.mk 5 0 []) e) 65536).err=7:=g7;rw[A7 g7'];obtain⟨d1,d2⟩:=B6d (e:=e) (q:=q) rfl rfl hq (by omega) (zcq 65536) rfl f7 g7;have d1':(U6 (IV (.mk 5 0 []) e) 65536).err=(U6 e 65536).err:=d1;rw[d1'];simp only[beq_self_eq_true,z7q,z0q,G8]
     by_cases f0:(U6 e 65536).err=0
     ·rw[C9 f0];have d2':(U6 (IV (.mk 5 0 []) e) 65536).ty.E8=5:=d2 (d1.trans f0);have p0:A8 0 (U6 (IV (.mk 5 0 []) e) 65536).ag=.int .i64 (U6 (IV (.mk 5 0 []) e) 65536).ty.E8:=rfl;rw[p0,d2'];simp only[DX,K3,z7q,I7,F3,z0q,G8];exact own
     ·rw[A7 f0];exact own
    have key:∀(q j:Nat),j+q=l.length->(∀t∈l.take j,t.right=true/\t.size<=60)->Ib C8 (.list 3 (l.map Ty.D9)) (iN j) e.D9=some (.bool true):=by
     intro q;induction q with
     |zero=>intro j hj h;rw[z4q (by omega)]at h;rw[show j=l.length by omega];exact fin h
     |succ q ih=>
       intro j hj h;have O8:j<l.length:=by omega
       have hz:=hlz _ (z1q O8);obtain⟨c,hc⟩:=A7K [l[j]] (by simp[Q8]) (by intro t ht;rw[zgq.1 ht];unfold Q8;omega);have hc:C8.p Wl [.list 3 [l[j].D9]]=some (.bool c):=hc;have rr:=vJ l[j] (Ty.ET (by unfold Q8;omega));have ss:=A8S l[j] (by unfold Q8;omega);have lt1:D7 .lss (iN j) (iI (l.length:Int))=some (.bool true):=by have:=Af j l.length;rw[decide_eq_true O8]at this;exact this
       have ix:M4 3 (.list 3 (l.map Ty.D9)) (iN j)=some l[j].D9:=R7 O8;have gs:D7 .gtr (iI (l[j].size:Nat)) (iI 60)=some (.bool (decide (60<l[j].size))):=by rw[Dw];simp;omega
       rw[Xa];simp only[DY,z6q,I7,lt1,F3,F5,ix,Qp,hc,U4,P5,rr,ss,gs,I4,addN (show j<2 ^ 62 by omega)]
       cases c with
       |false=>simp
       |true=>
         simp only[z7q,z0q,G8]
         by_cases hr:l[j].right=true
         ·simp only[hr,z7q,z0q,G8]
          by_cases h60:60<l[j].size
          ·rw[C9 h60]
          ·rw[A7 h60];refine ih (j+1) (by omega) λt ht=>?_;rw[z2q O8]at ht;rcases List.mem_append.1 ht with ht | ht
           ·exact h t ht
           ·rw[zgq.1 ht];exact⟨hr,by omega⟩
         ·simp[hr]
    exact key l.length 0 (by omega) (by simp)
   ·simp[he]
end Go.Su
