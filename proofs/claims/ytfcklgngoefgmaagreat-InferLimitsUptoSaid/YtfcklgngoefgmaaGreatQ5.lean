/-
  Parts of the proof, merged: SuN27, SuN28, SuN29, SuNw, Cfg, It, J0, G1, G2, G3, G4, G5, G6, G7, T0.
-/
import Derived.KernelRfl
import Derived.LoopNIn
import Derived.OwnWalkIn
import Derived.RangeFuncBound
import Derived.RangeFuncKeeps
import Derived.RangeFuncLeaves
import Derived.Shelf.Abstract
import Derived.TacticsInMore
import Derived.Test.YtfcklgngoefgmaaGreatProg
import Derived.Test.YtfcklgngoefgmaaGreatRows
import Derived.WalkKit
import Derived.Test.YtfcklgngoefgmaaGreatQ3
import Derived.Test.YtfcklgngoefgmaaGreatQ4
set_option linter.unusedVariables false
set_option linter.unusedSimpArgs false
set_option linter.unusedSectionVars false
/-
 TWO LIMITS: whole runs.
-/
open Array renaming replicate_succ → z1q, replicate_zero → z2q
open Bool renaming and_eq_true → zjq
open List renaming getElem?_eq_getElem → z0q, append_toArray → z3q, size_toArray → z4q, push_toArray → z5q, length_cons → z6q, cons_append → z7q, length_nil → z8q, nil_append → z9q, getD_eq_getElem?_getD → zcq, setIfInBounds_toArray → zdq, drop_eq_getElem_cons → zeq, set_cons_zero → zfq, set_cons_succ → zgq, length_append → zhq, append_assoc → ziq, drop_length → zkq, not_mem_nil → zlq, mem_cons → zmq
open Nat renaming exists_eq_succ_of_ne_zero → zaq, le_refl → zbq
namespace Go.Su
section
variable {m1 m2:Nat}(hm:m1<=m2){w:W}
theorem LW.dead{w' x':W}(h:LW m1 m2 w w')(h7:w.err=7)(r:Yd w' x')(k:w'.err≠0->x'.err≠0):LW m1 m2 w x' :=
 ⟨h.ok,r.ok,h.mx,.inr ⟨h7,by
   rcases h.r with⟨g,-⟩ | ⟨-,g⟩
   ·exact absurd h7 g
   ·rcases g with g | g
    ·exact .inl (k g)
    ·exact .inr (Nat.lt_of_lt_of_le g r.cnt)⟩⟩
theorem LW.al{w':W}(h:LW m1 m2 w w')(h7:w.err≠7):w'.s=w.s.Q9 m2/\w'.err=w.err/\w'.bad=w.bad:=by
 rcases h.r with⟨-,g⟩ | ⟨g,-⟩
 ·exact g
 ·exact absurd g h7
theorem NW(h:w.err≠0):∀d:DD,V7 d w=w
 |.mk n ts vs ks=>by rw[V7,C8 h]
theorem He(h:w.err≠0):∀ts:List Nat,X9 ts w=(w,[])
 |[]=>by rw[X9]
 |k::ks=>by rw[X9,C8 h]
theorem FZ(h:w.err≠0):∀ts:List DD,Af ts w=(w,[])
 |[]=>by rw[Af]
 |k::ks=>by rw[Af,C8 h]
mutual
theorem uK:∀(d:DD)(w:W),w.s.Ok->Yd w (X3 d w).1
 |.mk n ts vs ks,w,ok=>by rw[X3];have a:=(Wh ts w ok).1;exact a.trans (uJ ks _ a.ok)
theorem uJ:∀(ks:List DD)(w:W),w.s.Ok->Yd w (Af ks w).1
 |[],w,ok=>by rw[Af];exact⟨ok,rfl,zbq _⟩
 |k::ks,w,ok=>by
   rw[Af];split
   ·exact⟨ok,rfl,zbq _⟩
   ·have a:=uK k w ok;exact a.trans (uJ ks _ a.ok)
end
include hm
mutual
theorem A0O:∀(d:DD){w w':W},LW m1 m2 w w'->LW m1 m2 (V7 d w) (V7 d w')
 |.mk n ts vs ks,w,w',h=>by
   by_cases h7:w.err=7
   ·rw[NW (w:=w) (by omega)];exact h.dead h7 (NA _ w' h.ok').1 λg=>by rw[NW g];exact g
   ·obtain⟨-,ee,-⟩:=h.al h7;by_cases e0:w.err=0
    ·have IE:=ee.trans e0;rw[V7,V7,A7 (show ¬w.err≠0 from λg=>g e0),A7 (show ¬w'.err≠0 from λg=>g IE)];exact A0N ks (B1W hm h n e0 IE).1
    ·rw[NW e0,NW (by rw[ee];exact e0)];exact h
theorem A0N:∀(ks:List DD){w w':W},LW m1 m2 w w'->LW m1 m2 (Ei ks w) (Ei ks w')
 |[],w,w',h=>by rw[Ei,Ei];exact h
 |k::ks,w,w',h=>by rw[Ei,Ei];exact A0N ks (A0O k h)
end
theorem A3e:∀(ts:List Nat){w w':W},LW m1 m2 w w'->LW m1 m2 (X9 ts w).1 (X9 ts w').1/\((X9 ts w).1.err≠7->(X9 ts w').2=(X9 ts w).2)
 |[],w,w',h=>by rw[X9,X9];exact⟨h,λ_=>rfl⟩
 |n::ts,w,w',h=>by
   by_cases h7:w.err=7
   ·rw[He (w:=w) (by omega)];exact⟨h.dead h7 (Wh _ w' h.ok').1 λg=>by rw[He g];exact g,λg=>absurd h7 g⟩
   ·obtain⟨-,ee,-⟩:=h.al h7;by_cases e0:w.err=0
    ·have IE:=ee.trans e0;rw[X9,X9,A7 (show ¬w.err≠0 from λg=>g e0),A7 (show ¬w'.err≠0 from λg=>g IE)];obtain⟨a1,a2⟩:=B1W hm h n e0 IE;obtain⟨b1,b2⟩:=A3e ts a1;refine⟨b1,λg=>?_⟩;have g1:(w.rd n).err≠7:=λg7=>by have:(X9 ts (w.rd n))=(w.rd n,[]):=He (by omega) ts;exact g (by show(X9 ts (w.rd n)).1.err=7;rw[this];exact g7)
     have h1:=a2 g1;have h2:=b2 g;simp only;rw[h1];congr 1
    ·rw[He e0,He (by rw[ee];exact e0)];exact⟨h,λ_=>rfl⟩
mutual
theorem A3c:∀(d:DD){w w':W},LW m1 m2 w w'->LW m1 m2 (X3 d w).1 (X3 d w').1/\((X3 d w).1.err≠7->(X3 d w').2=(X3 d w).2)
 |.mk n ts vs ks,w,w',h=>by
   rw[X3,X3];obtain⟨a1,a2⟩:=A3e hm ts h;obtain⟨b1,b2⟩:=A3a ks a1;refine⟨b1,λg=>?_⟩;have g1:(X9 ts w).1.err≠7:=λg7=>by have:=FZ (w:=(X9 ts w).1) (by omega) ks;exact g (by simp only;rw[this];exact g7)
   simp only;rw[a2 g1,b2 g]
theorem A3a:∀(ks:List DD){w w':W},LW m1 m2 w w'->LW m1 m2 (Af ks w).1 (Af ks w').1/\((Af ks w).1.err≠7->(Af ks w').2=(Af ks w).2)
 |[],w,w',h=>by rw[Af,Af];exact⟨h,λ_=>rfl⟩
 |k::ks,w,w',h=>by
   by_cases h7:w.err=7
   ·rw[FZ (w:=w) (by omega)];exact⟨h.dead h7 (uJ _ w' h.ok') λg=>by rw[FZ g];exact g,λg=>absurd h7 g⟩
   ·obtain⟨-,ee,-⟩:=h.al h7;by_cases e0:w.err=0
    ·have IE:=ee.trans e0;rw[Af,Af,A7 (show ¬w.err≠0 from λg=>g e0),A7 (show ¬w'.err≠0 from λg=>g IE)];obtain⟨a1,a2⟩:=A3c k h;obtain⟨b1,b2⟩:=A3a ks a1;refine⟨b1,λg=>?_⟩;have g1:(X3 k w).1.err≠7:=λg7=>by have:=FZ (w:=(X3 k w).1) (by omega) ks;exact g (by simp only;rw[this];exact g7)
     simp only;rw[a2 g1,b2 g]
    ·rw[FZ e0,FZ (by rw[ee];exact e0)];exact⟨h,λ_=>rfl⟩
end
end
theorem Fq.nil{M:Q_}{o:M.Wd}:Fq M o [] []:=by rw[Fq];trivial
theorem L2.Nw{R:Nat->Nat->Prop}(hN:∀n n',R n n'->n'=n){l k:List Nat}(h:L2 R l k):k=l:=by
 induction h with
 |nil=>rfl
 |cons a _ ih=>rw[hN _ _ a,ih]
mutual
theorem DR.eq{M:Q_}{o:M.Wd}(hN:∀n n',M.N o n n'->n'=n):∀{d d':DD},DR M o d d'->d'=d
 |.mk n ts vs ks,.mk n' ts' vs' ks',h=>by rw[DR]at h;obtain⟨h1,h2,h3,h4⟩:=h;rw[hN _ _ h1,h2.Nw hN,h3.Nw hN,Fq.eq hN h4]
theorem Fq.eq{M:Q_}{o:M.Wd}(hN:∀n n',M.N o n n'->n'=n):∀{d d':List DD},Fq M o d d'->d'=d
 |[],[],_=>rfl
 |k::ks,k'::ks',h=>by rw[Fq]at h;rw[DR.eq hN h.1,Fq.eq hN h.2]
 |[],_::_,h=>by rw[Fq]at h;exact h.elim;all_goals simp
 |_::_,[],h=>by rw[Fq]at h;exact h.elim;all_goals simp
end
theorem y_{e:Ex}(hr:e.right=true)(hs:e.size<2 ^ 29){m1 m2:Nat}(hm:m1<=m2)(HY:m2<=65536):
 ((Y8 e m1).err≠7->Y8 e m2=Y8 e m1)/\((Y8 e m1).err=7->(Y8 e m2).err≠0\/m1<(Y8 e m2).cnt):=by
 have I:∀m,m<=65536->l6 (⟨EU m,P9,0,[],[],[]⟩:W):=λm h=>⟨OQ h,by simp,⟨by simp,by simp⟩,trivial⟩;have I1:=I m1 (by omega);have I2:=I m2 HY;have E0:∀n,Z6 n []:=λn x hx=>by cases hx
 obtain⟨k1,k2,k3,-⟩:=Ir e.size e hr 1 [] _ (by omega) I1 (E0 _);obtain⟨j1,j2,j3,-⟩:=Ir e.size e hr 1 [] _ (by omega) I2 (E0 _);have H:SR (A5Q m1 m2 hm HY) (5:Nat) ⟨EU m1,P9,0,[],[],[]⟩ ⟨EU m2,P9,0,[],[],[]⟩:=⟨I1,I2,.inl ⟨by simp,⟨rfl,rfl,by simp[EU]⟩,rfl,rfl,.nil,.nil,Fq.nil⟩⟩;obtain⟨h1,h2⟩:=A2E (A5Q m1 m2 hm HY) e.size e hr 1 1 [] [] (5:Nat) _ _ rfl (by omega) (by omega) H rfl ⟨E0 _,E0 _,λ_=>.nil⟩;have x1:N9 e.size e 1 [] ⟨EU m1,P9,0,[],[],[]⟩=K5 e m1:=rfl;have x2:N9 e.size e 1 [] ⟨EU m2,P9,0,[],[],[]⟩=K5 e m2:=rfl;rw[x1]at h1 h2 k1 k2 k3;rw[x2]at h1 h2 j1 j2 j3;have mx:(K5 e m1).1.s.mx=m1:=k2.mx;have shape:∀m,∃ts vs ks,(K5 e m).2.2=.mk (K5 e m).2.1 ts vs ks:=by
  intro m;unfold K5;have:e.size≠0:=by have:=e.size_eq;omega
  obtain⟨f,hf⟩:=zaq this;rw[hf,N9];exact⟨_,_,_,rfl⟩
 by_cases e7:(K5 e m1).1.err=7
 ·-- the first run has come to its limit
  have z:X3 (K5 e m1).2.2 (V7 (K5 e m1).2.2 (K5 e m1).1)=X3 (K5 e m1).2.2 (K5 e m1).1:=by rw[NW (by omega)]
  obtain⟨ts,vs,ks,hd⟩:=shape m1;have z2:(X3 (K5 e m1).2.2 (K5 e m1).1).1=(K5 e m1).1:=by rw[hd,X3,He (by omega)];simp only;rw[FZ (by omega)]
  have r7:(Y8 e m1).err=7:=by unfold Y8;simp only;rw[z,z2,C8 (by omega)];exact e7
  refine⟨λh=>absurd r7 h,λ_=>?_⟩;have a:=(NA (K5 e m2).2.2 (K5 e m2).1 j1).1;have b:=uK (K5 e m2).2.2 _ a.ok;unfold Y8;simp only
  by_cases g:(X3 (K5 e m2).2.2 (V7 (K5 e m2).2.2 (K5 e m2).1)).1.err=0
  ·rw[A7 (λh=>h g)];refine .inr ?_;simp only;rcases h2 e7 with h | h
   ·exfalso;obtain⟨ts,vs,ks,hd⟩:=shape m2;rw[NW h,hd,X3,He h]at g;simp only at g;rw[FZ h]at g;exact h g
   ·have:=a.cnt;have:=b.cnt;have h:m1<(K5 e m2).1.s.cnt:=h;omega
  ·rw[C8 (show _≠0 from g)];exact .inl g
 ·obtain⟨o1,-,t,he,hb,n,d⟩:=h1 e7;have hN:∀n n',(A5Q m1 m2 hm HY).N o1 n n'->n'=n:=λn n' h=>And.left h;have hd:(K5 e m2).2.2=(K5 e m1).2.2:=DR.eq hN d;have hn:(K5 e m2).2.1=(K5 e m1).2.1:=n.1;have L0:LW m1 m2 (K5 e m1).1 (K5 e m2).1:=⟨k1,j1,mx,.inl ⟨e7,t.1,he,hb⟩⟩;have L1:=A0O hm (K5 e m1).2.2 L0;obtain⟨L2,vv⟩:=A3c hm (K5 e m1).2.2 L1;unfold Y8;simp only;rw[hd,hn];by_cases g7:(X3 (K5 e m1).2.2 (V7 (K5 e m1).2.2 (K5 e m1).1)).1.err=7
  ·rw[C8 (show _≠0 by omega)];refine⟨λh=>absurd g7 h,λ_=>?_⟩;rcases L2.r with⟨h,-⟩ | ⟨-,h⟩
   ·exact absurd g7 h
   ·split
    ·rename_i g;exact .inl g
    ·rename_i g;rcases h with h | h
     ·exact absurd h g
     ·exact .inr h
  ·obtain⟨es,ee,eb⟩:=L2.al g7;have v2:=vv g7;by_cases g0:(X3 (K5 e m1).2.2 (V7 (K5 e m1).2.2 (K5 e m1).1)).1.err=0
   ·rw[A7 (λh=>h g0),A7 (λh=>h (ee.trans g0))];refine⟨λ_=>?_,λh=>by simp at h⟩;have er:((K5 e m1).1.s.read (K5 e m1).2.1).2.2=0:=by
     obtain⟨ts,vs,ks,hd1⟩:=shape m1;have n0:(V7 (K5 e m1).2.2 (K5 e m1).1).err=0:=by
      by_cases n0:(V7 (K5 e m1).2.2 (K5 e m1).1).err=0
      ·exact n0
      ·exfalso;rw[hd1,X3]at g0;rw[hd1]at n0;rw[He n0]at g0;simp only at g0;rw[FZ n0]at g0;exact n0 g0
     have w0:=((NA _ _ k1).2 n0).1;rw[hd1,V7,A7 (λh=>h w0)]at n0;have e':(({ (K5 e m1).1 with s:=((K5 e m1).1.s.read (K5 e m1).2.1).1 }:W).fails ((K5 e m1).1.s.read (K5 e m1).2.1).2.2 P9)=(K5 e m1).1.rd (K5 e m1).2.1:=rfl;rw[e']at n0;obtain⟨a1,-,-,a4⟩:=ZW k1 (K5 e m1).2.1;exact(a4 ((X_ ks _ a1).2 n0).1).2.1
    have rd:=(A6w hm mx k1 (K5 e m1).2.1).1 (by omega);have ts:(K5 e m2).1.s=(K5 e m1).1.s.Q9 m2:=t.1;rw[ts,rd,v2,es];rfl
   ·rw[C8 (show _≠0 from g0),C8 (show _≠0 by rw[ee];exact g0)];refine⟨λ_=>by rw[eb,ee],λh=>absurd h g7⟩
end Go.Su

/-
 WHAT A RUN HAS MADE: at least one, at most its limit.
-/
namespace Go.Su
set_option linter.defProp false
theorem B4s(w:W)(n:Nat):(w.rd n).s.mx=w.s.mx:=by have:(w.rd n).s=(w.s.read n).1:=W9 ..;rw[this];unfold E9.read;split<;>rfl
mutual
theorem A21:∀(d:DD)(w:W),(V7 d w).s.mx=w.s.mx
 |.mk n ts vs ks,w=>by
   rw[V7];split
   ·rfl
   ·rw[A20 ks];exact B4s w n
theorem A20:∀(ks:List DD)(w:W),(Ei ks w).s.mx=w.s.mx
 |[],w=>by rw[Ei]
 |k::ks,w=>by rw[Ei,A20 ks,A21 k]
end
def A6v:∀(ts:List Nat)(w:W),(X9 ts w).1.s.mx=w.s.mx
 |[],w=>by rw[X9]
 |n::ts,w=>by
   rw[X9];split
   ·rfl
   ·simp only
    rw[A6v ts];exact B4s w n
mutual
theorem A6u:∀(d:DD)(w:W),(X3 d w).1.s.mx=w.s.mx
 |.mk n ts vs ks,w=>by rw[X3];simp only;rw[A6s ks,A6v]
theorem A6s:∀(ks:List DD)(w:W),(Af ks w).1.s.mx=w.s.mx
 |[],w=>by rw[Af]
 |k::ks,w=>by
   rw[Af];split
   ·rfl
   ·simp only;rw[A6s ks,A6u k]
end
def A6B{e:Ex}(hr:e.right=true)(hs:e.size<2 ^ 29){m:Nat}(hm:m<=65536)(h:(Y8 e m).err=0):1<=(Y8 e m).cnt/\(Y8 e m).cnt<=m:=by
 have I:l6 (⟨EU m,P9,0,[],[],[]⟩:W):=⟨OQ hm,by simp,⟨by simp,by simp⟩,trivial⟩;obtain⟨k1,k2,k3,-⟩:=Ir e.size e hr 1 [] _ (by omega) I (λx hx=>by cases hx);have x1:N9 e.size e 1 [] ⟨EU m,P9,0,[],[],[]⟩=K5 e m:=rfl;rw[x1]at k1 k2 k3;have mx:(K5 e m).1.s.mx=m:=k2.mx;have a:=NA (K5 e m).2.2 _ k1;have b:=uK (K5 e m).2.2 _ a.1.ok;have mx2:(X3 (K5 e m).2.2 (V7 (K5 e m).2.2 (K5 e m).1)).1.s.mx=m:=by rw[A6u,A21,mx]
 have cm:=b.ok.cm;rw[mx2]at cm;unfold Y8 at h ⊢;simp only at h ⊢;by_cases g:(X3 (K5 e m).2.2 (V7 (K5 e m).2.2 (K5 e m).1)).1.err=0
 ·rw[A7 (λh=>h g)];simp only;refine⟨?_,cm⟩;have n0:(V7 (K5 e m).2.2 (K5 e m).1).err=0:=by
   by_cases n0:(V7 (K5 e m).2.2 (K5 e m).1).err=0
   ·exact n0
   ·exfalso;revert g n0;generalize V7 (K5 e m).2.2 (K5 e m).1=w;cases(K5 e m).2.2 with
    |mk n ts vs ks=>intro g n0;rw[X3,He n0]at g;simp only at g;rw[FZ n0]at g;exact n0 g
  have c1:=(a.2 n0).2;have c2:=b.cnt;have c3:1<=(K5 e m).2.2.cnt:=by
   cases(K5 e m).2.2 with
   |mk n ts vs ks=>rw[DD.cnt];omega
  omega
 ·rw[C8 (show _≠0 from g)]at h;exact absurd h g
end Go.Su

/-
 WHAT A RUN GIVES is not too great.
-/
namespace Go.Su
set_option linter.defProp false
theorem A23(N:List Int):∀ts:List Ty,ZT N ts=ts.map (KL N)
 |[]=>by rw[ZT];rfl
 |t::ts=>by rw[ZT,A23 N ts];rfl
theorem A22(N:List Int):∀ts:List J6,eU N ts=ts.map (VI N)
 |[]=>by rw[eU];rfl
 |t::ts=>by rw[eU,A22 N ts];rfl
variable (N:List Int)
def A24(t:Ty):(KL N t).size=t.size:=by
 induction t using Ty.ind with
 |h t ih=>
   cases t with
   |mk k n ts=>
     rw[KL];split
     ·rw[Ty.size_eq,Ty.size_eq];rfl
     ·split
      ·rfl
      ·rw[A23,Ty.size_eq,Ty.size_eq,Ty.X0,Ty.X0,List.map_map];congr 2;exact List.map_congr_left λk hk=>ih k hk
def B46(d:J6):Sj d->Sj (VI N d):=by
 induction d using J6.ind with
 |h d ih=>
   intro h;obtain⟨a1,a2,a3,a4,a5⟩:(∀t∈d.types,t.size<=65536)/\d.types.length<=70000/\d.vars.length<2 ^ 29/\d.D6.length<=70000/\∀k∈d.D6,Sj k:=by cases h with | mk _ a1 a2 a3 a4 a5=>exact⟨a1,a2,a3,a4,a5⟩
   cases d with
   |mk ts vs ks=>
     simp only[J6.zF,J6.A8W,J6.X0]at a1 a2 a3 a4 a5 ih;rw[VI,A22];refine .mk _ ?_ (by simpa using a2) (by simpa using a3) (by simpa using a4) ?_
     ·intro t ht;simp only[J6.zF,List.mem_map]at ht;obtain⟨u,hu,rfl⟩:=ht;rw[A24];exact a1 u hu
     ·intro t ht;simp only[J6.X0,List.mem_map]at ht;obtain⟨u,hu,rfl⟩:=ht;exact ih u hu (a5 u hu)
def A7M:∀{d:DD}{w:W},(X3 d (V7 d w)).1.err=0->(V7 d w).err=0
 |.mk n ts vs ks,w,g=>by
   by_cases n0:(V7 (.mk n ts vs ks) w).err=0
   ·exact n0
   ·exfalso;rw[X3,He n0]at g;simp only at g;rw[FZ n0]at g;exact n0 g
def B3z{e:Ex}(hr:e.right=true)(hs:e.size<2 ^ 29){m:Nat}(hm:m<=65536):(Y8 e m).ty.size<=65536/\Sj (Y8 e m).dv:=by
 have I:l6 (⟨EU m,P9,0,[],[],[]⟩:W):=⟨OQ hm,by simp,⟨by simp,by simp⟩,trivial⟩;obtain⟨k1,k2,k3,k4⟩:=Ir e.size e hr 1 [] _ (by omega) I (λx hx=>by cases hx);have x1:N9 e.size e 1 [] ⟨EU m,P9,0,[],[],[]⟩=K5 e m:=rfl;rw[x1]at k1 k2 k3 k4;unfold Y8;simp only
 split
 ·have z:Sj zD:=.mk _ (by intro t ht;cases ht) (Nat.zero_le _) (by show 0<2 ^ 29;omega) (Nat.zero_le _) (by intro t ht;cases ht);exact⟨by show(Ty.mk 0 0 []).size<=_;rw[Ty.size_eq];simp,z⟩
 ·rename_i g;have g:(X3 (K5 e m).2.2 (V7 (K5 e m).2.2 (K5 e m).1)).1.err=0:=Classical.not_not.1 g;simp only;have n0:=A7M g;obtain⟨n1,n2⟩:=NA (K5 e m).2.2 (K5 e m).1 k1;have cm:=n1.ok.cm;have mm:=n1.ok.mm;have c1:=(n2 n0).2;obtain⟨f1,-,f3⟩:=yx (K5 e m).2.2 (V7 (K5 e m).2.2 (K5 e m).1) (K5 e m).1.s.l.length n1.ok k4 (by omega);refine⟨?_,B46 _ _ (f3 g).2⟩;rw[A24];have h0:=(n2 n0).1;have hn:=n0;obtain⟨a,ts,vs,ks,hd,pW⟩:∃a ts vs ks,(K5 e m).2.2=.mk a ts vs ks/\a=(K5 e m).2.1:=by
   unfold K5;have:e.size≠0:=by have:=e.size_eq;omega
   obtain⟨f,hf⟩:=zaq this;rw[hf,N9];exact⟨_,_,_,_,rfl,rfl⟩
  rw[hd,V7,A7 (λh=>h h0)]at hn;have e':(({ (K5 e m).1 with s:=((K5 e m).1.s.read a).1 }:W).fails ((K5 e m).1.s.read a).2.2 P9)=(K5 e m).1.rd a:=rfl;rw[e']at hn;obtain⟨o1,-,-,o4⟩:=ZW k1 a;have h1:=((X_ ks _ o1).2 hn).1;rw[<- pW];exact((vM k1 a).2.2.2.2 (o4 h1).2.1).2.1
end Go.Su

/-
 THREE CLOSED RUNS: fun x -> x, at two limits; 1 + ().
-/
namespace Go.Su
set_option linter.defProp false
def xB:ByteArray:=⟨#[120]⟩
def LC(k lo hi:Int)(s:ByteArray):Ex:=.mk k lo hi s Z5 0 Z5 0 (.mk 0 0 []) (.mk 0 0 []) [] []
def M_:Ex:=.mk 9 0 0 xB Z5 0 Z5 0 (.mk 0 0 []) (.mk 0 0 []) [] [LC 1 0 0 xB]
def IL:Ex:=.mk 16 0 0 Z5 Z5 0 Z5 1 (.mk 0 0 []) (.mk 0 0 []) [] [LC 2 0 0 Z5,LC 5 4 6 Z5]
variable (c:Nat)
def sId:E9:=⟨[⟨1,0,none,[]⟩,⟨2,0,none,[]⟩,⟨3,0,none,[]⟩,⟨4,0,none,[]⟩,⟨5,0,none,[]⟩,⟨6,1,none,[]⟩,⟨9,0,none,[5,5]⟩],100,c,0⟩
def A9J:M_.size=2:=by simp[Ex.size_eq,M_,LC]
def B1K:IL.size=3:=by simp[Ex.size_eq,IL,LC]
theorem B8N:K5 M_ 100=(⟨sId 2,P9,0,[5],[],[.mk 5 [] [] []]⟩,6,.mk 6 [5] [] [.mk 5 [] [] []]):=by unfold K5;rw[A9J];rfl
def B3B:U8 (sId c) 5 (.mk 5 6 []):=.mk (d:=⟨6,1,none,[]⟩) (.here rfl rfl) rfl rfl λi h _=>by cases h
def B8X:U8 (sId c) 6 (.mk 6 9 [.mk 5 6 [],.mk 5 6 []]):=.mk (d:=⟨9,0,none,[5,5]⟩) (.here rfl rfl) rfl rfl λi h h'=>match i,h,h' with
 |0,_,_=>B3B c
 |1,_,_=>B3B c
def A8G{S:E9}{n:Nat}{t:NT}(k:Nat)(hu:U8 S n t)(hk:t.Bh (S.mx-S.cnt)=k)(hl:k<=S.mx-S.cnt):S.read n=({ S with cnt:=S.cnt+k },t.ty,0):=by unfold E9.read;rw[hu.eq];subst hk;exact A7 (Nat.not_lt.2 hl)
theorem A6E:(sId c).mx-(sId c).cnt=100-c:=rfl
def B6C(h:c<100):(sId c).read 5=(sId (c+1),.mk 6 5 [],0) :=A8G 1 (B3B c) (by rw[NT.Bh,NT.IR]) (by rw[A6E];omega)
def B6D(h:c<97):(sId c).read 6=(sId (c+3),.mk 9 0 [.mk 6 5 [],.mk 6 5 []],0) :=A8G 3 (B8X c) (by rw[A6E];simp only[NT.Bh,NT.IR];omega) (by rw[A6E];omega)
def v5:(Ty.mk 6 5 []).vars=[5]:=by simp[Ty.vars,Ty.Dj]
def v55:(Ty.mk 9 0 [.mk 6 5 [],.mk 6 5 []]).vars=[5]:=by simp[Ty.vars,Ty.Dj]
def B8M:(Y8 M_ 100).err=0/\(Y8 M_ 100).cnt=7/\(Y8 M_ 100).ty=.mk 9 0 [.mk 6 0 [],.mk 6 0 []]/\(Y8 M_ 100).dv.types.length=1:=by unfold Y8;rw[B8N];simp[V7,Ei,X3,Af,X9,W.fails,B6C,B6D,KL,ZT,VI,nI,A52,vF,v5,v55];exact⟨rfl,rfl⟩
theorem B7X:K5 M_ 1=(⟨⟨[⟨1,0,none,[]⟩,⟨2,0,none,[]⟩,⟨3,0,none,[]⟩,⟨4,0,none,[]⟩,⟨5,0,none,[]⟩,⟨6,1,none,[]⟩],1,1,0⟩,P9,7,[5],[],[.mk 5 [] [] []]⟩,0,.mk 0 [5] [] [.mk 5 [] [] []]):=by unfold K5;rw[A9J];rfl
def B7W:(Y8 M_ 1).err=7:=by unfold Y8;rw[B7X];simp[V7,X3,X9,Af]
def A57{m j:Nat}(hm:m<=65536)(hj:j<5):(EU m).root j=j:=by have ok:=OQ hm;have g:=ok.base j hj;exact(X5.here g rfl).eq (ok.wf j (by have:=ok.five;omega))
def A56{m j:Nat}(hm:m<=65536)(hj:j<5):(EU m).F9 j=j+1:=Dv ((OQ hm).base j hj)
def B4C:(EU 100).agree 0 0=(EU 100,0,0,0):=by have ok:=OQ (mx:=100) (by omega);have f5:=ok.five;refine xk (f:=2) ok (by omega) (by omega) ?_;rw[Y7,C8 rfl,E9.O9]
def B4D:(EU 100).agree 3 0=(EU 100,4,1,4):=by have ok:=OQ (mx:=100) (by omega);have f5:=ok.five;refine xk (f:=2) ok (by omega) (by omega) ?_;rw[Y7];simp[A57 (m:=100) (j:=3) (by omega) (by omega),A57 (m:=100) (j:=0) (by omega) (by omega),A56 (m:=100) (j:=3) (by omega) (by omega),A56 (m:=100) (j:=0) (by omega) (by omega)]
def B60:(K5 IL 100).1.err=4/\(K5 IL 100).1.bad=⟨4,6,4,4,1,Z5⟩:=by unfold K5;rw[B1K];simp[N9,U0,LZ,J4,IL,LC,W.agree,W.fails,B4C,B4D]
def B5j{e:Ex}{m:Nat}(h:(K5 e m).1.err≠0):(Y8 e m).err=(K5 e m).1.err/\(Y8 e m).bad=(K5 e m).1.bad:=by
 unfold Y8;simp only;rw[NW h];have z:(X3 (K5 e m).2.2 (K5 e m).1).1=(K5 e m).1:=by
  cases(K5 e m).2.2 with
  |mk n ts vs ks=>rw[X3,He h];simp only;rw[FZ h]
 rw[z,C8 h];exact⟨rfl,rfl⟩
def B6Z:(Y8 IL 100).err=4/\(Y8 IL 100).bad=⟨4,6,4,4,1,Z5⟩:=by obtain⟨a,c⟩:=B60;obtain⟨x,y⟩:=B5j (e:=IL) (m:=100) (by omega);exact⟨x.trans a,y.trans c⟩
end Go.Su

/-
 The settings of the data machine for this seat: by program.
-/
namespace Go.Su
set_option linter.defProp false
noncomputable section
open Go.Proofs
open Tryz
def spread{α : Type}(d : α):Nat->Nat->List (Nat×α)->List α
 |0,_,_=>[]
 |n+1,i,[]=>d::spread d n (i+1) []
 |n+1,i,(j,x)::l=>match Nat.beq i j with
   |true=>x::spread d n (i+1) l
   |false=>d::spread d n (i+1) ((j,x)::l)
def bxs(d:DV):Nat->Nat->List (DV×F4)
 |_,0=>[]
 |i,n+1=>(A9 i d,.val)::bxs d (i+1) n
def mst(n:Nat)(a:List (Nat×DV))(b:List (Nat×F4))(c:List (Nat×Option (List (DV×F4))))(g:List E5):St:=⟨spread .undef n 0 a,spread .val n 0 b,spread none n 0 c,g⟩
abbrev sF:Option DV:=some (.bool false)
abbrev sT:Option DV:=some (.bool true)
abbrev bz(l:List DV):List DV:=(.str ⟨#[]⟩)::(.int .i64 0)::(.str ⟨#[]⟩)::(.int .i64 0)::(.int .i64 0)::(.int .i64 0)::(.list 3 [])::(.int .i64 0)::(.int .i64 0)::(.list 3 [])::(.list 7 [])::(.list 16 [])::l
abbrev PT(l:List DV):List DV:=(.bool false)::(.bool false)::(.bool false)::(.bool false)::l
abbrev KG(l:List DV):List DV:=(.int .i64 0)::(.int .i64 0)::(.list 3 [])::l
abbrev LP(l:List DV):List DV:=(.int .i64 0)::(.int .i64 0)::(.str ⟨#[]⟩)::l
abbrev zz4(l:List (DV×F4)):List (DV×F4):=(.int .i64 0,.val)::(.int .i64 0,.val)::(.int .i64 0,.val)::(.int .i64 0,.val)::(.int .i64 0,.val)::(.str ⟨#[]⟩,.val)::l
abbrev zz5(l:List DV):List DV:=(.str ⟨#[]⟩)::(.int .i64 0)::(.str ⟨#[]⟩)::l
abbrev uf(l:List DV):List DV:=(.int .i64 0)::(.int .i64 0)::(.int .i64 0)::l
abbrev zz7(l:List DV):List DV:=(.int .i64 0)::(.list 1 [])::(.list 1 [])::(.list 4 [])::l
abbrev YU:FuncId:=4
abbrev fP:FuncId:=9
abbrev Cc:FuncId:=11
abbrev OE:FuncId:=13
abbrev SB:FuncId:=14
abbrev LQ:FuncId:=16
abbrev Wv:FuncId:=17
abbrev QT:FuncId:=18
abbrev Wu:FuncId:=20
abbrev qo:FuncId:=25
abbrev Yw:FuncId:=27
abbrev cu:FuncId:=31
abbrev SC:FuncId:=32
abbrev fO:FuncId:=35
abbrev Yx:FuncId:=36
abbrev Tn:FuncId:=39
abbrev fZ:FuncId:=40
abbrev Bu:FuncId:=41
abbrev Ew:FuncId:=42
abbrev Fu:FuncId:=43
abbrev U3:FuncId:=44
abbrev Yz:FuncId:=45
abbrev DN:FuncId:=46
abbrev Ht:FuncId:=47
abbrev Fs:FuncId:=48
abbrev Jp:FuncId:=49
abbrev OX:FuncId:=50
abbrev Vw:FuncId:=60
abbrev fM:FuncId:=61
abbrev ko:FuncId:=64
abbrev qp:FuncId:=65
abbrev Vx:FuncId:=66
abbrev ky:FuncId:=69
abbrev Wx:FuncId:=74
abbrev Wt:FuncId:=76
abbrev lC:FuncId:=78
abbrev Jt:FuncId:=79
abbrev O6:FuncId:=80
abbrev BK:FuncId:=81
abbrev Z7:FuncId:=82
abbrev Jr:FuncId:=83
abbrev Ey:FuncId:=84
abbrev Cz:FuncId:=85
abbrev KW:FuncId:=86
abbrev KX:FuncId:=87
abbrev KY:FuncId:=88
abbrev Jq:FuncId:=89
abbrev Ih:FuncId:=90
abbrev Gv:FuncId:=91
abbrev R7:FuncId:=92
abbrev Lm:FuncId:=93
abbrev Gw:FuncId:=94
abbrev R8:FuncId:=95
abbrev Y_:FuncId:=96
abbrev Tg:FuncId:=116
abbrev Zp:FuncId:=118
abbrev Yy:FuncId:=119
abbrev KZ:FuncId:=120
abbrev cz:FuncId:=121
abbrev fV:FuncId:=122
abbrev Wy:FuncId:=125
abbrev Hu:FuncId:=126
abbrev QU:FuncId:=127
abbrev Vy:FuncId:=130
abbrev Rc:FuncId:=131
abbrev OG:FuncId:=132
abbrev SF:FuncId:=133
abbrev Oo:FuncId:=134
abbrev PV:FuncId:=135
abbrev EY:FuncId:=136
abbrev Ia:FuncId:=137
abbrev Y5:FuncId:=138
abbrev C_:FuncId:=139
abbrev Zq:FuncId:=140
abbrev Ig:FuncId:=141
abbrev fQ:FuncId:=142
abbrev RS:FuncId:=143
abbrev SE:FuncId:=144
abbrev Y3:FuncId:=145
abbrev Ik:FuncId:=146
abbrev Fw:FuncId:=147
abbrev k_:FuncId:=155
abbrev Rb:FuncId:=161
abbrev ku:FuncId:=162
abbrev qm:FuncId:=163
abbrev Ww:FuncId:=164
abbrev fe:FuncId:=165
abbrev lD:FuncId:=166
abbrev Zr:FuncId:=167
abbrev Tp:FuncId:=168
abbrev YF:FuncId:=170
abbrev Q5:FuncId:=171
abbrev Dy:FuncId:=172
abbrev EZ:FuncId:=173
abbrev Ij:FuncId:=174
abbrev BO:FuncId:=175
abbrev PW:FuncId:=177
abbrev Ka:FuncId:=178
abbrev Fv:FuncId:=179
abbrev Hw:FuncId:=180
abbrev Tk:FuncId:=181
abbrev Lr:FuncId:=182
abbrev Ju:FuncId:=183
abbrev QV:FuncId:=184
abbrev fU:FuncId:=197
abbrev SG:FuncId:=198
abbrev Kc:FuncId:=201
abbrev CS:FuncId:=202
abbrev Lp:FuncId:=203
abbrev fT:FuncId:=204
abbrev Jv:FuncId:=205
abbrev ND:FuncId:=206
abbrev EX:FuncId:=207
abbrev Ii:FuncId:=208
abbrev CW:FuncId:=214
abbrev KH:FuncId:=215
def Kw:H8:={ keep:=[(9,[1,3,7,8,9,10,11,12],[3,7,8,10,11],[],[1,3,7,8,9,10,11,12]),(13,[1,3,7],[3,7],[],[1,3,7])] }
def aV:H8:={ keep:=[(5,[0,3,4],[],[],[0,3,4])] }
def aR:H8:={ shared:=[23],keep:=[(11,[4,5,7,10,11,12,50,51,52],[4,5,10,11],[],[4,5,7,10,11,12,50,51,52])] }
def aT:H8:={ keep:=[(4,[2,3,5],[2,3],[],[2,3,5])] }
def WO:H8:={ keep:=[(4,[2,3,5],[2,3],[],[2,3,5])] }
def aW:H8:={ keep:=[(5,[1,3,4,6,7,10],[1,4,6],[],[1,3,4,6,7,10])] }
def Uh:H8:={ keep:=[(4,[1,3],[1],[],[1,3]),(9,[1,4],[1],[],[1,4])] }
def wh:H8:={}
def aY:H8:={ keep:=[(4,[1,3],[1],[],[1,3])] }
def mf:H8:={ keep:=[(2,[0,1,5],[],[],[0,1,5])] }
def wm:H8:={}
def A0v:H8:={}
def WP:H8:={ keep:=[(4,[1,2,5],[2],[],[1,2,5])] }
def aU:H8:={ keep:=[(3,[0,3,4],[],[],[0,3,4])] }
def gy:H8:={ keep:=[(3,[1,3,4],[1],[],[1,3,4])] }
def OA:H8:={ shared:=[1,2],keep:=[(2,[2,6],[],[],[2,6])] }
def aa:H8:={ shared:=[10],Db:=[21,25],keep:=[(3,[3,11,12,13],[],[],[3,11,12,13])] }
def Sd:l8:={ params:=[.val],results:=[.ptr] }
def Iu:H8:={ shared:=[10],grow:=[(1,10,[1])],keep:=[(20,[0,2,3,5,9,10,11,17],[5,9],[],[0,2,3,5,9,10,11,17]),(39,[9,10,11],[9],[],[9,10,11])] }
def El:l8:={ params:=[.val,.val,.val,.val],results:=[.val,.val] }
def MQ:H8:={ keep:=[(6,[0,4,5,28,29,30],[4,5],[],[0,4,5,28,29,30])] }
def Gs:l8:={ params:=[.val,.val],results:=[.val] }
def Iy:H8:={ Q8:=[40,58],keep:=[(3,[0,3,4,5,16,17,18],[3,4,5],[5],[0,3,4,16,17,18]),(12,[0,4,5,47,48,49],[4,5],[5],[0,4,47,48,49])] }
def En:l8:={ params:=[.val,.val],results:=[.val] }
def Xl:H8:={}
def Og:l8:={ params:=[.val],results:=[.val] }
def w_:H8:={ Q8:=[2] }
def TJ:H8:={}
def Lc:l8:={ params:=[.val,.val],results:=[] }
def Cj:H8:={ keep:=[(2,[0,3,13,14,15],[3],[],[0,3,13,14,15]),(5,[0,3,13,14,15,20,21,22],[3],[],[0,3,13,14,15,20,21,22]),(11,[0,3,32,33,34],[3],[],[0,3,32,33,34]),(16,[0,43,44,45],[],[],[0,43,44,45])] }
def BS:l8:={ params:=[.val,.val],results:=[] }
def NM:H8:={ Q8:=[33],keep:=[(8,[0,4,5,26,27,28],[4,5],[5],[0,4,26,27,28])] }
def IP:l8:={ params:=[.val,.val],results:=[.val] }
def FC:H8:={ Q8:=[20,36,52],keep:=[(3,[0,3,4,5,13,14,15],[3,4,5],[5],[0,3,4,13,14,15]),(8,[0,3,4,5,29,30,31],[3,4,5],[5],[0,3,4,29,30,31]),(13,[0,4,5,45,46,47],[4,5],[5],[0,4,45,46,47])] }
def Cy:l8:={ params:=[.val,.val],results:=[.val] }
def Uk:H8:={}
def Mm:l8:={ params:=[.val],results:=[.val] }
def Uf:H8:={ keep:=[(4,[0,1,5],[],[],[0,1,5])] }
def aS:H8:={ keep:=[(4,[0,1,5],[],[],[0,1,5])] }
def A2G:H8:={}
def ZH:H8:={ keep:=[(4,[1,3],[1,3],[],[1,3]),(6,[1],[1],[],[1])] }
def Ui:H8:={ keep:=[(5,[3,4],[],[],[3,4])] }
def wu:H8:={}
def sZ:H8:={}
def MR:H8:={ keep:=[(5,[1,2,5],[2],[],[1,2,5]),(8,[1,2],[2],[],[1,2]),(9,[1,2,6],[2],[],[1,2,6]),(12,[1,2],[2],[],[1,2])] }
def ED:H8:={ keep:=[(4,[1,3],[1,3],[],[1,3]),(6,[1,3],[1,3],[],[1,3]),(8,[1,3],[1,3],[],[1,3]),(10,[1,3],[1,3],[],[1,3]),(12,[1,3],[1,3],[],[1,3]),(14,[1,3],[1,3],[],[1,3]),(16,[1,3],[1,3],[],[1,3]),(18,[1],[1],[],[1]),(19,[176,177,178],[],[],[176,177,178])] }
def Iw:H8:={ Oe:=[46,51],keep:=[(2,[0,2,3,4,6,11],[6],[],[0,2,3,4,6,11]),(9,[0,2,4,12,39,40],[12],[],[0,2,4,12,39,40])] }
def Em:l8:={ params:=[.val,.val,.val,.val,.val],results:=[.val] }
def Vk:H8:={ Q8:=[33],opn:=[37,38],B4w:=[(4,40)] }
def Nc:l8:={ params:=[.val,.val,.val,.val,.val,.val],results:=[.val] }
def Ue:H8:={}
def Ml:l8:={ params:=[.val,.val,.val,.val],results:=[.val] }
def TM:H8:={}
def Lf:l8:={ params:=[.val,.val],results:=[.val] }
def Ud:H8:={}
def Mk:l8:={ params:=[.val,.val,.val,.val,.val],results:=[.val] }
def TN:H8:={ Oe:=[23,26] }
def Lg:l8:={ params:=[.val,.val,.val,.val],results:=[.val] }
def pM:H8:={ Q8:=[4] }
def Wo:l8:={ params:=[.val,.val],results:=[.own] }
def Vj:H8:={}
def Nb:l8:={ params:=[.val,.val,.val,.val,.val],results:=[.val] }
def OZ:H8:={ keep:=[(12,[0,2,3,4,6,11],[6,11],[],[0,2,3,4,6,11])] }
def JD:l8:={ params:=[.val,.val,.val,.val,.val],results:=[.val] }
def Oa:H8:={ keep:=[(9,[0,2,3,4,6,13],[6,13],[],[0,2,3,4,6,13])] }
def JE:l8:={ params:=[.val,.val,.val,.val,.val],results:=[.val] }
def Uc:H8:={}
def Mj:l8:={ params:=[.val,.val,.val,.val,.val],results:=[.val] }
def II:H8:={ Q8:=[20,87,102],keep:=[(7,[0,2,3,4,6,12,13,51,52,53],[6],[],[0,2,3,4,6,12,13,51,52,53]),(15,[0,2,3,4,6,12,13,14,17,20,51,52,53,80,81,82],[6],[20],[0,2,3,4,6,12,13,14,17,51,52,53,80,81,82])] }
def EH:l8:={ params:=[.val,.val,.val,.val,.val],results:=[.val] }
def Vl:H8:={}
def Nf:l8:={ params:=[.val,.val],results:=[.val] }
def TK:H8:={}
def Ld:l8:={ params:=[.val,.val,.val,.val],results:=[] }
def Kv:H8:={ keep:=[(8,[0,2,3,4,6,11,12],[6],[],[0,2,3,4,6,11,12]),(9,[0,2,3,4,6,11,12,23,24,25],[6],[],[0,2,3,4,6,11,12,23,24,25])] }
def Fz:l8:={ params:=[.val,.val,.val,.val,.val],results:=[.val] }
def Vp:H8:={ shared:=[26],Ha:=[23,24],B4p:=[(25,[23,24])] }
def Nk:l8:={ params:=[.val,.val],results:=[.val,.val] }
def TL:H8:={}
def Le:l8:={ params:=[.val,.val,.val],results:=[] }
def XA:H8:={ Q8:=[2,6,17,36,39],keep:=[(5,[1,2,3],[3],[2],[1,3]),(6,[1,2,28,29,30],[],[2],[1,28,29,30])] }
def QQ:l8:={ params:=[.val,.val,.own],results:=[.own] }
def gu:H8:={ keep:=[(4,[2,3,5],[2,3],[],[2,3,5])] }
def YI:H8:={ keep:=[(20,[1,2,4],[1,2,4],[],[1,2,4])] }
def wy:H8:={}
def gq:H8:={ keep:=[(4,[0,3],[],[],[0,3])] }
def ZI:H8:={ keep:=[(25,[1,3,4],[1,4],[],[1,3,4]),(28,[1,3,5],[1],[],[1,3,5])] }
def sV:H8:={ Q8:=[2] }
def ae:H8:={ keep:=[(9,[33,34,35],[],[],[33,34,35])] }
def Sq:H8:={ keep:=[(2,[1,2,5],[2],[],[1,2,5])] }
def Ug:H8:={ keep:=[(4,[1,2,5],[2],[],[1,2,5])] }
def dw:H8:={}
def af:H8:={ keep:=[(4,[0,3],[],[],[0,3])] }
def sW:H8:={}
def jo:H8:={}
def GG:H8:={ shared:=[1,2,3],keep:=[(3,[2,3,8],[],[],[2,3,8]),(6,[3,4],[4],[],[3,4])] }
def Jz:H8:={ shared:=[35],Om:=[61,99],keep:=[(5,[0,1,3,10,36,37,38],[],[],[0,1,3,10,36,37,38]),(17,[0,1,10,16,90,91,92],[],[],[0,1,10,16,90,91,92])] }
def FP:l8:={ params:=[.val,.val,.val,.val],results:=[.val,.val] }
def J_:H8:={ keep:=[(8,[0,1,10],[],[],[0,1,10]),(9,[0,1,10,24,25,26],[],[],[0,1,10,24,25,26])] }
def FQ:l8:={ params:=[.val,.val,.val,.val],results:=[.val,.val] }
def Xo:H8:={}
def Oj:l8:={ params:=[.val,.val],results:=[.val,.val] }
def Vn:H8:={ Om:=[12] }
def Ni:l8:={ params:=[.val,.val],results:=[.val] }
def Vm:H8:={ Om:=[12] }
def Nh:l8:={ params:=[.val,.val],results:=[.val],lock:=true }
def pO:H8:={}
def MP:H8:={ Q8:=[6,7,29,34],keep:=[(3,[0,2,7,15,16,17],[],[7],[0,2,15,16,17])] }
def Gr:l8:={ params:=[.val,.val,.val],results:=[.val] }
def aX:H8:={ shared:=[31],grow:=[(3,31,[2,3])],keep:=[(2,[10],[10],[],[10])] }
def Sb:l8:={ params:=[.val,.val,.val,.val],results:=[.val,.val,.val,.val] }
def Xn:H8:={}
def Oi:l8:={ params:=[.val,.val],results:=[.val,.val] }
def JS:H8:={ Db:=[33,146],keep:=[(4,[0,6,7,9],[],[],[0,6,7,9]),(27,[0,6,7,9,11,12],[],[],[0,6,7,9,11,12]),(29,[0,6,7,9,17,18,19],[],[],[0,6,7,9,17,18,19]),(32,[6,7],[],[],[6,7])] }
def FO:l8:={ params:=[.val,.val,.val],results:=[.val,.val,.val] }
def Yl:H8:={ Om:=[12] }
def QP:l8:={ params:=[.val,.val],results:=[.val] }
def MU:H8:={ Om:=[33],keep:=[(7,[0,1,7,37,38,39],[],[],[0,1,7,37,38,39])] }
def Gu:l8:={ params:=[.val,.val],results:=[.val] }
def Iz:H8:={ Q8:=[61],Om:=[33,50],keep:=[(8,[0,1,4,7],[4,7],[7],[0,1,4]),(9,[0,1,4,7,54,55,56],[4,7],[7],[0,1,4,54,55,56])] }
def Eo:l8:={ params:=[.val,.val],results:=[.val] }
def ww:H8:={}
def sU:H8:={}
def wo:H8:={}
def ZG:H8:={ keep:=[(2,[0,3],[],[],[0,3]),(8,[0,4,5],[],[],[0,4,5])] }
def aZ:H8:={ Q8:=[1,4,9,26,28],keep:=[(4,[1,2,5],[2],[1],[2,5])] }
def Sc:l8:={ params:=[.val,.own],results:=[.own] }
def su:H8:={}
def xA:H8:={}
def pR:H8:={}
def pQ:H8:={}
def WQ:H8:={ keep:=[(24,[1,3,4],[1,3],[],[1,3,4])] }
def Ob:H8:={ Om:=[12,21],keep:=[(3,[0,1],[],[],[0,1])] }
def JF:l8:={ params:=[.val,.val],results:=[.val] }
def Un:H8:={ Q8:=[4] }
def Mr:l8:={ params:=[.val,.val],results:=[.val] }
def Gl:H8:={ Om:=[37],keep:=[(8,[0,1,6],[],[],[0,1,6]),(9,[0,1,6,41,42,43],[],[],[0,1,6,41,42,43])] }
def Di:l8:={ params:=[.val,.val],results:=[.val] }
def MS:H8:={ Q8:=[10,63,85],Om:=[53,80],keep:=[(12,[0,5,10,57,58,59],[],[10],[0,5,57,58,59])] }
def Gt:l8:={ params:=[.val,.val],results:=[.val] }
def Xp:H8:={ Db:=[13],Om:=[10,26] }
def Ol:l8:={ params:=[.val,.val],results:=[.val] }
def YK:H8:={ keep:=[(12,[1],[1],[],[1])] }
def Oc:H8:={ Q8:=[4,5,29,34],Om:=[23],keep:=[(5,[0,5,14,15,16],[],[5],[0,14,15,16])] }
def JG:l8:={ params:=[.val,.val],results:=[.val] }
def Ul:H8:={ Om:=[12] }
def Mo:l8:={ params:=[.val,.val],results:=[.val] }
def Jh:H8:={ Q8:=[7,8,11,54,59,65,69,74,85],Oe:=[36,40,44,47],keep:=[(16,[0,2,4],[4],[],[0,2,4]),(20,[0,4,7],[4],[],[0,4,7]),(21,[0,7,90,91,92],[],[],[0,7,90,91,92])] }
def FV:l8:={ params:=[.val,.val,.val],results:=[.val] }
def YJ:H8:={ keep:=[(5,[1,5,13,14,15],[],[],[1,5,13,14,15])] }
def Px:H8:={ Q8:=[5,22,32],keep:=[(5,[0,3,5,16,17,18],[3],[5],[0,3,16,17,18])] }
def KD:l8:={ params:=[.val,.val],results:=[.val] }
def Um:H8:={}
def Mq:l8:={ params:=[.val,.val,.val],results:=[.val] }
def Uj:H8:={ Db:=[31],keep:=[(7,[0,1,2,8,35,36],[],[],[0,1,2,8,35,36])] }
def Ng:l8:={ params:=[.val,.val,.val],results:=[.val,.val] }
def sS:H8:={}
def WR:H8:={ keep:=[(4,[1,12,13,14],[],[],[1,12,13,14])] }
def Od:H8:={ Q8:=[2,6,26,38,57,60],Om:=[16,30,45],keep:=[(7,[0,2,49,50,51],[],[2],[0,49,50,51])] }
def JH:l8:={ params:=[.val,.val,.own],results:=[.own] }
def RX:H8:={ Q8:=[10,33,58],keep:=[(2,[0,2,3,4,6,10,15,16],[6],[10],[0,2,3,4,6,15,16])] }
def LJ:l8:={ params:=[.val,.val,.val,.val,.val],results:=[.own,.val,.val] }
def Xm:H8:={}
def Oh:l8:={ params:=[.val,.val,.val,.val],results:=[.val] }
def sQ:H8:={}
def NN:H8:={ Om:=[19,24],keep:=[(1,[0,2,10,11,12],[],[],[0,2,10,11,12])] }
def IQ:l8:={ params:=[.val,.val,.val],results:=[] }
def TP:H8:={}
def Lh:l8:={ params:=[.val,.val],results:=[.val] }
def Vo:H8:={ Om:=[26,46,56] }
def Nj:l8:={ params:=[.val,.val,.val],results:=[.val] }
def TQ:H8:={}
def Li:l8:={ params:=[.val,.val,.val],results:=[.val] }
def Mw:H8:={}
def Ji:H8:={ keep:=[(2,[0,1,7,8],[],[],[0,1,7,8])] }
def flL:List H8:=[{},{},{},{},Kw,{},{},{},{},aV,{},aR,{},aT,WO,{},aW,Uh,wh,{},aY,{},{},{},{},mf,{},wm,{},{},{},A0v,WP,{},{},aU,gy,{},{},OA,aa,Iu,MQ,Iy,Xl,w_,TJ,Cj,NM,FC,Uk,{},{},{},{},{},{},{},{},{},Uf,aS,{},{},A2G,ZH,Ui,{},{},wu,{},{},{},{},sZ,{},MR,{},ED,Iw,Vk,Ue,TM,Ud,TN,pM,Vj,OZ,Oa,Uc,II,Vl,TK,Kv,Vp,TL,XA,{},{},{},{},{},{},{},{},{},{},{},{},{},{},{},{},{},{},{},gu,{},YI,wy,gq,ZI,sV,{},{},ae,Sq,Ug,{},{},dw,af,sW,jo,GG,Jz,J_,Xo,Vn,Vm,pO,MP,aX,Xn,JS,Yl,MU,Iz,{},{},{},{},{},{},{},ww,{},{},{},{},{},sU,wo,ZG,aZ,su,xA,pR,pQ,{},WQ,Ob,Un,Gl,MS,Xp,{},YK,Oc,Ul,Jh,YJ,Px,Um,Uj,{},{},{},{},{},{},{},{},{},{},{},{},sS,WR,{},{},Od,RX,Xm,sQ,NN,TP,Vo,TQ,{},{},{},{},{},Mw,Ji,{},{},{},{},{},{},{},{},{},{},{},{},{},{},{},{},{}]
def B8Z:List (Option l8):=List.replicate 40 (none:Option l8)++[some Sd,some El,some Gs,some En,some Og,none,some Lc,some BS,some IP,some Cy,some Mm]++List.replicate 28 (none:Option l8)++[some Em,some Nc,some Ml,some Lf,some Mk,some Lg,some Wo,some Nb,some JD,some JE,some Mj,some EH,some Nf,some Ld,some Fz,some Nk,some Le,some QQ]++List.replicate 38 (none:Option l8)++[some FP,some FQ,some Oj,some Ni,some Nh,none,some Gr,some Sb,some Oi,some FO,some QP,some Gu,some Eo]++List.replicate 16 (none:Option l8)++[some Sc,none,none,none,none,none,none,some JF,some Mr,some Di,some Gt,some Ol,none,none,some JG,some Mo,some FV,none,some KD,some Mq,some Ng]++List.replicate 16 (none:Option l8)++[some JH,some LJ,some Oh,none,some IQ,some Lh,some Nj,some Li]++List.replicate 23 (none:Option l8)++[none]
def clL:List FuncId:=[176]
def csL:List (FuncId×Nat):=[(176,1),(77,16),(169,7)]
def mkL:List (FuncId×FuncId):=[(77,128),(169,199)]
def itF(f:FuncId):Option (List DV->Option (List DV)):=if f=128 then some (SY 16 15)else if f=199 then some (SY 7 6)else none
def dcL:List (FuncId×B5P):=[]
def dfL:List FuncId:=[]
def B8W:List TypeId:=[]
def B73:List (FuncId×Cut):=[]
def cfg:BV where
 P:=Tryz.prog
 fl f:=flL.getD f {}
 sig f:=B8Z.getD f none
 uG f:=B73.lookup f
 clone f:=clL.contains f
 ib f:=(csL.lookup f).getD 0
 eQ f:=mkL.lookup f
 iter f:=itF f
 ref t:=B8W.contains t
 B2P f:=dcL.lookup f
 dfn f:=dfL.contains f
def zb0:List (DV×F4):=[((.int .i64 0),.val),((.int .i64 0),.val),((.int .i64 0),.val),((.int .i64 0),.val),((.int .i64 0),.val),((.str ⟨#[]⟩),.val)]
def zb1:List (DV×F4):=[((.int .i64 0),.val),((.int .i64 0),.val),((.list 3 []),.val)]
abbrev C9:=run cfg
def hP(fn:Func)(fl:H8)(R:O7)(l:List Bool)(s:St):=A4m cfg R fl (Wj cfg.P fn) l (fn.body.getD .skip) s
def eP(fn:Func)(fl:H8)(R:O7)(l:List Bool)(s:St):=Ua cfg R fl (Wj cfg.P fn) l (fn.body.getD .skip) s
def A9a{f:FuncId}{fn:Func}{ds:List DV}{X:Option DV}{d:DV}(hf:cfg.P.funcs[f]?=some fn)(hp:cfg.uG f=none)(hb:fn.body=some (fn.body.getD .skip))(hX:Ua cfg (run cfg) (cfg.fl f) (Wj cfg.P fn) [] (fn.body.getD .skip) (I4 fn (ds.map λd=>(d,.val)) [])=X)(h:X=some d):(run cfg).p f ds=some d:=(A5f hp hf hb).trans (hX.trans h)
def pbA:Nat->Nat->List Bool->List Bool
  |0,_,a=>a
  |k+1,n,a=>match Nat.ble n 1 with
    |true=>a
    |false=>pbA k (n / 2) (Nat.beq (n % 2) 1::a)
def pb(n:Nat):List Bool:=pbA 300 n []
def mrg:Nat->List (Nat×F4)->List Nat->List (Nat×F4)
  |0,_,_=>[]
  |_+1,l,[]=>l
  |k+1,[],j::b=>(j,.loc j 0)::mrg k [] b
  |k+1,(i,m)::l,j::b=>match Nat.ble i j with
    |true=>(i,m)::mrg k l (j::b)
    |false=>(j,.loc j 0)::mrg k ((i,m)::l) b
def ms(n:Nat)(a:List (Nat×DV))(b:List (Nat×F4))(c:List (Nat×Option (List (DV×F4))))(g:List E5):St:=mst n a (mrg 300 b (c.map Prod.fst)) c g
def bx(d:DV)(n:Nat):=some (bxs d 0 n)
def bv(l:List DV):Option (List (DV×F4)):=some (l.map λd=>(d,.val))
def hR(fn:Func)(g:l8)(fl:H8)(R:O7)(l:List Bool)(s:St):=A4m cfg R fl (bQ cfg.P fn g) l (fn.body.getD .skip) s
def eR(fn:Func)(g:l8)(fl:H8)(R:O7)(l:List Bool)(s:St):=Ua cfg R fl (bQ cfg.P fn g) l (fn.body.getD .skip) s
def Bb{f:FuncId}{fn:Func}{s:l8}{rs:List (DV×F4)}{sg:List E5}{q:Option (List DV×List E5)}(hf:cfg.P.funcs[f]?=some fn)(hs:cfg.sig f=some s:=by kernel_rfl)(hb:fn.body=some (fn.body.getD .skip):=by kernel_rfl)(hp:cfg.B2P f=none:=by kernel_rfl)(h:Ua cfg (run cfg) (cfg.fl f) (bQ cfg.P fn s) [] (fn.body.getD .skip) (I4 fn rs sg)=q:=by kernel_rfl):(run cfg).r f rs sg=q:=(B4N hs hf hb hp).trans h
def CG{f:FuncId}{fn:Func}{ds:List DV}{q:Option DV}(hf:cfg.P.funcs[f]?=some fn)(hp:cfg.uG f=none:=by kernel_rfl)(hb:fn.body=some (fn.body.getD .skip):=by kernel_rfl)(h:Ua cfg (run cfg) (cfg.fl f) (Wj cfg.P fn) [] (fn.body.getD .skip) (I4 fn (ds.map λd=>(d,.val)) [])=q:=by kernel_rfl):(run cfg).p f ds=q:=(A5f hp hf hb).trans h
end
end Go.Su

/-
 The program's iterators keep their word: by program.
-/
namespace Go.Su
open Go.Proofs Go.RowKit Go.Shelf
attribute [local go_sem] Oper.semAt_some
variable {F:Fence}
theorem B1X(hd:F.depth=none)(k:Nat):F.room k:=λd h=>by rw[hd]at h;cases h
theorem RoundIn.B5T(hd:F.depth=none){m m':Nat}{P:Program}{l:Nat}{f:FuncId}{tmps:Array Value}{assign body:Code}{w:World}{R:Ending->World->Prop}(h:RoundIn F m P l f tmps assign body w R):RoundIn F m' P l f tmps assign body w R:=⟨h.1,λc cs _=>h.2 c cs (B1X hd _)⟩
set_option maxHeartbeats 1000000 in
theorem B41:A80 Tryz.prog 169 199 7:=by
 intro w vs hs;obtain⟨l⟩:=vs
 match l,hs with
 |[v0,v1,v2,v3,v4,v5,v6],_=>
 refine(callsIn_wide (n:=1)).1 (callsIn_of_wp Tryz.func169 rfl trivial ?_);simp only[Tryz.ntmps169,z4q,z6q,z8q,Nat.reduceAdd,Nat.reduceSub,z1q,z2q,z5q,z3q,z9q,z7q]
 gi_wp2
 go_ret
 exact⟨rfl,_,rfl⟩
set_option maxRecDepth 10000 in
set_option maxHeartbeats 4000000 in
theorem B4T(l n0:Nat)(ds:List DV)(J:Nat->Env->World->Prop)(Jx:World->Prop)(n:Nat)(hf:∀k E' W',J k E' W'->∀b o,W'.heap.size<=b->E'.O b o=.other)(hI:∀k E' W1 W2,J k E' W1->PX n0 E' W1 W2->J k E' W2)(hY:∀k E' W1 d v,J k E' W1->ds[k]?=some d->RV E'.S W1.heap d v->YieldAt Fence.wide n Tryz.prog l #[v] W1 λe W2=>
   (e=.returned (.bool true)/\∃E2,J (k+1) E2 W2/\Pr P5 E' W1.heap E2 W2.heap)\/(e=.returned (.bool false)/\Jx W2)):
 ∀(m:Nat)(d:DV)(sub:List DV),BL 7 6 m d=some sub->∀(k:Nat)(E:Env)(W:World)(v:Value),J k E W->RV E.S W.heap d v->(∀j x,sub[j]?=some x->ds[k+j]?=some x)->n0<=W.heap.size->CallsIn Fence.wide n Tryz.prog 200 #[v,.func (.yield l) #[] #[]] W λe W'=>(e=.returned (.bool true)/\∃E',J (k+sub.length) E' W'/\Oq E W E' W')\/(e=.returned (.bool false)/\Jx W'):=by
 intro m;induction m with
 |zero=>intro d sub h;simp[BL]at h
 |succ m ih=>
   intro d sub EF k E W v hJ hv MZ hn0;cases d with
   |agg cs=>
     rw[BL]at EF;obtain⟨h1,EF⟩:=H6 EF;cases hk:cs.getD 6 .undef with
     |list s kds=>
       rw[hk]at EF;simp only at EF;obtain⟨h2,EF⟩:=H6 EF;obtain⟨ks,h3,EF⟩:=D5 EF;simp only[D8]at EF;subst EF;simp only[beq_iff_eq,zjq,I9]at h1 h2;obtain⟨h2,YN⟩:=h2;subst h2;have QD:=hv;simp only[RV]at QD;obtain⟨vs,rfl,QE⟩:=QD;obtain⟨hl,QE⟩:=CQ.1 QE;obtain⟨l',rfl⟩:∃l':List Value,vs=l'.toArray:=⟨vs.toList,by simp⟩;simp only at hl QE
       match l',hl.symm.trans h1 with
       |[v0,v1,v2,v3,v4,v5,v6],_=>
       have hk5:cs[6]?=some (.list 7 kds):=by
        have:6<cs.length:=by omega
        rw[zcq,z0q this]at hk;rw[z0q this];exact congrArg some hk
       have hkc:=(QE 6 _ v6 hk5 rfl).2;simp only[RC]at hkc;obtain⟨ka,len,cap,h4,h5,h6,h7,h8,h9⟩:=hkc;simp only[List.cons.injEq,and_true]at h4;subst h4 h5;have RN:∀k:Nat,(Fence.wide.depth.isSome=true->1<=k):=λk h=>by cases h
       have ho:∀o,E.O W.heap.size o=.other:=λo=>hf k E W hJ _ o (zbq _);have key:∀T,∃fy ty ay by_,(Instr.yield l #[.agg #[v0,v1,v2,v3,v4,v5,.slice ka kds.length cap]]).run Tryz.prog (W.alloc (.cells #[v0,v1,v2,v3,v4,v5,.slice ka kds.length cap] T))=.ok (.round l fy ty ay by_) (W.alloc (.cells #[v0,v1,v2,v3,v4,v5,.slice ka kds.length cap] T)) /\
        RoundIn Fence.wide (n-1) Tryz.prog l fy ty ay by_ (W.alloc (.cells #[v0,v1,v2,v3,v4,v5,.slice ka kds.length cap] T)) λe W2=>(e=.returned (.bool true)/\∃E2,J (k+1) E2 W2/\Oq E W E2 W2/\(W2.heap[W.heap.size]?=some (.cells #[v0,v1,v2,v3,v4,v5,.slice ka kds.length cap] T (0,0))/\(∀o,E2.O W.heap.size o=.other))/\W2.cell? ⟨W.heap.size,6,none⟩=some (.slice ka kds.length cap))\/(e=.returned (.bool false)/\Jx W2):=by
        intro T;have hJ1:J k E (W.alloc (.cells #[v0,v1,v2,v3,v4,v5,.slice ka kds.length cap] T)):=hI _ _ _ _ hJ (PX.alloc _);have K1:=Oq.alloc (E:=E) (W:=W) (.cells #[v0,v1,v2,v3,v4,v5,.slice ka kds.length cap] T) (hf k E W hJ);obtain⟨fy,ty,ay,by_,hy,hR⟩:=hY k E _ (.agg cs) _ hJ1 (MZ 0 _ rfl) (RV.mono K1.sh _ hv);refine⟨fy,ty,ay,by_,hy,RoundIn.B5T rfl (RoundIn.mono hR ?_)⟩;rintro e W2 (⟨rfl,E2,hJ2,hP2⟩ | ⟨rfl,hx⟩)
        ·have K2:=Oq.B4m hP2 (hf _ _ _ hJ1);have hb:=K2.blk W.heap.size (by simp) ho;rw[World.alloc_heap_new]at hb;refine .inl ⟨rfl,E2,hJ2,K1.trans K2,hb,?_⟩;simp[World.cell?,hb.1]
        ·exact .inr ⟨rfl,hx⟩
       obtain⟨fy,ty,ay,by_,hy,hR⟩:=key 71;refine callsIn_of_wp Tryz.func200 rfl trivial ?_;simp only[Tryz.ntmps200,z4q,z6q,z8q,Nat.reduceAdd,Nat.reduceSub,z1q,z2q,z5q,z3q,z9q,z7q]
       gi_wp2_with ((try refine⟨RN _,?_⟩);refine hR.mono ?_;clear hR;rintro e W2 (⟨rfl,E2,hJ2,hK2,pV,hc2⟩ | ⟨rfl,hx2⟩))
       ·-- the D6, one by one
        refine wpIn_loop_rounds (kds.length+1) ?_;refine(?loop:∀(r i:Nat)(pre rs:List DV)(E3:Env)(w:World)(x6 x15 x16 x17 x18 x19 x20 x21 x22:Value),i+r=kds.length->NP (BL 7 6 m) (kds.drop i)=some rs->ks=pre++rs->J (k+1+pre.length) E3 w->Oq E W E3 w->
         Code.roundsIn Fence.wide n Tryz.prog _ _ (r+1) { tmps := #[.agg #[v0,v1,v2,v3,v4,v5,.slice ka kds.length cap],.func (.yield l) #[] #[],.pointer (some { block:=W.heap.size,off:=0 }),undef,.bool false,undef,x6,.func (.yield l) #[] #[],.agg #[v0,v1,v2,v3,v4,v5,.slice ka kds.length cap],.bool true,.bool false,.pointer (some { block:=W.heap.size,off:=6 }),.slice ka kds.length cap,.int .i64 (kds.length:Int),.int .i64 (i:Int),x15,x16,x17,x18,x19,x20,x21,x22],defers:=[] } w)
         kds.length 0 [] ks E2 W2 undef undef undef undef undef undef undef undef undef (by simp) h3 rfl hJ2 hK2
        clear hJ2 hK2 pV hc2 hy key hJ;intro r;induction r with
        |zero=>
          intro i pre rs E3 w x6 x15 x16 x17 x18 x19 x20 x21 x22 hi hrs Ll hJ3 jq;have hi':i=kds.length:=by omega
          have B26:(i:Int)=(kds.length:Int):=by omega
          rw[roundsIn_succ];rw[B26];have P6:¬((kds.length:Int)<(kds.length:Int)):=by omega
          gi_wp2
          go_ret
          rw[hi',zkq,NP]at hrs;simp only[D8]at hrs;subst hrs;refine .inl ⟨rfl,E3,?_,jq⟩;rw[show k+(pre.length+([]:List DV).length+1)=k+1+pre.length by simp;omega];exact hJ3
        |succ r ihr=>
          intro i pre rs E3 w x6 x15 x16 x17 x18 x19 x20 x21 x22 hi hrs Ll hJ3 jq;rw[roundsIn_succ];have P6:((i:Int)<(kds.length:Int)):=by omega
          have hil:i<kds.length:=by omega
          obtain⟨xa,rfl⟩:∃xa,ka=some xa:=by
           cases ka with
           |none=>have:=h7 rfl;omega
           |some xa=>exact⟨xa,rfl⟩
          obtain⟨Ym,h11⟩:=h9 xa rfl;obtain⟨xb,xo,xs⟩:=xa;have Ym:=Ym (by omega);simp only at Ym h11;subst Ym;obtain⟨us,hu1,hu2,hu3⟩:=EJ.1 h11 i _ (z0q hil);have hu4:=hu2.mono jq.sh
          match us,hu1 with
          |[u0,u1,u2,u3,u4,u5,u6],_=>
          have cc:∀(j:Nat)(u:Value),[u0,u1,u2,u3,u4,u5,u6][j]?=some u->w.cell? ⟨xb,xo+i * 7+j,none⟩=some u:=λj u hj=>by rw[MM];exact(hu4 j u hj).1
          have c0:w.cell? ⟨xb,xo+i * 7,none⟩=some u0:=cc 0 u0 rfl;have c1:=cc 1 u1 rfl;have c2:=cc 2 u2 rfl;have c3:=cc 3 u3 rfl;have c4:=cc 4 u4 rfl;have c5:=cc 5 u5 rfl;have c6:=cc 6 u6 rfl;have ou:∀(j:Nat)(u:Value),[u0,u1,u2,u3,u4,u5,u6][j]?=some u->u.oneCell'=true:=λj u hj=>(OH hu3 hj).elim λh1 h2=>Jc h1 h2;have e0:u0.oneCell'=true:=ou 0 u0 rfl;have e1:u1.oneCell'=true:=ou 1 u1 rfl;have e2:u2.oneCell'=true:=ou 2 u2 rfl;have e3:u3.oneCell'=true:=ou 3 u3 rfl;have e4:u4.oneCell'=true:=ou 4 u4 rfl;have e5:u5.oneCell'=true:=ou 5 u5 rfl;have e6:u6.oneCell'=true:=ou 6 u6 rfl;obtain⟨w1,s0,b0,r0,z0,o0⟩:=AX (P:=Tryz.prog) (j:=0) (World.alloc_heap_new w (.cells #[.int .i64 0,.int .i64 0,.int .i64 0,.string ⟨#[]⟩,.int .i64 0,.string ⟨#[]⟩,.slice none 0 0] 71)) (by simp) e0;obtain⟨w2,s1,b1,r1,z1,o1⟩:=AX (P:=Tryz.prog) (j:=1) b0 (by simp) e1;obtain⟨w3,s2,b2,r2,z2,o2⟩:=AX (P:=Tryz.prog) (j:=2) b1 (by simp) e2;obtain⟨w4,s3,b3,r3,z3,o3⟩:=AX (P:=Tryz.prog) (j:=3) b2 (by simp) e3;obtain⟨w5,s4,b4,r4,z4,o4⟩:=AX (P:=Tryz.prog) (j:=4) b3 (by simp) e4;obtain⟨w6,s5,b5,r5,z5,o5⟩:=AX (P:=Tryz.prog) (j:=5) b4 (by simp) e5;obtain⟨w7,s6,b6,r6,z6,o6⟩:=AX (P:=Tryz.prog) (j:=6) b5 (by simp) e6;simp only[zdq,zfq,zgq]at b0 b1 b2 b3 b4 b5 b6;have dd:∀(j:Nat)(u:Value),[u0,u1,u2,u3,u4,u5,u6][j]?=some u->w7.cell? ⟨w.heap.size,j,none⟩=some u:=λj u hj=>by rw[MM];simp only[hc,b6];simpa using hj
          have d0:=dd 0 u0 rfl;have d1:=dd 1 u1 rfl;have d2:=dd 2 u2 rfl;have d3:=dd 3 u3 rfl;have d4:=dd 4 u4 rfl;have d5:=dd 5 u5 rfl;have d6:=dd 6 u6 rfl;have low:∀b,b<w.heap.size->w7.heap[b]?=w.heap[b]?:=λb hb=>by rw[r6 b (by omega),r5 b (by omega),r4 b (by omega),r3 b (by omega),r2 b (by omega),r1 b (by omega),r0 b (by omega)];exact Below.heap_alloc _ _ _ hb
          have hz:w.heap.size<=w7.heap.size:=by rw[z6,z5,z4,z3,z2,z1,z0];simp
          have WV:Y9 w w7:=Y9.trans (b:=w1) (Y9.trans (b:=w.alloc (.cells #[.int .i64 0,.int .i64 0,.int .i64 0,.string ⟨#[]⟩,.int .i64 0,.string ⟨#[]⟩,.slice none 0 0] 71)) ⟨rfl,rfl,rfl⟩ o0) ((((((o1).trans o2).trans o3).trans o4).trans o5).trans o6);have hfr:=hf _ _ _ hJ3;have K7:Oq E3 w E3 w7:=Oq.same hz low hfr;have hJ7:=hI _ _ _ _ hJ3 (PX.same hz low WV);rw[zeq hil,NP]at hrs;obtain⟨sa,hsa,hrs⟩:=D5 hrs;obtain⟨sb,hsb,hrs⟩:=D5 hrs;simp only[D8]at hrs;subst hrs;have B23:Fence.wide.fn 200:=trivial;have A0B:CallsIn Fence.wide (n-1) Tryz.prog 200 _ w7 _:=callsIn_wide.2 (callsIn_wide.1 (ih _ sa hsa (k+1+pre.length) E3 w7 (.agg #[u0,u1,u2,u3,u4,u5,u6]) hJ7 (RV.mono (jq.trans K7).sh _ (flat_agg hsa hu3)) (A8l MZ Ll) (by have:=jq.size;omega)));clear ih
          gi_wp2_with ((try refine⟨RN _,?_⟩);gi_at_call 200;refine A0B.mono ?_;clear A0B;rintro e wz (⟨rfl,E4,hJ4,hK4⟩ | ⟨rfl,hx⟩))
          ·rw[show wrap64 ((i:Int)+1)=((i+1:Nat):Int)by unfold R9 at YN;rw[wrap64];omega];exact ihr (i+1) (pre++sa) sb E4 wz _ _ _ _ _ _ _ _ _ (by omega) hsb (by rw[Ll,ziq]) (by rw[zhq,<- Nat.add_assoc];exact hJ4) ((jq.trans K7).trans hK4)
          ·go_ret
           exact .inr ⟨rfl,hx⟩
       ·go_ret
        exact .inr ⟨rfl,hx2⟩
     |_=>rw[hk]at EF;simp at EF
   |_=>simp[BL]at EF
set_option maxHeartbeats 1000000 in
theorem B4W:zK Tryz.prog 199 (SY 7 6):=by
 intro cs ds Yn n l b c T0 J Jx E W hb ho hR hf hI hY h0;obtain⟨m,hm⟩:=A0w Yn;have GH:cs.length=7:=by
  cases m with
  |zero=>simp[BL]at hm
  |succ m=>rw[BL]at hm;obtain⟨h1,-⟩:=H6 hm;simpa using h1
 have hlc:=(CQ.1 hR).1;obtain⟨l',rfl⟩:∃l':List Value,c=l'.toArray:=⟨c.toList,by simp⟩;simp only at hR hlc
 match l',hlc.symm.trans GH with
 |[v0,v1,v2,v3,v4,v5,v6],_=>
 have cc:∀(j:Nat)(u:Value),[v0,v1,v2,v3,v4,v5,v6][j]?=some u->W.cell? ⟨b,j,none⟩=some u:=λj u hj=>by rw[MM];simp only[hc,hb];simpa using hj
 have c0:=cc 0 v0 rfl;have c1:=cc 1 v1 rfl;have c2:=cc 2 v2 rfl;have c3:=cc 3 v3 rfl;have c4:=cc 4 v4 rfl;have c5:=cc 5 v5 rfl;have c6:=cc 6 v6 rfl;have hgo:CallsIn Fence.wide (n-1) Tryz.prog 200 _ W _:=callsIn_wide.2 (callsIn_wide.1 (B4T l W.heap.size ds J Jx n hf hI hY m (.agg cs) ds hm 0 E W (.agg #[v0,v1,v2,v3,v4,v5,v6]) h0 (by simp only[RV];exact⟨_,rfl,hR⟩) (λj x h=>by rw[Nat.zero_add];exact h) (zbq _)));have B23:Fence.wide.fn 200:=trivial;have RN:∀k:Nat,(Fence.wide.depth.isSome=true->1<=k):=λk h=>by cases h
 refine callsIn_of_wp Tryz.func199 rfl trivial ?_;simp only[Tryz.ntmps199,z4q,z6q,z8q,Nat.reduceAdd,Nat.reduceSub,z1q,z2q,z5q,z3q,z9q,z7q]
 gi_wp2_with ((try refine⟨RN _,?_⟩);gi_at_call 200;refine hgo.mono ?_;clear hgo;rintro e w2 (⟨rfl,E4,hJ4,-⟩ | ⟨rfl,hx⟩))
 ·go_end0
  exact⟨⟨_,rfl⟩,.inl ⟨E4,by simpa using hJ4⟩⟩
 ·go_end0
  exact⟨⟨_,rfl⟩,.inr hx⟩
set_option maxHeartbeats 1000000 in
theorem B6O:A80 Tryz.prog 77 128 16:=by
 intro w vs hs;obtain⟨l⟩:=vs
 match l,hs with
 |[v0,v1,v2,v3,v4,v5,v6,v7,v8,v9,v10,v11,v12,v13,v14,v15],_=>
 refine(callsIn_wide (n:=1)).1 (callsIn_of_wp Tryz.func77 rfl trivial ?_);simp only[Tryz.ntmps77,z4q,z6q,z8q,Nat.reduceAdd,Nat.reduceSub,z1q,z2q,z5q,z3q,z9q,z7q]
 gi_wp2
 go_ret
 exact⟨rfl,_,rfl⟩
set_option maxRecDepth 10000 in
set_option maxHeartbeats 4000000 in
theorem B6l(l n0:Nat)(ds:List DV)(J:Nat->Env->World->Prop)(Jx:World->Prop)(n:Nat)(hf:∀k E' W',J k E' W'->∀b o,W'.heap.size<=b->E'.O b o=.other)(hI:∀k E' W1 W2,J k E' W1->PX n0 E' W1 W2->J k E' W2)(hY:∀k E' W1 d v,J k E' W1->ds[k]?=some d->RV E'.S W1.heap d v->YieldAt Fence.wide n Tryz.prog l #[v] W1 λe W2=>
   (e=.returned (.bool true)/\∃E2,J (k+1) E2 W2/\Pr P5 E' W1.heap E2 W2.heap)\/(e=.returned (.bool false)/\Jx W2)):
 ∀(m:Nat)(d:DV)(sub:List DV),BL 16 15 m d=some sub->∀(k:Nat)(E:Env)(W:World)(v:Value),J k E W->RV E.S W.heap d v->(∀j x,sub[j]?=some x->ds[k+j]?=some x)->n0<=W.heap.size->CallsIn Fence.wide n Tryz.prog 129 #[v,.func (.yield l) #[] #[]] W λe W'=>(e=.returned (.bool true)/\∃E',J (k+sub.length) E' W'/\Oq E W E' W')\/(e=.returned (.bool false)/\Jx W'):=by
 intro m;induction m with
 |zero=>intro d sub h;simp[BL]at h
 |succ m ih=>
   intro d sub EF k E W v hJ hv MZ hn0;cases d with
   |agg cs=>
     rw[BL]at EF;obtain⟨h1,EF⟩:=H6 EF;cases hk:cs.getD 15 .undef with
     |list s kds=>
       rw[hk]at EF;simp only at EF;obtain⟨h2,EF⟩:=H6 EF;obtain⟨ks,h3,EF⟩:=D5 EF;simp only[D8]at EF;subst EF;simp only[beq_iff_eq,zjq,I9]at h1 h2;obtain⟨h2,YN⟩:=h2;subst h2;have QD:=hv;simp only[RV]at QD;obtain⟨vs,rfl,QE⟩:=QD;obtain⟨hl,QE⟩:=CQ.1 QE;obtain⟨l',rfl⟩:∃l':List Value,vs=l'.toArray:=⟨vs.toList,by simp⟩;simp only at hl QE
       match l',hl.symm.trans h1 with
       |[v0,v1,v2,v3,v4,v5,v6,v7,v8,v9,v10,v11,v12,v13,v14,v15],_=>
       have hk5:cs[15]?=some (.list 16 kds):=by
        have:15<cs.length:=by omega
        rw[zcq,z0q this]at hk;rw[z0q this];exact congrArg some hk
       have hkc:=(QE 15 _ v15 hk5 rfl).2;simp only[RC]at hkc;obtain⟨ka,len,cap,h4,h5,h6,h7,h8,h9⟩:=hkc;simp only[List.cons.injEq,and_true]at h4;subst h4 h5;have RN:∀k:Nat,(Fence.wide.depth.isSome=true->1<=k):=λk h=>by cases h
       have ho:∀o,E.O W.heap.size o=.other:=λo=>hf k E W hJ _ o (zbq _);have key:∀T,∃fy ty ay by_,(Instr.yield l #[.agg #[v0,v1,v2,v3,v4,v5,v6,v7,v8,v9,v10,v11,v12,v13,v14,.slice ka kds.length cap]]).run Tryz.prog (W.alloc (.cells #[v0,v1,v2,v3,v4,v5,v6,v7,v8,v9,v10,v11,v12,v13,v14,.slice ka kds.length cap] T))=.ok (.round l fy ty ay by_) (W.alloc (.cells #[v0,v1,v2,v3,v4,v5,v6,v7,v8,v9,v10,v11,v12,v13,v14,.slice ka kds.length cap] T)) /\
        RoundIn Fence.wide (n-1) Tryz.prog l fy ty ay by_ (W.alloc (.cells #[v0,v1,v2,v3,v4,v5,v6,v7,v8,v9,v10,v11,v12,v13,v14,.slice ka kds.length cap] T)) λe W2=>(e=.returned (.bool true)/\∃E2,J (k+1) E2 W2/\Oq E W E2 W2/\(W2.heap[W.heap.size]?=some (.cells #[v0,v1,v2,v3,v4,v5,v6,v7,v8,v9,v10,v11,v12,v13,v14,.slice ka kds.length cap] T (0,0))/\(∀o,E2.O W.heap.size o=.other))/\W2.cell? ⟨W.heap.size,15,none⟩=some (.slice ka kds.length cap))\/(e=.returned (.bool false)/\Jx W2):=by
        intro T;have hJ1:J k E (W.alloc (.cells #[v0,v1,v2,v3,v4,v5,v6,v7,v8,v9,v10,v11,v12,v13,v14,.slice ka kds.length cap] T)):=hI _ _ _ _ hJ (PX.alloc _);have K1:=Oq.alloc (E:=E) (W:=W) (.cells #[v0,v1,v2,v3,v4,v5,v6,v7,v8,v9,v10,v11,v12,v13,v14,.slice ka kds.length cap] T) (hf k E W hJ);obtain⟨fy,ty,ay,by_,hy,hR⟩:=hY k E _ (.agg cs) _ hJ1 (MZ 0 _ rfl) (RV.mono K1.sh _ hv);refine⟨fy,ty,ay,by_,hy,RoundIn.B5T rfl (RoundIn.mono hR ?_)⟩;rintro e W2 (⟨rfl,E2,hJ2,hP2⟩ | ⟨rfl,hx⟩)
        ·have K2:=Oq.B4m hP2 (hf _ _ _ hJ1);have hb:=K2.blk W.heap.size (by simp) ho;rw[World.alloc_heap_new]at hb;refine .inl ⟨rfl,E2,hJ2,K1.trans K2,hb,?_⟩;simp[World.cell?,hb.1]
        ·exact .inr ⟨rfl,hx⟩
       obtain⟨fy,ty,ay,by_,hy,hR⟩:=key 30;refine callsIn_of_wp Tryz.func129 rfl trivial ?_;simp only[Tryz.ntmps129,z4q,z6q,z8q,Nat.reduceAdd,Nat.reduceSub,z1q,z2q,z5q,z3q,z9q,z7q]
       gi_wp2_with ((try refine⟨RN _,?_⟩);refine hR.mono ?_;clear hR;rintro e W2 (⟨rfl,E2,hJ2,hK2,pV,hc2⟩ | ⟨rfl,hx2⟩))
       ·-- the D6, one by one
        refine wpIn_loop_rounds (kds.length+1) ?_;refine(?loop:∀(r i:Nat)(pre rs:List DV)(E3:Env)(w:World)(x6 x15 x16 x17 x18 x19 x20 x21 x22:Value),i+r=kds.length->NP (BL 16 15 m) (kds.drop i)=some rs->ks=pre++rs->J (k+1+pre.length) E3 w->Oq E W E3 w->
         Code.roundsIn Fence.wide n Tryz.prog _ _ (r+1) { tmps := #[.agg #[v0,v1,v2,v3,v4,v5,v6,v7,v8,v9,v10,v11,v12,v13,v14,.slice ka kds.length cap],.func (.yield l) #[] #[],.pointer (some { block:=W.heap.size,off:=0 }),undef,.bool false,undef,x6,.func (.yield l) #[] #[],.agg #[v0,v1,v2,v3,v4,v5,v6,v7,v8,v9,v10,v11,v12,v13,v14,.slice ka kds.length cap],.bool true,.bool false,.pointer (some { block:=W.heap.size,off:=15 }),.slice ka kds.length cap,.int .i64 (kds.length:Int),.int .i64 (i:Int),x15,x16,x17,x18,x19,x20,x21,x22],defers:=[] } w)
         kds.length 0 [] ks E2 W2 undef undef undef undef undef undef undef undef undef (by simp) h3 rfl hJ2 hK2
        clear hJ2 hK2 pV hc2 hy key hJ;intro r;induction r with
        |zero=>
          intro i pre rs E3 w x6 x15 x16 x17 x18 x19 x20 x21 x22 hi hrs Ll hJ3 jq;have hi':i=kds.length:=by omega
          have B26:(i:Int)=(kds.length:Int):=by omega
          rw[roundsIn_succ];rw[B26];have P6:¬((kds.length:Int)<(kds.length:Int)):=by omega
          gi_wp2
          go_ret
          rw[hi',zkq,NP]at hrs;simp only[D8]at hrs;subst hrs;refine .inl ⟨rfl,E3,?_,jq⟩;rw[show k+(pre.length+([]:List DV).length+1)=k+1+pre.length by simp;omega];exact hJ3
        |succ r ihr=>
          intro i pre rs E3 w x6 x15 x16 x17 x18 x19 x20 x21 x22 hi hrs Ll hJ3 jq;rw[roundsIn_succ];have P6:((i:Int)<(kds.length:Int)):=by omega
          have hil:i<kds.length:=by omega
          obtain⟨xa,rfl⟩:∃xa,ka=some xa:=by
           cases ka with
           |none=>have:=h7 rfl;omega
           |some xa=>exact⟨xa,rfl⟩
          obtain⟨Ym,h11⟩:=h9 xa rfl;obtain⟨xb,xo,xs⟩:=xa;have Ym:=Ym (by omega);simp only at Ym h11;subst Ym;obtain⟨us,hu1,hu2,hu3⟩:=EJ.1 h11 i _ (z0q hil);have hu4:=hu2.mono jq.sh
          match us,hu1 with
          |[u0,u1,u2,u3,u4,u5,u6,u7,u8,u9,u10,u11,u12,u13,u14,u15],_=>
          have cc:∀(j:Nat)(u:Value),[u0,u1,u2,u3,u4,u5,u6,u7,u8,u9,u10,u11,u12,u13,u14,u15][j]?=some u->w.cell? ⟨xb,xo+i * 16+j,none⟩=some u:=λj u hj=>by rw[MM];exact(hu4 j u hj).1
          have c0:w.cell? ⟨xb,xo+i * 16,none⟩=some u0:=cc 0 u0 rfl;have c1:=cc 1 u1 rfl;have c2:=cc 2 u2 rfl;have c3:=cc 3 u3 rfl;have c4:=cc 4 u4 rfl;have c5:=cc 5 u5 rfl;have c6:=cc 6 u6 rfl;have c7:=cc 7 u7 rfl;have c8:=cc 8 u8 rfl;have c9:=cc 9 u9 rfl;have c10:=cc 10 u10 rfl;have c11:=cc 11 u11 rfl;have c12:=cc 12 u12 rfl;have c13:=cc 13 u13 rfl;have c14:=cc 14 u14 rfl;have c15:=cc 15 u15 rfl;have ou:∀(j:Nat)(u:Value),[u0,u1,u2,u3,u4,u5,u6,u7,u8,u9,u10,u11,u12,u13,u14,u15][j]?=some u->u.oneCell'=true:=λj u hj=>(OH hu3 hj).elim λh1 h2=>Jc h1 h2;have e0:u0.oneCell'=true:=ou 0 u0 rfl;have e1:u1.oneCell'=true:=ou 1 u1 rfl;have e2:u2.oneCell'=true:=ou 2 u2 rfl;have e3:u3.oneCell'=true:=ou 3 u3 rfl;have e4:u4.oneCell'=true:=ou 4 u4 rfl;have e5:u5.oneCell'=true:=ou 5 u5 rfl;have e6:u6.oneCell'=true:=ou 6 u6 rfl;have e7:u7.oneCell'=true:=ou 7 u7 rfl;have e8:u8.oneCell'=true:=ou 8 u8 rfl;have e9:u9.oneCell'=true:=ou 9 u9 rfl;have e10:u10.oneCell'=true:=ou 10 u10 rfl;have e11:u11.oneCell'=true:=ou 11 u11 rfl;have e12:u12.oneCell'=true:=ou 12 u12 rfl;have e13:u13.oneCell'=true:=ou 13 u13 rfl;have e14:u14.oneCell'=true:=ou 14 u14 rfl;have e15:u15.oneCell'=true:=ou 15 u15 rfl;obtain⟨w1,s0,b0,r0,z0,o0⟩:=AX (P:=Tryz.prog) (j:=0) (World.alloc_heap_new w (.cells #[.int .i64 0,.int .i64 0,.int .i64 0,.string ⟨#[]⟩,.string ⟨#[]⟩,.int .i64 0,.string ⟨#[]⟩,.int .i64 0,.int .i64 0,.int .i64 0,.slice none 0 0,.int .i64 0,.int .i64 0,.slice none 0 0,.slice none 0 0,.slice none 0 0] 30)) (by simp) e0;obtain⟨w2,s1,b1,r1,z1,o1⟩:=AX (P:=Tryz.prog) (j:=1) b0 (by simp) e1;obtain⟨w3,s2,b2,r2,z2,o2⟩:=AX (P:=Tryz.prog) (j:=2) b1 (by simp) e2;obtain⟨w4,s3,b3,r3,z3,o3⟩:=AX (P:=Tryz.prog) (j:=3) b2 (by simp) e3;obtain⟨w5,s4,b4,r4,z4,o4⟩:=AX (P:=Tryz.prog) (j:=4) b3 (by simp) e4;obtain⟨w6,s5,b5,r5,z5,o5⟩:=AX (P:=Tryz.prog) (j:=5) b4 (by simp) e5;obtain⟨w7,s6,b6,r6,z6,o6⟩:=AX (P:=Tryz.prog) (j:=6) b5 (by simp) e6;obtain⟨w8,s7,b7,r7,z7,o7⟩:=AX (P:=Tryz.prog) (j:=7) b6 (by simp) e7;obtain⟨w9,s8,b8,r8,z8,o8⟩:=AX (P:=Tryz.prog) (j:=8) b7 (by simp) e8;obtain⟨w10,s9,b9,r9,z9,o9⟩:=AX (P:=Tryz.prog) (j:=9) b8 (by simp) e9;obtain⟨w11,s10,b10,r10,z10,o10⟩:=AX (P:=Tryz.prog) (j:=10) b9 (by simp) e10;obtain⟨w12,s11,b11,r11,z11,o11⟩:=AX (P:=Tryz.prog) (j:=11) b10 (by simp) e11;obtain⟨w13,s12,b12,r12,z12,o12⟩:=AX (P:=Tryz.prog) (j:=12) b11 (by simp) e12;obtain⟨w14,s13,b13,r13,z13,o13⟩:=AX (P:=Tryz.prog) (j:=13) b12 (by simp) e13;obtain⟨w15,s14,b14,r14,z14,o14⟩:=AX (P:=Tryz.prog) (j:=14) b13 (by simp) e14;obtain⟨w16,s15,b15,r15,z15,o15⟩:=AX (P:=Tryz.prog) (j:=15) b14 (by simp) e15;simp only[zdq,zfq,zgq]at b0 b1 b2 b3 b4 b5 b6 b7 b8 b9 b10 b11 b12 b13 b14 b15;have dd:∀(j:Nat)(u:Value),[u0,u1,u2,u3,u4,u5,u6,u7,u8,u9,u10,u11,u12,u13,u14,u15][j]?=some u->w16.cell? ⟨w.heap.size,j,none⟩=some u:=λj u hj=>by rw[MM];simp only[hc,b15];simpa using hj
          have d0:=dd 0 u0 rfl;have d1:=dd 1 u1 rfl;have d2:=dd 2 u2 rfl;have d3:=dd 3 u3 rfl;have d4:=dd 4 u4 rfl;have d5:=dd 5 u5 rfl;have d6:=dd 6 u6 rfl;have d7:=dd 7 u7 rfl;have d8:=dd 8 u8 rfl;have d9:=dd 9 u9 rfl;have d10:=dd 10 u10 rfl;have d11:=dd 11 u11 rfl;have d12:=dd 12 u12 rfl;have d13:=dd 13 u13 rfl;have d14:=dd 14 u14 rfl;have d15:=dd 15 u15 rfl;have low:∀b,b<w.heap.size->w16.heap[b]?=w.heap[b]?:=λb hb=>by rw[r15 b (by omega),r14 b (by omega),r13 b (by omega),r12 b (by omega),r11 b (by omega),r10 b (by omega),r9 b (by omega),r8 b (by omega),r7 b (by omega),r6 b (by omega),r5 b (by omega),r4 b (by omega),r3 b (by omega),r2 b (by omega),r1 b (by omega),r0 b (by omega)];exact Below.heap_alloc _ _ _ hb
          have hz:w.heap.size<=w16.heap.size:=by rw[z15,z14,z13,z12,z11,z10,z9,z8,z7,z6,z5,z4,z3,z2,z1,z0];simp
          have WV:Y9 w w16:=Y9.trans (b:=w1) (Y9.trans (b:=w.alloc (.cells #[.int .i64 0,.int .i64 0,.int .i64 0,.string ⟨#[]⟩,.string ⟨#[]⟩,.int .i64 0,.string ⟨#[]⟩,.int .i64 0,.int .i64 0,.int .i64 0,.slice none 0 0,.int .i64 0,.int .i64 0,.slice none 0 0,.slice none 0 0,.slice none 0 0] 30)) ⟨rfl,rfl,rfl⟩ o0) (((((((((((((((o1).trans o2).trans o3).trans o4).trans o5).trans o6).trans o7).trans o8).trans o9).trans o10).trans o11).trans o12).trans o13).trans o14).trans o15);have hfr:=hf _ _ _ hJ3;have K7:Oq E3 w E3 w16:=Oq.same hz low hfr;have hJ7:=hI _ _ _ _ hJ3 (PX.same hz low WV);rw[zeq hil,NP]at hrs;obtain⟨sa,hsa,hrs⟩:=D5 hrs;obtain⟨sb,hsb,hrs⟩:=D5 hrs;simp only[D8]at hrs;subst hrs;have B23:Fence.wide.fn 129:=trivial;have A0B:CallsIn Fence.wide (n-1) Tryz.prog 129 _ w16 _:=callsIn_wide.2 (callsIn_wide.1 (ih _ sa hsa (k+1+pre.length) E3 w16 (.agg #[u0,u1,u2,u3,u4,u5,u6,u7,u8,u9,u10,u11,u12,u13,u14,u15]) hJ7 (RV.mono (jq.trans K7).sh _ (flat_agg hsa hu3)) (A8l MZ Ll) (by have:=jq.size;omega)));clear ih
          gi_wp2_with ((try refine⟨RN _,?_⟩);gi_at_call 129;refine A0B.mono ?_;clear A0B;rintro e wz (⟨rfl,E4,hJ4,hK4⟩ | ⟨rfl,hx⟩))
          ·rw[show wrap64 ((i:Int)+1)=((i+1:Nat):Int)by unfold R9 at YN;rw[wrap64];omega];exact ihr (i+1) (pre++sa) sb E4 wz _ _ _ _ _ _ _ _ _ (by omega) hsb (by rw[Ll,ziq]) (by rw[zhq,<- Nat.add_assoc];exact hJ4) ((jq.trans K7).trans hK4)
          ·go_ret
           exact .inr ⟨rfl,hx⟩
       ·go_ret
        exact .inr ⟨rfl,hx2⟩
     |_=>rw[hk]at EF;simp at EF
   |_=>simp[BL]at EF
set_option maxHeartbeats 1000000 in
theorem B6F:zK Tryz.prog 128 (SY 16 15):=by
 intro cs ds Yn n l b c T0 J Jx E W hb ho hR hf hI hY h0;obtain⟨m,hm⟩:=A0w Yn;have GH:cs.length=16:=by
  cases m with
  |zero=>simp[BL]at hm
  |succ m=>rw[BL]at hm;obtain⟨h1,-⟩:=H6 hm;simpa using h1
 have hlc:=(CQ.1 hR).1;obtain⟨l',rfl⟩:∃l':List Value,c=l'.toArray:=⟨c.toList,by simp⟩;simp only at hR hlc
 match l',hlc.symm.trans GH with
 |[v0,v1,v2,v3,v4,v5,v6,v7,v8,v9,v10,v11,v12,v13,v14,v15],_=>
 have cc:∀(j:Nat)(u:Value),[v0,v1,v2,v3,v4,v5,v6,v7,v8,v9,v10,v11,v12,v13,v14,v15][j]?=some u->W.cell? ⟨b,j,none⟩=some u:=λj u hj=>by rw[MM];simp only[hc,hb];simpa using hj
 have c0:=cc 0 v0 rfl;have c1:=cc 1 v1 rfl;have c2:=cc 2 v2 rfl;have c3:=cc 3 v3 rfl;have c4:=cc 4 v4 rfl;have c5:=cc 5 v5 rfl;have c6:=cc 6 v6 rfl;have c7:=cc 7 v7 rfl;have c8:=cc 8 v8 rfl;have c9:=cc 9 v9 rfl;have c10:=cc 10 v10 rfl;have c11:=cc 11 v11 rfl;have c12:=cc 12 v12 rfl;have c13:=cc 13 v13 rfl;have c14:=cc 14 v14 rfl;have c15:=cc 15 v15 rfl;have hgo:CallsIn Fence.wide (n-1) Tryz.prog 129 _ W _:=callsIn_wide.2 (callsIn_wide.1 (B6l l W.heap.size ds J Jx n hf hI hY m (.agg cs) ds hm 0 E W (.agg #[v0,v1,v2,v3,v4,v5,v6,v7,v8,v9,v10,v11,v12,v13,v14,v15]) h0 (by simp only[RV];exact⟨_,rfl,hR⟩) (λj x h=>by rw[Nat.zero_add];exact h) (zbq _)));have B23:Fence.wide.fn 129:=trivial;have RN:∀k:Nat,(Fence.wide.depth.isSome=true->1<=k):=λk h=>by cases h
 refine callsIn_of_wp Tryz.func128 rfl trivial ?_;simp only[Tryz.ntmps128,z4q,z6q,z8q,Nat.reduceAdd,Nat.reduceSub,z1q,z2q,z5q,z3q,z9q,z7q]
 gi_wp2_with ((try refine⟨RN _,?_⟩);gi_at_call 129;refine hgo.mono ?_;clear hgo;rintro e w2 (⟨rfl,E4,hJ4,-⟩ | ⟨rfl,hx⟩))
 ·go_end0
  exact⟨⟨_,rfl⟩,.inl ⟨E4,by simpa using hJ4⟩⟩
 ·go_end0
  exact⟨⟨_,rfl⟩,.inr hx⟩
noncomputable def B54:ClP where
 i0:=0
 i1:=1
 i2:=2
 i3:=3
 r0:=(opR (Tryz.f176.body.getD .skip) [false] 0)
 r1:=(opR (Tryz.f176.body.getD .skip) [true,false,false] 0)
 r2:=(opR (Tryz.f176.body.getD .skip) [true,false,false] 1)
 r3:=(opR (Tryz.f176.body.getD .skip) [true,false,true,false,false] 0)
 r4:=(opR (Tryz.f176.body.getD .skip) [true,true,false] 0)
 r5:=(opR (Tryz.f176.body.getD .skip) [true,true,false] 1)
 r6:=(opR (Tryz.f176.body.getD .skip) [true,true,false] 2)
 r7:=(opR (Tryz.f176.body.getD .skip) [true,true,false] 3)
 ts:=33
 ty:=B81 (Tryz.f176.body.getD .skip) [true,false,false] 1
theorem B0R:ug Tryz.prog 176 1:=B2J (q:=B54) (by kernel_rfl) Tryz.func176 (by kernel_rfl) (by kernel_rfl) (by kernel_rfl)
end Go.Su

/-
 The settings are right.
-/
namespace Go.Su
open Go.Proofs
theorem B3n:Tryz.prog.funcs.toList.all (λfn=>fn.name != "runtime.NumGoroutine")=true:=by kernel_rfl
theorem A9U{β : Type}{l:List (FuncId×β)}{f:FuncId}{g : β}(h:l.lookup f=some g):(f,g)∈l:=by
 induction l with
 |nil=>cases h
 |cons x l ih=>
   obtain⟨a,b⟩:=x;simp only[List.lookup_cons]at h;by_cases e:f==a
   ·rw[e]at h;simp only[D8]at h;rw[h];rw[eq_of_beq e];exact List.mem_cons_self ..
   ·simp only[e]at h;exact List.mem_cons_of_mem _ (ih h)
theorem B53:zJ cfg where
 mixed:=by kernel_rfl
 go f fn h:=by
  have h1:fn∈Tryz.prog.funcs.toList:=by have:Tryz.prog.funcs[f]?=some fn:=h;rw[<- Array.getElem?_toList]at this;exact List.mem_of_getElem? this
  have:=List.all_eq_true.1 B3n fn h1;simpa using this
 uG f g h:=by cases h
 clone f h:=by
  have h0:clL.contains f=true:=h;have h1:f∈clL:=by simpa using h0
  simp only[clL,zmq,zlq,or_false]at h1;rcases h1 with rfl
  ·exact⟨by kernel_rfl,B0R⟩
 eQ f g h:=by
  have h1:(f,g)∈mkL:=A9U h;simp only[mkL,zmq,zlq,or_false,Prod.mk.injEq]at h1;rcases h1 with⟨rfl,rfl⟩ | ⟨rfl,rfl⟩
  ·exact⟨by kernel_rfl,B6O⟩
  ·exact⟨by kernel_rfl,B41⟩
 iter g it h:=by
  have h1:itF g=some it:=h;unfold itF at h1;split at h1
  ·rename_i e;subst e;cases h1;exact⟨by kernel_rfl,B6F⟩
  split at h1
  ·rename_i e;subst e;cases h1;exact⟨by kernel_rfl,B4W⟩
  ·cases h1
end Go.Su

/-
 Equations of the program's functions: by program.
-/
namespace Go.Su
set_option linter.defProp false
set_option maxRecDepth 100000
noncomputable section
open Go.Proofs
open Tryz
variable (R: O7)(i j k l m n: Nat)(a b c d e f g h o p q r t u v w x y z I P a5: DV)(s: List E5)
def YX:=eP f4 Kw R [] (I4 f4 [(a,.val),(b,.val),(c,.val)] [])
def Vb:=eP f4 Kw R (pb 255) (ms 131 [(1,a),(9,b),(12,c)] [] [(3,bx d 16),(7,bx e 7),(8,bx f 6),(10,bx g 7),(11,bx h 6)] [])
def UD:=eP f4 Kw R (pb 1023) (ms 131 [(1,a)] [] [(3,bx b 16),(7,bx c 7)] [])
def rq:YX R a b c =
 (og (I7 16 a)<|ob (R.p fP [(.list 16 [(X4 a)])]) λq=>M7 q sT (ob (R.p Wv [(X4 a)]) λo=>ob (j5 .not o) λn=>G9 n sT (ob (R.p QT [b,(iI 2000)]) λx=>ob (R.p QT [c,(iI 2000)]) λm=>ob (R.p Cc [(X4 a),x]) λy=>ob (Q3 0 y) λu=>ob (Q3 1 y) λv=>ob (Q3 2 y) λt=>og (I7 7 u)<|og (I7 6 v)<|ob (D7 .add x m) λl=>ob (R.p Cc [(X4 a),l]) λz=>ob (Q3 0 z) λw=>ob (Q3 1 z) λs=>ob (Q3 2 z) λr=>og (I7 7 w)<|og (I7 6 s)<|ob (D7 .eql t (iI 7)) λk=>G9 k (ob (D7 .neq r (iI 0)) λj=>M7 j (ob (R.p LQ []) λi=>some i) (ob (D7 .gtr (A9 6 w) x) λh=>M7 h (ob (R.p LQ []) λg=>some g) sF none) none) (Vb R x t r a u v w s))) none):=H7 [9,13]
def lZ:Vb R a b c d e f g h =
 (ob (D7 .neq b c) λx=>M7 x sF (ob (xy [.int,.int,.int,.int,.int,.str] (.agg [(A9 0 f),(A9 1 f),(A9 2 f),(A9 3 f),(A9 4 f),(A9 5 f)]) (.agg [(A9 0 h),(A9 1 h),(A9 2 h),(A9 3 h),(A9 4 h),(A9 5 h)])) λb2=>M7 (.bool !b2) sF (ob (R.p OE [(Cv e),(Cv g)]) λy=>ob (j5 .not y) λz=>M7 z sF (ob (R.p SB [(.agg [(A9 3 e),(A9 4 e),(A9 5 e)]),(.agg [(A9 3 g),(A9 4 g),(A9 5 g)])]) λw=>ob (j5 .not w) λu=>M7 u sF (ob (D7 .neq (A9 6 e) (A9 6 g)) λv=>G9 v sF (ob (D7 .neq b (iI 0)) λt=>G9 t (ob (R.p LQ []) λs=>some s) (UD R a d e))) none) none) none) none):=H7 [9,13]
def jK:UD R a b c =
 (ob (R.p Cc [(X4 b),(A9 6 c)]) λx=>ob (Q3 0 x) λz=>ob (Q3 1 x) λw=>ob (Q3 2 x) λu=>og (I7 7 z)<|og (I7 6 w)<|ob (D7 .sub (A9 6 c) (iI 1)) λv=>ob (R.p Cc [(X4 b),v]) λy=>ob (Q3 0 y) λt=>ob (Q3 1 y) λs=>ob (Q3 2 y) λr=>og (I7 7 t)<|og (I7 6 s)<|ob (D7 .leq (A9 6 c) a) λq=>M7 q (ob (D7 .eql u (iI 0)) λo=>M7 o (ob (D7 .eql r (iI 7)) λn=>M7 n (ob (R.p LQ []) λm=>some m) (ob (D7 .eql (A9 6 c) (iI 0)) λl=>M7 l (ob (R.p LQ []) λk=>some k) sF none) none) sF none) sF none):=H7 [9,13]
def qZ:C9.p YU [a,b,c]=YX C9 a b c:=CG func4
def wB:=eP f9 aV R [] (I4 f9 [(a,.val)] [])
def V_:=hP f9 aV R (pb 122) (ms 22 [(0,a),(3,b),(4,c)] [] [] [])
def rZ:wB R a =
 (ob (R.p fO [a]) λx=>G9 x sT (V_ R a (iI 0) (iI 0))):=H7 []
def dQ:V_ R a b c =
 (ob (O3 a) λx=>ob (D7 .lss c x) λy=>G9 y (ob (M9 16 a c) λz=>ob (R.p Yx [(X4 z)]) λw=>ob (D7 .add b w) λu=>ob (D7 .add c (iI 1)) λv=>V_ R a u v) (ob (D7 .gtr b (iI 90)) λt=>some t)):=L8 []
def pK:C9.p fP [a]=wB C9 a:=CG func9
def ve:=eP f11 aR R [] (I4 f11 [(a,.val),(b,.val)] [])
def Ez:=hP f11 aR R (pb 4090) (ms 76 [(50,a),(51,b),(52,c)] [(7,(.ptr i 0)),(12,(F4.map j))] [(4,bv (KG [(.list 3 []),(.list 1 []),(.list 3 []),(iI 0)])),(5,some zb0),(10,bx d 3),(11,bx e 3)] s)
def A4P:ve R a b =
 (og (I7 16 a)<|ob (R.p Tn [(X4 a)]) λz=>ob (D7 .neq z (iI 0)) λw=>G9 w (some (.J9 [(.agg (KG [(.list 3 []),(.list 1 []),(.list 3 []),(iI 0)])),(.agg (uf (LP []))),(iI 1)])) (oc (R.r fZ [(b,.val)] []) λq3 s3=>ob (A4I q3) λi4=>ob (R.r Bu [(.undef,(.ptr s3.length 0)),((X4 a),.val),((iI 1),.val),((.list 3 []),.val)] (s3++[E5.box ((pt i4)::(zz4 [((iI 0),.val)]))])) λq5=>ob (Q3 0 (.J9 q5.1)) λs=>ob (Q3 1 (.J9 q5.1)) λx=>og (I7 4 x)<|oc (R.r Ew [(.undef,(.ptr s3.length 0)),((.agg [(A9 0 x),(A9 1 x),(A9 2 x),(A9 3 x)]),.val)] q5.2) λq8 s8=>og (I7 3 q8)<|oc (R.r Fu [(.undef,(.ptr s3.length 0)),((.agg [(A9 0 x),(A9 1 x),(A9 2 x),(A9 3 x)]),.val)] s8) λq9 s9=>
 og (I7 3 q9)<|oc (R.r U3 [(.undef,(.ptr s3.length 0))] s9) λq10 s10=>ob (j5 .not q10) λu=>G9 u (ob (H5 s10 s3.length) λc12=>ob (VO 1 6 c12) λe13=>ob (H5 s10 s3.length) λc14=>ob (U7 c14 7) λv=>og (I7 6 (.agg e13))<|some (.J9 [(.agg (KG [(.list 3 []),(.list 1 []),(.list 3 []),(iI 0)])),(.agg [(A9 0 (.agg e13)),(A9 1 (.agg e13)),(A9 2 (.agg e13)),(A9 3 (.agg e13)),(A9 4 (.agg e13)),(A9 5 (.agg e13))]),v])) (ob (R.p Yz [(.agg [(A9 0 q8),(A9 1 q8),(A9 2 q8)])]) λy=>ob (O3 y) λt=>Ez R (s3.length) (s10.length) y t (iI 0) q8 q9 (s10++[E5.map false []])))):=H7 []
def aI:Ez R i j a b c d e s =
 (ob (D7 .lss c b) λy=>G9 y (ob (M9 1 a c) λx=>og (M8 x)<|oc (R.r DN [(.undef,(F4.map j)),(x,.val)] s) λq3 s3=>ob (D7 .add c (iI 1)) λz=>Ez R i j a b z d e s3) (oc (R.r Ht [(.undef,(F4.map j)),((Cv e),.val)] s) λq5 s5=>oc (R.r Fs [(.undef,(F4.map j)),((Cv d),.val)] s5) λq6 s6=>oc (R.r Jp [(.undef,(F4.map j)),((Cv e),.val)] s6) λq7 s7=>ob (H5 s7 i) λc8=>ob (X7 c8 0) λi9=>Mf (s7[i]?=s6[i]?)<|Mf (s6[i]?=s5[i]?)<|oc (R.r OX [(pt i9)] s7) λq10 s10=>og (I7 3 q6)<|og (I7 3 q7)<|og (J3 q10)<|some (.J9 [(.agg [(A9 0 q6),(A9 1 q6),(A9 2 q6),(A9 0 q7),(A9 1 q7),(A9 2 q7),q10]),(.agg (uf (LP []))),(iI 0)]))):=L8 []
def A3L:C9.p Cc [a,b]=ve C9 a b:=CG func11
def vo:=eP f13 aT R [] (I4 f13 [(a,.val),(b,.val)] [])
def QY:=hP f13 aT R (pb 58) (ms 46 [(5,a)] [] [(2,bx b 3),(3,bx c 3)] [])
def A4R:vo R a b =
 (og (I7 3 a)<|og (I7 3 b)<|ob (D7 .neq (A9 0 a) (A9 0 b)) λx=>M7 x sF (ob (D7 .neq (A9 1 a) (A9 1 b)) λy=>M7 y sF (ob (O3 (A9 2 a)) λz=>ob (O3 (A9 2 b)) λw=>ob (D7 .neq z w) λu=>G9 u sF (QY R (iI 0) a b)) none) none):=H7 []
def dO:QY R a b c =
 (ob (O3 (A9 2 b)) λx=>ob (D7 .lss a x) λy=>G9 y (ob (M9 3 (A9 2 b) a) λz=>ob (M9 3 (A9 2 c) a) λw=>ob (R.p OE [(Cv z),(Cv w)]) λu=>ob (j5 .not u) λv=>G9 v sF (ob (D7 .add a (iI 1)) λt=>QY R t b c)) sT):=L8 []
def A3N:C9.p OE [a,b]=vo C9 a b:=CG func13
def oP:=eP f14 WO R [] (I4 f14 [(a,.val),(b,.val)] [])
def NF:=hP f14 WO R (pb 58) (ms 48 [(5,a)] [] [(2,bx b 3),(3,bx c 3)] [])
def A1l:oP R a b =
 (og (I7 3 a)<|og (I7 3 b)<|ob (R.p Vw [(A9 0 a),(A9 0 b)]) λx=>ob (j5 .not x) λy=>M7 y sF (ob (R.p fM [(A9 1 a),(A9 1 b)]) λz=>ob (j5 .not z) λw=>M7 w sF (ob (O3 (A9 2 a)) λu=>ob (O3 (A9 2 b)) λv=>ob (D7 .neq u v) λt=>G9 t sF (NF R (iI 0) a b)) none) none):=H7 []
def Yf:NF R a b c =
 (ob (O3 (A9 2 b)) λx=>ob (D7 .lss a x) λy=>G9 y (ob (M9 3 (A9 2 b) a) λz=>ob (M9 3 (A9 2 c) a) λw=>ob (R.p SB [(Cv z),(Cv w)]) λu=>ob (j5 .not u) λv=>G9 v sF (ob (D7 .add a (iI 1)) λt=>NF R t b c)) sT):=L8 []
def A0p:C9.p SB [a,b]=oP C9 a b:=CG func14
def wC:=eP f16 aW R [] (I4 f16 [] [])
def oQ:=eP f16 aW R (pb 63) (ms 70 [(3,a),(7,b),(10,c)] [] [(1,bx d 7),(4,bv [(iI 6),(iI 0),(.list 3 [])]),(6,bx e 6)] [])
def A4T:wC R =
 (ob (R.p ko []) λv=>ob (R.p Cc [v,(iI 100)]) λx=>ob (Q3 0 x) λw=>ob (Q3 1 x) λt=>ob (Q3 2 x) λs=>og (I7 7 w)<|og (I7 6 t)<|ob (R.p Cc [(.agg ((iI 16)::(LP (zz5 ((iI 1)::(KG (KG [(.list 7 []),(.list 16 [(.agg ((iI 2)::(LP (bz [])))),(.agg ((iI 5)::(iI 4)::(iI 6)::(.str ⟨#[]⟩)::(bz [])))])]))))))),(iI 100)]) λy=>ob (Q3 0 y) λr=>ob (Q3 1 y) λu=>ob (Q3 2 y) λq=>og (I7 7 r)<|og (I7 6 u)<|ob (R.p ko []) λo=>ob (R.p Cc [o,(iI 1)]) λz=>ob (Q3 0 z) λn=>
 ob (Q3 1 z) λm=>ob (Q3 2 z) λl=>og (I7 7 n)<|og (I7 6 m)<|oQ R s q l w u):=H7 [5]
def A1n:oQ R a b c d e =
 (ob (D7 .eql a (iI 0)) λx=>M7 x (ob (R.p cu [(iI 9),(.agg [(iI 6),(iI 0),(.list 3 [])]),(.agg [(iI 6),(iI 0),(.list 3 [])])]) λy=>ob (R.p OE [(Cv d),y]) λz=>M7 z (ob (O3 (A9 3 d)) λw=>ob (D7 .eql w (iI 1)) λu=>M7 u (ob (D7 .eql (A9 6 d) (iI 7)) λv=>M7 v (ob (D7 .eql b (iI 4)) λt=>M7 t (ob (xy [.int,.int,.int,.int,.int,.str] (.agg [(A9 0 e),(A9 1 e),(A9 2 e),(A9 3 e),(A9 4 e),(A9 5 e)]) (.agg [(iI 4),(iI 6),(iI 4),(iI 4),(iI 1),(.str ⟨#[]⟩)])) λb8=>M7 (.bool b8) (ob (D7 .eql c (iI 7)) λs=>some s) sF none) sF none) sF none) sF none) sF none) sF none):=H7 [5]
def A1h{d:DV}(h:wC C9=some d):C9.p LQ []=some d:=A9a func16 (by kernel_rfl) (by kernel_rfl) (by kernel_rfl) h
def wJ:=eP f17 Uh R [] (I4 f17 [(a,.val)] [])
def MB:=hP f17 Uh R (pb 58) (ms 36 [(3,a)] [] [(1,bx b 16)] [])
def Qc:=hP f17 Uh R (pb 122) (ms 36 [(4,a)] [] [(1,bx b 16)] [])
def A41:wJ R a =
 (og (I7 16 a)<|ob (R.p qp [(X4 a)]) λx=>ob (j5 .not x) λy=>G9 y sF (MB R (iI 0) a)):=H7 []
def dU:MB R a b =
 (ob (O3 (A9 14 b)) λx=>ob (D7 .lss a x) λy=>G9 y (ob (M9 7 (A9 14 b) a) λz=>ob (R.p Vx [(TD z)]) λw=>ob (j5 .not w) λu=>G9 u sF (ob (D7 .add a (iI 1)) λv=>MB R v b)) (Qc R (iI 0) b)):=L8 []
def dV:Qc R a b =
 (ob (O3 (A9 15 b)) λx=>ob (D7 .lss a x) λy=>G9 y (ob (M9 16 (A9 15 b) a) λz=>ob (R.p Wv [(X4 z)]) λw=>ob (j5 .not w) λu=>G9 u sF (ob (D7 .add a (iI 1)) λv=>Qc R v b)) sT):=L8 []
def A3V:C9.p Wv [a]=wJ C9 a:=CG func17
def zM:=eP f18 wh R [] (I4 f18 [(a,.val),(b,.val)] [])
def A7o:zM R a b =
 (ob (D7 .lss b (iI 1)) λx=>G9 x (some (iI 0)) (ob (dL .u64 a) λy=>ob (dL .u64 b) λz=>ob (D7 .rem y z) λw=>ob (dL .i64 w) λu=>some u)):=H7 []
def A5d:C9.p QT [a,b]=zM C9 a b:=CG func18
def wH:=eP f20 aY R [] (I4 f20 [(a,.val)] [])
def JP:=hP f20 aY R (pb 58) (ms 45 [(3,a)] [] [(1,bx b 3)] [])
def A4Z:wH R a =
 (og (I7 3 a)<|ob (R.p ky [(A9 0 a)]) λx=>ob (O3 (A9 2 a)) λy=>ob (D7 .neq x y) λz=>M7 z sF (ob (D7 .lss (A9 1 a) (iI 0)) λw=>M7 w sF (ob (D7 .gtr (A9 1 a) (iI 1048576)) λu=>M7 u sF (ob (D7 .neq (A9 0 a) (iI 6)) λv=>M7 v (ob (D7 .neq (A9 1 a) (iI 0)) λt=>G9 t sF (JP R (iI 0) a)) (JP R (iI 0) a) none) none) none) none):=H7 []
def dR:JP R a b =
 (ob (O3 (A9 2 b)) λx=>ob (D7 .lss a x) λy=>G9 y (ob (M9 3 (A9 2 b) a) λz=>ob (R.p Wu [(Cv z)]) λw=>ob (j5 .not w) λu=>G9 u sF (ob (D7 .add a (iI 1)) λv=>JP R v b)) sT):=L8 []
def A3T:C9.p Wu [a]=wH C9 a:=CG func20
def A2l:=eP f25 mf R [] (I4 f25 [(a,.val),(b,.val)] [])
def UF:=hP f25 mf R (pb 26) (ms 18 [(0,a),(1,b),(5,c)] [] [] [])
def A9s:A2l R a b =
 (UF R a b (iI 0)):=H7 []
def pI:UF R a b c =
 (ob (O3 a) λy=>ob (D7 .lss c y) λz=>G9 z (ob (M9 1 a c) λx=>og (M8 x)<|ob (D7 .eql x b) λw=>G9 w sT (ob (D7 .add c (iI 1)) λu=>UF R a b u)) sF):=L8 []
def A7C:C9.p qo [a,b]=A2l C9 a b:=CG func25
def zN:=eP f27 wm R [] (I4 f27 [(a,.val)] [])
def A7p:zN R a =
 (og (J3 a)<|some (.agg ((iI 1)::(iI 0)::(iI 0)::a::(bz [])))):=H7 []
def A5e:C9.p Yw [a]=zN C9 a:=CG func27
def A2k:=eP f31 A0v R [] (I4 f31 [(a,.val),(b,.val),(c,.val)] [])
def A9r:A2k R a b c =
 (og (I7 3 b)<|og (I7 3 c)<|og (J3 a)<|some (.agg [a,(iI 0),(.list 3 [(Cv b),(Cv c)])])):=H7 []
def A7B:C9.p cu [a,b,c]=A2k C9 a b c:=CG func31
def oU:=eP f32 WP R [] (I4 f32 [(a,.val),(b,.val)] [])
def Ja:=hP f32 WP R (pb 58) (ms 25 [(1,a),(5,b)] [] [(2,bx c 3)] [])
def A1o:oU R a b =
 (og (I7 3 a)<|ob (D7 .eql (A9 0 a) b) λx=>G9 x sF (Ja R b (iI 0) a)):=H7 []
def Yg:Ja R a b c =
 (ob (O3 (A9 2 c)) λx=>ob (D7 .lss b x) λy=>G9 y (ob (M9 3 (A9 2 c) b) λz=>ob (R.p SC [(Cv z),a]) λw=>ob (j5 .not w) λu=>G9 u sF (ob (D7 .add b (iI 1)) λv=>Ja R a v c)) sT):=L8 []
def A0q:C9.p SC [a,b]=oU C9 a b:=CG func32
def vw:=eP f35 aU R [] (I4 f35 [(a,.val)] [])
def Vz:=hP f35 aU R (pb 58) (ms 19 [(0,a),(3,b),(4,c)] [] [] [])
def A4S:vw R a =
 (Vz R a (iI 0) (iI 0)):=H7 []
def dP:Vz R a b c =
 (ob (O3 a) λx=>ob (D7 .lss c x) λy=>G9 y (ob (M9 16 a c) λz=>ob (R.p Wt [(X4 z),b]) λw=>ob (D7 .add c (iI 1)) λu=>Vz R a w u) (ob (D7 .gtr b (iI 400)) λv=>some v)):=L8 []
def A3O:C9.p fO [a]=vw C9 a:=CG func35
def zT:=eP f36 gy R [] (I4 f36 [(a,.val)] [])
def SL:=hP f36 gy R (pb 58) (ms 21 [(3,a),(4,b)] [] [(1,bx c 16)] [])
def A7v:zT R a =
 (og (I7 16 a)<|SL R (iI 1) (iI 0) a):=H7 []
def jN:SL R a b c =
 (ob (O3 (A9 15 c)) λx=>ob (D7 .lss b x) λy=>G9 y (ob (M9 16 (A9 15 c) b) λz=>ob (R.p Yx [(X4 z)]) λw=>ob (D7 .add a w) λu=>ob (D7 .add b (iI 1)) λv=>SL R u v c) (some a)):=L8 []
def A5l:C9.p Yx [a]=zT C9 a:=CG func36
def dJ:Code:=f39.body.getD .skip
def qz:=eP f39 OA R [] (I4 f39 [(a,.val)] [])
def dE:=eP f39 OA R (pb 26) (ms 10 [(0,a),(3,(.J9 [])),(4,b),(6,(.J9 [])),(7,(.J9 [])),(8,(.J9 [])),(9,(.J9 []))] [(1,(.ptr 0 0)),(2,(.ptr 1 0)),(5,(.fn 128 [(2,0)]))] [] s)
def qg:Code:=match (sub [true,false,true,false] dJ []).1 with
 |.rangeFunc _ _ a b=>.seq a b
 |c=>c
def H_(R:O7)(t0 t4:DV)(o:Out)(sg:List E5):Option DV:=nD cfg R OA (Wj cfg.P f39) [true,false,true,false] dJ o (Ac ⟨spread .undef 10 0 [(0,t0),(3,(.J9 [])),(4,t4),(6,(.J9 [])),(7,(.J9 [])),(8,(.J9 [])),(9,(.J9 []))],spread .val 10 0 [(1,(.ptr 0 0)),(2,(.ptr 1 0)),(5,(.fn 128 [(2,0)]))],spread none 10 0 [],[]⟩ sg)
def Tf(R:O7)(t0 t4:DV)(I:List E5->Option DV)(x:DV)(sg:List E5):Option DV:=Ua cfg R OA (kr I (H_ R t0 t4)) [] qg (mst 10 [(6,x)] [(2,(.ptr 1 0))] [] sg)
def Ke(R:O7)(t0 t4:DV):List DV->List E5->Option DV:=MV (λx I sg=>Tf R t0 t4 I x sg) (H_ R t0 t4 .normal)
def A3C:qz R a =
 (og (I7 16 a)<|dE R a (X4 a) [E5.box [((A9 0 a),.val),((A9 1 a),.val),((A9 2 a),.val),((A9 3 a),.val),((A9 4 a),.val),((A9 5 a),.val),((A9 6 a),.val),((A9 7 a),.val),((A9 8 a),.val),((A9 9 a),.val),((A9 10 a),.val),((A9 11 a),.val),((A9 12 a),.val),((A9 13 a),.val),((A9 14 a),.val),((A9 15 a),.val)],E5.box [((iI 0),.val)],E5.box [((A9 0 a),.val),((A9 1 a),.val),((A9 2 a),.val),((A9 3 a),.val),((A9 4 a),.val),((A9 5 a),.val),((A9 6 a),.val),((A9 7 a),.val),((A9 8 a),.val),((A9 9 a),.val),((A9 10 a),.val),((A9 11 a),.val),((A9 12 a),.val),((A9 13 a),.val),((A9 14 a),.val),((A9 15 a),.val)]]):=H7 []
def yC:dE R a b s =
 ob (H5 s 2) λcs=>ob (MJ cs) λcd=>ob (SY 16 15 cd) λds=>Ke R a b ds (s.set 2 (.arr 1 [])):=(A8D (t:=5) (f:=128) (i:=2) (q:=6) (it:=SY 16 15) (by kernel_rfl) (by kernel_rfl) (by kernel_rfl) (by kernel_rfl)).trans (by kernel_rfl)
theorem qD(R:O7)(t0 t4:DV)(sg:List E5):Ke R t0 t4 [] sg=H_ R t0 t4 .normal sg:=rfl
theorem lF(R:O7)(t0 t4 x:DV)(ds:List DV)(sg:List E5):Ke R t0 t4 (x::ds) sg=Tf R t0 t4 (Ke R t0 t4 ds) x sg:=rfl
def rV(R:O7)(t0 t4:DV)(I:List E5->Option DV)(x:DV)(sg:List E5):Tf R t0 t4 I x sg=(og (I7 16 x)<|ob (R.p lC [(X4 x)]) λy=>ob (j5 .not y) λz=>G9 z (ob (H5 sg 1) λc3=>ob (c3[0]?) λu4=>H_ R t0 t4 .ret (sg.set 1 (E5.box (c3.set 0 ((iI 1),.val))))) (I sg)):=H7 []
def ZB:H_ R a b .normal s =
 (ob (H5 s 1) λc1=>ob (c1[0]?) λu2=>B0d (ob (H5 (s.set 1 (E5.box (c1.set 0 ((iI 0),.val)))) 1) λc=>oneCell (s.set 1 (E5.box (c1.set 0 ((iI 0),.val)))) c)):=vD [] (by kernel_rfl)
def gG:H_ R a b .ret s=(B0d (ob (H5 s 1) λc=>oneCell s c)):=vD [] (by kernel_rfl)
def A1C:C9.p Tn [a]=qz C9 a:=CG func39
def wL:=eR f40 Sd aa R [] (I4 f40 [(a,.val)] s)
def GA:=hR f40 Sd aa R (pb 58) (ms 30 [(11,a),(12,b),(13,c)] [(3,(.ptr i 0))] [] s)
def A45:wL R a s=(ob (xz a (iI 0)) λy=>ob (aF y (iI 65536)) λx=>og (J3 x)<|GA R (s.length) (.list 1 [(iI 1),(iI 2),(iI 3),(iI 4),(iI 5)]) (iI 5) (iI 0) (s++[E5.box [((.list 5 []),.full),(x,.val),((iI 0),.val),((iI 0),.val)]])):=H7 []
def UX:GA R i a b c s =
 (ob (D7 .lss c b) λy=>G9 y (ob (M9 1 a c) λx=>og (M8 x)<|ob (H5 s i) λc3=>ob (B0B s i 0 c3 5) λv4=>og (J3 x)<|ob (V3 v4.1 v4.2.1 v4.2.2.1) λa5=>og (a5.1==5&&true&&decide (v4.2.2.2<=a5.2.length))<|ob (Jy 5 (.list 5 (a5.2.take v4.2.2.2)) (.list 5 [(.agg [x,(iI 0),(.int .i64 (-1)),(.list 1 []),(iI 0)])])) λp6=>ob (H5 (v4.1.set v4.2.1 (E5.P7 (v4.2.2.1+1) 5 (p6.1++p6.2))) i) λc7=>ob (c7[0]?) λu8=>ob (D7 .add c (iI 1)) λz=>GA R i a b z ((v4.1.set v4.2.1 (E5.P7 (v4.2.2.1+1) 5 (p6.1++p6.2))).set i (E5.box (c7.set 0 (.undef,(.P7 v4.2.1 (v4.2.2.1+1) 5 (p6.1.length+p6.2.length))))))) (some ([(.int .u64 (i:Nat))],s))):=L8 []
def A3X:C9.r fZ [(a,.val)] s=wL C9 a s:=Bb (s:=Sd) func40
end
end Go.Su

/-
 Equations of the program's functions: by program.
-/
namespace Go.Su
set_option linter.defProp false
set_option maxRecDepth 100000
noncomputable section
open Go.Proofs
open Tryz
variable (R: O7)(i j k l m n: Nat)(a b c d e f g h o p q r t u v w x y z X Y: DV)(s: List E5)
def VX:=eR f41 El Iu R [] (I4 f41 [(pt i),(a,.val),(b,.val),(c,.val)] s)
def N8:=eR f41 El Iu R (pb 31) (ms 152 [(11,a)] [(10,(.ptr i 0))] [(9,bv [b,c,d,e])] s)
def LU(R:O7)(t0i:Nat)(t2 t3:DV)(t10i:Nat)(t17 b5:DV)(sg:List E5):Option (List DV×List E5):=eR f41 El Iu R (pb 125951) (ms 152 [(2,t2),(3,t3),(11,(iI 0)),(17,t17)] [(0,(.ptr t0i 0)),(10,(.ptr t10i 0))] [(5,bx b5 16),(9,bv (zz7 []))] sg)
def lU:VX R i a b c s =
 (og (I7 16 a)<|ob (Pz (s++[E5.box [((iI 0),.val),((.list 1 []),.full),((.list 1 []),.full),((.list 4 []),.full)]]) s.length [1]) λg1=>ob (D7 .eql (A9 0 a) (iI 1)) λx=>G9 x (oc (R.r Jt [(pt i),((X4 a),.val),(b,.val),(c,.val),(.undef,(.ptr s.length 0))] g1) λq3 s3=>N8 R (s.length) q3 (iI 0) (.list 1 []) (.list 1 []) (.list 4 []) s3) (ob (D7 .eql (A9 0 a) (iI 2)) λy=>G9 y (ob (D7 .sub (A9 0 a) (iI 2)) λz=>N8 R (s.length) z (iI 0) (.list 1 []) (.list 1 []) (.list 4 []) g1) (ob (D7 .eql (A9 0 a) (iI 3)) λw=>G9 w (ob (D7 .sub (A9 0 a) (iI 2)) λu=>N8 R (s.length) u (iI 0) (.list 1 []) (.list 1 []) (.list 4 []) g1) (ob (D7 .eql (A9 0 a) (iI 4)) λv=>G9 v (ob (D7 .sub (A9 0 a) (iI 2)) λt=>N8 R (s.length) t (iI 0) (.list 1 []) (.list 1 []) (.list 4 []) g1) (ob (D7 .eql (A9 0 a) (iI 5)) λq=>G9 q (ob (D7 .sub (A9 0 a) (iI 2)) λp=>
 N8 R (s.length) p (iI 0) (.list 1 []) (.list 1 []) (.list 4 []) g1) (ob (D7 .eql (A9 0 a) (iI 6)) λo=>G9 o (oc (R.r O6 [(pt i),((X4 a),.val),((iI 0),.val),(b,.val),(c,.val),(.undef,(.ptr s.length 0))] g1) λq13 s13=>oc (R.r O6 [(pt i),((X4 a),.val),((iI 1),.val),(b,.val),(c,.val),(.undef,(.ptr s.length 0))] s13) λq14 s14=>oc (R.r BK [(pt i),((iI 7),.val),(q13,.val),(q14,.val)] s14) λq15 s15=>N8 R (s.length) q15 (iI 0) (.list 1 []) (.list 1 []) (.list 4 []) s15) (ob (D7 .eql (A9 0 a) (iI 7)) λn=>G9 n (oc (R.r Z7 [(pt i),(b,.val)] g1) λq17 s17=>og (J3 q17)<|ob (H5 s17 s.length) λc18=>ob (c18[1]?) λu19=>oc (R.r BK [(pt i),((iI 8),.val),(q17,.val),((iI 0),.val)] (s17.set s.length (E5.box (c18.set 1 ((.list 1 [q17]),.full))))) λq20 s20=>
 N8 R (s.length) q20 (iI 0) (.list 1 []) (.list 1 []) (.list 4 []) s20) (ob (D7 .eql (A9 0 a) (iI 8)) λm=>G9 m (oc (R.r Jr [(pt i),((X4 a),.val),(b,.val),(c,.val),(.undef,(.ptr s.length 0))] g1) λq22 s22=>N8 R (s.length) q22 (iI 0) (.list 1 []) (.list 1 []) (.list 4 []) s22) (LU R i b c (s.length) (A9 0 a) a g1))))))))):=H7 [20,39]
def cK:N8 R i a b c d e s =
 (ob (H5 s i) λc1=>og (J3 a)<|ob (c1[0]?) λu2=>ob (H5 (s.set i (E5.box (c1.set 0 (a,.val)))) i) λc3=>ob (VO 0 4 c3) λe4=>og (I7 4 (.agg e4))<|some ([a,(.agg [(A9 0 (.agg e4)),(A9 1 (.agg e4)),(A9 2 (.agg e4)),(A9 3 (.agg e4))])],(s.set i (E5.box (c1.set 0 (a,.val)))))):=H7 [20,39]
def cB(R:O7)(t0i:Nat)(t2 t3:DV)(t10i:Nat)(t17 b5:DV)(sg:List E5):LU R t0i t2 t3 t10i t17 b5 sg =
 (ob (D7 .eql t17 (iI 9)) λx=>G9 x (oc (R.r Ey [(pt t0i),((.agg [(A9 8 b5),(A9 9 b5),(A9 10 b5)]),.val),(t2,.val),(pt t10i)] sg) λq2 s2=>og (J3 (A9 3 b5))<|og (J3 q2)<|oc (R.r Cz [(t3,.val),((.list 3 [(.agg [(A9 3 b5),q2,(.list 1 [])])]),.val)] s2) λq3 s3=>oc (R.r O6 [(pt t0i),((X4 b5),.val),((iI 0),.val),(t2,.val),(q3,.val),(pt t10i)] s3) λq4 s4=>oc (R.r BK [(pt t0i),((iI 9),.val),(q2,.val),(q4,.val)] s4) λq5 s5=>N8 R t10i q5 (iI 0) (.list 1 []) (.list 1 []) (.list 4 []) s5) (ob (D7 .eql t17 (iI 10)) λy=>G9 y (oc (R.r KW [(pt t0i),((X4 b5),.val),(t2,.val),(t3,.val),(pt t10i)] sg) λq7 s7=>N8 R t10i q7 (iI 0) (.list 1 []) (.list 1 []) (.list 4 []) s7) (ob (D7 .eql t17 (iI 11)) λz=>G9 z (oc (R.r KX [(pt t0i),((X4 b5),.val),(t2,.val),(t3,.val),(pt t10i)] sg) λq9 s9=>
 N8 R t10i q9 (iI 0) (.list 1 []) (.list 1 []) (.list 4 []) s9) (ob (D7 .eql t17 (iI 12)) λw=>G9 w (oc (R.r KY [(pt t0i),((X4 b5),.val),(t2,.val),(t3,.val),(pt t10i)] sg) λq11 s11=>N8 R t10i q11 (iI 0) (.list 1 []) (.list 1 []) (.list 4 []) s11) (ob (D7 .eql t17 (iI 13)) λu=>G9 u (oc (R.r Jq [(pt t0i),((X4 b5),.val),(t2,.val),(t3,.val),(pt t10i)] sg) λq13 s13=>N8 R t10i q13 (iI 0) (.list 1 []) (.list 1 []) (.list 4 []) s13) (ob (D7 .eql t17 (iI 14)) λv=>G9 v (oc (R.r Ih [(pt t0i),((X4 b5),.val),(t2,.val),(t3,.val),(pt t10i)] sg) λq15 s15=>N8 R t10i q15 (iI 0) (.list 1 []) (.list 1 []) (.list 4 []) s15) (ob (D7 .eql t17 (iI 15)) λt=>G9 t (oc (R.r O6 [(pt t0i),((X4 b5),.val),((iI 0),.val),(t2,.val),(t3,.val),(pt t10i)] sg) λq17 s17=>
 oc (R.r Gv [(pt t0i),((.agg [(A9 8 b5),(A9 9 b5),(A9 10 b5)]),.val)] s17) λq18 s18=>ob (M9 16 (A9 15 b5) (iI 0)) λs=>oc (R.r R7 [(pt t0i),(q17,.val),(q18,.val),((X4 s),.val)] s18) λq20 s20=>N8 R t10i q18 (iI 0) (.list 1 []) (.list 1 []) (.list 4 []) s20) (ob (D7 .eql t17 (iI 16)) λq=>G9 q (oc (R.r Lm [(pt t0i),((X4 b5),.val),(t2,.val),(t3,.val),(pt t10i)] sg) λq22 s22=>N8 R t10i q22 (iI 0) (.list 1 []) (.list 1 []) (.list 4 []) s22) (N8 R t10i (iI 0) (iI 0) (.list 1 []) (.list 1 []) (.list 4 []) sg))))))))):=H7 [20,39]
def jZ:C9.r Bu [(.undef,(.ptr i 0)),(a,.val),(b,.val),(c,.val)] s=VX C9 i a b c s:=Bb (s:=El) func41
def UB:=eR f42 Gs MQ R [] (I4 f42 [(pt i),(a,.val)] s)
def Fe:=hR f42 Gs MQ R (pb 250) (ms 39 [(28,a),(29,b),(30,c)] [(0,(.ptr i 0))] [(4,bv [d,e,f]),(5,bx g 3)] s)
def jH:UB R i a s =
 (og (I7 4 a)<|oc (R.r U3 [(pt i)] s) λq1 s1=>ob (j5 .not q1) λy=>G9 y (some ([(.agg (KG []))],s1)) (ob (H5 s1 i) λc3=>ob (X7 c3 0) λi4=>ob (R.r Gw [(pt i4),((A9 0 a),.val)] s1) λq5=>ob (Q3 0 (.J9 q5.1)) λx=>ob (Q3 1 (.J9 q5.1)) λz=>og (I7 3 x)<|oc (R.r R8 [(pt i),(z,.val),((.agg (uf (LP []))),.val)] q5.2) λq8 s8=>ob (O3 (A9 3 a)) λw=>Fe R i (A9 3 a) w (iI 0) (iI 0) (iI 0) (.list 3 []) x s8)):=H7 []
def Po:Fe R i a b c d e f g s =
 (ob (D7 .lss c b) λy=>G9 y (ob (M9 4 a c) λx=>oc (R.r Ew [(pt i),((.agg [(A9 0 x),(A9 1 x),(A9 2 x),(A9 3 x)]),.val)] s) λq3 s3=>ob (D7 .add c (iI 1)) λz=>Fe R i a b z d e f g s3) (some ([(Cv g)],s))):=L8 []
def gV:C9.r Ew [(.undef,(.ptr i 0)),(a,.val)] s=UB C9 i a s:=Bb (s:=Gs) func42
def Va:=eR f43 En Iy R [] (I4 f43 [(pt i),(a,.val)] s)
def Ci:=hR f43 En Iy R (pb 58) (ms 67 [(16,a),(17,b),(18,c)] [(0,(.ptr i 0))] [(3,bx d 4),(4,bv [e,f,g]),(5,some [(h,.own),(o,.val),((.list 3 []),.own)])] s)
def Ff:=hR f43 En Iy R (pb 122) (ms 67 [(47,a),(48,b),(49,c)] [(0,(.ptr i 0))] [(4,bv [d,e,f]),(5,some [(g,.own),(h,.val),(o,.own)])] s)
def lY:Va R i a s =
 (og (I7 4 a)<|og (J3 (A9 2 a))<|ob (O3 (A9 1 a)) λx=>Ci R i (A9 1 a) x (iI 0) a (.list 3 []) (.list 1 []) (.list 3 []) (.list 3 []) (A9 2 a) s):=H7 []
def Df:Ci R i a b c d e f g h o s =
 (ob (D7 .lss c b) λz=>G9 z (ob (M9 1 a c) λx=>og (M8 x)<|oc (R.r U3 [(pt i)] s) λq3 s3=>ob (j5 .not q3) λw=>G9 w (some ([(.agg [h,o,(.list 3 [])])],s3)) (ob (H5 s3 i) λc5=>ob (X7 c5 0) λi6=>ob (R.r Gw [(pt i6),(x,.val)] s3) λq7=>ob (Q3 0 (.J9 q7.1)) λy=>ob (Q3 1 (.J9 q7.1)) λu=>og (I7 3 y)<|oc (R.r R8 [(pt i),(u,.val),((.agg (uf (LP []))),.val)] q7.2) λq10 s10=>ob (EP 3 h (.list 3 [(Cv y)])) λv=>ob (D7 .add c (iI 1)) λt=>Ci R i a b t d e f g v o s10)) (ob (O3 (A9 3 d)) λq=>Ff R i (A9 3 d) q (iI 0) e f g h o (.list 3 []) s)):=L8 []
def Pq:Ff R i a b c d e f g h o s =
 (ob (D7 .lss c b) λy=>G9 y (ob (M9 4 a c) λx=>oc (R.r U3 [(pt i)] s) λq3 s3=>ob (j5 .not q3) λz=>G9 z (some ([(.agg [g,h,o])],s3)) (oc (R.r Fu [(pt i),((.agg [(A9 0 x),(A9 1 x),(A9 2 x),(A9 3 x)]),.val)] s3) λq5 s5=>og (I7 3 q5)<|ob (EP 3 o (.list 3 [q5])) λw=>ob (D7 .add c (iI 1)) λu=>Ff R i a b u d e f g h w s5)) (some ([(.agg [g,h,o])],s))):=L8 []
def je:C9.r Fu [(.undef,(.ptr i 0)),(a,.val)] s=Va C9 i a s:=Bb (s:=En) func43
def YV:=eR f44 Og Xl R [] (I4 f44 [(pt i)] s)
def rW:YV R i s =
 (ob (H5 s i) λc1=>ob (U7 c1 7) λx=>ob (D7 .eql x (iI 0)) λy=>some ([y],s)):=H7 []
def qX:C9.r U3 [(.undef,(.ptr i 0))] s=YV C9 i s:=Bb (s:=Og) func44
def zW:=eP f45 w_ R [] (I4 f45 [(a,.val)] [])
def A7y:zW R a =
 (og (I7 3 a)<|oc (R.r Y_ [((Cv a),.val),(.undef,(F4.map 0)),((.list 1 []),.own)] [E5.map false []]) λq1 s1=>some q1):=H7 []
def A5o:C9.p Yz [a]=zW C9 a:=CG func45
def Tv:=eR f46 Lc TJ R [] (I4 f46 [(.undef,(F4.map i)),(a,.val)] s)
def jB:Tv R i a s =
 (og (AB false a&&true)<|ob (S9 s i) λm1=>og (m1.1==false)<|ob (j5 .not (.bool (Y1 m1.2 a).isSome)) λx=>G9 x (ob (A0H s (.map i)) λn3=>ob (iH n3) λy=>og (AB false a&&true&&true)<|ob (S9 s i) λm5=>og (m5.1==false)<|some ([],(s.set i (E5.map false (Bt m5.2 a y))))) (some ([],s))):=H7 []
def gM:C9.r DN [(.undef,(F4.map i)),(a,.val)] s=Tv C9 i a s:=Bb (s:=Lc) func46
def TB:=eR f47 BS Cj R [] (I4 f47 [(.undef,(F4.map i)),(a,.val)] s)
def Bw:=hR f47 BS Cj R (pb 26) (ms 53 [(13,a),(14,b),(15,c)] [(0,(F4.map i))] [(3,bx d 3)] s)
def Z8:=hR f47 BS Cj R (pb 6758) (ms 53 [(13,a),(14,b),(15,c),(20,d),(21,e),(22,f)] [(0,(F4.map i))] [(3,bx g 3)] s)
def Av:=hR f47 BS Cj R (pb 58) (ms 53 [(32,a),(33,b),(34,c)] [(0,(F4.map i))] [(3,bx d 3)] s)
def Ep:=hR f47 BS Cj R (pb 62) (ms 53 [(43,a),(44,b),(45,c)] [(0,(F4.map i))] [] s)
def gH:TB R i a s =
 (og (I7 3 a)<|ob (O3 (A9 0 a)) λx=>Bw R i (A9 0 a) x (iI 0) a s):=H7 []
def O_:Bw R i a b c d s =
 (ob (D7 .lss c b) λy=>G9 y (ob (M9 3 a c) λz=>ob (R.p Yz [(Cv z)]) λx=>ob (O3 x) λw=>Z8 R i a b c x w (iI 0) d s) (ob (O3 (A9 1 d)) λu=>Av R i (A9 1 d) u (iI 0) d s)):=L8 []
def PD:Z8 R i a b c d e f g s =
 (ob (D7 .lss f e) λy=>G9 y (ob (M9 1 d f) λx=>og (M8 x)<|oc (R.r DN [(.undef,(F4.map i)),(x,.val)] s) λq3 s3=>ob (D7 .add f (iI 1)) λz=>Z8 R i a b c d e z g s3) (ob (D7 .add c (iI 1)) λw=>Bw R i a b w g s)):=L8 []
def Ny:Av R i a b c d s =
 (ob (D7 .lss c b) λy=>G9 y (ob (M9 1 a c) λx=>og (M8 x)<|oc (R.r DN [(.undef,(F4.map i)),(x,.val)] s) λq3 s3=>ob (D7 .add c (iI 1)) λz=>Av R i a b z d s3) (ob (O3 (A9 2 d)) λw=>Ep R i (A9 2 d) w (iI 0) s)):=L8 []
def Nz:Ep R i a b c s =
 (ob (D7 .lss c b) λx=>G9 x (ob (M9 3 a c) λy=>oc (R.r Ht [(.undef,(F4.map i)),((Cv y),.val)] s) λq3 s3=>ob (D7 .add c (iI 1)) λz=>Ep R i a b z s3) (some ([],s))):=L8 []
def cO:C9.r Ht [(.undef,(F4.map i)),(a,.val)] s=TB C9 i a s:=Bb (s:=BS) func47
def VU:=eR f48 IP NM R [] (I4 f48 [(.undef,(F4.map i)),(a,.val)] s)
def Gb:=hR f48 IP NM R (pb 250) (ms 42 [(26,a),(27,b),(28,c)] [(0,(F4.map i))] [(4,bv [d,e,(.list 3 [])]),(5,some [(f,.val),(g,.val),(h,.own)])] s)
def lQ:VU R i a s =
 (og (I7 3 a)<|ob (D7 .eql (A9 0 a) (iI 6)) λx=>G9 x (og (AB false (A9 1 a)&&true)<|ob (S9 s i) λm2=>og (m2.1==false)<|og (J3 ((Y1 m2.2 (A9 1 a)).getD (iI 0)))<|some ([(.agg [(A9 0 a),((Y1 m2.2 (A9 1 a)).getD (iI 0)),(A9 2 a)])],s)) (ob (O3 (A9 2 a)) λy=>ob (D7 .eql y (iI 0)) λz=>G9 z (some ([(Cv a)],s)) (og (J3 (A9 0 a))<|ob (O3 (A9 2 a)) λw=>Gb R i (A9 2 a) w (iI 0) (iI 0) (iI 0) (A9 0 a) (iI 0) (.list 3 []) s))):=H7 []
def RD:Gb R i a b c d e f g h s =
 (ob (D7 .lss c b) λx=>G9 x (ob (M9 3 a c) λy=>oc (R.r Fs [(.undef,(F4.map i)),((Cv y),.val)] s) λq3 s3=>og (I7 3 q3)<|ob (EP 3 h (.list 3 [q3])) λz=>ob (D7 .add c (iI 1)) λw=>Gb R i a b w d e f g z s3) (some ([(.agg [f,g,h])],s))):=L8 []
def jW:C9.r Fs [(.undef,(F4.map i)),(a,.val)] s=VU C9 i a s:=Bb (s:=IP) func48
def VT:=eR f49 Cy FC R [] (I4 f49 [(.undef,(F4.map i)),(a,.val)] s)
def Ce:=hR f49 Cy FC R (pb 58) (ms 61 [(13,a),(14,b),(15,c)] [(0,(F4.map i))] [(3,bx d 3),(4,bv [e,f,g]),(5,some [(h,.own),((.list 1 []),.own),((.list 3 []),.own)])] s)
def Cf:=hR f49 Cy FC R (pb 122) (ms 61 [(29,a),(30,b),(31,c)] [(0,(F4.map i))] [(3,bx d 3),(4,bv [e,f,g]),(5,some [(h,.own),(o,.own),(p,.own)])] s)
def Fb:=hR f49 Cy FC R (pb 250) (ms 61 [(45,a),(46,b),(47,c)] [(0,(F4.map i))] [(4,bv [d,e,f]),(5,some [(g,.own),(h,.own),(o,.own)])] s)
def lN:VT R i a s =
 (og (I7 3 a)<|ob (O3 (A9 0 a)) λx=>Ce R i (A9 0 a) x (iI 0) a (.list 3 []) (.list 1 []) (.list 3 []) (.list 3 []) s):=H7 []
def RA:Ce R i a b c d e f g h s =
 (ob (D7 .lss c b) λx=>G9 x (ob (M9 3 a c) λy=>oc (R.r Fs [(.undef,(F4.map i)),((Cv y),.val)] s) λq3 s3=>og (I7 3 q3)<|ob (EP 3 h (.list 3 [q3])) λz=>ob (D7 .add c (iI 1)) λw=>Ce R i a b w d e f g z s3) (ob (O3 (A9 1 d)) λu=>Cf R i (A9 1 d) u (iI 0) d e f g h (.list 1 []) (.list 3 []) s)):=L8 []
def RB:Cf R i a b c d e f g h o p s =
 (ob (D7 .lss c b) λy=>G9 y (ob (M9 1 a c) λx=>og (M8 x)<|og (AB false x&&true)<|ob (S9 s i) λm3=>og (m3.1==false)<|og (J3 ((Y1 m3.2 x).getD (iI 0)))<|ob (EP 1 o (.list 1 [((Y1 m3.2 x).getD (iI 0))])) λz=>ob (D7 .add c (iI 1)) λw=>Cf R i a b w d e f g h z p s) (ob (O3 (A9 2 d)) λu=>Fb R i (A9 2 d) u (iI 0) e f g h o p s)):=L8 []
def Pi:Fb R i a b c d e f g h o s =
 (ob (D7 .lss c b) λx=>G9 x (ob (M9 3 a c) λy=>oc (R.r Jp [(.undef,(F4.map i)),((Cv y),.val)] s) λq3 s3=>og (I7 3 q3)<|ob (EP 3 o (.list 3 [q3])) λz=>ob (D7 .add c (iI 1)) λw=>Fb R i a b w d e f g h z s3) (some ([(.agg [g,h,o])],s))):=L8 []
def jV:C9.r Jp [(.undef,(F4.map i)),(a,.val)] s=VT C9 i a s:=Bb (s:=Cy) func49
def Vd:=eR f50 Mm Uk R [] (I4 f50 [(pt i)] s)
def lh:Vd R i s =
 (ob (H5 s i) λc1=>ob (U7 c1 2) λx=>some ([x],s)):=H7 []
def jf:C9.r OX [(.undef,(.ptr i 0))] s=Vd C9 i s:=Bb (s:=Mm) func50
def iO:=eP f60 Uf R [] (I4 f60 [(a,.val),(b,.val)] [])
def Ls:=hP f60 Uf R (pb 58) (ms 27 [(0,a),(1,b),(5,c)] [] [] [])
def A0c:iO R a b =
 (ob (O3 a) λx=>ob (O3 b) λy=>ob (D7 .neq x y) λz=>G9 z sF (Ls R a b (iI 0))):=H7 []
def Xe:Ls R a b c =
 (ob (O3 a) λx=>ob (D7 .lss c x) λy=>G9 y (ob (M9 3 a c) λz=>ob (M9 3 b c) λw=>ob (R.p OE [(Cv z),(Cv w)]) λu=>ob (j5 .not u) λv=>G9 v sF (ob (D7 .add c (iI 1)) λt=>Ls R a b t)) sT):=L8 []
def yF:C9.p Vw [a,b]=iO C9 a b:=CG func60
def vg:=eP f61 aS R [] (I4 f61 [(a,.val),(b,.val)] [])
def QX:=hP f61 aS R (pb 58) (ms 26 [(0,a),(1,b),(5,c)] [] [] [])
def A4Q:vg R a b =
 (ob (O3 a) λx=>ob (O3 b) λy=>ob (D7 .neq x y) λz=>G9 z sF (QX R a b (iI 0))):=H7 []
def dN:QX R a b c =
 (ob (O3 a) λz=>ob (D7 .lss c z) λw=>G9 w (ob (M9 1 a c) λx=>og (M8 x)<|ob (M9 1 b c) λy=>og (M8 y)<|ob (D7 .neq x y) λu=>G9 u sF (ob (D7 .add c (iI 1)) λv=>QX R a b v)) sT):=L8 []
def A3M:C9.p fM [a,b]=vg C9 a b:=CG func61
def A4z:=eP f64 A2G R [] (I4 f64 [] [])
def B1a:A4z R =
 (ob (R.p Yw [(.str ⟨#[120]⟩)]) λx=>og (I7 16 x)<|some (.agg ((iI 9)::(iI 0)::(iI 0)::(.str ⟨#[120]⟩)::(zz5 ((iI 0)::(KG (KG [(.list 7 []),(.list 16 [x])]))))))):=H7 []
def A7k{d:DV}(h:A4z C9=some d):C9.p ko []=some d:=A9a func64 (by kernel_rfl) (by kernel_rfl) (by kernel_rfl) h
def A2m:=eP f65 ZH R [] (I4 f65 [(a,.val)] [])
def fq:=eP f65 ZH R (pb 15) (ms 137 [] [] [(1,bx a 16),(3,bx b 16)] [])
def fu:=eP f65 ZH R (pb 31) (ms 137 [] [] [(1,bx a 16)] [])
def A9t:A2m R a =
 (og (I7 16 a)<|ob (R.p Zp [(X4 a)]) λy=>ob (Q3 0 y) λx=>ob (Q3 1 y) λz=>og (I7 16 x)<|ob (O3 (A9 15 a)) λw=>ob (D7 .neq z w) λu=>M7 u sF (ob (D7 .neq (A9 3 a) (A9 3 x)) λv=>M7 v sF (ob (D7 .neq (A9 4 a) (A9 4 x)) λt=>M7 t sF (ob (D7 .neq (A9 5 a) (A9 5 x)) λs=>M7 s sF (ob (D7 .neq (A9 6 a) (A9 6 x)) λr=>M7 r sF (ob (D7 .neq (A9 7 a) (A9 7 x)) λq=>M7 q sF (ob (O3 (A9 14 a)) λo=>ob (O3 (A9 14 x)) λn=>ob (D7 .neq o n) λm=>G9 m sF (fq R a x)) none) none) none) none) none) none):=H7 [4,6]
def A43:fq R a b =
 (ob (R.p Tg [(.agg [(A9 8 a),(A9 9 a),(A9 10 a)]),(.agg [(A9 8 b),(A9 9 b),(A9 10 b)])]) λx=>ob (j5 .not x) λy=>M7 y sF (ob (R.p Tg [(.agg [(A9 11 a),(A9 12 a),(A9 13 a)]),(.agg [(A9 11 b),(A9 12 b),(A9 13 b)])]) λz=>ob (j5 .not z) λw=>G9 w sF (fu R a)) none):=H7 [4,6]
def A44:fu R a =
 (ob (D7 .neq (A9 0 a) (iI 15)) λx=>ob (R.p Yy [(.agg [(A9 8 a),(A9 9 a),(A9 10 a)]),x]) λy=>ob (j5 .not y) λz=>M7 z sF (ob (R.p Yy [(.agg [(A9 11 a),(A9 12 a),(A9 13 a)]),(.bool true)]) λw=>ob (j5 .not w) λu=>G9 u sF (ob (D7 .eql (A9 0 a) (iI 1)) λv=>G9 v (ob (R.p KZ [(A9 3 a)]) λt=>some t) (ob (D7 .eql (A9 0 a) (iI 9)) λs=>G9 s (ob (R.p KZ [(A9 3 a)]) λr=>some r) (ob (D7 .eql (A9 0 a) (iI 11)) λq=>G9 q (ob (R.p KZ [(A9 3 a)]) λo=>some o) (ob (D7 .eql (A9 0 a) (iI 12)) λn=>G9 n (ob (R.p KZ [(A9 3 a)]) λm=>M7 m (ob (R.p KZ [(A9 4 a)]) λl=>some l) sF none) (ob (D7 .eql (A9 0 a) (iI 3)) λk=>G9 k (ob (D7 .eql (A9 5 a) (iI 0)) λj=>M7 j sT (ob (D7 .eql (A9 5 a) (iI 1)) λi=>some i) none) (ob (D7 .eql (A9 0 a) (iI 4)) λh=>G9 h (ob (Er (A9 6 a)) λg=>ob (D7 .leq g (iI 200)) λf=>
 some f) (ob (D7 .eql (A9 0 a) (iI 14)) λe=>G9 e (ob (O3 (A9 14 a)) λd=>ob (D7 .gtr d (iI 0)) λc=>some c) (ob (D7 .eql (A9 0 a) (iI 16)) λb=>G9 b (ob (D7 .geq (A9 7 a) (iI 1)) λX=>M7 X (ob (D7 .leq (A9 7 a) (iI 7)) λY=>some Y) sF none) sT))))))))) none):=H7 [4,6]
def A7D:C9.p qp [a]=A2m C9 a:=CG func65
def iQ:=eP f66 Ui R [] (I4 f66 [(a,.val)] [])
def Lu:=hP f66 Ui R (pb 122) (ms 24 [(3,a),(4,b)] [] [] [])
def A0f:iQ R a =
 (og (I7 7 a)<|ob (R.p cz [(TD a)]) λx=>ob (j5 .not x) λy=>G9 y sF (ob (R.p fV [(TD a)]) λz=>Lu R z (iI 0))):=H7 []
def Xh:Lu R a b =
 (ob (O3 a) λy=>ob (D7 .lss b y) λz=>G9 z (ob (Nv 1 a none (some b)) λw=>ob (M9 1 a b) λx=>og (M8 x)<|ob (R.p qo [w,x]) λu=>G9 u sF (ob (D7 .add b (iI 1)) λv=>Lu R a v)) sT):=L8 []
def yG:C9.p Vx [a]=iQ C9 a:=CG func66
def zQ:=eP f69 wu R [] (I4 f69 [(a,.val)] [])
def A7s:zQ R a =
 (ob (D7 .eql a (iI 1)) λx=>G9 x (some (iI 0)) (ob (D7 .eql a (iI 2)) λy=>G9 y (some (iI 0)) (ob (D7 .eql a (iI 3)) λz=>G9 z (some (iI 0)) (ob (D7 .eql a (iI 4)) λw=>G9 w (some (iI 0)) (ob (D7 .eql a (iI 5)) λu=>G9 u (some (iI 0)) (ob (D7 .eql a (iI 6)) λv=>G9 v (some (iI 0)) (ob (D7 .eql a (iI 8)) λt=>G9 t (some (iI 1)) (ob (D7 .eql a (iI 7)) λs=>G9 s (some (iI 2)) (ob (D7 .eql a (iI 9)) λr=>G9 r (some (iI 2)) (some (.int .i64 (-1)))))))))))):=H7 []
def A5i:C9.p ky [a]=zQ C9 a:=CG func69
def wN:=eP f74 sZ R [] (I4 f74 [(a,.val)] [])
def A47:wN R a =
 (og (I7 3 a)<|ob (R.p Wy [(Cv a)]) λx=>ob (j5 .not x) λy=>G9 y (some (iI 1)) (some (iI 0))):=H7 []
def A3Z:C9.p Wx [a]=wN C9 a:=CG func74
end
end Go.Su

/-
 Equations of the program's functions: by program.
-/
namespace Go.Su
set_option linter.defProp false
set_option maxRecDepth 100000
noncomputable section
open Go.Proofs
open Tryz
variable (R: O7)(i: Nat)(a b c o p q r t u v w x y z a17: DV)(s: List E5)
def v_:=eP f76 MR R [] (I4 f76 [(a,.val),(b,.val)] [])
def Qa:=hP f76 MR R (pb 250) (ms 70 [(1,a),(5,b)] [] [(2,bx c 16)] [])
def SH:=eP f76 MR R (pb 63) (ms 70 [(1,a)] [] [(2,bx b 16)] [])
def Qb:=hP f76 MR R (pb 506) (ms 70 [(1,a),(6,b)] [] [(2,bx c 16)] [])
def QZ:=eP f76 MR R (pb 127) (ms 70 [(1,a)] [] [(2,bx b 16)] [])
def rY:v_ R a b =
 (og (I7 16 a)<|ob (D7 .add b (iI 1)) λx=>ob (R.p Hu [(.agg [(A9 8 a),(A9 9 a),(A9 10 a)]),x]) λy=>ob (R.p Hu [(.agg [(A9 11 a),(A9 12 a),(A9 13 a)]),y]) λz=>Qa R z (iI 0) a):=H7 [8,12]
def UT:Qa R a b c =
 (ob (O3 (A9 14 c)) λx=>ob (D7 .lss b x) λy=>M7 y (ob (D7 .leq a (iI 400)) λz=>G9 z (ob (M9 7 (A9 14 c) b) λw=>ob (R.p QU [(TD w),a]) λu=>ob (D7 .add b (iI 1)) λv=>Qa R u v c) (SH R a c)) (SH R a c) none):=L8 [8,12]
def A1m:SH R a b =
 (Qb R a (iI 0) b):=H7 [8,12]
def UU:Qb R a b c =
 (ob (O3 (A9 15 c)) λx=>ob (D7 .lss b x) λy=>M7 y (ob (D7 .leq a (iI 400)) λz=>G9 z (ob (M9 16 (A9 15 c) b) λw=>ob (R.p Wt [(X4 w),a]) λu=>ob (D7 .add b (iI 1)) λv=>Qb R u v c) (QZ R a c)) (QZ R a c) none):=L8 [8,12]
def A0d:QZ R a b =
 (ob (Er (A9 6 b)) λx=>ob (D7 .gtr x (iI 300)) λy=>M7 y (some (iI 401)) (ob (Er (A9 3 b)) λz=>ob (D7 .gtr z (iI 300)) λw=>M7 w (some (iI 401)) (ob (Er (A9 4 b)) λu=>ob (D7 .gtr u (iI 300)) λv=>G9 v (some (iI 401)) (some a)) none) none):=H7 [8,12]
def pJ:C9.p Wt [a,b]=v_ C9 a b:=CG func76
def zV:=eP f78 ED R [] (I4 f78 [(a,.val)] [])
def UL:=eP f78 ED R (pb 115) (ms 186 [] [] [(1,bx a 16),(3,bx b 9)] [])
def ME:=eP f78 ED R (pb 463) (ms 186 [] [] [(1,bx a 16),(3,bx b 9)] [])
def MF:=eP f78 ED R (pb 1855) (ms 186 [] [] [(1,bx a 16),(3,bx b 9)] [])
def FX:=eP f78 ED R (pb 7423) (ms 186 [] [] [(1,bx a 16),(3,bx b 9)] [])
def SN:=eP f78 ED R (pb 29695) (ms 186 [] [] [(1,bx a 16),(3,bx b 9)] [])
def KN:=eP f78 ED R (pb 118783) (ms 186 [] [] [(1,bx a 16),(3,bx b 9)] [])
def KP:=eP f78 ED R (pb 475135) (ms 186 [] [] [(1,bx a 16),(3,bx b 9)] [])
def SQ:=eP f78 ED R (pb 15) (ms 186 [] [] [(1,bx a 16)] [])
def Qd:=hP f78 ED R (pb 122) (ms 186 [(176,a),(177,b),(178,c)] [] [] [])
def A7x:zV R a =
 (og (I7 16 a)<|ob (R.p Vy [(X4 a)]) λy=>ob (Q3 0 y) λx=>ob (Q3 1 y) λz=>og (I7 9 x)<|ob (j5 .not z) λw=>M7 w sF (ob (O3 (A9 15 a)) λu=>ob (D7 .neq u (A9 8 x)) λv=>M7 v sF (ob (D7 .neq (A9 0 a) (iI 14)) λt=>M7 t (ob (O3 (A9 14 a)) λs=>ob (D7 .gtr s (iI 0)) λr=>G9 r sF (UL R a x)) (UL R a x) none) none) none):=H7 [4,6,8,10,12,14,16,18]
def A3E:UL R a b =
 (M7 (A9 0 b) (ob (R.p Rc [(A9 3 a)]) λx=>ob (j5 .not x) λy=>M7 y sF (ob (j5 .not (A9 0 b)) λz=>M7 z (ob (D7 .neq (A9 3 a) (.str ⟨#[]⟩)) λw=>G9 w sF (ME R a b)) (ME R a b) none) none) (ob (j5 .not (A9 0 b)) λu=>M7 u (ob (D7 .neq (A9 3 a) (.str ⟨#[]⟩)) λv=>G9 v sF (ME R a b)) (ME R a b) none) none):=H7 [4,6,8,10,12,14,16,18]
def A3F:ME R a b =
 (M7 (A9 1 b) (ob (R.p Rc [(A9 4 a)]) λx=>ob (j5 .not x) λy=>M7 y sF (ob (j5 .not (A9 1 b)) λz=>M7 z (ob (D7 .neq (A9 4 a) (.str ⟨#[]⟩)) λw=>G9 w sF (MF R a b)) (MF R a b) none) none) (ob (j5 .not (A9 1 b)) λu=>M7 u (ob (D7 .neq (A9 4 a) (.str ⟨#[]⟩)) λv=>G9 v sF (MF R a b)) (MF R a b) none) none):=H7 [4,6,8,10,12,14,16,18]
def A3G:MF R a b =
 (ob (j5 .not (A9 2 b)) λx=>M7 x (ob (D7 .neq (A9 5 a) (iI 0)) λy=>M7 y sF (ob (D7 .eql (A9 0 a) (iI 3)) λz=>M7 z (ob (D7 .neq (A9 5 a) (iI 0)) λw=>M7 w (ob (D7 .neq (A9 5 a) (iI 1)) λu=>G9 u sF (FX R a b)) (FX R a b) none) (FX R a b) none) none) (ob (D7 .eql (A9 0 a) (iI 3)) λv=>M7 v (ob (D7 .neq (A9 5 a) (iI 0)) λt=>M7 t (ob (D7 .neq (A9 5 a) (iI 1)) λs=>G9 s sF (FX R a b)) (FX R a b) none) (FX R a b) none) none):=H7 [4,6,8,10,12,14,16,18]
def A1s:FX R a b =
 (ob (j5 .not (A9 3 b)) λx=>M7 x (ob (D7 .neq (A9 6 a) (.str ⟨#[]⟩)) λy=>M7 y sF (ob (Er (A9 6 a)) λz=>ob (D7 .gtr z (iI 200)) λw=>G9 w sF (SN R a b)) none) (ob (Er (A9 6 a)) λu=>ob (D7 .gtr u (iI 200)) λv=>G9 v sF (SN R a b)) none):=H7 [4,6,8,10,12,14,16,18]
def A1t:SN R a b =
 (M7 (A9 4 b) (ob (D7 .lss (A9 7 a) (iI 1)) λx=>M7 x sF (ob (D7 .gtr (A9 7 a) (iI 7)) λy=>M7 y sF (ob (j5 .not (A9 4 b)) λz=>M7 z (ob (D7 .neq (A9 7 a) (iI 0)) λw=>G9 w sF (KN R a b)) (KN R a b) none) none) none) (ob (j5 .not (A9 4 b)) λu=>M7 u (ob (D7 .neq (A9 7 a) (iI 0)) λv=>G9 v sF (KN R a b)) (KN R a b) none) none):=H7 [4,6,8,10,12,14,16,18]
def A1u:KN R a b =
 (ob (R.p OG [(.agg [(A9 8 a),(A9 9 a),(A9 10 a)])]) λx=>ob (j5 .not x) λy=>M7 y (ob (j5 .not (A9 5 b)) λz=>M7 z sF (ob (R.p SF [(.agg [(A9 8 a),(A9 9 a),(A9 10 a)])]) λw=>ob (j5 .not w) λu=>M7 u sF (M7 (A9 7 b) (ob (R.p OG [(.agg [(A9 8 a),(A9 9 a),(A9 10 a)])]) λv=>G9 v sF (KP R a b)) (KP R a b) none) none) none) (M7 (A9 7 b) (ob (R.p OG [(.agg [(A9 8 a),(A9 9 a),(A9 10 a)])]) λt=>G9 t sF (KP R a b)) (KP R a b) none) none):=H7 [4,6,8,10,12,14,16,18]
def A1v:KP R a b =
 (ob (R.p OG [(.agg [(A9 11 a),(A9 12 a),(A9 13 a)])]) λx=>ob (j5 .not x) λy=>M7 y (ob (j5 .not (A9 6 b)) λz=>M7 z sF (ob (R.p SF [(.agg [(A9 11 a),(A9 12 a),(A9 13 a)])]) λw=>ob (j5 .not w) λu=>G9 u sF (SQ R a)) none) (SQ R a) none):=H7 [4,6,8,10,12,14,16,18]
def A1w:SQ R a =
 (ob (O3 (A9 14 a)) λx=>Qd R (A9 14 a) x (iI 0)):=H7 [4,6,8,10,12,14,16,18]
def dX:Qd R a b c =
 (ob (D7 .lss c b) λx=>G9 x (ob (M9 7 a c) λy=>ob (R.p Oo [(TD y)]) λz=>ob (D7 .neq z (iI 0)) λw=>G9 w sF (ob (D7 .add c (iI 1)) λu=>Qd R a b u)) sT):=L8 [4,6,8,10,12,14,16,18]
def A5n:C9.p lC [a]=zV C9 a:=CG func78
def VZ(R:O7)(x0:Nat)(x1 x2 x3:DV)(x4:Nat)(sg:List E5):Option (List DV×List E5):=eR f79 Em Iw R [] (I4 f79 [(pt x0),(x1,.val),(x2,.val),(x3,.val),(pt x4)] sg)
def Bj(R:O7)(t0i:Nat)(t2 t3:DV)(t4i:Nat)(t11 b6:DV)(sg:List E5):Option (List DV×List E5):=hR f79 Em Iw R (pb 26) (ms 86 [(2,t2),(3,t3),(11,t11)] [(0,(.ptr t0i 0)),(4,(.ptr t4i 0))] [(6,bx b6 16)] sg)
def Cg(R:O7)(t0i:Nat)(t2:DV)(t4i:Nat)(t39 t40 b12:DV)(sg:List E5):Option (List DV×List E5):=hR f79 Em Iw R (pb 26938) (ms 86 [(2,t2),(39,t39),(40,t40)] [(0,(.ptr t0i 0)),(4,(.ptr t4i 0))] [(12,bx b12 3)] sg)
def lW(R:O7)(x0:Nat)(x1 x2 x3:DV)(x4:Nat)(sg:List E5):VZ R x0 x1 x2 x3 x4 sg =
 (og (I7 16 x1)<|ob (O3 x3) λx=>ob (D7 .sub x (iI 1)) λy=>Bj R x0 x2 x3 x4 y x1 sg):=H7 []
def RF(R:O7)(t0i:Nat)(t2 t3:DV)(t4i:Nat)(t11 b6:DV)(sg:List E5):Bj R t0i t2 t3 t4i t11 b6 sg =
 (ob (D7 .geq t11 (iI 0)) λy=>G9 y (ob (M9 3 t3 t11) λx=>ob (D7 .neq (A9 0 x) (A9 3 b6)) λz=>G9 z (ob (D7 .sub t11 (iI 1)) λw=>Bj R t0i t2 t3 t4i w b6 sg) (ob (O3 (A9 2 x)) λu=>ob (D7 .eql u (iI 0)) λv=>G9 v (some ([(A9 1 x)],sg)) (ob (O3 (A9 2 x)) λt=>Cg R t0i t2 t4i t (iI 0) x sg))) (og (J3 (A9 3 b6))<|oc (R.r R8 [(pt t0i),((iI 6),.val),((.agg [(A9 1 b6),(A9 2 b6),(iI 6),(iI 0),(iI 0),(A9 3 b6)]),.val)] sg) λq8 s8=>some ([(iI 0)],s8))):=L8 []
def RG(R:O7)(t0i:Nat)(t2:DV)(t4i:Nat)(t39 t40 b12:DV)(sg:List E5):Cg R t0i t2 t4i t39 t40 b12 sg =
 (ob (D7 .lss t40 t39) λx=>G9 x (ob (H5 sg t4i) λc2=>ob (Qi c2 1 1) λv3=>oc (R.r Z7 [(pt t0i),(t2,.val)] sg) λq4 s4=>Mf (s4[t4i]?=sg[t4i]?)<|og (J3 q4)<|ob (Rw s4 v3.2.1 v3.2.2 1 v3.1 (.list 1 [q4])) λp5=>ob (H5 p5.2 t4i) λc6=>ob (c6[1]?) λu7=>ob (D7 .add t40 (iI 1)) λy=>Cg R t0i t2 t4i t39 y b12 (p5.2.set t4i (E5.box (c6.set 1 (p5.1,(.U2 v3.2.1 (v3.2.2+1) 1)))))) (oc (R.r U3 [(pt t0i)] sg) λq9 s9=>ob (j5 .not q9) λz=>G9 z (some ([(iI 0)],s9)) (ob (H5 s9 t0i) λc11=>ob (X7 c11 0) λi12=>ob (H5 s9 t4i) λc13=>ob (U7 c13 1) λw=>ob (R.r PV [(pt i12),((A9 1 b12),.val),((A9 2 b12),.val),(w,.val)] s9) λq15=>ob (Q3 0 (.J9 q15.1)) λu=>ob (Q3 1 (.J9 q15.1)) λv=>oc (R.r R8 [(pt t0i),(v,.val),((.agg (uf (LP []))),.val)] q15.2) λq18 s18=>
 some ([u],s18)))):=L8 []
def jd(x0:Nat)(x1 x2 x3:DV)(x4:Nat)(sg:List E5):C9.r Jt [(.undef,(.ptr x0 0)),(x1,.val),(x2,.val),(x3,.val),(.undef,(.ptr x4 0))] sg=VZ C9 x0 x1 x2 x3 x4 sg:=Bb (s:=Em) func79
def XJ(R:O7)(x0:Nat)(x1 x2 x3 x4:DV)(x5:Nat)(sg:List E5):Option (List DV×List E5):=eR f80 Nc Vk R [] (I4 f80 [(pt x0),(x1,.val),(x2,.val),(x3,.val),(x4,.val),(pt x5)] sg)
def qF(R:O7)(x0:Nat)(x1 x2 x3 x4:DV)(x5:Nat)(sg:List E5):XJ R x0 x1 x2 x3 x4 x5 sg =
 (og (I7 16 x1)<|oc (R.r U3 [(pt x0)] sg) λq1 s1=>ob (j5 .not q1) λz=>G9 z (some ([(iI 0)],s1)) (ob (M9 16 (A9 15 x1) x2) λw=>ob (R.r Bu [(pt x0),((X4 w),.val),(x3,.val),(x4,.val)] s1) λq4=>ob (Q3 0 (.J9 q4.1)) λu=>ob (Q3 1 (.J9 q4.1)) λy=>og (I7 4 y)<|ob (H5 q4.2 x5) λc7=>ob (uo c7 3) λx=>ob (O3 x) λv=>ob (Jy 4 x (.list 4 [(.agg (zz7 []))])) λp10=>ob (AC 0 (p10.1.length+p10.2.length) v) λn11=>ob (LH ((q4.2.set x5 (E5.box (c7.set 3 (x,.val))))++[E5.opn 4 p10.1 p10.2]) ((q4.2.set x5 (E5.box (c7.set 3 (x,.val))))).length) λq12=>og (q12.1==4&&true)<|ob (Zl q12 n11 (.agg [(A9 0 y),(A9 1 y),(A9 2 y),(A9 3 y)])) λx13=>ob (H5 (((q4.2.set x5 (E5.box (c7.set 3 (x,.val))))++[E5.opn 4 p10.1 p10.2]).set ((q4.2.set x5 (E5.box (c7.set 3 (x,.val))))).length (x13)) x5) λc14=>ob (c14[3]?) λu15=>ob (H5 ((((q4.2.set x5 (E5.box (c7.set 3 (x,.val))))++[E5.opn 4 p10.1 p10.2]).set ((q4.2.set x5 (E5.box (c7.set 3 (x,.val))))).length (x13)).set x5 (E5.box (c14.set 3 (.undef,(.arr ((q4.2.set x5 (E5.box (c7.set 3 (x,.val))))).length 4 0 (p10.1.length+p10.2.length)))))) x5) λc16=>
 ob (um c16 3) λa17=>ob (LH ((((q4.2.set x5 (E5.box (c7.set 3 (x,.val))))++[E5.opn 4 p10.1 p10.2]).set ((q4.2.set x5 (E5.box (c7.set 3 (x,.val))))).length (x13)).set x5 (E5.box (c14.set 3 (.undef,(.arr ((q4.2.set x5 (E5.box (c7.set 3 (x,.val))))).length 4 0 (p10.1.length+p10.2.length)))))) a17.1) λq18=>ob (Sl q18 a17.2.1 a17.2.2) λt=>some ([u],((((((q4.2.set x5 (E5.box (c7.set 3 (x,.val))))++[E5.opn 4 p10.1 p10.2]).set ((q4.2.set x5 (E5.box (c7.set 3 (x,.val))))).length (x13)).set x5 (E5.box (c14.set 3 (.undef,(.arr ((q4.2.set x5 (E5.box (c7.set 3 (x,.val))))).length 4 0 (p10.1.length+p10.2.length)))))).set x5 (E5.box (c16.set 3 (t,.own)))).set a17.1 (E5.arr 1 []))))):=H7 []
def mJ(x0:Nat)(x1 x2 x3 x4:DV)(x5:Nat)(sg:List E5):C9.r O6 [(.undef,(.ptr x0 0)),(x1,.val),(x2,.val),(x3,.val),(x4,.val),(.undef,(.ptr x5 0))] sg=XJ C9 x0 x1 x2 x3 x4 x5 sg:=Bb (s:=Nc) func80
def VY:=eR f81 Ml Ue R [] (I4 f81 [(pt i),(a,.val),(b,.val),(c,.val)] s)
def lV:VY R i a b c s =
 (oc (R.r U3 [(pt i)] s) λq1 s1=>ob (j5 .not q1) λx=>G9 x (some ([(iI 0)],s1)) (ob (H5 s1 i) λc3=>ob (X7 c3 0) λi4=>ob (R.r EY [(pt i4),(a,.val),(b,.val),(c,.val)] s1) λq5=>ob (Q3 0 (.J9 q5.1)) λy=>ob (Q3 1 (.J9 q5.1)) λz=>oc (R.r R8 [(pt i),(z,.val),((.agg (uf (LP []))),.val)] q5.2) λq8 s8=>some ([y],s8))):=H7 []
def jc:C9.r BK [(.undef,(.ptr i 0)),(a,.val),(b,.val),(c,.val)] s=VY C9 i a b c s:=Bb (s:=Ml) func81
def T_:=eR f82 Lf TM R [] (I4 f82 [(pt i),(a,.val)] s)
def jF:T_ R i a s =
 (oc (R.r U3 [(pt i)] s) λq1 s1=>ob (j5 .not q1) λx=>G9 x (some ([(iI 0)],s1)) (ob (H5 s1 i) λc3=>ob (X7 c3 0) λi4=>ob (R.r Ia [(pt i4),(a,.val)] s1) λq5=>ob (Q3 0 (.J9 q5.1)) λy=>ob (Q3 1 (.J9 q5.1)) λz=>oc (R.r R8 [(pt i),(z,.val),((.agg (uf (LP []))),.val)] q5.2) λq8 s8=>some ([y],s8))):=H7 []
def gT:C9.r Z7 [(.undef,(.ptr i 0)),(a,.val)] s=T_ C9 i a s:=Bb (s:=Lf) func82
def VW(R:O7)(x0:Nat)(x1 x2 x3:DV)(x4:Nat)(sg:List E5):Option (List DV×List E5):=eR f83 Mk Ud R [] (I4 f83 [(pt x0),(x1,.val),(x2,.val),(x3,.val),(pt x4)] sg)
def lT(R:O7)(x0:Nat)(x1 x2 x3:DV)(x4:Nat)(sg:List E5):VW R x0 x1 x2 x3 x4 sg =
 (og (I7 16 x1)<|oc (R.r O6 [(pt x0),((X4 x1),.val),((iI 0),.val),(x2,.val),(x3,.val),(pt x4)] sg) λq1 s1=>oc (R.r O6 [(pt x0),((X4 x1),.val),((iI 1),.val),(x2,.val),(x3,.val),(pt x4)] s1) λq2 s2=>oc (R.r Z7 [(pt x0),(x2,.val)] s2) λq3 s3=>og (J3 q3)<|ob (H5 s3 x4) λc4=>ob (c4[1]?) λu5=>ob (M9 16 (A9 15 x1) (iI 0)) λx=>oc (R.r R7 [(pt x0),(q1,.val),(q3,.val),((X4 x),.val)] (s3.set x4 (E5.box (c4.set 1 ((.list 1 [q3]),.full))))) λq7 s7=>oc (R.r BK [(pt x0),((iI 8),.val),(q3,.val),((iI 0),.val)] s7) λq8 s8=>ob (M9 16 (A9 15 x1) (iI 1)) λy=>oc (R.r R7 [(pt x0),(q2,.val),(q8,.val),((X4 y),.val)] s8) λq10 s10=>some ([q8],s10)):=H7 []
def jY(x0:Nat)(x1 x2 x3:DV)(x4:Nat)(sg:List E5):C9.r Jr [(.undef,(.ptr x0 0)),(x1,.val),(x2,.val),(x3,.val),(.undef,(.ptr x4 0))] sg=VW C9 x0 x1 x2 x3 x4 sg:=Bb (s:=Mk) func83
def UC(R:O7)(x0:Nat)(x1 x2:DV)(x3:Nat)(sg:List E5):Option (List DV×List E5):=eR f84 Lg TN R [] (I4 f84 [(pt x0),(x1,.val),(x2,.val),(pt x3)] sg)
def jI(R:O7)(x0:Nat)(x1 x2:DV)(x3:Nat)(sg:List E5):UC R x0 x1 x2 x3 sg =
 (og (I7 3 x1)<|ob (D7 .neq (A9 0 x1) (iI 0)) λx=>G9 x (oc (R.r Gv [(pt x0),((Cv x1),.val)] sg) λq2 s2=>some ([q2],s2)) (oc (R.r Z7 [(pt x0),(x2,.val)] sg) λq3 s3=>ob (H5 s3 x3) λc4=>ob (Qi c4 1 1) λv5=>og (J3 q3)<|ob (Rw s3 v5.2.1 v5.2.2 1 v5.1 (.list 1 [q3])) λp6=>ob (H5 p6.2 x3) λc7=>ob (c7[1]?) λu8=>some ([q3],(p6.2.set x3 (E5.box (c7.set 1 (p6.1,(.U2 v5.2.1 (v5.2.2+1) 1)))))))):=H7 []
def gW(x0:Nat)(x1 x2:DV)(x3:Nat)(sg:List E5):C9.r Ey [(.undef,(.ptr x0 0)),(x1,.val),(x2,.val),(.undef,(.ptr x3 0))] sg=UC C9 x0 x1 x2 x3 sg:=Bb (s:=Lg) func84
def qw:=eR f85 Wo pM R [] (I4 f85 [(a,.val),(b,.val)] s)
def A3y:qw R a b s =
 (ob (O3 a) λx=>ob (O3 a) λy=>ob (Ze 3 a none x y) λz=>ob (EP 3 z b) λw=>some ([w],s)):=H7 []
def A1z:C9.r Cz [(a,.val),(b,.val)] s=qw C9 a b s:=Bb (s:=Wo) func85
def XI(R:O7)(x0:Nat)(x1 x2 x3:DV)(x4:Nat)(sg:List E5):Option (List DV×List E5):=eR f86 Nb Vj R [] (I4 f86 [(pt x0),(x1,.val),(x2,.val),(x3,.val),(pt x4)] sg)
def qE(R:O7)(x0:Nat)(x1 x2 x3:DV)(x4:Nat)(sg:List E5):XI R x0 x1 x2 x3 x4 sg =
 (og (I7 16 x1)<|oc (R.r O6 [(pt x0),((X4 x1),.val),((iI 0),.val),(x2,.val),(x3,.val),(pt x4)] sg) λq1 s1=>oc (R.r O6 [(pt x0),((X4 x1),.val),((iI 1),.val),(x2,.val),(x3,.val),(pt x4)] s1) λq2 s2=>oc (R.r U3 [(pt x0)] s2) λq3 s3=>ob (j5 .not q3) λw=>G9 w (some ([(iI 0)],s3)) (ob (H5 s3 x0) λc5=>ob (X7 c5 0) λi6=>oc (R.r Y5 [(pt i6),(q1,.val)] s3) λq7 s7=>ob (D7 .eql q7 (iI 5)) λu=>G9 u (ob (M9 16 (A9 15 x1) (iI 1)) λv=>oc (R.r R7 [(pt x0),(q2,.val),((iI 4),.val),((X4 v),.val)] s7) λq10 s10=>some ([(iI 4)],s10)) (ob (D7 .eql q7 (iI 6)) λt=>G9 t (oc (R.r Z7 [(pt x0),(x2,.val)] s7) λq12 s12=>oc (R.r Z7 [(pt x0),(x2,.val)] s12) λq13 s13=>oc (R.r BK [(pt x0),((iI 9),.val),(q12,.val),(q13,.val)] s13) λq14 s14=>
 ob (M9 16 (A9 15 x1) (iI 0)) λs=>oc (R.r R7 [(pt x0),(q1,.val),(q14,.val),((X4 s),.val)] s14) λq16 s16=>ob (M9 16 (A9 15 x1) (iI 1)) λq=>oc (R.r R7 [(pt x0),(q2,.val),(q12,.val),((X4 q),.val)] s16) λq18 s18=>some ([q13],s18)) (ob (D7 .eql q7 (iI 9)) λp=>G9 p (ob (H5 s7 x0) λc20=>ob (X7 c20 0) λi21=>oc (R.r C_ [(pt i21),(q1,.val)] s7) λq22 s22=>ob (M9 1 q22 (iI 0)) λx=>og (M8 x)<|ob (M9 16 (A9 15 x1) (iI 1)) λo=>oc (R.r R7 [(pt x0),(q2,.val),(x,.val),((X4 o),.val)] s22) λq25 s25=>ob (M9 1 q22 (iI 1)) λy=>og (M8 y)<|some ([y],s25)) (ob (M9 16 (A9 15 x1) (iI 0)) λz=>og (J3 q7)<|oc (R.r R8 [(pt x0),((iI 4),.val),((.agg [(A9 1 z),(A9 2 z),(iI 4),q7,(iI 9),(.str ⟨#[]⟩)]),.val)] s7) λq28 s28=>
 some ([(iI 0)],s28)))))):=H7 []
def mI(x0:Nat)(x1 x2 x3:DV)(x4:Nat)(sg:List E5):C9.r KW [(.undef,(.ptr x0 0)),(x1,.val),(x2,.val),(x3,.val),(.undef,(.ptr x4 0))] sg=XI C9 x0 x1 x2 x3 x4 sg:=Bb (s:=Nb) func86
def XK(R:O7)(x0:Nat)(x1 x2 x3:DV)(x4:Nat)(sg:List E5):Option (List DV×List E5):=eR f87 JD OZ R [] (I4 f87 [(pt x0),(x1,.val),(x2,.val),(x3,.val),(pt x4)] sg)
def Cs(R:O7)(t0i:Nat)(t2 t3:DV)(t4i:Nat)(b6 b11_0 b11_1 b11_2:DV)(sg:List E5):Option (List DV×List E5):=eR f87 JD OZ R (pb 15) (ms 84 [(2,t2),(3,t3)] [(0,(.ptr t0i 0)),(4,(.ptr t4i 0))] [(6,bx b6 16),(11,bv [b11_0,b11_1,b11_2])] sg)
def qG(R:O7)(x0:Nat)(x1 x2 x3:DV)(x4:Nat)(sg:List E5):XK R x0 x1 x2 x3 x4 sg =
 (og (I7 16 x1)<|og (J3 (A9 3 x1))<|ob (D7 .neq (A9 8 x1) (iI 0)) λx=>G9 x (oc (R.r O6 [(pt x0),((X4 x1),.val),((iI 0),.val),(x2,.val),(x3,.val),(pt x4)] sg) λq2 s2=>oc (R.r Gv [(pt x0),((.agg [(A9 8 x1),(A9 9 x1),(A9 10 x1)]),.val)] s2) λq3 s3=>og (J3 q3)<|ob (M9 16 (A9 15 x1) (iI 0)) λy=>oc (R.r R7 [(pt x0),(q2,.val),(q3,.val),((X4 y),.val)] s3) λq5 s5=>Cs R x0 x2 x3 x4 x1 (A9 3 x1) q3 (.list 1 []) s5) (ob (M9 16 (A9 15 x1) (iI 0)) λz=>ob (R.p Zq [(X4 z)]) λw=>G9 w (ob (D7 .add x2 (iI 1)) λu=>oc (R.r O6 [(pt x0),((X4 x1),.val),((iI 0),.val),(u,.val),(x3,.val),(pt x4)] sg) λq9 s9=>og (J3 q9)<|oc (R.r U3 [(pt x0)] s9) λq10 s10=>G9 q10 (oc (R.r Ig [(pt x0),(q9,.val),(x2,.val)] s10) λq11 s11=>
 og (J3 q11)<|ob (H5 s11 x4) λc12=>og (J3 q11)<|ob (c12[2]?) λu13=>Cs R x0 x2 x3 x4 x1 (A9 3 x1) q9 q11 (s11.set x4 (E5.box (c12.set 2 (q11,.val))))) (Cs R x0 x2 x3 x4 x1 (A9 3 x1) q9 (.list 1 []) s10)) (oc (R.r O6 [(pt x0),((X4 x1),.val),((iI 0),.val),(x2,.val),(x3,.val),(pt x4)] sg) λq14 s14=>og (J3 q14)<|Cs R x0 x2 x3 x4 x1 (A9 3 x1) q14 (.list 1 []) s14))):=H7 [12]
def gI(R:O7)(t0i:Nat)(t2 t3:DV)(t4i:Nat)(b6 b11_0 b11_1 b11_2:DV)(sg:List E5):Cs R t0i t2 t3 t4i b6 b11_0 b11_1 b11_2 sg =
 (oc (R.r Cz [(t3,.val),((.list 3 [(.agg [b11_0,b11_1,b11_2])]),.val)] sg) λq1 s1=>oc (R.r O6 [(pt t0i),((X4 b6),.val),((iI 1),.val),(t2,.val),(q1,.val),(pt t4i)] s1) λq2 s2=>some ([q2],s2)):=H7 [12]
def mK(x0:Nat)(x1 x2 x3:DV)(x4:Nat)(sg:List E5):C9.r KX [(.undef,(.ptr x0 0)),(x1,.val),(x2,.val),(x3,.val),(.undef,(.ptr x4 0))] sg=XK C9 x0 x1 x2 x3 x4 sg:=Bb (s:=JD) func87
def XM(R:O7)(x0:Nat)(x1 x2 x3:DV)(x4:Nat)(sg:List E5):Option (List DV×List E5):=eR f88 JE Oa R [] (I4 f88 [(pt x0),(x1,.val),(x2,.val),(x3,.val),(pt x4)] sg)
def Io(R:O7)(t0i:Nat)(t2 t3:DV)(t4i:Nat)(b6 b13_0 b13_1 b13_2:DV)(sg:List E5):Option (List DV×List E5):=eR f88 JE Oa R (pb 255) (ms 80 [(2,t2),(3,t3)] [(0,(.ptr t0i 0)),(4,(.ptr t4i 0))] [(6,bx b6 16),(13,bv [b13_0,b13_1,b13_2])] sg)
def qI(R:O7)(x0:Nat)(x1 x2 x3:DV)(x4:Nat)(sg:List E5):XM R x0 x1 x2 x3 x4 sg =
 (og (I7 16 x1)<|ob (D7 .add x2 (iI 1)) λx=>oc (R.r Ey [(pt x0),((.agg [(A9 8 x1),(A9 9 x1),(A9 10 x1)]),.val),(x,.val),(pt x4)] sg) λq2 s2=>ob (D7 .add x2 (iI 1)) λy=>oc (R.r Ey [(pt x0),((.agg [(A9 11 x1),(A9 12 x1),(A9 13 x1)]),.val),(y,.val),(pt x4)] s2) λq4 s4=>oc (R.r BK [(pt x0),((iI 9),.val),(q2,.val),(q4,.val)] s4) λq5 s5=>og (J3 (A9 3 x1))<|og (J3 q5)<|ob (D7 .add x2 (iI 1)) λz=>og (J3 (A9 4 x1))<|og (J3 q2)<|oc (R.r Cz [(x3,.val),((.list 3 [(.agg [(A9 3 x1),q5,(.list 1 [])]),(.agg [(A9 4 x1),q2,(.list 1 [])])]),.val)] s5) λq7 s7=>oc (R.r O6 [(pt x0),((X4 x1),.val),((iI 0),.val),(z,.val),(q7,.val),(pt x4)] s7) λq8 s8=>ob (M9 16 (A9 15 x1) (iI 0)) λw=>oc (R.r R7 [(pt x0),(q8,.val),(q4,.val),((X4 w),.val)] s8) λq10 s10=>
 oc (R.r U3 [(pt x0)] s10) λq11 s11=>G9 q11 (oc (R.r Ig [(pt x0),(q5,.val),(x2,.val)] s11) λq12 s12=>og (J3 q12)<|ob (H5 s12 x4) λc13=>og (J3 q12)<|ob (c13[2]?) λu14=>Io R x0 x2 x3 x4 x1 (A9 3 x1) q5 q12 (s12.set x4 (E5.box (c13.set 2 (q12,.val))))) (Io R x0 x2 x3 x4 x1 (A9 3 x1) q5 (.list 1 []) s11)):=H7 [9]
def jJ(R:O7)(t0i:Nat)(t2 t3:DV)(t4i:Nat)(b6 b13_0 b13_1 b13_2:DV)(sg:List E5):Io R t0i t2 t3 t4i b6 b13_0 b13_1 b13_2 sg =
 (oc (R.r Cz [(t3,.val),((.list 3 [(.agg [b13_0,b13_1,b13_2])]),.val)] sg) λq1 s1=>oc (R.r O6 [(pt t0i),((X4 b6),.val),((iI 1),.val),(t2,.val),(q1,.val),(pt t4i)] s1) λq2 s2=>some ([q2],s2)):=H7 [9]
def mO(x0:Nat)(x1 x2 x3:DV)(x4:Nat)(sg:List E5):C9.r KY [(.undef,(.ptr x0 0)),(x1,.val),(x2,.val),(x3,.val),(.undef,(.ptr x4 0))] sg=XM C9 x0 x1 x2 x3 x4 sg:=Bb (s:=JE) func88
end
end Go.Su

/-
 Equations of the program's functions: by program.
-/
namespace Go.Su
set_option linter.defProp false
set_option maxRecDepth 100000
noncomputable section
open Go.Proofs
open Tryz
variable (R: O7)(i j k l m n: Nat)(a b c d e f o p q r t u v w x y z: DV)(s: List E5)
def VV(R:O7)(x0:Nat)(x1 x2 x3:DV)(x4:Nat)(sg:List E5):Option (List DV×List E5):=eR f89 Mj Uc R [] (I4 f89 [(pt x0),(x1,.val),(x2,.val),(x3,.val),(pt x4)] sg)
def lS(R:O7)(x0:Nat)(x1 x2 x3:DV)(x4:Nat)(sg:List E5):VV R x0 x1 x2 x3 x4 sg =
 (og (I7 16 x1)<|oc (R.r O6 [(pt x0),((X4 x1),.val),((iI 0),.val),(x2,.val),(x3,.val),(pt x4)] sg) λq1 s1=>ob (M9 16 (A9 15 x1) (iI 0)) λx=>oc (R.r R7 [(pt x0),(q1,.val),((iI 1),.val),((X4 x),.val)] s1) λq3 s3=>oc (R.r O6 [(pt x0),((X4 x1),.val),((iI 1),.val),(x2,.val),(x3,.val),(pt x4)] s3) λq4 s4=>oc (R.r O6 [(pt x0),((X4 x1),.val),((iI 2),.val),(x2,.val),(x3,.val),(pt x4)] s4) λq5 s5=>oc (R.r Z7 [(pt x0),(x2,.val)] s5) λq6 s6=>og (J3 q6)<|ob (H5 s6 x4) λc7=>ob (c7[1]?) λu8=>ob (M9 16 (A9 15 x1) (iI 1)) λy=>oc (R.r R7 [(pt x0),(q4,.val),(q6,.val),((X4 y),.val)] (s6.set x4 (E5.box (c7.set 1 ((.list 1 [q6]),.full))))) λq10 s10=>ob (M9 16 (A9 15 x1) (iI 2)) λz=>oc (R.r R7 [(pt x0),(q5,.val),(q6,.val),((X4 z),.val)] s10) λq12 s12=>
 some ([q6],s12)):=H7 []
def jX(x0:Nat)(x1 x2 x3:DV)(x4:Nat)(sg:List E5):C9.r Jq [(.undef,(.ptr x0 0)),(x1,.val),(x2,.val),(x3,.val),(.undef,(.ptr x4 0))] sg=VV C9 x0 x1 x2 x3 x4 sg:=Bb (s:=Mj) func89
def UA(R:O7)(x0:Nat)(x1 x2 x3:DV)(x4:Nat)(sg:List E5):Option (List DV×List E5):=eR f90 EH II R [] (I4 f90 [(pt x0),(x1,.val),(x2,.val),(x3,.val),(pt x4)] sg)
def De(R:O7)(t0i:Nat)(t2 t3:DV)(t4i:Nat)(t12 t13 t51 t52 t53 b6:DV)(sg:List E5):Option (List DV×List E5):=hR f90 EH II R (pb 1018) (ms 117 [(2,t2),(3,t3),(12,t12),(13,t13),(51,t51),(52,t52),(53,t53)] [(0,(.ptr t0i 0)),(4,(.ptr t4i 0))] [(6,bx b6 16)] sg)
def Bz(R:O7)(t0i:Nat)(t2 t3:DV)(t4i:Nat)(t12 t13 t14 t17 t20 t51 t52 t53 t80 t81 t82 b6:DV)(sg:List E5):Option (List DV×List E5):=hR f90 EH II R (pb 8342778) (ms 117 [(2,t2),(3,t3),(12,t12),(13,t13),(14,t14),(17,t17),(20,t20),(51,t51),(52,t52),(53,t53),(80,t80),(81,t81),(82,t82)] [(0,(.ptr t0i 0)),(4,(.ptr t4i 0)),(20,.own)] [(6,bx b6 16)] sg)
def jG(R:O7)(x0:Nat)(x1 x2 x3:DV)(x4:Nat)(sg:List E5):UA R x0 x1 x2 x3 x4 sg =
 (og (I7 16 x1)<|oc (R.r O6 [(pt x0),((X4 x1),.val),((iI 0),.val),(x2,.val),(x3,.val),(pt x4)] sg) λq1 s1=>oc (R.r Z7 [(pt x0),(x2,.val)] s1) λq2 s2=>ob (M9 16 (A9 15 x1) (iI 0)) λx=>oc (R.r R7 [(pt x0),(q1,.val),(q2,.val),((X4 x),.val)] s2) λq4 s4=>oc (R.r Z7 [(pt x0),(x2,.val)] s4) λq5 s5=>og (J3 q2)<|og (J3 q5)<|ob (H5 s5 x4) λc6=>ob (c6[1]?) λu7=>ob (O3 (A9 14 x1)) λy=>De R x0 x2 x3 x4 q2 q5 (A9 14 x1) y (iI 0) x1 (s5.set x4 (E5.box (c6.set 1 ((.list 1 [q2,q5]),.full))))):=H7 []
def Pm(R:O7)(t0i:Nat)(t2 t3:DV)(t4i:Nat)(t12 t13 t51 t52 t53 b6:DV)(sg:List E5):De R t0i t2 t3 t4i t12 t13 t51 t52 t53 b6 sg =
 (ob (D7 .lss t53 t52) λz=>G9 z (ob (M9 7 t51 t53) λw=>oc (R.r U3 [(pt t0i)] sg) λq3 s3=>ob (j5 .not q3) λu=>G9 u (some ([(iI 0)],s3)) (ob (H5 s3 t0i) λc5=>ob (X7 c5 0) λi6=>ob (R.r fQ [(pt i6),((TD w),.val),(t12,.val),(t2,.val)] s3) λq7=>ob (Q3 0 (.J9 q7.1)) λy=>ob (Q3 1 (.J9 q7.1)) λv=>ob (Q3 2 (.J9 q7.1)) λx=>ob (Q3 3 (.J9 q7.1)) λt=>og (I7 6 x)<|oc (R.r R8 [(pt t0i),(t,.val),((.agg [(A9 0 x),(A9 1 x),(A9 2 x),(A9 3 x),(A9 4 x),(A9 5 x)]),.val)] q7.2) λq12 s12=>oc (R.r Cz [(t3,.val),((.list 3 []),.val)] s12) λq13 s13=>ob (O3 y) λs=>Bz R t0i t2 t3 t4i t12 t13 t53 v q13 t51 t52 t53 y s (iI 0) b6 s13)) (some ([t13],sg))):=L8 []
def Iq(R:O7)(t0i:Nat)(t2 t3:DV)(t4i:Nat)(t12 t13 t14 t17 t20 t51 t52 t53 t80 t81 t82 b6:DV)(sg:List E5):Bz R t0i t2 t3 t4i t12 t13 t14 t17 t20 t51 t52 t53 t80 t81 t82 b6 sg =
 (ob (D7 .lss t82 t81) λz=>G9 z (ob (M9 1 t80 t82) λx=>og (M8 x)<|ob (M9 1 t17 t82) λy=>og (M8 y)<|og (J3 x)<|og (J3 y)<|ob (EP 3 t20 (.list 3 [(.agg [x,y,(.list 1 [])])])) λw=>ob (D7 .add t82 (iI 1)) λu=>Bz R t0i t2 t3 t4i t12 t13 t14 t17 w t51 t52 t53 t80 t81 u b6 sg) (ob (D7 .add t14 (iI 1)) λv=>oc (R.r O6 [(pt t0i),((X4 b6),.val),(v,.val),(t2,.val),(t20,.val),(pt t4i)] sg) λq7 s7=>ob (D7 .add t14 (iI 1)) λt=>ob (M9 16 (A9 15 b6) t) λs=>oc (R.r R7 [(pt t0i),(q7,.val),(t13,.val),((X4 s),.val)] s7) λq10 s10=>ob (D7 .add t53 (iI 1)) λq=>De R t0i t2 t3 t4i t12 t13 t51 t52 q b6 s10)):=L8 []
def gU(x0:Nat)(x1 x2 x3:DV)(x4:Nat)(sg:List E5):C9.r Ih [(.undef,(.ptr x0 0)),(x1,.val),(x2,.val),(x3,.val),(.undef,(.ptr x4 0))] sg=UA C9 x0 x1 x2 x3 x4 sg:=Bb (s:=EH) func90
def XL:=eR f91 Nf Vl R [] (I4 f91 [(pt i),(a,.val)] s)
def qH:XL R i a s =
 (og (I7 3 a)<|oc (R.r U3 [(pt i)] s) λq1 s1=>ob (j5 .not q1) λx=>G9 x (some ([(iI 0)],s1)) (ob (H5 s1 i) λc3=>ob (X7 c3 0) λi4=>ob (R.r RS [(pt i4),((Cv a),.val)] s1) λq5=>ob (Q3 0 (.J9 q5.1)) λy=>ob (Q3 1 (.J9 q5.1)) λz=>oc (R.r R8 [(pt i),(z,.val),((.agg (uf (LP []))),.val)] q5.2) λq8 s8=>some ([y],s8))):=H7 []
def mM:C9.r Gv [(.undef,(.ptr i 0)),(a,.val)] s=XL C9 i a s:=Bb (s:=Nf) func91
def Tx:=eR f92 Ld TK R [] (I4 f92 [(pt i),(a,.val),(b,.val),(c,.val)] s)
def jD:Tx R i a b c s =
 (og (I7 16 c)<|oc (R.r U3 [(pt i)] s) λq1 s1=>G9 q1 (ob (H5 s1 i) λc2=>ob (X7 c2 0) λi3=>ob (R.r SE [(pt i3),(a,.val),(b,.val)] s1) λq4=>ob (Q3 0 (.J9 q4.1)) λy=>ob (Q3 1 (.J9 q4.1)) λz=>ob (Q3 2 (.J9 q4.1)) λx=>og (J3 x)<|og (J3 y)<|og (J3 z)<|oc (R.r R8 [(pt i),(x,.val),((.agg [(A9 1 c),(A9 2 c),x,y,z,(.str ⟨#[]⟩)]),.val)] q4.2) λq8 s8=>some ([],s8)) (some ([],s1))):=H7 []
def gP:C9.r R7 [(.undef,(.ptr i 0)),(a,.val),(b,.val),(c,.val)] s=Tx C9 i a b c s:=Bb (s:=Ld) func92
def YW(R:O7)(x0:Nat)(x1 x2 x3:DV)(x4:Nat)(sg:List E5):Option (List DV×List E5):=eR f93 Fz Kv R [] (I4 f93 [(pt x0),(x1,.val),(x2,.val),(x3,.val),(pt x4)] sg)
def Fx(R:O7)(t0i:Nat)(t2 t3:DV)(t4i:Nat)(t11 t12 b6:DV)(sg:List E5):Option (List DV×List E5):=eR f93 Fz Kv R (pb 15) (ms 43 [(2,t2),(3,t3),(11,t11),(12,t12)] [(0,(.ptr t0i 0)),(4,(.ptr t4i 0))] [(6,bx b6 16)] sg)
def Im(R:O7)(t0i:Nat)(t2 t3:DV)(t4i:Nat)(t11 t12 t23 t24 t25 b6:DV)(sg:List E5):Option (List DV×List E5):=hR f93 Fz Kv R (pb 122) (ms 43 [(2,t2),(3,t3),(11,t11),(12,t12),(23,t23),(24,t24),(25,t25)] [(0,(.ptr t0i 0)),(4,(.ptr t4i 0))] [(6,bx b6 16)] sg)
def rX(R:O7)(x0:Nat)(x1 x2 x3:DV)(x4:Nat)(sg:List E5):YW R x0 x1 x2 x3 x4 sg =
 (og (I7 16 x1)<|ob (D7 .eql (A9 7 x1) (iI 5)) λx=>G9 x (Fx R x0 x2 x3 x4 (iI 0) (iI 1) x1 sg) (ob (D7 .eql (A9 7 x1) (iI 6)) λy=>G9 y (Fx R x0 x2 x3 x4 (iI 0) (iI 1) x1 sg) (ob (D7 .eql (A9 7 x1) (iI 7)) λz=>G9 z (Fx R x0 x2 x3 x4 (iI 2) (iI 1) x1 sg) (Fx R x0 x2 x3 x4 (iI 0) (iI 0) x1 sg)))):=H7 [8]
def lX(R:O7)(t0i:Nat)(t2 t3:DV)(t4i:Nat)(t11 t12 b6:DV)(sg:List E5):Fx R t0i t2 t3 t4i t11 t12 b6 sg =
 (ob (O3 (A9 15 b6)) λx=>Im R t0i t2 t3 t4i t11 t12 (A9 15 b6) x (iI 0) b6 sg):=H7 [8]
def TH(R:O7)(t0i:Nat)(t2 t3:DV)(t4i:Nat)(t11 t12 t23 t24 t25 b6:DV)(sg:List E5):Im R t0i t2 t3 t4i t11 t12 t23 t24 t25 b6 sg =
 (ob (D7 .lss t25 t24) λx=>G9 x (ob (M9 16 t23 t25) λy=>oc (R.r O6 [(pt t0i),((X4 b6),.val),(t25,.val),(t2,.val),(t3,.val),(pt t4i)] sg) λq3 s3=>oc (R.r R7 [(pt t0i),(q3,.val),(t11,.val),((X4 y),.val)] s3) λq4 s4=>ob (D7 .add t25 (iI 1)) λz=>Im R t0i t2 t3 t4i t11 t12 t23 t24 z b6 s4) (some ([t12],sg))):=L8 [8]
def qY(x0:Nat)(x1 x2 x3:DV)(x4:Nat)(sg:List E5):C9.r Lm [(.undef,(.ptr x0 0)),(x1,.val),(x2,.val),(x3,.val),(.undef,(.ptr x4 0))] sg=YW C9 x0 x1 x2 x3 x4 sg:=Bb (s:=Fz) func93
def XR:=eR f94 Nk Vp R [] (I4 f94 [(pt i),(a,.val)] s)
def qQ:XR R i a s =
 (oc (R.r Y3 [(pt i),(a,.val)] s) λq1 s1=>ob (j5 .not q1) λz=>G9 z (some ([(.agg (KG [])),(iI 1)],s1)) (ob (H5 s1 i) λc3=>ob (U7 c3 1) λw=>ob (H5 s1 i) λc5=>ob (U7 c5 2) λu=>ob (D7 .sub w u) λx=>og (J3 x)<|oc (R.r Ik [(.undef,(.ptr (((s1++[E5.map false []])++[E5.map false []])).length 0)),(a,.val)] (((s1++[E5.map false []])++[E5.map false []])++[E5.box [(pt i),(x,.val),(.undef,(F4.map s1.length)),(.undef,(F4.map ((s1++[E5.map false []])).length))]])) λq8 s8=>ob (H5 s8 (((s1++[E5.map false []])++[E5.map false []])).length) λc9=>ob (U7 c9 1) λv=>ob (D7 .gtr q8 v) λt=>G9 t (some ([(.agg (KG [])),(iI 7)],s8)) (ob (H5 s8 i) λc12=>ob (U7 c12 2) λq=>ob (D7 .add q q8) λy=>ob (H5 s8 i) λc15=>og (J3 y)<|ob (c15[2]?) λu16=>oc (R.r Fw [(.undef,(.ptr (((s1++[E5.map false []])++[E5.map false []])).length 0)),(a,.val)] (s8.set i (E5.box (c15.set 2 (y,.val))))) λq17 s17=>
 og (I7 3 q17)<|some ([(.agg [(A9 0 q17),(A9 1 q17),(A9 2 q17)]),(iI 0)],s17)))):=H7 []
def mW:C9.r Gw [(.undef,(.ptr i 0)),(a,.val)] s=XR C9 i a s:=Bb (s:=Nk) func94
def Tz:=eR f95 Le TL R [] (I4 f95 [(pt i),(a,.val),(b,.val)] s)
def jE:Tz R i a b s =
 (og (I7 6 b)<|oc (R.r U3 [(pt i)] s) λq1 s1=>M7 q1 (ob (D7 .neq a (iI 0)) λx=>G9 x (ob (H5 s1 i) λc3=>og (J3 a)<|ob (c3[7]?) λu4=>ob (D7 .neq a (iI 7)) λy=>G9 y (ob (H5 (s1.set i (E5.box (c3.set 7 (a,.val)))) i) λc6=>if 1+6<=c6.length then(some ([],((s1.set i (E5.box (c3.set 7 (a,.val)))).set i (E5.box (Et c6 1 [((A9 0 b),.val),((A9 1 b),.val),((A9 2 b),.val),((A9 3 b),.val),((A9 4 b),.val),((A9 5 b),.val)])))))else none) (some ([],(s1.set i (E5.box (c3.set 7 (a,.val))))))) (some ([],s1))) (some ([],s1)) none):=H7 []
def gQ:C9.r R8 [(.undef,(.ptr i 0)),(a,.val),(b,.val)] s=Tz C9 i a b s:=Bb (s:=Le) func95
def zX(R:O7)(x0:DV)(x1:Nat)(x2:DV)(sg:List E5):Option (List DV×List E5):=eR f96 QQ XA R [] (I4 f96 [(x0,.val),(.undef,(F4.map x1)),(x2,.own)] sg)
def Pd:=eR f96 QQ XA R (pb 7) (ms 40 [(2,a)] [(1,(F4.map i)),(2,.own)] [(3,bx b 3)] s)
def SS:=hR f96 QQ XA R (pb 58) (ms 40 [(2,a),(28,b),(29,c),(30,d)] [(1,(F4.map i)),(2,.own)] [] s)
def gL(R:O7)(x0:DV)(x1:Nat)(x2:DV)(sg:List E5):zX R x0 x1 x2 sg =
 (og (I7 3 x0)<|ob (D7 .eql (A9 0 x0) (iI 6)) λx=>G9 x (og (AB false (A9 1 x0)&&true)<|ob (S9 sg x1) λm2=>og (m2.1==false)<|ob (D7 .eql ((Y1 m2.2 (A9 1 x0)).getD (iI 0)) (iI 0)) λy=>G9 y (og (J3 (A9 1 x0))<|ob (EP 1 x2 (.list 1 [(A9 1 x0)])) λz=>og (AB false (A9 1 x0)&&true)<|ob (S9 sg x1) λm5=>og (m5.1==false)<|ob (D7 .add ((Y1 m5.2 (A9 1 x0)).getD (iI 0)) (iI 1)) λw=>og (AB false (A9 1 x0)&&true&&true)<|ob (S9 sg x1) λm7=>og (m7.1==false)<|Pd R x1 z x0 (sg.set x1 (E5.map false (Bt m7.2 (A9 1 x0) w)))) (og (AB false (A9 1 x0)&&true)<|ob (S9 sg x1) λm8=>og (m8.1==false)<|ob (D7 .add ((Y1 m8.2 (A9 1 x0)).getD (iI 0)) (iI 1)) λu=>og (AB false (A9 1 x0)&&true&&true)<|ob (S9 sg x1) λm10=>og (m10.1==false)<|Pd R x1 x2 x0 (sg.set x1 (E5.map false (Bt m10.2 (A9 1 x0) u))))) (Pd R x1 x2 x0 sg)):=H7 [5]
def A3J:Pd R i a b s =
 (ob (O3 (A9 2 b)) λx=>SS R i a (A9 2 b) x (iI 0) s):=H7 [5]
def jU:SS R i a b c d s =
 (ob (D7 .lss d c) λx=>G9 x (ob (M9 3 b d) λy=>oc (R.r Y_ [((Cv y),.val),(.undef,(F4.map i)),(a,.own)] s) λq3 s3=>ob (D7 .add d (iI 1)) λz=>SS R i q3 b c z s3) (some ([a],s))):=L8 [5]
def aQ(x0:DV)(x1:Nat)(x2:DV)(sg:List E5):C9.r Y_ [(x0,.val),(.undef,(F4.map x1)),(x2,.own)] sg=zX C9 x0 x1 x2 sg:=Bb (s:=QQ) func96
def zS:=eP f116 gu R [] (I4 f116 [(a,.val),(b,.val)] [])
def SK:=hP f116 gu R (pb 58) (ms 46 [(5,a)] [] [(2,bx b 3),(3,bx c 3)] [])
def A7u:zS R a b =
 (og (I7 3 a)<|og (I7 3 b)<|ob (D7 .neq (A9 0 a) (A9 0 b)) λx=>M7 x sF (ob (D7 .neq (A9 1 a) (A9 1 b)) λy=>M7 y sF (ob (O3 (A9 2 a)) λz=>ob (O3 (A9 2 b)) λw=>ob (D7 .neq z w) λu=>G9 u sF (SK R (iI 0) a b)) none) none):=H7 []
def jM:SK R a b c =
 (ob (O3 (A9 2 b)) λx=>ob (D7 .lss a x) λy=>G9 y (ob (M9 3 (A9 2 b) a) λz=>ob (M9 3 (A9 2 c) a) λw=>ob (R.p Tg [(Cv z),(Cv w)]) λu=>ob (j5 .not u) λv=>G9 v sF (ob (D7 .add a (iI 1)) λt=>SK R t b c)) sT):=L8 []
def A5k:C9.p Tg [a,b]=zS C9 a b:=CG func116
def qx:=eP f118 YI R [] (I4 f118 [(a,.val)] [])
def UG:=eP f118 YI R (pb 503806) (ms 85 [] [] [(1,bx a 16),(2,bv ((iI 0)::(LP (bz [])))),(4,bv (b::(LP (bz []))))] [])
def A3z:qx R a =
 (og (I7 16 a)<|og (J3 (A9 0 a))<|ob (D7 .eql (A9 0 a) (iI 1)) λx=>G9 x (og (J3 (A9 3 a))<|some (.J9 [(.agg ((A9 0 a)::(iI 0)::(iI 0)::(A9 3 a)::(bz []))),(iI 0)])) (ob (D7 .eql (A9 0 a) (iI 2)) λy=>G9 y (og (J3 (A9 5 a))<|some (.J9 [(.agg ((A9 0 a)::(LP ((.str ⟨#[]⟩)::(A9 5 a)::(.str ⟨#[]⟩)::(iI 0)::(KG (KG [(.list 7 []),(.list 16 [])])))))),(iI 0)])) (ob (D7 .eql (A9 0 a) (iI 3)) λz=>G9 z (og (J3 (A9 5 a))<|some (.J9 [(.agg ((A9 0 a)::(LP ((.str ⟨#[]⟩)::(A9 5 a)::(.str ⟨#[]⟩)::(iI 0)::(KG (KG [(.list 7 []),(.list 16 [])])))))),(iI 0)])) (ob (D7 .eql (A9 0 a) (iI 4)) λw=>G9 w (og (J3 (A9 6 a))<|some (.J9 [(.agg ((A9 0 a)::(LP ((.str ⟨#[]⟩)::(iI 0)::(A9 6 a)::(iI 0)::(KG (KG [(.list 7 []),(.list 16 [])])))))),(iI 0)])) (ob (D7 .eql (A9 0 a) (iI 5)) λu=>
 G9 u (some (.J9 [(.agg ((A9 0 a)::(LP (bz [])))),(iI 0)])) (ob (D7 .eql (A9 0 a) (iI 7)) λv=>G9 v (some (.J9 [(.agg ((A9 0 a)::(LP (bz [])))),(iI 0)])) (ob (D7 .eql (A9 0 a) (iI 6)) λt=>G9 t (some (.J9 [(.agg ((A9 0 a)::(LP (bz [])))),(iI 2)])) (ob (D7 .eql (A9 0 a) (iI 8)) λs=>G9 s (some (.J9 [(.agg ((A9 0 a)::(LP (bz [])))),(iI 2)])) (ob (D7 .eql (A9 0 a) (iI 10)) λr=>
 G9 r (some (.J9 [(.agg ((A9 0 a)::(LP (bz [])))),(iI 2)])) (ob (D7 .eql (A9 0 a) (iI 9)) λq=>G9 q (UG R a (A9 0 a)) (ob (D7 .eql (A9 0 a) (iI 11)) λp=>G9 p (UG R a (A9 0 a)) (ob (D7 .eql (A9 0 a) (iI 12)) λo=>G9 o (og (J3 (A9 3 a))<|og (J3 (A9 4 a))<|some (.J9 [(.agg [(A9 0 a),(iI 0),(iI 0),(A9 3 a),(A9 4 a),(iI 0),(.str ⟨#[]⟩),(iI 0),(A9 8 a),(A9 9 a),(A9 10 a),(A9 11 a),(A9 12 a),(A9 13 a),(.list 7 []),(.list 16 [])]),(iI 2)])) (ob (D7 .eql (A9 0 a) (iI 13)) λn=>G9 n (some (.J9 [(.agg ((A9 0 a)::(LP (bz [])))),(iI 3)])) (ob (D7 .eql (A9 0 a) (iI 14)) λm=>
 G9 m (ob (O3 (A9 14 a)) λl=>ob (D7 .add (iI 1) l) λk=>og (J3 (A9 14 a))<|some (.J9 [(.agg ((A9 0 a)::(LP (zz5 ((iI 0)::(KG (KG [(A9 14 a),(.list 16 [])]))))))),k])) (ob (D7 .eql (A9 0 a) (iI 15)) λj=>G9 j (some (.J9 [(.agg ((A9 0 a)::(LP (zz5 ((iI 0)::(A9 8 a)::(A9 9 a)::(A9 10 a)::(KG [(.list 7 []),(.list 16 [])])))))),(iI 1)])) (ob (D7 .eql (A9 0 a) (iI 16)) λi=>G9 i (og (J3 (A9 7 a))<|some (.J9 [(.agg ((A9 0 a)::(LP (zz5 ((A9 7 a)::(KG (KG [(.list 7 []),(.list 16 [])]))))))),(iI 2)])) (some (.J9 [(.agg ((A9 0 a)::(LP (bz [])))),(.int .i64 (-1))])))))))))))))))))):=H7 [20]
def aK:UG R a b =
 (og (J3 (A9 3 a))<|ob (D7 .sub (A9 0 a) (iI 9)) λx=>ob (D7 .quo x (iI 2)) λy=>ob (D7 .add (iI 1) y) λz=>some (.J9 [(.agg (b::(iI 0)::(iI 0)::(A9 3 a)::(zz5 ((iI 0)::(A9 8 a)::(A9 9 a)::(A9 10 a)::(KG [(.list 7 []),(.list 16 [])]))))),z])):=H7 [20]
def A1A:C9.p Zp [a]=qx C9 a:=CG func118
def zU:=eP f119 wy R [] (I4 f119 [(a,.val),(b,.val)] [])
def A7w:zU R a b =
 (og (I7 3 a)<|ob (R.p k_ [(Cv a)]) λx=>G9 x (some b) (ob (R.p Wu [(Cv a)]) λy=>M7 y (ob (R.p SC [(Cv a),(iI 6)]) λz=>some z) sF none)):=H7 []
def A5m:C9.p Yy [a,b]=zU C9 a b:=CG func119
def zO:=eP f120 gq R [] (I4 f120 [(a,.val)] [])
def SI:=hP f120 gq R (pb 58) (ms 32 [(0,a),(3,b)] [] [] [])
def A7q:zO R a =
 (ob (Er a) λx=>ob (D7 .lss x (iI 1)) λy=>M7 y sF (ob (Er a) λz=>ob (D7 .gtr z (iI 32)) λw=>M7 w sF (ob (IC a (iI 0)) λu=>ob (R.p Rb [u]) λv=>ob (j5 .not v) λt=>G9 t sF (SI R a (iI 0))) none) none):=H7 []
def jL:SI R a b =
 (ob (Er a) λx=>ob (D7 .lss b x) λy=>G9 y (ob (IC a b) λz=>ob (R.p ku [z]) λw=>ob (j5 .not w) λu=>G9 u sF (ob (D7 .add b (iI 1)) λv=>SI R a v)) (ob (R.p qm [a]) λt=>ob (j5 .not t) λs=>some s)):=L8 []
def A5g:C9.p KZ [a]=zO C9 a:=CG func120
def A2n:=eP f121 ZI R [] (I4 f121 [(a,.val)] [])
def DF:=eP f121 ZI R (pb 31) (ms 92 [(3,a)] [] [(1,bx b 7),(4,bv [c,(iI 0),(iI 0),d,e,f,(.list 7 [])])] [])
def Ns:=hP f121 ZI R (pb 506) (ms 92 [(3,a),(5,b)] [] [(1,bx c 7)] [])
def A9u:A2n R a =
 (og (I7 7 a)<|og (J3 (A9 0 a))<|ob (D7 .eql (A9 0 a) (iI 1)) λx=>G9 x (DF R (iI 0) a (A9 0 a) (.str ⟨#[]⟩) (iI 0) (.str ⟨#[]⟩)) (ob (D7 .eql (A9 0 a) (iI 6)) λy=>G9 y (DF R (iI 0) a (A9 0 a) (.str ⟨#[]⟩) (iI 0) (.str ⟨#[]⟩)) (ob (D7 .eql (A9 0 a) (iI 8)) λz=>G9 z (DF R (iI 0) a (A9 0 a) (.str ⟨#[]⟩) (iI 0) (.str ⟨#[]⟩)) (ob (D7 .eql (A9 0 a) (iI 2)) λw=>G9 w (og (J3 (A9 3 a))<|ob (R.p KZ [(A9 3 a)]) λu=>ob (j5 .not u) λv=>G9 v sF (DF R (iI 0) a (A9 0 a) (A9 3 a) (iI 0) (.str ⟨#[]⟩))) (ob (D7 .eql (A9 0 a) (iI 3)) λt=>G9 t (og (J3 (A9 4 a))<|DF R (iI 0) a (A9 0 a) (.str ⟨#[]⟩) (A9 4 a) (.str ⟨#[]⟩)) (ob (D7 .eql (A9 0 a) (iI 4)) λs=>G9 s (og (J3 (A9 4 a))<|ob (D7 .lss (A9 4 a) (iI 0)) λr=>M7 r sF (ob (D7 .gtr (A9 4 a) (iI 1)) λq=>G9 q sF (DF R (iI 0) a (A9 0 a) (.str ⟨#[]⟩) (A9 4 a) (.str ⟨#[]⟩))) none) (ob (D7 .eql (A9 0 a) (iI 5)) λo=>
 G9 o (og (J3 (A9 5 a))<|ob (Er (A9 5 a)) λn=>ob (D7 .gtr n (iI 200)) λm=>G9 m sF (DF R (iI 0) a (A9 0 a) (.str ⟨#[]⟩) (iI 0) (A9 5 a))) (ob (D7 .eql (A9 0 a) (iI 7)) λl=>G9 l (DF R (iI 2) a (A9 0 a) (.str ⟨#[]⟩) (iI 0) (.str ⟨#[]⟩)) (ob (D7 .eql (A9 0 a) (iI 9)) λk=>G9 k (DF R (iI 2) a (A9 0 a) (.str ⟨#[]⟩) (iI 0) (.str ⟨#[]⟩)) sF))))))))):=H7 [25]
def A3A:DF R a b c d e f =
 (ob (O3 (A9 6 b)) λx=>ob (D7 .neq x a) λy=>M7 y sF (ob (D7 .neq (A9 3 b) d) λz=>M7 z sF (ob (D7 .neq (A9 4 b) e) λw=>M7 w sF (ob (D7 .neq (A9 5 b) f) λu=>G9 u sF (Ns R a (iI 0) b)) none) none) none):=H7 [25]
def jO:Ns R a b c =
 (ob (D7 .lss b a) λx=>G9 x (ob (M9 7 (A9 6 c) b) λy=>ob (R.p cz [(TD y)]) λz=>ob (j5 .not z) λw=>G9 w sF (ob (D7 .add b (iI 1)) λu=>Ns R a u c)) sT):=L8 [25]
def A7E:C9.p cz [a]=A2n C9 a:=CG func121
def wI:=eP f122 sV R [] (I4 f122 [(a,.val)] [])
def A40:wI R a =
 (og (I7 7 a)<|oc (R.r Ww [((TD a),.val),((.list 1 []),.own)] []) λq1 s1=>some q1):=H7 []
def A3U:C9.p fV [a]=wI C9 a:=CG func122
def wP:=eP f125 ae R [] (I4 f125 [(a,.val)] [])
def MG:=hP f125 ae R (pb 250) (ms 43 [(33,a),(34,b),(35,c)] [] [] [])
def A49:wP R a =
 (og (I7 3 a)<|ob (R.p fe [(A9 0 a)]) λx=>ob (D7 .lss x (iI 0)) λy=>M7 y sF (ob (O3 (A9 2 a)) λz=>ob (D7 .neq z x) λw=>G9 w sF (ob (D7 .eql (A9 0 a) (iI 6)) λu=>G9 u (ob (D7 .geq (A9 1 a) (iI 0)) λv=>M7 v (ob (D7 .leq (A9 1 a) (iI 1048576)) λt=>some t) sF none) (ob (D7 .neq (A9 1 a) (iI 0)) λs=>G9 s sF (ob (O3 (A9 2 a)) λr=>MG R (A9 2 a) r (iI 0))))) none):=H7 []
def dY:MG R a b c =
 (ob (D7 .lss c b) λx=>G9 x (ob (M9 3 a c) λy=>ob (R.p Wy [(Cv y)]) λz=>ob (j5 .not z) λw=>G9 w sF (ob (D7 .add c (iI 1)) λu=>MG R a b u)) sT):=L8 []
def A31:C9.p Wy [a]=wP C9 a:=CG func125
def dB:=eP f126 Sq R [] (I4 f126 [(a,.val),(b,.val)] [])
def Kg:=hP f126 Sq R (pb 26) (ms 26 [(1,a),(5,b)] [] [(2,bx c 3)] [])
def aJ:dB R a b =
 (og (I7 3 a)<|Kg R b (iI 0) a):=H7 []
def OY:Kg R a b c =
 (ob (O3 (A9 2 c)) λx=>ob (D7 .lss b x) λy=>M7 y (ob (D7 .leq a (iI 400)) λz=>G9 z (ob (M9 3 (A9 2 c) b) λw=>ob (D7 .add a (iI 1)) λu=>ob (R.p Hu [(Cv w),u]) λv=>ob (D7 .add b (iI 1)) λt=>Kg R v t c) (some a)) (some a) none):=L8 []
def Yk:C9.p Hu [a,b]=dB C9 a b:=CG func126
def iP:=eP f127 Ug R [] (I4 f127 [(a,.val),(b,.val)] [])
def Lt:=hP f127 Ug R (pb 58) (ms 36 [(1,a),(5,b)] [] [(2,bx c 7)] [])
def UR:iP R a b =
 (og (I7 7 a)<|ob (Er (A9 5 a)) λx=>ob (D7 .gtr x (iI 300)) λy=>M7 y (some (iI 401)) (ob (Er (A9 3 a)) λz=>ob (D7 .gtr z (iI 300)) λw=>G9 w (some (iI 401)) (Lt R b (iI 0) a)) none):=H7 []
def Xg:Lt R a b c =
 (ob (O3 (A9 6 c)) λx=>ob (D7 .lss b x) λy=>M7 y (ob (D7 .leq a (iI 400)) λz=>G9 z (ob (M9 7 (A9 6 c) b) λw=>ob (D7 .add a (iI 1)) λu=>ob (R.p QU [(TD w),u]) λv=>ob (D7 .add b (iI 1)) λt=>Lt R v t c) (some a)) (some a) none):=L8 []
def Sn:C9.p QU [a,b]=iP C9 a b:=CG func127
end
end Go.Su

/-
 Equations of the program's functions: by program.
-/
namespace Go.Su
set_option linter.defProp false
set_option maxRecDepth 100000
noncomputable section
open Go.Proofs
open Tryz
variable (R: O7)(i j k l m n: Nat)(a b c d e f g h o p q r t u v w x y z I P a4 a6 a7 a11 a12: DV)(s: List E5)
def WA:=eP f130 dw R [] (I4 f130 [(a,.val)] [])
def A0h:WA R a =
 (og (I7 16 a)<|ob (D7 .eql (A9 0 a) (iI 1)) λy=>G9 y (some (.J9 [(.agg ((.bool true)::(PT [(.bool false),(.bool false),(.bool false),(iI 0)]))),(.bool true)])) (ob (D7 .eql (A9 0 a) (iI 2)) λz=>G9 z (some (.J9 [(.agg ((.bool false)::(.bool false)::(.bool true)::(PT [(.bool false),(iI 0)]))),(.bool true)])) (ob (D7 .eql (A9 0 a) (iI 3)) λw=>G9 w (some (.J9 [(.agg ((.bool false)::(.bool false)::(.bool true)::(PT [(.bool false),(iI 0)]))),(.bool true)])) (ob (D7 .eql (A9 0 a) (iI 4)) λu=>G9 u (some (.J9 [(.agg ((.bool false)::(.bool false)::(.bool false)::(.bool true)::(PT [(iI 0)]))),(.bool true)])) (ob (D7 .eql (A9 0 a) (iI 5)) λv=>G9 v (some (.J9 [(.agg (PT (PT [(iI 0)]))),(.bool true)])) (ob (D7 .eql (A9 0 a) (iI 7)) λt=>
 G9 t (some (.J9 [(.agg (PT (PT [(iI 0)]))),(.bool true)])) (ob (D7 .eql (A9 0 a) (iI 6)) λs=>G9 s (some (.J9 [(.agg (PT (PT [(iI 2)]))),(.bool true)])) (ob (D7 .eql (A9 0 a) (iI 8)) λr=>G9 r (some (.J9 [(.agg (PT (PT [(iI 2)]))),(.bool true)])) (ob (D7 .eql (A9 0 a) (iI 10)) λq=>G9 q (some (.J9 [(.agg (PT (PT [(iI 2)]))),(.bool true)])) (ob (D7 .eql (A9 0 a) (iI 9)) λp=>G9 p (some (.J9 [(.agg ((.bool true)::(PT [(.bool true),(.bool false),(.bool false),(iI 1)]))),(.bool true)])) (ob (D7 .eql (A9 0 a) (iI 11)) λo=>G9 o (some (.J9 [(.agg ((.bool true)::(PT [(.bool true),(.bool false),(.bool false),(iI 2)]))),(.bool true)])) (ob (D7 .eql (A9 0 a) (iI 12)) λn=>
 G9 n (some (.J9 [(.agg [(.bool true),(.bool true),(.bool false),(.bool false),(.bool false),(.bool true),(.bool true),(.bool false),(iI 2)]),(.bool true)])) (ob (D7 .eql (A9 0 a) (iI 13)) λm=>G9 m (some (.J9 [(.agg (PT (PT [(iI 3)]))),(.bool true)])) (ob (D7 .eql (A9 0 a) (iI 14)) λl=>G9 l (ob (O3 (A9 14 a)) λk=>ob (D7 .add k (iI 1)) λx=>og (J3 x)<|ob (O3 (A9 14 a)) λj=>ob (D7 .gtr j (iI 0)) λi=>some (.J9 [(.agg (PT (PT [x]))),i])) (ob (D7 .eql (A9 0 a) (iI 15)) λh=>G9 h (some (.J9 [(.agg (PT [(.bool false),(.bool true),(.bool false),(.bool true),(iI 1)])),(.bool true)])) (ob (D7 .eql (A9 0 a) (iI 16)) λg=>G9 g (some (.J9 [(.agg (PT [(.bool true),(.bool false),(.bool false),(.bool false),(iI 2)])),(.bool true)])) (some (.J9 [(.agg (PT (PT [(iI 0)]))),(.bool false)])))))))))))))))))):=H7 []
def vR(x0:DV){d:DV}(h:WA C9 x0=some d):C9.p Vy [x0]=some d:=A9a func130 (by kernel_rfl) (by kernel_rfl) (by kernel_rfl) h
def wQ:=eP f131 af R [] (I4 f131 [(a,.val)] [])
def Qe:=hP f131 af R (pb 58) (ms 37 [(0,a),(3,b)] [] [] [])
def A5a:wQ R a =
 (ob (Er a) λx=>ob (D7 .lss x (iI 1)) λy=>M7 y sF (ob (Er a) λz=>ob (D7 .gtr z (iI 32)) λw=>M7 w sF (ob (IC a (iI 0)) λu=>ob (D7 .lss u (.int .u8 97)) λv=>M7 v sF (ob (IC a (iI 0)) λt=>ob (D7 .gtr t (.int .u8 122)) λs=>M7 s sF (ob (R.p lD [a]) λr=>G9 r sF (Qe R a (iI 1))) none) none) none) none):=H7 []
def dZ:Qe R a b =
 (ob (Er a) λx=>ob (D7 .lss b x) λy=>G9 y (ob (IC a b) λz=>ob (R.p Zr [z]) λw=>ob (j5 .not w) λu=>G9 u sF (ob (D7 .add b (iI 1)) λv=>Qe R a v)) sT):=L8 []
def A32:C9.p Rc [a]=wQ C9 a:=CG func131
def wM:=eP f132 sW R [] (I4 f132 [(a,.val)] [])
def A46:wM R a =
 (og (I7 3 a)<|ob (D7 .eql (A9 0 a) (iI 0)) λx=>M7 x (ob (D7 .eql (A9 1 a) (iI 0)) λy=>M7 y (ob (O3 (A9 2 a)) λz=>ob (D7 .eql z (iI 0)) λw=>some w) sF none) sF none):=H7 []
def A3Y:C9.p OG [a]=wM C9 a:=CG func132
def oW:=eP f133 jo R [] (I4 f133 [(a,.val)] [])
def A1q:oW R a =
 (og (I7 3 a)<|ob (R.p Wx [(Cv a)]) λx=>ob (D7 .eql x (iI 0)) λy=>M7 y (ob (R.p Tp [(Cv a)]) λz=>some z) sF none):=H7 []
def A0s:C9.p SF [a]=oW C9 a:=CG func133
def Xa:Code:=f134.body.getD .skip
def dD:=eP f134 GG R [] (I4 f134 [(a,.val)] [])
def XW:=eP f134 GG R (pb 58) (ms 32 [(0,a),(4,(.J9 [])),(6,b),(8,(.J9 [])),(9,(.J9 [])),(10,(.J9 [])),(11,(.J9 [])),(12,(.J9 [])),(13,(.J9 [])),(14,(.J9 [])),(15,(.J9 [])),(16,(.J9 [])),(17,(.J9 [])),(18,(.J9 [])),(19,(.J9 [])),(20,(.J9 [])),(21,(.J9 [])),(22,(.J9 [])),(23,(.J9 [])),(24,(.J9 [])),(25,(.J9 [])),(26,(.J9 [])),(27,(.J9 [])),(28,(.J9 [])),(29,(.J9 [])),(30,(.J9 [])),(31,(.J9 []))] [(1,(.ptr 0 0)),(2,(.ptr 1 0)),(3,(.ptr 3 0)),(5,(F4.map 2)),(7,(.fn 199 [(4,0)]))] [] s)
def R_:Code:=match (sub [true,true,false,true,false] Xa []).1 with
 |.rangeFunc _ _ a b=>.seq a b
 |c=>c
def A_(R:O7)(t0 t6:DV)(o:Out)(sg:List E5):Option DV:=nD cfg R GG (Wj cfg.P f134) [true,true,false,true,false] Xa o (Ac ⟨spread .undef 32 0 [(0,t0),(4,(.J9 [])),(6,t6),(8,(.J9 [])),(9,(.J9 [])),(10,(.J9 [])),(11,(.J9 [])),(12,(.J9 [])),(13,(.J9 [])),(14,(.J9 [])),(15,(.J9 [])),(16,(.J9 [])),(17,(.J9 [])),(18,(.J9 [])),(19,(.J9 [])),(20,(.J9 [])),(21,(.J9 [])),(22,(.J9 [])),(23,(.J9 [])),(24,(.J9 [])),(25,(.J9 [])),(26,(.J9 [])),(27,(.J9 [])),(28,(.J9 [])),(29,(.J9 [])),(30,(.J9 [])),(31,(.J9 []))],spread .val 32 0 [(1,(.ptr 0 0)),(2,(.ptr 1 0)),(3,(.ptr 3 0)),(5,(F4.map 2)),(7,(.fn 199 [(4,0)]))],spread none 32 0 [],[]⟩ sg)
def PU(R:O7)(t0 t6:DV)(I:List E5->Option DV)(x:DV)(sg:List E5):Option DV:=Ua cfg R GG (kr I (A_ R t0 t6)) [] R_ (mst 32 [(8,x)] [(2,(.ptr 1 0)),(3,(.ptr 3 0))] [] sg)
def Ea(R:O7)(t0 t6:DV):List DV->List E5->Option DV:=MV (λx I sg=>PU R t0 t6 I x sg) (A_ R t0 t6 .normal)
def RU(R:O7)(t0 t6:DV)(I:List E5->Option DV)(b4:DV)(sg:List E5):Option DV:=Ua cfg R GG (kr I (A_ R t0 t6)) (pb 13) R_ (ms 32 [] [(3,(.ptr 3 0))] [(4,bx b4 7)] sg)
def yB:dD R a =
 (og (I7 7 a)<|XW R a (TD a) [E5.box [((A9 0 a),.val),((A9 1 a),.val),((A9 2 a),.val),((A9 3 a),.val),((A9 4 a),.val),((A9 5 a),.val),((A9 6 a),.val)],E5.box [((iI 0),.val)],E5.map true [],E5.box [(.undef,(F4.map 2))],E5.box [((A9 0 a),.val),((A9 1 a),.val),((A9 2 a),.val),((A9 3 a),.val),((A9 4 a),.val),((A9 5 a),.val),((A9 6 a),.val)]]):=H7 [6]
def qW:XW R a b s =
 ob (H5 s 4) λcs=>ob (MJ cs) λcd=>ob (SY 7 6 cd) λds=>Ea R a b ds (s.set 4 (.arr 1 [])):=(A8D (t:=7) (f:=199) (i:=4) (q:=8) (it:=SY 7 6) (by kernel_rfl) (by kernel_rfl) (by kernel_rfl) (by kernel_rfl)).trans (by kernel_rfl)
theorem fo(R:O7)(t0 t6:DV)(sg:List E5):Ea R t0 t6 [] sg=A_ R t0 t6 .normal sg:=rfl
theorem b_(R:O7)(t0 t6 x:DV)(ds:List DV)(sg:List E5):Ea R t0 t6 (x::ds) sg=PU R t0 t6 (Ea R t0 t6 ds) x sg:=rfl
def jA(R:O7)(t0 t6:DV)(I:List E5->Option DV)(x:DV)(sg:List E5):PU R t0 t6 I x sg=(og (I7 7 x)<|ob (R.p YF [(TD x)]) λy=>ob (j5 .not y) λz=>M7 z (ob (H5 sg 1) λc3=>ob (c3[0]?) λu4=>A_ R t0 t6 .ret (sg.set 1 (E5.box (c3.set 0 ((iI 1),.val))))) (ob (D7 .eql (A9 0 x) (iI 2)) λw=>M7 w (ob (H5 sg 3) λc6=>ob (Bp c6 0) λi7=>og (AB true (A9 3 x)&&true)<|ob (S9 sg i7) λm8=>og (m8.1==true)<|ob (D7 .gtr ((Y1 m8.2 (A9 3 x)).getD (iI 0)) (iI 0)) λu=>G9 u (ob (H5 sg 1) λc10=>ob (c10[0]?) λu11=>A_ R t0 t6 .ret (sg.set 1 (E5.box (c10.set 0 ((iI 1),.val))))) (RU R t0 t6 I x sg)) (RU R t0 t6 I x sg) none) none):=H7 [6]
def WM:A_ R a b .normal s =
 (ob (H5 s 1) λc1=>ob (c1[0]?) λu2=>B0d (ob (H5 (s.set 1 (E5.box (c1.set 0 ((iI 0),.val)))) 1) λc=>oneCell (s.set 1 (E5.box (c1.set 0 ((iI 0),.val)))) c)):=vD [6] (by kernel_rfl)
def ZA:A_ R a b .ret s=(B0d (ob (H5 s 1) λc=>oneCell s c)):=vD [6] (by kernel_rfl)
def sJ(R:O7)(t0 t6:DV)(I:List E5->Option DV)(b4:DV)(sg:List E5):RU R t0 t6 I b4 sg=(ob (D7 .eql (A9 0 b4) (iI 2)) λx=>G9 x (ob (H5 sg 3) λc2=>ob (Bp c2 0) λi3=>og (AB true (A9 3 b4)&&true)<|ob (S9 sg i3) λm4=>og (m4.1==true)<|ob (D7 .add ((Y1 m4.2 (A9 3 b4)).getD (iI 0)) (iI 1)) λy=>og (AB true (A9 3 b4)&&true&&true)<|ob (S9 sg i3) λm6=>og (m6.1==true)<|I (sg.set i3 (E5.map true (Bt m6.2 (A9 3 b4) y)))) (I sg)):=H7 [6]
def vY:C9.p Oo [a]=dD C9 a:=CG func134
def XN:=eR f135 FP Jz R [] (I4 f135 [(pt i),(a,.val),(b,.val),(c,.val)] s)
def Ct(R:O7)(t0i:Nat)(t1 t3:DV)(t10i:Nat)(t36 t37 t38:DV)(sg:List E5):Option (List DV×List E5):=hR f135 FP Jz R (pb 122) (ms 127 [(1,t1),(3,t3),(36,t36),(37,t37),(38,t38)] [(0,(.ptr t0i 0)),(10,(.ptr t10i 0))] [] sg)
def Az(R:O7)(t0i:Nat)(t1:DV)(t10i:Nat)(t16 t90 t91 t92:DV)(sg:List E5):Option (List DV×List E5):=hR f135 FP Jz R (pb 506) (ms 127 [(1,t1),(16,t16),(90,t90),(91,t91),(92,t92)] [(0,(.ptr t0i 0)),(10,(.ptr t10i 0))] [] sg)
def qL:XN R i a b c s =
 (oc (R.r Y3 [(pt i),(a,.val)] s) λq1 s1=>ob (j5 .not q1) λx=>M7 x (some ([(iI 0),(iI 1)],s1)) (ob (O3 b) λy=>ob (O3 c) λz=>ob (D7 .neq y z) λw=>G9 w (some ([(iI 0),(iI 1)],s1)) (ob (O3 b) λu=>Ct R i a c (((((s1++[E5.map false []])++[E5.map false []])++[E5.map false []])).length) b u (iI 0) ((((s1++[E5.map false []])++[E5.map false []])++[E5.map false []])++[E5.box [(pt i),(.undef,(F4.map s1.length)),(.undef,(F4.map ((s1++[E5.map false []])).length)),(.undef,(F4.map (((s1++[E5.map false []])++[E5.map false []])).length))]]))) none):=H7 []
def Rm(R:O7)(t0i:Nat)(t1 t3:DV)(t10i:Nat)(t36 t37 t38:DV)(sg:List E5):Ct R t0i t1 t3 t10i t36 t37 t38 sg =
 (ob (D7 .lss t38 t37) λw=>G9 w (ob (M9 1 t36 t38) λx=>og (M8 x)<|oc (R.r Q5 [(pt t0i),(x,.val)] sg) λq3 s3=>ob (D7 .lss q3 (iI 0)) λu=>M7 u (some ([(iI 0),(iI 1)],s3)) (ob (M9 1 t3 t38) λy=>og (M8 y)<|oc (R.r Y3 [(pt t0i),(y,.val)] s3) λq6 s6=>ob (j5 .not q6) λv=>M7 v (some ([(iI 0),(iI 1)],s6)) (ob (H5 s6 t0i) λc8=>ob (Ar c8 0 5) λv9=>ob (AC 0 v9.2.2 q3) λn10=>ob (V3 s6 v9.1 v9.2.1) λa11=>ob (a11.2[n10]?) λt=>og (a11.1==5)<|ob (D7 .neq (A9 0 t) (iI 6)) λs=>G9 s (some ([(iI 0),(iI 1)],s6)) (ob (H5 s6 t10i) λc14=>ob (Bp c14 1) λi15=>og (AB false q3&&true)<|ob (S9 s6 i15) λm16=>og (m16.1==false)<|G9 (.bool (Y1 m16.2 q3).isSome) (some ([(iI 0),(iI 1)],s6)) (ob (H5 s6 t10i) λc17=>ob (Bp c17 1) λi18=>ob (M9 1 t3 t38) λz=>og (M8 z)<|og (AB false q3&&true&&true)<|ob (S9 s6 i18) λm20=>
 og (m20.1==false)<|ob (D7 .add t38 (iI 1)) λq=>Ct R t0i t1 t3 t10i t36 t37 q (s6.set i18 (E5.map false (Bt m20.2 q3 z)))))) none) none) (oc (R.r Dy [(pt t0i),(t1,.val)] sg) λq22 s22=>ob (O3 q22) λp=>Az R t0i t1 t10i (iI 0) q22 p (iI 0) s22)):=L8 []
def RH(R:O7)(t0i:Nat)(t1:DV)(t10i:Nat)(t16 t90 t91 t92:DV)(sg:List E5):Az R t0i t1 t10i t16 t90 t91 t92 sg =
 (ob (D7 .lss t92 t91) λy=>G9 y (ob (M9 1 t90 t92) λx=>og (M8 x)<|ob (H5 sg t0i) λc3=>ob (Ar c3 0 5) λv4=>ob (AC 0 v4.2.2 x) λn5=>ob (V3 sg v4.1 v4.2.1) λa6=>ob (a6.2[n5]?) λz=>og (a6.1==5)<|ob (D7 .neq (A9 0 z) (iI 6)) λw=>M7 w (oc (R.r EZ [(pt t10i),(x,.val)] sg) λq9 s9=>G9 q9 (ob (D7 .add t16 (iI 1)) λu=>ob (D7 .add t92 (iI 1)) λv=>Az R t0i t1 t10i u t90 t91 v s9) (ob (D7 .add t92 (iI 1)) λt=>Az R t0i t1 t10i t16 t90 t91 t s9)) (ob (D7 .add t92 (iI 1)) λs=>Az R t0i t1 t10i t16 t90 t91 s sg) none) (ob (H5 sg t0i) λc14=>ob (U7 c14 1) λq=>ob (H5 sg t0i) λc16=>ob (U7 c16 2) λp=>ob (D7 .sub q p) λo=>ob (D7 .gtr t16 o) λn=>G9 n (some ([(iI 0),(iI 7)],sg)) (oc (R.r Ij [(pt t10i),(t1,.val)] sg) λq20 s20=>some ([q20,(iI 0)],s20)))):=L8 []
def mP:C9.r PV [(.undef,(.ptr i 0)),(a,.val),(b,.val),(c,.val)] s=XN C9 i a b c s:=Bb (s:=FP) func135
def XQ:=eR f136 FQ J_ R [] (I4 f136 [(pt i),(a,.val),(b,.val),(c,.val)] s)
def DT:=eR f136 FQ J_ R (pb 15) (ms 49 [(1,a),(10,b)] [(0,(.ptr i 0))] [] s)
def Cu:=hR f136 FQ J_ R (pb 122) (ms 49 [(1,a),(10,b),(24,c),(25,d),(26,e)] [(0,(.ptr i 0))] [] s)
def qP:XQ R i a b c s =
 (og (J3 b)<|og (J3 c)<|ob (D7 .eql a (iI 7)) λx=>G9 x (DT R i a (.list 1 [b,c]) s) (ob (D7 .eql a (iI 9)) λy=>G9 y (DT R i a (.list 1 [b,c]) s) (ob (D7 .eql a (iI 8)) λz=>G9 z (ob (Nv 1 (.list 1 [b,c]) none (some (iI 1))) λw=>DT R i a w s) (some ([(iI 0),(iI 1)],s))))):=H7 [8]
def jP:DT R i a b s =
 (ob (O3 b) λx=>Cu R i a b b x (iI 0) s):=H7 [8]
def Rn:Cu R i a b c d e s =
 (ob (D7 .lss e d) λy=>G9 y (ob (M9 1 c e) λx=>og (M8 x)<|oc (R.r Y3 [(pt i),(x,.val)] s) λq3 s3=>ob (j5 .not q3) λz=>G9 z (some ([(iI 0),(iI 1)],s3)) (ob (D7 .add e (iI 1)) λw=>Cu R i a b c d w s3)) (ob (H5 s i) λc6=>ob (U7 c6 2) λu=>ob (H5 s i) λc8=>ob (U7 c8 1) λv=>ob (D7 .eql u v) λt=>G9 t (some ([(iI 0),(iI 7)],s)) (og (J3 a)<|og (J3 b)<|oc (R.r BO [(pt i),((.agg [a,(iI 0),(iI 0),b,(iI 0)]),.val)] s) λq11 s11=>some ([q11,(iI 0)],s11)))):=L8 [8]
def mV:C9.r EY [(.undef,(.ptr i 0)),(a,.val),(b,.val),(c,.val)] s=XQ C9 i a b c s:=Bb (s:=FQ) func136
def Ya:=eR f137 Oj Xo R [] (I4 f137 [(pt i),(a,.val)] s)
def sG:Ya R i a s =
 (ob (D7 .lss a (iI 0)) λx=>G9 x (some ([(iI 0),(iI 1)],s)) (ob (H5 s i) λc2=>ob (U7 c2 2) λy=>ob (H5 s i) λc4=>ob (U7 c4 1) λz=>ob (D7 .eql y z) λw=>G9 w (some ([(iI 0),(iI 7)],s)) (og (J3 a)<|oc (R.r BO [(pt i),((.agg [(iI 6),a,(iI 0),(.list 1 []),(iI 0)]),.val)] s) λq7 s7=>some ([q7,(iI 0)],s7)))):=H7 []
def qc:C9.r Ia [(.undef,(.ptr i 0)),(a,.val)] s=Ya C9 i a s:=Bb (s:=Oj) func137
def XP:=eR f138 Ni Vn R [] (I4 f138 [(pt i),(a,.val)] s)
def qN:XP R i a s =
 (oc (R.r Y3 [(pt i),(a,.val)] s) λq1 s1=>ob (j5 .not q1) λx=>G9 x (some ([(iI 0)],s1)) (ob (H5 s1 i) λc3=>ob (Ar c3 0 5) λv4=>oc (R.r Q5 [(pt i),(a,.val)] s1) λq5 s5=>Mf (s5[i]?=s1[i]?)<|ob (AC 0 v4.2.2 q5) λn6=>ob (V3 s5 v4.1 v4.2.1) λa7=>ob (a7.2[n6]?) λy=>og (a7.1==5)<|some ([(A9 0 y)],s5))):=H7 []
def mR:C9.r Y5 [(.undef,(.ptr i 0)),(a,.val)] s=XP C9 i a s:=Bb (s:=Ni) func138
def XO:=eR f139 Nh Vm R [] (I4 f139 [(pt i),(a,.val)] s)
def qM:XO R i a s =
 (oc (R.r Y3 [(pt i),(a,.val)] s) λq1 s1=>ob (j5 .not q1) λx=>G9 x (some ([(.list 1 [])],s1)) (ob (H5 s1 i) λc3=>ob (Ar c3 0 5) λv4=>oc (R.r Q5 [(pt i),(a,.val)] s1) λq5 s5=>Mf (s5[i]?=s1[i]?)<|ob (AC 0 v4.2.2 q5) λn6=>ob (V3 s5 v4.1 v4.2.1) λa7=>ob (a7.2[n6]?) λy=>og (a7.1==5)<|ob (A4h (A9 3 y)) λp9=>og (true&&p9.1==1&&decide (p9.2.length<=R9))<|ob (B3D [Bn (s5++[E5.arr 1 p9.2]) (.undef,(.arr s5.length 1 0 p9.2.length))]) λds=>some (ds,((s5++[E5.arr 1 p9.2]).set s5.length (E5.arr 1 []))))):=H7 []
def mQ:C9.r C_ [(.undef,(.ptr i 0)),(a,.val)] s=XO C9 i a s:=Bb (s:=Nh) func139
def q_:=eP f140 pO R [] (I4 f140 [(a,.val)] [])
def A3D:q_ R a =
 (og (I7 16 a)<|ob (R.p Tn [(X4 a)]) λx=>ob (D7 .eql x (iI 0)) λy=>M7 y (ob (R.p PW [(X4 a)]) λz=>some z) sF none):=H7 []
def A1D:C9.p Zq [a]=q_ C9 a:=CG func140
def Tw:=eR f141 Gr MP R [] (I4 f141 [(pt i),(a,.val),(b,.val)] s)
def Dc:=hR f141 Gr MP R (pb 58) (ms 35 [(2,a),(7,b),(15,c),(16,d),(17,e)] [(0,(.ptr i 0)),(7,.own)] [] s)
def jC:Tw R i a b s =
 (ob (H5 s i) λc1=>ob (X7 c1 0) λi2=>oc (R.r Ka [(pt i2),(a,.val)] s) λq3 s3=>ob (O3 q3) λx=>Dc R i b (.list 1 []) q3 x (iI 0) s3):=H7 []
def Pj:Dc R i a b c d e s =
 (ob (D7 .lss e d) λy=>G9 y (ob (M9 1 c e) λx=>og (M8 x)<|ob (H5 s i) λc3=>ob (X7 c3 0) λi4=>oc (R.r Fv [(pt i4),(x,.val)] s) λq5 s5=>ob (D7 .gtr q5 a) λz=>G9 z (og (J3 x)<|ob (EP 1 b (.list 1 [x])) λw=>ob (D7 .add e (iI 1)) λu=>Dc R i a w c d u s5) (ob (D7 .add e (iI 1)) λv=>Dc R i a b c d v s5)) (some ([b],s))):=L8 []
def gN:C9.r Ig [(.undef,(.ptr i 0)),(a,.val),(b,.val)] s=Tw C9 i a b s:=Bb (s:=Gr) func141
def wD:=eR f142 Sb aX R [] (I4 f142 [(pt i),(a,.val),(b,.val),(c,.val)] s)
def YG:=eR f142 Sb aX R (pb 26) (ms 52 [] [] [(10,some zb0)] s)
def A4V:wD R i a b c s =
 (og (I7 7 a)<|ob (R.p Oo [(TD a)]) λx=>ob (D7 .neq x (iI 0)) λy=>M7 y (YG R s) (oc (R.r Q5 [(pt i),(b,.val)] s) λq3 s3=>ob (D7 .lss q3 (iI 0)) λz=>M7 z (YG R s3) (ob (D7 .lss c (iI 0)) λw=>G9 w (YG R s3) (og (J3 c)<|ob (Pz (s3++[E5.box ((pt i)::(c,.val)::((.list 1 []),.full)::((.list 1 []),.full)::(zz4 []))]) s3.length [2,3]) λg6=>oc (R.r Hw [(.undef,(.ptr s3.length 0)),((TD a),.val),(b,.val)] g6) λq7 s7=>ob (D7 .neq q7 (iI 0)) λu=>G9 u (ob (H5 s7 s3.length) λc9=>ob (VO 4 6 c9) λe10=>og (I7 6 (.agg e10))<|some ([(.list 1 []),(.list 1 []),(.agg [(A9 0 (.agg e10)),(A9 1 (.agg e10)),(A9 2 (.agg e10)),(A9 3 (.agg e10)),(A9 4 (.agg e10)),(A9 5 (.agg e10))]),q7],s7)) (ob (H5 s7 s3.length) λc11=>ob (U7 c11 2) λv=>
 ob (H5 s7 s3.length) λc13=>ob (U7 c13 3) λt=>some ([v,t,(.agg (uf (LP []))),(iI 0)],s7)))) none) none):=H7 [2]
def A3P:C9.r fQ [(.undef,(.ptr i 0)),(a,.val),(b,.val),(c,.val)] s=wD C9 i a b c s:=Bb (s:=Sb) func142
def YZ:=eR f143 Oi Xn R [] (I4 f143 [(pt i),(a,.val)] s)
def sD:YZ R i a s =
 (og (I7 3 a)<|ob (R.p Wx [(Cv a)]) λx=>ob (D7 .neq x (iI 0)) λy=>M7 y (some ([(iI 0),(iI 1)],s)) (ob (R.p Tp [(Cv a)]) λz=>ob (j5 .not z) λw=>G9 w (some ([(iI 0),(iI 1)],s)) (ob (H5 s i) λc5=>ob (U7 c5 1) λu=>ob (H5 s i) λc7=>ob (U7 c7 2) λv=>ob (D7 .sub u v) λt=>ob (R.p Tk [(Cv a),t]) λq=>ob (H5 s i) λc11=>ob (U7 c11 1) λo=>ob (H5 s i) λc13=>ob (U7 c13 2) λn=>ob (D7 .sub o n) λm=>ob (D7 .gtr q m) λl=>G9 l (some ([(iI 0),(iI 7)],s)) (oc (R.r Lr [(pt i),((Cv a),.val)] s) λq17 s17=>some ([q17,(iI 0)],s17)))) none):=H7 []
def qb:C9.r RS [(.undef,(.ptr i 0)),(a,.val)] s=YZ C9 i a s:=Bb (s:=Oi) func143
def oV:=eR f144 FO JS R [] (I4 f144 [(pt i),(a,.val),(b,.val)] s)
def V4(R:O7)(t0i:Nat)(t6 t7:DV)(t9r0 t9r1 t9r3:Nat)(sg:List E5):Option (List DV×List E5):=hR f144 FO JS R (pb 220) (ms 151 [(6,t6),(7,t7)] [(0,(.ptr t0i 0)),(9,(.P7 t9r0 t9r1 2 t9r3))] [] sg)
def F_(R:O7)(t0i:Nat)(t6 t7:DV)(t9r0 t9r1 t9r3:Nat)(t11 t12:DV)(sg:List E5):Option (List DV×List E5):=eR f144 FO JS R (pb 28207) (ms 151 [(6,t6),(7,t7),(11,t11),(12,t12)] [(0,(.ptr t0i 0)),(9,(.P7 t9r0 t9r1 2 t9r3))] [] sg)
def Sk:=eR f144 FO JS R (pb 111) (ms 151 [(6,a),(7,b)] [] [] s)
def Lv(R:O7)(t0i:Nat)(t6 t7:DV)(t9r0 t9r1 t9r3:Nat)(t17 t18 t19:DV)(sg:List E5):Option (List DV×List E5):=hR f144 FO JS R (pb 225662) (ms 151 [(6,t6),(7,t7),(17,t17),(18,t18),(19,t19)] [(0,(.ptr t0i 0)),(9,(.P7 t9r0 t9r1 2 t9r3))] [] sg)
def A1p:oV R i a b s =
 (oc (R.r Q5 [(pt i),(a,.val)] s) λq1 s1=>ob (D7 .lss q1 (iI 0)) λx=>M7 x (some ([(iI 0),(iI 0),(iI 1)],s1)) (oc (R.r Q5 [(pt i),(b,.val)] s1) λq3 s3=>ob (D7 .lss q3 (iI 0)) λy=>G9 y (some ([(iI 0),(iI 0),(iI 1)],s3)) (og (J3 a)<|og (J3 b)<|V4 R i (iI 0) (iI 0) (s3.length) 1 1 (s3++[E5.P7 1 2 [(.agg [a,b])]]))) none):=H7 [27,32]
def Yi(R:O7)(t0i:Nat)(t6 t7:DV)(t9r0 t9r1 t9r3:Nat)(sg:List E5):V4 R t0i t6 t7 t9r0 t9r1 t9r3 sg =
 (ob (iH t9r3) λv=>ob (D7 .gtr v (iI 0)) λt=>G9 t (ob (iH t9r3) λs=>ob (D7 .sub s (iI 1)) λq=>ob (AC 0 t9r3 q) λn5=>ob (V3 sg t9r0 t9r1) λa6=>ob (a6.2[n5]?) λx=>og (a6.1==2)<|ob (iH t9r3) λp=>ob (D7 .sub p (iI 1)) λo=>ob (bnd t9r3 (some o)) λn10=>if n10<=t9r3 then(oc (R.r Q5 [(pt t0i),((A9 0 x),.val)] sg) λq11 s11=>oc (R.r Q5 [(pt t0i),((A9 1 x),.val)] s11) λq12 s12=>ob (D7 .eql q11 q12) λn=>G9 n (V4 R t0i t6 t7 t9r0 t9r1 n10 s12) (ob (D7 .eql q11 (iI 4)) λm=>G9 m (oc (R.r Ju [(pt t0i),(q12,.val),((iI 0),.val)] s12) λq15 s15=>V4 R t0i t6 t7 t9r0 t9r1 n10 s15) (ob (D7 .eql q12 (iI 4)) λl=>G9 l (oc (R.r Ju [(pt t0i),(q11,.val),((iI 0),.val)] s12) λq17 s17=>V4 R t0i t6 t7 t9r0 t9r1 n10 s17) (oc (R.r Y5 [(pt t0i),(q11,.val)] s12) λq18 s18=>
 ob (D7 .eql q18 (iI 6)) λk=>G9 k (ob (R.r QV [(pt t0i),(q11,.val),(q12,.val)] s18) λq20=>ob (Q3 0 (.J9 q20.1)) λy=>ob (Q3 1 (.J9 q20.1)) λz=>ob (D7 .neq z (iI 0)) λj=>G9 j (some ([(iI 0),(iI 0),z],q20.2)) (ob (D7 .lss y (iI 0)) λi=>G9 i (V4 R t0i t6 t7 t9r0 t9r1 n10 q20.2) (F_ R t0i t6 t7 t9r0 t9r1 n10 y q12 q20.2))) (oc (R.r Y5 [(pt t0i),(q12,.val)] s18) λq25 s25=>ob (D7 .eql q25 (iI 6)) λh=>G9 h (ob (R.r QV [(pt t0i),(q12,.val),(q11,.val)] s25) λq27=>ob (Q3 0 (.J9 q27.1)) λw=>ob (Q3 1 (.J9 q27.1)) λu=>ob (D7 .neq u (iI 0)) λg=>G9 g (some ([(iI 0),(iI 0),u],q27.2)) (ob (D7 .lss w (iI 0)) λf=>G9 f (V4 R t0i t6 t7 t9r0 t9r1 n10 q27.2) (F_ R t0i t6 t7 t9r0 t9r1 n10 q11 w q27.2))) (oc (R.r Y5 [(pt t0i),(q11,.val)] s25) λq32 s32=>
 oc (R.r Y5 [(pt t0i),(q12,.val)] s32) λq33 s33=>ob (D7 .neq q32 q33) λe=>G9 e (oc (R.r Y5 [(pt t0i),(q11,.val)] s33) λq35 s35=>oc (R.r Y5 [(pt t0i),(q12,.val)] s35) λq36 s36=>Sk R q35 q36 s36) (F_ R t0i t6 t7 t9r0 t9r1 n10 q11 q12 s33)))))))else none) (Sk R t6 t7 sg)):=L8 [27,32]
def vU(R:O7)(t0i:Nat)(t6 t7:DV)(t9r0 t9r1 t9r3:Nat)(t11 t12:DV)(sg:List E5):F_ R t0i t6 t7 t9r0 t9r1 t9r3 t11 t12 sg =
 (oc (R.r C_ [(pt t0i),(t11,.val)] sg) λq1 s1=>oc (R.r C_ [(pt t0i),(t12,.val)] s1) λq2 s2=>ob (O3 q1) λx=>ob (D7 .sub x (iI 1)) λy=>Lv R t0i t6 t7 t9r0 t9r1 t9r3 q1 q2 y s2):=H7 [27,32]
def Yh:Sk R a b s =
 (ob (D7 .gtr a (iI 0)) λx=>G9 x (some ([a,b,(iI 4)],s)) (some ((uf []),s))):=H7 [27,32]
def Xj(R:O7)(t0i:Nat)(t6 t7:DV)(t9r0 t9r1 t9r3:Nat)(t17 t18 t19:DV)(sg:List E5):Lv R t0i t6 t7 t9r0 t9r1 t9r3 t17 t18 t19 sg =
 (ob (D7 .geq t19 (iI 0)) λz=>G9 z (ob (M9 1 t17 t19) λx=>og (M8 x)<|ob (M9 1 t18 t19) λy=>og (M8 y)<|og (J3 x)<|og (J3 y)<|ob (V3 sg t9r0 t9r1) λa4=>og (a4.1==2&&true&&decide (t9r3<=a4.2.length))<|ob (Jy 2 (.list 2 (a4.2.take t9r3)) (.list 2 [(.agg [x,y])])) λp5=>ob (D7 .sub t19 (iI 1)) λw=>Lv R t0i t6 t7 t9r0 ((t9r1+1)) ((p5.1.length+p5.2.length)) t17 t18 w (sg.set t9r0 (E5.P7 (t9r1+1) 2 (p5.1++p5.2)))) (V4 R t0i t6 t7 t9r0 t9r1 t9r3 sg)):=L8 [27,32]
def A0r:C9.r SE [(.undef,(.ptr i 0)),(a,.val),(b,.val)] s=oV C9 i a b s:=Bb (s:=FO) func144
def Zu:=eR f145 QP Yl R [] (I4 f145 [(pt i),(a,.val)] s)
def vV:Zu R i a s =
 (ob (D7 .geq a (iI 0)) λx=>M7 x (ob (H5 s i) λc2=>ob (Ar c2 0 5) λv3=>ob (iH v3.2.2) λy=>ob (D7 .lss a y) λz=>some ([z],s)) (some ([(.bool false)],s)) none):=H7 []
def sP:C9.r Y3 [(.undef,(.ptr i 0)),(a,.val)] s=Zu C9 i a s:=Bb (s:=QP) func145
def UK:=eR f146 Gu MU R [] (I4 f146 [(pt i),(a,.val)] s)
def Fh:=hR f146 Gu MU R (pb 250) (ms 62 [(1,a),(7,b),(37,c),(38,d),(39,e)] [(0,(.ptr i 0))] [] s)
def jT:UK R i a s =
 (ob (H5 s i) λc1=>ob (X7 c1 0) λi2=>oc (R.r Q5 [(pt i2),(a,.val)] s) λq3 s3=>ob (H5 s3 i) λc4=>ob (Bp c4 2) λi5=>og (AB false q3&&true)<|ob (S9 s3 i5) λm6=>og (m6.1==false)<|G9 (.bool (Y1 m6.2 q3).isSome) (some ([((Y1 m6.2 q3).getD (iI 0))],s3)) (ob (H5 s3 i) λc7=>ob (X7 c7 0) λi8=>ob (H5 s3 i8) λc9=>ob (Ar c9 0 5) λv10=>ob (AC 0 v10.2.2 q3) λn11=>ob (V3 s3 v10.1 v10.2.1) λa12=>ob (a12.2[n11]?) λx=>og (a12.1==5)<|ob (O3 (A9 3 x)) λy=>Fh R i q3 (iI 1) (A9 3 x) y (iI 0) s3)):=H7 []
def Ps:Fh R i a b c d e s =
 (ob (D7 .lss e d) λy=>G9 y (ob (M9 1 c e) λx=>og (M8 x)<|oc (R.r Ik [(pt i),(x,.val)] s) λq3 s3=>ob (D7 .add b q3) λz=>ob (H5 s3 i) λc5=>ob (U7 c5 1) λw=>Mf (s3[i]?=s[i]?)<|ob (D7 .add w (iI 1)) λu=>ob (aF z u) λv=>ob (D7 .add e (iI 1)) λt=>Fh R i a v c d t s3) (ob (H5 s i) λc10=>ob (Bp c10 2) λi11=>og (AB false a&&true&&true)<|ob (S9 s i11) λm12=>og (m12.1==false)<|some ([b],(s.set i11 (E5.map false (Bt m12.2 a b)))))):=L8 []
def gp:C9.r Ik [(.undef,(.ptr i 0)),(a,.val)] s=UK C9 i a s:=Bb (s:=Gu) func146
end
end Go.Su

/-
 Equations of the program's functions: by program.
-/
namespace Go.Su
set_option linter.defProp false
set_option maxRecDepth 100000
noncomputable section
open Go.Proofs
open Tryz
variable (R: O7)(i j k l m n: Nat)(a b c d e f g h o p q r t u v w x y z U W X Y Z a3 a4 a6 a7 a10 a12 a13 a17: DV)(s: List E5)
def Vi:=eR f147 Eo Iz R [] (I4 f147 [(pt i),(a,.val)] s)
def Hz:=eR f147 Eo Iz R (pb 63) (ms 76 [(1,a)] [(0,(.ptr i 0))] [(4,some zb1),(7,some [(b,.val),(c,.val),((.list 3 []),.own)])] s)
def EB:=hR f147 Eo Iz R (pb 506) (ms 76 [(1,a),(54,b),(55,c),(56,d)] [(0,(.ptr i 0))] [(4,some zb1),(7,some [(e,.val),(f,.val),(g,.own)])] s)
def mD:Vi R i a s =
 (ob (H5 s i) λc1=>ob (X7 c1 0) λi2=>oc (R.r Q5 [(pt i2),(a,.val)] s) λq3 s3=>ob (H5 s3 i) λc4=>ob (Bp c4 3) λi5=>og (AB false q3&&true)<|ob (S9 s3 i5) λm6=>og (m6.1==false)<|og (I7 3 ((Y1 m6.2 q3).getD (.agg (KG []))))<|G9 (.bool (Y1 m6.2 q3).isSome) (some ([(.agg [(A9 0 ((Y1 m6.2 q3).getD (.agg (KG [])))),(A9 1 ((Y1 m6.2 q3).getD (.agg (KG [])))),(A9 2 ((Y1 m6.2 q3).getD (.agg (KG []))))])],s3)) (ob (H5 s3 i) λc7=>ob (X7 c7 0) λi8=>ob (H5 s3 i8) λc9=>ob (Ar c9 0 5) λv10=>ob (AC 0 v10.2.2 q3) λn11=>ob (V3 s3 v10.1 v10.2.1) λa12=>ob (a12.2[n11]?) λx=>og (a12.1==5)<|og (J3 (A9 0 x))<|ob (D7 .eql (A9 0 x) (iI 6)) λy=>G9 y (og (J3 q3)<|Hz R i q3 (A9 0 x) q3 s3) (Hz R i q3 (A9 0 x) (iI 0) s3))):=H7 [8]
def gK:Hz R i a b c s =
 (ob (H5 s i) λc1=>ob (X7 c1 0) λi2=>ob (H5 s i2) λc3=>ob (Ar c3 0 5) λv4=>ob (AC 0 v4.2.2 a) λn5=>ob (V3 s v4.1 v4.2.1) λa6=>ob (a6.2[n5]?) λx=>og (a6.1==5)<|ob (O3 (A9 3 x)) λy=>EB R i a (A9 3 x) y (iI 0) b c (.list 3 []) s):=H7 [8]
def RJ:EB R i a b c d e f g s =
 (ob (D7 .lss d c) λy=>G9 y (ob (M9 1 b d) λx=>og (M8 x)<|oc (R.r Fw [(pt i),(x,.val)] s) λq3 s3=>og (I7 3 q3)<|ob (EP 3 g (.list 3 [q3])) λz=>ob (D7 .add d (iI 1)) λw=>EB R i a b c w e f z s3) (ob (H5 s i) λc6=>ob (Bp c6 3) λi7=>og (AB false a&&true&&true)<|ob (S9 s i7) λm8=>og (m8.1==false)<|some ([(.agg [e,f,g])],(s.set i7 (E5.map false (Bt m8.2 a (.agg [e,f,g]))))))):=L8 [8]
def jm:C9.r Fw [(.undef,(.ptr i 0)),(a,.val)] s=Vi C9 i a s:=Bb (s:=Eo) func147
def zR:=eP f155 ww R [] (I4 f155 [(a,.val)] [])
def A7t:zR R a =
 (og (I7 3 a)<|ob (D7 .eql (A9 0 a) (iI 0)) λx=>M7 x (ob (D7 .eql (A9 1 a) (iI 0)) λy=>M7 y (ob (O3 (A9 2 a)) λz=>ob (D7 .eql z (iI 0)) λw=>some w) sF none) sF none):=H7 []
def A5j:C9.p k_ [a]=zR C9 a:=CG func155
def wG:=eP f161 sU R [] (I4 f161 [(a,.val)] [])
def A4Y:wG R a =
 (ob (D7 .geq a (.int .u8 97)) λx=>M7 x (ob (D7 .leq a (.int .u8 122)) λy=>some y) sF none):=H7 []
def A3S:C9.p Rb [a]=wG C9 a:=CG func161
def zP:=eP f162 wo R [] (I4 f162 [(a,.val)] [])
def A7r:zP R a =
 (ob (R.p Rb [a]) λx=>M7 x sT (ob (R.p fU [a]) λy=>M7 y sT (ob (D7 .geq a (.int .u8 65)) λz=>M7 z (ob (D7 .leq a (.int .u8 90)) λw=>M7 w sT (ob (D7 .eql a (.int .u8 95)) λu=>M7 u sT (ob (D7 .eql a (.int .u8 39)) λv=>some v) none) none) (ob (D7 .eql a (.int .u8 95)) λt=>M7 t sT (ob (D7 .eql a (.int .u8 39)) λs=>some s) none) none) none) none):=H7 []
def A5h:C9.p ku [a]=zP C9 a:=CG func162
def A2j:=eP f163 ZG R [] (I4 f163 [(a,.val)] [])
def UE:=hP f163 ZG R (pb 26) (ms 40 [(0,a),(3,b)] [] [] [])
def PZ:=hP f163 ZG R (pb 122) (ms 40 [(0,a),(4,b),(5,c)] [] [] [])
def A9q:A2j R a =
 (UE R a (iI 0)):=H7 []
def pE:UE R a b =
 (ob (Er a) λx=>ob (D7 .lss b x) λy=>G9 y (ob (IC a b) λz=>ob (R.p Rb [z]) λw=>ob (j5 .not w) λu=>G9 u sF (ob (D7 .add b (iI 1)) λv=>UE R a v)) (ob (D7 .add (.str ⟨#[32]⟩) a) λt=>ob (D7 .add t (.str ⟨#[32]⟩)) λs=>PZ R a s (iI 0))):=L8 []
def pG:PZ R a b c =
 (ob (Er b) λx=>ob (D7 .add c x) λy=>ob (D7 .leq y (iI 81)) λz=>G9 z (ob (Er a) λw=>ob (D7 .gtr w (iI 0)) λu=>M7 u (ob (Er b) λv=>ob (D7 .add c v) λt=>ob (iw (.str ⟨#[32,108,101,116,32,114,101,99,32,105,110,32,102,117,110,32,105,102,32,116,104,101,110,32,101,108,115,101,32,109,97,116,99,104,32,119,105,116,104,32,101,110,100,32,116,114,117,101,32,102,97,108,115,101,32,105,110,116,32,98,111,111,108,32,115,116,114,105,110,103,32,117,110,105,116,32,108,105,115,116,32]⟩) (some c) (some t)) λs=>ob (D7 .eql s b) λr=>G9 r sT (ob (D7 .add c (iI 1)) λq=>PZ R a b q)) (ob (D7 .add c (iI 1)) λp=>PZ R a b p) none) sF):=L8 []
def A7A:C9.p qm [a]=A2j C9 a:=CG func163
def wK:=eR f164 Sc aZ R [] (I4 f164 [(a,.val),(b,.own)] s)
def JQ:=hR f164 Sc aZ R (pb 58) (ms 29 [(1,a),(5,b)] [(1,.own)] [(2,bx c 7)] s)
def A42:wK R a b s =
 (og (I7 7 a)<|ob (D7 .eql (A9 0 a) (iI 2)) λx=>G9 x (og (J3 (A9 3 a))<|ob (EP 1 b (.list 1 [(A9 3 a)])) λy=>JQ R y (iI 0) a s) (JQ R b (iI 0) a s)):=H7 []
def dW:JQ R a b c s =
 (ob (O3 (A9 6 c)) λx=>ob (D7 .lss b x) λy=>G9 y (ob (M9 7 (A9 6 c) b) λz=>oc (R.r Ww [((TD z),.val),(a,.own)] s) λq4 s4=>ob (D7 .add b (iI 1)) λw=>JQ R q4 w c s4) (some ([a],s))):=L8 []
def A3W:C9.r Ww [(a,.val),(b,.own)] s=wK C9 a b s:=Bb (s:=Sc) func164
def wO:=eP f165 su R [] (I4 f165 [(a,.val)] [])
def A48:wO R a =
 (ob (D7 .eql a (iI 1)) λx=>G9 x (some (iI 0)) (ob (D7 .eql a (iI 2)) λy=>G9 y (some (iI 0)) (ob (D7 .eql a (iI 3)) λz=>G9 z (some (iI 0)) (ob (D7 .eql a (iI 4)) λw=>G9 w (some (iI 0)) (ob (D7 .eql a (iI 5)) λu=>G9 u (some (iI 0)) (ob (D7 .eql a (iI 6)) λv=>G9 v (some (iI 0)) (ob (D7 .eql a (iI 8)) λt=>G9 t (some (iI 1)) (ob (D7 .eql a (iI 7)) λs=>G9 s (some (iI 2)) (ob (D7 .eql a (iI 9)) λr=>G9 r (some (iI 2)) (some (.int .i64 (-1)))))))))))):=H7 []
def A30:C9.p fe [a]=wO C9 a:=CG func165
def zY:=eP f166 xA R [] (I4 f166 [(a,.val)] [])
def A7z:zY R a =
 (ob (D7 .eql a (.str ⟨#[108,101,116]⟩)) λx=>G9 x sT (ob (D7 .eql a (.str ⟨#[114,101,99]⟩)) λy=>G9 y sT (ob (D7 .eql a (.str ⟨#[105,110]⟩)) λz=>G9 z sT (ob (D7 .eql a (.str ⟨#[102,117,110]⟩)) λw=>G9 w sT (ob (D7 .eql a (.str ⟨#[105,102]⟩)) λu=>G9 u sT (ob (D7 .eql a (.str ⟨#[116,104,101,110]⟩)) λv=>G9 v sT (ob (D7 .eql a (.str ⟨#[101,108,115,101]⟩)) λt=>G9 t sT (ob (D7 .eql a (.str ⟨#[109,97,116,99,104]⟩)) λs=>G9 s sT (ob (D7 .eql a (.str ⟨#[119,105,116,104]⟩)) λr=>G9 r sT (ob (D7 .eql a (.str ⟨#[101,110,100]⟩)) λq=>G9 q sT (ob (D7 .eql a (.str ⟨#[116,114,117,101]⟩)) λp=>G9 p sT (ob (D7 .eql a (.str ⟨#[102,97,108,115,101]⟩)) λo=>G9 o sT (ob (D7 .eql a (.str ⟨#[105,110,116]⟩)) λn=>G9 n sT (ob (D7 .eql a (.str ⟨#[98,111,111,108]⟩)) λm=>G9 m sT (ob (D7 .eql a (.str ⟨#[115,116,114,105,110,103]⟩)) λl=>
 G9 l sT (ob (D7 .eql a (.str ⟨#[117,110,105,116]⟩)) λk=>G9 k sT (ob (D7 .eql a (.str ⟨#[108,105,115,116]⟩)) λj=>G9 j sT sF))))))))))))))))):=H7 []
def A5p:C9.p lD [a]=zY C9 a:=CG func166
def rD:=eP f167 pR R [] (I4 f167 [(a,.val)] [])
def A3K:rD R a =
 (ob (D7 .geq a (.int .u8 97)) λx=>M7 x (ob (D7 .leq a (.int .u8 122)) λy=>M7 y sT (ob (D7 .geq a (.int .u8 65)) λz=>M7 z (ob (D7 .leq a (.int .u8 90)) λw=>M7 w sT (ob (D7 .geq a (.int .u8 48)) λu=>M7 u (ob (D7 .leq a (.int .u8 57)) λv=>M7 v sT (ob (D7 .eql a (.int .u8 95)) λt=>M7 t sT (ob (D7 .eql a (.int .u8 39)) λs=>some s) none) none) (ob (D7 .eql a (.int .u8 95)) λr=>M7 r sT (ob (D7 .eql a (.int .u8 39)) λq=>some q) none) none) none) (ob (D7 .geq a (.int .u8 48)) λp=>M7 p (ob (D7 .leq a (.int .u8 57)) λo=>M7 o sT (ob (D7 .eql a (.int .u8 95)) λn=>M7 n sT (ob (D7 .eql a (.int .u8 39)) λm=>some m) none) none) (ob (D7 .eql a (.int .u8 95)) λl=>M7 l sT (ob (D7 .eql a (.int .u8 39)) λk=>some k) none) none) none) none) (ob (D7 .geq a (.int .u8 65)) λj=>M7 j (ob (D7 .leq a (.int .u8 90)) λi=>M7 i sT (ob (D7 .geq a (.int .u8 48)) λh=>
 M7 h (ob (D7 .leq a (.int .u8 57)) λg=>M7 g sT (ob (D7 .eql a (.int .u8 95)) λf=>M7 f sT (ob (D7 .eql a (.int .u8 39)) λe=>some e) none) none) (ob (D7 .eql a (.int .u8 95)) λd=>M7 d sT (ob (D7 .eql a (.int .u8 39)) λc=>some c) none) none) none) (ob (D7 .geq a (.int .u8 48)) λb=>M7 b (ob (D7 .leq a (.int .u8 57)) λX=>M7 X sT (ob (D7 .eql a (.int .u8 95)) λY=>M7 Y sT (ob (D7 .eql a (.int .u8 39)) λZ=>some Z) none) none) (ob (D7 .eql a (.int .u8 95)) λW=>M7 W sT (ob (D7 .eql a (.int .u8 39)) λU=>some U) none) none) none) none):=H7 []
def A1G:C9.p Zr [a]=rD C9 a:=CG func167
def rC:=eP f168 pQ R [] (I4 f168 [(a,.val)] [])
def A3I:rC R a =
 (og (I7 3 a)<|ob (R.p SG [(Cv a),(iI 6)]) λx=>some x):=H7 []
def A1F:C9.p Tp [a]=rC C9 a:=CG func168
def oZ:=eP f170 WQ R [] (I4 f170 [(a,.val)] [])
def Ak:=eP f170 WQ R (pb 15) (ms 83 [(4,a)] [] [(1,bx b 7),(3,bv [c,d,e,f,g,h,o])] [])
def A1r:oZ R a =
 (og (I7 7 a)<|og (J3 (A9 0 a))<|og (J3 (A9 6 a))<|ob (D7 .eql (A9 0 a) (iI 1)) λx=>G9 x (Ak R (iI 0) a (A9 0 a) (A9 1 a) (A9 2 a) (.str ⟨#[]⟩) (iI 0) (.str ⟨#[]⟩) (A9 6 a)) (ob (D7 .eql (A9 0 a) (iI 6)) λy=>G9 y (Ak R (iI 0) a (A9 0 a) (A9 1 a) (A9 2 a) (.str ⟨#[]⟩) (iI 0) (.str ⟨#[]⟩) (A9 6 a)) (ob (D7 .eql (A9 0 a) (iI 8)) λz=>G9 z (Ak R (iI 0) a (A9 0 a) (A9 1 a) (A9 2 a) (.str ⟨#[]⟩) (iI 0) (.str ⟨#[]⟩) (A9 6 a)) (ob (D7 .eql (A9 0 a) (iI 2)) λw=>G9 w (og (J3 (A9 3 a))<|ob (R.p Rc [(A9 3 a)]) λu=>ob (j5 .not u) λv=>G9 v sF (Ak R (iI 0) a (A9 0 a) (A9 1 a) (A9 2 a) (A9 3 a) (iI 0) (.str ⟨#[]⟩) (A9 6 a))) (ob (D7 .eql (A9 0 a) (iI 3)) λt=>G9 t (og (J3 (A9 4 a))<|Ak R (iI 0) a (A9 0 a) (A9 1 a) (A9 2 a) (.str ⟨#[]⟩) (A9 4 a) (.str ⟨#[]⟩) (A9 6 a)) (ob (D7 .eql (A9 0 a) (iI 4)) λs=>
 G9 s (og (J3 (A9 4 a))<|ob (D7 .neq (A9 4 a) (iI 0)) λr=>M7 r (ob (D7 .neq (A9 4 a) (iI 1)) λq=>G9 q sF (Ak R (iI 0) a (A9 0 a) (A9 1 a) (A9 2 a) (.str ⟨#[]⟩) (A9 4 a) (.str ⟨#[]⟩) (A9 6 a))) (Ak R (iI 0) a (A9 0 a) (A9 1 a) (A9 2 a) (.str ⟨#[]⟩) (A9 4 a) (.str ⟨#[]⟩) (A9 6 a)) none) (ob (D7 .eql (A9 0 a) (iI 5)) λo=>G9 o (og (J3 (A9 5 a))<|ob (Er (A9 5 a)) λn=>ob (D7 .gtr n (iI 200)) λm=>G9 m sF (Ak R (iI 0) a (A9 0 a) (A9 1 a) (A9 2 a) (.str ⟨#[]⟩) (iI 0) (A9 5 a) (A9 6 a))) (ob (D7 .eql (A9 0 a) (iI 7)) λl=>G9 l (Ak R (iI 2) a (A9 0 a) (A9 1 a) (A9 2 a) (.str ⟨#[]⟩) (iI 0) (.str ⟨#[]⟩) (A9 6 a)) (ob (D7 .eql (A9 0 a) (iI 9)) λk=>G9 k (Ak R (iI 2) a (A9 0 a) (A9 1 a) (A9 2 a) (.str ⟨#[]⟩) (iI 0) (.str ⟨#[]⟩) (A9 6 a)) sF))))))))):=H7 [24]
def vW:Ak R a b c d e f g h o =
 (ob (O3 (A9 6 b)) λx=>ob (D7 .eql x a) λy=>M7 y (ob (D7 .eql f (A9 3 b)) λz=>M7 z (ob (D7 .eql g (A9 4 b)) λw=>M7 w (ob (D7 .eql h (A9 5 b)) λu=>some u) sF none) sF none) sF none):=H7 [24]
def A0t:C9.p YF [a]=oZ C9 a:=CG func170
def XT:=eR f171 JF Ob R [] (I4 f171 [(pt i),(a,.val)] s)
def MC:=hR f171 JF Ob R (pb 28) (ms 27 [(1,a)] [(0,(.ptr i 0))] [] s)
def qR:XT R i a s =
 (oc (R.r Y3 [(pt i),(a,.val)] s) λq1 s1=>ob (j5 .not q1) λx=>G9 x (some ([(.int .i64 (-1))],s1)) (MC R i a s1)):=H7 []
def Ro:MC R i a s =
 (ob (H5 s i) λc1=>ob (Ar c1 0 5) λv2=>ob (AC 0 v2.2.2 a) λn3=>ob (V3 s v2.1 v2.2.1) λa4=>ob (a4.2[n3]?) λx=>og (a4.1==5)<|ob (D7 .geq (A9 2 x) (iI 0)) λy=>G9 y (ob (H5 s i) λc7=>ob (Ar c7 0 5) λv8=>ob (AC 0 v8.2.2 a) λn9=>ob (V3 s v8.1 v8.2.1) λa10=>ob (a10.2[n9]?) λz=>og (a10.1==5)<|MC R i (A9 2 z) s) (some ([a],s))):=L8 []
def mX:C9.r Q5 [(.undef,(.ptr i 0)),(a,.val)] s=XT C9 i a s:=Bb (s:=JF) func171
def Vh:=eR f172 Mr Un R [] (I4 f172 [(pt i),(a,.val)] s)
def l_:Vh R i a s =
 (ob (H5 s i) λc1=>ob (U7 c1 3) λy=>ob (D7 .add y (iI 1)) λx=>ob (H5 s i) λc4=>og (J3 x)<|ob (c4[3]?) λu5=>oc (R.r Kc [(pt i),(a,.val),((.list 1 []),.own)] (s.set i (E5.box (c4.set 3 (x,.val))))) λq6 s6=>some ([q6],s6)):=H7 []
def jk:C9.r Dy [(.undef,(.ptr i 0)),(a,.val)] s=Vh C9 i a s:=Bb (s:=Mr) func172
def TC:=eR f173 Di Gl R [] (I4 f173 [(pt i),(a,.val)] s)
def Fg:=eR f173 Di Gl R (pb 31) (ms 64 [(1,a),(6,b)] [(0,(.ptr i 0))] [] s)
def CB:=hR f173 Di Gl R (pb 250) (ms 64 [(1,a),(6,b),(41,c),(42,d),(43,e)] [(0,(.ptr i 0))] [] s)
def gJ:TC R i a s =
 (ob (H5 s i) λc1=>ob (Bp c1 2) λi2=>og (AB false a&&true)<|ob (S9 s i2) λm3=>og (m3.1==false)<|ob (D7 .gtr ((Y1 m3.2 a).getD (iI 0)) (iI 0)) λx=>G9 x (ob (D7 .eql ((Y1 m3.2 a).getD (iI 0)) (iI 1)) λy=>some ([y],s)) (ob (H5 s i) λc6=>ob (Bp c6 1) λi7=>og (AB false a&&true)<|ob (S9 s i7) λm8=>og (m8.1==false)<|G9 (.bool (Y1 m8.2 a).isSome) (Fg R i a (iI 1) s) (Fg R i a (iI 2) s))):=H7 [8]
def aM:Fg R i a b s =
 (ob (H5 s i) λc1=>ob (X7 c1 0) λi2=>ob (H5 s i2) λc3=>ob (Ar c3 0 5) λv4=>ob (AC 0 v4.2.2 a) λn5=>ob (V3 s v4.1 v4.2.1) λa6=>ob (a6.2[n5]?) λx=>og (a6.1==5)<|ob (O3 (A9 3 x)) λy=>CB R i a b (A9 3 x) y (iI 0) s):=H7 [8]
def PH:CB R i a b c d e s =
 (ob (D7 .lss e d) λy=>G9 y (ob (M9 1 c e) λx=>og (M8 x)<|ob (H5 s i) λc3=>ob (X7 c3 0) λi4=>oc (R.r Q5 [(pt i4),(x,.val)] s) λq5 s5=>oc (R.r EZ [(pt i),(q5,.val)] s5) λq6 s6=>G9 q6 (ob (D7 .add e (iI 1)) λz=>CB R i a (iI 1) c d z s6) (ob (D7 .add e (iI 1)) λw=>CB R i a b c d w s6)) (ob (H5 s i) λc9=>ob (Bp c9 2) λi10=>og (AB false a&&true&&true)<|ob (S9 s i10) λm11=>og (m11.1==false)<|ob (D7 .eql b (iI 1)) λu=>some ([u],(s.set i10 (E5.map false (Bt m11.2 a b)))))):=L8 [8]
def cZ:C9.r EZ [(.undef,(.ptr i 0)),(a,.val)] s=TC C9 i a s:=Bb (s:=Di) func173
def UJ:=eR f174 Gt MS R [] (I4 f174 [(pt i),(a,.val)] s)
def B_:=hR f174 Gt MS R (pb 1018) (ms 95 [(5,a),(10,b),(57,c),(58,d),(59,e)] [(0,(.ptr i 0)),(10,.own)] [] s)
def jS:UJ R i a s =
 (ob (H5 s i) λc1=>ob (X7 c1 0) λi2=>oc (R.r Q5 [(pt i2),(a,.val)] s) λq3 s3=>ob (H5 s3 i) λc4=>ob (Bp c4 1) λi5=>og (AB false q3&&true)<|ob (S9 s3 i5) λm6=>og (m6.1==false)<|G9 (.bool (Y1 m6.2 q3).isSome) (some ([((Y1 m6.2 q3).getD (iI 0))],s3)) (oc (R.r EZ [(pt i),(q3,.val)] s3) λq7 s7=>ob (j5 .not q7) λy=>G9 y (some ([q3],s7)) (ob (H5 s7 i) λc9=>ob (Bp c9 3) λi10=>og (AB false q3&&true)<|ob (S9 s7 i10) λm11=>og (m11.1==false)<|G9 (.bool (Y1 m11.2 q3).isSome) (some ([((Y1 m11.2 q3).getD (iI 0))],s7)) (ob (H5 s7 i) λc12=>ob (X7 c12 0) λi13=>ob (H5 s7 i13) λc14=>ob (Ar c14 0 5) λv15=>ob (AC 0 v15.2.2 q3) λn16=>ob (V3 s7 v15.1 v15.2.1) λa17=>ob (a17.2[n16]?) λx=>og (a17.1==5)<|ob (O3 (A9 3 x)) λz=>
 B_ R i q3 (.list 1 []) (A9 3 x) z (iI 0) s7)))):=H7 []
def PE:B_ R i a b c d e s =
 (ob (D7 .lss e d) λz=>G9 z (ob (M9 1 c e) λx=>og (M8 x)<|oc (R.r Ij [(pt i),(x,.val)] s) λq3 s3=>og (J3 q3)<|ob (EP 1 b (.list 1 [q3])) λw=>ob (D7 .add e (iI 1)) λu=>B_ R i a w c d u s3) (ob (H5 s i) λc6=>ob (X7 c6 0) λi7=>ob (H5 s i) λc8=>ob (X7 c8 0) λi9=>ob (H5 s i9) λc10=>ob (Ar c10 0 5) λv11=>ob (AC 0 v11.2.2 a) λn12=>ob (V3 s v11.1 v11.2.1) λa13=>ob (a13.2[n12]?) λy=>og (a13.1==5)<|og (J3 (A9 0 y))<|oc (R.r BO [(pt i7),((.agg [(A9 0 y),(iI 0),(iI 0),b,(iI 0)]),.val)] s) λq15 s15=>ob (H5 s15 i) λc16=>ob (Bp c16 3) λi17=>og (AB false a&&true&&true)<|ob (S9 s15 i17) λm18=>og (m18.1==false)<|some ([q15],(s15.set i17 (E5.map false (Bt m18.2 a q15)))))):=L8 []
def gZ:C9.r Ij [(.undef,(.ptr i 0)),(a,.val)] s=UJ C9 i a s:=Bb (s:=Gt) func174
def Yb:=eR f175 Ol Xp R [] (I4 f175 [(pt i),(a,.val)] s)
def sH:Yb R i a s =
 (og (I7 5 a)<|ob (H5 s i) λc1=>ob (Ar c1 0 5) λv2=>ob (V3 s v2.1 v2.2.1) λa3=>og (a3.1==5&&true&&decide (v2.2.2<=a3.2.length))<|ob (Jy 5 (.list 5 (a3.2.take v2.2.2)) (.list 5 [(.agg [(A9 0 a),(A9 1 a),(.int .i64 (-1)),(A9 3 a),(A9 4 a)])])) λp4=>ob (H5 (s.set v2.1 (E5.P7 (v2.2.1+1) 5 (p4.1++p4.2))) i) λc5=>ob (c5[0]?) λu6=>ob (H5 ((s.set v2.1 (E5.P7 (v2.2.1+1) 5 (p4.1++p4.2))).set i (E5.box (c5.set 0 (.undef,(.P7 v2.1 (v2.2.1+1) 5 (p4.1.length+p4.2.length)))))) i) λc7=>ob (U7 c7 2) λy=>ob (D7 .add y (iI 1)) λx=>ob (H5 ((s.set v2.1 (E5.P7 (v2.2.1+1) 5 (p4.1++p4.2))).set i (E5.box (c5.set 0 (.undef,(.P7 v2.1 (v2.2.1+1) 5 (p4.1.length+p4.2.length)))))) i) λc10=>og (J3 x)<|ob (c10[2]?) λu11=>ob (H5 (((s.set v2.1 (E5.P7 (v2.2.1+1) 5 (p4.1++p4.2))).set i (E5.box (c5.set 0 (.undef,(.P7 v2.1 (v2.2.1+1) 5 (p4.1.length+p4.2.length)))))).set i (E5.box (c10.set 2 (x,.val)))) i) λc12=>ob (Ar c12 0 5) λv13=>ob (iH v13.2.2) λz=>ob (D7 .sub z (iI 1)) λw=>
 some ([w],(((s.set v2.1 (E5.P7 (v2.2.1+1) 5 (p4.1++p4.2))).set i (E5.box (c5.set 0 (.undef,(.P7 v2.1 (v2.2.1+1) 5 (p4.1.length+p4.2.length)))))).set i (E5.box (c10.set 2 (x,.val)))))):=H7 []
def qd:C9.r BO [(.undef,(.ptr i 0)),(a,.val)] s=Yb C9 i a s:=Bb (s:=Ol) func175
def rA:=eP f177 YK R [] (I4 f177 [(a,.val)] [])
def Ou:=eP f177 YK R (pb 430) (ms 28 [] [] [(1,bx a 16)] [])
def A3H:rA R a =
 (og (I7 16 a)<|ob (D7 .eql (A9 0 a) (iI 1)) λx=>G9 x sT (ob (D7 .eql (A9 0 a) (iI 2)) λy=>G9 y sT (ob (D7 .eql (A9 0 a) (iI 3)) λz=>G9 z sT (ob (D7 .eql (A9 0 a) (iI 4)) λw=>G9 w sT (ob (D7 .eql (A9 0 a) (iI 5)) λu=>G9 u sT (ob (D7 .eql (A9 0 a) (iI 7)) λv=>G9 v sT (ob (D7 .eql (A9 0 a) (iI 9)) λt=>G9 t sT (ob (D7 .eql (A9 0 a) (iI 6)) λs=>G9 s (Ou R a) (ob (D7 .eql (A9 0 a) (iI 8)) λr=>G9 r (Ou R a) sF))))))))):=H7 [12]
def yD:Ou R a =
 (ob (M9 16 (A9 15 a) (iI 0)) λx=>ob (R.p PW [(X4 x)]) λy=>M7 y (ob (M9 16 (A9 15 a) (iI 1)) λz=>ob (R.p PW [(X4 z)]) λw=>some w) sF none):=H7 [12]
def A1E:C9.p PW [a]=rA C9 a:=CG func177
def XU:=eR f178 JG Oc R [] (I4 f178 [(pt i),(a,.val)] s)
def Eb:=hR f178 JG Oc R (pb 122) (ms 35 [(5,a),(14,b),(15,c),(16,d)] [(0,(.ptr i 0)),(5,.own)] [] s)
def qU:XU R i a s =
 (oc (R.r Y3 [(pt i),(a,.val)] s) λq1 s1=>ob (j5 .not q1) λx=>G9 x (some ([(.list 1 [])],s1)) (oc (R.r Dy [(pt i),(a,.val)] s1) λq3 s3=>ob (O3 q3) λy=>Eb R i (.list 1 []) q3 y (iI 0) s3)):=H7 []
def Rq:Eb R i a b c d s =
 (ob (D7 .lss d c) λy=>G9 y (ob (M9 1 b d) λx=>og (M8 x)<|ob (H5 s i) λc3=>ob (Ar c3 0 5) λv4=>ob (AC 0 v4.2.2 x) λn5=>ob (V3 s v4.1 v4.2.1) λa6=>ob (a6.2[n5]?) λz=>og (a6.1==5)<|ob (D7 .eql (A9 0 z) (iI 6)) λw=>G9 w (og (J3 x)<|ob (EP 1 a (.list 1 [x])) λu=>ob (D7 .add d (iI 1)) λv=>Eb R i u b c v s) (ob (D7 .add d (iI 1)) λt=>Eb R i a b c t s)) (some ([a],s))):=L8 []
def mY:C9.r Ka [(.undef,(.ptr i 0)),(a,.val)] s=XU C9 i a s:=Bb (s:=JG) func178
def Ve:=eR f179 Mo Ul R [] (I4 f179 [(pt i),(a,.val)] s)
def lq:Ve R i a s =
 (oc (R.r Y5 [(pt i),(a,.val)] s) λq1 s1=>ob (D7 .neq q1 (iI 6)) λx=>G9 x (some ([(.int .i64 (-1))],s1)) (ob (H5 s1 i) λc3=>ob (Ar c3 0 5) λv4=>oc (R.r Q5 [(pt i),(a,.val)] s1) λq5 s5=>Mf (s5[i]?=s1[i]?)<|ob (AC 0 v4.2.2 q5) λn6=>ob (V3 s5 v4.1 v4.2.1) λa7=>ob (a7.2[n6]?) λy=>og (a7.1==5)<|some ([(A9 1 y)],s5))):=H7 []
def jg:C9.r Fv [(.undef,(.ptr i 0)),(a,.val)] s=Ve C9 i a s:=Bb (s:=Mo) func179
def dC:=eR f180 FV Jh R [] (I4 f180 [(pt i),(a,.val),(b,.val)] s)
def Ki:=eR f180 FV Jh R (pb 15) (ms 108 [(7,a)] [(0,(.ptr i 0))] [(4,bx b 7)] s)
def Kh:=eR f180 FV Jh R (pb 15102) (ms 108 [(2,a)] [(0,(.ptr i 0))] [(4,bx b 7)] s)
def Jw:=hR f180 FV Jh R (pb 122) (ms 108 [(7,a),(90,b),(91,c),(92,d)] [(0,(.ptr i 0))] [] s)
def yA:dC R i a b s =
 (og (I7 7 a)<|ob (D7 .eql (A9 0 a) (iI 1)) λy=>G9 y (some ([(iI 0)],s)) (ob (D7 .eql (A9 0 a) (iI 2)) λz=>G9 z (ob (H5 s i) λc3=>ob (Qi c3 2 1) λv4=>og (J3 (A9 3 a))<|ob (Rw s v4.2.1 v4.2.2 1 v4.1 (.list 1 [(A9 3 a)])) λp5=>ob (H5 p5.2 i) λc6=>ob (Qi c6 3 1) λv7=>Mf (p5.2[i]?=s[i]?)<|og (J3 b)<|ob (Rw p5.2 v7.2.1 v7.2.2 1 v7.1 (.list 1 [b])) λp8=>ob (H5 p8.2 i) λc9=>ob (c9[2]?) λu10=>ob (H5 (p8.2.set i (E5.box (c9.set 2 (p5.1,(.U2 v4.2.1 (v4.2.2+1) 1))))) i) λc11=>ob (c11[3]?) λu12=>some ([(iI 0)],((p8.2.set i (E5.box (c9.set 2 (p5.1,(.U2 v4.2.1 (v4.2.2+1) 1))))).set i (E5.box (c11.set 3 (p8.1,(.U2 v7.2.1 (v7.2.2+1) 1))))))) (ob (D7 .eql (A9 0 a) (iI 7)) λw=>G9 w (ob (R.r CS [(pt i),((TD a),.val),(b,.val),((iI 7),.val),((iI 2),.val)] s) λq14=>ob (Q3 0 (.J9 q14.1)) λu=>ob (Q3 1 (.J9 q14.1)) λm=>ob (Q3 2 (.J9 q14.1)) λx=>ob (D7 .neq x (iI 0)) λv=>G9 v (some ([x],q14.2)) (Ki R i u a q14.2)) (ob (D7 .eql (A9 0 a) (iI 8)) λt=>
 G9 t (Kh R i b a s) (ob (D7 .eql (A9 0 a) (iI 9)) λq=>G9 q (Kh R i b a s) (ob (R.p fT [(A9 0 a)]) λo=>ob (D7 .sub o (iI 1)) λn=>oc (R.r Lp [(pt i),((TD a),.val),(b,.val),(n,.val)] s) λq23 s23=>some ([q23],s23))))))):=H7 [16,20]
def qK:Ki R i a b s =
 (ob (O3 (A9 6 b)) λx=>Jw R i a (A9 6 b) x (iI 0) s):=H7 [16,20]
def qJ:Kh R i a b s =
 (ob (R.r CS [(pt i),((TD b),.val),(a,.val),((iI 8),.val),((iI 1),.val)] s) λq1=>ob (Q3 0 (.J9 q1.1)) λz=>ob (Q3 1 (.J9 q1.1)) λy=>ob (Q3 2 (.J9 q1.1)) λx=>ob (D7 .neq x (iI 0)) λw=>M7 w (some ([x],q1.2)) (ob (D7 .eql (A9 0 b) (iI 8)) λu=>G9 u (some ([x],q1.2)) (og (J3 y)<|ob (EP 1 z (.list 1 [y])) λv=>Ki R i v b q1.2)) none):=H7 [16,20]
def UW:Jw R i a b c d s =
 (ob (D7 .lss d c) λy=>G9 y (ob (M9 7 b d) λz=>ob (M9 1 a d) λx=>og (M8 x)<|oc (R.r Hw [(pt i),((TD z),.val),(x,.val)] s) λq4 s4=>ob (D7 .neq q4 (iI 0)) λw=>G9 w (some ([q4],s4)) (ob (D7 .add d (iI 1)) λu=>Jw R i a b c u s4)) (some ([(iI 0)],s))):=L8 [16,20]
def vX:C9.r Hw [(.undef,(.ptr i 0)),(a,.val),(b,.val)] s=dC C9 i a b s:=Bb (s:=FV) func180
def qy:=eP f181 YJ R [] (I4 f181 [(a,.val),(b,.val)] [])
def Ot:=hP f181 YJ R (pb 122) (ms 31 [(1,a),(5,b),(13,c),(14,d),(15,e)] [] [] [])
def A3B:qy R a b =
 (og (I7 3 a)<|ob (O3 (A9 2 a)) λx=>ob (D7 .eql x (iI 0)) λy=>G9 y (some (iI 0)) (ob (O3 (A9 2 a)) λz=>Ot R b (iI 1) (A9 2 a) z (iI 0))):=H7 []
def aN:Ot R a b c d e =
 (ob (D7 .lss e d) λx=>G9 x (ob (M9 3 c e) λy=>ob (D7 .gtr b a) λz=>G9 z (some b) (ob (D7 .sub a b) λw=>ob (R.p Tk [(Cv y),w]) λu=>ob (D7 .add b u) λv=>ob (D7 .add e (iI 1)) λt=>Ot R a v c d t)) (some b)):=L8 []
def A1B:C9.p Tk [a,b]=qy C9 a b:=CG func181
end
end Go.Su

/-
 Equations of the program's functions: by program.
-/
namespace Go.Su
set_option linter.defProp false
noncomputable section
open Go.Proofs
open Tryz
variable (R: O7)(i l m n: Nat)(a b c d e f g o p q r t u v w x y z a5 a8 a12 a14 a15 a16 a17 a22: DV)(s: List E5)
def Yc:=eR f182 KD Px R [] (I4 f182 [(pt i),(a,.val)] s)
def DU:=hR f182 KD Px R (pb 122) (ms 35 [(5,a),(16,b),(17,c),(18,d)] [(0,(.ptr i 0)),(5,.own)] [(3,bx e 3)] s)
def sI:Yc R i a s =
 (og (I7 3 a)<|ob (O3 (A9 2 a)) λx=>ob (D7 .eql x (iI 0)) λy=>G9 y (ob (D7 .sub (A9 0 a) (iI 1)) λz=>some ([z],s)) (ob (O3 (A9 2 a)) λw=>DU R i (.list 1 []) (A9 2 a) w (iI 0) a s)):=H7 []
def TI:DU R i a b c d e s =
 (ob (D7 .lss d c) λx=>G9 x (ob (M9 3 b d) λy=>oc (R.r Lr [(pt i),((Cv y),.val)] s) λq3 s3=>og (J3 q3)<|ob (EP 1 a (.list 1 [q3])) λz=>ob (D7 .add d (iI 1)) λw=>DU R i z b c w e s3) (og (J3 (A9 0 e))<|oc (R.r BO [(pt i),((.agg [(A9 0 e),(iI 0),(iI 0),a,(iI 0)]),.val)] s) λq6 s6=>some ([q6],s6))):=L8 []
def qf:C9.r Lr [(.undef,(.ptr i 0)),(a,.val)] s=Yc C9 i a s:=Bb (s:=KD) func182
def Vf:=eR f183 Mq Um R [] (I4 f183 [(pt i),(a,.val),(b,.val)] s)
def lu:Vf R i a b s =
 (oc (R.r Y3 [(pt i),(a,.val)] s) λq1 s1=>ob (j5 .not q1) λx=>M7 x (some ([(iI 1)],s1)) (ob (D7 .lss b (iI 0)) λy=>G9 y (some ([(iI 1)],s1)) (oc (R.r Jv [(pt i),(a,.val),(b,.val)] s1) λq4 s4=>some ([(iI 0)],s4))) none):=H7 []
def jh:C9.r Ju [(.undef,(.ptr i 0)),(a,.val),(b,.val)] s=Vf C9 i a b s:=Bb (s:=Mq) func183
def iR:=eR f184 Ng Uj R [] (I4 f184 [(pt i),(a,.val),(b,.val)] s)
def Dl(R:O7)(t0i:Nat)(t1 t2:DV)(t8r0 t8r1 t8r3:Nat)(t35 t36:DV)(sg:List E5):Option (List DV×List E5):=hR f184 Ng Uj R (pb 250) (ms 77 [(1,t1),(2,t2),(35,t35),(36,t36)] [(0,(.ptr t0i 0)),(8,(.P7 t8r0 t8r1 1 t8r3))] [] sg)
def A0g:iR R i a b s =
 (oc (R.r Y5 [(pt i),(b,.val)] s) λq1 s1=>ob (D7 .eql q1 (iI 6)) λx=>M7 x (oc (R.r EX [(pt i),(a,.val),(b,.val)] s1) λq3 s3=>some ([(.int .i64 (-1)),q3],s3)) (oc (R.r ND [(pt i),(b,.val)] s1) λq4 s4=>G9 q4 (oc (R.r EX [(pt i),(a,.val),(b,.val)] s4) λq5 s5=>some ([(.int .i64 (-1)),q5],s5)) (oc (R.r Ii [(pt i),(a,.val),(b,.val)] s4) λq6 s6=>G9 q6 (some ([(.int .i64 (-1)),(iI 5)],s6)) (oc (R.r C_ [(pt i),(b,.val)] (s6++[E5.P7 1 1 [(iI 0),(iI 0)]])) λq7 s7=>ob (O3 q7) λy=>Dl R i a b (s6.length) 1 2 y (iI 0) s7))) none):=H7 []
def Xk(R:O7)(t0i:Nat)(t1 t2:DV)(t8r0 t8r1 t8r3:Nat)(t35 t36:DV)(sg:List E5):Dl R t0i t1 t2 t8r0 t8r1 t8r3 t35 t36 sg =
 (ob (D7 .lss t36 t35) λt=>G9 t (oc (R.r Fv [(pt t0i),(t1,.val)] sg) λq2 s2=>ob (R.r Ia [(pt t0i),(q2,.val)] s2) λq3=>ob (Q3 0 (.J9 q3.1)) λx=>ob (Q3 1 (.J9 q3.1)) λy=>ob (D7 .neq y (iI 0)) λs=>G9 s (some ([(.int .i64 (-1)),y],q3.2)) (ob (AC 0 t8r3 t36) λn7=>ob (V3 q3.2 t8r0 t8r1) λa8=>ob (a8.2[n7]?) λq=>og (a8.1==1)<|og (J3 x)<|ob (KV 1 0 q [(x,.val)]) λe10=>ob (D7 .add t36 (iI 1)) λp=>Dl R t0i t1 t2 t8r0 t8r1 t8r3 t35 p (q3.2.set t8r0 (E5.P7 t8r1 1 (a8.2.set n7 e10))))) (oc (R.r Y5 [(pt t0i),(t2,.val)] sg) λq12 s12=>ob (AC 0 t8r3 (iI 0)) λn13=>ob (V3 s12 t8r0 t8r1) λa14=>ob (a14.2[n13]?) λz=>og (a14.1==1)<|og (M8 z)<|Mf (s12[t8r0]?=sg[t8r0]?)<|ob (AC 0 t8r3 (iI 1)) λn16=>ob (V3 s12 t8r0 t8r1) λa17=>ob (a17.2[n16]?) λw=>og (a17.1==1)<|og (M8 w)<|Mf (s12[t8r0]?=sg[t8r0]?)<|ob (R.r EY [(pt t0i),(q12,.val),(z,.val),(w,.val)] s12) λq19=>
 ob (Q3 0 (.J9 q19.1)) λu=>ob (Q3 1 (.J9 q19.1)) λv=>ob (D7 .neq v (iI 0)) λo=>G9 o (some ([(.int .i64 (-1)),v],q19.2)) (oc (R.r EX [(pt t0i),(t1,.val),(u,.val)] q19.2) λq23 s23=>some ([u,q23],s23)))):=L8 []
def yH:C9.r QV [(.undef,(.ptr i 0)),(a,.val),(b,.val)] s=iR C9 i a b s:=Bb (s:=Ng) func184
def wF:=eP f197 sS R [] (I4 f197 [(a,.val)] [])
def A4X:wF R a =
 (ob (D7 .geq a (.int .u8 48)) λx=>M7 x (ob (D7 .leq a (.int .u8 57)) λy=>some y) sF none):=H7 []
def A3R:C9.p fU [a]=wF C9 a:=CG func197
def oh:=eP f198 WR R [] (I4 f198 [(a,.val),(b,.val)] [])
def Jb:=hP f198 WR R (pb 58) (ms 23 [(1,a),(12,b),(13,c),(14,d)] [] [] [])
def A1x:oh R a b =
 (og (I7 3 a)<|ob (D7 .eql (A9 0 a) b) λx=>G9 x sF (ob (O3 (A9 2 a)) λy=>Jb R b (A9 2 a) y (iI 0))):=H7 []
def Yj:Jb R a b c d =
 (ob (D7 .lss d c) λx=>G9 x (ob (M9 3 b d) λy=>ob (R.p SG [(Cv y),a]) λz=>ob (j5 .not z) λw=>G9 w sF (ob (D7 .add d (iI 1)) λu=>Jb R a b c u)) sT):=L8 []
def A0u:C9.p SG [a,b]=oh C9 a b:=CG func198
def XV:=eR f201 JH Od R [] (I4 f201 [(pt i),(a,.val),(b,.own)] s)
def Hy:=hR f201 JH Od R (pb 506) (ms 61 [(2,a),(49,b),(50,c),(51,d)] [(0,(.ptr i 0)),(2,.own)] [] s)
def qV:XV R i a b s =
 (oc (R.r Q5 [(pt i),(a,.val)] s) λq1 s1=>ob (H5 s1 i) λc2=>ob (Ar c2 0 5) λv3=>ob (AC 0 v3.2.2 q1) λn4=>ob (V3 s1 v3.1 v3.2.1) λa5=>ob (a5.2[n4]?) λz=>og (a5.1==5)<|ob (H5 s1 i) λc7=>ob (U7 c7 3) λw=>ob (D7 .eql (A9 4 z) w) λu=>G9 u (some ([b],s1)) (ob (H5 s1 i) λc10=>ob (Ar c10 0 5) λv11=>ob (H5 s1 i) λc12=>ob (U7 c12 3) λx=>ob (AC 0 v11.2.2 q1) λn14=>ob (V3 s1 v11.1 v11.2.1) λa15=>ob (a15.2[n14]?) λv=>og (a15.1==5)<|og (J3 x)<|ob (KV 5 4 v [(x,.val)]) λe17=>og (J3 q1)<|ob (EP 1 b (.list 1 [q1])) λt=>ob (H5 (s1.set v11.1 (E5.P7 v11.2.1 5 (a15.2.set n14 e17))) i) λc19=>ob (Ar c19 0 5) λv20=>ob (AC 0 v20.2.2 q1) λn21=>ob (V3 (s1.set v11.1 (E5.P7 v11.2.1 5 (a15.2.set n14 e17))) v20.1 v20.2.1) λa22=>ob (a22.2[n21]?) λy=>og (a22.1==5)<|ob (O3 (A9 3 y)) λq=>Hy R i t (A9 3 y) q (iI 0) (s1.set v11.1 (E5.P7 v11.2.1 5 (a15.2.set n14 e17))))):=H7 []
def Rt:Hy R i a b c d s =
 (ob (D7 .lss d c) λy=>G9 y (ob (M9 1 b d) λx=>og (M8 x)<|oc (R.r Kc [(pt i),(x,.val),(a,.own)] s) λq3 s3=>ob (D7 .add d (iI 1)) λz=>Hy R i q3 b c z s3) (some ([a],s))):=L8 []
def mZ:C9.r Kc [(.undef,(.ptr i 0)),(a,.val),(b,.own)] s=XV C9 i a b s:=Bb (s:=JH) func201
def Zt:=eR f202 LJ RX R [] (I4 f202 [(pt i),(a,.val),(b,.val),(c,.val),(d,.val)] s)
def Ck:=hR f202 LJ RX R (pb 26) (ms 65 [(2,a),(3,b),(4,c),(10,d),(15,e),(16,f)] [(0,(.ptr i 0)),(10,.own)] [(6,bx g 7)] s)
def vT:Zt R i a b c d s =
 (og (I7 7 a)<|Ck R i b c d (.list 1 []) d (iI 0) a s):=H7 []
set_option maxRecDepth 100000 in
def UV:Ck R i a b c d e f g s =
 (ob (D7 .lss f e) λt=>G9 t (ob (H5 s i) λc2=>ob (X7 c2 0) λi3=>ob (H5 s i) λc4=>ob (U7 c4 1) λq=>ob (R.r Ia [(pt i3),(q,.val)] s) λq6=>ob (Q3 0 (.J9 q6.1)) λx=>ob (Q3 1 (.J9 q6.1)) λy=>ob (D7 .neq y (iI 0)) λp=>G9 p (some ([(.list 1 []),(iI 0),y],q6.2)) (og (J3 x)<|ob (EP 1 d (.list 1 [x])) λo=>ob (D7 .add f (iI 1)) λn=>Ck R i a b c o e n g q6.2)) (ob (H5 s i) λc12=>ob (X7 c12 0) λi13=>ob (M9 1 d (iI 0)) λz=>og (M8 z)<|ob (D7 .sub c (iI 1)) λm=>ob (M9 1 d m) λw=>og (M8 w)<|ob (R.r EY [(pt i13),(b,.val),(z,.val),(w,.val)] s) λq17=>ob (Q3 0 (.J9 q17.1)) λu=>ob (Q3 1 (.J9 q17.1)) λv=>ob (D7 .neq v (iI 0)) λl=>G9 l (some ([(.list 1 []),(iI 0),v],q17.2)) (oc (R.r Lp [(pt i),((TD g),.val),(a,.val),(u,.val)] q17.2) λq21 s21=>some ([d,u,q21],s21)))):=L8 []
def sO:C9.r CS [(.undef,(.ptr i 0)),(a,.val),(b,.val),(c,.val),(d,.val)] s=Zt C9 i a b c d s:=Bb (s:=LJ) func202
def YY:=eR f203 Oh Xm R [] (I4 f203 [(pt i),(a,.val),(b,.val),(c,.val)] s)
def r_:YY R i a b c s =
 (og (I7 7 a)<|ob (H5 s i) λc1=>ob (X7 c1 0) λi2=>ob (R.r SE [(pt i2),(b,.val),(c,.val)] s) λq3=>ob (Q3 0 (.J9 q3.1)) λy=>ob (Q3 1 (.J9 q3.1)) λz=>ob (Q3 2 (.J9 q3.1)) λx=>ob (D7 .neq x (iI 0)) λw=>M7 w (ob (D7 .neq x (iI 7)) λu=>G9 u (og (J3 x)<|og (J3 y)<|og (J3 z)<|ob (H5 q3.2 i) λc9=>if 4+6<=c9.length then(some ([x],(q3.2.set i (E5.box (Et c9 4 [((A9 1 a),.val),((A9 2 a),.val),(x,.val),(y,.val),(z,.val),((.str ⟨#[]⟩),.val)])))))else none) (some ([x],q3.2))) (some ([x],q3.2)) none):=H7 []
def qa:C9.r Lp [(.undef,(.ptr i 0)),(a,.val),(b,.val),(c,.val)] s=YY C9 i a b c s:=Bb (s:=Oh) func203
def wE:=eP f204 sQ R [] (I4 f204 [(a,.val)] [])
def A4W:wE R a =
 (ob (D7 .eql a (iI 3)) λx=>G9 x (some (iI 1)) (ob (D7 .eql a (iI 4)) λy=>G9 y (some (iI 2)) (ob (D7 .eql a (iI 5)) λz=>G9 z (some (iI 3)) (ob (D7 .eql a (iI 6)) λw=>G9 w (some (iI 4)) (ob (D7 .eql a (iI 8)) λu=>G9 u (some (iI 8)) (some (iI 0))))))):=H7 []
def A3Q:C9.p fT [a]=wE C9 a:=CG func204
def Vg:=eR f205 IQ NN R [] (I4 f205 [(pt i),(a,.val),(b,.val)] s)
def Gc:=hR f205 IQ NN R (pb 6) (ms 34 [(2,a),(10,b),(11,c),(12,d)] [(0,(.ptr i 0))] [] s)
def lw:Vg R i a b s =
 (oc (R.r Ka [(pt i),(a,.val)] s) λq1 s1=>ob (O3 q1) λx=>Gc R i b q1 x (iI 0) s1):=H7 []
def RI:Gc R i a b c d s =
 (ob (D7 .lss d c) λz=>G9 z (ob (M9 1 b d) λx=>og (M8 x)<|ob (H5 s i) λc3=>ob (Ar c3 0 5) λv4=>ob (H5 s i) λc5=>ob (Ar c5 0 5) λv6=>ob (AC 0 v6.2.2 x) λn7=>ob (V3 s v6.1 v6.2.1) λa8=>ob (a8.2[n7]?) λw=>og (a8.1==5)<|ob (aF (A9 1 w) a) λy=>ob (AC 0 v4.2.2 x) λn11=>ob (V3 s v4.1 v4.2.1) λa12=>ob (a12.2[n11]?) λu=>og (a12.1==5)<|og (J3 y)<|ob (KV 5 1 u [(y,.val)]) λe14=>ob (D7 .add d (iI 1)) λv=>Gc R i a b c v (s.set v4.1 (E5.P7 v4.2.1 5 (a12.2.set n11 e14)))) (some ([],s))):=L8 []
def ji:C9.r Jv [(.undef,(.ptr i 0)),(a,.val),(b,.val)] s=Vg C9 i a b s:=Bb (s:=IQ) func205
def UH:=eR f206 Lh TP R [] (I4 f206 [(pt i),(a,.val)] s)
def jQ:UH R i a s =
 (oc (R.r Y3 [(pt i),(a,.val)] s) λq1 s1=>M7 q1 (oc (R.r Dy [(pt i),(a,.val)] s1) λq2 s2=>ob (R.p CW [q2,(iI 4)]) λx=>ob (j5 .not x) λy=>some ([y],s2)) (some ([(.bool false)],s1)) none):=H7 []
def gX:C9.r ND [(.undef,(.ptr i 0)),(a,.val)] s=UH C9 i a s:=Bb (s:=Lh) func206
def Kj:=eR f207 Nj Vo R [] (I4 f207 [(pt i),(a,.val),(b,.val)] s)
set_option maxRecDepth 100000 in
def qO:Kj R i a b s =
 (oc (R.r Q5 [(pt i),(a,.val)] s) λq1 s1=>oc (R.r Q5 [(pt i),(b,.val)] s1) λq2 s2=>ob (D7 .lss q1 (iI 0)) λx=>M7 x (some ([(iI 1)],s2)) (ob (D7 .lss q2 (iI 0)) λy=>M7 y (some ([(iI 1)],s2)) (ob (H5 s2 i) λc5=>ob (Ar c5 0 5) λv6=>ob (AC 0 v6.2.2 q1) λn7=>ob (V3 s2 v6.1 v6.2.1) λa8=>ob (a8.2[n7]?) λz=>og (a8.1==5)<|ob (D7 .neq (A9 0 z) (iI 6)) λw=>M7 w (some ([(iI 1)],s2)) (ob (D7 .eql q1 q2) λu=>G9 u (some ([(iI 1)],s2)) (oc (R.r Ii [(pt i),(q1,.val),(q2,.val)] s2) λq12 s12=>G9 q12 (some ([(iI 5)],s12)) (ob (H5 s12 i) λc13=>ob (Ar c13 0 5) λv14=>ob (AC 0 v14.2.2 q1) λn15=>ob (V3 s12 v14.1 v14.2.1) λa16=>ob (a16.2[n15]?) λv=>og (a16.1==5)<|og (J3 q2)<|ob (KV 5 2 v [(q2,.val)]) λe18=>
 ob (H5 (s12.set v14.1 (E5.P7 v14.2.1 5 (a16.2.set n15 e18))) i) λc19=>ob (Ar c19 0 5) λv20=>ob (AC 0 v20.2.2 q1) λn21=>ob (V3 (s12.set v14.1 (E5.P7 v14.2.1 5 (a16.2.set n15 e18))) v20.1 v20.2.1) λa22=>ob (a22.2[n21]?) λt=>og (a22.1==5)<|oc (R.r Jv [(pt i),(q2,.val),((A9 1 t),.val)] (s12.set v14.1 (E5.P7 v14.2.1 5 (a16.2.set n15 e18)))) λq24 s24=>some ([(iI 0)],s24)))) none) none) none):=H7 []
def mU:C9.r EX [(.undef,(.ptr i 0)),(a,.val),(b,.val)] s=Kj C9 i a b s:=Bb (s:=Nj) func207
def UI:=eR f208 Li TQ R [] (I4 f208 [(pt i),(a,.val),(b,.val)] s)
def jR:UI R i a b s =
 (oc (R.r Y3 [(pt i),(a,.val)] s) λq1 s1=>M7 q1 (oc (R.r Y3 [(pt i),(b,.val)] s1) λq2 s2=>M7 q2 (oc (R.r Dy [(pt i),(b,.val)] s2) λq3 s3=>oc (R.r Q5 [(pt i),(a,.val)] s3) λq4 s4=>ob (R.p CW [q3,q4]) λx=>some ([x],s4)) (some ([(.bool false)],s2)) none) (some ([(.bool false)],s1)) none):=H7 []
def gY:C9.r Ii [(.undef,(.ptr i 0)),(a,.val),(b,.val)] s=UI C9 i a b s:=Bb (s:=Li) func208
def Nt:=eP f214 Mw R [] (I4 f214 [(a,.val),(b,.val)] [])
def Xi:Nt R a b =
 (ob (R.p KH [a,b]) λx=>ob (D7 .geq x (iI 0)) λy=>some y):=H7 []
def WN:C9.p CW [a,b]=Nt C9 a b:=CG func214
def Qz:=eP f215 Ji R [] (I4 f215 [(a,.val),(b,.val)] [])
def EI:=hP f215 Ji R (pb 26) (ms 19 [(0,a),(1,b),(7,c),(8,d)] [] [] [])
def aL:Qz R a b =
 (ob (O3 a) λx=>EI R a b x (iI 0)):=H7 []
def Mv:EI R a b c d =
 (ob (D7 .lss d c) λy=>G9 y (ob (M9 1 a d) λx=>og (M8 x)<|ob (D7 .eql b x) λz=>G9 z (some d) (ob (D7 .add d (iI 1)) λw=>EI R a b c w)) (some (.int .i64 (-1)))):=L8 []
def ZF:C9.p KH [a,b]=Qz C9 a b:=CG func215
end
end Go.Su

/-
 All equations.
-/
namespace Go.Su
end Go.Su
